import PyProof.Rows.All
import Wide.All
import OpenK.AllK
import Wide.FinOn
import HandS.ForMost
import HandS.Wide
import HandS.Deep
import HandS.IsInst
import HandS.TupAny
import HandS.Style
import HandS.Zip
import HandS.Flow
import KE.KDictPairs
import HandS.SortOrd
import HandS.SortRule
import PySem.Challenge.RW_offandon_k16_unseen_weights
set_option Elab.async false
set_option linter.all false
set_option maxRecDepth 100000
namespace OA
open PySem PySem.Spec PyProof.Rows L2

/-! ### data -/
inductive Dt where
  | non
  | bl (b : Bool)
  | int (i : Int)
  | str (x : Str)
  | tup (xs : List Dt)
  /-- the empty tuple, its object known -/
  | tup0
  /-- a pair just made by a walk -/
  | pr (xs : List Dt)
  | lst (xs : List Dt)
  | dK (kvs : List (Dt × Dt))
  | dT (kvs : List (Dt × Dt))
def isStr : Dt → Bool
  | .str _ => true
  | _ => false
mutual
def Dt.py : Dt → PyData
  | .non => .none
  | .bl b => .bool b
  | .int i => .int i
  | .str x => .str x
  | .tup xs => .tuple (Dt.pys xs)
  | .tup0 => .tuple []
  | .pr xs => .tuple (Dt.pys xs)
  | .lst xs => .list (Dt.pys xs)
  | .dK _ => .dict []
  | .dT _ => .dict []
def Dt.pys : List Dt → List PyData
  | [] => []
  | x :: xs => x.py :: Dt.pys xs
end
theorem Dt.pys_map : ∀ xs : List Dt, Dt.pys xs = xs.map Dt.py
  | [] => rfl
  | x :: xs => by rw [Dt.pys, Dt.pys_map xs, List.map_cons]

mutual
inductive Rp (K : PySem.W.Frag) (F : Hp) : V → Dt → Prop
  | non : Rp K F .non .non
  | bl (b : Bool) : Rp K F (.bl b) (.bl b)
  | int (i : Int) : Rp K F (.int i) (.int i)
  | str (x : Str) : Rp K F (.str x) (.str x)
  | lst {a : Addr} {xs : List V} {ds : List Dt} : F a = some (.lst xs) → Rps K F xs ds → Rp K F (.ref a) (.lst ds)
  | tupS {a : Addr} {xs : List V} {ds : List Dt} : ds.all isStr = true → F a = some (.tup xs) → Rps K F xs ds → Rp K F (.ref a) (.tup ds)
  | tupP {a : Addr} {ob : Obj} {xs : List V} {ds : List Dt} : ds.all isStr = false → F a = some (.frz ob (.tup xs)) → ob.dict = none → Rps K F xs ds → Rp K F (.ref a) (.tup ds)
  | tup0 {a : Addr} {ob : Obj} : F a = some (.frz ob (.tup [])) → ob.dict = none → Rp K F (.ref a) .tup0
  | pr {a : Addr} {xs : List V} {ds : List Dt} : F a = some (.tup xs) → Rps K F xs ds → Rp K F (.ref a) (.pr ds)
  | kt {a : Addr} {i j : Int} : (∀ H : Hp, SqT K H a [.int i, .int j]) → Rp K F (.ref a) (.tup [.int i, .int j])
  | dK {a : Addr} {ob : Obj} {kvs : List (Key × V)} {ds : List (Dt × Dt)} : F a = some (.frz ob (.dK kvs)) → RpK K F kvs ds → Rp K F (.ref a) (.dK ds)
  | dT {a : Addr} {ob : Obj} {kvs : List (List Key × V)} {ds : List (Dt × Dt)} : F a = some (.frz ob (.dT kvs)) → RpT K F kvs ds → Rp K F (.ref a) (.dT ds)
inductive Rps (K : PySem.W.Frag) (F : Hp) : List V → List Dt → Prop
  | nil : Rps K F [] []
  | cons {v : V} {vs : List V} {d : Dt} {ds : List Dt} : Rp K F v d → Rps K F vs ds → Rps K F (v :: vs) (d :: ds)
inductive RpK (K : PySem.W.Frag) (F : Hp) : List (Key × V) → List (Dt × Dt) → Prop
  | nil : RpK K F [] []
  | cons {k : Str} {v : V} {vs : List (Key × V)} {d : Dt} {ds : List (Dt × Dt)} : Rp K F v d → RpK K F vs ds → RpK K F ((.inr k, v) :: vs) ((.str k, d) :: ds)
inductive RpT (K : PySem.W.Frag) (F : Hp) : List (List Key × V) → List (Dt × Dt) → Prop
  | nil : RpT K F [] []
  | cons {k : List Str} {v : V} {vs : List (List Key × V)} {d : Dt} {ds : List (Dt × Dt)} : Rp K F v d → RpT K F vs ds → RpT K F ((k.map .inr, v) :: vs) ((.tup (k.map .str), d) :: ds)
end

/-! ### a heap kept -/
abbrev Ge (F F' : Hp) : Prop := ∀ a o, F a = some o → F' a = some o
theorem Ge.rfl' {F : Hp} : Ge F F := fun _ _ h => h
theorem Ge.trans {F G H : Hp} (h : Ge F G) (g : Ge G H) : Ge F H := fun a o e => g a o (h a o e)

mutual
theorem Rp.mono {K : PySem.W.Frag} {F G : Hp} (g : Ge F G) : ∀ {v : V} {d : Dt}, Rp K F v d → Rp K G v d
  | _, _, .non => .non
  | _, _, .bl b => .bl b
  | _, _, .int i => .int i
  | _, _, .str x => .str x
  | _, _, .lst e h => .lst (g _ _ e) (Rps.mono g h)
  | _, _, .tupS c e h => .tupS c (g _ _ e) (Rps.mono g h)
  | _, _, .tupP c e n h => .tupP c (g _ _ e) n (Rps.mono g h)
  | _, _, .tup0 e n => .tup0 (g _ _ e) n
  | _, _, .pr e h => .pr (g _ _ e) (Rps.mono g h)
  | _, _, .kt e => .kt e
  | _, _, .dK e h => .dK (g _ _ e) (RpK.mono g h)
  | _, _, .dT e h => .dT (g _ _ e) (RpT.mono g h)
theorem Rps.mono {K : PySem.W.Frag} {F G : Hp} (g : Ge F G) : ∀ {v : List V} {d : List Dt}, Rps K F v d → Rps K G v d
  | _, _, .nil => .nil
  | _, _, .cons h t => .cons (Rp.mono g h) (Rps.mono g t)
theorem RpK.mono {K : PySem.W.Frag} {F G : Hp} (g : Ge F G) : ∀ {v : List (Key × V)} {d : List (Dt × Dt)}, RpK K F v d → RpK K G v d
  | _, _, .nil => .nil
  | _, _, .cons h t => .cons (Rp.mono g h) (RpK.mono g t)
theorem RpT.mono {K : PySem.W.Frag} {F G : Hp} (g : Ge F G) : ∀ {v : List (List Key × V)} {d : List (Dt × Dt)}, RpT K F v d → RpT K G v d
  | _, _, .nil => .nil
  | _, _, .cons h t => .cons (Rp.mono g h) (RpT.mono g t)
end

theorem Rps.length {K : PySem.W.Frag} {F : Hp} : ∀ {vs : List V} {ds : List Dt}, Rps K F vs ds → vs.length = ds.length
  | _, _, .nil => rfl
  | _, _, .cons _ t => by simp [Rps.length t]
theorem Rps.get {K : PySem.W.Frag} {F : Hp} : ∀ {vs : List V} {ds : List Dt} {i : Nat} {d : Dt}, Rps K F vs ds → ds[i]? = some d → ∃ v, vs[i]? = some v ∧ Rp K F v d
  | _, _, _, _, .nil, h => by simp at h
  | _, _, 0, _, .cons h _, e => by simp at e; subst e; exact ⟨_, rfl, h⟩
  | _, _, i + 1, _, .cons _ t, e => by
    obtain ⟨v, h1, h2⟩ := Rps.get (i := i) t (by simpa using e)
    exact ⟨v, by simpa using h1, h2⟩
theorem Rps.append {K : PySem.W.Frag} {F : Hp} : ∀ {vs us : List V} {ds es : List Dt}, Rps K F vs ds → Rps K F us es → Rps K F (vs ++ us) (ds ++ es)
  | _, _, _, _, .nil, s => s
  | _, _, _, _, .cons h t, s => .cons h (Rps.append t s)
theorem Rps.take {K : PySem.W.Frag} {F : Hp} : ∀ {vs : List V} {ds : List Dt} (n : Nat), Rps K F vs ds → Rps K F (vs.take n) (ds.take n)
  | _, _, 0, _ => .nil
  | _, _, _ + 1, .nil => .nil
  | _, _, n + 1, .cons h t => .cons h (Rps.take n t)
theorem Rps.drop {K : PySem.W.Frag} {F : Hp} : ∀ {vs : List V} {ds : List Dt} (n : Nat), Rps K F vs ds → Rps K F (vs.drop n) (ds.drop n)
  | _, _, 0, h => h
  | _, _, _ + 1, .nil => .nil
  | _, _, n + 1, .cons _ t => Rps.drop n t
theorem Rps.reverse {K : PySem.W.Frag} {F : Hp} : ∀ {vs : List V} {ds : List Dt}, Rps K F vs ds → Rps K F vs.reverse ds.reverse
  | _, _, .nil => .nil
  | _, _, .cons h t => by
    rw [List.reverse_cons, List.reverse_cons]
    exact Rps.append (Rps.reverse t) (.cons h .nil)
theorem Rps.set {K : PySem.W.Frag} {F : Hp} {v : V} {d : Dt} (h : Rp K F v d) : ∀ {vs : List V} {ds : List Dt} (n : Nat), Rps K F vs ds → Rps K F (vs.set n v) (ds.set n d)
  | _, _, _, .nil => .nil
  | _, _, 0, .cons _ t => .cons h t
  | _, _, n + 1, .cons g t => .cons g (Rps.set h n t)

theorem RpT.len {K : PySem.W.Frag} {F : Hp} : ∀ {vs : List (List Key × V)} {ds : List (Dt × Dt)}, RpT K F vs ds → vs.length = ds.length
  | _, _, .nil => rfl
  | _, _, .cons _ t => by simp [RpT.len t]
theorem RpK.len {K : PySem.W.Frag} {F : Hp} : ∀ {vs : List (Key × V)} {ds : List (Dt × Dt)}, RpK K F vs ds → vs.length = ds.length
  | _, _, .nil => rfl
  | _, _, .cons _ t => by simp [RpK.len t]

/-! ### what a slot holds -/
inductive R where
  | d (x : Dt)
  | c (k : Nat)
  | s (ns : List Int)
/-- what stands in a cell -/
inductive SO where
  | lst (xs : List Dt)
  | dK (kvs : List (Dt × Dt))
  | dT (kvs : List (Dt × Dt))
  | gone
def SO.val : SO → Option Dt
  | .lst xs => some (.lst xs)
  | .dK kvs => some (.dK kvs)
  | .dT kvs => some (.dT kvs)
  | .gone => none
def get (S : List SO) : R → Option Dt
  | .d x => some x
  | .c k => (S[k]?).bind SO.val
  | .s _ => none

def RpR (K : PySem.W.Frag) (F : Hp) (A : List Addr) (v : V) : R → Prop
  | .d x => Rp K F v x
  | .c k => ∃ a, A[k]? = some a ∧ v = .ref a
  | .s ns => ∃ a, v = .ref a ∧ SqL K F a (ns.map V.int)
def CellR (K : PySem.W.Frag) (F H : Hp) (a : Addr) : SO → Prop
  | .lst ds => F a = none ∧ ∃ vs, H a = some (.lst vs) ∧ Rps K F vs ds
  | .dK ds => F a = none ∧ ∃ vs, H a = some (.dK vs) ∧ RpK K F vs ds
  | .dT ds => F a = none ∧ ∃ vs, H a = some (.dT vs) ∧ RpT K F vs ds
  | .gone => ∃ o, F a = some o ∧ H a = some o
structure HSt (K : PySem.W.Frag) (F : Hp) (A : List Addr) (H : Hp) (S : List SO) : Prop where
  sub : ∀ a o, F a = some o → H a = some o
  nd : A.Nodup
  cells : Paired (fun a o => CellR K F H a o) A S
structure Ext (F : Hp) (A : List Addr) (H F' : Hp) (A' : List Addr) (H' : Hp) : Prop where
  ge : Ge F F'
  pre : ∃ B, A' = A ++ B ∧ ∀ a ∈ B, H a = none
  frame : ∀ a o, H a = some o → a ∉ A → H' a = some o
  newF : ∀ a o, F' a = some o → F a = none → H a = none ∨ a ∈ A ∨ ∃ xs, H a = some (.tup xs)
  mon : ∀ a, H' a = none → H a = none
section
variable {K : PySem.W.Frag} {F F' F2 : Hp} {A A' A2 : List Addr} {H H' H2 : Hp} {S S' : List SO} {v : V} {r : R}
theorem Ext.rfl' : Ext F A H F A H := ⟨.rfl', ⟨[], by simp, by simp⟩, fun _ _ h _ => h, (fun a o h h' => by rw [h] at h'; cases h'), fun _ h => h⟩
theorem Ext.trans (x : Ext F A H F' A' H') (y : Ext F' A' H' F2 A2 H2) : Ext F A H F2 A2 H2 := by
  obtain ⟨B, eB, hB⟩ := x.pre
  obtain ⟨C, eC, hC⟩ := y.pre
  refine ⟨Ge.trans x.ge y.ge, ⟨B ++ C, by rw [eC, eB, List.append_assoc], fun a h => ?_⟩, fun a o h hA => ?_, fun a o h h' => ?_, fun a h => x.mon a (y.mon a h)⟩
  · rcases List.mem_append.mp h with h | h
    · exact hB a h
    · exact x.mon a (hC a h)
  · refine y.frame a o (x.frame a o h hA) ?_
    rw [eB]
    intro hm
    rcases List.mem_append.mp hm with hm | hm
    · exact hA hm
    · rw [hB a hm] at h; cases h
  · cases e : F' a with
    | some o' => exact x.newF a o' e h'
    | none =>
      rcases y.newF a o h e with h1 | h1 | ⟨xs, h1⟩
      · exact .inl (x.mon a h1)
      · rw [eB] at h1
        rcases List.mem_append.mp h1 with h1 | h1
        · exact .inr (.inl h1)
        · exact .inl (hB a h1)
      · by_cases hA : a ∈ A
        · exact .inr (.inl hA)
        · cases e2 : H a with
          | none => exact .inl rfl
          | some u =>
            have := x.frame a u e2 hA
            rw [h1] at this; cases this
            exact .inr (.inr ⟨xs, rfl⟩)
theorem SqL.mono {a : Addr} {xs : List V} (g : Ge F F') (h : SqL K F a xs) : SqL K F' a xs := by
  rcases h with (h | ⟨o, h⟩) | h
  · exact .inl (.inl (g _ _ h))
  · exact .inl (.inr ⟨o, g _ _ h⟩)
  · exact .inr h
theorem SqT.mono {a : Addr} {xs : List V} (g : Ge F F') (h : SqT K F a xs) : SqT K F' a xs := by
  rcases h with (h | ⟨o, h⟩) | h
  · exact .inl (.inl (g _ _ h))
  · exact .inl (.inr ⟨o, g _ _ h⟩)
  · exact .inr h
theorem RpR.mono (g : Ge F F') (p : ∃ B, A' = A ++ B) (h : RpR K F A v r) : RpR K F' A' v r := by
  cases r with
  | d x => exact Rp.mono g h
  | c k =>
    obtain ⟨a, e, ev⟩ := h
    obtain ⟨B, rfl⟩ := p
    exact ⟨a, by rw [List.getElem?_append_left (List.getElem?_eq_some_iff.mp e).1]; exact e, ev⟩
  | s ns =>
    obtain ⟨a, e, h⟩ := h
    exact ⟨a, e, SqL.mono g h⟩
theorem RpR.ext (x : Ext F A H F' A' H') (h : RpR K F A v r) : RpR K F' A' v r := h.mono x.ge (let ⟨B, e, _⟩ := x.pre; ⟨B, e⟩)
theorem CellR.mono {a : Addr} {o : SO} (g : Ge F F') (n : F a = none → F' a = none) (e : ∀ o, H a = some o → H' a = some o) (h : CellR K F H a o) : CellR K F' H' a o := by
  cases o with
  | lst ds => obtain ⟨h0, vs, h1, h2⟩ := h; exact ⟨n h0, vs, e _ h1, h2.mono g⟩
  | dK ds => obtain ⟨h0, vs, h1, h2⟩ := h; exact ⟨n h0, vs, e _ h1, h2.mono g⟩
  | dT ds => obtain ⟨h0, vs, h1, h2⟩ := h; exact ⟨n h0, vs, e _ h1, h2.mono g⟩
  | gone => obtain ⟨o, h1, h2⟩ := h; exact ⟨o, g _ _ h1, e _ h2⟩
theorem CellR.there {a : Addr} {o : SO} (h : CellR K F H a o) : ∃ u, H a = some u := by
  cases o with
  | lst ds => obtain ⟨h0, vs, h1, h2⟩ := h; exact ⟨_, h1⟩
  | dK ds => obtain ⟨h0, vs, h1, h2⟩ := h; exact ⟨_, h1⟩
  | dT ds => obtain ⟨h0, vs, h1, h2⟩ := h; exact ⟨_, h1⟩
  | gone => obtain ⟨o, h1, h2⟩ := h; exact ⟨o, h2⟩
theorem Paired.mem {α β : Type} {G : α → β → Prop} : ∀ {l : List α} {m : List β}, Paired G l m → ∀ a ∈ l, ∃ b, G a b
  | _, _, .nil, a, h => by simp at h
  | _, _, .cons r t, a, h => by
    rcases List.mem_cons.mp h with rfl | h
    · exact ⟨_, r⟩
    · exact Paired.mem t a h
theorem Paired.mapM {α β : Type} {F G : α → β → Prop} : ∀ {l₁ : List α} {l₂ : List β}, Paired F l₁ l₂ → (∀ a ∈ l₁, ∀ b, F a b → G a b) → Paired G l₁ l₂
  | _, _, .nil, _ => .nil
  | _, _, .cons r t, f => .cons (f _ List.mem_cons_self _ r) (Paired.mapM t fun a h => f a (List.mem_cons_of_mem _ h))
theorem Paired.getR {α β : Type} {G : α → β → Prop} : ∀ {l : List α} {m : List β} {i : Nat} {b : β}, Paired G l m → m[i]? = some b → ∃ a, l[i]? = some a ∧ G a b
  | _, _, _, _, .nil, h => by simp at h
  | _, _, 0, _, .cons r _, e => by simp at e; subst e; exact ⟨_, rfl, r⟩
  | _, _, i + 1, _, .cons _ t, e => by
    obtain ⟨v, h1, h2⟩ := Paired.getR (i := i) t (by simpa using e)
    exact ⟨v, by simpa using h1, h2⟩
theorem Paired.appendP {α β : Type} {G : α → β → Prop} : ∀ {l l' : List α} {m m' : List β}, Paired G l m → Paired G l' m' → Paired G (l ++ l') (m ++ m')
  | _, _, _, _, .nil, h => h
  | _, _, _, _, .cons r t, h => .cons r (Paired.appendP t h)
theorem HSt.there (h : HSt K F A H S) {a : Addr} (ha : a ∈ A) : ∃ u, H a = some u := by
  obtain ⟨o, ho⟩ := Paired.mem h.cells a ha
  exact ho.there
/-- a new object is laid and frozen -/
theorem HSt.lay {p : Addr} {o : HO} (h : HSt K F A H S) (n : H p = none) : HSt K (upd F p o) A (upd H p o) S ∧ Ext F A H (upd F p o) A (upd H p o) := by
  have nF : F p = none := by
    cases e : F p with
    | none => rfl
    | some u => rw [h.sub _ _ e] at n; cases n
  have g : Ge F (upd F p o) := fun a u e => by rw [upd_ne (ne_of_none e nF)]; exact e
  have kp : ∀ a u, H a = some u → upd H p o a = some u := fun a u e => by rw [upd_ne (ne_of_none e n)]; exact e
  have nA : ∀ a ∈ A, a ≠ p := fun a ha => by
    obtain ⟨u, e⟩ := h.there ha
    exact ne_of_none e n
  refine ⟨⟨fun a u e => ?_, h.nd, Paired.mapM h.cells fun a ha b r => r.mono g (fun e => by rw [upd_ne (nA a ha)]; exact e) (kp a)⟩, g, ⟨[], by simp, by simp⟩, fun a u e _ => kp a u e, fun a u e e' => ?_, fun a e => ?_⟩
  · by_cases hp : a = p
    · subst hp; rw [upd_same] at e ⊢; exact e
    · rw [upd_ne hp] at e ⊢; exact h.sub _ _ e
  · by_cases hp : a = p
    · subst hp; exact .inl n
    · rw [upd_ne hp] at e; rw [e] at e'; cases e'
  · by_cases hp : a = p
    · subst hp; exact n
    · rw [upd_ne hp] at e; exact e
end
end OA
namespace OA
open PySem PySem.Spec PyProof.Rows L2

theorem _root_.L2.PE.weak {X : Cx} {e : Expr} {t t' : TE} (h : PE X e t) (w : ∀ σ H Q, t' σ H Q → t σ H Q) : PE X e t' := ⟨fun pins s σ H Q I q => h.run pins s σ H Q I (w σ H Q q)⟩
theorem _root_.L2.PT.weak {X : Cx} {e : Expr} {t t' : TT} (h : PT X e t) (w : ∀ σ H Q, t' σ H Q → t σ H Q) : PT X e t' := ⟨fun pins s σ H Q I q => h.run pins s σ H Q I (w σ H Q q)⟩
theorem _root_.L2.PW.weak {X : Cx} {e : Expr} {t t' : TT} (h : PW X e t) (w : ∀ σ H Q, t' σ H Q → t σ H Q) : PW X e t' := ⟨fun wh pins s σ H Q I q => h.run wh pins s σ H Q I (w σ H Q q)⟩
theorem _root_.L2.PA.weak {X : Cx} {e : List Expr} {t t' : TA} (h : PA X e t) (w : ∀ σ H Q, t' σ H Q → t σ H Q) : PA X e t' := ⟨fun pos pins s σ H Q I q => h.run pos pins s σ H Q I (w σ H Q q)⟩
theorem _root_.L2.PS.weak {X : Cx} {e : Stmt} {t t' : TS} (h : PS X e t) (w : ∀ D σ H, t' D σ H → t D σ H) : PS X e t' := ⟨fun pins s σ H D I q => h.run pins s σ H D I (w D σ H q)⟩
theorem _root_.L2.PSs.weak {X : Cx} {e : List Stmt} {t t' : TS} (h : PSs X e t) (w : ∀ D σ H, t' D σ H → t D σ H) : PSs X e t' := ⟨fun pins s σ H D I q => h.run pins s σ H D I (w D σ H q)⟩

abbrev En := List (Option R)
abbrev Ss := List SO
abbrev Cd := En → Ss → Option (R × Ss)
abbrev CdL := En → Ss → Option (List R × Ss)
abbrev CdB := En → Ss → Option (Bool × Ss)
inductive Fl where
  | nx | ret (r : R) | bk | ct
abbrev CdS := En → Ss → Option (Fl × En × Ss)

def EnvR (K : PySem.W.Frag) (F : Hp) (A : List Addr) (σ : L2.St) (en : En) : Prop :=
  σ.length = en.length ∧ ∀ (i : Nat) (r : R), en[i]? = some (some r) → ∃ v, σ[i]? = some (some v) ∧ RpR K F A v r
section
variable {K : PySem.W.Frag} {F F' F2 : Hp} {A A' A2 : List Addr} {H H' H2 : Hp} {S S' : Ss} {v : V} {r : R} {σ : L2.St} {en : En}
theorem EnvR.ext (x : Ext F A H F' A' H') (h : EnvR K F A σ en) : EnvR K F' A' σ en := ⟨h.1, fun i r e => by
  obtain ⟨v, e1, h1⟩ := h.2 i r e
  exact ⟨v, e1, h1.ext x⟩⟩
theorem EnvR.set (h : EnvR K F A σ en) (i : Nat) (q : RpR K F A v r) : EnvR K F A (σ.set i (some v)) (en.set i (some r)) := ⟨by simp [h.1], fun j r' e => by
  by_cases hj : i = j
  · subst hj
    by_cases hl : i < en.length
    · rw [List.getElem?_set_self hl] at e
      cases e
      exact ⟨v, by rw [List.getElem?_set_self (by rw [h.1]; exact hl)], q⟩
    · rw [List.getElem?_eq_none (by simpa using hl)] at e; cases e
  · rw [List.getElem?_set_ne hj] at e ⊢
    exact h.2 j r' e⟩
def wipeE (en : En) : List Nat → En
  | [] => en
  | v :: vs => (wipeE en vs).set v none
theorem EnvR.none (h : EnvR K F A σ en) (i : Nat) : EnvR K F A (σ.set i none) (en.set i none) := ⟨by simp [h.1], fun j r' e => by
  by_cases hj : i = j
  · subst hj
    by_cases hl : i < en.length
    · rw [List.getElem?_set_self hl] at e; cases e
    · rw [List.getElem?_eq_none (by simpa using hl)] at e; cases e
  · rw [List.getElem?_set_ne hj] at e ⊢
    exact h.2 j r' e⟩
theorem EnvR.wipe (h : EnvR K F A σ en) : ∀ vs : List Nat, EnvR K F A (wipe σ vs) (wipeE en vs)
  | [] => h
  | v :: vs => (EnvR.wipe h vs).none v
end

def tE (K : PySem.W.Frag) (c : Cd) : TE := fun σ H Q => ∃ F A S en r S', HSt K F A H S ∧ EnvR K F A σ en ∧ c en S = some (r, S') ∧
  ∀ v H' F' A', HSt K F' A' H' S' → Ext F A H F' A' H' → RpR K F' A' v r → Q v H'
inductive RpRs (K : PySem.W.Frag) (F : Hp) (A : List Addr) : List V → List R → Prop
  | nil : RpRs K F A [] []
  | cons {v vs r rs} : RpR K F A v r → RpRs K F A vs rs → RpRs K F A (v :: vs) (r :: rs)
theorem RpRs.ext {K : PySem.W.Frag} {F F' : Hp} {A A' : List Addr} {H H' : Hp} (x : Ext F A H F' A' H') : ∀ {vs : List V} {rs : List R}, RpRs K F A vs rs → RpRs K F' A' vs rs
  | _, _, .nil => .nil
  | _, _, .cons h t => .cons (h.ext x) (RpRs.ext x t)
theorem RpRs.length {K : PySem.W.Frag} {F : Hp} {A : List Addr} : ∀ {vs : List V} {rs : List R}, RpRs K F A vs rs → vs.length = rs.length
  | _, _, .nil => rfl
  | _, _, .cons _ t => by simp [RpRs.length t]
def tEs (K : PySem.W.Frag) (c : CdL) : TA := fun σ H Q => ∃ F A S en r S', HSt K F A H S ∧ EnvR K F A σ en ∧ c en S = some (r, S') ∧
  ∀ v H' F' A', HSt K F' A' H' S' → Ext F A H F' A' H' → RpRs K F' A' v r → Q v H'
def tT (K : PySem.W.Frag) (c : CdB) : TT := fun σ H Q => ∃ F A S en r S', HSt K F A H S ∧ EnvR K F A σ en ∧ c en S = some (r, S') ∧
  ∀ H' F' A', HSt K F' A' H' S' → Ext F A H F' A' H' → Q r H'
def tS (K : PySem.W.Frag) (c : CdS) : TS := fun D σ H => ∃ F A S en fl en' S', HSt K F A H S ∧ EnvR K F A σ en ∧ c en S = some (fl, en', S') ∧
  match fl with
  | .nx => ∀ σ' H' F' A', HSt K F' A' H' S' → Ext F A H F' A' H' → EnvR K F' A' σ' en' → D.nx σ' H'
  | .ret r => ∀ v H' F' A', HSt K F' A' H' S' → Ext F A H F' A' H' → RpR K F' A' v r → D.rt v H'
  | .bk => ∀ σ' H' F' A', HSt K F' A' H' S' → Ext F A H F' A' H' → EnvR K F' A' σ' en' → D.bk σ' H'
  | .ct => ∀ σ' H' F' A', HSt K F' A' H' S' → Ext F A H F' A' H' → EnvR K F' A' σ' en' → D.ct σ' H'

section
variable {X : Cx} {e a b : Expr} {es : List Expr} {c ca cb : Cd} {cl : CdL} {pos : Pos}

/-! ### names, constants -/
def cVar (i : Nat) : Cd := fun en S => match en[i]? with
  | some (some r) => some (r, S)
  | _ => none
theorem oVar {i : Nat} (h : PE X e (tVar i)) : PE X e (tE X.K (cVar i)) := h.weak fun σ H Q ⟨F, A, S, en, r, S', hs, he, ec, k⟩ => by
  unfold cVar at ec
  split at ec
  · rename_i r' hr
    cases ec
    obtain ⟨v, e1, h1⟩ := he.2 _ _ hr
    exact ⟨v, e1, k v H F A hs .rfl' h1⟩
  · cases ec
def cK (d : Dt) : Cd := fun _ S => some (.d d, S)
theorem oK {v : V} {d : Dt} (h : PE X e (tC v)) (hd : ∀ F, Rp X.K F v d) : PE X e (tE X.K (cK d)) := h.weak fun σ H Q ⟨F, A, S, en, r, S', hs, he, ec, k⟩ => by
  cases ec
  exact k v H F A hs .rfl' (hd F)

/-! ### argument lists -/
def cNil : CdL := fun _ S => some ([], S)
def cCons (c : Cd) (cl : CdL) : CdL := fun en S => (c en S).bind fun p => (cl en p.2).map fun q => (p.1 :: q.1, q.2)
theorem oNil : PA X [] (tEs X.K cNil) := pa_nil.weak fun σ H Q ⟨F, A, S, en, r, S', hs, he, ec, k⟩ => by
  cases ec
  exact k [] H F A hs .rfl' .nil
theorem oCons (ha : PE X e (tE X.K c)) (hr : PA X es (tEs X.K cl)) (hs : starEach (e :: es) X.env = (false, eval e X.env) :: starEach es X.env := by rfl) : PA X (e :: es) (tEs X.K (cCons c cl)) :=
  (pa_cons ha hr hs).weak fun σ H Q ⟨F, A, S, en, r, S', hs, he, ec, k⟩ => by
    unfold cCons at ec
    obtain ⟨⟨r1, S1⟩, e1, ec⟩ := Option.bind_eq_some_iff.mp ec
    obtain ⟨⟨r2, S2⟩, e2, ec⟩ := Option.map_eq_some_iff.mp ec
    cases ec
    exact ⟨F, A, S, en, r1, S1, hs, he, e1, fun v H1 F1 A1 hs1 x1 p1 => ⟨F1, A1, S1, en, r2, S2, hs1, he.ext x1, e2, fun vs H2 F2 A2 hs2 x2 p2 => k (v :: vs) H2 F2 A2 hs2 (x1.trans x2) (.cons (p1.ext x2) p2)⟩⟩

/-- only data -/
def dats : List R → Option (List Dt)
  | [] => some []
  | .d x :: rs => (dats rs).map (x :: ·)
  | _ :: _ => none
theorem dats_rp {K : PySem.W.Frag} {F : Hp} {A : List Addr} : ∀ {vs : List V} {rs : List R} {ds : List Dt}, RpRs K F A vs rs → dats rs = some ds → Rps K F vs ds
  | _, _, _, .nil, h => by cases h; exact .nil
  | _, .d x :: _, _, .cons h t, e => by
    obtain ⟨ds', e1, e2⟩ := Option.map_eq_some_iff.mp e
    cases e2
    exact .cons h (dats_rp t e1)
  | _, .c _ :: _, _, .cons h t, e => by cases e
  | _, .s _ :: _, _, .cons h t, e => by cases e

def cTup (cl : CdL) : Cd := fun en S => (cl en S).bind fun p => (dats p.1).bind fun ds => if ds.length ≤ 1000 then some (.d (.tup ds), p.2) else none
def cLst (cl : CdL) : Cd := fun en S => (cl en S).bind fun p => (dats p.1).bind fun ds => if ds.length ≤ 1000 then some (.d (.lst ds), p.2) else none
theorem oLst (h : PA X es (tEs X.K cl)) : PE X (.List es pos) (tE X.K (cLst cl)) := (pe_lst h).weak fun σ H Q ⟨F, A, S, en, r, S', hs, he, ec, k⟩ => by
  unfold cLst at ec
  obtain ⟨⟨r1, S1⟩, e1, ec⟩ := Option.bind_eq_some_iff.mp ec
  obtain ⟨ds, e2, ec⟩ := Option.bind_eq_some_iff.mp ec
  split at ec
  · cases ec
    refine ⟨F, A, S, en, r1, S1, hs, he, e1, fun vs H1 F1 A1 hs1 x1 p1 => ?_⟩
    have p2 := dats_rp p1 e2
    refine ⟨Nat.le_of_lt (small1000 (by rw [p2.length]; assumption)), fun p np => ?_⟩
    obtain ⟨hs2, x2⟩ := hs1.lay (o := .lst vs) np
    exact k _ _ _ _ hs2 (x1.trans x2) (Rp.lst upd_same (p2.mono x2.ge))
  · cases ec
end

section
variable {K : PySem.W.Frag} {F F' F2 : Hp} {A A' A2 : List Addr} {H H' H2 : Hp} {S S' : Ss} {v : V} {r : R} {σ : L2.St} {en : En} {p : Addr}
/-- a new cell -/
theorem HSt.newCell {o : HO} {so : SO} (h : HSt K F A H S) (n : H p = none) (ho : CellR K F (upd H p o) p so) :
    HSt K F (A ++ [p]) (upd H p o) (S ++ [so]) ∧ Ext F A H F (A ++ [p]) (upd H p o) := by
  have kp : ∀ a u, H a = some u → upd H p o a = some u := fun a u e => by rw [upd_ne (ne_of_none e n)]; exact e
  have nA : p ∉ A := fun ha => by
    obtain ⟨u, e⟩ := h.there ha
    rw [n] at e; cases e
  refine ⟨⟨fun a u e => kp a u (h.sub _ _ e), ?_, Paired.appendP (Paired.mapM h.cells fun a ha b r => r.mono Ge.rfl' (fun e => e) (kp a)) (.cons ho .nil)⟩, Ge.rfl', ⟨[p], rfl, by simpa using n⟩, fun a u e _ => kp a u e, (fun a u e e' => by rw [e] at e'; cases e'), fun a e => ?_⟩
  · rw [List.nodup_append]
    exact ⟨h.nd, by simp, fun a ha b hb => by
      have : b = p := by simpa using hb
      subst this
      exact fun z => nA (z ▸ ha)⟩
  · by_cases hp : a = p
    · subst hp; exact n
    · rw [upd_ne hp] at e; exact e
theorem HSt.nF (h : HSt K F A H S) (n : H p = none) : F p = none := by
  cases e : F p with
  | none => rfl
  | some u => rw [h.sub _ _ e] at n; cases n
theorem HSt.len (h : HSt K F A H S) : A.length = S.length := Paired.length h.cells
/-- a cell is written -/
theorem HSt.put {k : Nat} {a : Addr} {o : HO} {so so' : SO} (h : HSt K F A H S) (ea : A[k]? = some a) (es : S[k]? = some so) (ng : so ≠ .gone) (ho : CellR K F (upd H a o) a so') :
    HSt K F A (upd H a o) (S.set k so') ∧ Ext F A H F A (upd H a o) := by
  have hm : a ∈ A := List.mem_of_getElem? ea
  obtain ⟨a', ea', hc⟩ := Paired.getR h.cells es
  rw [ea] at ea'; cases ea'
  have nF : F a = none := by
    cases so with
    | lst ds => exact hc.1
    | dK ds => exact hc.1
    | dT ds => exact hc.1
    | gone => exact absurd rfl ng
  have kp : ∀ b u, b ≠ a → H b = some u → upd H a o b = some u := fun b u hb e => by rw [upd_ne hb]; exact e
  refine ⟨⟨fun b u e => ?_, h.nd, ?_⟩, Ge.rfl', ⟨[], by simp, by simp⟩, fun b u e hb => kp b u (fun z => hb (z ▸ hm)) e, (fun b u e e' => by rw [e] at e'; cases e'), fun b e => ?_⟩
  · have hb : b ≠ a := fun z => by rw [z, nF] at e; cases e
    exact kp b u hb (h.sub _ _ e)
  · have gen : ∀ (A : List Addr) (S : Ss) (k : Nat), A.Nodup → Paired (fun a o => CellR K F H a o) A S → A[k]? = some a → Paired (fun b so => CellR K F (upd H a o) b so) A (S.set k so') := by
      intro A
      induction A with
      | nil => intro S k _ _ e; simp at e
      | cons b A ih =>
        intro S k nd pr e
        cases pr with
        | cons r t =>
          rw [List.nodup_cons] at nd
          cases k with
          | zero =>
            simp at e; subst e
            refine .cons ho (Paired.mapM t fun c hc so r => r.mono Ge.rfl' (fun e => e) fun u e => kp c u (fun z => nd.1 (z ▸ hc)) e)
          | succ k =>
            have e' : A[k]? = some a := by simpa using e
            refine .cons (r.mono Ge.rfl' (fun e => e) fun u e => kp b u (fun z => nd.1 (z ▸ List.mem_of_getElem? e')) e) (ih _ k nd.2 t e')
    exact gen A S k h.nd h.cells ea
  · by_cases hb : b = a
    · subst hb; rw [upd_same] at e; cases e
    · rw [upd_ne hb] at e; exact e
/-- a cell is frozen -/
theorem HSt.frz {k : Nat} {a : Addr} {o : HO} {so : SO} (h : HSt K F A H S) (ea : A[k]? = some a) (es : S[k]? = some so) (ng : so ≠ .gone) :
    HSt K (upd F a o) A (upd H a o) (S.set k .gone) ∧ Ext F A H (upd F a o) A (upd H a o) := by
  have hm : a ∈ A := List.mem_of_getElem? ea
  obtain ⟨a', ea', hc⟩ := Paired.getR h.cells es
  rw [ea] at ea'; cases ea'
  have nF : F a = none := by
    cases so with
    | lst ds => exact hc.1
    | dK ds => exact hc.1
    | dT ds => exact hc.1
    | gone => exact absurd rfl ng
  have kp : ∀ b u, b ≠ a → H b = some u → upd H a o b = some u := fun b u hb e => by rw [upd_ne hb]; exact e
  have g : Ge F (upd F a o) := fun b u e => by rw [upd_ne (ne_of_none e nF)]; exact e
  refine ⟨⟨fun b u e => ?_, h.nd, ?_⟩, g, ⟨[], by simp, by simp⟩, fun b u e hb => kp b u (fun z => hb (z ▸ hm)) e, fun b u e e' => ?_, fun b e => ?_⟩
  · by_cases hb : b = a
    · subst hb; rw [upd_same] at e ⊢; exact e
    · rw [upd_ne hb] at e ⊢; exact h.sub _ _ e
  · have gen : ∀ (A : List Addr) (S : Ss) (k : Nat), A.Nodup → Paired (fun a o => CellR K F H a o) A S → A[k]? = some a → Paired (fun b so => CellR K (upd F a o) (upd H a o) b so) A (S.set k .gone) := by
      intro A
      induction A with
      | nil => intro S k _ _ e; simp at e
      | cons b A ih =>
        intro S k nd pr e
        cases pr with
        | cons r t =>
          rw [List.nodup_cons] at nd
          cases k with
          | zero =>
            simp at e; subst e
            refine .cons ⟨o, upd_same, upd_same⟩ (Paired.mapM t fun c hc so r => have hcb : c ≠ b := fun z => nd.1 (z ▸ hc); r.mono g (fun e => by rw [upd_ne hcb]; exact e) fun u e => kp c u hcb e)
          | succ k =>
            have e' : A[k]? = some a := by simpa using e
            have hb : b ≠ a := fun z => nd.1 (z ▸ List.mem_of_getElem? e')
            refine .cons (r.mono g (fun e => by rw [upd_ne hb]; exact e) fun u e => kp b u hb e) (ih _ k nd.2 t e')
    exact gen A S k h.nd h.cells ea
  · by_cases hb : b = a
    · subst hb; exact .inr (.inl hm)
    · rw [upd_ne hb] at e; rw [e] at e'; cases e'
  · by_cases hb : b = a
    · subst hb; rw [upd_same] at e; cases e
    · rw [upd_ne hb] at e; exact e
/-- a list that may be read -/
theorem HSt.rdL {ds : List Dt} (h : HSt K F A H S) (q : RpR K F A v r) (g : get S r = some (.lst ds)) : ∃ a xs, v = .ref a ∧ H a = some (.lst xs) ∧ Rps K F xs ds := by
  cases r with
  | d x =>
    cases g
    cases q with
    | lst e t => exact ⟨_, _, rfl, h.sub _ _ e, t⟩
  | s ns => cases g
  | c k =>
    obtain ⟨a, ea, rfl⟩ := q
    obtain ⟨so, e1, e2⟩ := Option.bind_eq_some_iff.mp g
    obtain ⟨a', ea', hc⟩ := Paired.getR h.cells e1
    rw [ea] at ea'; cases ea'
    cases so with
    | lst ds' => cases e2; obtain ⟨_, vs, e3, t⟩ := hc; exact ⟨a, vs, rfl, e3, t⟩
    | dK ds => cases e2
    | dT ds => cases e2
    | gone => cases e2
/-- what is a tuple -/
def tupV : Dt → Option (List Dt)
  | .tup ds => some ds
  | .tup0 => some []
  | .pr ds => some ds
  | _ => none
theorem HSt.rdT {d : Dt} {ds : List Dt} (h : HSt K F A H S) (q : RpR K F A v r) (g : get S r = some d) (t : tupV d = some ds) : ∃ a xs, v = .ref a ∧ SqT K H a xs ∧ Rps K F xs ds := by
  cases r with
  | d x =>
    cases g
    cases q with
    | tupS _ e u => cases t; exact ⟨_, _, rfl, .inl (.inl (h.sub _ _ e)), u⟩
    | tupP _ e _ u => cases t; exact ⟨_, _, rfl, .inl (.inr ⟨_, h.sub _ _ e⟩), u⟩
    | tup0 e _ => cases t; exact ⟨_, _, rfl, .inl (.inr ⟨_, h.sub _ _ e⟩), .nil⟩
    | pr e u => cases t; exact ⟨_, _, rfl, .inl (.inl (h.sub _ _ e)), u⟩
    | kt e => cases t; exact ⟨_, _, rfl, e H, .cons (.int _) (.cons (.int _) .nil)⟩
    | _ => cases t
  | s ns => cases g
  | c k =>
    obtain ⟨so, e1, e2⟩ := Option.bind_eq_some_iff.mp g
    cases so <;> cases e2 <;> cases t
theorem HSt.rdI {i : Int} (q : RpR K F A v r) (g : get S r = some (.int i)) : v = .int i := by
  cases r with
  | d x => cases g; cases q; rfl
  | s ns => cases g
  | c k =>
    obtain ⟨so, e1, e2⟩ := Option.bind_eq_some_iff.mp g
    cases so <;> cases e2
theorem HSt.rdS {i : Str} (q : RpR K F A v r) (g : get S r = some (.str i)) : v = .str i := by
  cases r with
  | d x => cases g; cases q; rfl
  | s ns => cases g
  | c k =>
    obtain ⟨so, e1, e2⟩ := Option.bind_eq_some_iff.mp g
    cases so <;> cases e2
theorem HSt.rdB {i : Bool} (q : RpR K F A v r) (g : get S r = some (.bl i)) : v = .bl i := by
  cases r with
  | d x => cases g; cases q; rfl
  | s ns => cases g
  | c k =>
    obtain ⟨so, e1, e2⟩ := Option.bind_eq_some_iff.mp g
    cases so <;> cases e2
end

mutual
theorem Rp.dp {K : PySem.W.Frag} {F H : Hp} (sub : Ge F H) : ∀ {v : V} {d : Dt}, Rp K F v d → d.py.canLay0 = true → Dp K H v d.py
  | _, _, .non, _ => by unfold Dt.py; exact .non
  | _, _, .bl b, _ => by unfold Dt.py; exact .bl b
  | _, _, .int i, _ => by unfold Dt.py; exact .int i
  | _, _, .str x, _ => by unfold Dt.py; exact .str x
  | _, _, .lst e h, c => by unfold Dt.py at c ⊢; exact .lst (.inl (.inl (sub _ _ e))) (Rps.dp sub h (by simpa [PyData.canLay0] using c))
  | _, _, .tupS _ e h, c => by unfold Dt.py at c ⊢; exact .tup (.inl (.inl (sub _ _ e))) (Rps.dp sub h (by simpa [PyData.canLay0] using c))
  | _, _, .tupP _ e _ h, c => by unfold Dt.py at c ⊢; exact .tup (.inl (.inr ⟨_, sub _ _ e⟩)) (Rps.dp sub h (by simpa [PyData.canLay0] using c))
  | _, _, .tup0 e _, c => by unfold Dt.py; exact .tup (.inl (.inr ⟨_, sub _ _ e⟩)) .nil
  | _, _, .pr e h, c => by unfold Dt.py at c ⊢; exact .tup (.inl (.inl (sub _ _ e))) (Rps.dp sub h (by simpa [PyData.canLay0] using c))
  | _, _, .kt e, c => by simp only [Dt.py, Dt.pys]; exact .tup (e H) (.cons (.int _) (.cons (.int _) .nil))
  | _, _, .dK e h, c => by simp [Dt.py, PyData.canLay0] at c
  | _, _, .dT e h, c => by simp [Dt.py, PyData.canLay0] at c
theorem Rps.dp {K : PySem.W.Frag} {F H : Hp} (sub : Ge F H) : ∀ {v : List V} {d : List Dt}, Rps K F v d → PyData.canLayAll0 (Dt.pys d) = true → DpAll K H v (Dt.pys d)
  | _, _, .nil, _ => by unfold Dt.pys; exact .nil
  | _, _, .cons h t, c => by
    simp only [Dt.pys, PyData.canLayAll0, Bool.and_eq_true] at c
    unfold Dt.pys
    exact .cons (Rp.dp sub h c.1) (Rps.dp sub t c.2)
end
theorem HSt.dp {K : PySem.W.Frag} {F : Hp} {A : List Addr} {H : Hp} {S : Ss} {v : V} {r : R} {d : Dt} (h : HSt K F A H S) (q : RpR K F A v r) (g : get S r = some d) (c : SeqAt.shaped d.py = true) : Dp K H v d.py := by
  have cl := SeqAt.canLay_of_shaped c
  cases r with
  | d x => cases g; exact Rp.dp h.sub q cl
  | s ns => cases g
  | c k =>
    cases d with
    | lst ds =>
      obtain ⟨a, xs, rfl, e, t⟩ := h.rdL q g
      unfold Dt.py at cl ⊢
      exact .lst (.inl (.inl e)) (Rps.dp h.sub t (by simpa [PyData.canLay0] using cl))
    | _ =>
      obtain ⟨so, e1, e2⟩ := Option.bind_eq_some_iff.mp g
      cases so <;> first
        | (cases e2; done)
        | (cases e2; exact absurd cl (by simp [Dt.py, PyData.canLay0]))
        | (simp [PyData.canLay0] at cl; done)

/-! ### tuples -/
/-- a new tuple: its object is known, or it is tracked as one that may be a key -/
theorem _root_.L2.Inv.newTup {X : Cx} {pins : List (Addr × Obj)} {σ : L2.St} {H : Hp} {s : Shared} {xs : List V} {us : List Value} (I : Inv X pins σ H s) (r : Vals xs us) (hz : xs.length ≤ sizeLine) {o : HO} (ho : o = .tup xs ∨ o = .frz { cls := .type "tuple", data := .seq us.toArray } (.tup xs)) (t : Nat) :
    Inv X pins σ (upd H s.heap.objs.size o) { s with heap := s.heap.push { cls := .type "tuple", data := .seq us.toArray }, toks := t } := by
  have base : ∀ H', ObjOk X.prog X.w H' (s.heap.push { cls := .type "tuple", data := .seq us.toArray }) s.heap.objs.size (.tup xs) := fun H' => ⟨hz, us, r, ⟨_, Heap.get?_push_size _ rfl, rfl, _, rfl⟩⟩
  refine I.laid (t' := t) (fun b u e => Heap.get?_push_of_some _ e) (Nat.le_refl _) ?_
  rcases ho with rfl | rfl
  · exact base _
  · exact ⟨Heap.get?_push_size _ rfl, base _⟩
/-- what is asked at a new tuple -/
def newT (H : Hp) (xs : List V) (Q : VK) : Prop := ∀ (p : Addr) (ob : Obj), H p = none → ob.dict = none → ∃ o, (o = .tup xs ∨ o = .frz ob (.tup xs)) ∧ Q (.ref p) (upd H p o)
theorem newT_ok {K : PySem.W.Frag} {F : Hp} {A : List Addr} {H : Hp} {S : Ss} {xs : List V} {ds : List Dt} {Q : VK} (h : HSt K F A H S) (hx : Rps K F xs ds) (k : ∀ v H' F' A', HSt K F' A' H' S → Ext F A H F' A' H' → RpR K F' A' v (.d (.tup ds)) → Q v H') : newT H xs Q := fun p ob np nd => by
  cases c : ds.all isStr with
  | true =>
    obtain ⟨h2, x2⟩ := h.lay (o := .tup xs) np
    exact ⟨_, .inl rfl, k _ _ _ _ h2 x2 (Rp.tupS c upd_same (hx.mono x2.ge))⟩
  | false =>
    obtain ⟨h2, x2⟩ := h.lay (o := .frz ob (.tup xs)) np
    exact ⟨_, .inr rfl, k _ _ _ _ h2 x2 (Rp.tupP c upd_same nd (hx.mono x2.ge))⟩
theorem newT_ok0 {K : PySem.W.Frag} {F : Hp} {A : List Addr} {H : Hp} {S : Ss} {xs : List V} {Q : VK} (h : HSt K F A H S) (hx : Rps K F xs []) (k : ∀ v H' F' A', HSt K F' A' H' S → Ext F A H F' A' H' → RpR K F' A' v (.d .tup0) → Q v H') : newT H xs Q := fun p ob np nd => by
  cases hx
  obtain ⟨h2, x2⟩ := h.lay (o := .frz ob (.tup [])) np
  exact ⟨_, .inr rfl, k _ _ _ _ h2 x2 (Rp.tup0 upd_same nd)⟩
def tTupN (t : TA) : TE := fun σ H Q => t σ H fun xs H1 => xs.length ≤ sizeLine ∧ newT H1 xs Q
section
variable {X : Cx} {es : List Expr} {cl : CdL} {pos : Pos}
theorem pe_tupN {x1} {t : TA} (h : PA X es t) : PE X (.Tuple es x1 pos) (tTupN t) := by
  refine ⟨fun pins s σ H Q I hq => wpAny_Tuple_spliced (thn (h.run pos pins s σ H _ I hq) fun us s1 ⟨xs, H1, I1, r, z, q⟩ => ⟨by rw [← r.length]; exact z, ?_⟩)⟩
  obtain ⟨o, ho, q⟩ := q _ { cls := .type "tuple", data := .seq us.toArray } (I1.hok.fresh (Nat.le_refl _)) rfl
  exact ⟨.ref s1.heap.objs.size, _, I1.newTup r z ho s1.toks, rfl, q⟩
theorem oTup {k} (h : PA X es (tEs X.K cl)) : PE X (.Tuple es k pos) (tE X.K (cTup cl)) := (pe_tupN h).weak fun σ H Q ⟨F, A, S, en, r, S', hs, he, ec, k⟩ => by
  unfold cTup at ec
  obtain ⟨⟨r1, S1⟩, e1, ec⟩ := Option.bind_eq_some_iff.mp ec
  obtain ⟨ds, e2, ec⟩ := Option.bind_eq_some_iff.mp ec
  split at ec
  · cases ec
    refine ⟨F, A, S, en, r1, S1, hs, he, e1, fun vs H1 F1 A1 hs1 x1 p1 => ?_⟩
    have p2 := dats_rp p1 e2
    exact ⟨Nat.le_of_lt (small1000 (by rw [p2.length]; assumption)), newT_ok hs1 p2 fun v H2 F2 A2 hs2 x2 q => k v H2 F2 A2 hs2 (x1.trans x2) q⟩
  · cases ec
end
end OA
namespace OA
open PySem PySem.Spec PyProof.Rows L2

/-! ### operators by values -/
abbrev F2 := Ss → R → R → Option R
def OpOk (K : PySem.W.Frag) (r : R2) (f : F2) : Prop := ∀ F A H S x y rx ry z Q, HSt K F A H S → RpR K F A x rx → RpR K F A y ry → f S rx ry = some z →
  (∀ v H' F' A', HSt K F' A' H' S → Ext F A H F' A' H' → RpR K F' A' v z → Q v H') → r x y H Q
def cBin (f : F2) (ca cb : Cd) : Cd := fun en S => (ca en S).bind fun p => (cb en p.2).bind fun q => (f q.2 p.1 q.1).map fun z => (z, q.2)
section
variable {X : Cx} {e a b : Expr} {es : List Expr} {c ca cb cc : Cd} {cl : CdL} {pos : Pos} {r r' : R2} {f f' : F2} {op : Operator} {cop cop' : CmpOp}
theorem bin_ok (hr : OpOk X.K r f) {σ H Q} (h : tE X.K (cBin f ca cb) σ H Q) : tOp r (tE X.K ca) (tE X.K cb) σ H Q := by
  obtain ⟨F, A, S, en, z, S', hs, he, ec, k⟩ := h
  unfold cBin at ec
  obtain ⟨⟨r1, S1⟩, e1, ec⟩ := Option.bind_eq_some_iff.mp ec
  obtain ⟨⟨r2, S2⟩, e2, ec⟩ := Option.bind_eq_some_iff.mp ec
  obtain ⟨z', e3, ec⟩ := Option.map_eq_some_iff.mp ec
  cases ec
  exact ⟨F, A, S, en, r1, S1, hs, he, e1, fun v H1 F1 A1 hs1 x1 p1 => ⟨F1, A1, S1, en, r2, S2, hs1, he.ext x1, e2, fun u H2 F2 A2 hs2 x2 p2 =>
    hr F2 A2 H2 S2 v u r1 r2 z Q hs2 (p1.ext x2) p2 e3 fun w H3 F3 A3 hs3 x3 p3 => k w H3 F3 A3 hs3 ((x1.trans x2).trans x3) p3⟩⟩
theorem oBin (ho : OpR X (binaryOp op) r) (hr : OpOk X.K r f) (ha : PE X a (tE X.K ca)) (hb : PE X b (tE X.K cb)) : PE X (.BinOp a op b pos) (tE X.K (cBin f ca cb)) :=
  (pe_op ho ha hb).weak fun _ _ _ h => bin_ok hr h
theorem oCmp (ho : OpR X (compareOp cop) r) (hr : OpOk X.K r f) (ha : PE X a (tE X.K ca)) (hb : PE X b (tE X.K cb)) (hm : behindInMarks cop b = false) : PE X (.Compare a [cop] [b] pos) (tE X.K (cBin f ca cb)) :=
  (pe_cmpR ho ha hb hm).weak fun _ _ _ h => bin_ok hr h
/-- a value that is a bool -/
def asB (p : R × Ss) : Option (Bool × Ss) := match p.1 with
  | .d (.bl b) => some (b, p.2)
  | _ => none
def cTst (c : Cd) : CdB := fun en S => (c en S).bind asB
theorem tst_ok {K : PySem.W.Frag} {σ H Q} (h : tT K (cTst c) σ H Q) : tE K c σ H fun x H' => ∃ k, x = .bl k ∧ Q k H' := by
  obtain ⟨F, A, S, en, z, S', hs, he, ec, k⟩ := h
  obtain ⟨⟨r1, S1⟩, e1, ec⟩ := Option.bind_eq_some_iff.mp ec
  unfold asB at ec
  split at ec
  · rename_i b hb
    cases ec
    refine ⟨F, A, S, en, r1, S1, hs, he, e1, fun v H1 F1 A1 hs1 x1 p1 => ?_⟩
    have hb' : r1 = .d (.bl z) := hb
    subst hb'
    cases p1
    exact ⟨z, rfl, k H1 F1 A1 hs1 x1⟩
  · cases ec
theorem qCmp (ho : OpR X (compareOp cop) r) (hr : OpOk X.K r f) (ha : PE X a (tE X.K ca)) (hb : PE X b (tE X.K cb)) (hm : behindInMarks cop b = false) : PT X (.Compare a [cop] [b] pos) (tT X.K (cTst (cBin f ca cb))) :=
  (pt_cmpR ho ha hb hm).weak fun _ _ _ h => bin_ok hr (tst_ok h)
theorem qVal (h : PE X e (tE X.K c)) (he : ∀ whole, isTrue e X.env whole = (do let v ← whole; standAt e.pos; holding [v] (truthy v)) := by intro _; rfl) : PT X e (tT X.K (cTst c)) :=
  (pt_val h he).weak fun _ _ _ h => tst_ok h
/-- a < b < c -/
def cChain (f f' : F2) (ca cb cc : Cd) : Cd := fun en S => (ca en S).bind fun p => (cb en p.2).bind fun q => (f q.2 p.1 q.1).bind fun z => match z with
  | .d (.bl true) => (cc en q.2).bind fun w => (f' w.2 q.1 w.1).map fun z => (z, w.2)
  | .d (.bl false) => some (.d (.bl false), q.2)
  | _ => none
theorem chain_ok (hr : OpOk X.K r f) (hr' : OpOk X.K r' f') {σ H Q} (h : tE X.K (cChain f f' ca cb cc) σ H Q) : tChain r r' (tE X.K ca) (tE X.K cb) (tE X.K cc) σ H Q := by
  obtain ⟨F, A, S, en, z, S', hs, he, ec, k⟩ := h
  unfold cChain at ec
  obtain ⟨⟨r1, S1⟩, e1, ec⟩ := Option.bind_eq_some_iff.mp ec
  obtain ⟨⟨r2, S2⟩, e2, ec⟩ := Option.bind_eq_some_iff.mp ec
  obtain ⟨z', e3, ec⟩ := Option.bind_eq_some_iff.mp ec
  refine ⟨F, A, S, en, r1, S1, hs, he, e1, fun v H1 F1 A1 hs1 x1 p1 => ⟨F1, A1, S1, en, r2, S2, hs1, he.ext x1, e2, fun u H2 F2 A2 hs2 x2 p2 =>
    hr F2 A2 H2 S2 v u r1 r2 z' _ hs2 (p1.ext x2) p2 e3 fun w H3 F3 A3 hs3 x3 p3 => ?_⟩⟩
  split at ec
  · cases p3
    refine ⟨true, rfl, ?_⟩
    rw [if_pos rfl]
    obtain ⟨⟨r4, S4⟩, e4, ec⟩ := Option.bind_eq_some_iff.mp ec
    obtain ⟨z5, e5, ec⟩ := Option.map_eq_some_iff.mp ec
    cases ec
    exact ⟨F3, A3, S2, en, r4, S4, hs3, ((he.ext x1).ext x2).ext x3, e4, fun u4 H4 F4 A4 hs4 x4 p4 => hr' F4 A4 H4 S4 u u4 r2 r4 z Q hs4 ((p2.ext x3).ext x4) p4 e5 fun w5 H5 F5 A5 hs5 x5 p5 =>
      k w5 H5 F5 A5 hs5 ((((x1.trans x2).trans x3).trans x4).trans x5) p5⟩
  · cases ec
    cases p3
    refine ⟨false, rfl, ?_⟩
    rw [if_neg Bool.false_ne_true]
    exact k _ H3 F3 A3 hs3 ((x1.trans x2).trans x3) (.bl false)
  · cases ec
theorem oChain (ho : OpR X (compareOp cop) r) (hr : OpOk X.K r f) (ho' : OpR X (compareOp cop') r') (hr' : OpOk X.K r' f') (ha : PE X a (tE X.K ca)) (hb : PE X b (tE X.K cb)) {d : Expr} (hc : PE X d (tE X.K cc))
    (hm : lastMarks [cop, cop'] [b, d] = false := by with_unfolding_all rfl) : PE X (.Compare a [cop, cop'] [b, d] pos) (tE X.K (cChain f f' ca cb cc)) :=
  (pe_chain ho ho' ha hb hc hm).weak fun _ _ _ h => chain_ok hr hr' h
theorem qChain (ho : OpR X (compareOp cop) r) (hr : OpOk X.K r f) (ho' : OpR X (compareOp cop') r') (hr' : OpOk X.K r' f') (ha : PE X a (tE X.K ca)) (hb : PE X b (tE X.K cb)) {d : Expr} (hc : PE X d (tE X.K cc))
    (hm : lastMarks [cop, cop'] [b, d] = false := by with_unfolding_all rfl) : PT X (.Compare a [cop, cop'] [b, d] pos) (tT X.K (cTst (cChain f f' ca cb cc))) :=
  (pt_chain ho ho' ha hb hc hm).weak fun _ _ _ h => chain_ok hr hr' (tst_ok h)

/-! ### and, or, not, if -/
def cAnd (ca cb : Cd) : Cd := fun en S => (ca en S).bind fun p => match p.1 with
  | .d (.bl true) => cb en p.2
  | .d (.bl false) => some (.d (.bl false), p.2)
  | _ => none
def cOr (ca cb : Cd) : Cd := fun en S => (ca en S).bind fun p => match p.1 with
  | .d (.bl false) => cb en p.2
  | .d (.bl true) => some (.d (.bl true), p.2)
  | _ => none
def cNot (ca : Cd) : Cd := fun en S => (ca en S).bind fun p => match p.1 with
  | .d (.bl b) => some (.d (.bl !b), p.2)
  | _ => none
def qqAnd (ca cb : CdB) : CdB := fun en S => (ca en S).bind fun p => if p.1 = true then cb en p.2 else some (false, p.2)
def qqOr (ca cb : CdB) : CdB := fun en S => (ca en S).bind fun p => if p.1 = true then some (true, p.2) else cb en p.2
def qqNot (ca : CdB) : CdB := fun en S => (ca en S).map fun p => (!p.1, p.2)
variable {rest : List Expr} {ka kb : CdB}
theorem oOne {o} (h : PE X a (tE X.K ca)) : PE X (.BoolOp o [a] pos) (tE X.K ca) := pe_one h
theorem oAnd (ha : PE X a (tE X.K ca)) (hb : PE X (.BoolOp .And (b :: rest) pos) (tE X.K cb)) : PE X (.BoolOp .And (a :: b :: rest) pos) (tE X.K (cAnd ca cb)) :=
  (pe_and ha hb).weak fun σ H Q ⟨F, A, S, en, z, S', hs, he, ec, k⟩ => by
    unfold cAnd at ec
    obtain ⟨⟨r1, S1⟩, e1, ec⟩ := Option.bind_eq_some_iff.mp ec
    refine ⟨F, A, S, en, r1, S1, hs, he, e1, fun v H1 F1 A1 hs1 x1 p1 => ?_⟩
    split at ec
    · rename_i hb; simp only at hb; subst hb; cases p1
      refine ⟨true, rfl, ?_⟩
      rw [if_pos rfl]
      exact ⟨F1, A1, S1, en, z, S', hs1, he.ext x1, ec, fun u H2 F2 A2 hs2 x2 p2 => k u H2 F2 A2 hs2 (x1.trans x2) p2⟩
    · rename_i hb; simp only at hb; subst hb; cases p1; cases ec
      refine ⟨false, rfl, ?_⟩
      rw [if_neg Bool.false_ne_true]
      exact k _ H1 F1 A1 hs1 x1 (.bl false)
    · cases ec
theorem oOr (ha : PE X a (tE X.K ca)) (hb : PE X (.BoolOp .Or (b :: rest) pos) (tE X.K cb)) : PE X (.BoolOp .Or (a :: b :: rest) pos) (tE X.K (cOr ca cb)) :=
  (pe_or ha hb).weak fun σ H Q ⟨F, A, S, en, z, S', hs, he, ec, k⟩ => by
    unfold cOr at ec
    obtain ⟨⟨r1, S1⟩, e1, ec⟩ := Option.bind_eq_some_iff.mp ec
    refine ⟨F, A, S, en, r1, S1, hs, he, e1, fun v H1 F1 A1 hs1 x1 p1 => ?_⟩
    split at ec
    · rename_i hb; simp only at hb; subst hb; cases p1
      refine ⟨false, rfl, ?_⟩
      rw [if_neg Bool.false_ne_true]
      exact ⟨F1, A1, S1, en, z, S', hs1, he.ext x1, ec, fun u H2 F2 A2 hs2 x2 p2 => k u H2 F2 A2 hs2 (x1.trans x2) p2⟩
    · rename_i hb; simp only at hb; subst hb; cases p1; cases ec
      refine ⟨true, rfl, ?_⟩
      rw [if_pos rfl]
      exact k _ H1 F1 A1 hs1 x1 (.bl true)
    · cases ec
theorem oNot (ha : PE X a (tE X.K ca)) : PE X (.UnaryOp .Not a pos) (tE X.K (cNot ca)) :=
  (pe_not ha).weak fun σ H Q ⟨F, A, S, en, z, S', hs, he, ec, k⟩ => by
    unfold cNot at ec
    obtain ⟨⟨r1, S1⟩, e1, ec⟩ := Option.bind_eq_some_iff.mp ec
    refine ⟨F, A, S, en, r1, S1, hs, he, e1, fun v H1 F1 A1 hs1 x1 p1 => ?_⟩
    split at ec
    · rename_i hb; simp only at hb; subst hb; cases p1; cases ec
      exact ⟨_, rfl, k _ H1 F1 A1 hs1 x1 (.bl _)⟩
    · cases ec
theorem qOne1 (h : PT X a (tT X.K ka)) : PW X (.BoolOp .And [a] pos) (tT X.K ka) := pw_and1 h
theorem qOne2 (h : PT X a (tT X.K ka)) : PW X (.BoolOp .Or [a] pos) (tT X.K ka) := pw_or1 h
theorem qAnd (ha : PT X a (tT X.K ka)) (hb : PW X (.BoolOp .And (b :: rest) pos) (tT X.K kb)) : PW X (.BoolOp .And (a :: b :: rest) pos) (tT X.K (qqAnd ka kb)) :=
  (pw_and ha hb).weak fun σ H Q ⟨F, A, S, en, z, S', hs, he, ec, k⟩ => by
    unfold qqAnd at ec
    obtain ⟨⟨r1, S1⟩, e1, ec⟩ := Option.bind_eq_some_iff.mp ec
    refine ⟨F, A, S, en, r1, S1, hs, he, e1, fun H1 F1 A1 hs1 x1 => ?_⟩
    cases r1 with
    | true => exact ⟨F1, A1, S1, en, z, S', hs1, he.ext x1, ec, fun H2 F2 A2 hs2 x2 => k H2 F2 A2 hs2 (x1.trans x2)⟩
    | false => cases ec; exact k H1 F1 A1 hs1 x1
theorem qOr (ha : PT X a (tT X.K ka)) (hb : PW X (.BoolOp .Or (b :: rest) pos) (tT X.K kb)) : PW X (.BoolOp .Or (a :: b :: rest) pos) (tT X.K (qqOr ka kb)) :=
  (pw_or ha hb).weak fun σ H Q ⟨F, A, S, en, z, S', hs, he, ec, k⟩ => by
    unfold qqOr at ec
    obtain ⟨⟨r1, S1⟩, e1, ec⟩ := Option.bind_eq_some_iff.mp ec
    refine ⟨F, A, S, en, r1, S1, hs, he, e1, fun H1 F1 A1 hs1 x1 => ?_⟩
    cases r1 with
    | false => exact ⟨F1, A1, S1, en, z, S', hs1, he.ext x1, ec, fun H2 F2 A2 hs2 x2 => k H2 F2 A2 hs2 (x1.trans x2)⟩
    | true => cases ec; exact k H1 F1 A1 hs1 x1
theorem qNot (ha : PT X a (tT X.K ka)) : PT X (.UnaryOp .Not a pos) (tT X.K (qqNot ka)) :=
  (pt_not ha).weak fun σ H Q ⟨F, A, S, en, z, S', hs, he, ec, k⟩ => by
    unfold qqNot at ec
    obtain ⟨⟨r1, S1⟩, e1, ec⟩ := Option.map_eq_some_iff.mp ec
    cases ec
    exact ⟨F, A, S, en, r1, S1, hs, he, e1, fun H1 F1 A1 hs1 x1 => k H1 F1 A1 hs1 x1⟩
def cIf (t : CdB) (ca cb : Cd) : Cd := fun en S => (t en S).bind fun p => if p.1 = true then ca en p.2 else cb en p.2
theorem oIf {t : Expr} (ht : PT X t (tT X.K ka)) (ha : PE X a (tE X.K ca)) (hb : PE X b (tE X.K cb)) : PE X (.IfExp t a b pos) (tE X.K (cIf ka ca cb)) :=
  (pe_ifExp ht ha hb).weak fun σ H Q ⟨F, A, S, en, z, S', hs, he, ec, k⟩ => by
    unfold cIf at ec
    obtain ⟨⟨r1, S1⟩, e1, ec⟩ := Option.bind_eq_some_iff.mp ec
    refine ⟨F, A, S, en, r1, S1, hs, he, e1, fun H1 F1 A1 hs1 x1 => ?_⟩
    cases r1 with
    | true => exact ⟨F1, A1, S1, en, z, S', hs1, he.ext x1, ec, fun v H2 F2 A2 hs2 x2 => k v H2 F2 A2 hs2 (x1.trans x2)⟩
    | false => exact ⟨F1, A1, S1, en, z, S', hs1, he.ext x1, ec, fun v H2 F2 A2 hs2 x2 => k v H2 F2 A2 hs2 (x1.trans x2)⟩

/-! ### calls by values -/
abbrev FL := Ss → List R → Option R
def CallOk (K : PySem.W.Frag) (r : List V → Hp → VK → Prop) (f : FL) : Prop := ∀ F A H S xs rs z Q, HSt K F A H S → RpRs K F A xs rs → f S rs = some z →
  (∀ v H' F' A', HSt K F' A' H' S → Ext F A H F' A' H' → RpR K F' A' v z → Q v H') → r xs H Q
def cApp (f : FL) (cl : CdL) : Cd := fun en S => (cl en S).bind fun p => (f p.2 p.1).map fun z => (z, p.2)
variable {rr : List V → Hp → VK → Prop} {ff : FL} {id T : String} {x : Str} {p : Pos}
theorem app_ok (hr : CallOk X.K rr ff) {σ H Q} (h : tE X.K (cApp ff cl) σ H Q) : tCB rr (tEs X.K cl) σ H Q := by
  obtain ⟨F, A, S, en, z, S', hs, he, ec, k⟩ := h
  unfold cApp at ec
  obtain ⟨⟨r1, S1⟩, e1, ec⟩ := Option.bind_eq_some_iff.mp ec
  obtain ⟨z', e3, ec⟩ := Option.map_eq_some_iff.mp ec
  cases ec
  exact ⟨F, A, S, en, r1, S1, hs, he, e1, fun v H1 F1 A1 hs1 x1 p1 => hr F1 A1 H1 S1 v r1 z Q hs1 p1 e3 fun w H3 F3 A3 hs3 x3 p3 => k w H3 F3 A3 hs3 (x1.trans x3) p3⟩
theorem oCallB (hc : CallR X (.builtin id) rr) (hr : CallOk X.K rr ff) (hg : Gl X x) (hm : X.mg x = none) (hv : bootBuiltins x = some (.builtin id)) (ha : PA X (e :: es) (tEs X.K cl)) (hn : x ≠ "__name__" := by decide) (hdb : (x == ("__debug__" : Str)) = false := by decide)
    (he : starEach (e :: es) X.env = (false, eval e X.env) :: starEach es X.env := by rfl) (hpl : (backTo pos (starEach es X.env)).any (·.1) = false := by rfl) : PE X (.Call (.Name x p) (e :: es) [] pos) (tE X.K (cApp ff cl)) :=
  (pe_callB hc hg hm hv ha hn hdb he hpl).weak fun _ _ _ h => app_ok hr h
theorem oCallT (hc : CallR X (.type T) rr) (hr : CallOk X.K rr ff) (hg : Gl X x) (hm : X.mg x = none) (hv : bootBuiltins x = some (.type T)) (ha : PA X (e :: es) (tEs X.K cl)) (hn : x ≠ "__name__" := by decide) (hdb : (x == ("__debug__" : Str)) = false := by decide)
    (he : starEach (e :: es) X.env = (false, eval e X.env) :: starEach es X.env := by rfl) (hpl : (backTo pos (starEach es X.env)).any (·.1) = false := by rfl) : PE X (.Call (.Name x p) (e :: es) [] pos) (tE X.K (cApp ff cl)) :=
  (pe_callTy hc hg hm hv ha hn hdb he hpl).weak fun _ _ _ h => app_ok hr h

/-! ### defs of the text -/
abbrev Fn := List R → Ss → Option (R × Ss)
def spF (K : PySem.W.Frag) (n : Nat) (f : Fn) : Sp := fun vs H Q _ => vs.length = n ∧ ∃ F A S rs r S', HSt K F A H S ∧ RpRs K F A vs rs ∧ f rs S = some (r, S') ∧
  ∀ v H' F' A', HSt K F' A' H' S' → Ext F A H F' A' H' → RpR K F' A' v r → Q v H'
def cCall (f : Fn) (cl : CdL) : Cd := fun en S => (cl en S).bind fun p => f p.1 p.2
theorem oCall {n k : Nat} {g : Addr} {fd : FuncData} {ps : List Str} {f : Fn} (G : FnOk X.prog X.w X.K X.mg X.base CX0 k g fd ps (spF X.K n f)) (hr : Room k X.A) (hg : Gl X x) (hm : X.mg x = some (.ref g)) (hk : PySem.W.keepIn X.K (.ref g) = true) (hb : Binds X.K fd ps [])
    (ha : PA X (e :: es) (tEs X.K cl)) (hn : ∀ en S rs S', cl en S = some (rs, S') → rs.length = n) (hdb : (x == ("__debug__" : Str)) = false := by decide) (he : starEach (e :: es) X.env = (false, eval e X.env) :: starEach es X.env := by rfl) (hpl : (backTo pos (starEach es X.env)).any (·.1) = false := by rfl) :
    PE X (.Call (.Name x p) (e :: es) [] pos) (tE X.K (cCall f cl)) :=
  (pe_call G hr hg hm hk hb .nil (pass0) ha hdb he hpl).weak fun σ H Q ⟨F, A, S, en, z, S', hs, he, ec, k⟩ => by
    unfold cCall at ec
    obtain ⟨⟨r1, S1⟩, e1, ec⟩ := Option.bind_eq_some_iff.mp ec
    refine ⟨F, A, S, en, r1, S1, hs, he, e1, fun v H1 F1 A1 hs1 x1 p1 => ?_⟩
    dsimp only
    rw [List.append_nil]
    exact ⟨by rw [p1.length]; exact hn _ _ _ _ e1, F1, A1, S1, r1, z, S', hs1, p1, ec, fun w H3 F3 A3 hs3 x3 p3 => k w H3 F3 A3 hs3 (x1.trans x3) p3⟩
theorem len_nil {en S rs S'} (h : cNil en S = some (rs, S')) : rs.length = 0 := by cases h; rfl
theorem len_cons {c : Cd} {cl : CdL} {n : Nat} (h : ∀ en S rs S', cl en S = some (rs, S') → rs.length = n) : ∀ en S rs S', cCons c cl en S = some (rs, S') → rs.length = n + 1 := fun en S rs S' ec => by
  unfold cCons at ec
  obtain ⟨⟨r1, S1⟩, e1, ec⟩ := Option.bind_eq_some_iff.mp ec
  obtain ⟨⟨r2, S2⟩, e2, ec⟩ := Option.map_eq_some_iff.mp ec
  cases ec
  simp [h _ _ _ _ e2]
end

/-! ### statements -/
section
variable {X : Cx} {e a b : Expr} {es : List Expr} {c ca cb cc : Cd} {cl : CdL} {pos : Pos} {st : Stmt} {rest : List Stmt} {c1 c2 : CdS} {ka : CdB}
def sNil : CdS := fun en S => some (.nx, en, S)
def sCons (c1 c2 : CdS) : CdS := fun en S => (c1 en S).bind fun p => match p.1 with
  | .nx => c2 p.2.1 p.2.2
  | _ => some p
theorem zNil : PSs X [] (tS X.K sNil) := pss_nil.weak fun D σ H ⟨F, A, S, en, fl, en', S', hs, he, ec, k⟩ => by
  cases ec
  exact k σ H F A hs .rfl' he
theorem zCons (h1 : PS X st (tS X.K c1)) (h2 : PSs X rest (tS X.K c2)) : PSs X (st :: rest) (tS X.K (sCons c1 c2)) := (pss_cons h1 h2).weak fun D σ H ⟨F, A, S, en, fl, en', S', hs, he, ec, k⟩ => by
  unfold sCons at ec
  obtain ⟨⟨fl1, en1, S1⟩, e1, ec⟩ := Option.bind_eq_some_iff.mp ec
  refine ⟨F, A, S, en, fl1, en1, S1, hs, he, e1, ?_⟩
  cases fl1 with
  | nx =>
    intro σ1 H1 F1 A1 hs1 x1 he1
    refine ⟨F1, A1, S1, en1, fl, en', S', hs1, he1, ec, ?_⟩
    cases fl with
    | nx => exact fun σ2 H2 F2 A2 hs2 x2 he2 => k σ2 H2 F2 A2 hs2 (x1.trans x2) he2
    | ret r => exact fun v H2 F2 A2 hs2 x2 he2 => k v H2 F2 A2 hs2 (x1.trans x2) he2
    | bk => exact fun σ2 H2 F2 A2 hs2 x2 he2 => k σ2 H2 F2 A2 hs2 (x1.trans x2) he2
    | ct => exact fun σ2 H2 F2 A2 hs2 x2 he2 => k σ2 H2 F2 A2 hs2 (x1.trans x2) he2
  | ret r => cases ec; exact k
  | bk => cases ec; exact k
  | ct => cases ec; exact k
def sSet (i : Nat) (c : Cd) : CdS := fun en S => (c en S).map fun p => (.nx, en.set i (some p.1), p.2)
theorem zSet {i : Nat} {x : Str} {pos' : Pos} (hN : X.N.Nodup) (hi : X.N[i]? = some x) (hx : Loc X.env.scope x) (he : PE X e (tE X.K c)) (hs : swapsWith e (some (.Name x pos')) pos.line X.env = pure false := by rfl) (hf : X.fn x = true ∨ X.env.scope.names.lookup x = some .local := by first | exact .inl rfl | exact .inr rfl | assumption) :
    PS X (.Assign [.Name x pos'] e pos) (tS X.K (sSet i c)) := (ps_set hN hi hx he hs hf).weak fun D σ H ⟨F, A, S, en, fl, en', S', hs, he, ec, k⟩ => by
  unfold sSet at ec
  obtain ⟨⟨r1, S1⟩, e1, ec⟩ := Option.map_eq_some_iff.mp ec
  cases ec
  exact ⟨F, A, S, en, r1, S1, hs, he, e1, fun v H1 F1 A1 hs1 x1 p1 => k _ H1 F1 A1 hs1 x1 ((he.ext x1).set i p1)⟩
def sRet (c : Cd) : CdS := fun en S => (c en S).map fun p => (.ret p.1, en, p.2)
theorem zRet (he : PE X e (tE X.K c)) : PS X (.Return (some e) pos) (tS X.K (sRet c)) := (ps_ret he).weak fun D σ H ⟨F, A, S, en, fl, en', S', hs, he, ec, k⟩ => by
  unfold sRet at ec
  obtain ⟨⟨r1, S1⟩, e1, ec⟩ := Option.map_eq_some_iff.mp ec
  cases ec
  exact ⟨F, A, S, en, r1, S1, hs, he, e1, k⟩
def sRetN : CdS := fun en S => some (.ret (.d .non), en, S)
theorem zRetN : PS X (.Return none pos) (tS X.K sRetN) := ps_retN.weak fun D σ H ⟨F, A, S, en, fl, en', S', hs, he, ec, k⟩ => by
  cases ec
  exact k _ H F A hs .rfl' .non
def sExpr (c : Cd) : CdS := fun en S => (c en S).map fun p => (.nx, en, p.2)
theorem zExpr (he : PE X e (tE X.K c)) (hs : swapsWith e none pos.line X.env = pure false := by rfl) : PS X (.Expr e pos) (tS X.K (sExpr c)) := (ps_expr he hs).weak fun D σ H ⟨F, A, S, en, fl, en', S', hs, he, ec, k⟩ => by
  unfold sExpr at ec
  obtain ⟨⟨r1, S1⟩, e1, ec⟩ := Option.map_eq_some_iff.mp ec
  cases ec
  exact ⟨F, A, S, en, r1, S1, hs, he, e1, fun v H1 F1 A1 hs1 x1 p1 => k σ H1 F1 A1 hs1 x1 (he.ext x1)⟩
def sIf (t : CdB) (c1 c2 : CdS) : CdS := fun en S => (t en S).bind fun p => if p.1 = true then c1 en p.2 else c2 en p.2
theorem zIf {sa sb : List Stmt} (ht : PT X e (tT X.K ka)) (ha : PSs X sa (tS X.K c1)) (hb : PSs X sb (tS X.K c2)) : PS X (.If e sa sb pos) (tS X.K (sIf ka c1 c2)) :=
  (ps_if ht ha hb).weak fun D σ H ⟨F, A, S, en, fl, en', S', hs, he, ec, k⟩ => by
    unfold sIf at ec
    obtain ⟨⟨r1, S1⟩, e1, ec⟩ := Option.bind_eq_some_iff.mp ec
    refine ⟨F, A, S, en, r1, S1, hs, he, e1, fun H1 F1 A1 hs1 x1 => ?_⟩
    have fin : ∀ c, c en S1 = some (fl, en', S') → tS X.K c D σ H1 := fun c ec => by
      refine ⟨F1, A1, S1, en, fl, en', S', hs1, he.ext x1, ec, ?_⟩
      cases fl with
      | nx => exact fun σ2 H2 F2 A2 hs2 x2 he2 => k σ2 H2 F2 A2 hs2 (x1.trans x2) he2
      | ret r => exact fun v H2 F2 A2 hs2 x2 he2 => k v H2 F2 A2 hs2 (x1.trans x2) he2
      | bk => exact fun σ2 H2 F2 A2 hs2 x2 he2 => k σ2 H2 F2 A2 hs2 (x1.trans x2) he2
      | ct => exact fun σ2 H2 F2 A2 hs2 x2 he2 => k σ2 H2 F2 A2 hs2 (x1.trans x2) he2
    cases r1 with
    | true => exact fin _ ec
    | false => exact fin _ ec
def sBreak : CdS := fun en S => some (.bk, en, S)
theorem zBreak : PS X (.Break pos) (tS X.K sBreak) := ps_break.weak fun D σ H ⟨F, A, S, en, fl, en', S', hs, he, ec, k⟩ => by
  cases ec
  exact k σ H F A hs .rfl' he

/-! ### while -/
def whileN : Nat → CdB → CdS → CdS
  | 0, _, _ => fun _ _ => none
  | n + 1, t, c => fun en S => (t en S).bind fun p => if p.1 = true then (c en p.2).bind fun q => match q.1 with
      | .nx => whileN n t c q.2.1 q.2.2
      | .ct => whileN n t c q.2.1 q.2.2
      | .bk => some (.nx, q.2.1, q.2.2)
      | .ret r => some (.ret r, q.2.1, q.2.2)
    else some (.nx, en, p.2)
theorem zWhile {body : List Stmt} (n : Nat) (hp : PassesOwn (model X.prog X.w) X.A X.env X.xe) (ht : PT X e (tT X.K ka)) (hb : PSs X body (tS X.K c1)) : PS X (.While e body [] pos) (tS X.K (whileN n ka c1)) :=
  (ps_while hp ht hb).weak fun D σ H ⟨F, A, S, en, fl, en', S', hs, he, ec, k⟩ => by
    refine ⟨fun m σ1 H1 => ∃ F1 A1 S1 en1, HSt X.K F1 A1 H1 S1 ∧ Ext F A H F1 A1 H1 ∧ EnvR X.K F1 A1 σ1 en1 ∧ whileN m ka c1 en1 S1 = some (fl, en', S'), ⟨n, F, A, S, en, hs, .rfl', he, ec⟩, ?_⟩
    rintro m σ1 H1 ⟨F1, A1, S1, en1, hs1, x1, he1, ec1⟩
    cases m with
    | zero => cases ec1
    | succ m =>
      unfold whileN at ec1
      obtain ⟨⟨b, S2⟩, e2, ec2⟩ := Option.bind_eq_some_iff.mp ec1
      refine ⟨F1, A1, S1, en1, b, S2, hs1, he1, e2, fun H2 F2 A2 hs2 x2 => ?_⟩
      cases b with
      | false =>
        rw [if_neg Bool.false_ne_true] at ec2 ⊢
        cases ec2
        exact k σ1 H2 F2 A2 hs2 (x1.trans x2) (he1.ext x2)
      | true =>
        rw [if_pos rfl] at ec2 ⊢
        obtain ⟨⟨fl3, en3, S3⟩, e3, ec3⟩ := Option.bind_eq_some_iff.mp ec2
        refine ⟨fun σ' H' => ∃ m', m' < m + 1 ∧ ∃ F1 A1 S1 en1, HSt X.K F1 A1 H' S1 ∧ Ext F A H F1 A1 H' ∧ EnvR X.K F1 A1 σ' en1 ∧ whileN m' ka c1 en1 S1 = some (fl, en', S'), fun σ' H' h => h, F2, A2, S2, en1, fl3, en3, S3, hs2, he1.ext x2, e3, ?_⟩
        cases fl3 with
        | nx => exact fun σ4 H4 F4 A4 hs4 x4 he4 => ⟨m, Nat.lt_succ_self m, F4, A4, S3, en3, hs4, (x1.trans x2).trans x4, he4, ec3⟩
        | ct => exact fun σ4 H4 F4 A4 hs4 x4 he4 => ⟨m, Nat.lt_succ_self m, F4, A4, S3, en3, hs4, (x1.trans x2).trans x4, he4, ec3⟩
        | bk => cases ec3; exact fun σ4 H4 F4 A4 hs4 x4 he4 => k σ4 H4 F4 A4 hs4 ((x1.trans x2).trans x4) he4
        | ret r => cases ec3; exact fun σ4 H4 F4 A4 hs4 x4 he4 => k σ4 H4 F4 A4 hs4 ((x1.trans x2).trans x4) he4
end

/-! ### a def's body -/
/-- what is handed back: data, or a cell of the caller's; with keep, one new cell -/
def finish (keep : Bool) (n : Nat) (r : R) (S : Ss) : Option (R × Ss) := match r with
  | .d x => some (.d x, S.take n)
  | .s ns => some (.s ns, S.take n)
  | .c k => if k < n then some (.c k, S.take n) else if keep = true then (S[k]?).map fun o => (.c n, S.take n ++ [o]) else none
def runF (N : Nat) (keep : Bool) (c : CdS) : Fn := fun rs S => (c (rs.map some ++ List.replicate (N - rs.length) none) S).bind fun p => match p.1 with
  | .ret r => finish keep S.length r p.2.2
  | .nx => finish keep S.length (.d .non) p.2.2
  | _ => none
section
variable {K : PySem.W.Frag} {F F' : Hp} {A A' : List Addr} {H H' : Hp} {S S' : Ss} {v : V} {r r' : R}
theorem Paired.takeP {α β : Type} {G : α → β → Prop} : ∀ {l : List α} {m : List β} (n : Nat), Paired G l m → Paired G (l.take n) (m.take n)
  | _, _, 0, _ => .nil
  | _, _, _ + 1, .nil => .nil
  | _, _, n + 1, .cons r t => .cons r (Paired.takeP n t)
theorem HSt.cut (h : HSt K F' A' H' S') (x : Ext F A H F' A' H') (hl : A.length = S.length) : HSt K F' A H' (S'.take S.length) ∧ Ext F A H F' A H' := by
  obtain ⟨B, rfl, hB⟩ := x.pre
  have e : (A ++ B).take S.length = A := by rw [← hl]; simp
  refine ⟨⟨h.sub, ?_, ?_⟩, x.ge, ⟨[], by simp, by simp⟩, x.frame, x.newF, x.mon⟩
  · exact (List.nodup_append.mp h.nd).1
  · have q := Paired.takeP S.length h.cells
    rw [e] at q
    exact q
theorem finish_ok {keep : Bool} {S2 : Ss} (h : HSt K F' A' H' S') (x : Ext F A H F' A' H') (hl : A.length = S.length) (q : RpR K F' A' v r) (ef : finish keep S.length r S' = some (r', S2)) :
    ∃ A2, HSt K F' A2 H' S2 ∧ Ext F A H F' A2 H' ∧ RpR K F' A2 v r' := by
  obtain ⟨h1, x1⟩ := h.cut x hl
  cases r with
  | d z => cases ef; exact ⟨A, h1, x1, q⟩
  | s ns => cases ef; exact ⟨A, h1, x1, q⟩
  | c k =>
    obtain ⟨a, ea, rfl⟩ := q
    unfold finish at ef
    obtain ⟨B, eB, hB⟩ := x.pre
    simp only at ef
    split at ef
    · rename_i hk
      cases ef
      refine ⟨A, h1, x1, a, ?_, rfl⟩
      rw [eB, List.getElem?_append_left (by omega)] at ea
      exact ea
    · rename_i hk
      split at ef
      · obtain ⟨o, eo, ef⟩ := Option.map_eq_some_iff.mp ef
        cases ef
        obtain ⟨a', ea', hc⟩ := Paired.getR h.cells eo
        rw [ea] at ea'; cases ea'
        have hb : a ∈ B := by
          rw [eB, List.getElem?_append_right (by omega)] at ea
          exact List.mem_of_getElem? ea
        refine ⟨A ++ [a], ⟨h1.sub, ?_, Paired.appendP h1.cells (.cons hc .nil)⟩, ⟨x1.ge, ⟨[a], rfl, by simpa using hB a hb⟩, x1.frame, x1.newF, x1.mon⟩, a, ?_, rfl⟩
        · rw [List.nodup_append]
          refine ⟨h1.nd, by simp, fun b hb' c hc' => ?_⟩
          have : c = a := by simpa using hc'
          subst this
          have nd := h.nd
          rw [eB, List.nodup_append] at nd
          exact nd.2.2 b hb' c hb
        · rw [← hl]; simp
      · cases ef
end
theorem env_start {K : PySem.W.Frag} {F : Hp} {A : List Addr} : ∀ {vs : List V} {rs : List R}, RpRs K F A vs rs → ∀ m : Nat, EnvR K F A (vs.map some ++ List.replicate m none) (rs.map some ++ List.replicate m none)
  | _, _, .nil, m => ⟨by simp, fun i r e => by
      simp only [List.map_nil, List.nil_append, List.getElem?_replicate] at e
      split at e <;> cases e⟩
  | _, _, .cons h t, m => by
    have ih := env_start t m
    refine ⟨by simp at ih ⊢; have := t.length; omega, fun i r e => ?_⟩
    cases i with
    | zero => simp at e; subst e; exact ⟨_, rfl, h⟩
    | succ i => exact ih.2 i r (by simpa using e)
theorem mkFn {P : Program} {w : World} {K : PySem.W.Frag} {mg : Str → Option Value} {base : Heap} {x qual : Str} {st : Stmt} {f : Addr} {fd : FuncData} {N ps : List Str} {k : Nat} (G : Fun K x qual st f fd) (S : FnScope N ps (defScope st)) (keep : Bool) {c : CdS}
    (body : ∀ (cdv : Value) (A : Around) (outer : List PySem.Env) (s : Shared) (H : Hp) (E : XK), Room k (A.deeper (envOfC qual (defScope st) s.heap.objs.size f cdv)) → PSs (cxOf CX0 P w K mg base N qual (defScope st) f cdv A outer s H E).nox (defBody st) (tS K c)) :
    FnOk P w K mg base CX0 (k + 1) f fd ps (spF K ps.length (runF N.length keep c)) :=
  G.ok S (fun vs H Q E h => h.1) fun cdv A outer s H vs Q E hr h => by
    obtain ⟨hl, F, A', S', rs, r, S'', hs, hp, ef, k⟩ := h
    refine ⟨_, body cdv A outer s H E hr, ?_⟩
    unfold runF at ef
    obtain ⟨⟨fl, en1, S1⟩, e1, ef⟩ := Option.bind_eq_some_iff.mp ef
    refine ⟨F, A', S', _, fl, en1, S1, hs, ?_, e1, ?_⟩
    · have := env_start hp (N.length - vs.length)
      unfold L2.start
      rw [← hp.length]
      exact this
    · cases fl with
      | nx =>
        intro σ' H' F' A2 hs2 x2 he2
        obtain ⟨A3, h3, x3, p3⟩ := finish_ok (v := .non) (r := .d .non) hs2 x2 hs.len Rp.non ef
        exact k _ _ _ _ h3 x3 p3
      | ret r1 =>
        intro v H' F' A2 hs2 x2 p2
        obtain ⟨A3, h3, x3, p3⟩ := finish_ok hs2 x2 hs.len p2 ef
        exact k _ _ _ _ h3 x3 p3
      | bk => cases ef
      | ct => cases ef
end OA
namespace OA
open PySem PySem.Spec PyProof.Rows L2

/-! ### targets -/
abbrev CdG := R → En → Option En
abbrev CdGs := List Dt → En → Option En
/-- all slots but those at us are kept -/
def Chg (us : List Nat) (σ σ' : L2.St) : Prop := σ'.length = σ.length ∧ ∀ i, i ∉ us → σ'[i]? = σ[i]?
def tG (K : PySem.W.Frag) (us : List Nat) (c : CdG) : TG := fun v σ H Q => ∃ F A S en r en', HSt K F A H S ∧ EnvR K F A σ en ∧ RpR K F A v r ∧ c r en = some en' ∧ ∀ σ', EnvR K F A σ' en' → Chg us σ σ' → Q σ' H
def tGs (K : PySem.W.Frag) (us : List Nat) (c : CdGs) : TGs := fun vs σ H Q => ∃ F A S en ds en', HSt K F A H S ∧ EnvR K F A σ en ∧ Rps K F vs ds ∧ c ds en = some en' ∧ ∀ σ', EnvR K F A σ' en' → Chg us σ σ' → Q σ' H
theorem _root_.L2.PG.weak {X : Cx} {e : Expr} {t t' : TG} (h : PG X e t) (w : ∀ v σ H Q, t' v σ H Q → t v σ H Q) : PG X e t' := ⟨fun pins s σ H v u Q I r q => h.run pins s σ H v u Q I r (w v σ H Q q)⟩
theorem _root_.L2.PGs.weak {X : Cx} {e : List Expr} {t t' : TGs} (h : PGs X e t) (w : ∀ v σ H Q, t' v σ H Q → t v σ H Q) : PGs X e t' := ⟨fun pins s σ H v u Q I r q => h.run pins s σ H v u Q I r (w v σ H Q q)⟩
def gNm (i : Nat) : CdG := fun r en => some (en.set i (some r))
def gNil' : CdGs := fun ds en => match ds with | [] => some en | _ => none
def gCons' (c : CdG) (cs : CdGs) : CdGs := fun ds en => match ds with | d :: ds => (c (.d d) en).bind (cs ds) | [] => none
def gTp (cs : CdGs) : CdG := fun r en => match r with | .d x => (tupV x).bind fun ds => cs ds en | _ => none
section
variable {X : Cx} {pos : Pos}
theorem gNameOk {i : Nat} {x : Str} (hN : X.N.Nodup) (hi : X.N[i]? = some x) (hx : Loc X.env.scope x) (hf : X.fn x = true ∨ X.env.scope.names.lookup x = some .local := by first | exact .inl rfl | exact .inr rfl | assumption) : PG X (.Name x pos) (tG X.K [i] (gNm i)) :=
  (pg_name hN hi hx hf).weak fun v σ H Q ⟨F, A, S, en, r, en', hs, he, hr, ec, k⟩ => by
    cases ec
    exact k _ (he.set i hr) ⟨by simp, fun j hj => List.getElem?_set_ne (fun e => hj (by simp [e]))⟩
theorem gsNil : PGs X [] (tGs X.K [] gNil') := pgs_nil.weak fun vs σ H Q ⟨F, A, S, en, ds, en', hs, he, hr, ec, k⟩ => by
  cases hr with
  | nil => cases ec; exact ⟨rfl, k _ he ⟨rfl, fun _ _ => rfl⟩⟩
  | cons _ _ => cases ec
theorem gsCons {e : Expr} {es : List Expr} {us vs : List Nat} {c : CdG} {cs : CdGs} (h1 : PG X e (tG X.K us c)) (h2 : PGs X es (tGs X.K vs cs))
    (hs : (assignEach (e :: es) X.env).map (·.2) = assign e X.env :: (assignEach es X.env).map (·.2) := by rfl) : PGs X (e :: es) (tGs X.K (us ++ vs) (gCons' c cs)) :=
  (pgs_cons h1 h2 hs).weak fun ws σ H Q ⟨F, A, S, en, ds, en', hs, he, hr, ec, k⟩ => by
    cases hr with
    | nil => cases ec
    | cons hv ht =>
      obtain ⟨en1, e1, e2⟩ := Option.bind_eq_some_iff.mp ec
      refine ⟨_, _, rfl, F, A, S, en, .d _, en1, hs, he, hv, e1, fun σ1 he1 ch1 => ⟨F, A, S, en1, _, en', hs, he1, ht, e2, fun σ2 he2 ch2 => k σ2 he2 ⟨ch2.1.trans ch1.1, fun i hi => ?_⟩⟩⟩
      have hi' : i ∉ us ∧ i ∉ vs := by simpa [not_or] using hi
      exact (ch2.2 i hi'.2).trans (ch1.2 i hi'.1)
theorem gTuple {es : List Expr} {k : Nat} {us : List Nat} {cs : CdGs} {n : Nat} (hc : X.calm = true) (h : PGs X es (tGs X.K us cs)) (hl : ∀ ds en en', cs ds en = some en' → ds.length = n)
    (hn : (assignEach es X.env).length = n := by rfl) (hst : (assignEach es X.env).findIdx? (·.1) = none := by rfl) : PG X (.Tuple es k pos) (tG X.K us (gTp cs)) :=
  (pg_tup hc h hn hst).weak fun v σ H Q ⟨F, A, S, en, r, en', hs, he, hr, ec, k⟩ => by
    unfold gTp at ec
    split at ec
    · obtain ⟨ds, et, ec⟩ := Option.bind_eq_some_iff.mp ec
      obtain ⟨a, xs, rfl, hq, hx⟩ := hs.rdT (S := S) hr rfl et
      exact ⟨a, xs, rfl, hq, by rw [hx.length]; exact hl _ _ _ ec, F, A, S, en, ds, en', hs, he, hx, ec, k⟩
    · cases ec
theorem glen0 : ∀ ds en en', gNil' ds en = some en' → ds.length = 0 := fun ds en en' h => by
  cases ds with
  | nil => rfl
  | cons _ _ => cases h
theorem glen1 {c : CdG} {cs : CdGs} {n : Nat} (h : ∀ ds en en', cs ds en = some en' → ds.length = n) : ∀ ds en en', gCons' c cs ds en = some en' → ds.length = n + 1 := fun ds en en' e => by
  cases ds with
  | nil => cases e
  | cons d ds =>
    obtain ⟨en1, e1, e2⟩ := Option.bind_eq_some_iff.mp e
    simp [h _ _ _ e2]
/-- target = value -/
def sAsg (g : CdG) (c : Cd) : CdS := fun en S => (c en S).bind fun p => (g p.1 en).map fun en' => (.nx, en', p.2)
theorem zAsg {tg e : Expr} {c : Cd} {us : List Nat} {g : CdG} (he : PE X e (tE X.K c)) (hg : PG X tg (tG X.K us g)) (hs : swapsWithSole [tg] e pos.line X.env = pure false := by rfl) (hw : swappedStores [tg] e X.env = pure none := by rfl)
    (h1 : (assignEach [tg] X.env).map (·.2) = [assign tg X.env] := by rfl) : PS X (.Assign [tg] e pos) (tS X.K (sAsg g c)) :=
  (ps_asg he hg hs hw h1).weak fun D σ H ⟨F, A, S, en, fl, en', S', hs, he, ec, k⟩ => by
    obtain ⟨⟨r1, S1⟩, e1, ec⟩ := Option.bind_eq_some_iff.mp ec
    obtain ⟨en1, e2, ec⟩ := Option.map_eq_some_iff.mp ec
    cases ec
    exact ⟨F, A, S, en, r1, S1, hs, he, e1, fun v H1 F1 A1 hs1 x1 p1 => ⟨F1, A1, S1, en, r1, en', hs1, he.ext x1, p1, e2, fun σ' he' _ => k σ' H1 F1 A1 hs1 x1 he'⟩⟩
/-- a, b = x, y -/
def sPar (i j : Nat) (ca cb : Cd) : CdS := fun en S => (ca en S).bind fun p => (cb en p.2).map fun q => (.nx, (en.set i (some p.1)).set j (some q.1), q.2)
theorem zPar {i j : Nat} {x y : Str} {a b : Expr} {ca cb : Cd} {px py pt : Pos} {kt k2 pt2} (hc : X.calm = true) (hN : X.N.Nodup) (hi : X.N[i]? = some x) (hj : X.N[j]? = some y) (hij : i ≠ j)
    (hx : X.env.scope.names.lookup x = some .local) (hy : X.env.scope.names.lookup y = some .local) (ha : PA X [a, b] (tEs X.K (cCons ca (cCons cb cNil)))) (hs : swappedStores [.Tuple [.Name x px, .Name y py] kt pt] (.Tuple [a, b] k2 pt2) X.env = pure (some [x, y]))
    (hs2 : swapsWithSole [.Tuple [.Name x px, .Name y py] kt pt] (.Tuple [a, b] k2 pt2) pos.line X.env = pure false := by rfl) :
    PS X (.Assign [.Tuple [.Name x px, .Name y py] kt pt] (.Tuple [a, b] k2 pt2) pos) (tS X.K (sPar i j ca cb)) :=
  (ps_par hc hN hi hj hij hx hy ha hs hs2).weak fun D σ H ⟨F, A, S, en, fl, en', S', hs, he, ec, k⟩ => by
    obtain ⟨⟨r1, S1⟩, e1, ec⟩ := Option.bind_eq_some_iff.mp ec
    obtain ⟨⟨r2, S2⟩, e2, ec⟩ := Option.map_eq_some_iff.mp ec
    cases ec
    refine ⟨F, A, S, en, [r1, r2], S2, hs, he, ?_, fun vs H1 F1 A1 hs1 x1 p1 => ?_⟩
    · unfold cCons cNil
      simp [e1, e2]
    · cases p1 with
      | cons q1 t =>
        cases t with
        | cons q2 t =>
          cases t
          exact ⟨_, _, rfl, k _ H1 F1 A1 hs1 x1 (((he.ext x1).set i q1).set j q2)⟩
end

/-! ### what is walked -/
abbrev CdI := En → Ss → Option (List Dt × Ss)
def Walks (K : PySem.W.Frag) (F : Hp) (J : It) (ds : List Dt) : Prop := ∀ (F2 : Hp) (A2 : List Addr) (H2 : Hp) (S2 : Ss), Ge F F2 → HSt K F2 A2 H2 S2 → ∀ i : Nat,
  (∀ d, ds[i]? = some d → J.go i H2 ∧ ∀ x H3, J.yld i H2 x H3 → ∃ F3, HSt K F3 A2 H3 S2 ∧ Ext F2 A2 H2 F3 A2 H3 ∧ Rp K F3 x d) ∧ (ds[i]? = none → J.stop i H2)
def tI (K : PySem.W.Frag) (c : CdI) : TI := fun σ H R => ∃ F A S en ds S', HSt K F A H S ∧ EnvR K F A σ en ∧ c en S = some (ds, S') ∧
  ∀ J H' F' A', HSt K F' A' H' S' → Ext F A H F' A' H' → Walks K F' J ds → ds.length ≤ sizeLine → R J H'
theorem _root_.L2.PI.weak {X : Cx} {tg e : Expr} {t t' : TI} (h : PI X tg e t) (w : ∀ σ H Q, t' σ H Q → t σ H Q) : PI X tg e t' := ⟨fun pins s σ H R I q => h.run pins s σ H R I (w σ H R q)⟩

theorem Rps.at {K : PySem.W.Frag} {F : Hp} {vs : List V} {ds : List Dt} (h : Rps K F vs ds) {i : Nat} {d : Dt} (e : ds[i]? = some d) : ∃ v, vs[i]? = some v ∧ Rp K F v d := h.get e
theorem Rps.out {K : PySem.W.Frag} {F : Hp} {vs : List V} {ds : List Dt} (h : Rps K F vs ds) {i : Nat} (e : ds[i]? = none) : vs.length ≤ i := by
  rw [h.length]; exact List.getElem?_eq_none_iff.mp e
theorem walks_list {K : PySem.W.Frag} {F : Hp} {a : Addr} {xs : List V} {ds : List Dt} (e : F a = some (.lst xs)) (h : Rps K F xs ds) : Walks K F (Itl K a) ds := fun F2 A2 H2 S2 g hs i => by
  have q : SqL K H2 a xs := .inl (.inl (hs.sub _ _ (g _ _ e)))
  refine ⟨fun d ed => ?_, fun ed => ⟨xs, q, h.out ed⟩⟩
  obtain ⟨v, ev, hv⟩ := h.at ed
  refine ⟨⟨xs, v, q, ev⟩, fun x H3 hy => ?_⟩
  obtain ⟨rfl, hy⟩ := hy
  have := hy xs q
  rw [ev] at this; cases this
  exact ⟨F2, hs, .rfl', hv.mono g⟩
theorem walks_tup {K : PySem.W.Frag} {F : Hp} {a : Addr} {xs : List V} {ds : List Dt} (q : ∀ F2 A2 H2 S2, Ge F F2 → HSt K F2 A2 H2 S2 → SqT K H2 a xs) (h : Rps K F xs ds) : Walks K F (Itt K a) ds := fun F2 A2 H2 S2 g hs i => by
  have q := q F2 A2 H2 S2 g hs
  refine ⟨fun d ed => ?_, fun ed => ⟨xs, q, h.out ed⟩⟩
  obtain ⟨v, ev, hv⟩ := h.at ed
  refine ⟨⟨xs, v, q, ev⟩, fun x H3 hy => ?_⟩
  obtain ⟨rfl, hy⟩ := hy
  have := hy xs q
  rw [ev] at this; cases this
  exact ⟨F2, hs, .rfl', hv.mono g⟩
theorem rps_strs {K : PySem.W.Frag} {F : Hp} : ∀ ks : List Str, Rps K F ((ks.map Sum.inr : List Key).map kV) (ks.map Dt.str)
  | [] => .nil
  | x :: ks => .cons (.str x) (rps_strs ks)
theorem all_str : ∀ ks : List Str, (ks.map Dt.str).all isStr = true
  | [] => rfl
  | x :: ks => by rw [List.map_cons, List.all_cons, all_str ks]; rfl
theorem rpT_at {K : PySem.W.Frag} {F : Hp} : ∀ {kvs : List (List Key × V)} {ds : List (Dt × Dt)} {i : Nat}, RpT K F kvs ds → (∀ d, ds[i]? = some d → ∃ (k : List Str) (v : V), kvs[i]? = some (k.map .inr, v) ∧ d.1 = .tup (k.map .str)) ∧ (ds[i]? = none → kvs.length ≤ i)
  | _, _, i, .nil => ⟨fun d e => by simp at e, fun _ => by simp⟩
  | _, _, 0, .cons h t => ⟨fun d e => by simp at e; subst e; exact ⟨_, _, rfl, rfl⟩, fun e => by simp at e⟩
  | _, _, i + 1, .cons h t => by
    obtain ⟨h1, h2⟩ := rpT_at (i := i) t
    exact ⟨fun d e => by simpa using h1 d (by simpa using e), fun e => by have := h2 (by simpa using e); simpa using this⟩
theorem rpK_at {K : PySem.W.Frag} {F : Hp} : ∀ {kvs : List (Key × V)} {ds : List (Dt × Dt)} {i : Nat}, RpK K F kvs ds → (∀ d, ds[i]? = some d → ∃ (k : Str) (v : V), kvs[i]? = some (.inr k, v) ∧ d.1 = .str k) ∧ (ds[i]? = none → kvs.length ≤ i)
  | _, _, i, .nil => ⟨fun d e => by simp at e, fun _ => by simp⟩
  | _, _, 0, .cons h t => ⟨fun d e => by simp at e; subst e; exact ⟨_, _, rfl, rfl⟩, fun e => by simp at e⟩
  | _, _, i + 1, .cons h t => by
    obtain ⟨h1, h2⟩ := rpK_at (i := i) t
    exact ⟨fun d e => by simpa using h1 d (by simpa using e), fun e => by have := h2 (by simpa using e); simpa using this⟩
/-- a tuple that is tracked may be frozen -/
theorem HSt.frzT {K : PySem.W.Frag} {F : Hp} {A : List Addr} {H : Hp} {S : Ss} {q : Addr} {xs : List V} (h : HSt K F A H S) (e : H q = some (.tup xs)) : HSt K (upd F q (.tup xs)) A H S ∧ Ext F A H (upd F q (.tup xs)) A H := by
  have g : Ge F (upd F q (.tup xs)) := fun b u eb => by
    by_cases hb : b = q
    · subst hb
      have := h.sub _ _ eb
      rw [e] at this; cases this
      exact upd_same
    · rw [upd_ne hb]; exact eb
  have nA : q ∉ A ∨ (∃ o, F q = some o) := by
    by_cases hq : q ∈ A
    · right
      obtain ⟨so, hc⟩ := Paired.mem h.cells q hq
      cases so with
      | lst ds => obtain ⟨_, vs, e2, _⟩ := hc; rw [e] at e2; cases e2
      | dK ds => obtain ⟨_, vs, e2, _⟩ := hc; rw [e] at e2; cases e2
      | dT ds => obtain ⟨_, vs, e2, _⟩ := hc; rw [e] at e2; cases e2
      | gone => obtain ⟨o, e1, e2⟩ := hc; exact ⟨o, e1⟩
    · exact .inl hq
  refine ⟨⟨fun b u eb => ?_, h.nd, Paired.mapM h.cells fun a ha so r => r.mono g (fun n => ?_) fun _ z => z⟩, g, ⟨[], by simp, by simp⟩, fun _ _ z _ => z, fun b u eb n => ?_, fun _ z => z⟩
  · by_cases hb : b = q
    · subst hb; rw [upd_same] at eb; cases eb; exact e
    · rw [upd_ne hb] at eb; exact h.sub _ _ eb
  · rcases nA with nA | ⟨o, ho⟩
    · have hne : a ≠ q := fun z => nA (z ▸ ha)
      rw [upd_ne hne]; exact n
    · by_cases hb : a = q
      · subst hb; rw [n] at ho; cases ho
      · rw [upd_ne hb]; exact n
  · by_cases hb : b = q
    · subst hb; exact .inr (.inr ⟨xs, e⟩)
    · rw [upd_ne hb] at eb; rw [eb] at n; cases n
theorem walks_dT {K : PySem.W.Frag} {F : Hp} {a : Addr} {o : Obj} {kvs : List (List Key × V)} {ds : List (Dt × Dt)} (e : F a = some (.frz o (.dT kvs))) (h : RpT K F kvs ds) : Walks K F (Itkt a o kvs) (ds.map (·.1)) := fun F2 A2 H2 S2 g hs i => by
  have q : H2 a = some (.frz o (.dT kvs)) := hs.sub _ _ (g _ _ e)
  obtain ⟨h1, h2⟩ := rpT_at (i := i) h
  refine ⟨fun d ed => ?_, fun ed => ⟨q, h2 (by simpa using ed)⟩⟩
  rw [List.getElem?_map] at ed
  obtain ⟨d', ed', rfl⟩ := Option.map_eq_some_iff.mp ed
  obtain ⟨k, v, ek, hk⟩ := h1 d' ed'
  refine ⟨⟨q, (List.getElem?_eq_some_iff.mp ek).1⟩, fun x H3 hy => ?_⟩
  obtain ⟨rfl, k', v', p, ek', rfl, hp⟩ := hy
  rw [ek] at ek'; cases ek'
  obtain ⟨hs', x'⟩ := hs.frzT hp
  exact ⟨_, hs', x', by rw [hk]; exact .tupS (all_str k) upd_same (rps_strs k)⟩
theorem walks_dK {K : PySem.W.Frag} {F : Hp} {a : Addr} {o : Obj} {kvs : List (Key × V)} {ds : List (Dt × Dt)} (e : F a = some (.frz o (.dK kvs))) (h : RpK K F kvs ds) : Walks K F (Itk a o kvs) (ds.map (·.1)) := fun F2 A2 H2 S2 g hs i => by
  have q : H2 a = some (.frz o (.dK kvs)) := hs.sub _ _ (g _ _ e)
  obtain ⟨h1, h2⟩ := rpK_at (i := i) h
  refine ⟨fun d ed => ?_, fun ed => ⟨q, h2 (by simpa using ed)⟩⟩
  rw [List.getElem?_map] at ed
  obtain ⟨d', ed', rfl⟩ := Option.map_eq_some_iff.mp ed
  obtain ⟨k, v, ek, hk⟩ := h1 d' ed'
  refine ⟨⟨q, (List.getElem?_eq_some_iff.mp ek).1⟩, fun x H3 hy => ?_⟩
  obtain ⟨rfl, k', v', ek', rfl⟩ := hy
  rw [ek] at ek'; cases ek'
  refine ⟨F2, hs, .rfl', ?_⟩
  rw [hk]
  exact .str k
theorem walks_str {K : PySem.W.Frag} {F : Hp} (x : Str) : Walks K F (Its x) (x.cps.toList.map fun c => Dt.str ⟨#[c]⟩) := fun F2 A2 H2 S2 g hs i => by
  refine ⟨fun d ed => ?_, fun ed => ?_⟩
  · rw [List.getElem?_map] at ed
    obtain ⟨c, ec, rfl⟩ := Option.map_eq_some_iff.mp ed
    try rw [Array.getElem?_toList] at ec
    refine ⟨?_, fun y H3 hy => ?_⟩
    · show i < x.cps.size
      obtain ⟨h, _⟩ := Array.getElem?_eq_some_iff.mp ec
      exact h
    · obtain ⟨rfl, c', ec', rfl⟩ := hy
      rw [ec] at ec'; cases ec'
      exact ⟨F2, hs, .rfl', .str _⟩
  · show x.cps.size ≤ i
    simpa using ed
theorem walks_range {K : PySem.W.Frag} {F : Hp} (lo : Int) (n : Nat) : Walks K F (Itr lo n) ((List.range n).map fun i => Dt.int (lo + (i : Nat))) := fun F2 A2 H2 S2 g hs i => by
  refine ⟨fun d ed => ?_, fun ed => ?_⟩
  · rw [List.getElem?_map] at ed
    obtain ⟨c, ec, rfl⟩ := Option.map_eq_some_iff.mp ed
    obtain ⟨hc, e⟩ := List.getElem?_eq_some_iff.mp ec
    have hc' : i < n := by simpa using hc
    have e' : i = c := by simpa using e
    subst e'
    refine ⟨hc', fun y H3 hy => ?_⟩
    obtain ⟨rfl, rfl⟩ := hy
    exact ⟨F2, hs, .rfl', Rp.int _⟩
  · show n ≤ i
    simpa using ed

def itemsOf : Dt → Option (List Dt)
  | .lst ds => some ds
  | .tup ds => some ds
  | .tup0 => some []
  | .str x => if x.cps.size ≤ 1000 then some (x.cps.toList.map fun c => Dt.str ⟨#[c]⟩) else none
  | .dK kvs => some (kvs.map (·.1))
  | .dT kvs => some (kvs.map (·.1))
  | _ => none
def cIter (c : Cd) : CdI := fun en S => (c en S).bind fun p => match p.1 with
  | .d x => (itemsOf x).map fun ds => (ds, p.2)
  | _ => none
section
variable {X : Cx} {tg e : Expr} {c : Cd} {pos : Pos}
theorem iSeq (h : PE X e (tE X.K c)) : PI X tg e (tI X.K (cIter c)) := by
  refine ⟨fun pins s σ H R I ⟨F, A, S, en, ds, S', hs, he, ec, k⟩ => ?_⟩
  obtain ⟨⟨r1, S1⟩, e1, ec⟩ := Option.bind_eq_some_iff.mp ec
  have hrun := h.run pins s σ H (fun v H1 => ∃ F1 A1, HSt X.K F1 A1 H1 S1 ∧ Ext F A H F1 A1 H1 ∧ RpR X.K F1 A1 v r1) I ⟨F, A, S, en, r1, S1, hs, he, e1, fun v H1 F1 A1 hs1 x1 p1 => ⟨F1, A1, hs1, x1, p1⟩⟩
  refine thn hrun fun u s1 ⟨v, H1, I1, rv, F1, A1, hs1, x1, p1⟩ => ?_
  cases r1 with
  | c _ => cases ec
  | s _ => cases ec
  | d x =>
    obtain ⟨ds', e2, ec⟩ := Option.map_eq_some_iff.mp ec
    cases ec
    cases p1 with
    | non => cases e2
    | bl _ => cases e2
    | int _ => cases e2
    | str x =>
      have hx : x.cps.size ≤ 1000 := by
        by_cases hx : x.cps.size ≤ 1000
        · exact hx
        · rw [itemsOf, if_neg hx] at e2; cases e2
      rw [itemsOf, if_pos hx] at e2
      cases e2
      obtain ⟨t, rfl⟩ := rv
      have q := k _ _ _ _ hs1 x1 (walks_str x) (by have := small1000 hx; simpa using Nat.le_of_lt this)
      cases ha : x.cps.all (· < 128) with
      | false => exact wpAny_pyIter_wide ha (pi_one (tk := s1.toks) I1 _ (turn_str _ x t "str_iterator" (.inr rfl)) ⟨_, Heap.get?_push_size _ rfl, rfl, rfl⟩ q)
      | true => exact wpAny_pyIter_ascii ha (pi_one (tk := s1.toks) I1 _ (turn_str _ x t "str_ascii_iterator" (.inl rfl)) ⟨_, Heap.get?_push_size _ rfl, rfl, rfl⟩ q)
    | lst ea hx =>
      cases e2
      cases rv
      obtain ⟨its, rr, p, hz⟩ := I1.list (.inl (.inl (hs1.sub _ _ ea)))
      exact wpAny_pyIter_list p.isList (pi_one (tk := s1.toks) I1 _ (turn_list _ _) ⟨_, Heap.get?_push_size _ rfl, rfl, rfl⟩ (k _ _ _ _ hs1 x1 (walks_list ea hx) (by rw [← hx.length]; exact hz)))
    | pr ea hx => cases e2
    | tupS _ ea hx =>
      cases e2
      cases rv
      obtain ⟨its, rr, p, hz⟩ := I1.tuple (.inl (.inl (hs1.sub _ _ ea)))
      exact wpAny_pyIter_tuple p (pi_one (tk := s1.toks) I1 _ (turn_tuple _ _) ⟨_, Heap.get?_push_size _ rfl, rfl, rfl⟩ (k _ _ _ _ hs1 x1 (walks_tup (fun F2 A2 H2 S2 g hs => .inl (.inl (hs.sub _ _ (g _ _ ea)))) hx) (by rw [← hx.length]; exact hz)))
    | tupP _ ea _ hx =>
      cases e2
      cases rv
      obtain ⟨its, rr, p, hz⟩ := I1.tuple (.inl (.inr ⟨_, hs1.sub _ _ ea⟩))
      exact wpAny_pyIter_tuple p (pi_one (tk := s1.toks) I1 _ (turn_tuple _ _) ⟨_, Heap.get?_push_size _ rfl, rfl, rfl⟩ (k _ _ _ _ hs1 x1 (walks_tup (fun F2 A2 H2 S2 g hs => .inl (.inr ⟨_, hs.sub _ _ (g _ _ ea)⟩)) hx) (by rw [← hx.length]; exact hz)))
    | tup0 ea _ =>
      cases e2
      cases rv
      obtain ⟨its, rr, p, hz⟩ := I1.tuple (.inl (.inr ⟨_, hs1.sub _ _ ea⟩))
      exact wpAny_pyIter_tuple p (pi_one (tk := s1.toks) I1 _ (turn_tuple _ _) ⟨_, Heap.get?_push_size _ rfl, rfl, rfl⟩ (k _ _ _ _ hs1 x1 (walks_tup (fun F2 A2 H2 S2 g hs => .inl (.inr ⟨_, hs.sub _ _ (g _ _ ea)⟩)) .nil) (Nat.zero_le _)))
    | kt ea =>
      cases e2
      cases rv
      obtain ⟨its, rr, p, hz⟩ := I1.tuple (ea H1)
      exact wpAny_pyIter_tuple p (pi_one (tk := s1.toks) I1 _ (turn_tuple _ _) ⟨_, Heap.get?_push_size _ rfl, rfl, rfl⟩ (k _ _ _ _ hs1 x1 (walks_tup (fun F2 A2 H2 S2 g hs => ea H2) (.cons (.int _) (.cons (.int _) .nil))) (Nat.le_of_lt (small1000 (by simp)))))
    | dT ea hx =>
      cases e2
      cases rv
      have hd := hs1.sub _ _ ea
      obtain ⟨hh, hgd, hex, es, ep, hdt, hsz, ent⟩ := I1.frzT hd
      have hlen : _ ≤ sizeLine := (show ObjOk X.prog X.w H1 s1.heap _ (.frz _ (.dT _)) from I1.hok _ _ hd).2.1
      have hlx := hx.len
      refine iter_keys hh hgd hex hdt (pi_one (tk := s1.toks) I1 _ (turn_keysT _ hdt) ⟨_, Heap.get?_push_size _ rfl, rfl, ?_⟩ (k _ _ _ _ hs1 x1 (walks_dT ea hx) (by simpa [← hlx] using hlen)))
      rw [hsz] <;> rfl
    | dK ea hx =>
      cases e2
      cases rv
      have hd := hs1.sub _ _ ea
      obtain ⟨hh, hgd, hex, es, ep, vs, hdt, hsz, kv, hm⟩ := I1.frzK hd
      have hlen : _ ≤ sizeLine := (show ObjOk X.prog X.w H1 s1.heap _ (.frz _ (.dK _)) from I1.hok _ _ hd).2.1
      have hlx := hx.len
      refine iter_keys hh hgd hex hdt (pi_one (tk := s1.toks) I1 _ (turn_keys _ hdt) ⟨_, Heap.get?_push_size _ rfl, rfl, ?_⟩ (k _ _ _ _ hs1 x1 (walks_dK ea hx) (by simpa [← hlx] using hlen)))
      rw [hsz] <;> rfl

/-! ### freezing -/
def cFrz (c : Cd) : Cd := fun en S => (c en S).bind fun p => match p.1 with
  | .d x => some (.d x, p.2)
  | .c k => (p.2[k]?).bind fun o => o.val.map fun x => (.d x, p.2.set k .gone)
  | .s _ => none
theorem oFrz (h : PE X e (tE X.K c)) : PE X e (tE X.K (cFrz c)) := by
  refine ⟨fun pins s σ H Q I ⟨F, A, S, en, r, S', hs, he, ec, k⟩ => ?_⟩
  obtain ⟨⟨r1, S1⟩, e1, ec⟩ := Option.bind_eq_some_iff.mp ec
  have hrun := h.run pins s σ H (fun v H1 => ∃ F1 A1, HSt X.K F1 A1 H1 S1 ∧ Ext F A H F1 A1 H1 ∧ RpR X.K F1 A1 v r1) I ⟨F, A, S, en, r1, S1, hs, he, e1, fun v H1 F1 A1 hs1 x1 p1 => ⟨F1, A1, hs1, x1, p1⟩⟩
  refine thn hrun fun u s1 ⟨v, H1, I1, rv, F1, A1, hs1, x1, p1⟩ => ?_
  cases r1 with
  | d x => cases ec; exact ⟨v, H1, I1, rv, k v H1 F1 A1 hs1 x1 p1⟩
  | s ns => cases ec
  | c j =>
    obtain ⟨o, eo, ec⟩ := Option.bind_eq_some_iff.mp ec
    obtain ⟨x, ex, ec⟩ := Option.map_eq_some_iff.mp ec
    cases ec
    obtain ⟨a, ea, rfl⟩ := p1
    obtain ⟨a', ea', hc⟩ := Paired.getR hs1.cells eo
    rw [ea] at ea'; cases ea'
    cases o with
    | gone => cases ex
    | lst ds =>
      cases ex
      obtain ⟨_, vs, e3, t⟩ := hc
      obtain ⟨hs2, x2⟩ := hs1.frz (o := .lst vs) ea eo (by simp)
      have eH : upd H1 a (.lst vs) = H1 := by
        funext b
        by_cases hb : b = a
        · subst hb; rw [upd_same, e3]
        · rw [upd_ne hb]
      rw [eH] at hs2 x2
      exact ⟨_, H1, I1, rv, k _ _ _ _ hs2 (x1.trans x2) (Rp.lst upd_same (t.mono x2.ge))⟩
    | dK ds =>
      obtain ⟨_, vs, e3, t⟩ := hc
      obtain ⟨od, I2⟩ := I1.lock e3 trivial
      obtain ⟨hs2, x2⟩ := hs1.frz (o := .frz od (.dK vs)) ea eo (by simp)
      cases ex
      exact ⟨_, _, I2, rv, k _ _ _ _ hs2 (x1.trans x2) (Rp.dK upd_same (t.mono x2.ge))⟩
    | dT ds =>
      cases ex
      obtain ⟨_, vs, e3, t⟩ := hc
      obtain ⟨od, I2⟩ := I1.lock e3 trivial
      obtain ⟨hs2, x2⟩ := hs1.frz (o := .frz od (.dT vs)) ea eo (by simp)
      exact ⟨_, _, I2, rv, k _ _ _ _ hs2 (x1.trans x2) (Rp.dT upd_same (t.mono x2.ge))⟩
/-- a new dict (at a place of its own) is locked for good -/
def tLk (t : TE) : TE := fun σ H Q => t σ H fun v H' => ∃ d u, v = .ref d ∧ H' d = some u ∧ Mut (some u) ∧ ∀ od, Q v (upd H' d (.frz od u))
theorem pe_lk {t : TE} (h : PE X e t) : PE X e (tLk t) := by
  refine ⟨fun pins s σ H Q I hw => ?_⟩
  refine thn (h.run pins s σ H _ I hw) fun u s1 ⟨v, H1, I1, rv, d, o, e1, e2, mu, q⟩ => ?_
  obtain ⟨od, I2⟩ := I1.lock e2 mu
  exact ⟨v, _, I2, rv, q od⟩
end

/-! ### for -/
def forN (g : CdG) (b : CdS) : List Dt → CdS
  | [] => fun en S => some (.nx, en, S)
  | d :: ds => fun en S => (g (.d d) en).bind fun en1 => (b en1 S).bind fun q => match q.1 with
    | .nx => forN g b ds q.2.1 q.2.2
    | .ct => forN g b ds q.2.1 q.2.2
    | .bk => some (.nx, q.2.1, q.2.2)
    | .ret r => some (.ret r, q.2.1, q.2.2)
def sFor (ci : CdI) (g : CdG) (b : CdS) : CdS := fun en S => (ci en S).bind fun p => forN g b p.1 en p.2
section
variable {X : Cx} {tg iter : Expr} {pos : Pos} {ci : CdI} {g : CdG} {us : List Nat} {b : CdS} {body : List Stmt}
theorem zFor (hp : PassesOwn (model X.prog X.w) X.A X.env X.xe) (hc : X.calm = true) (hi : PI X tg iter (tI X.K ci)) (hg : PG X tg (tG X.K us g)) (hb : PSs X body (tS X.K b))
    (hs : ∀ x, foldedSetIterable iter X.env x = pure x := by intro _; rfl) : PS X (.For tg iter body [] pos) (tS X.K (sFor ci g b)) :=
  (ps_for hp hc hi hg hb hs).weak fun D σ H ⟨F, A, S, en, fl, en', S', hs, he, ec, k⟩ => by
    obtain ⟨⟨ds, S1⟩, e1, ec⟩ := Option.bind_eq_some_iff.mp ec
    refine ⟨F, A, S, en, ds, S1, hs, he, e1, fun J H1 F1 A1 hs1 x1 wk hl => ?_⟩
    refine ⟨fun i m σ2 H2 => m = ds.length - i ∧ ∃ F2 A2 S2 en2, HSt X.K F2 A2 H2 S2 ∧ Ext F1 A1 H1 F2 A2 H2 ∧ EnvR X.K F2 A2 σ2 en2 ∧ forN g b (ds.drop i) en2 S2 = some (fl, en', S'), ⟨ds.length, by simp, F1, A1, S1, en, hs1, .rfl', he.ext x1, by simpa using ec⟩, ?_⟩
    rintro i m σ2 H2 ⟨rfl, F2, A2, S2, en2, hs2, x2, he2, ec2⟩
    obtain ⟨w1, w2⟩ := wk F2 A2 H2 S2 x2.ge hs2 i
    cases ed : ds[i]? with
    | none =>
      refine .inl ⟨w2 ed, ?_⟩
      rw [List.drop_eq_nil_of_le (List.getElem?_eq_none_iff.mp ed)] at ec2
      cases ec2
      exact k σ2 H2 F2 A2 hs2 (x1.trans x2) he2
    | some d =>
      obtain ⟨hlt, e⟩ := List.getElem?_eq_some_iff.mp ed
      rw [List.drop_eq_getElem_cons hlt, e] at ec2
      obtain ⟨go, yl⟩ := w1 d ed
      obtain ⟨en3, e3, ec3⟩ := Option.bind_eq_some_iff.mp ec2
      obtain ⟨⟨fl4, en4, S4⟩, e4, ec4⟩ := Option.bind_eq_some_iff.mp ec3
      refine .inr ⟨go, fun σ' H' => ∃ m', m' < ds.length - i ∧ m' = ds.length - (i + 1) ∧ ∃ F2 A2 S2 en2, HSt X.K F2 A2 H' S2 ∧ Ext F1 A1 H1 F2 A2 H' ∧ EnvR X.K F2 A2 σ' en2 ∧ forN g b (ds.drop (i + 1)) en2 S2 = some (fl, en', S'), fun σ' H' h => h, fun x H3 hy => ?_⟩
      obtain ⟨F3, hs3, x3, hx3⟩ := yl x H3 hy
      refine ⟨F3, A2, S2, en2, .d d, en3, hs3, he2.ext x3, hx3, e3, fun σ4 he4 _ => ?_⟩
      refine ⟨F3, A2, S2, en3, fl4, en4, S4, hs3, he4, e4, ?_⟩
      cases fl4 with
      | nx => exact fun σ5 H5 F5 A5 hs5 x5 he5 => ⟨_, by omega, rfl, F5, A5, S4, en4, hs5, (x2.trans x3).trans x5, he5, ec4⟩
      | ct => exact fun σ5 H5 F5 A5 hs5 x5 he5 => ⟨_, by omega, rfl, F5, A5, S4, en4, hs5, (x2.trans x3).trans x5, he5, ec4⟩
      | bk => cases ec4; exact fun σ5 H5 F5 A5 hs5 x5 he5 => k σ5 H5 F5 A5 hs5 (((x1.trans x2).trans x3).trans x5) he5
      | ret r => cases ec4; exact fun σ5 H5 F5 A5 hs5 x5 he5 => k σ5 H5 F5 A5 hs5 (((x1.trans x2).trans x3).trans x5) he5
end

/-! ### comprehensions -/
def compN (vs : List Nat) (g : CdG) (t : CdB) (c : Cd) : List Dt → En → Ss → Option (List Dt × Ss)
  | [] => fun _ S => some ([], S)
  | d :: ds => fun en S => (g (.d d) (wipeE en vs)).bind fun en1 => (t en1 S).bind fun q =>
    if q.1 = true then (c en1 q.2).bind fun z => match z.1 with
      | .d x => (compN vs g t c ds en z.2).map fun y => (x :: y.1, y.2)
      | _ => none
    else compN vs g t c ds en q.2
def cComp (vs : List Nat) (ci : CdI) (g : CdG) (t : CdB) (c : Cd) : Cd := fun en S => (ci en S).bind fun p => (compN vs g t c p.1 en p.2).map fun y => (.d (.lst y.1), y.2)
def kYes : CdB := fun _ S => some (true, S)
theorem wipe_eq {σ σ' : L2.St} {us vs : List Nat} (h : Chg us σ σ') (hv : ∀ i ∈ us, i ∈ vs) : wipe σ' vs = wipe σ vs := by
  have key : ∀ (vs : List Nat) (σ : L2.St) (i : Nat), (wipe σ vs)[i]? = if i ∈ vs then (if i < σ.length then some none else none) else σ[i]? := by
    intro vs
    induction vs with
    | nil => intro σ i; simp [wipe]
    | cons v vs ih =>
      intro σ i
      unfold wipe
      by_cases hi : v = i
      · subst hi
        simp only [List.mem_cons, true_or, if_true]
        by_cases hl : v < σ.length
        · rw [List.getElem?_set_self (by rw [wipe_length]; exact hl), if_pos hl]
        · rw [List.getElem?_eq_none (by rw [List.length_set, wipe_length]; omega), if_neg hl]
      · rw [List.getElem?_set_ne hi, ih]
        have : (i = v ∨ i ∈ vs) ↔ i ∈ vs := ⟨fun h => h.elim (fun e => absurd e.symm hi) id, .inr⟩
        simp only [List.mem_cons, this]
  apply List.ext_getElem?
  intro i
  rw [key, key, h.1]
  by_cases hi : i ∈ vs
  · rw [if_pos hi, if_pos hi]
  · rw [if_neg hi, if_neg hi]
    exact h.2 i fun z => hi (hv i z)
theorem wipe_wipe (σ : L2.St) (vs : List Nat) : wipe (wipe σ vs) vs = wipe σ vs := wipe_eq (us := vs) ⟨wipe_length _ _, fun i hi => wipe_out hi⟩ fun _ h => h
section
variable {X : Cx} {tg iter elt : Expr} {pos : Pos} {ci : CdI} {g : CdG} {us : List Nat} {c : Cd} {t : CdB} {ifs : List Expr} {scope : Scope} {own : List (Str × Nat)}
theorem lc_ok {K : PySem.W.Frag} {vs : List Nat} (hv : ∀ i ∈ us, i ∈ vs) {σ H Q} (h : tE K (cComp vs ci g t c) σ H Q) : tLc (tI K ci) (tG K us g) (tT K t) (tE K c) vs σ H Q := by
  obtain ⟨F, A, S, en, z, S', hs, he, ec, k⟩ := h
  obtain ⟨⟨ds, S1⟩, e1, ec⟩ := Option.bind_eq_some_iff.mp ec
  obtain ⟨⟨ys, S2⟩, e2, ec⟩ := Option.map_eq_some_iff.mp ec
  cases ec
  refine ⟨F, A, S, en, ds, S1, hs, he, e1, fun J H1 F1 A1 hs1 x1 wk hl Da nD => ?_⟩
  -- the state: acc at Da, outside F and A
  have kp : ∀ a u, H1 a = some u → upd H1 Da (.lst []) a = some u := fun a u e => by rw [upd_ne (ne_of_none e nD)]; exact e
  refine ⟨fun i m H2 => m = ds.length - i ∧ ∃ F2 A2 Si xs zs, HSt K F2 A2 H2 Si ∧ Ext F1 A1 H1 F2 A2 H2 ∧ H2 Da = some (.lst xs) ∧ xs.length ≤ i ∧ Rps K F2 xs zs ∧ F2 Da = none ∧ Da ∉ A2 ∧
    ∃ rest, compN vs g t c (ds.drop i) en Si = some (rest, S2) ∧ zs ++ rest = ys, ⟨ds.length, by simp, F1, A1, S1, [], [], ?_, ⟨Ge.rfl', ⟨[], by simp, by simp⟩, fun a o e _ => kp a o e, (fun a o e n => by rw [e] at n; cases n), fun a e => ?_⟩, upd_same, Nat.zero_le _, .nil, ?_, ?_, ys, by simpa using e2, by simp⟩, ?_⟩
  · exact ⟨fun a u e => kp a u (hs1.sub _ _ e), hs1.nd, Paired.mapM hs1.cells fun a ha so r => CellR.mono Ge.rfl' (fun e => e) (kp a) r⟩
  · by_cases hd : a = Da
    · subst hd; exact nD
    · rw [upd_ne hd] at e; exact e
  · exact hs1.nF nD
  · intro ha
    obtain ⟨u, e⟩ := hs1.there ha
    rw [nD] at e; cases e
  · rintro i m H2 ⟨rfl, F2, A2, Si, xs, zs, hs2, x2, eD, hxl, hz, fD, aD, rest, ec2, ey⟩
    obtain ⟨w1, w2⟩ := wk F2 A2 H2 Si x2.ge hs2 i
    have x12 : Ext F A H F2 A2 H2 := x1.trans x2
    cases ed : ds[i]? with
    | none =>
      refine .inl ⟨w2 ed, ?_⟩
      rw [List.drop_eq_nil_of_le (List.getElem?_eq_none_iff.mp ed)] at ec2
      cases ec2
      rw [List.append_nil] at ey
      subst ey
      -- the new list is frozen
      have g' : Ge F2 (upd F2 Da (.lst xs)) := fun b u e => by rw [upd_ne (ne_of_none e fD)]; exact e
      refine k _ H2 (upd F2 Da (.lst xs)) A2 ⟨fun a u e => ?_, hs2.nd, Paired.mapM hs2.cells fun a ha so r => CellR.mono g' (fun n => ?_) (fun _ z => z) r⟩ ⟨Ge.trans x12.ge g', x12.pre, x12.frame, fun a o e n => ?_, x12.mon⟩ (Rp.lst upd_same (hz.mono g'))
      · by_cases hd : a = Da
        · subst hd; rw [upd_same] at e; cases e; exact eD
        · rw [upd_ne hd] at e; exact hs2.sub _ _ e
      · rw [upd_ne (show a ≠ Da from fun z => aD (z ▸ ha))]; exact n
      · by_cases hd : a = Da
        · subst hd; exact .inl (x1.mon _ nD)
        · rw [upd_ne hd] at e; exact x12.newF a o e n
    | some d =>
      obtain ⟨hlt, e⟩ := List.getElem?_eq_some_iff.mp ed
      rw [List.drop_eq_getElem_cons hlt, e] at ec2
      obtain ⟨go, yl⟩ := w1 d ed
      obtain ⟨en3, e3, ec3⟩ := Option.bind_eq_some_iff.mp ec2
      obtain ⟨⟨q4, S4⟩, e4, ec4⟩ := Option.bind_eq_some_iff.mp ec3
      refine .inr ⟨go, fun H' => ∃ m', m' < ds.length - i ∧ m' = ds.length - (i + 1) ∧ ∃ F2 A2 Si xs zs, HSt K F2 A2 H' Si ∧ Ext F1 A1 H1 F2 A2 H' ∧ H' Da = some (.lst xs) ∧ xs.length ≤ i + 1 ∧ Rps K F2 xs zs ∧ F2 Da = none ∧ Da ∉ A2 ∧
        ∃ rest, compN vs g t c (ds.drop (i + 1)) en Si = some (rest, S2) ∧ zs ++ rest = ys, fun H' h => h, fun x H3 hy => ?_⟩
      obtain ⟨F3, hs3, x3, hx3⟩ := yl x H3 hy
      have heW : EnvR K F3 A2 (wipe σ vs) (wipeE en vs) := ((he.ext (x12.trans x3))).wipe vs
      refine ⟨F3, A2, Si, wipeE en vs, .d d, en3, hs3, heW, hx3, e3, fun σ4 he4 ch => ⟨(wipe_eq ch hv).trans (wipe_wipe σ vs), ?_⟩⟩
      refine ⟨F3, A2, Si, en3, q4, S4, hs3, he4, e4, fun H5 F5 A5 hs5 x5 => ?_⟩
      -- Da stays apart
      have apart : ∀ {F' A' H'}, Ext F2 A2 H2 F' A' H' → H' Da = some (.lst xs) ∧ F' Da = none ∧ Da ∉ A' := fun {F' A' H'} y => by
        refine ⟨y.frame _ _ eD aD, ?_, fun ha => ?_⟩
        · cases q : F' Da with
          | none => rfl
          | some u =>
            rcases y.newF _ _ q fD with h | h | ⟨zs, h⟩
            · rw [eD] at h; cases h
            · exact absurd h aD
            · rw [eD] at h; cases h
        · obtain ⟨B, eB, hB⟩ := y.pre
          rw [eB] at ha
          rcases List.mem_append.mp ha with h | h
          · exact aD h
          · have := hB _ h; rw [eD] at this; cases this
      have x25 := x3.trans x5
      cases q4 with
      | false =>
        obtain ⟨a1, a2, a3⟩ := apart x25
        exact ⟨_, by omega, rfl, F5, A5, S4, xs, zs, hs5, x2.trans x25, a1, by omega, hz.mono x25.ge, a2, a3, rest, ec4, ey⟩
      | true =>
        obtain ⟨⟨r6, S6⟩, e6, ec6⟩ := Option.bind_eq_some_iff.mp ec4
        refine ⟨F5, A5, S4, en3, r6, S6, hs5, he4.ext x5, e6, fun v H7 F7 A7 hs7 x7 p7 => ?_⟩
        cases r6 with
        | c _ => cases ec6
        | s _ => cases ec6
        | d x6 =>
          obtain ⟨⟨y8, S8⟩, e8, ec8⟩ := Option.map_eq_some_iff.mp ec6
          cases ec8
          have x27 := x25.trans x7
          obtain ⟨a1, a2, a3⟩ := apart x27
          refine ⟨xs, a1, by omega, _, by omega, rfl, F7, A7, S6, xs ++ [v], zs ++ [x6], ?_, ?_, upd_same, by simp; omega, (hz.mono x27.ge).append (.cons p7 .nil), a2, a3, y8, e8, by simpa using ey⟩
          · have kq : ∀ a u, a ≠ Da → H7 a = some u → upd H7 Da (.lst (xs ++ [v])) a = some u := fun a u hd e => by rw [upd_ne hd]; exact e
            exact ⟨fun a u e => kq a u (fun z => by rw [z, a2] at e; cases e) (hs7.sub _ _ e), hs7.nd, Paired.mapM hs7.cells fun a ha so r => have hne : a ≠ Da := fun z => a3 (z ▸ ha); CellR.mono Ge.rfl' (fun e => e) (fun u e => kq a u hne e) r⟩
          · have y := x2.trans x27
            refine ⟨y.ge, y.pre, fun a o e hA => ?_, y.newF, fun a e => ?_⟩
            · have hd : a ≠ Da := fun z => by rw [z, nD] at e; cases e
              rw [upd_ne hd]; exact y.frame a o e hA
            · by_cases hd : a = Da
              · subst hd; rw [upd_same] at e; cases e
              · rw [upd_ne hd] at e; exact y.mon a e
end
end OA
namespace OA
open PySem PySem.Spec PyProof.Rows L2

/-! ### joining rules -/
def rOr (r r' : R2) : R2 := fun x y H Q => r x y H Q ∨ r' x y H Q
theorem opr_or {X : Cx} {f : Value → Value → Sem Value} {r r' : R2} (h : OpR X f r) (h' : OpR X f r') : OpR X f (rOr r r') := fun pins s σ H x y v u Q I rx ry q => q.elim (h pins s σ H x y v u Q I rx ry) (h' pins s σ H x y v u Q I rx ry)
def cOr' (r r' : List V → Hp → VK → Prop) : List V → Hp → VK → Prop := fun xs H Q => r xs H Q ∨ r' xs H Q
theorem callr_or {X : Cx} {f : Value} {r r' : List V → Hp → VK → Prop} (h : CallR X f r) (h' : CallR X f r') : CallR X f (cOr' r r') := fun pins s σ H xs us Q I rx q => q.elim (h pins s σ H xs us Q I rx) (h' pins s σ H xs us Q I rx)
/-- an operator whose rule is read off the operands -/
theorem opk_of {K : PySem.W.Frag} {r : R2} {f : F2} (h : ∀ F A H S x y rx ry z Q, HSt K F A H S → RpR K F A x rx → RpR K F A y ry → f S rx ry = some z →
  (∀ v H' F' A', HSt K F' A' H' S → Ext F A H F' A' H' → RpR K F' A' v z → Q v H') → r x y H Q) : OpOk K r f := h

/-! ### whole numbers -/
def fI2 (g : Int → Int → Option Dt) : F2 := fun S a b => match get S a, get S b with
  | some (.int i), some (.int j) => (g i j).map .d
  | _, _ => none
theorem fI2_in {g : Int → Int → Option Dt} {S a b z} (h : fI2 g S a b = some z) : ∃ i j d, get S a = some (.int i) ∧ get S b = some (.int j) ∧ g i j = some d ∧ z = .d d := by
  unfold fI2 at h
  split at h
  · rename_i i j h1 h2
    obtain ⟨d, e, rfl⟩ := Option.map_eq_some_iff.mp h
    exact ⟨i, j, d, h1, h2, e, rfl⟩
  · cases h
theorem okI {K : PySem.W.Frag} {C : Int → Int → Prop} {gv : Int → Int → V} {g : Int → Int → Option Dt} (hg : ∀ i j d, g i j = some d → C i j ∧ ∀ F, Rp K F (gv i j) d) : OpOk K (rI C gv) (fI2 g) := by
  intro F A H S x y rx ry z Q hs px py e k
  obtain ⟨i, j, d, e1, e2, e3, rfl⟩ := fI2_in e
  obtain ⟨hc, hd⟩ := hg i j d e3
  exact ⟨i, j, HSt.rdI px e1, HSt.rdI py e2, hc, k _ _ _ _ hs .rfl' (hd F)⟩
theorem okI0 {K : PySem.W.Frag} {gv : Int → Int → V} {g : Int → Int → Option Dt} (hg : ∀ i j d, g i j = some d → ∀ F, Rp K F (gv i j) d) : OpOk K (rI0 gv) (fI2 g) := by
  intro F A H S x y rx ry z Q hs px py e k
  obtain ⟨i, j, d, e1, e2, e3, rfl⟩ := fI2_in e
  exact ⟨i, j, HSt.rdI px e1, HSt.rdI py e2, k _ _ _ _ hs .rfl' (hg i j d e3 F)⟩
def fSub : F2 := fI2 fun i j => some (.int (i - j))
def fMul : F2 := fI2 fun i j => if i.natAbs.log2 + j.natAbs.log2 < 1000000 then some (.int (i * j)) else none
def fDiv : F2 := fI2 fun i j => if 0 < j ∧ j.natAbs.log2 < 9000 then some (.int (i / j)) else none
def fMod : F2 := fI2 fun i j => if 0 < j then some (.int (i % j)) else none
def fPow : F2 := fI2 fun i j => if 0 ≤ j ∧ j ≤ 1000 ∧ i.natAbs < 2 ^ 64 then some (.int (i ^ j.toNat)) else none
theorem okSub {K} : OpOk K (rI0 fun i j => .int (i - j)) fSub := okI0 fun i j d h F => by cases h; exact .int _
theorem okMul {K} : OpOk K (rI CMulW fun i j => .int (i * j)) fMul := okI fun i j d h => by
  split at h
  · cases h; exact ⟨‹_›, fun F => .int _⟩
  · cases h
theorem okDiv {K} : OpOk K (rI CDivW fun i j => .int (i / j)) fDiv := okI fun i j d h => by
  split at h
  · cases h; exact ⟨‹_›, fun F => .int _⟩
  · cases h
theorem okMod {K} : OpOk K (rI (fun _ j => 0 < j) fun i j => .int (i % j)) fMod := okI fun i j d h => by
  split at h
  · cases h; exact ⟨‹_›, fun F => .int _⟩
  · cases h
theorem okPow {K} : OpOk K (rI CPow fun i j => .int (i ^ j.toNat)) fPow := okI fun i j d h => by
  split at h
  · rename_i hh
    cases h; exact ⟨⟨hh.1, by omega, hh.2.2⟩, fun F => .int _⟩
  · cases h
def fLe : F2 := fI2 fun i j => some (.bl (decide (i ≤ j)))
def fGt : F2 := fI2 fun i j => some (.bl (decide (j < i)))
def fGe : F2 := fI2 fun i j => some (.bl (decide (j ≤ i)))
theorem okLe {K} : OpOk K (rI0 fun i j => .bl (decide (i ≤ j))) fLe := okI0 fun i j d h F => by cases h; exact .bl _
theorem okGt {K} : OpOk K (rI0 fun i j => .bl (decide (j < i))) fGt := okI0 fun i j d h F => by cases h; exact .bl _
theorem okGe {K} : OpOk K (rI0 fun i j => .bl (decide (j ≤ i))) fGe := okI0 fun i j d h F => by cases h; exact .bl _

/-! ### < of numbers, of texts -/
def fLt : F2 := fun S a b => match get S a, get S b with
  | some (.int i), some (.int j) => some (.d (.bl (decide (i < j))))
  | some (.str x), some (.str y) => some (.d (.bl (decide (x.cps.toList < y.cps.toList))))
  | _, _ => none
abbrev rLt : R2 := rOr (rI0 fun i j => .bl (decide (i < j))) (fun x y H Q => ∃ i j, x = .str i ∧ y = .str j ∧ Q (.bl (decide (i.cps.toList < j.cps.toList))) H)
theorem opLt {X : Cx} : OpR X (compareOp .Lt) rLt := opr_or op_lt op_lt_str
theorem okLt {K} : OpOk K rLt fLt := by
  intro F A H S x y rx ry z Q hs px py e k
  unfold fLt at e
  split at e
  · rename_i i j e1 e2; cases e
    exact .inl ⟨i, j, HSt.rdI px e1, HSt.rdI py e2, k _ _ _ _ hs .rfl' (Rp.bl _)⟩
  · rename_i i j e1 e2; cases e
    exact .inr ⟨i, j, HSt.rdS px e1, HSt.rdS py e2, k _ _ _ _ hs .rfl' (Rp.bl _)⟩
  · cases e

/-! ### + -/
/-- t + u, the new tuple's object told -/
def rCatN (K : PySem.W.Frag) : R2 := fun x y H Q => ∃ a b xs ys, x = .ref a ∧ y = .ref b ∧ SqT K H a xs ∧ SqT K H b ys ∧ xs.length + ys.length ≤ sizeLine ∧
  (xs = [] → Q (.ref b) H) ∧ (xs ≠ [] → ys = [] → Q (.ref a) H) ∧ (xs ≠ [] → ys ≠ [] → newT H (xs ++ ys) Q)
theorem op_catN {X : Cx} : OpR X (binaryOp .Add) (rCatN X.K) := by
  rintro pins s σ H x y v u Q I rx ry ⟨a, b, xs, ys, rfl, rfl, ha, hb, hz, q0, q1, q2⟩
  cases rx
  cases ry
  obtain ⟨its, r1, p1, _⟩ := I.tuple ha
  obtain ⟨its2, r2, p2, _⟩ := I.tuple hb
  by_cases hx : xs = []
  · subst hx
    cases r1
    exact cat_tup0 p1 p2 ⟨.ref b, H, I, rfl, q0 rfl⟩
  · refine HT.cat_tup p1 p2 (fun z => hx (r1.nil_iff.mp z)) (fun z => ⟨.ref a, H, I, rfl, q1 hx (r2.nil_iff.mp z)⟩) (fun z => ?_) (by rw [← r1.length, ← r2.length]; exact hz)
    obtain ⟨o, ho, q⟩ := q2 hx (fun w => z (r2.nil_iff.mpr w)) _ { cls := .type "tuple", data := .seq (its ++ its2).toArray } (I.hok.fresh (Nat.le_refl _)) rfl
    have I2 := I.newTup (r1.append r2) (by rw [List.length_append]; exact hz) ho s.toks
    exact ⟨.ref s.heap.objs.size, _, I2, rfl, q⟩
def fAdd : F2 := fun S a b => match get S a, get S b with
  | some (.int i), some (.int j) => some (.d (.int (i + j)))
  | some (.str x), some (.str y) => if x.length + y.length ≤ 1000 then some (.d (.str (x ++ y))) else none
  | some (.lst xs), some (.lst ys) => if xs.length + ys.length ≤ 1000 then some (.d (.lst (xs ++ ys))) else none
  | some x, some y => match tupV x, tupV y with
    | some xs, some ys => if xs.length + ys.length ≤ 1000 then (if xs.isEmpty then some (.d y) else if ys.isEmpty then some (.d x) else some (.d (.tup (xs ++ ys)))) else none
    | _, _ => none
  | _, _ => none
abbrev rAdd (K : PySem.W.Frag) : R2 := rOr (rI0 fun i j => .int (i + j)) (rOr (fun x y H Q => ∃ i j, x = .str i ∧ y = .str j ∧ i.length + j.length ≤ sizeLine ∧ Q (.str (i ++ j)) H) (rOr rCat (rCatN K)))
theorem opAdd {X : Cx} : OpR X (binaryOp .Add) (rAdd X.K) := opr_or op_add (opr_or op_add_str (opr_or op_cat op_catN))
theorem okAdd {K} : OpOk K (rAdd K) fAdd := by
  intro F A H S x y rx ry z Q hs px py e k
  unfold fAdd at e
  split at e
  · rename_i i j e1 e2; cases e
    exact .inl ⟨i, j, HSt.rdI px e1, HSt.rdI py e2, k _ _ _ _ hs .rfl' (Rp.int _)⟩
  · rename_i i j e1 e2
    split at e <;> cases e
    exact .inr (.inl ⟨i, j, HSt.rdS px e1, HSt.rdS py e2, Nat.le_of_lt (small1000 ‹_›), k _ _ _ _ hs .rfl' (Rp.str _)⟩)
  · rename_i xs ys e1 e2
    split at e <;> cases e
    rename_i hl
    obtain ⟨a, us, rfl, ha, ra⟩ := hs.rdL px e1
    obtain ⟨b, ws, rfl, hb, rb⟩ := hs.rdL py e2
    refine .inr (.inr (.inl ⟨a, b, us, ws, rfl, rfl, ha, hb, Nat.le_of_lt (small1000 (by rw [ra.length, rb.length]; exact hl)), fun p np => ?_⟩))
    obtain ⟨h1, x1⟩ := hs.lay (o := .lst (us ++ ws)) np
    exact k _ _ _ _ h1 x1 (Rp.lst upd_same ((ra.append rb).mono x1.ge))
  · rename_i dx dy _ _ _ e1 e2
    split at e
    · rename_i xs ys t1 t2
      split at e
      · rename_i hl
        obtain ⟨a, us, rfl, ha, ra⟩ := hs.rdT px e1 t1
        obtain ⟨b, ws, rfl, hb, rb⟩ := hs.rdT py e2 t2
        have pa : ∀ {v r x ds}, RpR K F A v r → get S r = some x → tupV x = some ds → RpR K F A v (.d x) := fun {v r x ds} p g t => by
          cases r with
          | d x => cases g; exact p
          | s ns => cases g
          | c k =>
            obtain ⟨so, e1, e2⟩ := Option.bind_eq_some_iff.mp g
            cases so <;> cases e2 <;> cases t
        refine .inr (.inr (.inr ⟨a, b, us, ws, rfl, rfl, ha, hb, Nat.le_of_lt (small1000 (by rw [ra.length, rb.length]; exact hl)), fun e0 => ?_, fun e0 e1' => ?_, fun n1 n2 => ?_⟩))
        · subst e0
          cases ra
          simp at e
          subst e
          exact k _ _ _ _ hs .rfl' (pa py e2 t2)
        · subst e1'
          cases rb
          have : xs ≠ [] := fun z => by subst z; cases ra; exact e0 rfl
          simp [this] at e
          subst e
          exact k _ _ _ _ hs .rfl' (pa px e1 t1)
        · have m1 : xs ≠ [] := fun z => by subst z; cases ra; exact n1 rfl
          have m2 : ys ≠ [] := fun z => by subst z; cases rb; exact n2 rfl
          simp [m1, m2] at e
          subst e
          exact newT_ok hs (ra.append rb) k
      · cases e
    · cases e
  · cases e

/-! ### == != is in -/
def fEq : F2 := fun S a b => match get S a, get S b with
  | some x, some y => if SeqAt.shaped x.py = true ∧ SeqAt.shaped y.py = true then some (.d (.bl (PyData.eqv x.py y.py))) else none
  | _, _ => none
def fNe : F2 := fun S a b => match get S a, get S b with
  | some x, some y => if SeqAt.shaped x.py = true ∧ SeqAt.shaped y.py = true then some (.d (.bl (!PyData.eqv x.py y.py))) else none
  | _, _ => none
theorem okEq {K} : OpOk K (rEqD K) fEq := by
  intro F A H S x y rx ry z Q hs px py e k
  unfold fEq at e
  split at e
  · rename_i d d' e1 e2
    split at e <;> cases e
    rename_i hh
    exact ⟨d.py, d'.py, hs.dp px e1 hh.1, hs.dp py e2 hh.2, hh.1, hh.2, k _ _ _ _ hs .rfl' (Rp.bl _)⟩
  · cases e
theorem okNe {K} : OpOk K (rNeD K) fNe := by
  intro F A H S x y rx ry z Q hs px py e k
  unfold fNe at e
  split at e
  · rename_i d d' e1 e2
    split at e <;> cases e
    rename_i hh
    exact ⟨d.py, d'.py, hs.dp px e1 hh.1, hs.dp py e2 hh.2, hh.1, hh.2, k _ _ _ _ hs .rfl' (Rp.bl _)⟩
  · cases e
def isNon : R → Bool
  | .d .non => true
  | _ => false
theorem isNon_v {K F A v r} (h : RpR K F A v r) : decide (v = .non) = isNon r := by
  cases r with
  | d x => cases h <;> rfl
  | c k => obtain ⟨a, _, rfl⟩ := h; rfl
  | s ns => obtain ⟨a, rfl, _⟩ := h; rfl
def fIsN : F2 := fun S a b => if isNon b then some (.d (.bl (isNon a))) else none
def fNotN : F2 := fun S a b => if isNon b then some (.d (.bl (!isNon a))) else none
theorem okIsN {K} : OpOk K (fun x y H Q => y = .non ∧ Q (.bl (decide (x = .non))) H) fIsN := by
  intro F A H S x y rx ry z Q hs px py e k
  unfold fIsN at e
  split at e <;> cases e
  rename_i hh
  have := isNon_v py
  rw [hh] at this
  exact ⟨of_decide_eq_true this, by rw [isNon_v px]; exact k _ _ _ _ hs .rfl' (Rp.bl _)⟩
theorem okNotN {K} : OpOk K (fun x y H Q => y = .non ∧ Q (.bl (!decide (x = .non))) H) fNotN := by
  intro F A H S x y rx ry z Q hs px py e k
  unfold fNotN at e
  split at e <;> cases e
  rename_i hh
  have := isNon_v py
  rw [hh] at this
  exact ⟨of_decide_eq_true this, by rw [isNon_v px]; exact k _ _ _ _ hs .rfl' (Rp.bl _)⟩
def fIsB (neg : Bool) : F2 := fun S a b => match get S a, get S b with
  | some (.bl x), some (.bl y) => some (.d (.bl (if neg then !decide (x = y) else decide (x = y))))
  | _, _ => none
theorem okIsB {K} : OpOk K rIsB (fIsB false) := by
  intro F A H S x y rx ry z Q hs px py e k
  unfold fIsB at e
  split at e
  · rename_i i j e1 e2; cases e
    exact ⟨i, j, HSt.rdB px e1, HSt.rdB py e2, k _ _ _ _ hs .rfl' (Rp.bl _)⟩
  · cases e
theorem okNotB {K} : OpOk K rNotB (fIsB true) := by
  intro F A H S x y rx ry z Q hs px py e k
  unfold fIsB at e
  split at e
  · rename_i i j e1 e2; cases e
    exact ⟨i, j, HSt.rdB px e1, HSt.rdB py e2, k _ _ _ _ hs .rfl' (Rp.bl _)⟩
  · cases e

/-! x in a list, a tuple, a text, a dict -/
def rInT (K : PySem.W.Frag) (neg : Bool) : R2 := fun x y H Q => ∃ d ds, Dp K H x d ∧ Dp K H y (.tuple ds) ∧ SeqAt.shaped d = true ∧ SeqAt.shaped (.tuple ds) = true ∧ Q (.bl (if neg then !(ds.any fun z => PyData.eqv z d) else ds.any fun z => PyData.eqv z d)) H
theorem op_inDT {X : Cx} (hu : X.A.units + 65 < cLine) : OpR X (compareOp .In) (rInT X.K false) := by
  rintro pins s σ H x y v u Q I rx ry ⟨d, ds, hd, he, sd, se, q⟩
  obtain ⟨_, r1⟩ := Dp.reads I d x v hd rx
  obtain ⟨_, r2⟩ := Dp.reads I (.tuple ds) y u he ry
  have room := room_in_shaped (xs := ds) sd hu
  exact SeqAt.in_tuple_reads r2 r1 (SeqAt.canLay_of_shaped se) (SeqAt.canLay_of_shaped sd) room ⟨.bl _, H, I, rfl, q⟩
theorem op_notInDT {X : Cx} (hu : X.A.units + 65 < cLine) : OpR X (compareOp .NotIn) (rInT X.K true) := by
  rintro pins s σ H x y v u Q I rx ry ⟨d, ds, hd, he, sd, se, q⟩
  obtain ⟨_, r1⟩ := Dp.reads I d x v hd rx
  obtain ⟨_, r2⟩ := Dp.reads I (.tuple ds) y u he ry
  have room := room_in_shaped (xs := ds) sd hu
  exact SeqAt.notIn_tuple_reads r2 r1 (SeqAt.canLay_of_shaped se) (SeqAt.canLay_of_shaped sd) room ⟨.bl _, H, I, rfl, q⟩
end OA
namespace OA
open PySem PySem.Spec PyProof.Rows L2

/-! ### dicts by keys -/
/-- the texts of a key tuple -/
def strsOf : List Dt → Option (List Str)
  | [] => some []
  | .str x :: ds => (strsOf ds).map (x :: ·)
  | _ :: _ => none
theorem strsOf_eq : ∀ {ds : List Dt} {ks : List Str}, strsOf ds = some ks → ds = ks.map Dt.str
  | [], _, h => by cases h; rfl
  | .str x :: ds, _, h => by
    obtain ⟨ks, e, rfl⟩ := Option.map_eq_some_iff.mp h
    rw [List.map_cons, ← strsOf_eq e]
  | .non :: _, _, h => by cases h
  | .bl _ :: _, _, h => by cases h
  | .int _ :: _, _, h => by cases h
  | .tup _ :: _, _, h => by cases h
  | .tup0 :: _, _, h => by cases h
  | .pr _ :: _, _, h => by cases h
  | .lst _ :: _, _, h => by cases h
  | .dK _ :: _, _, h => by cases h
  | .dT _ :: _, _, h => by cases h
theorem strsOf_map : ∀ ks : List Str, strsOf (ks.map Dt.str) = some ks
  | [] => rfl
  | x :: ks => by rw [List.map_cons, strsOf, strsOf_map ks]; rfl
def keyT : Dt → Option (List Str)
  | .tup ds => strsOf ds
  | _ => none
def keyK : Dt → Option Str
  | .str x => some x
  | _ => none
/-- what a dict of texts, of tuples of texts, holds -/
def lookK : List (Dt × Dt) → Str → Option Dt
  | [], _ => none
  | (d, v) :: r, k => if keyK d = some k then some v else lookK r k
def lookT : List (Dt × Dt) → List Str → Option Dt
  | [], _ => none
  | (d, v) :: r, k => if keyT d = some k then some v else lookT r k
def ORp (K : PySem.W.Frag) (F : Hp) : Option V → Option Dt → Prop
  | some v, some d => Rp K F v d
  | none, none => True
  | _, _ => False
theorem inr_inj : ∀ {a b : List Str}, (a.map Sum.inr : List Key) = b.map Sum.inr → a = b
  | [], [], _ => rfl
  | [], _ :: _, h => by cases h
  | _ :: _, [], h => by cases h
  | x :: a, y :: b, h => by
    rw [List.map_cons, List.map_cons] at h
    injection h with h1 h2
    injection h1 with h1
    rw [h1, inr_inj h2]
theorem lookK_rp {K : PySem.W.Frag} {F : Hp} (k : Str) : ∀ {kvs : List (Key × V)} {ds : List (Dt × Dt)}, RpK K F kvs ds → ORp K F (valV kvs (.inr k)) (lookK ds k)
  | _, _, .nil => trivial
  | _, _, .cons (k := k') h t => by
    have ih := lookK_rp (K := K) (F := F) k t
    by_cases e : k' = k
    · subst e
      rw [valV_pos rfl, lookK, if_pos (by rfl)]
      exact h
    · rw [valV_neg (fun z => e (by simpa using z)), lookK, if_neg (by simp [keyK, e])]
      exact ih
theorem lookT_rp {K : PySem.W.Frag} {F : Hp} (k : List Str) : ∀ {kvs : List (List Key × V)} {ds : List (Dt × Dt)}, RpT K F kvs ds → ORp K F (valV kvs (k.map .inr)) (lookT ds k)
  | _, _, .nil => trivial
  | _, _, .cons (k := k') h t => by
    have ih := lookT_rp (K := K) (F := F) k t
    by_cases e : k' = k
    · subst e
      rw [valV_pos rfl, lookT, if_pos (by show strsOf _ = _; exact strsOf_map _)]
      exact h
    · rw [valV_neg (fun z => e (inr_inj (by simpa using z))), lookT, if_neg (by show ¬ strsOf _ = _; rw [strsOf_map]; simpa using e)]
      exact ih
section
variable {K : PySem.W.Frag} {F F' F2 : Hp} {A A' A2 : List Addr} {H H' H2 : Hp} {S S' : Ss} {v : V} {r : R}
theorem HSt.rdK {ds : List (Dt × Dt)} (h : HSt K F A H S) (q : RpR K F A v r) (g : get S r = some (.dK ds)) : ∃ a kvs, v = .ref a ∧ Rd H a (.dK kvs) ∧ RpK K F kvs ds := by
  cases r with
  | d x => cases g; cases q with | dK e t => exact ⟨_, _, rfl, .inr ⟨_, h.sub _ _ e⟩, t⟩
  | s ns => cases g
  | c k =>
    obtain ⟨a, ea, rfl⟩ := q
    obtain ⟨so, e1, e2⟩ := Option.bind_eq_some_iff.mp g
    obtain ⟨a', ea', hc⟩ := Paired.getR h.cells e1
    rw [ea] at ea'; cases ea'
    cases so with
    | dK ds' => cases e2; obtain ⟨_, vs, e3, t⟩ := hc; exact ⟨a, vs, rfl, .inl e3, t⟩
    | _ => cases e2
theorem HSt.rdDT {ds : List (Dt × Dt)} (h : HSt K F A H S) (q : RpR K F A v r) (g : get S r = some (.dT ds)) : ∃ a kvs, v = .ref a ∧ Rd H a (.dT kvs) ∧ RpT K F kvs ds := by
  cases r with
  | d x => cases g; cases q with | dT e t => exact ⟨_, _, rfl, .inr ⟨_, h.sub _ _ e⟩, t⟩
  | s ns => cases g
  | c k =>
    obtain ⟨a, ea, rfl⟩ := q
    obtain ⟨so, e1, e2⟩ := Option.bind_eq_some_iff.mp g
    obtain ⟨a', ea', hc⟩ := Paired.getR h.cells e1
    rw [ea] at ea'; cases ea'
    cases so with
    | dT ds' => cases e2; obtain ⟨_, vs, e3, t⟩ := hc; exact ⟨a, vs, rfl, .inl e3, t⟩
    | _ => cases e2
theorem key_vs {K : PySem.W.Frag} {F : Hp} : ∀ (ks : List Str) {xs : List V}, Rps K F xs (ks.map Dt.str) → xs = (ks.map Sum.inr : List Key).map kV
  | [], _, .nil => rfl
  | k :: ks, _, .cons h1 t => by
    cases h1
    rw [key_vs ks t]
    rfl
/-- a key tuple -/
theorem HSt.rdKey {d : Dt} {ks : List Str} (h : HSt K F A H S) (q : RpR K F A v r) (g : get S r = some d) (e : keyT d = some ks) : ∃ b, v = .ref b ∧ H b = some (.tup ((ks.map Sum.inr : List Key).map kV)) := by
  have fin : ∀ {xs : List V} {ds : List Dt}, Rps K F xs ds → strsOf ds = some ks → xs = (ks.map Sum.inr : List Key).map kV := fun hx e => key_vs ks (strsOf_eq e ▸ hx)
  cases r with
  | d x =>
    cases g
    cases q with
    | tupS _ e1 u => exact ⟨_, rfl, by rw [h.sub _ _ e1, fin u e]⟩
    | @tupP _ _ _ ds c e1 _ u =>
      have := strsOf_eq e
      subst this
      rw [all_str] at c; cases c
    | kt e1 => cases e
    | _ => cases e
  | s ns => cases g
  | c k =>
    obtain ⟨so, e1, e2⟩ := Option.bind_eq_some_iff.mp g
    cases so <;> cases e2 <;> cases e
end

/-! ### x in y -/
def isIn (S : Ss) (a b : R) : Option Bool := match get S a, get S b with
  | some (.str x), some (.str y) => match x.cps.toList with
    | [c] => some (decide (c ∈ y.cps.toList))
    | _ => none
  | some x, some (.lst ys) => if SeqAt.shaped x.py = true ∧ SeqAt.shaped (Dt.lst ys).py = true then some ((Dt.pys ys).any fun z => PyData.eqv z x.py) else none
  | some x, some (.tup ys) => if SeqAt.shaped x.py = true ∧ SeqAt.shaped (Dt.tup ys).py = true then some ((Dt.pys ys).any fun z => PyData.eqv z x.py) else none
  | some x, some (.dK ds) => (keyK x).map fun k => (lookK ds k).isSome
  | some x, some (.dT ds) => (keyT x).map fun k => (lookT ds k).isSome
  | _, _ => none
def fIn : F2 := fun S a b => (isIn S a b).map fun k => .d (.bl k)
def fNotIn : F2 := fun S a b => (isIn S a b).map fun k => .d (.bl !k)
abbrev rInS : R2 := fun x y H Q => ∃ (c : Nat) (z : Str), x = .str ⟨#[c]⟩ ∧ y = .str z ∧ Q (.bl (decide (c ∈ z.cps.toList))) H
abbrev rNotInS : R2 := fun x y H Q => ∃ (c : Nat) (z : Str), x = .str ⟨#[c]⟩ ∧ y = .str z ∧ Q (.bl (!decide (c ∈ z.cps.toList))) H
def rInDi : R2 := fun y x H Q => ∃ a o, x = .ref a ∧ DGet H a y o ∧ Q (.bl o.isSome) H
def rNotInDi : R2 := fun y x H Q => ∃ a o, x = .ref a ∧ DGet H a y o ∧ Q (.bl !o.isSome) H
theorem op_inDi {X : Cx} (hu : X.A.units + 1 < cLine) : OpR X (compareOp .In) rInDi := by
  rintro pins s σ H y x u v Q I ry rx ⟨a, o, rfl, g, q⟩
  cases rx
  exact d_in hu I g ry fun s3 I3 => ⟨.bl o.isSome, H, I3, rfl, q⟩
theorem op_notInDi {X : Cx} (hu : X.A.units + 1 < cLine) : OpR X (compareOp .NotIn) rNotInDi := by
  rintro pins s σ H y x u v Q I ry rx ⟨a, o, rfl, g, q⟩
  cases rx
  exact d_notIn hu I g ry fun s3 I3 => ⟨.bl (!o.isSome), H, I3, rfl, q⟩
abbrev rIn' (K : PySem.W.Frag) : R2 := rOr rInS (rOr (rInD K) (rOr (rInT K false) rInDi))
abbrev rNotIn' (K : PySem.W.Frag) : R2 := rOr rNotInS (rOr (rNotInD K) (rOr (rInT K true) rNotInDi))
theorem opIn {X : Cx} {k : Nat} (hr : Room k X.A) : OpR X (compareOp .In) (rIn' X.K) :=
  opr_or op_in_sign (opr_or (op_inD (by have := hr.un; omega)) (opr_or (op_inDT (by have := hr.un; omega)) (op_inDi (by have := hr.un; omega))))
theorem opNotIn {X : Cx} {k : Nat} (hr : Room k X.A) : OpR X (compareOp .NotIn) (rNotIn' X.K) :=
  opr_or op_notIn_sign (opr_or (op_notInD (by have := hr.un; omega)) (opr_or (op_notInDT (by have := hr.un; omega)) (op_notInDi (by have := hr.un; omega))))
theorem orp_some {K : PySem.W.Frag} {F : Hp} {o : Option V} {d : Option Dt} (h : ORp K F o d) : o.isSome = d.isSome := by
  cases o <;> cases d <;> first | rfl | exact h.elim
theorem one_sign {x : Str} {c : Nat} (h : x.cps.toList = [c]) : x = ⟨#[c]⟩ := by
  cases x with
  | mk a =>
    cases a with
    | mk l => simp at h; subst h; rfl
theorem okIn' {K : PySem.W.Frag} {neg : Bool} {F A H S x y rx ry k Q} (hs : HSt K F A H S) (px : RpR K F A x rx) (py : RpR K F A y ry) (e : isIn S rx ry = some k) (q : Q (.bl (if neg then !k else k)) H) :
    if neg then rNotIn' K x y H Q else rIn' K x y H Q := by
  unfold isIn at e
  split at e
  · rename_i a b e1 e2
    split at e
    · rename_i c hc
      cases e
      have e3 := one_sign hc
      subst e3
      have ex := HSt.rdS px e1
      have ey := HSt.rdS py e2
      subst ex ey
      cases neg with
      | true => exact .inl ⟨c, b, rfl, rfl, q⟩
      | false => exact .inl ⟨c, b, rfl, rfl, q⟩
    · cases e
  · rename_i d ys _ e1 e2
    split at e <;> cases e
    rename_i hh
    have d1 := hs.dp px e1 hh.1
    have d2 := hs.dp py e2 hh.2
    have h2 := hh.2
    unfold Dt.py at d2 h2
    cases neg with
    | true => exact .inr (.inl ⟨_, _, d1, d2, hh.1, h2, q⟩)
    | false => exact .inr (.inl ⟨_, _, d1, d2, hh.1, h2, q⟩)
  · rename_i d ys _ e1 e2
    split at e <;> cases e
    rename_i hh
    have d1 := hs.dp px e1 hh.1
    have d2 := hs.dp py e2 hh.2
    have h2 := hh.2
    unfold Dt.py at d2 h2
    cases neg with
    | true => exact .inr (.inr (.inl ⟨_, _, d1, d2, hh.1, h2, q⟩))
    | false => exact .inr (.inr (.inl ⟨_, _, d1, d2, hh.1, h2, q⟩))
  · rename_i d ds e1 e2
    obtain ⟨kk, ek, rfl⟩ := Option.map_eq_some_iff.mp e
    obtain ⟨a, kvs, rfl, hR, hk⟩ := hs.rdK py e2
    obtain ⟨x', rfl⟩ : ∃ x', d = .str x' := by cases d <;> first | exact ⟨_, rfl⟩ | cases ek
    cases ek
    have ex := HSt.rdS px e1
    subst ex
    have g : DGet H a (.str kk) (valV kvs (.inr kk)) := .inl ⟨kvs, .inr kk, hR, rfl, rfl⟩
    have ho := orp_some (lookK_rp kk hk)
    rw [← ho] at q
    cases neg with
    | true => exact .inr (.inr (.inr ⟨a, _, rfl, g, q⟩))
    | false => exact .inr (.inr (.inr ⟨a, _, rfl, g, q⟩))
  · rename_i d ds e1 e2
    obtain ⟨kk, ek, rfl⟩ := Option.map_eq_some_iff.mp e
    obtain ⟨a, kvs, rfl, hR, hk⟩ := hs.rdDT py e2
    obtain ⟨b, rfl, hb⟩ := hs.rdKey px e1 ek
    have g : DGet H a (.ref b) (valV kvs (kk.map .inr)) := .inr ⟨kvs, _, b, hR, rfl, hb, rfl⟩
    have ho := orp_some (lookT_rp kk hk)
    rw [← ho] at q
    cases neg with
    | true => exact .inr (.inr (.inr ⟨a, _, rfl, g, q⟩))
    | false => exact .inr (.inr (.inr ⟨a, _, rfl, g, q⟩))
  · cases e
theorem okIn {K} : OpOk K (rIn' K) fIn := by
  intro F A H S x y rx ry z Q hs px py e k
  obtain ⟨b, eb, rfl⟩ := Option.map_eq_some_iff.mp e
  exact okIn' (neg := false) hs px py eb (k _ _ _ _ hs .rfl' (Rp.bl _))
theorem okNotIn {K} : OpOk K (rNotIn' K) fNotIn := by
  intro F A H S x y rx ry z Q hs px py e k
  obtain ⟨b, eb, rfl⟩ := Option.map_eq_some_iff.mp e
  exact okIn' (neg := true) hs px py eb (k _ _ _ _ hs .rfl' (Rp.bl _))

/-! ### x[i] -/
def fIx : F2 := fun S a b => match a, get S b with
  | .s ns, some (.int i) => (atI ns i).map fun z => .d (.int z)
  | a, some (.int i) => match get S a with
    | some (.lst ds) => (atI ds i).map .d
    | some (.tup ds) => (atI ds i).map .d
    | some (.pr ds) => (atI ds i).map .d
    | _ => none
  | a, some (.str k) => match get S a with
    | some (.dK ds) => (lookK ds k).map .d
    | _ => none
  | a, some (.tup ks) => match get S a with
    | some (.dT ds) => (strsOf ks).bind fun k => (lookT ds k).map .d
    | _ => none
  | _, _ => none
def rIxD : R2 := fun x y H Q => ∃ a v, x = .ref a ∧ DGet H a y (some v) ∧ Q v H
theorem ix_dic {X : Cx} (hu : X.A.units + 1 < cLine) : IxR X rIxD := by
  rintro value slice pins s σ H x y v u Q I rx ry ⟨a, w, rfl, g, q⟩ hs
  cases rx
  exact tail_any (dict_typeIs I g) PySem.F.slot_dict_getitem.lookup (d_getItem hu I g ry fun w' s3 I3 rw' => ⟨w, H, I3, rw', q⟩) hs
abbrev rIx' (K : PySem.W.Frag) : R2 := fun x y H Q => rIxL K x y H Q ∨ (rIxT K x y H Q ∨ rIxD x y H Q)
theorem ixAny {X : Cx} {k : Nat} (hr : Room k X.A) : IxR X (rIx' X.K) := ix_list.or (ix_tup.or (ix_dic (by have := hr.un; omega)))
theorem Rps.atI {K : PySem.W.Frag} {F : Hp} {vs : List V} {ds : List Dt} {i : Int} {d : Dt} (h : Rps K F vs ds) (e : atI ds i = some d) : ∃ v, L2.atI vs i = some v ∧ Rp K F v d := by
  unfold L2.atI at e ⊢
  obtain ⟨j, e1, e2⟩ := Option.bind_eq_some_iff.mp e
  obtain ⟨v, e3, hv⟩ := h.get e2
  exact ⟨v, by rw [h.length, e1]; exact e3, hv⟩
theorem atI_map {α β : Type} (f : α → β) (xs : List α) (i : Int) : L2.atI (xs.map f) i = (L2.atI xs i).map f := by
  unfold L2.atI
  rw [List.length_map]
  cases ixN xs.length i with
  | none => rfl
  | some j => simp
theorem okIx {K} : OpOk K (rIx' K) fIx := by
  intro F A H S x y rx ry z Q hs px py e k
  unfold fIx at e
  split at e
  · rename_i ns i ei
    obtain ⟨w, ew, rfl⟩ := Option.map_eq_some_iff.mp e
    obtain ⟨a, rfl, hq⟩ := px
    have ey := HSt.rdI py ei
    subst ey
    exact .inl ⟨a, _, i, .int w, rfl, rfl, SqL.mono hs.sub hq, by rw [atI_map, ew]; rfl, k _ _ _ _ hs .rfl' (Rp.int _)⟩
  · rename_i i _ ei
    have ey := HSt.rdI py ei
    subst ey
    split at e
    · rename_i ds ed
      obtain ⟨w, ew, rfl⟩ := Option.map_eq_some_iff.mp e
      obtain ⟨a, xs, rfl, ha, hx⟩ := hs.rdL px ed
      obtain ⟨v, ev, hv⟩ := hx.atI ew
      exact .inl ⟨a, xs, i, v, rfl, rfl, .inl (.inl ha), ev, k _ _ _ _ hs .rfl' hv⟩
    · rename_i ds ed
      obtain ⟨w, ew, rfl⟩ := Option.map_eq_some_iff.mp e
      obtain ⟨a, xs, rfl, ha, hx⟩ := hs.rdT px ed rfl
      obtain ⟨v, ev, hv⟩ := hx.atI ew
      exact .inr (.inl ⟨a, xs, i, v, rfl, rfl, ha, ev, k _ _ _ _ hs .rfl' hv⟩)
    · rename_i ds ed
      obtain ⟨w, ew, rfl⟩ := Option.map_eq_some_iff.mp e
      obtain ⟨a, xs, rfl, ha, hx⟩ := hs.rdT px ed rfl
      obtain ⟨v, ev, hv⟩ := hx.atI ew
      exact .inr (.inl ⟨a, xs, i, v, rfl, rfl, ha, ev, k _ _ _ _ hs .rfl' hv⟩)
    · cases e
  · rename_i kk ek
    have ey := HSt.rdS py ek
    subst ey
    split at e
    · rename_i ds ed
      obtain ⟨w, ew, rfl⟩ := Option.map_eq_some_iff.mp e
      obtain ⟨a, kvs, rfl, hR, hk⟩ := hs.rdK px ed
      have ho := lookK_rp kk hk
      rw [ew] at ho
      cases ev : valV kvs (.inr kk) with
      | none => rw [ev] at ho; exact ho.elim
      | some v =>
        rw [ev] at ho
        exact .inr (.inr ⟨a, v, rfl, .inl ⟨kvs, .inr kk, hR, rfl, ev.symm⟩, k _ _ _ _ hs .rfl' ho⟩)
    · cases e
  · rename_i ks ek
    split at e
    · rename_i ds ed
      obtain ⟨kk, ekk, e⟩ := Option.bind_eq_some_iff.mp e
      obtain ⟨w, ew, rfl⟩ := Option.map_eq_some_iff.mp e
      obtain ⟨a, kvs, rfl, hR, hk⟩ := hs.rdDT px ed
      obtain ⟨b, rfl, hb⟩ := hs.rdKey py ek ekk
      have ho := lookT_rp kk hk
      rw [ew] at ho
      cases ev : valV kvs (kk.map .inr) with
      | none => rw [ev] at ho; exact ho.elim
      | some v =>
        rw [ev] at ho
        exact .inr (.inr ⟨a, v, rfl, .inr ⟨kvs, _, b, hR, rfl, hb, ev.symm⟩, k _ _ _ _ hs .rfl' ho⟩)
    · cases e
  · cases e
section
variable {X : Cx} {a b : Expr} {pos : Pos} {r : R2} {f : F2} {ca cb : Cd}
theorem oIx (ho : IxR X r) (hr : OpOk X.K r f) (ha : PE X a (tE X.K ca)) (hb : PE X b (tE X.K cb)) (hs : PlainIx b) : PE X (.Subscript a b pos) (tE X.K (cBin f ca cb)) := (pe_ix ho ha hb hs).weak fun _ _ _ h => bin_ok hr h
end
end OA
namespace OA
open PySem PySem.Spec PyProof.Rows L2

/-! ### calls of built-ins -/
def fLen : FL := fun S rs => match rs with
  | [.s ns] => some (.d (.int ns.length))
  | [a] => match get S a with
    | some (.lst ds) => some (.d (.int ds.length))
    | some (.str x) => if x.length ≤ 1000 then some (.d (.int x.length)) else none
    | some d => (tupV d).map fun ds => .d (.int ds.length)
    | none => none
  | _ => none
abbrev rLen (K : PySem.W.Frag) : List V → Hp → VK → Prop := cOr' (fun xs H Q => ∃ p ys, xs = [.ref p] ∧ (SqL K H p ys ∨ SqT K H p ys) ∧ Q (.int ys.length) H) (fun xs H Q => ∃ z, xs = [.str z] ∧ z.length ≤ sizeLine ∧ Q (.int z.length) H)
theorem clLen {X : Cx} : CallR X (.builtin "len") (rLen X.K) := callr_or call_len_seq call_len_str
theorem rps1 {K F A} {xs : List V} {r : R} (h : RpRs K F A xs [r]) : ∃ v, xs = [v] ∧ RpR K F A v r := by
  cases h with
  | cons h t => cases t; exact ⟨_, rfl, h⟩
theorem rps2 {K F A} {xs : List V} {r r' : R} (h : RpRs K F A xs [r, r']) : ∃ v v', xs = [v, v'] ∧ RpR K F A v r ∧ RpR K F A v' r' := by
  cases h with
  | cons h t => cases t with | cons h' t => cases t; exact ⟨_, _, rfl, h, h'⟩
theorem ckLen {K} : CallOk K (rLen K) fLen := by
  intro F A H S xs rs z Q hs hx e k
  unfold fLen at e
  split at e
  · rename_i ns
    cases e
    obtain ⟨v, rfl, a, rfl, hq⟩ := rps1 hx
    exact .inl ⟨a, _, rfl, .inl (SqL.mono hs.sub hq), by rw [List.length_map]; exact k _ _ _ _ hs .rfl' (Rp.int _)⟩
  · rename_i a _
    obtain ⟨v, rfl, hv⟩ := rps1 hx
    split at e
    · rename_i ds ed
      cases e
      obtain ⟨b, ys, rfl, hb, hy⟩ := hs.rdL hv ed
      exact .inl ⟨b, ys, rfl, .inl (.inl (.inl hb)), by rw [hy.length]; exact k _ _ _ _ hs .rfl' (Rp.int _)⟩
    · rename_i x ed
      split at e <;> cases e
      have ex := HSt.rdS hv ed
      subst ex
      exact .inr ⟨x, rfl, Nat.le_of_lt (small1000 ‹_›), k _ _ _ _ hs .rfl' (Rp.int _)⟩
    · rename_i d _ _ ed
      obtain ⟨ds, et, rfl⟩ := Option.map_eq_some_iff.mp e
      obtain ⟨b, ys, rfl, hb, hy⟩ := hs.rdT hv ed et
      exact .inl ⟨b, ys, rfl, .inr hb, by rw [hy.length]; exact k _ _ _ _ hs .rfl' (Rp.int _)⟩
    · cases e
  · cases e
def fAbs : FL := fun S rs => match rs with
  | [a] => match get S a with
    | some (.int i) => some (.d (.int (if i < 0 then -i else i)))
    | _ => none
  | _ => none
theorem ckAbs {K} : CallOk K (fun xs H Q => ∃ i, xs = [.int i] ∧ Q (.int (if i < 0 then -i else i)) H) fAbs := by
  intro F A H S xs rs z Q hs hx e k
  unfold fAbs at e
  split at e
  · obtain ⟨v, rfl, hv⟩ := rps1 hx
    split at e <;> cases e
    rename_i i ei
    have := HSt.rdI hv ei
    subst this
    exact ⟨i, rfl, k _ _ _ _ hs .rfl' (Rp.int _)⟩
  · cases e
def fMin2 : FL := fun S rs => match rs with
  | [a, b] => match get S a, get S b with
    | some (.int i), some (.int j) => some (.d (.int (if j < i then j else i)))
    | _, _ => none
  | _ => none
theorem ckMin2 {K} : CallOk K (fun xs H Q => ∃ i j, xs = [.int i, .int j] ∧ Q (.int (if j < i then j else i)) H) fMin2 := by
  intro F A H S xs rs z Q hs hx e k
  unfold fMin2 at e
  split at e
  · obtain ⟨v, v', rfl, hv, hv'⟩ := rps2 hx
    split at e <;> cases e
    rename_i i j ei ej
    have e1 := HSt.rdI hv ei
    have e2 := HSt.rdI hv' ej
    subst e1 e2
    exact ⟨i, j, rfl, k _ _ _ _ hs .rfl' (Rp.int _)⟩
  · cases e
def intsOf : List Dt → Option (List Int)
  | [] => some []
  | .int i :: ds => (intsOf ds).map (i :: ·)
  | _ :: _ => none
theorem intsOf_rp {K F} : ∀ {ds : List Dt} {xs : List V} {ns : List Int}, Rps K F xs ds → intsOf ds = some ns → xs = ns.map V.int
  | [], _, _, .nil, h => by cases h; rfl
  | d :: ds, _, _, .cons hv t, h => by
    cases d with
    | int i =>
      obtain ⟨ns, e, rfl⟩ := Option.map_eq_some_iff.mp h
      cases hv
      rw [intsOf_rp t e]; rfl
    | _ => cases h
def boolsOf : List Dt → Option (List Bool)
  | [] => some []
  | .bl i :: ds => (boolsOf ds).map (i :: ·)
  | _ :: _ => none
theorem boolsOf_rp {K F} : ∀ {ds : List Dt} {xs : List V} {ns : List Bool}, Rps K F xs ds → boolsOf ds = some ns → xs = ns.map V.bl
  | [], _, _, .nil, h => by cases h; rfl
  | d :: ds, _, _, .cons hv t, h => by
    cases d with
    | bl i =>
      obtain ⟨ns, e, rfl⟩ := Option.map_eq_some_iff.mp h
      cases hv
      rw [boolsOf_rp t e]; rfl
    | _ => cases h
theorem strsOf_rp {K F} : ∀ {ds : List Dt} {xs : List V} {ns : List Str}, Rps K F xs ds → strsOf ds = some ns → xs = ns.map V.str
  | [], _, _, .nil, h => by cases h; rfl
  | d :: ds, _, _, .cons hv t, h => by
    cases d with
    | str i =>
      obtain ⟨ns, e, rfl⟩ := Option.map_eq_some_iff.mp h
      cases hv
      rw [strsOf_rp t e]; rfl
    | _ => cases h
def fL1 (g : List Dt → Option Dt) : FL := fun S rs => match rs with
  | [a] => match get S a with
    | some (.lst ds) => (g ds).map .d
    | _ => none
  | _ => none
theorem fL1_in {g S rs z} (h : fL1 g S rs = some z) : ∃ a ds d, rs = [a] ∧ get S a = some (.lst ds) ∧ g ds = some d ∧ z = .d d := by
  unfold fL1 at h
  split at h
  · split at h
    · rename_i ds ed
      obtain ⟨d, e, rfl⟩ := Option.map_eq_some_iff.mp h
      exact ⟨_, ds, d, rfl, ed, e, rfl⟩
    · cases h
  · cases h
def fSum : FL := fL1 fun ds => (intsOf ds).map fun ns => .int ns.sum
def fAll : FL := fL1 fun ds => (boolsOf ds).map fun ns => .bl (ns.all id)
def fAny : FL := fL1 fun ds => (boolsOf ds).map fun ns => .bl (ns.any id)
theorem ckSum {K} : CallOk K (rSum K) fSum := by
  intro F A H S xs rs z Q hs hx e k
  obtain ⟨a, ds, d, rfl, ed, e2, rfl⟩ := fL1_in e
  obtain ⟨ns, en, rfl⟩ := Option.map_eq_some_iff.mp e2
  obtain ⟨v, rfl, hv⟩ := rps1 hx
  obtain ⟨b, ys, rfl, hb, hy⟩ := hs.rdL hv ed
  have := intsOf_rp hy en
  subst this
  exact ⟨b, ns, rfl, .inl (.inl hb), k _ _ _ _ hs .rfl' (Rp.int _)⟩
theorem ckAll {K} : CallOk K (rAll K) fAll := by
  intro F A H S xs rs z Q hs hx e k
  obtain ⟨a, ds, d, rfl, ed, e2, rfl⟩ := fL1_in e
  obtain ⟨ns, en, rfl⟩ := Option.map_eq_some_iff.mp e2
  obtain ⟨v, rfl, hv⟩ := rps1 hx
  obtain ⟨b, ys, rfl, hb, hy⟩ := hs.rdL hv ed
  have := boolsOf_rp hy en
  subst this
  exact ⟨b, ns, rfl, .inl (.inl hb), k _ _ _ _ hs .rfl' (Rp.bl _)⟩
theorem ckAny {K} : CallOk K (rAny K) fAny := by
  intro F A H S xs rs z Q hs hx e k
  obtain ⟨a, ds, d, rfl, ed, e2, rfl⟩ := fL1_in e
  obtain ⟨ns, en, rfl⟩ := Option.map_eq_some_iff.mp e2
  obtain ⟨v, rfl, hv⟩ := rps1 hx
  obtain ⟨b, ys, rfl, hb, hy⟩ := hs.rdL hv ed
  have := boolsOf_rp hy en
  subst this
  exact ⟨b, ns, rfl, .inl (.inl hb), k _ _ _ _ hs .rfl' (Rp.bl _)⟩

/-! list(x), tuple(x) -/
def seqV : Dt → Option (List Dt)
  | .lst ds => some ds
  | d => tupV d
theorem HSt.rdSeq {K F A H S} {v : V} {r : R} {d : Dt} {ds : List Dt} (h : HSt K F A H S) (q : RpR K F A v r) (g : get S r = some d) (t : seqV d = some ds) : ∃ a xs, v = .ref a ∧ (SqL K H a xs ∨ SqT K H a xs) ∧ Rps K F xs ds := by
  unfold seqV at t
  split at t
  · cases t
    obtain ⟨a, xs, rfl, e, u⟩ := h.rdL q g
    exact ⟨a, xs, rfl, .inl (.inl (.inl e)), u⟩
  · obtain ⟨a, xs, rfl, e, u⟩ := h.rdT q g t
    exact ⟨a, xs, rfl, .inr e, u⟩
def fList : FL := fun S rs => match rs with
  | [a] => (get S a).bind fun d => (seqV d).map fun ds => .d (.lst ds)
  | _ => none
abbrev rList (K : PySem.W.Frag) : List V → Hp → VK → Prop := fun xs H Q => ∃ p ys, xs = [.ref p] ∧ (SqL K H p ys ∨ SqT K H p ys) ∧ ∀ l, H l = none → Q (.ref l) (upd H l (.lst ys))
theorem ckList {K} : CallOk K (rList K) fList := by
  intro F A H S xs rs z Q hs hx e k
  unfold fList at e
  split at e
  · obtain ⟨v, rfl, hv⟩ := rps1 hx
    obtain ⟨d, ed, e⟩ := Option.bind_eq_some_iff.mp e
    obtain ⟨ds, et, rfl⟩ := Option.map_eq_some_iff.mp e
    obtain ⟨b, ys, rfl, hb, hy⟩ := hs.rdSeq hv ed et
    refine ⟨b, ys, rfl, hb, fun l nl => ?_⟩
    obtain ⟨h1, x1⟩ := hs.lay (o := .lst ys) nl
    exact k _ _ _ _ h1 x1 (Rp.lst upd_same (hy.mono x1.ge))
  · cases e
/-- tuple(x), the new tuple's object told -/
def rTupN (K : PySem.W.Frag) : List V → Hp → VK → Prop := fun xs H Q => ∃ p ys, xs = [.ref p] ∧ ((SqL K H p ys ∧ newT H ys Q) ∨ (SqT K H p ys ∧ Q (.ref p) H))
theorem clTup {X : Cx} : CallR X (.type "tuple") (rTupN X.K) := by
  rintro pins s σ H xs us Q I r ⟨p, ys, rfl, h⟩
  obtain ⟨u, rfl, rx⟩ := vals1 r
  cases rx
  rcases h with ⟨hq, q⟩ | ⟨hq, q⟩
  · obtain ⟨its, rr, pl, hz⟩ := I.list hq
    refine call_tuple_list pl.isList (fun h' kp => ?_) (by rw [List.size_toArray, ← rr.length]; exact hz)
    have I1 : Inv X pins σ H { s with heap := h' } := I.kept (t' := s.toks) kp
    obtain ⟨o, ho, q⟩ := q _ { cls := .type "tuple", data := .seq its.toArray } (I1.hok.fresh (Nat.le_refl _)) rfl
    exact ⟨.ref h'.objs.size, _, I1.newTup rr hz ho s.toks, rfl, q⟩
  · obtain ⟨its, rr, pl, hz⟩ := I.tuple hq
    exact call_tuple_same pl ⟨.ref p, H, I, rfl, q⟩
def fTup (z : Bool) : FL := fun S rs => match rs with
  | [a] => (get S a).bind fun d => match d with
    | .lst ds => some (.d (if z = true ∧ ds.isEmpty then .tup0 else .tup ds))
    | d => (tupV d).map fun _ => .d d
  | _ => none
theorem ckTup {K} (z : Bool) : CallOk K (rTupN K) (fTup z) := by
  intro F A H S xs rs w Q hs hx e k
  unfold fTup at e
  split at e
  · rename_i a
    obtain ⟨v, rfl, hv⟩ := rps1 hx
    obtain ⟨d, ed, e⟩ := Option.bind_eq_some_iff.mp e
    split at e
    · rename_i ds
      cases e
      obtain ⟨b, ys, rfl, hb, hy⟩ := hs.rdL hv ed
      refine ⟨b, ys, rfl, .inl ⟨.inl (.inl hb), ?_⟩⟩
      by_cases hz : z = true ∧ ds.isEmpty = true
      · rw [if_pos hz] at k
        have : ds = [] := by simpa using hz.2
        subst this
        exact newT_ok0 hs hy k
      · rw [if_neg hz] at k
        exact newT_ok hs hy k
    · obtain ⟨ds, et, rfl⟩ := Option.map_eq_some_iff.mp e
      obtain ⟨b, ys, rfl, hb, hy⟩ := hs.rdT hv ed et
      refine ⟨b, ys, rfl, .inr ⟨hb, k _ _ _ _ hs .rfl' ?_⟩⟩
      cases a with
      | d x => cases ed; exact hv
      | s ns => cases ed
      | c j =>
        obtain ⟨so, e1, e2⟩ := Option.bind_eq_some_iff.mp ed
        cases so <;> cases e2 <;> cases et
  · cases e

/-! isinstance -/
def tyR : Dt → Option String
  | .non => some "NoneType"
  | .bl _ => some "bool"
  | .int _ => some "int"
  | .str _ => some "str"
  | .tup _ => some "tuple"
  | .tup0 => some "tuple"
  | .lst _ => some "list"
  | _ => none
theorem rp_ty {K F H} (sub : Ge F H) {v : V} {d : Dt} (h : Rp K F v d) {T : String} (e : tyR d = some T) : TyX K H v (.type T) := by
  cases h with
  | non => cases e; exact .base .non
  | bl b => cases e; exact .base (.bl b)
  | int b => cases e; exact .base (.int b)
  | str b => cases e; exact .base (.str b)
  | lst e1 _ => cases e; exact .base (.lst (sub _ _ e1))
  | tupS _ e1 _ => cases e; exact .base (.tup (sub _ _ e1))
  | tupP _ e1 _ _ => cases e; exact .fTuple (sub _ _ e1)
  | tup0 e1 _ => cases e; exact .fTuple (sub _ _ e1)
  | pr _ _ => cases e
  | @kt a i j e1 =>
    cases e
    rcases e1 (fun _ => none) with (h | ⟨ob, h⟩) | ⟨o, its, n, hk, hc, _⟩
    · cases h
    · cases h
    · exact .kTuple hk hc
  | dK _ _ => cases e
  | dT _ _ => cases e
def cIsi (T : String) (c : Cd) : Cd := fun en S => (c en S).bind fun p => match p.1 with
  | .d x => (tyR x).bind fun t => (kitB t T).map fun b => (.d (.bl b), p.2)
  | _ => none
section
variable {X : Cx} {a b e : Expr} {es : List Expr} {pos p : Pos} {x : Str} {c ca cb : Cd} {cl : CdL} {t : TE}
theorem oIsi {T : String} {p2 : Pos} {tx : Str} (hg : Gl X "isinstance") (hm : X.mg "isinstance" = none) (he : PE X e (tE X.K c)) (hg2 : Gl X tx) (hm2 : X.mg tx = none) (hv : bootBuiltins tx = some (.type T)) (hn : tx ≠ "__name__" := by decide) (hd : (tx == ("__debug__" : Str)) = false := by decide)
    (hs : starEach [e, .Name tx p2] X.env = (false, eval e X.env) :: starEach [.Name tx p2] X.env := by rfl) (hs2 : starEach [.Name tx p2] X.env = (false, eval (.Name tx p2) X.env) :: starEach [] X.env := by rfl) (hpl : (backTo pos (starEach [.Name tx p2] X.env)).any (·.1) = false := by rfl) :
    PE X (.Call (.Name "isinstance" p) [e, .Name tx p2] [] pos) (tE X.K (cIsi T c)) :=
  (pe_callB call_isi hg hm (by decide +kernel) (pa_cons he (pa_cons (pe_bltn (v := .ty T) hg2 hm2 hv rfl hn hd) pa_nil hs2) hs) (by decide) (by decide) hs hpl).weak fun σ H Q ⟨F, A, S, en, r, S', hst, he, ec, k⟩ => by
    unfold cIsi at ec
    obtain ⟨⟨r1, S1⟩, e1, ec⟩ := Option.bind_eq_some_iff.mp ec
    refine ⟨F, A, S, en, r1, S1, hst, he, e1, fun v H1 F1 A1 hs1 x1 p1 => ?_⟩
    cases r1 with
    | d y =>
      obtain ⟨ty, et, ec⟩ := Option.bind_eq_some_iff.mp ec
      obtain ⟨bb, eb, ec⟩ := Option.map_eq_some_iff.mp ec
      cases ec
      exact ⟨v, .ty T, .type ty, .type T, bb, rfl, .ty T, rp_ty hs1.sub p1 et, kit_ty eb, k _ _ _ _ hs1 x1 (Rp.bl _)⟩
    | c _ => cases ec
    | s _ => cases ec

/-! ### slices -/
abbrev CdO := En → Ss → Option (Option Int × Ss)
def noPart : CdO := fun _ S => some (none, S)
def part (c : Cd) : CdO := fun en S => (c en S).bind fun p => match p.1 with
  | .d (.int i) => some (some i, p.2)
  | _ => none
def tO (K : PySem.W.Frag) (c : CdO) : TO := fun σ H Q => ∃ F A S en r S', HSt K F A H S ∧ EnvR K F A σ en ∧ c en S = some (r, S') ∧
  ∀ H' F' A', HSt K F' A' H' S' → Ext F A H F' A' H' → Q r H'
theorem _root_.L2.PO.weak {X : Cx} {e : Option Expr} {t t' : TO} (h : PO X e t) (w : ∀ σ H Q, t' σ H Q → t σ H Q) : PO X e t' := ⟨fun pins s σ H Q I q => h.run pins s σ H Q I (w σ H Q q)⟩
theorem pNone : PO X none (tO X.K noPart) := po_none.weak fun σ H Q ⟨F, A, S, en, r, S', hs, he, ec, k⟩ => by
  cases ec
  exact k H F A hs .rfl'
theorem pSome (h : PE X e (tE X.K c)) : PO X (some e) (tO X.K (part c)) := (po_some h).weak fun σ H Q ⟨F, A, S, en, r, S', hs, he, ec, k⟩ => by
  obtain ⟨⟨r1, S1⟩, e1, ec⟩ := Option.bind_eq_some_iff.mp ec
  split at ec
  · rename_i i hi
    cases ec
    refine ⟨F, A, S, en, r1, S1, hs, he, e1, fun v H1 F1 A1 hs1 x1 p1 => ?_⟩
    have hi' : r1 = .d (.int i) := hi
    subst hi'
    cases p1
    exact ⟨i, rfl, k H1 F1 A1 hs1 x1⟩
  · cases ec
def cut (ds : List Dt) (lo hi : Option Int) : List Dt := (ds.drop (HT.sIx ds.length 0 lo)).take (HT.sIx ds.length ds.length hi - HT.sIx ds.length 0 lo)
def slV (d : Dt) (lo hi : Option Int) : Option Dt := match d with
  | .lst ds => some (.lst (cut ds lo hi))
  | .str z => if z.length ≤ 1000 then some (.str (cutS z lo hi)) else none
  | d => (tupV d).map fun ds => if HT.sIx ds.length 0 lo = 0 ∧ HT.sIx ds.length ds.length hi = ds.length then d else .tup (cut ds lo hi)
def cSl (c : Cd) (lo hi : CdO) : Cd := fun en S => (c en S).bind fun p => (lo en p.2).bind fun q => (hi en q.2).bind fun w => (get w.2 p.1).bind fun d => (slV d q.1 w.1).map fun z => (.d z, w.2)
/-- t[lo:hi], the new tuple's object told -/
def rSlN (K : PySem.W.Frag) : V → Option Int → Option Int → Hp → VK → Prop := fun x lo hi H Q => ∃ a xs, x = .ref a ∧ SqT K H a xs ∧
  (HT.sIx xs.length 0 lo = 0 ∧ HT.sIx xs.length xs.length hi = xs.length → Q (.ref a) H) ∧ (¬ (HT.sIx xs.length 0 lo = 0 ∧ HT.sIx xs.length xs.length hi = xs.length) → newT H (cutV xs lo hi) Q)
theorem sl_tupN : SlR X (rSlN X.K) := by
  rintro pins s σ H x v vl vu lo hi sl Q I rx hs pl pu ⟨a, xs, rfl, hx, q1, q2⟩
  cases rx
  obtain ⟨its, r, ht, hz⟩ := I.tuple hx
  have hlen : its.toArray.size = xs.length := by rw [List.size_toArray]; exact r.length.symm
  refine ⟨"tuple", _, PyProof.Rows.slot_tuple_getitem.lookup, ht.typeIs, ?_⟩
  by_cases hw : HT.sIx xs.length 0 lo = 0 ∧ HT.sIx xs.length xs.length hi = xs.length
  · exact getItem_tuple_whole ht hs pl pu (by rw [hlen]; exact hw) ⟨.ref a, H, I, rfl, q1 hw⟩
  · refine HT.getItem_tuple_cut ht hs pl pu (by rw [hlen]; exact hw) ?_ (by rw [hlen]; exact hz)
    rw [hlen]
    have rc : Vals (cutV xs lo hi) _ := (r.drop (HT.sIx xs.length 0 lo)).take (HT.sIx xs.length xs.length hi - HT.sIx xs.length 0 lo)
    obtain ⟨o, ho, q⟩ := q2 hw _ { cls := .type "tuple", data := .seq _ } (I.hok.fresh (Nat.le_refl _)) rfl
    exact ⟨.ref s.heap.objs.size, _, I.newTup rc (Nat.le_trans (cutV_length xs lo hi) hz) ho s.toks, rfl, q⟩
theorem slr_or {r r' : V → Option Int → Option Int → Hp → VK → Prop} (h : SlR X r) (h' : SlR X r') : SlR X (fun x lo hi H Q => r x lo hi H Q ∨ r' x lo hi H Q) := by
  intro pins s σ H x v vl vu lo hi sl Q I rx hs pl pu q
  rcases q with q | q
  · exact h pins s σ H x v vl vu lo hi sl Q I rx hs pl pu q
  · exact h' pins s σ H x v vl vu lo hi sl Q I rx hs pl pu q
theorem Rps.cut {K F} {xs : List V} {ds : List Dt} (h : Rps K F xs ds) (lo hi : Option Int) : Rps K F (cutV xs lo hi) (OA.cut ds lo hi) := by
  unfold cutV OA.cut
  rw [h.length]
  exact (h.drop _).take _
theorem oSl {lo hi : Option Expr} {p2 : Pos} {cl ch : CdO} (he : PE X e (tE X.K c)) (hl : PO X lo (tO X.K cl)) (hh : PO X hi (tO X.K ch)) : PE X (.Subscript e (.Slice lo hi none p2) pos) (tE X.K (cSl c cl ch)) :=
  (pe_slice (slr_or sl_list (slr_or sl_str sl_tupN)) he hl hh).weak fun σ H Q ⟨F, A, S, en, r, S', hs, he, ec, k⟩ => by
    obtain ⟨⟨r1, S1⟩, e1, ec⟩ := Option.bind_eq_some_iff.mp ec
    obtain ⟨⟨l, S2⟩, e2, ec⟩ := Option.bind_eq_some_iff.mp ec
    obtain ⟨⟨h, S3⟩, e3, ec⟩ := Option.bind_eq_some_iff.mp ec
    obtain ⟨d, ed, ec⟩ := Option.bind_eq_some_iff.mp ec
    obtain ⟨z, ez, ec⟩ := Option.map_eq_some_iff.mp ec
    cases ec
    refine ⟨F, A, S, en, r1, S1, hs, he, e1, fun v H1 F1 A1 hs1 x1 p1 => ⟨F1, A1, S1, en, l, S2, hs1, he.ext x1, e2, fun H2 F2 A2 hs2 x2 => ⟨F2, A2, S2, en, h, S3, hs2, (he.ext x1).ext x2, e3, fun H3 F3 A3 hs3 x3 => ?_⟩⟩⟩
    have p3 := (p1.ext x2).ext x3
    have xx := (x1.trans x2).trans x3
    unfold slV at ez
    split at ez
    · rename_i ds
      cases ez
      obtain ⟨a, xs, rfl, ha, hx⟩ := hs3.rdL p3 ed
      refine .inl ⟨a, xs, rfl, .inl (.inl ha), fun p np => ?_⟩
      obtain ⟨h4, x4⟩ := hs3.lay (o := .lst (cutV xs l h)) np
      exact k _ _ _ _ h4 (xx.trans x4) (Rp.lst upd_same ((hx.cut l h).mono x4.ge))
    · rename_i y
      split at ez <;> cases ez
      have ey := HSt.rdS p3 ed
      subst ey
      exact .inr (.inl ⟨y, rfl, Nat.le_of_lt (small1000 ‹_›), k _ _ _ _ hs3 xx (Rp.str _)⟩)
    · obtain ⟨ds, et, rfl⟩ := Option.map_eq_some_iff.mp ez
      obtain ⟨a, xs, rfl, ha, hx⟩ := hs3.rdT p3 ed et
      refine .inr (.inr ⟨a, xs, rfl, ha, fun hw => ?_, fun hw => ?_⟩)
      · rw [hx.length] at hw
        rw [if_pos hw] at k
        refine k _ _ _ _ hs3 xx ?_
        cases r1 with
        | d x => cases ed; exact p3
        | s ns => cases ed
        | c j =>
          obtain ⟨so, e1, e2⟩ := Option.bind_eq_some_iff.mp ed
          cases so <;> cases e2 <;> cases et
      · rw [hx.length] at hw
        rw [if_neg hw] at k
        exact newT_ok hs3 (hx.cut l h) fun v H4 F4 A4 h4 x4 q => k v H4 F4 A4 h4 (xx.trans x4) q
end
end OA
namespace OA
open PySem PySem.Spec PyProof.Rows L2

/-! ### sorted texts -/
def leS (a b : Str) : Bool := !ltCps b.cps.toList a.cps.toList
def insS (x : Str) : List Str → List Str
  | [] => [x]
  | y :: r => if leS x y then x :: y :: r else y :: insS x r
def isortS : List Str → List Str
  | [] => []
  | x :: r => insS x (isortS r)
theorem leS_total (a b : Str) : leS a b = true ∨ leS b a = true := by
  unfold leS
  rw [ltCps_eq, ltCps_eq]
  by_cases h : b.cps.toList < a.cps.toList
  · right; simp [List.lt_asymm h]
  · left; simp [h]
theorem leS_trans {a b c : Str} (h1 : leS a b = true) (h2 : leS b c = true) : leS a c = true := by
  unfold leS at *
  rw [ltCps_eq] at *
  simp only [Bool.not_eq_true', decide_eq_false_iff_not, List.not_lt] at *
  exact List.le_trans h1 h2
theorem leS_anti {a b : Str} (h1 : leS a b = true) (h2 : leS b a = true) : a = b := by
  unfold leS at *
  rw [ltCps_eq] at *
  simp only [Bool.not_eq_true', decide_eq_false_iff_not, List.not_lt] at *
  have e := List.le_antisymm h1 h2
  cases a with
  | mk a => cases b with
    | mk b => exact congrArg Str.mk (Array.toList_inj.mp e)
theorem insS_perm (x : Str) : ∀ l, (insS x l).Perm (x :: l)
  | [] => List.Perm.refl _
  | y :: r => by
    unfold insS
    split
    · exact List.Perm.refl _
    · exact ((insS_perm x r).cons y).trans (List.Perm.swap x y r)
theorem isortS_perm : ∀ l, (isortS l).Perm l
  | [] => List.Perm.refl _
  | x :: r => (insS_perm x _).trans ((isortS_perm r).cons x)
theorem insS_sorted (x : Str) : ∀ l, l.Pairwise (fun a b => leS a b = true) → (insS x l).Pairwise (fun a b => leS a b = true)
  | [], _ => by simp [insS]
  | y :: r, h => by
    unfold insS
    rw [List.pairwise_cons] at h
    split
    · rename_i hxy
      refine List.pairwise_cons.mpr ⟨fun z hz => ?_, List.pairwise_cons.mpr h⟩
      rcases List.mem_cons.mp hz with rfl | hz
      · exact hxy
      · exact leS_trans hxy (h.1 z hz)
    · rename_i hxy
      have hyx : leS y x = true := (leS_total x y).resolve_left hxy
      refine List.pairwise_cons.mpr ⟨fun z hz => ?_, insS_sorted x r h.2⟩
      rcases List.mem_cons.mp ((insS_perm x r).mem_iff.mp hz) with rfl | hz
      · exact hyx
      · exact h.1 z hz
theorem isortS_sorted : ∀ l, (isortS l).Pairwise (fun a b => leS a b = true)
  | [] => List.Pairwise.nil
  | x :: r => insS_sorted x _ (isortS_sorted r)
theorem risingS_pw : ∀ (l : List Str) (p : Str), risingS p l = true → (p :: l).Pairwise (fun a b => leS a b = true)
  | [], p, _ => by simp
  | x :: r, p, h => by
    unfold risingS at h
    rw [Bool.and_eq_true] at h
    have ih := risingS_pw r x h.2
    have hpx : leS p x = true := h.1
    refine List.pairwise_cons.mpr ⟨fun z hz => ?_, ih⟩
    rcases List.mem_cons.mp hz with rfl | hz
    · exact hpx
    · exact leS_trans hpx ((List.pairwise_cons.mp ih).1 z hz)
theorem sorted_is {ys xs : List Str} (h : ys.Perm xs) (s : sortedS ys = true) : ys = isortS xs := by
  have hp : ys.Pairwise (fun a b => leS a b = true) := by
    cases ys with
    | nil => exact List.Pairwise.nil
    | cons y r => exact risingS_pw r y s
  exact List.Perm.eq_of_pairwise (le := fun a b => leS a b = true) (fun a b _ _ h1 h2 => leS_anti h1 h2) hp (isortS_sorted xs) (h.trans (isortS_perm xs).symm)
def fSortS : FL := fL1 fun ds => (strsOf ds).bind fun xs => if xs.length < 64 then some (.lst ((isortS xs).map .str)) else none
theorem rps_str {K F} : ∀ xs : List Str, Rps K F (xs.map V.str) (xs.map Dt.str)
  | [] => .nil
  | x :: xs => .cons (.str x) (rps_str xs)
theorem ckSortS {K} : CallOk K (rSortedS K) fSortS := by
  intro F A H S xs rs z Q hs hx e k
  obtain ⟨a, ds, d, rfl, ed, e2, rfl⟩ := fL1_in e
  obtain ⟨ns, en, e2⟩ := Option.bind_eq_some_iff.mp e2
  split at e2 <;> cases e2
  obtain ⟨v, rfl, hv⟩ := rps1 hx
  obtain ⟨b, ys, rfl, hb, hy⟩ := hs.rdL hv ed
  have := strsOf_rp hy en
  subst this
  refine ⟨b, ns, rfl, .inl (.inl hb), ‹_›, fun ys p hp hso np => ?_⟩
  have := sorted_is hp hso
  subst this
  obtain ⟨h1, x1⟩ := hs.lay (o := .lst ((isortS ns).map V.str)) np
  exact k _ _ _ _ h1 x1 (Rp.lst upd_same (rps_str _))

/-! ### comprehensions, as rules -/
section
variable {X : Cx} {tg iter elt : Expr} {pos : Pos} {ci : CdI} {g : CdG} {us : List Nat} {c : Cd} {t : CdB} {ifs : List Expr} {scope : Scope} {own : List (Str × Nat)}
theorem tsNil : PTs X [] (tT X.K kYes) := ⟨fun pins s σ H Q I ⟨F, A, S, en, r, S', hs, he, ec, k⟩ => by
  cases ec
  exact pts_nil.run pins s σ H Q I (k H F A hs .rfl')⟩
theorem tsOne {e : Expr} (h : PT X e (tT X.K t)) : PTs X [e] (tT X.K t) := pts_one h
theorem oComp (vs : List Nat) (hvs : own.map (·.2) = vs) (hv : ∀ i ∈ us, i ∈ vs) (hc : X.calm = true) (hN : X.N.Nodup) (hi : PI X tg iter (tI X.K ci)) (ok : blkC X.N X.env.scope scope own = true)
    (hg : ∀ (s : Shared) (H : Hp) (C : Addr) (cl : List (Str × Addr)) (fp : List Addr), PG (X.blk s H scope (compEnvC scope cl C X.env) fp) tg (tG X.K us g)) (ht : ∀ (s : Shared) (H : Hp) (C : Addr) (cl : List (Str × Addr)) (fp : List Addr), PTs (X.blk s H scope (compEnvC scope cl C X.env) fp) ifs (tT X.K t))
    (he : ∀ (s : Shared) (H : Hp) (C : Addr) (cl : List (Str × Addr)) (fp : List Addr), PE (X.blk s H scope (compEnvC scope cl C X.env) fp) elt (tE X.K c)) (hs : ∀ x, foldedSetIterable iter X.env x = pure x := by intro _; rfl) :
    PE X (.ListComp elt [⟨tg, iter, ifs, 0⟩] scope pos) (tE X.K (cComp vs ci g t c)) :=
  (pe_lc hc hN hi (blkOk_by ok) hg ht he hs).weak fun σ H Q h => by
    rw [hvs]
    exact lc_ok hv h
theorem zSetComp {i : Nat} {y : Str} {py spos : Pos} (vs : List Nat) (hvs : own.map (·.2) = vs) (hv : ∀ i ∈ us, i ∈ vs) (hc : X.calm = true) (hN : X.N.Nodup) (hy : X.N[i]? = some y) (hyl : X.env.scope.names.lookup y = some .local)
    (hsw : swapsWith (.ListComp elt [⟨tg, iter, ifs, 0⟩] scope pos) (some (.Name y py)) spos.line X.env = pure true) (hi : PI X tg iter (tI X.K ci)) (ok : blkC X.N X.env.scope scope own = true)
    (hg : ∀ (s : Shared) (H : Hp) (C : Addr) (cl : List (Str × Addr)) (fp : List Addr), PG (X.blk s H scope (compEnvC scope cl C X.env) fp) tg (tG X.K us g)) (ht : ∀ (s : Shared) (H : Hp) (C : Addr) (cl : List (Str × Addr)) (fp : List Addr), PTs (X.blk s H scope (compEnvC scope cl C X.env) fp) ifs (tT X.K t))
    (he : ∀ (s : Shared) (H : Hp) (C : Addr) (cl : List (Str × Addr)) (fp : List Addr), PE (X.blk s H scope (compEnvC scope cl C X.env) fp) elt (tE X.K c)) (hs : ∀ x, foldedSetIterable iter X.env x = pure x := by intro _; rfl) :
    PS X (.Assign [.Name y py] (.ListComp elt [⟨tg, iter, ifs, 0⟩] scope pos) spos) (tS X.K (sSet i (cComp vs ci g t c))) :=
  (ps_setLc hc hN hy hyl hsw hi (blkOk_by ok) hg ht he hs).weak fun D σ H ⟨F, A, S, en, fl, en', S', hs, he, ec, k⟩ => by
    unfold sSet at ec
    obtain ⟨⟨r1, S1⟩, e1, ec⟩ := Option.map_eq_some_iff.mp ec
    cases ec
    subst hvs
    refine lc_ok hv ?_
    exact ⟨F, A, S, en, r1, S1, hs, he, e1, fun v H1 F1 A1 hs1 x1 p1 => k _ H1 F1 A1 hs1 x1 ((he.ext x1).set i p1)⟩

/-! ### ranges, zip -/
def cRange1 (c : Cd) : CdI := fun en S => (c en S).bind fun p => match p.1 with
  | .d (.int j) => if 0 ≤ j ∧ j < 1000 then some ((List.range j.toNat).map fun (i : Nat) => Dt.int (0 + (i : Int)), p.2) else none
  | _ => none
theorem iRange1 {a : Expr} {ca : Cd} {p : Pos} (hg : Gl X "range") (hm : X.mg "range" = none) (ha : PE X a (tE X.K ca)) (hs : starEach [a] X.env = [(false, eval a X.env)] := by rfl) : PI X tg (.Call (.Name "range" p) [a] [] pos) (tI X.K (cRange1 ca)) :=
  (pi_range1 hg hm (pa_cons ha pa_nil (by rw [hs]; rfl)) hs).weak fun σ H R ⟨F, A, S, en, ds, S', hs, he, ec, k⟩ => by
    obtain ⟨⟨r1, S1⟩, e1, ec⟩ := Option.bind_eq_some_iff.mp ec
    split at ec
    · rename_i j hj
      split at ec <;> cases ec
      rename_i hl
      refine ⟨F, A, S, en, r1, S1, hs, he, e1, fun v H1 F1 A1 hs1 x1 p1 => ?_⟩
      have hj' : r1 = .d (.int j) := hj
      subst hj'
      cases p1
      exact ⟨j, rfl, by omega, by omega, k _ _ _ _ hs1 x1 (walks_range 0 j.toNat) (by rw [List.length_map, List.length_range]; exact Nat.le_of_lt (small1000 (by omega)))⟩
    · cases ec
def cRange2 (ca cb : Cd) : CdI := fun en S => (ca en S).bind fun p => (cb en p.2).bind fun q => match p.1, q.1 with
  | .d (.int i), .d (.int j) => if 0 ≤ i ∧ i ≤ j ∧ j < 1000 then some ((List.range (j - i).toNat).map fun (n : Nat) => Dt.int (i + (n : Int)), q.2) else none
  | _, _ => none
theorem iRange2 {a b : Expr} {ca cb : Cd} {p : Pos} (hg : Gl X "range") (hm : X.mg "range" = none) (ha : PE X a (tE X.K ca)) (hb : PE X b (tE X.K cb)) (hs : starEach [a, b] X.env = [(false, eval a X.env), (false, eval b X.env)] := by rfl) (hs2 : starEach [b] X.env = [(false, eval b X.env)] := by rfl) :
    PI X tg (.Call (.Name "range" p) [a, b] [] pos) (tI X.K (cRange2 ca cb)) :=
  (pi_range2 hg hm (pa_cons ha (pa_cons hb pa_nil (by rw [hs2]; rfl)) (by rw [hs, hs2])) hs hs2).weak fun σ H R ⟨F, A, S, en, ds, S', hs, he, ec, k⟩ => by
    obtain ⟨⟨r1, S1⟩, e1, ec⟩ := Option.bind_eq_some_iff.mp ec
    obtain ⟨⟨r2, S2⟩, e2, ec⟩ := Option.bind_eq_some_iff.mp ec
    split at ec
    · rename_i i j hi hj
      split at ec <;> cases ec
      rename_i hl
      refine ⟨F, A, S, en, r1, S1, hs, he, e1, fun v H1 F1 A1 hs1 x1 p1 => ⟨F1, A1, S1, en, r2, S2, hs1, he.ext x1, e2, fun v2 H2 F2 A2 hs2 x2 p2 => ?_⟩⟩
      have hi' : r1 = .d (.int i) := hi
      have hj' : r2 = .d (.int j) := hj
      subst hi' hj'
      cases p1
      cases p2
      exact ⟨i, j, rfl, ⟨by omega, by omega, by omega, by omega⟩, k _ _ _ _ hs2 (x1.trans x2) (walks_range i (j - i).toNat) (by rw [List.length_map, List.length_range]; exact Nat.le_of_lt (small1000 (by omega)))⟩
    · cases ec
/-- zip of two lists, of two tuples -/
def zipD : List Dt → List Dt → List Dt
  | a :: as, b :: bs => .pr [a, b] :: zipD as bs
  | _, _ => []
theorem zipD_len : ∀ a b : List Dt, (zipD a b).length = min a.length b.length
  | [], b => by simp [zipD]
  | a :: as, [] => by simp [zipD]
  | a :: as, b :: bs => by simp [zipD, zipD_len as bs] <;> omega
theorem zipD_at : ∀ (a b : List Dt) (i : Nat), (zipD a b)[i]? = match a[i]?, b[i]? with
    | some x, some y => some (.pr [x, y])
    | _, _ => none
  | [], b, i => by simp [zipD]
  | a :: as, [], i => by
    simp only [zipD, List.getElem?_nil]
    split
    · rename_i h; cases h
    · rfl
  | a :: as, b :: bs, 0 => by simp [zipD]
  | a :: as, b :: bs, i + 1 => by simpa [zipD] using zipD_at as bs i
theorem walks_zipL {K : PySem.W.Frag} {F : Hp} {a b : Addr} {xs ys : List V} {ds es : List Dt} (e : ∀ F2 A2 H2 S2, Ge F F2 → HSt K F2 A2 H2 S2 → SqL K H2 a xs) (e' : ∀ F2 A2 H2 S2, Ge F F2 → HSt K F2 A2 H2 S2 → SqL K H2 b ys) (h : Rps K F xs ds) (h' : Rps K F ys es) : Walks K F (Itz K a b) (zipD ds es) := fun F2 A2 H2 S2 g hs i => by
  have q := e F2 A2 H2 S2 g hs
  have q' := e' F2 A2 H2 S2 g hs
  rw [zipD_at]
  refine ⟨fun d ed => ?_, fun ed => ?_⟩
  · split at ed
    · rename_i x y ex ey
      cases ed
      obtain ⟨v, ev, hv⟩ := h.at ex
      obtain ⟨w, ew, hw⟩ := h'.at ey
      refine ⟨⟨xs, ys, v, w, q, q', ev, ew⟩, fun z H3 hy => ?_⟩
      obtain ⟨T, x', y', rfl, nT, rfl, f1, f2⟩ := hy
      have := f1 xs q; rw [ev] at this; cases this
      have := f2 ys q'; rw [ew] at this; cases this
      obtain ⟨h1, x1⟩ := hs.lay (o := .tup [v, w]) nT
      exact ⟨_, h1, x1, .pr upd_same (.cons ((hv.mono g).mono x1.ge) (.cons ((hw.mono g).mono x1.ge) .nil))⟩
    · cases ed
  · refine ⟨xs, ys, q, q', ?_⟩
    cases ex : ds[i]? with
    | none => exact .inl (h.out ex)
    | some x =>
      cases ey : es[i]? with
      | none => exact .inr (h'.out ey)
      | some y => rw [ex, ey] at ed; cases ed
theorem walks_zipT {K : PySem.W.Frag} {F : Hp} {a b : Addr} {xs ys : List V} {ds es : List Dt} (e : ∀ F2 A2 H2 S2, Ge F F2 → HSt K F2 A2 H2 S2 → SqT K H2 a xs) (e' : ∀ F2 A2 H2 S2, Ge F F2 → HSt K F2 A2 H2 S2 → SqT K H2 b ys) (h : Rps K F xs ds) (h' : Rps K F ys es) : Walks K F (RZ.ItzT K a b) (zipD ds es) := fun F2 A2 H2 S2 g hs i => by
  have q := e F2 A2 H2 S2 g hs
  have q' := e' F2 A2 H2 S2 g hs
  rw [zipD_at]
  refine ⟨fun d ed => ?_, fun ed => ?_⟩
  · split at ed
    · rename_i x y ex ey
      cases ed
      obtain ⟨v, ev, hv⟩ := h.at ex
      obtain ⟨w, ew, hw⟩ := h'.at ey
      refine ⟨⟨xs, ys, v, w, q, q', ev, ew⟩, fun z H3 hy => ?_⟩
      obtain ⟨T, x', y', rfl, nT, rfl, f1, f2⟩ := hy
      have := f1 xs q; rw [ev] at this; cases this
      have := f2 ys q'; rw [ew] at this; cases this
      obtain ⟨h1, x1⟩ := hs.lay (o := .tup [v, w]) nT
      exact ⟨_, h1, x1, .pr upd_same (.cons ((hv.mono g).mono x1.ge) (.cons ((hw.mono g).mono x1.ge) .nil))⟩
    · cases ed
  · refine ⟨xs, ys, q, q', ?_⟩
    cases ex : ds[i]? with
    | none => exact .inl (h.out ex)
    | some x =>
      cases ey : es[i]? with
      | none => exact .inr (h'.out ey)
      | some y => rw [ex, ey] at ed; cases ed
/-- data alone (frozen) -/
def datL : R → Option (List Dt)
  | .d (.lst ds) => some ds
  | _ => none
def datT : R → Option (List Dt)
  | .d d => tupV d
  | _ => none
def cZip (ca cb : Cd) : CdI := fun en S => (ca en S).bind fun p => (cb en p.2).bind fun q => match datL p.1, datL q.1 with
  | some xs, some ys => if xs.length ≤ 1000 then some (zipD xs ys, q.2) else none
  | _, _ => match datT p.1, datT q.1 with
    | some xs, some ys => if xs.length ≤ 1000 then some (zipD xs ys, q.2) else none
    | _, _ => none
theorem datL_st {K F A H S} {v : V} {r : R} {ds : List Dt} (h : HSt K F A H S) (q : RpR K F A v r) (e : datL r = some ds) : ∃ a xs, v = .ref a ∧ Rps K F xs ds ∧ SqL K H a xs ∧ ∀ F2 A2 H2 S2, Ge F F2 → HSt K F2 A2 H2 S2 → SqL K H2 a xs := by
  unfold datL at e
  split at e <;> cases e
  cases q with
  | lst e1 t => exact ⟨_, _, rfl, t, .inl (.inl (h.sub _ _ e1)), fun F2 A2 H2 S2 g hs => .inl (.inl (hs.sub _ _ (g _ _ e1)))⟩
theorem datT_st {K F A H S} {v : V} {r : R} {ds : List Dt} (h : HSt K F A H S) (q : RpR K F A v r) (e : datT r = some ds) : ∃ a xs, v = .ref a ∧ Rps K F xs ds ∧ SqT K H a xs ∧ ∀ F2 A2 H2 S2, Ge F F2 → HSt K F2 A2 H2 S2 → SqT K H2 a xs := by
  unfold datT at e
  split at e
  · cases q with
    | tupS _ e1 t => cases e; exact ⟨_, _, rfl, t, .inl (.inl (h.sub _ _ e1)), fun F2 A2 H2 S2 g hs => .inl (.inl (hs.sub _ _ (g _ _ e1)))⟩
    | tupP _ e1 _ t => cases e; exact ⟨_, _, rfl, t, .inl (.inr ⟨_, h.sub _ _ e1⟩), fun F2 A2 H2 S2 g hs => .inl (.inr ⟨_, hs.sub _ _ (g _ _ e1)⟩)⟩
    | tup0 e1 _ => cases e; exact ⟨_, _, rfl, .nil, .inl (.inr ⟨_, h.sub _ _ e1⟩), fun F2 A2 H2 S2 g hs => .inl (.inr ⟨_, hs.sub _ _ (g _ _ e1)⟩)⟩
    | pr e1 t => cases e; exact ⟨_, _, rfl, t, .inl (.inl (h.sub _ _ e1)), fun F2 A2 H2 S2 g hs => .inl (.inl (hs.sub _ _ (g _ _ e1)))⟩
    | kt e1 => cases e; exact ⟨_, _, rfl, .cons (.int _) (.cons (.int _) .nil), e1 H, fun F2 A2 H2 S2 g hs => e1 H2⟩
    | _ => cases e
  · cases e
theorem iZip {elts : List Expr} {kk : Nat} {tpos p : Pos} {a b : Expr} {ca cb : Cd} (hg : Gl X "zip") (hm : X.mg "zip" = none) (ha : PE X a (tE X.K ca)) (hb : PE X b (tE X.K cb))
    (hs : starEach [a, b] X.env = (false, eval a X.env) :: starEach [b] X.env := by rfl) (hs2 : starEach [b] X.env = (false, eval b X.env) :: starEach [] X.env := by rfl) (hpl : (backTo pos (starEach [b] X.env)).any (·.1) = false := by rfl) :
    PI X (.Tuple elts kk tpos) (.Call (.Name "zip" p) [a, b] [] pos) (tI X.K (cZip ca cb)) :=
  (RZ.pi_zipA hg hm (pa_cons ha (pa_cons hb pa_nil hs2) hs) hs hpl).weak fun σ H R ⟨F, A, S, en, ds, S', hs, he, ec, k⟩ => by
    obtain ⟨⟨r1, S1⟩, e1, ec⟩ := Option.bind_eq_some_iff.mp ec
    obtain ⟨⟨r2, S2⟩, e2, ec⟩ := Option.bind_eq_some_iff.mp ec
    refine ⟨F, A, S, en, r1, S1, hs, he, e1, fun v H1 F1 A1 hs1 x1 p1 => ⟨F1, A1, S1, en, r2, S2, hs1, he.ext x1, e2, fun v2 H2 F2 A2 hs2 x2 p2 => ?_⟩⟩
    have p1' := p1.ext x2
    split at ec
    · rename_i xs ys ex ey
      split at ec <;> cases ec
      obtain ⟨a, us, rfl, h1, q1, q1'⟩ := datL_st hs2 p1' ex
      obtain ⟨b, ws, rfl, h2, q2, q2'⟩ := datL_st hs2 p2 ey
      exact ⟨a, b, us, ws, rfl, .inl ⟨q1, q2, k _ _ _ _ hs2 (x1.trans x2) (walks_zipL q1' q2' h1 h2) (by rw [zipD_len]; exact Nat.le_of_lt (small1000 (by omega)))⟩⟩
    · split at ec
      · rename_i xs ys ex ey
        split at ec <;> cases ec
        obtain ⟨a, us, rfl, h1, q1, q1'⟩ := datT_st hs2 p1' ex
        obtain ⟨b, ws, rfl, h2, q2, q2'⟩ := datT_st hs2 p2 ey
        exact ⟨a, b, us, ws, rfl, .inr ⟨q1, q2, k _ _ _ _ hs2 (x1.trans x2) (walks_zipT q1' q2' h1 h2) (by rw [zipD_len]; exact Nat.le_of_lt (small1000 (by omega)))⟩⟩
      · cases ec
end
end OA
namespace OA
open PySem PySem.Spec PyProof.Rows L2

section
variable {X : Cx} {e o i : Expr} {es : List Expr} {c co ci : Cd} {cl : CdL} {pos : Pos}
/-! ### new cells -/
def cNewL (cl : CdL) : Cd := fun en S => (cl en S).bind fun p => (dats p.1).bind fun ds => if ds.length ≤ 1000 then some (.c p.2.length, p.2 ++ [.lst ds]) else none
theorem oNewL (h : PA X es (tEs X.K cl)) : PE X (.List es pos) (tE X.K (cNewL cl)) := (pe_lst h).weak fun σ H Q ⟨F, A, S, en, r, S', hs, he, ec, k⟩ => by
  obtain ⟨⟨r1, S1⟩, e1, ec⟩ := Option.bind_eq_some_iff.mp ec
  obtain ⟨ds, e2, ec⟩ := Option.bind_eq_some_iff.mp ec
  split at ec
  · cases ec
    refine ⟨F, A, S, en, r1, S1, hs, he, e1, fun vs H1 F1 A1 hs1 x1 p1 => ?_⟩
    have p2 := dats_rp p1 e2
    refine ⟨Nat.le_of_lt (small1000 (by rw [p2.length]; assumption)), fun p np => ?_⟩
    obtain ⟨hs2, x2⟩ := hs1.newCell (so := .lst ds) np ⟨hs1.nF np, vs, upd_same, p2⟩
    exact k _ _ _ _ hs2 (x1.trans x2) ⟨p, by rw [← hs1.len]; simp, rfl⟩
  · cases ec
def cNewDT : Cd := fun _ S => some (.c S.length, S ++ [.dT []])
theorem oNewDT : PE X (.Dict [] [] pos) (tE X.K cNewDT) := pe_dnewT.weak fun σ H Q ⟨F, A, S, en, r, S', hs, he, ec, k⟩ => by
  cases ec
  intro p np
  obtain ⟨hs2, x2⟩ := hs.newCell (so := .dT []) np ⟨hs.nF np, [], upd_same, .nil⟩
  exact k _ _ _ _ hs2 x2 ⟨p, by rw [← hs.len]; simp, rfl⟩
/-- list(x), to be changed -/
def cListC (c : Cd) : Cd := fun en S => (c en S).bind fun p => (get p.2 p.1).bind fun d => (seqV d).map fun ds => (.c p.2.length, p.2 ++ [.lst ds])
theorem oListC {p : Pos} {x : Str} (hg : Gl X x) (hm : X.mg x = none) (hv : bootBuiltins x = some (.type "list")) (he : PE X e (tE X.K c)) (hn : x ≠ "__name__" := by decide) (hdb : (x == ("__debug__" : Str)) = false := by decide)
    (hst : starEach [e] X.env = (false, eval e X.env) :: starEach [] X.env := by rfl) (hpl : (backTo pos (starEach [] X.env)).any (·.1) = false := by rfl) : PE X (.Call (.Name x p) [e] [] pos) (tE X.K (cListC c)) :=
  (pe_callTy call_list_of hg hm hv (pa_cons he pa_nil hst) hn hdb hst hpl).weak fun σ H Q ⟨F, A, S, en, r, S', hs, he, ec, k⟩ => by
    obtain ⟨⟨r1, S1⟩, e1, ec⟩ := Option.bind_eq_some_iff.mp ec
    obtain ⟨d, e2, ec⟩ := Option.bind_eq_some_iff.mp ec
    obtain ⟨ds, e3, ec⟩ := Option.map_eq_some_iff.mp ec
    cases ec
    refine ⟨F, A, S, en, r1, S1, hs, he, e1, fun v H1 F1 A1 hs1 x1 p1 => ?_⟩
    obtain ⟨b, ys, rfl, hb, hy⟩ := hs1.rdSeq p1 e2 e3
    refine ⟨b, ys, rfl, hb, fun l nl => ?_⟩
    obtain ⟨hs2, x2⟩ := hs1.newCell (so := .lst ds) nl ⟨hs1.nF nl, ys, upd_same, hy⟩
    exact k _ _ _ _ hs2 (x1.trans x2) ⟨l, by rw [← hs1.len]; simp, rfl⟩

/-! ### cells changed -/
theorem HSt.cellL {K F A H S} {v : V} {k : Nat} {ds : List Dt} (h : HSt K F A H S) (q : RpR K F A v (.c k)) (e : S[k]? = some (.lst ds)) : ∃ a vs, v = .ref a ∧ A[k]? = some a ∧ F a = none ∧ H a = some (.lst vs) ∧ Rps K F vs ds := by
  obtain ⟨a, ea, rfl⟩ := q
  obtain ⟨a', ea', n, vs, e1, t⟩ := Paired.getR h.cells e
  rw [ea] at ea'; cases ea'
  exact ⟨a, vs, rfl, ea, n, e1, t⟩
theorem HSt.cellT {K F A H S} {v : V} {k : Nat} {ds : List (Dt × Dt)} (h : HSt K F A H S) (q : RpR K F A v (.c k)) (e : S[k]? = some (.dT ds)) : ∃ a vs, v = .ref a ∧ A[k]? = some a ∧ F a = none ∧ H a = some (.dT vs) ∧ RpT K F vs ds := by
  obtain ⟨a, ea, rfl⟩ := q
  obtain ⟨a', ea', n, vs, e1, t⟩ := Paired.getR h.cells e
  rw [ea] at ea'; cases ea'
  exact ⟨a, vs, rfl, ea, n, e1, t⟩
def cAppend (co c : Cd) : Cd := fun en S => (co en S).bind fun p => match p.1 with
  | .c k => match p.2[k]? with
    | some (.lst _) => (c en p.2).bind fun q => match q.1, q.2[k]? with
      | .d x, some (.lst ds) => if ds.length < 1000 then some (.d .non, q.2.set k (.lst (ds ++ [x]))) else none
      | _, _ => none
    | _ => none
  | _ => none
theorem oAppend {apos : Pos} (ho : PE X o (tE X.K co)) (ha : PE X e (tE X.K c)) (hbase : attributeBase o "append" X.env (eval o X.env) = eval o X.env := by rfl)
    (hfew : ((backTo pos (starEach [e] X.env)).all (fun x => !x.1) && (backToKw pos (keywordEach [] X.env)).all (fun x => x.1.isSome) && decide ([e].length + ([] : List Keyword).length + (if ([] : List Keyword).isEmpty then 0 else 1) < 30)) = true := by rfl)
    (hline : (apos.endLine == pos.line) = true := by rfl) (hst : starEach [e] X.env = (false, eval e X.env) :: starEach [] X.env := by rfl) (hplain : (backTo pos (starEach [] X.env)).any (·.1) = false := by rfl) :
    PE X (.Call (.Attribute o "append" apos) [e] [] pos) (tE X.K (cAppend co c)) :=
  (pe_bm PySem.F.plainAttrs_list PySem.F.slot_list_append PySem.F.type_list_append mt_append ho (pa_cons ha pa_nil hst) hbase hfew hline hst hplain).weak fun σ H Q ⟨F, A, S, en, r, S', hs, he, ec, k⟩ => by
    obtain ⟨⟨r1, S1⟩, e1, ec⟩ := Option.bind_eq_some_iff.mp ec
    refine ⟨F, A, S, en, r1, S1, hs, he, e1, fun v H1 F1 A1 hs1 x1 p1 => ?_⟩
    split at ec
    · rename_i j hj
      have hj' : r1 = .c j := hj
      subst hj'
      split at ec
      · rename_i ds0 h0
        obtain ⟨a, vs, rfl, ea, na, ha, hvs⟩ := hs1.cellL p1 h0
        refine ⟨.inl ⟨rfl, _, .inl (.inl ha)⟩, ?_⟩
        obtain ⟨⟨r2, S2⟩, e2, ec⟩ := Option.bind_eq_some_iff.mp ec
        refine ⟨F1, A1, S1, en, r2, S2, hs1, he.ext x1, e2, fun w H2 F2 A2 hs2 x2 p2 => ?_⟩
        split at ec
        · rename_i x ds hx h2
          split at ec
          · rename_i hl
            cases ec
            have hx' : r2 = .d x := hx
            subst hx'
            obtain ⟨a', ws, ew, ea', na', ha', hws⟩ := hs2.cellL (p1.ext x2) h2
            cases ew
            obtain ⟨h3, x3⟩ := hs2.put (o := .lst (ws ++ [w])) (so' := .lst (ds ++ [x])) ea' h2 (by simp) ⟨na', _, upd_same, hws.append (.cons p2 .nil)⟩
            exact ⟨a, ws, w, rfl, rfl, ha', small1000 (by rw [hws.length]; omega), k _ _ _ _ h3 ((x1.trans x2).trans x3) Rp.non⟩
          · cases ec
        · cases ec
      · cases ec
    · cases ec
def cPop (co : Cd) : Cd := fun en S => (co en S).bind fun p => match p.1 with
  | .c k => match p.2[k]? with
    | some (.lst ds) => (ds[ds.length - 1]?).map fun x => (.d x, p.2.set k (.lst ds.dropLast))
    | _ => none
  | _ => none
theorem Rps.dropLast {K F} {vs : List V} {ds : List Dt} (h : Rps K F vs ds) : Rps K F vs.dropLast ds.dropLast := by
  rw [List.dropLast_eq_take, List.dropLast_eq_take, h.length]
  exact h.take _
theorem oPop {apos : Pos} (ho : PE X o (tE X.K co)) (hbase : attributeBase o "pop" X.env (eval o X.env) = eval o X.env := by rfl) (hline : (apos.endLine == pos.line) = true := by rfl) : PE X (.Call (.Attribute o "pop" apos) [] [] pos) (tE X.K (cPop co)) :=
  (pe_bm0 PySem.F.plainAttrs_list PySem.F.slot_list_pop PySem.F.type_list_pop mt_pop ho hbase hline).weak fun σ H Q ⟨F, A, S, en, r, S', hs, he, ec, k⟩ => by
    obtain ⟨⟨r1, S1⟩, e1, ec⟩ := Option.bind_eq_some_iff.mp ec
    refine ⟨F, A, S, en, r1, S1, hs, he, e1, fun v H1 F1 A1 hs1 x1 p1 => ?_⟩
    split at ec
    · rename_i j hj
      have hj' : r1 = .c j := hj
      subst hj'
      split at ec
      · rename_i ds h0
        obtain ⟨x, ex, ec⟩ := Option.map_eq_some_iff.mp ec
        cases ec
        obtain ⟨a, vs, rfl, ea, na, ha, hvs⟩ := hs1.cellL p1 h0
        obtain ⟨y, ey, hy⟩ := hvs.get ex
        obtain ⟨h3, x3⟩ := hs1.put (o := .lst vs.dropLast) (so' := .lst ds.dropLast) ea h0 (by simp) ⟨na, _, upd_same, hvs.dropLast⟩
        exact ⟨.inl ⟨rfl, _, .inl (.inl ha)⟩, a, vs, y, rfl, rfl, ha, by rw [hvs.length]; exact ey, k _ _ _ _ h3 (x1.trans x3) hy⟩
      · cases ec
    · cases ec
/-- a[i] = e, a list -/
def sPut (c co ci : Cd) : CdS := fun en S => (c en S).bind fun p => (co en p.2).bind fun q => (ci en q.2).bind fun w => match p.1, q.1, w.1 with
  | .d x, .c k, .d (.int j) => match w.2[k]? with
    | some (.lst ds) => (ixN ds.length j).map fun n => (.nx, en, w.2.set k (.lst (ds.set n x)))
    | _ => none
  | _, _, _ => none
theorem zPut {tp : Pos} (he : PE X e (tE X.K c)) (ho : PE X o (tE X.K co)) (hi : PE X i (tE X.K ci))
    (ha : ∀ v, assign (.Subscript o i tp) X.env v = (do
      let ov ← holding [v] (eval o X.env)
      let iv ← holding [v, ov] (eval i X.env)
      standAt tp
      holding [v, ov, iv] (setItem ov iv v)
      release [v, ov, iv] []) := by intro _; rfl)
    (hs : swapsWithSole [.Subscript o i tp] e pos.line X.env = pure false := by rfl) (hw : swappedStores [.Subscript o i tp] e X.env = pure none := by rfl)
    (h1 : (assignEach [.Subscript o i tp] X.env).map (·.2) = [assign (.Subscript o i tp) X.env] := by rfl) : PS X (.Assign [.Subscript o i tp] e pos) (tS X.K (sPut c co ci)) :=
  (ps_asg he (pg_sub ho hi set_list ha) hs hw h1).weak fun D σ H ⟨F, A, S, en, fl, en', S', hs, he, ec, k⟩ => by
    obtain ⟨⟨r1, S1⟩, e1, ec⟩ := Option.bind_eq_some_iff.mp ec
    obtain ⟨⟨r2, S2⟩, e2, ec⟩ := Option.bind_eq_some_iff.mp ec
    obtain ⟨⟨r3, S3⟩, e3, ec⟩ := Option.bind_eq_some_iff.mp ec
    refine ⟨F, A, S, en, r1, S1, hs, he, e1, fun v H1 F1 A1 hs1 x1 p1 => ⟨F1, A1, S1, en, r2, S2, hs1, he.ext x1, e2, fun ov H2 F2 A2 hs2 x2 p2 => ⟨F2, A2, S2, en, r3, S3, hs2, (he.ext x1).ext x2, e3, fun iv H3 F3 A3 hs3 x3 p3 => ?_⟩⟩⟩
    split at ec
    · rename_i x kk j h1 h2 h3
      have h1' : r1 = .d x := h1
      have h2' : r2 = .c kk := h2
      have h3' : r3 = .d (.int j) := h3
      subst h1' h2' h3'
      split at ec
      · rename_i ds h0
        obtain ⟨n, en1, ec⟩ := Option.map_eq_some_iff.mp ec
        cases ec
        cases p3
        obtain ⟨a, vs, rfl, ea, na, ha, hvs⟩ := hs3.cellL (p2.ext x3) h0
        have p1' := (p1.ext x2).ext x3
        obtain ⟨h4, x4⟩ := hs3.put (o := .lst (vs.set n v)) (so' := .lst (ds.set n x)) ea h0 (by simp) ⟨na, _, upd_same, Rps.set p1' n hvs⟩
        have xx := ((x1.trans x2).trans x3).trans x4
        exact ⟨a, vs, j, n, rfl, rfl, ha, by rw [hvs.length]; exact en1, k _ _ _ _ h4 xx (he.ext xx)⟩
      · cases ec
    · cases ec

/-! ### d[k] = e, tuples of texts as keys -/
def putTD (ds : List (Dt × Dt)) (k : List Str) (v : Dt) : List (Dt × Dt) := if (lookT ds k).isSome then ds.map (fun p => if keyT p.1 = some k then (p.1, v) else p) else ds ++ [(.tup (k.map .str), v)]
theorem replT_rp {K F} {k : List Str} {v : V} {d : Dt} (hv : Rp K F v d) : ∀ {kvs : List (List Key × V)} {ds : List (Dt × Dt)}, RpT K F kvs ds →
    RpT K F (kvs.map fun kv => if kv.1 = k.map Sum.inr then (kv.1, v) else kv) (ds.map fun p => if keyT p.1 = some k then (p.1, d) else p)
  | _, _, .nil => .nil
  | _, _, .cons (k := k') h t => by
    have ih := replT_rp (k := k) hv t
    rw [List.map_cons, List.map_cons]
    by_cases e : k' = k
    · subst e
      rw [if_pos rfl, if_pos (by show strsOf _ = _; exact strsOf_map _)]
      exact .cons hv ih
    · rw [if_neg (fun z => e (inr_inj (by simpa using z))), if_neg (by show ¬ strsOf _ = _; rw [strsOf_map]; simpa using e)]
      exact .cons h ih
theorem snocT_rp {K F} {k : List Str} {v : V} {d : Dt} (hv : Rp K F v d) : ∀ {kvs : List (List Key × V)} {ds : List (Dt × Dt)}, RpT K F kvs ds → RpT K F (kvs ++ [(k.map Sum.inr, v)]) (ds ++ [(.tup (k.map .str), d)])
  | _, _, .nil => .cons hv .nil
  | _, _, .cons h t => .cons h (snocT_rp hv t)
theorem putTD_rp {K F} {kvs : List (List Key × V)} {ds : List (Dt × Dt)} {k : List Str} {v : V} {d : Dt} (h : RpT K F kvs ds) (hv : Rp K F v d) : RpT K F (putK kvs (k.map .inr) v) (putTD ds k d) := by
  have ho := orp_some (lookT_rp k h)
  unfold putK putTD
  rw [valV_any, ho]
  split
  · exact replT_rp hv h
  · exact snocT_rp hv h
def sPutT (c co ci : Cd) : CdS := fun en S => (c en S).bind fun p => (co en p.2).bind fun q => (ci en q.2).bind fun w => match p.1, q.1, w.1 with
  | .d x, .c k, kr => match w.2[k]? with
    | some (.dT ds) => (get w.2 kr).bind fun kd => (keyT kd).bind fun ks => if ds.length < 1000 then some (.nx, en, w.2.set k (.dT (putTD ds ks x))) else none
    | _ => none
  | _, _, _ => none
theorem zPutT {kk : Nat} {tp : Pos} (hr : Room kk X.A) (he : PE X e (tE X.K c)) (ho : PE X o (tE X.K co)) (hi : PE X i (tE X.K ci)) (hs : swapsWith e (some (.Subscript o i tp)) pos.line X.env = pure false := by rfl) :
    PS X (.Assign [.Subscript o i tp] e pos) (tS X.K (sPutT c co ci)) :=
  (ps_dput (by have := hr.un; omega) ho hi he hs).weak fun D σ H ⟨F, A, S, en, fl, en', S', hs, he, ec, k⟩ => by
    obtain ⟨⟨r1, S1⟩, e1, ec1⟩ := Option.bind_eq_some_iff.mp ec
    obtain ⟨⟨r2, S2⟩, e2, ec2⟩ := Option.bind_eq_some_iff.mp ec1
    obtain ⟨⟨r3, S3⟩, e3, ec3⟩ := Option.bind_eq_some_iff.mp ec2
    clear ec ec1 ec2
    refine ⟨F, A, S, en, r1, S1, hs, he, e1, fun v H1 F1 A1 hs1 x1 p1 => ⟨F1, A1, S1, en, r2, S2, hs1, he.ext x1, e2, fun ov H2 F2 A2 hs2 x2 p2 => ⟨F2, A2, S2, en, r3, S3, hs2, (he.ext x1).ext x2, e3, fun iv H3 F3 A3 hs3 x3 p3 => ?_⟩⟩⟩
    split at ec3
    · rename_i kr x j h1 h2
      have h1' : r1 = .d x := h1
      have h2' : r2 = .c j := h2
      subst h1' h2'
      split at ec3
      · rename_i ds h0
        obtain ⟨kd, ek, ec4⟩ := Option.bind_eq_some_iff.mp ec3
        obtain ⟨ks, eks, ec⟩ := Option.bind_eq_some_iff.mp ec4
        split at ec
        · rename_i hl
          cases ec
          obtain ⟨b, rfl, hb⟩ := hs3.rdKey p3 ek eks
          obtain ⟨a, vs, rfl, ea, na, ha, hvs⟩ := hs3.cellT (p2.ext x3) h0
          have p1' := (p1.ext x2).ext x3
          obtain ⟨h4, x4⟩ := hs3.put (o := .dT (putK vs (ks.map .inr) v)) (so' := .dT (putTD ds ks x)) ea h0 (by simp) ⟨na, _, upd_same, putTD_rp hvs p1'⟩
          have xx := ((x1.trans x2).trans x3).trans x4
          exact ⟨a, _, rfl, DPut.t ha hb (small1000 (by rw [hvs.len]; omega)), k _ _ _ _ h4 xx (he.ext xx)⟩
        · cases ec
      · cases ec3
    · cases ec3
end

/-! ### dict(pairs) -/
def pairK : List Dt → Option (List (Str × Dt))
  | [] => some []
  | d :: ds => match tupV d with
    | some [.str k, v] => (pairK ds).map ((k, v) :: ·)
    | _ => none
def putKD (ds : List (Dt × Dt)) (k : Str) (v : Dt) : List (Dt × Dt) := if (lookK ds k).isSome then ds.map (fun p => if keyK p.1 = some k then (p.1, v) else p) else ds ++ [(.str k, v)]
theorem replK_rp {K F} {k : Str} {v : V} {d : Dt} (hv : Rp K F v d) : ∀ {kvs : List (Key × V)} {ds : List (Dt × Dt)}, RpK K F kvs ds →
    RpK K F (kvs.map fun kv => if kv.1 = Sum.inr k then (kv.1, v) else kv) (ds.map fun p => if keyK p.1 = some k then (p.1, d) else p)
  | _, _, .nil => .nil
  | _, _, .cons (k := k') h t => by
    have ih := replK_rp (k := k) hv t
    rw [List.map_cons, List.map_cons]
    by_cases e : k' = k
    · subst e
      rw [if_pos rfl, if_pos (show keyK (Dt.str k') = some k' from rfl)]
      exact .cons hv ih
    · rw [if_neg (fun z => e (by simpa using z)), if_neg (by simp [keyK, e])]
      exact .cons h ih
theorem snocK_rp {K F} {k : Str} {v : V} {d : Dt} (hv : Rp K F v d) : ∀ {kvs : List (Key × V)} {ds : List (Dt × Dt)}, RpK K F kvs ds → RpK K F (kvs ++ [(Sum.inr k, v)]) (ds ++ [(.str k, d)])
  | _, _, .nil => .cons hv .nil
  | _, _, .cons h t => .cons h (snocK_rp hv t)
theorem putKD_rp {K F} {kvs : List (Key × V)} {ds : List (Dt × Dt)} {k : Str} {v : V} {d : Dt} (h : RpK K F kvs ds) (hv : Rp K F v d) : RpK K F (putK kvs (.inr k) v) (putKD ds k d) := by
  have ho := orp_some (lookK_rp k h)
  unfold putK putKD
  rw [valV_any, ho]
  split
  · exact replK_rp hv h
  · exact snocK_rp hv h
def mergeKD (acc : List (Dt × Dt)) : List (Str × Dt) → List (Dt × Dt)
  | [] => acc
  | (k, v) :: r => mergeKD (putKD acc k v) r
/-- a list of pairs, or a tuple whose object is known -/
def PairSeq (K : PySem.W.Frag) (H : Hp) (a : Addr) (xs : List V) : Prop := SqL K H a xs ∨ ∃ ob, H a = some (.frz ob (.tup xs)) ∧ ob.dict = none
def rDictK (K : PySem.W.Frag) : List V → Hp → VK → Prop := fun xs H Q => ∃ (a : Addr) (ps : List Addr) (kvs : List (Key × V)), xs = [.ref a] ∧ PairSeq K H a (ps.map V.ref) ∧ Paired (fun p kv => SqT K H p [kV kv.1, kv.2]) ps kvs ∧
    ∀ p, H p = none → Q (.ref p) (upd H p (.dK (mergeK [] kvs)))
theorem pairs_vals {X : Cx} {pins : List (Addr × Obj)} {σ : L2.St} {H : Hp} {s : Shared} (I : Inv X pins σ H s) : ∀ {ps : List Addr} {kvs : List (Key × V)}, Paired (fun p kv => SqT X.K H p [kV kv.1, kv.2]) ps kvs →
    ∃ (pv : List (Value × Value)) (prs : List (Key × Value)), KV kvs prs ∧ pv.length = ps.length ∧ prs.length = ps.length ∧ ∀ (j : Nat) u y, pv[j]? = some (u, y) → ∃ k b, prs[j]? = some (k, y) ∧ ps[j]? = some b ∧ IsTup s.heap b #[u, y] ∧ keyIs k u = true
  | _, _, .nil => ⟨[], [], .nil, rfl, rfl, fun j u y e => by simp at e⟩
  | _, _, .cons (a := p) (b := kv) h t => by
    obtain ⟨pv, prs, r, l1, l2, hp⟩ := pairs_vals I t
    obtain ⟨its, rv, ht, _⟩ := I.tuple h
    obtain ⟨u, y, rfl, ru, ry⟩ := vals2 rv
    refine ⟨(u, y) :: pv, (kv.1, y) :: prs, .cons ⟨rfl, ry⟩ r, by simp [l1], by simp [l2], fun j u' y' e => ?_⟩
    cases j with
    | zero =>
      simp at e
      obtain ⟨rfl, rfl⟩ := e
      exact ⟨kv.1, p, rfl, rfl, ht, kV_is (P := X.prog) (w := X.w) ru⟩
    | succ j => simpa using hp j u' y' (by simpa using e)
theorem clDictK {X : Cx} (hc : X.calm = true) : CallR X (.type "dict") (rDictK X.K) := by
  rintro pins s σ H xs us Q I r ⟨a, ps, kvs, rfl, hq, hp, q⟩
  rcases hq with hq | ⟨ob, hq, hd⟩
  · exact call_dictP hc pins s σ H _ us Q I r ⟨a, ps, kvs, rfl, hq, hp, q⟩
  · obtain ⟨u, rfl, rx⟩ := vals1 r
    cases rx
    obtain ⟨ho, hz, its, rv, ob', ho', hcl, n, hdat⟩ := (show ObjOk X.prog X.w H s.heap a (.frz ob (.tup (ps.map V.ref))) from I.hok a _ hq)
    rw [ho] at ho'; cases ho'
    have ei := refs_at rv
    subst ei
    rw [List.length_map] at hz
    obtain ⟨pv, prs, rel, l1, l2, hpr⟩ := pairs_vals I hp
    have hpi : PairItems s.heap (ps.map Value.ref).toArray (fun j => ps.getD j 0) pv := by
      refine ⟨by simp [l1], fun j k v e => ?_⟩
      obtain ⟨kk, b, e1, e2, e3, e4⟩ := hpr j k v e
      exact ⟨by simp [e2], .inl (by simpa [List.getD, e2] using (show s.heap.IsTuple b #[k, v] from e3))⟩
    refine PySem.call_dict_pairs (knd := mixKind X.prog X.w) (kvs := prs) (PairArg.tuple a (ps.map Value.ref).toArray (fun j => ps.getD j 0) pv) (I.ok.hd hc) ⟨⟨ob, n, ho, hcl, hd, hdat⟩, hpi⟩ ⟨by rw [l1, l2], fun j key v e => ?_⟩ (by rw [l1]; exact hz) fun h' tk hd' kp => ?_
    · obtain ⟨kk, b, e1, e2, e3, e4⟩ := hpr j key v e
      exact ⟨kk, e1, e4⟩
    · have hm : (s.heap.objs.size == sysModules) = false := beq_eq_false_iff_ne.mpr (Nat.ne_of_gt I.big)
      have hlen : (mergeK [] kvs).length ≤ sizeLine := Nat.le_trans (length_mergeK kvs []) (by rw [List.length_nil, Nat.zero_add, rel.length, l2]; exact hz)
      exact ⟨.ref s.heap.objs.size, upd H s.heap.objs.size (.dK (mergeK [] kvs)), I.laid (t' := tk) (fun b o e => kp b o (by simp) e) (Nat.le_refl _) (show ObjOk X.prog X.w _ _ _ (.dK (mergeK [] kvs)) from ⟨hlen, hm, merged [] prs, KV.merge rel .nil, hd'⟩), rfl, q _ (I.hok.fresh (Nat.le_refl _))⟩
theorem mergeKD_rp {K F} : ∀ {kvs : List (Key × V)} {ps : List (Str × Dt)} {acc : List (Key × V)} {ad : List (Dt × Dt)}, Paired (fun kv p => kv.1 = Sum.inr p.1 ∧ Rp K F kv.2 p.2) kvs ps → RpK K F acc ad → RpK K F (mergeK acc kvs) (mergeKD ad ps)
  | _, _, _, _, .nil, h => h
  | (k, v) :: kvs, (k', d) :: ps, acc, ad, .cons r t, h => by
    obtain ⟨rfl, hv⟩ := r
    show RpK K F (mergeK (putK acc (.inr k') v) kvs) (mergeKD (putKD ad k' d) ps)
    exact mergeKD_rp t (putKD_rp h hv)
/-- a sequence handed to dict() -/
def pairV : Dt → Option (List Dt)
  | .lst ds => some ds
  | .tup ds => if ds.all isStr then none else some ds
  | .tup0 => some []
  | _ => none
theorem HSt.rdPairs {K F A H S} {v : V} {r : R} {d : Dt} {ds : List Dt} (h : HSt K F A H S) (q : RpR K F A v r) (g : get S r = some d) (t : pairV d = some ds) (nk : ∀ i j, ds ≠ [.int i, .int j]) : ∃ a xs, v = .ref a ∧ PairSeq K H a xs ∧ Rps K F xs ds := by
  unfold pairV at t
  split at t
  · cases t
    obtain ⟨a, xs, rfl, e, u⟩ := h.rdL q g
    exact ⟨a, xs, rfl, .inl (.inl (.inl e)), u⟩
  · split at t <;> cases t
    rename_i hn
    cases r with
    | d x =>
      cases g
      cases q with
      | tupS c _ _ => exact absurd c hn
      | tupP c e n u => exact ⟨_, _, rfl, .inr ⟨_, h.sub _ _ e, n⟩, u⟩
      | kt e => exact absurd rfl (nk _ _)
    | s ns => cases g
    | c k =>
      obtain ⟨so, e1, e2⟩ := Option.bind_eq_some_iff.mp g
      cases so <;> cases e2
  · cases t
    cases r with
    | d x =>
      cases g
      cases q with
      | tup0 e n => exact ⟨_, _, rfl, .inr ⟨_, h.sub _ _ e, n⟩, .nil⟩
    | s ns => cases g
    | c k =>
      obtain ⟨so, e1, e2⟩ := Option.bind_eq_some_iff.mp g
      cases so <;> cases e2
  · cases t
theorem pairK_rp {K F H} (sub : Ge F H) : ∀ {ds : List Dt} {xs : List V} {ps : List (Str × Dt)}, Rps K F xs ds → pairK ds = some ps →
    ∃ (as : List Addr) (kvs : List (Key × V)), xs = as.map V.ref ∧ Paired (fun p kv => SqT K H p [kV kv.1, kv.2]) as kvs ∧ Paired (fun kv p => kv.1 = Sum.inr p.1 ∧ Rp K F kv.2 p.2) kvs ps
  | [], _, _, .nil, h => by cases h; exact ⟨[], [], rfl, .nil, .nil⟩
  | d :: ds, _, _, .cons hv t, h => by
    unfold pairK at h
    split at h
    · rename_i k v ht
      obtain ⟨ps, e, rfl⟩ := Option.map_eq_some_iff.mp h
      obtain ⟨as, kvs, rfl, h1, h2⟩ := pairK_rp sub t e
      have fin : ∀ {a : Addr} {xs : List V}, SqT K H a xs → Rps K F xs [.str k, v] → ∃ (as' : List Addr) (kvs' : List (Key × V)), V.ref a :: as.map V.ref = as'.map V.ref ∧ Paired (fun p kv => SqT K H p [kV kv.1, kv.2]) as' kvs' ∧ Paired (fun kv p => kv.1 = Sum.inr p.1 ∧ Rp K F kv.2 p.2) kvs' ((k, v) :: ps) := fun {a xs} hs hx => by
        cases hx with
        | cons hk tt => cases tt with
          | cons hw tt =>
            cases tt
            cases hk
            exact ⟨a :: as, (Sum.inr k, _) :: kvs, rfl, .cons hs h1, .cons ⟨rfl, hw⟩ h2⟩
      cases hv with
      | tupS _ e1 u => cases ht; exact fin (.inl (.inl (sub _ _ e1))) u
      | tupP _ e1 _ u => cases ht; exact fin (.inl (.inr ⟨_, sub _ _ e1⟩)) u
      | tup0 e1 _ => cases ht
      | pr e1 u => cases ht; exact fin (.inl (.inl (sub _ _ e1))) u
      | kt e1 => cases ht
      | _ => cases ht
    · cases h
section
variable {X : Cx} {e : Expr} {c : Cd} {pos p : Pos} {x : Str}
def cDictK (c : Cd) : Cd := fun en S => (c en S).bind fun q => (get q.2 q.1).bind fun d => (pairV d).bind fun ds => (pairK ds).map fun ps => (.d (.dK (mergeKD [] ps)), q.2)
theorem oDictK (hc : X.calm = true) (hg : Gl X x) (hm : X.mg x = none) (hv : bootBuiltins x = some (.type "dict")) (he : PE X e (tE X.K c)) (hn : x ≠ "__name__" := by decide) (hdb : (x == ("__debug__" : Str)) = false := by decide)
    (hst : starEach [e] X.env = (false, eval e X.env) :: starEach [] X.env := by rfl) (hpl : (backTo pos (starEach [] X.env)).any (·.1) = false := by rfl) : PE X (.Call (.Name x p) [e] [] pos) (tE X.K (cDictK c)) :=
  (pe_lk (pe_callTy (clDictK hc) hg hm hv (pa_cons he pa_nil hst) hn hdb hst hpl)).weak fun σ H Q ⟨F, A, S, en, r, S', hs, he, ec, k⟩ => by
    obtain ⟨⟨r1, S1⟩, e1, ec⟩ := Option.bind_eq_some_iff.mp ec
    obtain ⟨d, ed, ec⟩ := Option.bind_eq_some_iff.mp ec
    obtain ⟨ds, eds, ec⟩ := Option.bind_eq_some_iff.mp ec
    obtain ⟨ps, eps, ec⟩ := Option.map_eq_some_iff.mp ec
    cases ec
    refine ⟨F, A, S, en, r1, S1, hs, he, e1, fun v H1 F1 A1 hs1 x1 p1 => ?_⟩
    obtain ⟨a, xs, rfl, hq, hx⟩ := hs1.rdPairs p1 ed eds (fun i j z => by subst z; cases eps)
    obtain ⟨as, kvs, rfl, h1, h2⟩ := pairK_rp hs1.sub hx eps
    refine ⟨a, as, kvs, rfl, hq, h1, fun p np => ⟨p, _, rfl, upd_same, trivial, fun od => ?_⟩⟩
    rw [upd_upd]
    obtain ⟨h3, x3⟩ := hs1.lay (o := .frz od (.dK (mergeK [] kvs))) np
    exact k _ _ _ _ h3 (x1.trans x3) (Rp.dK upd_same ((mergeKD_rp h2 .nil).mono x3.ge))
end
end OA
namespace OA
open PySem PySem.Spec PyProof.Rows L2

/-- what a name holds is frozen from here on -/
def sFz (i : Nat) (c : CdS) : CdS := fun en S => match en[i]? with
  | some (some (.c k)) => (S[k]?).bind fun o => o.val.bind fun x => c (en.set i (some (.d x))) (S.set k .gone)
  | _ => c en S
theorem EnvR.setS {K : PySem.W.Frag} {F : Hp} {A : List Addr} {σ : L2.St} {en : En} {i : Nat} {v : V} {r : R} (h : EnvR K F A σ en) (e : σ[i]? = some (some v)) (q : RpR K F A v r) : EnvR K F A σ (en.set i (some r)) := ⟨by simp [h.1], fun j r' ej => by
  by_cases hj : i = j
  · subst hj
    by_cases hl : i < en.length
    · rw [List.getElem?_set_self hl] at ej
      cases ej
      exact ⟨v, e, q⟩
    · rw [List.getElem?_eq_none (by simp; omega)] at ej; cases ej
  · rw [List.getElem?_set_ne hj] at ej
    exact h.2 j r' ej⟩
theorem zFz {X : Cx} {st : Stmt} {i : Nat} {c : CdS} (h : PS X st (tS X.K c)) : PS X st (tS X.K (sFz i c)) := by
  refine ⟨fun pins s σ H D I ⟨F, A, S, en, fl, en', S', hs, he, ec, k⟩ => ?_⟩
  unfold sFz at ec
  split at ec
  · rename_i j ej
    obtain ⟨o, eo, ec⟩ := Option.bind_eq_some_iff.mp ec
    obtain ⟨x, ex, ec⟩ := Option.bind_eq_some_iff.mp ec
    obtain ⟨v, ev, a, ea, rfl⟩ := he.2 i _ ej
    obtain ⟨a', ea', hc⟩ := Paired.getR hs.cells eo
    rw [ea] at ea'; cases ea'
    have go : ∀ (H2 : Hp) (F2 : Hp), HSt X.K F2 A H2 (S.set j .gone) → Ext F A H F2 A H2 → Rp X.K F2 (.ref a) x → Inv X pins σ H2 s → wpAny (model X.prog X.w) X.A (exec st X.env) (SP X pins D) X.xe s := by
      intro H2 F2 hs2 x2 p2 I2
      refine h.run pins s σ H2 D I2 ⟨F2, A, _, _, fl, en', S', hs2, EnvR.setS (r := .d x) (he.ext x2) ev p2, ec, ?_⟩
      cases fl with
      | nx => exact fun σ' H' F' A' hs' x' he' => k σ' H' F' A' hs' (x2.trans x') he'
      | ret r => exact fun v H' F' A' hs' x' p' => k v H' F' A' hs' (x2.trans x') p'
      | bk => exact fun σ' H' F' A' hs' x' he' => k σ' H' F' A' hs' (x2.trans x') he'
      | ct => exact fun σ' H' F' A' hs' x' he' => k σ' H' F' A' hs' (x2.trans x') he'
    cases o with
    | gone => cases ex
    | lst ds =>
      cases ex
      obtain ⟨_, vs, e3, t⟩ := hc
      obtain ⟨hs2, x2⟩ := hs.frz (o := .lst vs) ea eo (by simp)
      have eH : upd H a (.lst vs) = H := by
        funext b
        by_cases hb : b = a
        · subst hb; rw [upd_same, e3]
        · rw [upd_ne hb]
      rw [eH] at hs2 x2
      exact go H _ hs2 x2 (Rp.lst upd_same (t.mono x2.ge)) I
    | dK ds =>
      obtain ⟨_, vs, e3, t⟩ := hc
      obtain ⟨od, I2⟩ := I.lock e3 trivial
      obtain ⟨hs2, x2⟩ := hs.frz (o := .frz od (.dK vs)) ea eo (by simp)
      cases ex
      exact go _ _ hs2 x2 (Rp.dK upd_same (t.mono x2.ge)) I2
    | dT ds =>
      obtain ⟨_, vs, e3, t⟩ := hc
      obtain ⟨od, I2⟩ := I.lock e3 trivial
      obtain ⟨hs2, x2⟩ := hs.frz (o := .frz od (.dT vs)) ea eo (by simp)
      cases ex
      exact go _ _ hs2 x2 (Rp.dT upd_same (t.mono x2.ge)) I2
  · exact h.run pins s σ H D I ⟨F, A, S, en, fl, en', S', hs, he, ec, k⟩
end OA
namespace OA
open PySem PyProof.Rows Srt SrtO L2

/-! ### sorted(), of lists and tuples -/
section
variable {prog : Program} {w : World} {A : Around} {E : Value → Shared → Prop} {s : Shared}
abbrev heapC (h : Heap) (vs : List Value) : Heap := (h.push (seqObj "list" #[] 0)).update h.objs.size (Obj.mapSeq (· ++ vs.toArray))
theorem collT {l : Addr} {vs : List Value} {Q : List Value → Shared → Prop} (hl : IsTup s.heap l vs.toArray) (hz : vs.length ≤ sizeLine) (h : Q vs { s with heap := heapC s.heap vs }) : wpAny (model prog w) A (collect (.ref l)) Q E s := by
  obtain ⟨o, ho, hc, n, hd⟩ := hl
  have ho2 : (s.heap.push (seqObj "list" #[] 0)).get? l = some o := Heap.get?_push_of_some _ ho
  have hn : (s.heap.push (seqObj "list" #[] 0)).get? s.heap.objs.size = some (seqObj "list" #[] 0) := Heap.get?_push_size _ rfl
  have ht : (Builtin.List.listSameRef (.ref s.heap.objs.size) (.ref l) || Value.type "tuple" == Value.type "list" || Value.type "tuple" == Value.type "tuple") = true := by
    rw [show (Value.type "tuple" == Value.type "tuple") = true by rfl, Bool.or_true]
  have last : wpAny (model prog w) A (do
      let o ← load s.heap.objs.size
      match o.data with
      | .seq xs _ => pure xs.toList
      | _ => unsupported "internal:collect") Q E { s with heap := heapC s.heap vs } := by
    refine wpAny_bind (wpAny_load (get?_update_seq hn _) ?_)
    show wpAny _ _ (pure ((#[] : Array Value) ++ vs.toArray).toList) Q E _
    rw [show ((#[] : Array Value) ++ vs.toArray).toList = vs by simp]; exact wpAny_pure h
  unfold collect
  refine wpAny_bind (wpAny_runValue (codeAny_builtin entry_proto_collect' (show wpAny _ _ (do again (.builtin "list.__iadd__" ⟨[← newList [], .ref l], []⟩)) _ _ s from ?_)))
  refine wpAny_bind (wpAny_newList (wpAny_pure ⟨Code.quiet_builtin _ (by decide +kernel), codeAny_builtin entry_list_iadd' (show wpAny _ _ (Builtin.List.listExtendWith (.ref s.heap.objs.size) (.ref l) (.ref s.heap.objs.size)) _ _ { s with heap := s.heap.push (seqObj "list" #[] 0) } from ?_)⟩))
  unfold Builtin.List.listExtendWith
  refine wpAny_bind (wpAny_typeOf (T := "tuple") ⟨o, ho2, hc⟩ ?_)
  rw [if_pos ht]
  refine wpAny_bind (listItems_at ho2 hd (wpAny_bind (listItems_at (xs := #[]) (n := 0) hn rfl ?_)))
  rw [if_neg (by simp)]
  exact wpAny_bind (listUpdate_at (xs := #[]) (n := 0) hn rfl (wpAny_pure last) (Nat.zero_le _) (by show (#[] ++ vs.toArray).size ≤ sizeLine + 1; simp only [Array.size_append, List.size_toArray, List.length_nil]; omega))
theorem collL {l : Addr} {vs : List Value} {Q : List Value → Shared → Prop} (hl : s.heap.IsList l vs.toArray) (hz : vs.length ≤ sizeLine) (h : Q vs { s with heap := heapC s.heap vs }) : wpAny (model prog w) A (collect (.ref l)) Q E s := collect_list hl h hz
set_option maxHeartbeats 4000000 in
theorem sorted_at {v : Value} {vs : List Value} {ltv : Value → Value → Bool} {Q : Value → Shared → Prop} (O : Swo ltv) (hc : ∀ Q' : List Value → Shared → Prop, Q' vs { s with heap := heapC s.heap vs } → wpAny (model prog w) A.in1 (collect v) Q' E s) (hz : vs.length ≤ sizeLine)
    (hS : 2 ≤ vs.length → ∀ (h1 : Heap) (a : Addr), h1.get? a = some (seqObj "list" vs.toArray 0) → (∀ b o, s.heap.get? b = some o → b ≠ a ∧ h1.get? b = some o) → SortableO prog w A.in1.in1 { s with heap := h1 } a vs ltv)
    (h : ∀ out : List Value, Srtd ltv out → Stb ltv out vs → Q (.ref (s.heap.objs.size + 1)) { s with heap := sortedAll s.heap vs out.toArray }) : wpAny (model prog w) A (call (.builtin "sorted") [v]) Q E s := by
  have hsz : (heapC s.heap vs).objs.size = s.heap.objs.size + 1 := by rw [Heap.size_update, size_push']
  have hoL : ((heapC s.heap vs).push (seqObj "list" vs.toArray 0)).get? (s.heap.objs.size + 1) = some (seqObj "list" vs.toArray 0) := hsz ▸ Heap.get?_push_size _ rfl
  have keep : ∀ b o, s.heap.get? b = some o → b ≠ s.heap.objs.size + 1 ∧ ((heapC s.heap vs).push (seqObj "list" vs.toArray 0)).get? b = some o := fun b o q => by
    have hlt := Heap.lt_size q
    refine ⟨Nat.ne_of_lt (Nat.lt_succ_of_lt hlt), Heap.get?_push_of_some _ ?_⟩
    rw [Heap.get?_update_ne _ _ _ _ (Nat.ne_of_lt hlt)]; exact Heap.get?_push_of_some _ q
  refine Calls.call_function_entry kind_sorted plain_sorted entry_sorted (args_sorted1 _) (show wpAny _ _ (Builtin.«sorted» _) _ _ _ from ?_)
  unfold Builtin.«sorted»
  refine wpAny_bind (m := checkCount "sorted" 1 1 _) (wpAny_pure (wpAny_bind (hc _ (wpAny_bind (wpAny_newList ?_ hz)))))
  show wpAny _ _ _ _ _ { s with heap := (heapC s.heap vs).push (seqObj "list" vs.toArray 0) }
  rw [hsz]
  exact wpAny_bind (wpAny_holding (wpAny_call_entry slot_list_sort ⟨_, hoL, rfl⟩ entry_list_sort (list_sort_ord O hoL hz (fun h2 => hS h2 _ _ hoL keep) fun out hs hb => ⟨_, rfl, wpAny_pure ⟨_, rfl, h out hs hb⟩⟩) (args_list_sort _)))
def ltN (k : Value → Str) (v u : Value) : Bool := decide ((k v).cps.toList < (k u).cps.toList)
theorem swoN (k : Value → Str) : Swo (ltN k) := by
  refine ⟨fun x y h => ?_, fun x y z h1 h2 => ?_⟩
  · unfold ltN at *
    exact decide_eq_false (List.lt_asymm (of_decide_eq_true h))
  · unfold ltN at *
    have a := of_decide_eq_false h1
    have b := of_decide_eq_false h2
    rw [List.not_lt] at a b
    exact decide_eq_false (List.not_lt.mpr (List.le_trans a b))
def IsRowV (h : Heap) (v : Value) (n : Str) : Prop := ∃ a o items m tk r, v = .ref a ∧ h.get? a = some o ∧ o.cls = .type "tuple" ∧ o.data = .seq items m ∧ items.toList = .str n tk :: r
theorem IsRowV.keeps {h h' : Heap} {v : Value} {n : Str} (p : IsRowV h v n) (k : ∀ b o, h.get? b = some o → o.cls = .type "tuple" → h'.get? b = some o) : IsRowV h' v n := by
  obtain ⟨a, o, it, m, tk, r, e, ho, hc, hd, hi⟩ := p
  exact ⟨a, o, it, m, tk, r, e, k _ _ ho hc, hc, hd, hi⟩
theorem kat_self {b : Bool} {Q : Bool → Shared → Prop} : ∀ (l : List Value) (i : Nat), Q false s → PySem.W.KatLex prog w A b false Q (l.zip l) i s
  | [], _, h => PySem.W.kat_nil h
  | v :: l, i, h => PySem.W.kat_cons (SeqAt.EqAt.same v prog w _ _ (PySem.W.kat_yes (kat_self l (i + 1) h)))
theorem row_cmp {vs : List Value} {k : Value → Str} (hp : ∀ v ∈ vs, IsRowV s.heap v (k v)) (hj : ∀ v ∈ vs, ∀ u ∈ vs, k v = k u → v = u) : Cmp prog w A s (tuples' true) (fun p => p.1 ∈ vs) (lt2 (ltN k)) := by
  intro p q hm hm'
  show wpAny (model prog w) A (keyLt' (tuples' true) p.1 q.1) (fun r s' => s' = s ∧ r = ltN k p.1 q.1) (fun _ _ => False) s
  by_cases e : k p.1 = k q.1
  · have e2 := hj _ hm _ hm' e
    rw [← e2]
    obtain ⟨a, o, it, m, tk, r, ev, ho, hc, hd, hi⟩ := hp _ hm
    have hr : ltN k p.1 p.1 = false := (swoN k).refl _
    rw [hr, ev]
    refine PySem.W.kat_lt ho hd ho hd ?_
    rw [decide_eq_false (Nat.lt_irrefl _)]
    exact kat_self _ 0 ⟨rfl, rfl⟩
  · have h1 := hp _ hm
    have h2 := hp _ hm'
    unfold ltN
    generalize k p.1 = x at *
    generalize k q.1 = y at *
    obtain ⟨a, o, it, m, tk, r, ev, ho, hc, hd, hi⟩ := h1
    obtain ⟨a', o', it', m', tk', r', ev', ho', hc', hd', hi'⟩ := h2
    rw [ev, ev']
    refine PySem.W.kat_lt ho hd ho' hd' ?_
    rw [hi, hi', List.zip_cons_cons]
    refine PySem.W.kat_cons (SeqAt.EqAt.str_str x tk y tk' prog w _ _ ?_)
    rw [beq_eq_false_iff_ne.mpr e]
    exact PySem.W.kat_no (oneLt_str ⟨rfl, rfl⟩)
theorem row_firsts {h : Heap} {k : Value → Str} : ∀ {vs : List Value}, (∀ v ∈ vs, IsRowV h v (k v)) → ∃ fs : List Value, PySem.W.KatTups h vs fs ∧ fs.length = vs.length ∧ ∀ f ∈ fs, ∃ x t, f = Value.str x t
  | [], _ => ⟨[], PySem.W.KatTups.nil, rfl, fun _ hm => by simp at hm⟩
  | v :: vs, hp => by
    obtain ⟨fs, h1, h2, h3⟩ := row_firsts (vs := vs) fun u hu => hp u (List.mem_cons_of_mem _ hu)
    obtain ⟨a, o, it, m, tk, r, ev, ho, hc, hd, hi⟩ := hp v List.mem_cons_self
    subst ev
    have hi0 : it[0]? = some (.str (k (.ref a)) tk) := by rw [← Array.getElem?_toList, hi]; rfl
    refine ⟨.str (k (.ref a)) tk :: fs, PySem.W.KatTups.cons ho hc hd hi0 h1, by rw [List.length_cons, List.length_cons, h2], fun f hf => ?_⟩
    rcases List.mem_cons.mp hf with rfl | hf
    · exact ⟨_, _, rfl⟩
    · exact h3 f hf
theorem rows_srt {a : Addr} {vs : List Value} {k : Value → Str} (h0 : 0 < vs.length) (hp : ∀ v ∈ vs, IsRowV s.heap v (k v)) (hj : ∀ v ∈ vs, ∀ u ∈ vs, k v = k u → v = u) (ha : ∀ o, s.heap.get? a = some o → o.cls ≠ .type "tuple") : SortableO prog w A s a vs (ltN k) := by
  intro h' keep
  have hp' : ∀ v ∈ vs, IsRowV h' v (k v) := fun v hm => (hp v hm).keeps fun b o e c => keep b o (fun z => by subst z; exact ha o e c) e
  obtain ⟨fs, h1, h2, h3⟩ := row_firsts hp'
  refine ⟨tuples' true, fun Q E hq => ?_, row_cmp (s := { s with heap := h' }) hp' hj⟩
  refine PySem.W.kat_kind (T := .type "str") h1 (by omega) (fun f hm => ?_) (by rfl) ?_
  · obtain ⟨x, t, rfl⟩ := h3 f hm
    exact PySem.W.Looks.now
  · rw [show (Value.type "str" != Value.type "tuple") = true by first | decide +kernel | rfl | decide]
    exact hq
/-- texts -/
theorem strs_srt {a : Addr} {vs : List Value} {k : Value → Str} (h0 : 2 ≤ vs.length) (hp : ∀ v ∈ vs, ∃ t, v = .str (k v) t) : SortableO prog w A s a vs (ltN k) := by
  intro h' keep
  refine ⟨oneType', fun Q E hq => ?_, ?_⟩
  · have hs : ∀ us : List Value, (∀ v ∈ us, ∃ t, v = .str (k v) t) → StrsAre us (us.map k) := by
      intro us
      induction us with
      | nil => exact fun _ => .nil
      | cons v us ih =>
        intro h
        obtain ⟨t, e⟩ := h v List.mem_cons_self
        have := StrsAre.cons (k v) t (ih fun u hu => h u (List.mem_cons_of_mem _ hu))
        rw [← e] at this
        exact this
    match vs, h0, hp with
    | v1 :: v2 :: r, _, hp =>
      rw [keyKind_strs (hs _ hp)]
      exact wpAny_pure hq
  · intro p q hm hm'
    obtain ⟨t, e⟩ := hp _ hm
    obtain ⟨u, e'⟩ := hp _ hm'
    show wpAny (model prog w) A (keyLt' oneType' p.1 q.1) (fun r s' => s' = _ ∧ r = ltN k p.1 q.1) (fun _ _ => False) _
    unfold ltN
    generalize k p.1 = x at *
    generalize k q.1 = y at *
    rw [e, e', keyLt'_oneType]
    exact oneLt_str ⟨rfl, rfl⟩
end
end OA
namespace OA
open PySem PySem.Spec PyProof.Rows L2

/-! ### sorted by a text -/
section
variable {α β : Type}
def insK (k : α → Str) (x : α) : List α → List α
  | [] => [x]
  | y :: r => if leS (k x) (k y) then x :: y :: r else y :: insK k x r
def isortK (k : α → Str) : List α → List α
  | [] => []
  | x :: r => insK k x (isortK k r)
theorem insK_perm (k : α → Str) (x : α) : ∀ l, (insK k x l).Perm (x :: l)
  | [] => .refl _
  | y :: r => by
    unfold insK
    split
    · exact .refl _
    · exact ((insK_perm k x r).cons y).trans (.swap x y r)
theorem isortK_perm (k : α → Str) : ∀ l, (isortK k l).Perm l
  | [] => .refl _
  | x :: r => (insK_perm k x _).trans ((isortK_perm k r).cons x)
theorem insK_sorted (k : α → Str) (x : α) : ∀ l, l.Pairwise (fun a b => leS (k a) (k b) = true) → (insK k x l).Pairwise (fun a b => leS (k a) (k b) = true)
  | [], _ => by simp [insK]
  | y :: r, h => by
    unfold insK
    rw [List.pairwise_cons] at h
    split
    · rename_i hxy
      refine List.pairwise_cons.mpr ⟨fun z hz => ?_, List.pairwise_cons.mpr h⟩
      rcases List.mem_cons.mp hz with rfl | hz
      · exact hxy
      · exact leS_trans hxy (h.1 z hz)
    · rename_i hxy
      have hyx : leS (k y) (k x) = true := (leS_total (k x) (k y)).resolve_left hxy
      refine List.pairwise_cons.mpr ⟨fun z hz => ?_, insK_sorted k x r h.2⟩
      rcases List.mem_cons.mp ((insK_perm k x r).mem_iff.mp hz) with rfl | hz
      · exact hyx
      · exact h.1 z hz
theorem isortK_sorted (k : α → Str) : ∀ l, (isortK k l).Pairwise (fun a b => leS (k a) (k b) = true)
  | [] => .nil
  | x :: r => insK_sorted k x _ (isortK_sorted k r)
theorem insK_map (k : β → Str) (f : α → β) (x : α) : ∀ l, (insK (fun a => k (f a)) x l).map f = insK k (f x) (l.map f)
  | [] => rfl
  | y :: r => by
    rw [insK, List.map_cons, insK]
    split
    · rfl
    · rw [List.map_cons, insK_map k f x r]
theorem isortK_map (k : β → Str) (f : α → β) : ∀ l, (isortK (fun a => k (f a)) l).map f = isortK k (l.map f)
  | [] => rfl
  | x :: r => by rw [isortK, insK_map, isortK_map k f r]; rfl
theorem insK_congr {k k' : α → Str} (x : α) : ∀ l, k x = k' x → (∀ y ∈ l, k y = k' y) → insK k x l = insK k' x l
  | [], _, _ => rfl
  | y :: r, h, h2 => by
    rw [insK, insK, h, h2 y List.mem_cons_self, insK_congr x r h fun z hz => h2 z (List.mem_cons_of_mem _ hz)]
theorem isortK_congr {k k' : α → Str} : ∀ l, (∀ y ∈ l, k y = k' y) → isortK k l = isortK k' l
  | [], _ => rfl
  | x :: r, h => by
    rw [isortK, isortK, isortK_congr r fun z hz => h z (List.mem_cons_of_mem _ hz)]
    exact insK_congr x _ (h x List.mem_cons_self) fun y hy => h y (List.mem_cons_of_mem _ ((isortK_perm k' r).subset hy))
theorem sortK_is {k : α → Str} {ys xs : List α} (hp : ys.Perm xs) (hs : ys.Pairwise (fun a b => leS (k a) (k b) = true)) (hj : ∀ x ∈ xs, ∀ y ∈ xs, k x = k y → x = y) : ys = isortK k xs :=
  List.Perm.eq_of_pairwise (le := fun a b => leS (k a) (k b) = true) (fun a b ha hb h1 h2 => hj a (hp.subset ha) b ((isortK_perm k xs).subset hb) (leS_anti h1 h2)) hs (isortK_sorted k xs) (hp.trans (isortK_perm k xs).symm)
end
def nmD : Dt → Str
  | .tup (.str n :: _) => n
  | _ => ⟨#[]⟩
def isRowD : Dt → Bool
  | .tup (.str _ :: _) => true
  | _ => false
/-- a list or a tuple, its rows sorted by their names, all different -/
def fSortR : FL := fun S rs => match rs with
  | [a] => (get S a).bind fun d => (seqV d).bind fun ds => if ds.all isRowD = true ∧ (ds.map nmD).Nodup then some (.d (.lst (isortK nmD ds))) else none
  | _ => none
/-- a list or a tuple of texts, sorted -/
def fSortT : FL := fun S rs => match rs with
  | [a] => (get S a).bind fun d => (seqV d).bind fun ds => (strsOf ds).map fun xs => .d (.lst ((isortS xs).map .str))
  | _ => none

theorem leS_of_not {a b : Str} (h : ¬ b.cps.toList < a.cps.toList) : leS a b = true := by
  unfold leS
  rw [ltCps_eq, decide_eq_false h]; rfl
def toV : Value → V
  | .str x _ => .str x
  | u => backV u
/-- where the key of a row stands -/
def rSortRow (K : PySem.W.Frag) : List V → Hp → VK → Prop := fun vs H Q => ∃ (a : Addr) (xs : List V) (k : V → Str), vs = [.ref a] ∧ (SqL K H a xs ∨ SqT K H a xs) ∧ (∀ x ∈ xs, ∃ t r, x = .ref t ∧ SqT K H t (.str (k x) :: r)) ∧ (∀ x ∈ xs, ∀ y ∈ xs, k x = k y → x = y) ∧
  ∀ (ys : List V) (p : Addr), ys.Pairwise (fun x y => leS (k x) (k y) = true) → ys.Perm xs → H p = none → Q (.ref p) (upd H p (.lst ys))
def rSortTx (K : PySem.W.Frag) : List V → Hp → VK → Prop := fun vs H Q => ∃ (a : Addr) (xs : List Str), vs = [.ref a] ∧ (SqL K H a (xs.map .str) ∨ SqT K H a (xs.map .str)) ∧
  ∀ (ys : List Str) (p : Addr), ys.Pairwise (fun x y => leS x y = true) → ys.Perm xs → H p = none → Q (.ref p) (upd H p (.lst (ys.map .str)))
section
variable {X : Cx}
theorem coll_any {X : Cx} {pins : List (Addr × Obj)} {σ : L2.St} {H : Hp} {s : Shared} {a : Addr} {xs : List V} (I : Inv X pins σ H s) (h : SqL X.K H a xs ∨ SqT X.K H a xs) : ∃ its : List Value, Vals xs its ∧ its.length ≤ sizeLine ∧
    ∀ (prog : Program) (w : World) (A : Around) (E : Value → Shared → Prop) (Q' : List Value → Shared → Prop), Q' its { s with heap := heapC s.heap its } → wpAny (model prog w) A (collect (.ref a)) Q' E s := by
  rcases h with h | h
  · obtain ⟨its, rv, hl, hz⟩ := I.list h
    have hz' : its.length ≤ sizeLine := by rw [← rv.length]; exact hz
    exact ⟨its, rv, hz', fun prog w A E Q' hq => collL hl.isList hz' hq⟩
  · obtain ⟨its, rv, hl, hz⟩ := I.tuple h
    have hz' : its.length ≤ sizeLine := by rw [← rv.length]; exact hz
    exact ⟨its, rv, hz', fun prog w A E Q' hq => collT hl hz' hq⟩
theorem cr_sortRow : CallR X (.builtin "sorted") (rSortRow X.K) := by
  intro pins s σ H vs us Q I r h
  obtain ⟨a, xs, k, rfl, hs, hx, hj, q⟩ := h
  obtain ⟨its, rv, hz, hc⟩ := coll_any I hs
  obtain ⟨u, rfl, ru⟩ := vals1 r
  obtain rfl : u = Value.ref a := ru
  obtain ⟨e1, e2⟩ := refs_back rv fun x m => by
    obtain ⟨t, _, e, _⟩ := hx x m
    exact ⟨t, e⟩
  have hrow : ∀ v ∈ its, IsRowV s.heap v (k (backV v)) := fun v hv => by
    obtain ⟨t, rfl⟩ := e2 v hv
    have hm : V.ref t ∈ xs := by rw [e1]; exact List.mem_map.mpr ⟨_, hv, rfl⟩
    obtain ⟨t', rr, e, ht⟩ := hx _ hm
    cases e
    obtain ⟨its2, r2, ⟨o, ho, hcl, n, hd⟩, _⟩ := I.tuple ht
    cases r2 with
    | cons hv1 r2 =>
      obtain ⟨tk, rfl⟩ := hv1
      exact ⟨t, o, _, n, tk, _, rfl, ho, hcl, hd, rfl⟩
  have hjv : ∀ v ∈ its, ∀ u ∈ its, k (backV v) = k (backV u) → v = u := fun v hv u hu e => by
    obtain ⟨t, rfl⟩ := e2 v hv
    obtain ⟨t2, rfl⟩ := e2 u hu
    have := hj (V.ref t) (by rw [e1]; exact List.mem_map.mpr ⟨_, hv, rfl⟩) (V.ref t2) (by rw [e1]; exact List.mem_map.mpr ⟨_, hu, rfl⟩) e
    cases this; rfl
  refine sorted_at (swoN fun v => k (backV v)) (fun Q' hq => hc _ _ _ _ Q' hq) hz (fun h2 h1 b hb kk => ?_) fun out h1 h2 => ?_
  · refine rows_srt (s := { s with heap := h1 }) (by omega) (fun v hm => (hrow v hm).keeps fun b o e _ => (kk b o e).2) hjv fun o e => ?_
    have e' := e.symm.trans hb
    cases e'
    intro c
    exact absurd (Value.type.inj c) (by decide)
  · have h3 : ∀ u ∈ out, ∃ a, u = Value.ref a := fun u hu => e2 u (h2.perm.mem_iff.mp hu)
    obtain ⟨n, hn⟩ := PyProof.Rows.sortedAll_at s.heap its out.toArray
    have hb : (out.map backV).Perm xs := by rw [e1]; exact h2.perm.map backV
    refine ⟨.ref (s.heap.objs.size + 1), upd H (s.heap.objs.size + 1) (.lst (out.map backV)), I.laid (t' := s.toks) (fun _ _ => PyProof.Rows.sortedAll_old) (Nat.le_succ _) ⟨?_, out, n, vals_back h3, hn⟩, rfl, q _ _ ?_ hb (I.hok.fresh (Nat.le_succ _))⟩
    · rw [hb.length_eq, rv.length]; exact hz
    · refine List.pairwise_map.mpr (h1.imp fun {x y} hh => leS_of_not ?_)
      exact of_decide_eq_false hh
theorem cr_sortTx : CallR X (.builtin "sorted") (rSortTx X.K) := by
  intro pins s σ H vs us Q I r h
  obtain ⟨a, xs, rfl, hs, q⟩ := h
  obtain ⟨its, rv, hz, hc⟩ := coll_any I hs
  obtain ⟨u, rfl, ru⟩ := vals1 r
  obtain rfl : u = Value.ref a := ru
  have key : ∀ {xs : List Str} {its : List Value}, Vals (xs.map V.str) its → (∀ v ∈ its, ∃ t, v = .str (match v with | .str x _ => x | _ => ⟨#[]⟩) t) ∧ xs = its.map (fun v => match v with | .str x _ => x | _ => ⟨#[]⟩) := by
    intro xs
    induction xs with
    | nil => intro its h; cases h; exact ⟨by simp, rfl⟩
    | cons x xs ih =>
      intro its h
      cases h with
      | cons h1 h2 =>
        obtain ⟨t, rfl⟩ := h1
        obtain ⟨a1, a2⟩ := ih h2
        refine ⟨fun v hv => ?_, by rw [List.map_cons, ← a2]⟩
        rcases List.mem_cons.mp hv with rfl | hv
        · exact ⟨t, rfl⟩
        · exact a1 v hv
  obtain ⟨k1, k2⟩ := key rv
  refine sorted_at (swoN fun v => match v with | .str x _ => x | _ => ⟨#[]⟩) (fun Q' hq => hc _ _ _ _ Q' hq) hz (fun h2 h1 b hb kk => strs_srt h2 k1) fun out h1 h2 => ?_
  have h3 : ∀ v ∈ out, ∃ t, v = .str (match v with | .str x _ => x | _ => ⟨#[]⟩) t := fun v hv => k1 v (h2.perm.mem_iff.mp hv)
  have hb : (out.map (fun v => match v with | .str x _ => x | _ => ⟨#[]⟩)).Perm xs := by rw [k2]; exact h2.perm.map _
  obtain ⟨n, hn⟩ := PyProof.Rows.sortedAll_at s.heap its out.toArray
  have hv : ∀ {out : List Value}, (∀ v ∈ out, ∃ t, v = .str (match v with | .str x _ => x | _ => ⟨#[]⟩) t) → Vals ((out.map (fun v => match v with | .str x _ => x | _ => ⟨#[]⟩)).map V.str) out := by
    intro out
    induction out with
    | nil => exact fun _ => .nil
    | cons v out ih =>
      intro h
      exact .cons (h v List.mem_cons_self) (ih fun u hu => h u (List.mem_cons_of_mem _ hu))
  refine ⟨.ref (s.heap.objs.size + 1), upd H (s.heap.objs.size + 1) (.lst ((out.map (fun v => match v with | .str x _ => x | _ => ⟨#[]⟩)).map V.str)), I.laid (t' := s.toks) (fun _ _ => PyProof.Rows.sortedAll_old) (Nat.le_succ _) ⟨?_, out, n, hv h3, hn⟩, rfl, q _ _ ?_ hb (I.hok.fresh (Nat.le_succ _))⟩
  · have := rv.length
    rw [List.length_map] at this
    rw [List.length_map, hb.length_eq, this]; exact hz
  · refine List.pairwise_map.mpr (h1.imp fun {x y} hh => leS_of_not ?_)
    exact of_decide_eq_false hh
end
theorem ckSortT {K} : CallOk K (rSortTx K) fSortT := by
  intro F A H S xs rs z Q hs hx e k
  unfold fSortT at e
  split at e
  · obtain ⟨d, ed, e2⟩ := Option.bind_eq_some_iff.mp e
    obtain ⟨ds, eds, e2⟩ := Option.bind_eq_some_iff.mp e2
    obtain ⟨ns, en, e2⟩ := Option.map_eq_some_iff.mp e2
    cases e2
    obtain ⟨v, rfl, hv⟩ := rps1 hx
    obtain ⟨b, ys, rfl, hb, hy⟩ := hs.rdSeq hv ed eds
    have := strsOf_rp hy en
    subst this
    refine ⟨b, ns, rfl, hb, fun ys p hso hp np => ?_⟩
    have : ys = isortS ns := List.Perm.eq_of_pairwise (le := fun a b => leS a b = true) (fun a b _ _ h1 h2 => leS_anti h1 h2) hso (isortS_sorted ns) (hp.trans (isortS_perm ns).symm)
    subst this
    obtain ⟨h1, x1⟩ := hs.lay (o := .lst ((isortS ns).map V.str)) np
    exact k _ _ _ _ h1 x1 (Rp.lst upd_same (rps_str _))
  · cases e
/-- the name of a row -/
def nmV (F : Hp) : V → Str
  | .ref a => match F a with
    | some (.tup (.str n :: _)) => n
    | some (.frz _ (.tup (.str n :: _))) => n
    | _ => ⟨#[]⟩
  | _ => ⟨#[]⟩
theorem row_nm {K : PySem.W.Frag} {F H : Hp} (sub : ∀ a o, F a = some o → H a = some o) {v : V} {d : Dt} (h : Rp K F v d) (hd : isRowD d = true) : nmV F v = nmD d ∧ ∃ t r, v = .ref t ∧ SqT K H t (.str (nmD d) :: r) := by
  cases h with
  | tupS c e h2 => cases h2 with
    | nil => cases hd
    | cons h1 h2 => cases h1 with
      | str x => exact ⟨by simp only [nmV, e]; rfl, _, _, rfl, .inl (.inl (sub _ _ e))⟩
      | _ => cases hd
  | tupP c e n h2 => cases h2 with
    | nil => cases hd
    | cons h1 h2 => cases h1 with
      | str x => exact ⟨by simp only [nmV, e]; rfl, _, _, rfl, .inl (.inr ⟨_, sub _ _ e⟩)⟩
      | _ => cases hd
  | _ => cases hd
theorem rps_zip {K F} : ∀ {xs : List V} {ds : List Dt}, Rps K F xs ds → ∃ zs : List (V × Dt), xs = zs.map (·.1) ∧ ds = zs.map (·.2) ∧ ∀ z ∈ zs, Rp K F z.1 z.2
  | _, _, .nil => ⟨[], rfl, rfl, by simp⟩
  | _, _, .cons (v := v) (d := d) h t => by
    obtain ⟨zs, e1, e2, h2⟩ := rps_zip t
    refine ⟨(v, d) :: zs, by rw [List.map_cons, ← e1], by rw [List.map_cons, ← e2], fun z hz => ?_⟩
    rcases List.mem_cons.mp hz with rfl | hz
    · exact h
    · exact h2 z hz
theorem rps_unzip {K F} : ∀ {zs : List (V × Dt)}, (∀ z ∈ zs, Rp K F z.1 z.2) → Rps K F (zs.map (·.1)) (zs.map (·.2))
  | [], _ => .nil
  | z :: zs, h => .cons (h z List.mem_cons_self) (rps_unzip fun y hy => h y (List.mem_cons_of_mem _ hy))
theorem nodup_inj {α β : Type} {f : α → β} : ∀ {l : List α}, (l.map f).Nodup → ∀ x ∈ l, ∀ y ∈ l, f x = f y → x = y
  | [], _, x, hx, _, _, _ => by simp at hx
  | a :: l, h, x, hx, y, hy, e => by
    rw [List.map_cons, List.nodup_cons] at h
    rcases List.mem_cons.mp hx with rfl | hx
    · rcases List.mem_cons.mp hy with rfl | hy
      · rfl
      · exact absurd (List.mem_map.mpr ⟨y, hy, e.symm⟩) h.1
    · rcases List.mem_cons.mp hy with rfl | hy
      · exact absurd (List.mem_map.mpr ⟨x, ‹x ∈ l›, e⟩) h.1
      · exact nodup_inj h.2 x hx y hy e
theorem ckSortR {K} : CallOk K (rSortRow K) fSortR := by
  intro F A H S xs rs z Q hs hx e k
  unfold fSortR at e
  split at e
  · obtain ⟨d, ed, e2⟩ := Option.bind_eq_some_iff.mp e
    obtain ⟨ds, eds, e2⟩ := Option.bind_eq_some_iff.mp e2
    split at e2
    · rename_i hc
      cases e2
      obtain ⟨v, rfl, hv⟩ := rps1 hx
      obtain ⟨b, ys, rfl, hb, hy⟩ := hs.rdSeq hv ed eds
      obtain ⟨zs, rfl, rfl, hz⟩ := rps_zip hy
      have hrow : ∀ z ∈ zs, isRowD z.2 = true := fun z hm => List.all_eq_true.mp hc.1 _ (List.mem_map.mpr ⟨z, hm, rfl⟩)
      have hkey : ∀ z ∈ zs, nmV F z.1 = nmD z.2 := fun z hm => (row_nm hs.sub (hz z hm) (hrow z hm)).1
      have hnd : (zs.map fun z => nmD z.2).Nodup := by
        have := hc.2
        rw [List.map_map] at this
        exact this
      refine ⟨b, zs.map (·.1), nmV F, rfl, hb, fun x hm => ?_, fun x hm y hm' e => ?_, fun ys p hso hp np => ?_⟩
      · obtain ⟨z, hz1, rfl⟩ := List.mem_map.mp hm
        obtain ⟨e1, t, r, e2, h2⟩ := row_nm hs.sub (hz z hz1) (hrow z hz1)
        rw [e1]
        exact ⟨t, r, e2, h2⟩
      · obtain ⟨z, hz1, rfl⟩ := List.mem_map.mp hm
        obtain ⟨z', hz2, rfl⟩ := List.mem_map.mp hm'
        rw [hkey z hz1, hkey z' hz2] at e
        rw [nodup_inj hnd z hz1 z' hz2 e]
      · have hj : ∀ x ∈ zs.map (·.1), ∀ y ∈ zs.map (·.1), nmV F x = nmV F y → x = y := fun x hm y hm' e => by
          obtain ⟨z, hz1, rfl⟩ := List.mem_map.mp hm
          obtain ⟨z', hz2, rfl⟩ := List.mem_map.mp hm'
          rw [hkey z hz1, hkey z' hz2] at e
          rw [nodup_inj hnd z hz1 z' hz2 e]
        have e1 := sortK_is hp hso hj
        have e2 : isortK (nmV F) (zs.map (·.1)) = (isortK (fun z : V × Dt => nmD z.2) zs).map (·.1) := by
          rw [← isortK_map (nmV F) (fun z : V × Dt => z.1) zs]
          exact congrArg _ (isortK_congr zs hkey)
        have e3 : isortK nmD (zs.map (·.2)) = (isortK (fun z : V × Dt => nmD z.2) zs).map (·.2) := (isortK_map nmD (fun z : V × Dt => z.2) zs).symm
        rw [e1, e2]
        obtain ⟨h1, x1⟩ := hs.lay (o := .lst ((isortK (fun z : V × Dt => nmD z.2) zs).map (·.1))) np
        refine k _ _ _ _ h1 x1 ?_
        rw [e3]
        exact Rp.lst upd_same ((rps_unzip fun z hm => hz z ((isortK_perm _ zs).subset hm)).mono x1.ge)
    · cases e2
  · cases e
end OA
namespace OA
open PySem PySem.Spec PyProof.Rows L2

section
variable {X : Cx} {e o i : Expr} {c co ci : Cd} {pos p : Pos} {x : Str}
/-- dict(pairs), to be changed -/
def cDictKC (c : Cd) : Cd := fun en S => (c en S).bind fun q => (get q.2 q.1).bind fun d => (pairV d).bind fun ds => (pairK ds).map fun ps => (.c q.2.length, q.2 ++ [.dK (mergeKD [] ps)])
theorem oDictKC (hc : X.calm = true) (hg : Gl X x) (hm : X.mg x = none) (hv : bootBuiltins x = some (.type "dict")) (he : PE X e (tE X.K c)) (hn : x ≠ "__name__" := by decide) (hdb : (x == ("__debug__" : Str)) = false := by decide)
    (hst : starEach [e] X.env = (false, eval e X.env) :: starEach [] X.env := by rfl) (hpl : (backTo pos (starEach [] X.env)).any (·.1) = false := by rfl) : PE X (.Call (.Name x p) [e] [] pos) (tE X.K (cDictKC c)) :=
  (pe_callTy (clDictK hc) hg hm hv (pa_cons he pa_nil hst) hn hdb hst hpl).weak fun σ H Q ⟨F, A, S, en, r, S', hs, he, ec, k⟩ => by
    obtain ⟨⟨r1, S1⟩, e1, ec⟩ := Option.bind_eq_some_iff.mp ec
    obtain ⟨d, ed, ec⟩ := Option.bind_eq_some_iff.mp ec
    obtain ⟨ds, eds, ec⟩ := Option.bind_eq_some_iff.mp ec
    obtain ⟨ps, eps, ec⟩ := Option.map_eq_some_iff.mp ec
    cases ec
    refine ⟨F, A, S, en, r1, S1, hs, he, e1, fun v H1 F1 A1 hs1 x1 p1 => ?_⟩
    obtain ⟨a, xs, rfl, hq, hx⟩ := hs1.rdPairs p1 ed eds (fun i j z => by subst z; cases eps)
    obtain ⟨as, kvs, rfl, h1, h2⟩ := pairK_rp hs1.sub hx eps
    refine ⟨a, as, kvs, rfl, hq, h1, fun p np => ?_⟩
    obtain ⟨hs2, x2⟩ := hs1.newCell (so := .dK (mergeKD [] ps)) np ⟨hs1.nF np, mergeK [] kvs, upd_same, mergeKD_rp h2 .nil⟩
    exact k _ _ _ _ hs2 (x1.trans x2) ⟨p, by rw [← hs1.len]; simp, rfl⟩
theorem HSt.cellK {K F A H S} {v : V} {k : Nat} {ds : List (Dt × Dt)} (h : HSt K F A H S) (q : RpR K F A v (.c k)) (e : S[k]? = some (.dK ds)) : ∃ a vs, v = .ref a ∧ A[k]? = some a ∧ F a = none ∧ H a = some (.dK vs) ∧ RpK K F vs ds := by
  obtain ⟨a, ea, rfl⟩ := q
  obtain ⟨a', ea', n, vs, e1, t⟩ := Paired.getR h.cells e
  rw [ea] at ea'; cases ea'
  exact ⟨a, vs, rfl, ea, n, e1, t⟩
/-- d[k] = e, texts as keys -/
def sPutK (c co ci : Cd) : CdS := fun en S => (c en S).bind fun p => (co en p.2).bind fun q => (ci en q.2).bind fun w => match p.1, q.1, w.1 with
  | .d x, .c k, .d (.str y) => match w.2[k]? with
    | some (.dK ds) => if ds.length < 1000 then some (.nx, en, w.2.set k (.dK (putKD ds y x))) else none
    | _ => none
  | _, _, _ => none
theorem zPutK {kk : Nat} {tp : Pos} (hr : Room kk X.A) (he : PE X e (tE X.K c)) (ho : PE X o (tE X.K co)) (hi : PE X i (tE X.K ci)) (hs : swapsWith e (some (.Subscript o i tp)) pos.line X.env = pure false := by rfl) :
    PS X (.Assign [.Subscript o i tp] e pos) (tS X.K (sPutK c co ci)) :=
  (ps_dput (by have := hr.un; omega) ho hi he hs).weak fun D σ H ⟨F, A, S, en, fl, en', S', hs, he, ec, k⟩ => by
    obtain ⟨⟨r1, S1⟩, e1, ec1⟩ := Option.bind_eq_some_iff.mp ec
    obtain ⟨⟨r2, S2⟩, e2, ec2⟩ := Option.bind_eq_some_iff.mp ec1
    obtain ⟨⟨r3, S3⟩, e3, ec3⟩ := Option.bind_eq_some_iff.mp ec2
    clear ec ec1 ec2
    refine ⟨F, A, S, en, r1, S1, hs, he, e1, fun v H1 F1 A1 hs1 x1 p1 => ⟨F1, A1, S1, en, r2, S2, hs1, he.ext x1, e2, fun ov H2 F2 A2 hs2 x2 p2 => ⟨F2, A2, S2, en, r3, S3, hs2, (he.ext x1).ext x2, e3, fun iv H3 F3 A3 hs3 x3 p3 => ?_⟩⟩⟩
    split at ec3
    · rename_i x j y h1 h2 h3
      have h1' : r1 = .d x := h1
      have h2' : r2 = .c j := h2
      have h3' : r3 = .d (.str y) := h3
      subst h1' h2' h3'
      split at ec3
      · rename_i ds h0
        split at ec3
        · rename_i hl
          cases ec3
          cases p3
          obtain ⟨a, vs, rfl, ea, na, ha, hvs⟩ := hs3.cellK (p2.ext x3) h0
          have p1' := (p1.ext x2).ext x3
          obtain ⟨h4, x4⟩ := hs3.put (o := .dK (putK vs (.inr y) v)) (so' := .dK (putKD ds y x)) ea h0 (by simp) ⟨na, _, upd_same, putKD_rp hvs p1'⟩
          have xx := ((x1.trans x2).trans x3).trans x4
          exact ⟨a, _, rfl, DPut.k (k := .inr y) ha (small1000 (by rw [hvs.len]; omega)), k _ _ _ _ h4 xx (he.ext xx)⟩
        · cases ec3
      · cases ec3
    · cases ec3
end
end OA
namespace OA
open PySem PySem.Spec PyProof.Rows L2
def c_lowest : CdS := (sCons (sPar 2 3 (cApp fAbs (cCons (cVar 0) cNil)) (cVar 1)) (sCons (whileN 100000 (cTst (cBin fGt (cVar 3) (cK (.int 0)))) (sCons (sPar 2 3 (cVar 3) (cBin fMod (cVar 2) (cVar 3))) sNil)) (sCons (sRet (cTup (cCons (cBin fDiv (cVar 0) (cVar 2)) (cCons (cBin fDiv (cVar 1) (cVar 2)) cNil)))) sNil)))
def f_lowest : Fn := runF 4 false c_lowest
def c_plus : CdS := (sCons (sRet (cCall f_lowest (cCons (cBin fAdd (cBin fMul (cBin fIx (cVar 0) (cK (.int 0))) (cBin fIx (cVar 1) (cK (.int 1)))) (cBin fMul (cBin fIx (cVar 1) (cK (.int 0))) (cBin fIx (cVar 0) (cK (.int 1))))) (cCons (cBin fMul (cBin fIx (cVar 0) (cK (.int 1))) (cBin fIx (cVar 1) (cK (.int 1)))) cNil)))) sNil)
def f_plus : Fn := runF 2 false c_plus
def c_less : CdS := (sCons (sRet (cCall f_lowest (cCons (cBin fSub (cBin fMul (cBin fIx (cVar 0) (cK (.int 0))) (cBin fIx (cVar 1) (cK (.int 1)))) (cBin fMul (cBin fIx (cVar 1) (cK (.int 0))) (cBin fIx (cVar 0) (cK (.int 1))))) (cCons (cBin fMul (cBin fIx (cVar 0) (cK (.int 1))) (cBin fIx (cVar 1) (cK (.int 1)))) cNil)))) sNil)
def f_less : Fn := runF 2 false c_less
def c_times : CdS := (sCons (sRet (cCall f_lowest (cCons (cBin fMul (cBin fIx (cVar 0) (cK (.int 0))) (cVar 1)) (cCons (cBin fMul (cBin fIx (cVar 0) (cK (.int 1))) (cVar 2)) cNil)))) sNil)
def f_times : Fn := runF 3 false c_times
def c_is_lesser : CdS := (sCons (sRet (cBin fLt (cBin fMul (cBin fIx (cVar 0) (cK (.int 0))) (cBin fIx (cVar 1) (cK (.int 1)))) (cBin fMul (cBin fIx (cVar 1) (cK (.int 0))) (cBin fIx (cVar 0) (cK (.int 1)))))) sNil)
def f_is_lesser : Fn := runF 2 false c_is_lesser
def c_heavies : CdS := (sCons (sRet (cDictK (cComp [1] (cIter (cBin fAdd (cBin fIx (cVar 0) (cK (.int 1))) (cBin fIx (cVar 0) (cK (.int 2))))) (gNm 1) kYes (cTup (cCons (cBin fIx (cVar 1) (cK (.int 0))) (cCons (cBin fIx (cVar 1) (cK (.int 1))) cNil)))))) sNil)
def f_heavies : Fn := runF 2 false c_heavies
def c_aboard_of : CdS := (sCons (sRet (cApp (fTup false) (cCons (cComp [1] (cIter (cBin fIx (cVar 0) (cK (.int 1)))) (gNm 1) kYes (cBin fIx (cVar 1) (cK (.int 0)))) cNil))) sNil)
def f_aboard_of : Fn := runF 2 false c_aboard_of
def c_weight_of : CdS := (sCons (sSet 2 (cCall f_heavies (cCons (cVar 0) cNil))) (sCons (sRet (cApp fSum (cCons (cComp [3] (cIter (cVar 1)) (gNm 3) kYes (cBin fIx (cVar 2) (cVar 3))) cNil))) sNil))
def f_weight_of : Fn := runF 4 false c_weight_of
def c_whole_of : CdS := (sCons (sRet (cBin fAdd (cBin fIx (cBin fIx (cVar 0) (cK (.int 0))) (cK (.int 1))) (cCall f_weight_of (cCons (cVar 0) (cCons (cVar 1) cNil))))) sNil)
def f_whole_of : Fn := runF 2 false c_whole_of
def c_drive_of : CdS := (sCons (sSet 2 (cCall f_heavies (cCons (cVar 0) cNil))) (sCons (sSet 3 (cK (.tup [.int 0, .int 1]))) (sCons (sFor (cIter (cVar 1)) (gTp (gCons' (gNm 4) (gCons' (gNm 5) gNil'))) (sCons (sSet 3 (cCall f_plus (cCons (cVar 3) (cCons (cCall f_times (cCons (cVar 5) (cCons (cBin fIx (cVar 2) (cVar 4)) (cCons (cK (.int 1)) cNil)))) cNil)))) sNil)) (sCons (sRet (cVar 3)) sNil))))
def f_drive_of : Fn := runF 6 false c_drive_of
def c_front_of : CdS := (sCons (sRet (cCall f_plus (cCons (cBin fIx (cVar 1) (cK (.int 0))) (cCons (cCall f_times (cCons (cCall f_drive_of (cCons (cVar 0) (cCons (cBin fIx (cVar 1) (cK (.int 1))) cNil))) (cCons (cK (.int 1)) (cCons (cCall f_whole_of (cCons (cVar 0) (cCons (cCall f_aboard_of (cCons (cVar 1) cNil)) cNil))) cNil)))) cNil)))) sNil)
def f_front_of : Fn := runF 2 false c_front_of
def c_gap_by : CdS := (sCons (sSet 3 (cCall f_whole_of (cCons (cVar 0) (cCons (cComp [4] (cIter (cVar 2)) (gNm 4) kYes (cBin fIx (cVar 4) (cK (.int 0)))) cNil)))) (sCons (sRet (cCall f_less (cCons (cVar 1) (cCons (cCall f_times (cCons (cCall f_drive_of (cCons (cVar 0) (cCons (cVar 2) cNil))) (cCons (cK (.int 1)) (cCons (cVar 3) cNil)))) cNil)))) sNil))
def f_gap_by : Fn := runF 5 false c_gap_by
def c_gap_behind : CdS := (sCons (sSet 3 (cCall f_gap_by (cCons (cVar 0) (cCons (cCall f_front_of (cCons (cVar 0) (cCons (cVar 1) cNil))) (cCons (cVar 2) cNil))))) (sCons (sRet (cIf (cTst (cCall f_is_lesser (cCons (cVar 3) (cCons (cK (.tup [.int 0, .int 1])) cNil)))) (cK .non) (cVar 3))) sNil))
def f_gap_behind : Fn := runF 4 false c_gap_behind
def c_all_back : CdS := (sCons (sRet (cApp (fTup true) (cCons (cComp [2] (cIter (cVar 1)) (gNm 2) kYes (cTup (cCons (cVar 2) (cCons (cTup (cCons (cBin fIx (cBin fIx (cVar 0) (cK (.int 0))) (cK (.int 0))) (cCons (cK (.int 1)) cNil))) cNil)))) cNil))) sNil)
def f_all_back : Fn := runF 3 false c_all_back
def c_least_by : CdS := (sCons (sSet 3 (cCall f_gap_by (cCons (cVar 0) (cCons (cVar 2) (cCons (cCall f_all_back (cCons (cVar 0) (cCons (cVar 1) cNil))) cNil))))) (sCons (sRet (cIf (cTst (cCall f_is_lesser (cCons (cVar 3) (cCons (cK (.tup [.int 0, .int 1])) cNil)))) (cK (.tup [.int 0, .int 1])) (cVar 3))) sNil))
def f_least_by : Fn := runF 4 false c_least_by
def c_gaps : CdS := (sCons (sSet 2 (cCall f_front_of (cCons (cVar 0) (cCons (cVar 1) cNil)))) (sCons (sRet (cTup (cCons (cCall f_least_by (cCons (cVar 0) (cCons (cCall f_aboard_of (cCons (cVar 1) cNil)) (cCons (cVar 2) cNil)))) (cCons (cVar 2) cNil)))) sNil))
def f_gaps : Fn := runF 3 false c_gaps
def c_l_bag : CdS := (sCons (sSet 2 (cK (.int 0))) (sCons (sIf (cTst (cBin fLt (cVar 1) (cApp fLen (cCons (cVar 0) cNil)))) (sCons (sSet 2 (cApp fAbs (cCons (cBin fIx (cVar 0) (cVar 1)) cNil))) sNil) sNil) (sCons (sIf (cTst (cBin fLt (cVar 2) (cBin fPow (cK (.int 10)) (cK (.int 18))))) (sCons (sRet (cNewL (cCons (cK (.int 0)) (cCons (cBin fAdd (cK (.int 1)) (cBin fMod (cBin fAdd (cBin fMul (cVar 2) (cK (.int 7919))) (cBin fMul (cK (.int 104729)) (cVar 1))) (cK (.int 2147483646)))) cNil)))) sNil) sNil) (sCons (sRet (cNewL (cCons (cVar 2) (cCons (cBin fAdd (cK (.int 1)) (cBin fMod (cBin fAdd (cVar 2) (cVar 1)) (cK (.int 2147483646)))) cNil)))) sNil))))
def f_l_bag : Fn := runF 3 true c_l_bag
def c_l_take : CdS := (sCons (sIf (cTst (cBin fGt (cBin fIx (cVar 0) (cK (.int 0))) (cK (.int 0)))) (sCons (sSet 2 (cBin fMod (cBin fIx (cVar 0) (cK (.int 0))) (cVar 1))) (sCons (sPut (cBin fDiv (cBin fIx (cVar 0) (cK (.int 0))) (cVar 1)) (cVar 0) (cK (.int 0))) (sCons (sRet (cVar 2)) sNil))) sNil) (sCons (sPut (cBin fMod (cBin fMul (cBin fIx (cVar 0) (cK (.int 1))) (cK (.int 48271))) (cK (.int 2147483647))) (cVar 0) (cK (.int 1))) (sCons (sRet (cBin fMod (cBin fDiv (cBin fMod (cBin fMul (cBin fIx (cVar 0) (cK (.int 1))) (cBin fIx (cVar 0) (cK (.int 1)))) (cK (.int 2147483629))) (cK (.int 64))) (cVar 1))) sNil)))
def f_l_take : Fn := runF 3 false c_l_take
def c_l_of : CdS := (sCons (sRet (cBin fIx (cVar 1) (cCall f_l_take (cCons (cVar 0) (cCons (cApp fLen (cCons (cVar 1) cNil)) cNil))))) sNil)
def f_l_of : Fn := runF 2 false c_l_of
def c_l_lowest : CdS := (sCons (sPar 2 3 (cApp fAbs (cCons (cVar 0) cNil)) (cVar 1)) (sCons (whileN 100000 (cTst (cBin fGt (cVar 3) (cK (.int 0)))) (sCons (sPar 2 3 (cVar 3) (cBin fMod (cVar 2) (cVar 3))) sNil)) (sCons (sRet (cTup (cCons (cBin fDiv (cVar 0) (cVar 2)) (cCons (cBin fDiv (cVar 1) (cVar 2)) cNil)))) sNil)))
def f_l_lowest : Fn := runF 4 false c_l_lowest
def c_l_plus : CdS := (sCons (sRet (cCall f_l_lowest (cCons (cBin fAdd (cBin fMul (cBin fIx (cVar 0) (cK (.int 0))) (cBin fIx (cVar 1) (cK (.int 1)))) (cBin fMul (cBin fIx (cVar 1) (cK (.int 0))) (cBin fIx (cVar 0) (cK (.int 1))))) (cCons (cBin fMul (cBin fIx (cVar 0) (cK (.int 1))) (cBin fIx (cVar 1) (cK (.int 1)))) cNil)))) sNil)
def f_l_plus : Fn := runF 2 false c_l_plus
def c_l_minus : CdS := (sCons (sRet (cCall f_l_lowest (cCons (cBin fSub (cBin fMul (cBin fIx (cVar 0) (cK (.int 0))) (cBin fIx (cVar 1) (cK (.int 1)))) (cBin fMul (cBin fIx (cVar 1) (cK (.int 0))) (cBin fIx (cVar 0) (cK (.int 1))))) (cCons (cBin fMul (cBin fIx (cVar 0) (cK (.int 1))) (cBin fIx (cVar 1) (cK (.int 1)))) cNil)))) sNil)
def f_l_minus : Fn := runF 2 false c_l_minus
def c_l_times : CdS := (sCons (sRet (cCall f_l_lowest (cCons (cBin fMul (cBin fIx (cVar 0) (cK (.int 0))) (cVar 1)) (cCons (cBin fIx (cVar 0) (cK (.int 1))) cNil)))) sNil)
def f_l_times : Fn := runF 2 false c_l_times
def c_l_less : CdS := (sCons (sRet (cBin fLt (cBin fMul (cBin fIx (cVar 0) (cK (.int 0))) (cBin fIx (cVar 1) (cK (.int 1)))) (cBin fMul (cBin fIx (cVar 1) (cK (.int 0))) (cBin fIx (cVar 0) (cK (.int 1)))))) sNil)
def f_l_less : Fn := runF 2 false c_l_less
def c_l_world : CdS := (sCons (sSet 3 (cTup (cCons (cBin fAdd (cK (.int 1)) (cCall f_l_take (cCons (cVar 0) (cCons (cBin fIx (cLst (cCons (cK (.int 12)) (cCons (cK (.int 60)) (cCons (cK (.int 200)) cNil)))) (cCall f_l_take (cCons (cVar 0) (cCons (cK (.int 3)) cNil)))) cNil)))) (cCons (cBin fAdd (cK (.int 1)) (cCall f_l_take (cCons (cVar 0) (cCons (cBin fIx (cLst (cCons (cK (.int 20)) (cCons (cK (.int 100)) cNil))) (cCall f_l_take (cCons (cVar 0) (cCons (cK (.int 2)) cNil)))) cNil)))) cNil)))) (sCons (sSet 4 (cBin fAdd (cK (.int 1)) (cCall f_l_take (cCons (cVar 0) (cCons (cBin fIx (cLst (cCons (cK (.int 4)) (cCons (cK (.int 30)) cNil))) (cCall f_l_take (cCons (cVar 0) (cCons (cK (.int 2)) cNil)))) cNil))))) (sCons (sSet 5 (cBin fEq (cCall f_l_take (cCons (cVar 0) (cCons (cK (.int 2)) cNil))) (cK (.int 0)))) (sCons (sSet 6 (cNewL cNil)) (sCons (sFor (cIter (cSl (cLst (cCons (cK (.str (Str.ofString "ann"))) (cCons (cK (.str (Str.ofString "bo"))) (cCons (cK (.str (Str.ofString "cy"))) (cCons (cK (.str (Str.ofString "dee"))) cNil))))) noPart (part (cBin fAdd (cK (.int 1)) (cCall f_l_take (cCons (cVar 0) (cCons (cVar 1) cNil))))))) (gNm 7) (sCons (sSet 8 (cIf (cTst (cVar 5)) (cVar 4) (cBin fAdd (cK (.int 1)) (cCall f_l_take (cCons (cVar 0) (cCons (cBin fIx (cLst (cCons (cK (.int 6)) (cCons (cK (.int 30)) cNil))) (cCall f_l_take (cCons (cVar 0) (cCons (cK (.int 2)) cNil)))) cNil)))))) (sCons (sSet 9 (cBin fAdd (cK (.int 1)) (cCall f_l_take (cCons (cVar 0) (cCons (cBin fIx (cLst (cCons (cK (.int 6)) (cCons (cK (.int 60)) cNil))) (cCall f_l_take (cCons (cVar 0) (cCons (cK (.int 2)) cNil)))) cNil))))) (sCons (sExpr (cAppend (cVar 6) (cTup (cCons (cVar 7) (cCons (cVar 9) (cCons (cVar 8) (cCons (cCall f_l_take (cCons (cVar 0) (cCons (cBin fIx (cLst (cCons (cK (.int 1)) (cCons (cK (.int 20)) (cCons (cK (.int 61)) cNil)))) (cCall f_l_take (cCons (cVar 0) (cCons (cK (.int 3)) cNil)))) cNil))) cNil))))))) sNil)))) (sCons (sSet 10 (cNewL cNil)) (sCons (sFor (cIter (cSl (cLst (cCons (cK (.str (Str.ofString "bale"))) (cCons (cK (.str (Str.ofString "xbox"))) cNil))) noPart (part (cCall f_l_take (cCons (cVar 0) (cCons (cBin fAdd (cVar 2) (cK (.int 1))) cNil)))))) (gNm 7) (sCons (sExpr (cAppend (cVar 10) (cTup (cCons (cVar 7) (cCons (cBin fAdd (cK (.int 1)) (cCall f_l_take (cCons (cVar 0) (cCons (cBin fIx (cLst (cCons (cK (.int 6)) (cCons (cK (.int 60)) cNil))) (cCall f_l_take (cCons (cVar 0) (cCons (cK (.int 2)) cNil)))) cNil)))) cNil))))) sNil)) (sCons (sFz 10 (sFz 6 (sRet (cTup (cCons (cVar 3) (cCons (cApp (fTup false) (cCons (cVar 6) cNil)) (cCons (cApp (fTup false) (cCons (cVar 10) cNil)) cNil))))))) sNil))))))))
def f_l_world : Fn := runF 11 false c_l_world
def c_l_names : CdS := (sCons (sRet (cApp fSortS (cCons (cComp [1] (cIter (cBin fAdd (cBin fIx (cVar 0) (cK (.int 1))) (cBin fIx (cVar 0) (cK (.int 2))))) (gNm 1) kYes (cBin fIx (cVar 1) (cK (.int 0)))) cNil))) sNil)
def f_l_names : Fn := runF 2 false c_l_names
def c_l_folk : CdS := (sCons (sRet (cComp [1] (cIter (cBin fIx (cVar 0) (cK (.int 1)))) (gNm 1) kYes (cBin fIx (cVar 1) (cK (.int 0))))) sNil)
def f_l_folk : Fn := runF 2 false c_l_folk
def c_l_can_lie : CdS := (sCons (sSet 2 (cComp [3] (cIter (cVar 1)) (gNm 3) (cTst (cBin fIn (cVar 3) (cCall f_l_folk (cCons (cVar 0) cNil)))) (cVar 3))) (sCons (sRet (cOr (cBin fNe (cVar 2) (cLst cNil)) (cBin fEq (cApp fList (cCons (cVar 1) cNil)) (cLst cNil)))) sNil))
def f_l_can_lie : Fn := runF 4 false c_l_can_lie
def c_l_place : CdS := (sCons (sRet (cCall f_l_lowest (cCons (cBin fMul (cBin fIx (cBin fIx (cVar 1) (cK (.int 0))) (cK (.int 0))) (cCall f_l_of (cCons (cVar 0) (cCons (cLst (cCons (cK (.int 0)) (cCons (cK (.int 0)) (cCons (cK (.int 1)) (cCons (cK (.int 2)) (cCons (cK (.int 3)) (cCons (cK (.int 4)) cNil))))))) cNil)))) (cCons (cK (.int 4)) cNil)))) sNil)
def f_l_place : Fn := runF 2 false c_l_place
def c_l_rows : CdS := (sCons (sRet (cApp (fTup true) (cCons (cComp [3] (cIter (cVar 2)) (gNm 3) kYes (cTup (cCons (cVar 3) (cCons (cCall f_l_place (cCons (cVar 0) (cCons (cVar 1) cNil))) cNil)))) cNil))) sNil)
def f_l_rows : Fn := runF 4 false c_l_rows
def c_l_lot : CdS := (sCons (sSet 2 (cNewL cNil)) (sCons (sFor (cIter (cCall f_l_names (cCons (cVar 1) cNil))) (gNm 3) (sCons (sIf (cTst (cBin fGt (cCall f_l_take (cCons (cVar 0) (cCons (cK (.int 5)) cNil))) (cK (.int 0)))) (sCons (sExpr (cAppend (cVar 2) (cVar 3))) sNil) sNil) sNil)) (sCons (sFz 2 (sRet (cIf (cTst (cCall f_l_can_lie (cCons (cVar 1) (cCons (cVar 2) cNil)))) (cApp (fTup false) (cCons (cVar 2) cNil)) (cApp (fTup false) (cCons (cCall f_l_names (cCons (cVar 1) cNil)) cNil))))) sNil)))
def f_l_lot : Fn := runF 4 false c_l_lot
def c_l_standing : CdS := (sCons (sSet 2 (cBin fIx (cLst (cCons (cK (.int 4)) (cCons (cBin fIx (cBin fIx (cVar 1) (cK (.int 0))) (cK (.int 0))) (cCons (cK (.int 60)) cNil)))) (cCall f_l_take (cCons (cVar 0) (cCons (cK (.int 3)) cNil))))) (sCons (sSet 3 (cCall f_l_lowest (cCons (cCall f_l_take (cCons (cVar 0) (cCons (cBin fAdd (cBin fMul (cK (.int 2)) (cVar 2)) (cK (.int 1))) cNil))) (cCons (cK (.int 2)) cNil)))) (sCons (sRet (cTup (cCons (cVar 3) (cCons (cCall f_l_rows (cCons (cVar 0) (cCons (cVar 1) (cCons (cCall f_l_lot (cCons (cVar 0) (cCons (cVar 1) cNil))) cNil)))) cNil)))) sNil)))
def f_l_standing : Fn := runF 4 false c_l_standing
def c_l_weight : CdS := (sCons (sSet 2 (cDictK (cComp [3] (cIter (cBin fAdd (cBin fIx (cVar 0) (cK (.int 1))) (cBin fIx (cVar 0) (cK (.int 2))))) (gNm 3) kYes (cTup (cCons (cBin fIx (cVar 3) (cK (.int 0))) (cCons (cBin fIx (cVar 3) (cK (.int 1))) cNil)))))) (sCons (sRet (cApp fSum (cCons (cComp [4] (cIter (cVar 1)) (gNm 4) kYes (cBin fIx (cVar 2) (cVar 4))) cNil))) sNil))
def f_l_weight : Fn := runF 5 false c_l_weight
def c_l_aboard : CdS := (sCons (sRet (cApp (fTup false) (cCons (cComp [1] (cIter (cBin fIx (cVar 0) (cK (.int 1)))) (gNm 1) kYes (cBin fIx (cVar 1) (cK (.int 0)))) cNil))) sNil)
def f_l_aboard : Fn := runF 2 false c_l_aboard
def c_l_gap : CdS := (sCons (sSet 3 (cDictK (cComp [9] (cIter (cBin fAdd (cBin fIx (cVar 0) (cK (.int 1))) (cBin fIx (cVar 0) (cK (.int 2))))) (gNm 9) kYes (cTup (cCons (cBin fIx (cVar 9) (cK (.int 0))) (cCons (cBin fIx (cVar 9) (cK (.int 1))) cNil)))))) (sCons (sSet 4 (cDictK (cBin fIx (cVar 1) (cK (.int 1))))) (sCons (sSet 5 (cTup (cCons (cK (.int 0)) (cCons (cK (.int 1)) cNil)))) (sCons (sFor (cIter (cVar 2)) (gTp (gCons' (gNm 6) (gCons' (gNm 7) gNil'))) (sCons (sSet 5 (cCall f_l_plus (cCons (cVar 5) (cCons (cCall f_l_times (cCons (cCall f_l_minus (cCons (cVar 7) (cCons (cBin fIx (cVar 4) (cVar 6)) cNil))) (cCons (cBin fIx (cVar 3) (cVar 6)) cNil))) cNil)))) sNil)) (sCons (sSet 8 (cBin fAdd (cBin fIx (cBin fIx (cVar 0) (cK (.int 0))) (cK (.int 1))) (cCall f_l_weight (cCons (cVar 0) (cCons (cCall f_l_aboard (cCons (cVar 1) cNil)) cNil))))) (sCons (sRet (cCall f_l_minus (cCons (cBin fIx (cVar 1) (cK (.int 0))) (cCons (cCall f_l_lowest (cCons (cBin fIx (cVar 5) (cK (.int 0))) (cCons (cBin fMul (cBin fIx (cVar 5) (cK (.int 1))) (cVar 8)) cNil))) cNil)))) sNil))))))
def f_l_gap : Fn := runF 10 false c_l_gap
def c_l_front : CdS := (sCons (sRet (cCall f_l_gap (cCons (cVar 0) (cCons (cVar 1) (cCons (cApp (fTup true) (cCons (cComp [2] (cIter (cCall f_l_aboard (cCons (cVar 1) cNil))) (gNm 2) kYes (cTup (cCons (cVar 2) (cCons (cTup (cCons (cK (.int 0)) (cCons (cK (.int 1)) cNil))) cNil)))) cNil)) cNil))))) sNil)
def f_l_front : Fn := runF 3 false c_l_front
def c_law_k02 : CdS := (sCons (sFor (cRange1 (cBin fAdd (cK (.int 1)) (cApp fMin2 (cCons (cApp fLen (cCons (cVar 0) cNil)) (cCons (cK (.int 20)) cNil))))) (gNm 1) (sCons (sSet 2 (cCall f_l_bag (cCons (cVar 0) (cCons (cVar 1) cNil)))) (sCons (sSet 3 (cCall f_l_world (cCons (cVar 2) (cCons (cK (.int 4)) (cCons (cK (.int 2)) cNil))))) (sCons (sSet 4 (cCall f_l_standing (cCons (cVar 2) (cCons (cVar 3) cNil)))) (sCons (sSet 5 (cCall f_l_aboard (cCons (cVar 4) cNil))) (sCons (sSet 6 (cCall f_l_front (cCons (cVar 3) (cCons (cVar 4) cNil)))) (sCons (sSet 7 (cCall f_l_gap (cCons (cVar 3) (cCons (cVar 4) (cCons (cApp (fTup false) (cCons (cComp [12] (cIter (cVar 5)) (gNm 12) kYes (cTup (cCons (cVar 12) (cCons (cTup (cCons (cBin fIx (cBin fIx (cVar 3) (cK (.int 0))) (cK (.int 0))) (cCons (cK (.int 1)) cNil))) cNil)))) cNil)) cNil))))) (sCons (sSet 7 (cIf (cTst (cCall f_l_less (cCons (cVar 7) (cCons (cTup (cCons (cK (.int 0)) (cCons (cK (.int 1)) cNil))) cNil)))) (cTup (cCons (cK (.int 0)) (cCons (cK (.int 1)) cNil))) (cVar 7))) (sCons (sIf (cTst (cBin fNe (cCall f_gaps (cCons (cVar 3) (cCons (cVar 4) cNil))) (cTup (cCons (cVar 7) (cCons (cVar 6) cNil))))) (sCons (sRet (cK (.bl false))) sNil) sNil) (sCons (sFor (cRange1 (cK (.int 5))) (gNm 8) (sCons (sSet 9 (cCall f_l_rows (cCons (cVar 2) (cCons (cVar 3) (cCons (cVar 5) cNil))))) (sCons (sSet 10 (cCall f_l_gap (cCons (cVar 3) (cCons (cVar 4) (cCons (cVar 9) cNil))))) (sCons (sSet 11 (cCall f_gap_behind (cCons (cVar 3) (cCons (cVar 4) (cCons (cVar 9) cNil))))) (sCons (sIf (cTst (cBin fNe (cVar 11) (cIf (cTst (cCall f_l_less (cCons (cVar 10) (cCons (cTup (cCons (cK (.int 0)) (cCons (cK (.int 1)) cNil))) cNil)))) (cK .non) (cVar 10)))) (sCons (sRet (cK (.bl false))) sNil) sNil) (sCons (sIf (cTst (cBin fNotN (cVar 11) (cK .non))) (sCons (sIf (qqOr (cTst (cCall f_l_less (cCons (cVar 11) (cCons (cVar 7) cNil)))) (cTst (cCall f_l_less (cCons (cVar 6) (cCons (cVar 11) cNil))))) (sCons (sRet (cK (.bl false))) sNil) sNil) (sCons (sIf (cTst (cBin fNe (cCall f_gap_behind (cCons (cVar 3) (cCons (cTup (cCons (cVar 11) (cCons (cVar 9) cNil))) (cCons (cBin fIx (cVar 4) (cK (.int 1))) cNil)))) (cBin fIx (cVar 4) (cK (.int 0))))) (sCons (sRet (cK (.bl false))) sNil) sNil) sNil)) sNil) sNil)))))) sNil)))))))))) (sCons (sRet (cK (.bl true))) sNil))
def f_law_k02 : Fn := runF 13 false c_law_k02
def c_heavy_by : CdS := (sCons (sSet 5 (cCall f_heavies (cCons (cVar 0) cNil))) (sCons (sSet 6 (cCall f_less (cCons (cBin fIx (cVar 1) (cK (.int 0))) (cCons (cVar 4) cNil)))) (sCons (sSet 7 (cComp [10] (cIter (cCall f_aboard_of (cCons (cVar 1) cNil))) (gNm 10) (cTst (cBin fNe (cVar 10) (cVar 2))) (cVar 10))) (sCons (sSet 8 (cCall f_times (cCons (cVar 6) (cCons (cBin fSub (cK (.int 0)) (cCall f_whole_of (cCons (cVar 0) (cCons (cVar 7) cNil)))) (cCons (cK (.int 1)) cNil))))) (sCons (sSet 9 (cK (.tup [.int 0, .int 1]))) (sCons (sFor (cZip (cBin fIx (cVar 1) (cK (.int 1))) (cVar 3)) (gTp (gCons' (gTp (gCons' (gNm 10) (gCons' (gNm 11) gNil'))) (gCons' (gTp (gCons' (gNm 12) (gCons' (gNm 13) gNil'))) gNil'))) (sCons (sIf (cTst (cBin fEq (cVar 10) (cVar 2))) (sCons (sSet 9 (cCall f_less (cCons (cVar 6) (cCons (cCall f_less (cCons (cVar 13) (cCons (cVar 11) cNil))) cNil)))) sNil) (sCons (sSet 8 (cCall f_plus (cCons (cVar 8) (cCons (cCall f_times (cCons (cCall f_less (cCons (cVar 13) (cCons (cVar 11) cNil))) (cCons (cBin fIx (cVar 5) (cVar 10)) (cCons (cK (.int 1)) cNil)))) cNil)))) sNil)) sNil)) (sCons (sIf (cTst (cBin fEq (cBin fIx (cVar 9) (cK (.int 0))) (cK (.int 0)))) (sCons (sRet (cIf (cTst (cBin fEq (cBin fIx (cVar 8) (cK (.int 0))) (cK (.int 0)))) (cK (.str (Str.ofString "any"))) (cK .non))) sNil) sNil) (sCons (sIf (cTst (cBin fLe (cBin fMul (cBin fIx (cVar 8) (cK (.int 0))) (cBin fIx (cVar 9) (cK (.int 0)))) (cK (.int 0)))) (sCons (sRet (cK .non)) sNil) sNil) (sCons (sRet (cCall f_times (cCons (cTup (cCons (cApp fAbs (cCons (cBin fIx (cVar 8) (cK (.int 0))) cNil)) (cCons (cBin fIx (cVar 8) (cK (.int 1))) cNil))) (cCons (cBin fIx (cVar 9) (cK (.int 1))) (cCons (cApp fAbs (cCons (cBin fIx (cVar 9) (cK (.int 0))) cNil)) cNil))))) sNil)))))))))
def f_heavy_by : Fn := runF 14 false c_heavy_by
def c_l_does : CdS := (sCons (sSet 5 (cDictKC (cComp [9] (cIter (cBin fAdd (cBin fIx (cVar 0) (cK (.int 1))) (cBin fIx (cVar 0) (cK (.int 2))))) (gNm 9) kYes (cTup (cCons (cBin fIx (cVar 9) (cK (.int 0))) (cCons (cTup (cCons (cBin fIx (cVar 9) (cK (.int 1))) (cCons (cK (.int 1)) cNil))) cNil)))))) (sCons (sPutK (cVar 3) (cVar 5) (cVar 2)) (sCons (sPar 6 7 (cTup (cCons (cK (.int 0)) (cCons (cK (.int 1)) cNil))) (cTup (cCons (cBin fIx (cBin fIx (cVar 0) (cK (.int 0))) (cK (.int 1))) (cCons (cK (.int 1)) cNil)))) (sCons (sSet 8 (cDictK (cBin fIx (cVar 1) (cK (.int 1))))) (sCons (sFz 5 (sFor (cIter (cBin fIx (cVar 4) (cK (.int 0)))) (gTp (gCons' (gNm 9) (gCons' (gNm 10) gNil'))) (sCons (sSet 11 (cCall f_l_minus (cCons (cVar 10) (cCons (cBin fIx (cVar 8) (cVar 9)) cNil)))) (sCons (sSet 6 (cCall f_l_plus (cCons (cVar 6) (cCons (cCall f_l_lowest (cCons (cBin fMul (cBin fIx (cVar 11) (cK (.int 0))) (cBin fIx (cBin fIx (cVar 5) (cVar 9)) (cK (.int 0)))) (cCons (cBin fMul (cBin fIx (cVar 11) (cK (.int 1))) (cBin fIx (cBin fIx (cVar 5) (cVar 9)) (cK (.int 1)))) cNil))) cNil)))) (sCons (sSet 7 (cCall f_l_plus (cCons (cVar 7) (cCons (cBin fIx (cVar 5) (cVar 9)) cNil)))) sNil))))) (sCons (sSet 12 (cCall f_l_minus (cCons (cBin fIx (cVar 1) (cK (.int 0))) (cCons (cBin fIx (cVar 4) (cK (.int 1))) cNil)))) (sCons (sRet (cBin fEq (cCall f_l_lowest (cCons (cBin fMul (cBin fIx (cVar 12) (cK (.int 0))) (cBin fIx (cVar 7) (cK (.int 0)))) (cCons (cBin fMul (cBin fIx (cVar 12) (cK (.int 1))) (cBin fIx (cVar 7) (cK (.int 1)))) cNil))) (cVar 6))) sNil)))))))
def f_l_does : Fn := runF 13 false c_l_does
def c_law_k16 : CdS := (sCons (sFor (cRange1 (cBin fAdd (cK (.int 1)) (cApp fMin2 (cCons (cApp fLen (cCons (cVar 0) cNil)) (cCons (cK (.int 15)) cNil))))) (gNm 1) (sCons (sSet 2 (cCall f_l_bag (cCons (cVar 0) (cCons (cVar 1) cNil)))) (sCons (sSet 3 (cCall f_l_world (cCons (cVar 2) (cCons (cK (.int 4)) (cCons (cK (.int 2)) cNil))))) (sCons (sSet 4 (cCall f_l_standing (cCons (cVar 2) (cCons (cVar 3) cNil)))) (sCons (sSet 5 (cCall f_l_of (cCons (cVar 2) (cCons (cLst (cCons (cBin fIx (cVar 4) (cK (.int 1))) (cCons (cCall f_l_rows (cCons (cVar 2) (cCons (cVar 3) (cCons (cCall f_l_aboard (cCons (cVar 4) cNil)) cNil)))) cNil))) cNil)))) (sCons (sSet 6 (cCall f_l_gap (cCons (cVar 3) (cCons (cVar 4) (cCons (cVar 5) cNil))))) (sCons (sSet 7 (cBin fAdd (cLst (cCons (cBin fIx (cVar 4) (cK (.int 0))) (cCons (cTup (cCons (cCall f_l_take (cCons (cVar 2) (cCons (cK (.int 50)) cNil))) (cCons (cK (.int 1)) cNil))) cNil))) (cComp [15] (cIter (cLst (cCons (cVar 6) cNil))) (gNm 15) (qqNot (cTst (cCall f_l_less (cCons (cVar 15) (cCons (cTup (cCons (cK (.int 0)) (cCons (cK (.int 1)) cNil))) cNil))))) (cVar 15)))) (sCons (sFor (cIter (cVar 7)) (gNm 8) (sCons (sFor (cIter (cCall f_l_names (cCons (cVar 3) cNil))) (gNm 9) (sCons (sSet 10 (cCall f_heavy_by (cCons (cVar 3) (cCons (cVar 4) (cCons (cVar 9) (cCons (cVar 5) (cCons (cVar 8) cNil))))))) (sCons (sSet 11 (cLst (cCons (cTup (cCons (cK (.int 1)) (cCons (cK (.int 2)) cNil))) (cCons (cTup (cCons (cK (.int 1)) (cCons (cK (.int 1)) cNil))) (cCons (cTup (cCons (cK (.int 7)) (cCons (cK (.int 1)) cNil))) (cCons (cTup (cCons (cK (.int 777)) (cCons (cK (.int 1)) cNil))) cNil)))))) (sCons (sSet 12 (cComp [16] (cIter (cVar 11)) (gNm 16) kYes (cCall f_l_does (cCons (cVar 3) (cCons (cVar 4) (cCons (cVar 9) (cCons (cVar 16) (cCons (cTup (cCons (cVar 5) (cCons (cVar 8) cNil))) cNil)))))))) (sCons (sIf (cTst (cBin fNe (cBin fEq (cVar 10) (cK (.str (Str.ofString "any")))) (cBin fNotIn (cK (.bl false)) (cVar 12)))) (sCons (sRet (cK (.bl false))) sNil) sNil) (sCons (sIf (cTst (cBin fIsN (cVar 10) (cK .non))) (sCons (sIf (cTst (cBin fIn (cK (.bl true)) (cVar 12))) (sCons (sRet (cK (.bl false))) sNil) sNil) sNil) (sCons (sIf (cTst (cBin fNe (cVar 10) (cK (.str (Str.ofString "any"))))) (sCons (sSet 13 (cCall f_l_does (cCons (cVar 3) (cCons (cVar 4) (cCons (cVar 9) (cCons (cVar 10) (cCons (cTup (cCons (cVar 5) (cCons (cVar 8) cNil))) cNil))))))) (sCons (sIf (qqOr (cTst (cBin fLt (cBin fIx (cVar 10) (cK (.int 0))) (cK (.int 1)))) (qqNot (cTst (cVar 13)))) (sCons (sRet (cK (.bl false))) sNil) sNil) sNil)) sNil) sNil)) (sCons (sSet 14 (cCall f_l_weight (cCons (cVar 3) (cCons (cLst (cCons (cVar 9) cNil)) cNil)))) (sCons (sIf (qqAnd (cTst (cBin fEq (cVar 8) (cVar 6))) (cTst (cBin fNotIn (cVar 10) (cLst (cCons (cK (.str (Str.ofString "any"))) (cCons (cTup (cCons (cVar 14) (cCons (cK (.int 1)) cNil))) cNil)))))) (sCons (sRet (cK (.bl false))) sNil) sNil) sNil)))))))) sNil)) sNil)))))))) (sCons (sRet (cK (.bl true))) sNil))
def f_law_k16 : Fn := runF 17 false c_law_k16
end OA
namespace OA
open PySem PySem.Spec PyProof.Rows L2

/-! ### reading code -/
section
variable {en : En} {S : Ss} {i : Nat} {r : R}
@[simp] theorem e_var0 {a : Option R} {t : En} (r : R) : cVar 0 (some r :: t) S = some (r, S) := rfl
@[simp] theorem e_varS {a : Option R} {t : En} (i : Nat) : cVar (i + 1) (a :: t) S = cVar i t S := by unfold cVar; simp
@[simp] theorem e_K (d : Dt) : cK d en S = some (.d d, S) := rfl
@[simp] theorem e_nil : cNil en S = some ([], S) := rfl
@[simp] theorem e_snil : sNil en S = some (.nx, en, S) := rfl
@[simp] theorem g_d (x : Dt) : get S (.d x) = some x := rfl
@[simp] theorem dats_nil : dats [] = some [] := rfl
@[simp] theorem dats_cons (x : Dt) (rs : List R) : dats (.d x :: rs) = (dats rs).map (x :: ·) := rfl
theorem e_cons {c : Cd} {cl : CdL} {r rs S1 S2} (h1 : c en S = some (r, S1)) (h2 : cl en S1 = some (rs, S2)) : cCons c cl en S = some (r :: rs, S2) := by unfold cCons; simp [h1, h2]
theorem e_bin {f : F2} {ca cb : Cd} {a b z S1 S2} (h1 : ca en S = some (a, S1)) (h2 : cb en S1 = some (b, S2)) (h3 : f S2 a b = some z) : cBin f ca cb en S = some (z, S2) := by unfold cBin; simp [h1, h2, h3]
theorem e_tup {cl : CdL} {rs ds S1} (h1 : cl en S = some (rs, S1)) (h2 : dats rs = some ds) (h3 : ds.length ≤ 1000) : cTup cl en S = some (.d (.tup ds), S1) := by unfold cTup; simp [h1, h2, h3]
end

/-! ### fractions -/
def fr (q : Rat) : Dt := .tup [.int q.num, .int (q.den : Int)]
/-- a bound on both parts -/
def B (n : Nat) (q : Rat) : Prop := q.num.natAbs < 2 ^ n ∧ q.den < 2 ^ n
theorem B.mono {n m : Nat} {q : Rat} (h : B n q) (hm : n ≤ m) : B m q := ⟨Nat.lt_of_lt_of_le h.1 (Nat.pow_le_pow_right (by decide) hm), Nat.lt_of_lt_of_le h.2 (Nat.pow_le_pow_right (by decide) hm)⟩
theorem log_lt {n k : Nat} (h : n < 2 ^ k) (hk : 0 < k) : n.log2 < k := PySem.Flt.log2_lt_of hk h
theorem fMul_ok {S : Ss} {i j : Int} {a b : Nat} (ha : i.natAbs < 2 ^ a) (hb : j.natAbs < 2 ^ b) (h0 : 0 < a) (h1 : 0 < b) (h : a + b ≤ 1000000) : fMul S (.d (.int i)) (.d (.int j)) = some (.d (.int (i * j))) := by
  have x := log_lt ha h0
  have y := log_lt hb h1
  unfold fMul fI2
  simp only [g_d]
  rw [if_pos (by omega)]
  rfl
@[simp] theorem fAdd_int {S : Ss} {i j : Int} : fAdd S (.d (.int i)) (.d (.int j)) = some (.d (.int (i + j))) := rfl
@[simp] theorem fSub_int {S : Ss} {i j : Int} : fSub S (.d (.int i)) (.d (.int j)) = some (.d (.int (i - j))) := rfl
@[simp] theorem fLt_int {S : Ss} {i j : Int} : fLt S (.d (.int i)) (.d (.int j)) = some (.d (.bl (decide (i < j)))) := rfl
@[simp] theorem fGt_int {S : Ss} {i j : Int} : fGt S (.d (.int i)) (.d (.int j)) = some (.d (.bl (decide (j < i)))) := rfl
@[simp] theorem fLe_int {S : Ss} {i j : Int} : fLe S (.d (.int i)) (.d (.int j)) = some (.d (.bl (decide (i ≤ j)))) := rfl
@[simp] theorem fGe_int {S : Ss} {i j : Int} : fGe S (.d (.int i)) (.d (.int j)) = some (.d (.bl (decide (j ≤ i)))) := rfl
theorem fMod_ok {S : Ss} {i j : Int} (h : 0 < j) : fMod S (.d (.int i)) (.d (.int j)) = some (.d (.int (i % j))) := by
  unfold fMod fI2
  simp only [g_d]
  rw [if_pos h]; rfl
theorem fDiv_ok {S : Ss} {i j : Int} (h : 0 < j) (h2 : j.natAbs < 2 ^ 8999) : fDiv S (.d (.int i)) (.d (.int j)) = some (.d (.int (i / j))) := by
  have := log_lt h2 (by decide)
  unfold fDiv fI2
  simp only [g_d]
  rw [if_pos ⟨h, by omega⟩]; rfl
@[simp] theorem fr_top {S : Ss} {q : Rat} : fIx S (.d (fr q)) (.d (.int 0)) = some (.d (.int q.num)) := rfl
@[simp] theorem fr_bot {S : Ss} {q : Rat} : fIx S (.d (fr q)) (.d (.int 1)) = some (.d (.int (q.den : Int))) := rfl

/-! ### the greatest common divisor -/
abbrev gT : CdB := cTst (cBin fGt (cVar 3) (cK (.int 0)))
abbrev gC : CdS := sCons (sPar 2 3 (cVar 3) (cBin fMod (cVar 2) (cVar 3))) sNil
theorem gl_end (n : Nat) (x y : R) (a : Int) (S : Ss) : whileN (n + 1) gT gC [some x, some y, some (.d (.int a)), some (.d (.int 0))] S = some (.nx, [some x, some y, some (.d (.int a)), some (.d (.int 0))], S) := by
  unfold whileN
  simp [gT, cTst, cBin, asB, cVar, cK, fGt_int]
theorem gl_step (n : Nat) (x y : R) (a b : Nat) (hb : 0 < b) (S : Ss) : whileN (n + 1) gT gC [some x, some y, some (.d (.int (a : Int))), some (.d (.int (b : Int)))] S = whileN n gT gC [some x, some y, some (.d (.int (b : Int))), some (.d (.int ((a % b : Nat) : Int)))] S := by
  have hb' : (0 : Int) < (b : Int) := by omega
  conv => lhs; unfold whileN
  simp [gT, gC, cTst, cBin, asB, cVar, cK, fGt_int, hb, sCons, sPar, fMod_ok hb', sNil]
theorem gl (S : Ss) (x y : R) : ∀ (k : Nat) (n a b : Nat), b < 2 ^ k → 2 * k + 1 ≤ n → whileN n gT gC [some x, some y, some (.d (.int (a : Int))), some (.d (.int (b : Int)))] S = some (.nx, [some x, some y, some (.d (.int ((Nat.gcd a b : Nat) : Int))), some (.d (.int 0))], S)
  | 0, n, a, b, hb, hn => by
    have e : b = 0 := by omega
    subst e
    obtain ⟨m, rfl⟩ : ∃ m, n = m + 1 := ⟨n - 1, by omega⟩
    rw [Nat.gcd_zero_right]
    exact gl_end m x y a S
  | k + 1, n, a, b, hb, hn => by
    obtain ⟨m, rfl⟩ : ∃ m, n = m + 1 := ⟨n - 1, by omega⟩
    by_cases h0 : b = 0
    · subst h0
      rw [Nat.gcd_zero_right]
      exact gl_end m x y a S
    · rw [gl_step m x y a b (by omega) S]
      have e1 : Nat.gcd a b = Nat.gcd b (a % b) := by rw [Nat.gcd_comm a b, Nat.gcd_rec b a, Nat.gcd_comm]
      obtain ⟨m, rfl⟩ : ∃ j, m = j + 1 := ⟨m - 1, by omega⟩
      by_cases h1 : a % b = 0
      · rw [e1, h1, Nat.gcd_zero_right]
        exact gl_end m x y b S
      · rw [gl_step m x y b (a % b) (by omega) S]
        have e2 : Nat.gcd b (a % b) = Nat.gcd (a % b) (b % (a % b)) := by rw [Nat.gcd_comm b, Nat.gcd_rec (a % b) b, Nat.gcd_comm]
        rw [e1, e2]
        refine gl S x y k m (a % b) (b % (a % b)) ?_ (by omega)
        have l1 : a % b < b := Nat.mod_lt _ (by omega)
        have l2 : b % (a % b) < a % b := Nat.mod_lt _ (by omega)
        have l3 : b % (a % b) + (a % b) ≤ b := by
          have := Nat.div_add_mod b (a % b)
          have hq : 1 ≤ b / (a % b) := (Nat.one_le_div_iff (by omega)).mpr (by omega)
          have : (a % b) * 1 ≤ (a % b) * (b / (a % b)) := Nat.mul_le_mul_left _ hq
          omega
        have : 2 ^ (k + 1) = 2 * 2 ^ k := by rw [Nat.pow_succ]; omega
        omega

/-- the fraction a / b -/
theorem fr_mk {a : Int} {b : Nat} (hb : b ≠ 0) : fr (mkRat a b) = .tup [.int (a / ((Nat.gcd a.natAbs b : Nat) : Int)), .int ((b : Int) / ((Nat.gcd a.natAbs b : Nat) : Int))] := by
  unfold fr
  rw [Rat.num_mkRat, Rat.den_mkRat, if_neg hb, if_neg hb, Nat.gcd_comm]
  simp
theorem run_ret {N : Nat} {c : CdS} {rs : List R} {S S' : Ss} {x : Dt} {en} (h : c (rs.map some ++ List.replicate (N - rs.length) none) S = some (.ret (.d x), en, S')) (hs : S'.take S.length = S) : runF N false c rs S = some (.d x, S) := by
  unfold runF
  simp [h, finish, hs]
theorem sp_lowest (S : Ss) (a : Int) (b : Nat) (hb : 0 < b) (hz : b < 2 ^ 8999) : f_lowest [.d (.int a), .d (.int (b : Int))] S = some (.d (fr (mkRat a b)), S) := by
  have hg := gl S (.d (.int a)) (.d (.int (b : Int))) 8999 100000 a.natAbs b hz (by decide)
  have gp : 0 < Nat.gcd a.natAbs b := Nat.gcd_pos_of_pos_right _ hb
  have gz : Nat.gcd a.natAbs b < 2 ^ 8999 := Nat.lt_of_le_of_lt (Nat.gcd_le_right _ hb) hz
  have ea : (if a < 0 then -a else a) = (a.natAbs : Int) := by split <;> omega
  refine run_ret (en := [some (.d (.int a)), some (.d (.int (b : Int))), some (.d (.int ((Nat.gcd a.natAbs b : Nat) : Int))), some (.d (.int 0))]) (S' := S) ?_ (List.take_length)
  rw [fr_mk (by omega)]
  have d1 := fDiv_ok (S := S) (i := a) (j := ((Nat.gcd a.natAbs b : Nat) : Int)) (by omega) (by simpa using gz)
  have d2 := fDiv_ok (S := S) (i := (b : Int)) (j := ((Nat.gcd a.natAbs b : Nat) : Int)) (by omega) (by simpa using gz)
  show sCons _ _ _ S = _
  simp only [gT, gC] at hg
  simp [c_lowest, sCons, sPar, cApp, cCons, cNil, cVar, fAbs, ea, hg, sRet, cTup, cBin, d1, d2]
end OA
namespace OA
open PySem PySem.Spec PyProof.Rows L2

theorem B_mk {a : Int} {b n : Nat} (ha : a.natAbs < 2 ^ n) (hb : b < 2 ^ n) (hn : 0 < n) : B n (mkRat a b) := by
  unfold B
  rw [Rat.num_mkRat, Rat.den_mkRat]
  by_cases h0 : b = 0
  · rw [if_pos h0, if_pos h0]
    have : 1 < 2 ^ n := Nat.one_lt_two_pow (by omega)
    exact ⟨by simpa using Nat.lt_trans Nat.zero_lt_one this, this⟩
  · rw [if_neg h0, if_neg h0]
    refine ⟨Nat.lt_of_le_of_lt ?_ ha, Nat.lt_of_le_of_lt (Nat.div_le_self _ _) hb⟩
    rw [Int.natAbs_ediv_of_dvd (Int.ofNat_dvd_left.mpr (Nat.gcd_dvd_right _ _))]
    exact Nat.div_le_self _ _
theorem B.d {n : Nat} {q : Rat} (h : B n q) : ((q.den : Int)).natAbs < 2 ^ n := by rw [Int.natAbs_natCast]; exact h.2
theorem nb {b n : Nat} (h : b < 2 ^ n) : ((b : Int)).natAbs < 2 ^ n := by rw [Int.natAbs_natCast]; exact h
theorem B_add {n m : Nat} {p q : Rat} (hp : B n p) (hq : B m q) : B (n + m + 1) (p + q) := by
  rw [Rat.add_def']
  refine B_mk ?_ ?_ (by omega)
  · have h1 : (p.num * q.den).natAbs < 2 ^ (n + m) := wide_lt hp.1 hq.d
    have h2 : (q.num * p.den).natAbs < 2 ^ (n + m) := by rw [Nat.add_comm n m]; exact wide_lt hq.1 hp.d
    have : 2 ^ (n + m + 1) = 2 * 2 ^ (n + m) := by rw [Nat.pow_succ]; omega
    omega
  · have : p.den * q.den < 2 ^ (n + m) := by rw [Nat.pow_add]; exact Nat.mul_lt_mul'' hp.2 hq.2
    exact Nat.lt_of_lt_of_le this (Nat.pow_le_pow_right (by decide) (by omega))
theorem B_sub {n m : Nat} {p q : Rat} (hp : B n p) (hq : B m q) : B (n + m + 1) (p - q) := by
  rw [Rat.sub_def']
  refine B_mk ?_ ?_ (by omega)
  · have h1 : (p.num * q.den).natAbs < 2 ^ (n + m) := wide_lt hp.1 hq.d
    have h2 : (q.num * p.den).natAbs < 2 ^ (n + m) := by rw [Nat.add_comm n m]; exact wide_lt hq.1 hp.d
    have : 2 ^ (n + m + 1) = 2 * 2 ^ (n + m) := by rw [Nat.pow_succ]; omega
    omega
  · have : p.den * q.den < 2 ^ (n + m) := by rw [Nat.pow_add]; exact Nat.mul_lt_mul'' hp.2 hq.2
    exact Nat.lt_of_lt_of_le this (Nat.pow_le_pow_right (by decide) (by omega))
/-- q times a, by b -/
def by' (q : Rat) (a : Int) (b : Nat) : Rat := mkRat (q.num * a) (q.den * b)
theorem by_eq (q : Rat) (a : Int) (b : Nat) : by' q a b = q * a / b := by
  unfold by'
  rw [← Rat.mkRat_mul_mkRat, Rat.mkRat_self, Rat.mkRat_eq_div, Rat.div_def, Rat.div_def, Rat.mul_assoc]
theorem B_by {n k m : Nat} {q : Rat} {a : Int} {b : Nat} (hq : B n q) (ha : a.natAbs < 2 ^ k) (hb : b < 2 ^ k) (hm : n + k ≤ m) (h0 : 0 < n) : B m (by' q a b) := by
  refine B.mono (n := n + k) (B_mk (wide_lt hq.1 ha) ?_ (by omega)) hm
  rw [Nat.pow_add]
  exact Nat.mul_lt_mul'' hq.2 hb
theorem B_zero {n : Nat} (h : 0 < n) : B n 0 := by
  have : 1 < 2 ^ n := Nat.one_lt_two_pow (by omega)
  exact ⟨by simpa using Nat.lt_trans Nat.zero_lt_one this, this⟩
@[simp] theorem fr_zero : fr 0 = .tup [.int 0, .int 1] := rfl

theorem sp_plus (S : Ss) {p q : Rat} (hp : B 4000 p) (hq : B 4000 q) : f_plus [.d (fr p), .d (fr q)] S = some (.d (fr (p + q)), S) := by
  have a1 := fMul_ok (S := S) (i := p.num) (j := (q.den : Int)) hp.1 hq.d (by decide) (by decide) (by decide)
  have a2 := fMul_ok (S := S) (i := q.num) (j := (p.den : Int)) hq.1 hp.d (by decide) (by decide) (by decide)
  have a3 := fMul_ok (S := S) (i := (p.den : Int)) (j := (q.den : Int)) hp.d hq.d (by decide) (by decide) (by decide)
  have hz : p.den * q.den < 2 ^ 8999 := Nat.lt_of_lt_of_le (by rw [Nat.pow_add (m := 4000) (n := 4000)]; exact Nat.mul_lt_mul'' hp.2 hq.2) (Nat.pow_le_pow_right (n := 2) (by decide) (show 4000 + 4000 ≤ 8999 by decide))
  have hl := sp_lowest S (p.num * q.den + q.num * p.den) (p.den * q.den) (Nat.mul_pos p.den_pos q.den_pos) hz
  rw [← Rat.add_def'] at hl
  refine run_ret (en := [some (.d (fr p)), some (.d (fr q))]) (S' := S) ?_ (List.take_length)
  rw [Int.natCast_mul] at hl
  simp [c_plus, sCons, sRet, cCall, cCons, cNil, cBin, cVar, cK, a1, a2, a3, hl]
theorem sp_less (S : Ss) {p q : Rat} (hp : B 4000 p) (hq : B 4000 q) : f_less [.d (fr p), .d (fr q)] S = some (.d (fr (p - q)), S) := by
  have a1 := fMul_ok (S := S) (i := p.num) (j := (q.den : Int)) hp.1 hq.d (by decide) (by decide) (by decide)
  have a2 := fMul_ok (S := S) (i := q.num) (j := (p.den : Int)) hq.1 hp.d (by decide) (by decide) (by decide)
  have a3 := fMul_ok (S := S) (i := (p.den : Int)) (j := (q.den : Int)) hp.d hq.d (by decide) (by decide) (by decide)
  have hz : p.den * q.den < 2 ^ 8999 := Nat.lt_of_lt_of_le (by rw [Nat.pow_add (m := 4000) (n := 4000)]; exact Nat.mul_lt_mul'' hp.2 hq.2) (Nat.pow_le_pow_right (n := 2) (by decide) (show 4000 + 4000 ≤ 8999 by decide))
  have hl := sp_lowest S (p.num * q.den - q.num * p.den) (p.den * q.den) (Nat.mul_pos p.den_pos q.den_pos) hz
  rw [← Rat.sub_def'] at hl
  refine run_ret (en := [some (.d (fr p)), some (.d (fr q))]) (S' := S) ?_ (List.take_length)
  rw [Int.natCast_mul] at hl
  simp [c_less, sCons, sRet, cCall, cCons, cNil, cBin, cVar, cK, a1, a2, a3, hl]
theorem sp_times (S : Ss) {q : Rat} {a : Int} {b : Nat} (hq : B 4000 q) (ha : a.natAbs < 2 ^ 4000) (hb : b < 2 ^ 4000) (h0 : 0 < b) : f_times [.d (fr q), .d (.int a), .d (.int (b : Int))] S = some (.d (fr (q * a / b)), S) := by
  have a1 := fMul_ok (S := S) (i := q.num) (j := a) hq.1 ha (by decide) (by decide) (by decide)
  have a3 := fMul_ok (S := S) (i := (q.den : Int)) (j := (b : Int)) hq.d (nb hb) (by decide) (by decide) (by decide)
  have hz : q.den * b < 2 ^ 8999 := Nat.lt_of_lt_of_le (by rw [Nat.pow_add (m := 4000) (n := 4000)]; exact Nat.mul_lt_mul'' hq.2 hb) (Nat.pow_le_pow_right (n := 2) (by decide) (show 4000 + 4000 ≤ 8999 by decide))
  have hl := sp_lowest S (q.num * a) (q.den * b) (Nat.mul_pos q.den_pos h0) hz
  rw [show mkRat (q.num * a) (q.den * b) = q * a / b from by_eq q a b] at hl
  refine run_ret (en := [some (.d (fr q)), some (.d (.int a)), some (.d (.int (b : Int)))]) (S' := S) ?_ (List.take_length)
  rw [Int.natCast_mul] at hl
  simp [c_times, sCons, sRet, cCall, cCons, cNil, cBin, cVar, cK, a1, a3, hl]
theorem sp_is_lesser (S : Ss) {p q : Rat} (hp : B 4000 p) (hq : B 4000 q) : f_is_lesser [.d (fr p), .d (fr q)] S = some (.d (.bl (decide (p < q))), S) := by
  have a1 := fMul_ok (S := S) (i := p.num) (j := (q.den : Int)) hp.1 hq.d (by decide) (by decide) (by decide)
  have a2 := fMul_ok (S := S) (i := q.num) (j := (p.den : Int)) hq.1 hp.d (by decide) (by decide) (by decide)
  refine run_ret (en := [some (.d (fr p)), some (.d (fr q))]) (S' := S) ?_ (List.take_length)
  simp [c_is_lesser, sCons, sRet, cBin, cVar, cK, a1, a2, Rat.lt_iff]
theorem l_lowest_eq : f_l_lowest = f_lowest := rfl
theorem l_plus_eq : f_l_plus = f_plus := rfl
theorem l_minus_eq : f_l_minus = f_less := rfl
theorem l_less_eq : f_l_less = f_is_lesser := rfl
theorem sp_l_times (S : Ss) {q : Rat} {a : Int} (hq : B 4000 q) (ha : a.natAbs < 2 ^ 4000) : f_l_times [.d (fr q), .d (.int a)] S = some (.d (fr (q * a)), S) := by
  have a1 := fMul_ok (S := S) (i := q.num) (j := a) hq.1 ha (by decide) (by decide) (by decide)
  have hz : q.den < 2 ^ 8999 := Nat.lt_of_lt_of_le hq.2 (Nat.pow_le_pow_right (n := 2) (by decide) (by decide))
  have hl := sp_lowest S (q.num * a) q.den q.den_pos hz
  rw [show mkRat (q.num * a) q.den = q * a by rw [Rat.mul_def']; simp] at hl
  refine run_ret (en := [some (.d (fr q)), some (.d (.int a))]) (S' := S) ?_ (List.take_length)
  simp [c_l_times, l_lowest_eq, sCons, sRet, cCall, cCons, cNil, cBin, cVar, cK, a1, hl]
end OA
namespace OA
open PySem PySem.Spec PyProof.Rows L2

/-! ### lists walked -/
theorem compN_map {α : Type} {vs : List Nat} {g : CdG} {c : Cd} {en : En} {S : Ss} (enc f : α → Dt) : ∀ (xs : List α), (∀ x ∈ xs, ∃ en1, g (.d (enc x)) (wipeE en vs) = some en1 ∧ c en1 S = some (.d (f x), S)) → compN vs g kYes c (xs.map enc) en S = some (xs.map f, S)
  | [], _ => rfl
  | x :: xs, h => by
    obtain ⟨en1, e1, e2⟩ := h x List.mem_cons_self
    have ih := compN_map (vs := vs) (g := g) (c := c) (en := en) (S := S) enc f xs fun y hy => h y (List.mem_cons_of_mem _ hy)
    simp [compN, e1, kYes, e2, ih]
theorem compN_filter {α : Type} {vs : List Nat} {g : CdG} {t : CdB} {c : Cd} {en : En} {S : Ss} (enc f : α → Dt) (p : α → Bool) : ∀ (xs : List α), (∀ x ∈ xs, ∃ en1, g (.d (enc x)) (wipeE en vs) = some en1 ∧ t en1 S = some (p x, S) ∧ (p x = true → c en1 S = some (.d (f x), S))) → compN vs g t c (xs.map enc) en S = some ((xs.filter p).map f, S)
  | [], _ => rfl
  | x :: xs, h => by
    obtain ⟨en1, e1, e2, e3⟩ := h x List.mem_cons_self
    have ih := compN_filter (vs := vs) (g := g) (t := t) (c := c) (en := en) (S := S) enc f p xs fun y hy => h y (List.mem_cons_of_mem _ hy)
    cases hp : p x with
    | true =>
      have e3 := e3 hp
      simp [compN, e1, e2, hp, e3, ih]
    | false => simp [compN, e1, e2, hp, ih]
theorem e_comp {vs : List Nat} {ci : CdI} {g : CdG} {t : CdB} {c : Cd} {en : En} {S : Ss} {ds ys : List Dt} (h1 : ci en S = some (ds, S)) (h2 : compN vs g t c ds en S = some (ys, S)) : cComp vs ci g t c en S = some (.d (.lst ys), S) := by
  unfold cComp; simp [h1, h2]
theorem e_iter {c : Cd} {en : En} {S : Ss} {x : Dt} {ds : List Dt} (h1 : c en S = some (.d x, S)) (h2 : itemsOf x = some ds) : cIter c en S = some (ds, S) := by
  unfold cIter; simp [h1, h2]

/-! ### worlds -/
structure One where
  nm : Str
  hv : Nat
  rc : Nat
  ar : Nat
structure W where
  lg : Nat
  rh : Nat
  folk : List One
  loads : List (Str × Nat)
def eOne (o : One) : Dt := .tup [.str o.nm, .int (o.hv : Int), .int (o.rc : Int), .int (o.ar : Int)]
def eLoad (l : Str × Nat) : Dt := .tup [.str l.1, .int (l.2 : Int)]
def eW (w : W) : Dt := .tup [.tup [.int (w.lg : Int), .int (w.rh : Int)], .tup (w.folk.map eOne), .tup (w.loads.map eLoad)]
/-- all, with what they weigh -/
def W.all (w : W) : List (Str × Nat) := w.folk.map (fun o => (o.nm, o.hv)) ++ w.loads
def W.names (w : W) : List Str := w.all.map (·.1)
structure W.Ok (w : W) : Prop where
  lg : w.lg ≤ 400
  rh0 : 1 ≤ w.rh
  rh : w.rh ≤ 100
  hv : ∀ p ∈ w.all, 1 ≤ p.2 ∧ p.2 ≤ 60
  rc : ∀ o ∈ w.folk, 1 ≤ o.rc ∧ o.rc ≤ 30
  ar : ∀ o ∈ w.folk, o.ar ≤ 60
  nf : w.folk.length ≤ 4
  nl : w.loads.length ≤ 2
  nd : w.names.Nodup
def wt (w : W) (n : Str) : Nat := (w.all.lookup n).getD 0
def weight (w : W) (lot : List Str) : Nat := (lot.map (wt w)).sum
def whole (w : W) (lot : List Str) : Nat := w.rh + weight w lot
theorem all_len {w : W} (h : w.Ok) : w.all.length ≤ 6 := by
  unfold W.all
  have := h.nf; have := h.nl
  simp; omega

/-- a dict of texts -/
def dicK {α : Type} (f : α → Dt) (ps : List (Str × α)) : List (Dt × Dt) := ps.map fun p => (.str p.1, f p.2)
theorem look_dicK {α : Type} (f : α → Dt) (j : Str) : ∀ ps : List (Str × α), lookK (dicK f ps) j = (ps.lookup j).map f
  | [] => rfl
  | (k, v) :: ps => by
    have ih := look_dicK f j ps
    simp only [dicK, List.map_cons, lookK, keyK, List.lookup_cons, Option.some.injEq] at ih ⊢
    by_cases e : k = j
    · subst e; simp
    · have e' : (j == k) = false := beq_eq_false_iff_ne.mpr (fun z => e z.symm)
      rw [if_neg e, e']
      exact ih
theorem merge_dicK {α : Type} (f : α → Dt) : ∀ (ps acc : List (Str × α)), ((acc ++ ps).map (·.1)).Nodup → mergeKD (dicK f acc) (ps.map fun p => (p.1, f p.2)) = dicK f (acc ++ ps)
  | [], acc, _ => by simp [mergeKD]
  | (k, v) :: ps, acc, h => by
    have hk : ¬ k ∈ acc.map (·.1) := by
      intro hm
      rw [List.map_append, List.nodup_append] at h
      exact h.2.2 k hm k (by simp) rfl
    have hn : lookK (dicK f acc) k = none := by
      rw [look_dicK]
      have : acc.lookup k = none := by
        rw [List.lookup_eq_none_iff]
        intro p hp
        exact bne_iff_ne.mpr fun z => hk (List.mem_map.mpr ⟨p, hp, z.symm⟩)
      rw [this]; rfl
    have e1 : putKD (dicK f acc) k (f v) = dicK f (acc ++ [(k, v)]) := by
      unfold putKD
      rw [hn]
      simp [dicK]
    rw [List.map_cons]
    show mergeKD (putKD (dicK f acc) k (f v)) _ = _
    rw [e1, merge_dicK f ps (acc ++ [(k, v)]) (by simpa using h)]
    simp
abbrev hvD (w : W) : List (Dt × Dt) := dicK (fun n : Nat => Dt.int (n : Int)) w.all
theorem hv_look (w : W) {n : Str} (h : n ∈ w.names) : lookK (hvD w) n = some (.int (wt w n : Int)) := by
  rw [look_dicK]
  unfold wt
  cases e : w.all.lookup n with
  | some v => rfl
  | none =>
    rw [List.lookup_eq_none_iff] at e
    obtain ⟨p, hp, rfl⟩ := List.mem_map.mp h
    exact absurd (e p hp) (by simp)
theorem wt_le {w : W} (h : w.Ok) (n : Str) : wt w n ≤ 60 := by
  unfold wt
  cases e : w.all.lookup n with
  | none => exact Nat.zero_le _
  | some v =>
    have hm : (n, v) ∈ w.all := PySem.mem_of_lookup e
    exact (h.hv _ hm).2
theorem wt_pos {w : W} (h : w.Ok) {n : Str} (hn : n ∈ w.names) : 1 ≤ wt w n := by
  unfold wt
  cases e : w.all.lookup n with
  | none =>
    rw [List.lookup_eq_none_iff] at e
    obtain ⟨p, hp, rfl⟩ := List.mem_map.mp hn
    exact absurd (e p hp) (by simp)
  | some v =>
    have hm : (n, v) ∈ w.all := PySem.mem_of_lookup e
    exact (h.hv _ hm).1
theorem weight_le {w : W} (h : w.Ok) : ∀ lot : List Str, weight w lot ≤ 60 * lot.length
  | [] => Nat.le_refl _
  | n :: lot => by
    have ih := weight_le h lot
    have := wt_le h n
    unfold weight at ih ⊢
    rw [List.map_cons, List.sum_cons, List.length_cons]
    omega

/-! ### the program's own reading of worlds -/
theorem pairK_all (ps : List (Str × Nat)) : pairK (ps.map eLoad) = some (ps.map fun p => (p.1, .int (p.2 : Int))) := by
  induction ps with
  | nil => rfl
  | cons p ps ih => rw [List.map_cons, pairK]; simp [eLoad, tupV, ih]
theorem w_one (w : W) (S : Ss) : fIx S (.d (eW w)) (.d (.int 1)) = some (.d (.tup (w.folk.map eOne))) := rfl
theorem w_two (w : W) (S : Ss) : fIx S (.d (eW w)) (.d (.int 2)) = some (.d (.tup (w.loads.map eLoad))) := rfl
theorem w_zero (w : W) (S : Ss) : fIx S (.d (eW w)) (.d (.int 0)) = some (.d (.tup [.int (w.lg : Int), .int (w.rh : Int)])) := rfl
/-- one or load -/
inductive Th where
  | one (o : One)
  | load (l : Str × Nat)
def eTh : Th → Dt
  | .one o => eOne o
  | .load l => eLoad l
def Th.pr : Th → Str × Nat
  | .one o => (o.nm, o.hv)
  | .load l => l
theorem add_all (w : W) (h : w.Ok) (S : Ss) : ∃ d, fAdd S (.d (.tup (w.folk.map eOne))) (.d (.tup (w.loads.map eLoad))) = some (.d d) ∧ itemsOf d = some ((w.folk.map Th.one ++ w.loads.map Th.load).map eTh) := by
  have hl : (w.folk.map eOne).length + (w.loads.map eLoad).length ≤ 1000 := by
    have := h.nf; have := h.nl
    simp; omega
  have e : (w.folk.map Th.one ++ w.loads.map Th.load).map eTh = w.folk.map eOne ++ w.loads.map eLoad := by
    simp [List.map_append, eTh, Function.comp_def]
  rw [e]
  unfold fAdd
  simp only [g_d, tupV]
  rw [if_pos hl]
  cases hf : w.folk with
  | nil => exact ⟨_, rfl, rfl⟩
  | cons o os =>
    cases hq : w.loads with
    | nil => exact ⟨_, rfl, by simp [itemsOf]⟩
    | cons p ps => exact ⟨_, rfl, rfl⟩
theorem sp_heavies (S : Ss) (w : W) (h : w.Ok) : f_heavies [.d (eW w)] S = some (.d (.dK (hvD w)), S) := by
  refine run_ret (en := [some (.d (eW w)), none]) (S' := S) ?_ (List.take_length)
  obtain ⟨d, e1, e2⟩ := add_all w h S
  have ec : cBin fAdd (cBin fIx (cVar 0) (cK (.int 1))) (cBin fIx (cVar 0) (cK (.int 2))) [some (.d (eW w)), none] S = some (.d d, S) := by
    simp [cBin, cVar, cK, w_one, w_two, e1]
  have hc := compN_map (vs := [1]) (g := gNm 1) (c := cTup (cCons (cBin fIx (cVar 1) (cK (.int 0))) (cCons (cBin fIx (cVar 1) (cK (.int 1))) cNil))) (en := [some (.d (eW w)), none]) (S := S)
    eTh (fun t => eLoad t.pr) (w.folk.map Th.one ++ w.loads.map Th.load) (fun t _ => ⟨[some (.d (eW w)), some (.d (eTh t))], rfl, by
      cases t <;> rfl⟩)
  have hm : (w.folk.map Th.one ++ w.loads.map Th.load).map (fun t => eLoad t.pr) = w.all.map eLoad := by
    unfold W.all
    simp [List.map_append, Function.comp_def, Th.pr]
  rw [hm] at hc
  have hcc := e_comp (e_iter ec e2) hc
  have hd := merge_dicK (fun n : Nat => Dt.int (n : Int)) w.all [] (by simpa [W.names] using h.nd)
  have hp := pairK_all w.all
  show sCons _ _ _ S = _
  simp [c_heavies, sCons, sRet, cDictK, hcc, pairV, hp]
  simpa [dicK] using hd
theorem intsOf_nat : ∀ ns : List Nat, intsOf (ns.map fun n : Nat => Dt.int (n : Int)) = some (ns.map fun n : Nat => (n : Int))
  | [] => rfl
  | n :: ns => by rw [List.map_cons, intsOf, intsOf_nat ns]; rfl
theorem sum_nat : ∀ ns : List Nat, (ns.map fun n : Nat => (n : Int)).sum = ((ns.sum : Nat) : Int)
  | [] => rfl
  | n :: ns => by rw [List.map_cons, List.sum_cons, List.sum_cons, sum_nat ns]; simp
theorem sp_weight_of (S : Ss) (w : W) (h : w.Ok) (d : Dt) (lot : List Str) (hd : itemsOf d = some (lot.map .str)) (hn : ∀ n ∈ lot, n ∈ w.names) : f_weight_of [.d (eW w), .d d] S = some (.d (.int (weight w lot : Int)), S) := by
  refine run_ret (en := [some (.d (eW w)), some (.d d), some (.d (.dK (hvD w))), none]) (S' := S) ?_ (List.take_length)
  have hc := compN_map (vs := [3]) (g := gNm 3) (c := cBin fIx (cVar 2) (cVar 3)) (en := [some (.d (eW w)), some (.d d), some (.d (.dK (hvD w))), none]) (S := S)
    Dt.str (fun n => .int (wt w n : Int)) lot (fun n hm => ⟨[some (.d (eW w)), some (.d d), some (.d (.dK (hvD w))), some (.d (.str n))], rfl, by
      simp [cBin, cVar, fIx, hv_look w (hn n hm)]⟩)
  have hcc := e_comp (e_iter (c := cVar 1) (en := [some (.d (eW w)), some (.d d), some (.d (.dK (hvD w))), none]) (S := S) rfl hd) hc
  have e1 : lot.map (fun n => Dt.int (wt w n : Int)) = (lot.map (wt w)).map fun n : Nat => Dt.int (n : Int) := by simp
  rw [e1] at hcc
  show sCons _ _ _ S = _
  simp only [List.map_cons, List.map_nil, List.length_cons, List.length_nil, List.replicate, List.cons_append, List.nil_append]
  simp [c_weight_of, sCons, sSet, cCall, cCons, cNil, cVar, sp_heavies S w h, sRet, cApp]
  have hs : fSum S [.d (.lst ((lot.map (wt w)).map fun n : Nat => Dt.int (n : Int)))] = some (.d (.int (weight w lot : Int))) := by
    unfold fSum fL1
    simp only [g_d, intsOf_nat, sum_nat, Option.map_some]
    rfl
  generalize List.map (fun n : Nat => Dt.int (n : Int)) (List.map (wt w) lot) = ys at hcc hs
  rw [hcc]
  simp [hs]

/-! ### rows -/
abbrev Rows := List (Str × Rat)
def eRow (r : Str × Rat) : Dt := .tup [.str r.1, fr r.2]
def rowsD : Rows → Dt
  | [] => .tup0
  | r :: rs => .tup ((r :: rs).map eRow)
theorem rowsD_items (rs : Rows) : itemsOf (rowsD rs) = some (rs.map eRow) := by cases rs <;> rfl
theorem rowsD_tup (rs : Rows) : tupV (rowsD rs) = some (rs.map eRow) := by cases rs <;> rfl
def rnames (rs : Rows) : List Str := rs.map (·.1)
def drive (w : W) : Rows → Rat
  | [] => 0
  | r :: rs => r.2 * (wt w r.1 : Nat) + drive w rs
theorem term_eq (q : Rat) (n : Nat) : q * ((n : Int) : Rat) / ((1 : Nat) : Rat) = q * (n : Nat) := by
  rw [Rat.div_def]
  have : ((1 : Nat) : Rat)⁻¹ = 1 := by decide +kernel
  rw [this, Rat.mul_one]
  rfl
theorem term_B {w : W} (h : w.Ok) {n : Nat} (h0 : 0 < n) {q : Rat} (hq : B n q) (k : Str) : B (n + 6) (q * (wt w k : Nat)) := by
  rw [← term_eq, ← by_eq]
  exact B_by (k := 6) hq (by have := wt_le h k; simp; omega) (by decide) (Nat.le_refl _) h0
theorem drive_B {w : W} (h : w.Ok) {n : Nat} (h0 : 0 < n) : ∀ rs : Rows, (∀ r ∈ rs, B n r.2) → B ((n + 8) * rs.length + 1) (drive w rs)
  | [], _ => B_zero (by omega)
  | r :: rs, hr => by
    have ih := drive_B h h0 rs fun r hm => hr r (List.mem_cons_of_mem _ hm)
    refine B.mono (B_add (term_B h h0 (hr r List.mem_cons_self) r.1) ih) ?_
    rw [List.length_cons, Nat.mul_add]
    omega
theorem sp_drive_of (S : Ss) (w : W) (h : w.Ok) (d : Dt) (rs : Rows) (hd : itemsOf d = some (rs.map eRow)) (hn : ∀ r ∈ rs, r.1 ∈ w.names) {n : Nat} (h0 : 0 < n) (hB : ∀ r ∈ rs, B n r.2) (hl : (n + 8) * (rs.length + 1) ≤ 3900) :
    f_drive_of [.d (eW w), .d d] S = some (.d (fr (drive w rs)), S) := by
  have key : ∀ (rs : Rows), (∀ r ∈ rs, r.1 ∈ w.names) → (∀ r ∈ rs, B n r.2) → ∀ (t : Rat) (m : Nat) (x y : Option R), B m t → m + (n + 8) * (rs.length + 1) ≤ 3950 →
      ∃ x' y', forN (gTp (gCons' (gNm 4) (gCons' (gNm 5) gNil'))) (sCons (sSet 3 (cCall f_plus (cCons (cVar 3) (cCons (cCall f_times (cCons (cVar 5) (cCons (cBin fIx (cVar 2) (cVar 4)) (cCons (cK (.int 1)) cNil)))) cNil)))) sNil) (rs.map eRow)
        [some (.d (eW w)), some (.d d), some (.d (.dK (hvD w))), some (.d (fr t)), x, y] S = some (.nx, [some (.d (eW w)), some (.d d), some (.d (.dK (hvD w))), some (.d (fr (t + drive w rs))), x', y'], S) := by
    intro rs
    induction rs with
    | nil => intro _ _ t m x y _ _; exact ⟨x, y, by simp [forN, drive, Rat.add_zero]⟩
    | cons r rs ih =>
      intro hn hB t m x y ht hm
      rw [List.length_cons, Nat.mul_add] at hm
      have hr := hB r List.mem_cons_self
      have h1 := sp_times S (q := r.2) (a := (wt w r.1 : Int)) (b := 1) (hr.mono (by omega)) (by
        have := wt_le h r.1
        refine Nat.lt_of_lt_of_le (m := 2 ^ 6) (by simp; omega) (Nat.pow_le_pow_right (by decide) (by decide))) (Nat.one_lt_two_pow (by decide)) (by decide)
      rw [term_eq] at h1
      have hb1 := term_B h h0 hr r.1
      have h2 := sp_plus S (p := t) (q := r.2 * (wt w r.1 : Nat)) (ht.mono (by omega)) (hb1.mono (by omega))
      have hb2 := B_add ht hb1
      obtain ⟨x', y', e3⟩ := ih (fun r hm => hn r (List.mem_cons_of_mem _ hm)) (fun r hm => hB r (List.mem_cons_of_mem _ hm)) _ _ (some (.d (.str r.1))) (some (.d (fr r.2))) hb2 (by omega)
      refine ⟨x', y', ?_⟩
      have e4 : t + drive w (r :: rs) = t + r.2 * (wt w r.1 : Nat) + drive w rs := by simp [drive, Rat.add_assoc]
      rw [e4, ← e3]
      have h1' : f_times [.d (fr r.2), .d (.int (wt w r.1 : Int)), .d (.int 1)] S = some (.d (fr (r.2 * (wt w r.1 : Nat))), S) := h1
      rw [List.map_cons]
      conv => lhs; unfold forN
      simp [gTp, eRow, tupV, gCons', gNm, gNil', sCons, sSet, cCall, cCons, cNil, cVar, cBin, cK, fIx, hv_look w (hn r List.mem_cons_self), h1', h2, sNil]
  obtain ⟨x, y, e⟩ := key rs hn hB 0 1 none none (B_zero (by decide)) (by omega)
  rw [Rat.zero_add] at e
  refine run_ret (en := [some (.d (eW w)), some (.d d), some (.d (.dK (hvD w))), some (.d (fr (drive w rs))), x, y]) (S' := S) ?_ (List.take_length)
  have e' := e
  rw [fr_zero] at e'
  have hi := e_iter (c := cVar 1) (en := [some (.d (eW w)), some (.d d), some (.d (.dK (hvD w))), some (.d (.tup [.int 0, .int 1])), none, none]) (S := S) rfl hd
  show sCons _ _ _ S = _
  simp only [List.map_cons, List.map_nil, List.length_cons, List.length_nil, List.replicate, List.cons_append, List.nil_append]
  simp [c_drive_of, sCons, sSet, cCall, cCons, cNil, cVar, sp_heavies S w h, sRet, cK, sFor]
  simp [hi, e']
end OA
namespace OA
open PySem PySem.Spec PyProof.Rows L2

structure ROk (w : W) (n : Nat) (rs : Rows) : Prop where
  nm : ∀ r ∈ rs, r.1 ∈ w.names
  pl : ∀ r ∈ rs, B n r.2
  len : rs.length ≤ 6
  nd : (rnames rs).Nodup
theorem ROk.mono {w : W} {n m : Nat} {rs : Rows} (h : ROk w n rs) (hm : n ≤ m) : ROk w m rs := ⟨h.nm, fun r hr => (h.pl r hr).mono hm, h.len, h.nd⟩
theorem ROk.nms {w : W} {n : Nat} {rs : Rows} (h : ROk w n rs) : ∀ x ∈ rnames rs, x ∈ w.names := fun x hx => by
  obtain ⟨r, hr, rfl⟩ := List.mem_map.mp hx
  exact h.nm r hr
theorem whole_pos {w : W} (h : w.Ok) (lot : List Str) : 0 < whole w lot := by have := h.rh0; unfold whole; omega
theorem whole_le {w : W} (h : w.Ok) {lot : List Str} (hl : lot.length ≤ 6) : whole w lot < 2 ^ 9 := by
  have := h.rh; have := weight_le h lot
  unfold whole
  simp; omega
def pull (w : W) (rs : Rows) : Rat := drive w rs / (whole w (rnames rs) : Nat)
theorem one_by (q : Rat) (b : Nat) : q * ((1 : Int) : Rat) / (b : Rat) = q / (b : Rat) := by
  rw [show ((1 : Int) : Rat) = 1 from rfl, Rat.mul_one]
theorem B_over {n : Nat} {q : Rat} {b : Nat} (hq : B n q) (h0 : 0 < n) (hb : b < 2 ^ 9) : B (n + 9) (q / (b : Nat)) := by
  rw [← one_by, ← by_eq]
  exact B_by (k := 9) hq (by decide) hb (Nat.le_refl _) h0
theorem pull_B {w : W} (h : w.Ok) {n : Nat} (h0 : 0 < n) {rs : Rows} (hr : ROk w n rs) : B ((n + 8) * 6 + 10) (pull w rs) := by
  refine B.mono (B_over (drive_B h h0 rs hr.pl) (by omega) (whole_le h (by simp [rnames, hr.len]))) ?_
  have := Nat.mul_le_mul_left (n + 8) hr.len
  omega
def eSt (g : Rat) (rs : Rows) : Dt := .tup [fr g, rowsD rs]
@[simp] theorem st_zero {S : Ss} {g : Rat} {rs : Rows} : fIx S (.d (eSt g rs)) (.d (.int 0)) = some (.d (fr g)) := rfl
@[simp] theorem st_one {S : Ss} {g : Rat} {rs : Rows} : fIx S (.d (eSt g rs)) (.d (.int 1)) = some (.d (rowsD rs)) := rfl
def names (xs : List Str) : Dt := .tup (xs.map .str)
theorem names_items (xs : List Str) : itemsOf (names xs) = some (xs.map .str) := rfl
theorem e_names {vs : List Nat} {k : Nat} {c : Cd} {en : En} {S : Ss} {d : Dt} {rs : Rows} (hk : vs = [k]) (hl : k < en.length) (h1 : c en S = some (.d d, S)) (h2 : itemsOf d = some (rs.map eRow)) : cComp vs (cIter c) (gNm k) kYes (cBin fIx (cVar k) (cK (.int 0))) en S = some (.d (.lst ((rnames rs).map .str)), S) := by
  subst hk
  have hc := compN_map (vs := [k]) (g := gNm k) (c := cBin fIx (cVar k) (cK (.int 0))) (en := en) (S := S) eRow (fun r => .str r.1) rs (fun r _ => ⟨_, rfl, by
    simp [cBin, cVar, cK, wipeE, hl]
    rfl⟩)
  have := e_comp (e_iter h1 h2) hc
  rw [this]
  simp [rnames, Function.comp_def]
theorem sp_aboard_of (S : Ss) (g : Rat) (rs : Rows) : f_aboard_of [.d (eSt g rs)] S = some (.d (names (rnames rs)), S) := by
  refine run_ret (en := [some (.d (eSt g rs)), none]) (S' := S) ?_ (List.take_length)
  have := e_names (vs := [1]) (k := 1) (en := [some (.d (eSt g rs)), none]) (S := S) (c := cBin fIx (cVar 0) (cK (.int 1))) rfl (by simp) (by simp [cBin, cVar, cK]) (rowsD_items rs)
  show sCons _ _ _ S = _
  simp [c_aboard_of, sCons, sRet, cApp, cCons, cNil]
  rw [this]
  simp [fTup, names]
theorem l_aboard_eq : f_l_aboard = f_aboard_of := rfl
theorem sp_whole_of (S : Ss) (w : W) (h : w.Ok) (d : Dt) (lot : List Str) (hd : itemsOf d = some (lot.map .str)) (hn : ∀ n ∈ lot, n ∈ w.names) : f_whole_of [.d (eW w), .d d] S = some (.d (.int (whole w lot : Int)), S) := by
  refine run_ret (en := [some (.d (eW w)), some (.d d)]) (S' := S) ?_ (List.take_length)
  have e : fIx S (.d (.tup [.int (w.lg : Int), .int (w.rh : Int)])) (.d (.int 1)) = some (.d (.int (w.rh : Int))) := rfl
  show sCons _ _ _ S = _
  simp [c_whole_of, sCons, sRet, cCall, cCons, cNil, cBin, cVar, cK, w_zero, e, sp_weight_of S w h d lot hd hn, whole]
theorem sp_drive (S : Ss) {w : W} (h : w.Ok) {d : Dt} {rs : Rows} {n : Nat} (hr : ROk w n rs) (h0 : 0 < n) (hn : n ≤ 500) (hd : itemsOf d = some (rs.map eRow)) : f_drive_of [.d (eW w), .d d] S = some (.d (fr (drive w rs)), S) := by
  refine sp_drive_of S w h d rs hd hr.nm h0 hr.pl ?_
  have := hr.len
  have := Nat.mul_le_mul (show n + 8 ≤ 508 by omega) (show rs.length + 1 ≤ 7 by omega)
  omega
theorem drive_b {w : W} (h : w.Ok) {rs : Rows} {n : Nat} (hr : ROk w n rs) (h0 : 0 < n) : B ((n + 8) * 6 + 1) (drive w rs) := (drive_B h h0 rs hr.pl).mono (by have := Nat.mul_le_mul_left (n + 8) hr.len; omega)
theorem lt4 {b n : Nat} (h : b < 2 ^ n) (hn : n ≤ 4000) : b < 2 ^ 4000 := Nat.lt_of_lt_of_le h (Nat.pow_le_pow_right (by decide) hn)
theorem sp_pull (S : Ss) {w : W} (h : w.Ok) {rs : Rows} {n : Nat} (hr : ROk w n rs) (h0 : 0 < n) (hn : n ≤ 500) : f_times [.d (fr (drive w rs)), .d (.int 1), .d (.int (whole w (rnames rs) : Int))] S = some (.d (fr (pull w rs)), S) := by
  have hb := whole_le h (lot := rnames rs) (by simp [rnames, hr.len])
  have := sp_times S (q := drive w rs) (a := 1) (b := whole w (rnames rs)) ((drive_b h hr h0).mono (by omega)) (lt4 (n := 1) (by decide) (by decide)) (lt4 hb (by decide)) (whole_pos h _)
  rw [one_by] at this
  exact this
def front (w : W) (g : Rat) (rs : Rows) : Rat := g + pull w rs
theorem sp_front_of (S : Ss) {w : W} (h : w.Ok) {g : Rat} {rs : Rows} {n : Nat} (hg : B 3900 g) (hr : ROk w n rs) (h0 : 0 < n) (hn : n ≤ 500) : f_front_of [.d (eW w), .d (eSt g rs)] S = some (.d (fr (front w g rs)), S) := by
  refine run_ret (en := [some (.d (eW w)), some (.d (eSt g rs))]) (S' := S) ?_ (List.take_length)
  show sCons _ _ _ S = _
  simp [c_front_of, sCons, sRet, cCall, cCons, cNil, cBin, cVar, cK, sp_drive S h hr h0 hn (rowsD_items rs), sp_aboard_of, sp_whole_of S w h _ _ (names_items _) hr.nms, sp_pull S h hr h0 hn,
    sp_plus S (hg.mono (by decide)) ((pull_B h h0 hr).mono (m := 4000) (by omega)), front]
def behind (w : W) (F : Rat) (rs : Rows) : Rat := F - pull w rs
theorem sp_gap_by (S : Ss) {w : W} (h : w.Ok) {F : Rat} {d : Dt} {rs : Rows} {n : Nat} (hd : itemsOf d = some (rs.map eRow)) (hg : B 4000 F) (hr : ROk w n rs) (h0 : 0 < n) (hn : n ≤ 500) : f_gap_by [.d (eW w), .d (fr F), .d d] S = some (.d (fr (behind w F rs)), S) := by
  refine run_ret (en := [some (.d (eW w)), some (.d (fr F)), some (.d d), some (.d (.int (whole w (rnames rs) : Int))), none]) (S' := S) ?_ (List.take_length)
  have e1 := e_names (vs := [4]) (k := 4) (en := [some (.d (eW w)), some (.d (fr F)), some (.d d), none, none]) (S := S) (c := cVar 2) rfl (by simp) rfl hd
  have e2 := sp_whole_of S w h (.lst ((rnames rs).map .str)) (rnames rs) rfl hr.nms
  show sCons _ _ _ S = _
  simp only [List.map_cons, List.map_nil, List.length_cons, List.length_nil, List.replicate, List.cons_append, List.nil_append]
  simp [c_gap_by, sCons, sSet, sRet, cCall, cCons, cNil, cVar, cK]
  rw [e1]
  simp [e2, sp_drive S h hr h0 hn hd, sp_pull S h hr h0 hn,
    sp_less S hg ((pull_B h h0 hr).mono (m := 4000) (by omega)), behind]
/-- none, if less than nought -/
def nn (q : Rat) : Dt := if q < 0 then .non else fr q
theorem front_B {w : W} (h : w.Ok) {g : Rat} {rs : Rows} {n m : Nat} (hg : B m g) (hr : ROk w n rs) (h0 : 0 < n) : B (m + (n + 8) * 6 + 11) (front w g rs) :=
  (B_add hg (pull_B h h0 hr)).mono (by omega)
theorem behind_B {w : W} (h : w.Ok) {F : Rat} {rs : Rows} {n m : Nat} (hg : B m F) (hr : ROk w n rs) (h0 : 0 < n) : B (m + (n + 8) * 6 + 11) (behind w F rs) :=
  (B_sub hg (pull_B h h0 hr)).mono (by omega)
theorem k_nought : Dt.tup [.int 0, .int 1] = fr 0 := rfl
theorem sp_gap_behind (S : Ss) {w : W} (h : w.Ok) {g : Rat} {d : Dt} {st rs : Rows} {n m : Nat} (hd : itemsOf d = some (rs.map eRow)) (hg : B m g) (hs : ROk w n st) (hr : ROk w n rs) (h0 : 0 < n) (hn : m + (n + 8) * 12 + 22 ≤ 3900) : f_gap_behind [.d (eW w), .d (eSt g st), .d d] S = some (.d (nn (behind w (front w g st) rs)), S) := by
  refine run_ret (en := [some (.d (eW w)), some (.d (eSt g st)), some (.d d), some (.d (fr (behind w (front w g st) rs)))]) (S' := S) ?_ (List.take_length)
  have hF := front_B h hg hs h0
  have hB := behind_B h hF hr h0
  have e1 := sp_front_of S h (hg.mono (m := 3900) (by omega)) hs h0 (by omega)
  have e2 := sp_gap_by S h hd (hF.mono (m := 4000) (by omega)) hr h0 (by omega)
  have e3 := sp_is_lesser S (hB.mono (m := 4000) (by omega)) (B_zero (n := 4000) (by decide))
  show sCons _ _ _ S = _
  simp only [List.map_cons, List.map_nil, List.length_cons, List.length_nil, List.replicate, List.cons_append, List.nil_append]
  simp only [c_gap_behind, k_nought]
  simp [sCons, sSet, sRet, cCall, cCons, cNil, cVar, cK, cIf, cTst, asB, e1, e2, e3, nn, - fr_zero]
  split <;> simp_all
def back (w : W) (lot : List Str) : Rows := lot.map fun n => (n, (w.lg : Rat))
theorem back_names (w : W) (lot : List Str) : rnames (back w lot) = lot := by simp [rnames, back, Function.comp_def]
theorem nat_B {k n : Nat} (h : k < 2 ^ n) (hn : 0 < n) : B n (k : Rat) := ⟨h, Nat.one_lt_two_pow (by omega)⟩
theorem back_ok {w : W} (h : w.Ok) {lot : List Str} (h1 : ∀ n ∈ lot, n ∈ w.names) (h2 : lot.length ≤ 6) (h3 : lot.Nodup) : ROk w 9 (back w lot) := by
  refine ⟨fun r hr => ?_, fun r hr => ?_, by simp [back, h2], by rw [back_names]; exact h3⟩
  · obtain ⟨x, hx, rfl⟩ := List.mem_map.mp hr
    exact h1 x hx
  · obtain ⟨x, hx, rfl⟩ := List.mem_map.mp hr
    exact nat_B (by have := h.lg; simp; omega) (by decide)
theorem tup_rows (rs : Rows) (S : Ss) : fTup true S [.d (.lst (rs.map eRow))] = some (.d (rowsD rs)) := by cases rs <;> rfl
theorem fr_nat (k : Nat) : fr (k : Rat) = .tup [.int (k : Int), .int 1] := rfl
theorem sp_all_back (S : Ss) (w : W) (d : Dt) (lot : List Str) (hd : itemsOf d = some (lot.map .str)) : f_all_back [.d (eW w), .d d] S = some (.d (rowsD (back w lot)), S) := by
  refine run_ret (en := [some (.d (eW w)), some (.d d), none]) (S' := S) ?_ (List.take_length)
  have hc := compN_map (vs := [2]) (g := gNm 2) (c := cTup (cCons (cVar 2) (cCons (cTup (cCons (cBin fIx (cBin fIx (cVar 0) (cK (.int 0))) (cK (.int 0))) (cCons (cK (.int 1)) cNil))) cNil))) (en := [some (.d (eW w)), some (.d d), none]) (S := S)
    Dt.str (fun n => eRow (n, (w.lg : Rat))) lot (fun n _ => ⟨_, rfl, rfl⟩)
  have hcc := e_comp (e_iter (c := cVar 1) rfl hd) hc
  show sCons _ _ _ S = _
  simp only [List.map_cons, List.map_nil, List.length_cons, List.length_nil, List.replicate, List.cons_append, List.nil_append]
  simp [c_all_back, sCons, sRet, cApp, cCons, cNil]
  rw [hcc]
  have : lot.map (fun n => eRow (n, (w.lg : Rat))) = (back w lot).map eRow := by simp [back, Function.comp_def]
  rw [this]
  simp [tup_rows]
def atl (q : Rat) : Rat := if q < 0 then 0 else q
def least (w : W) (lot : List Str) (F : Rat) : Rat := atl (behind w F (back w lot))
theorem sp_least_by (S : Ss) {w : W} (h : w.Ok) {F : Rat} {d : Dt} {lot : List Str} {m : Nat} (hd : itemsOf d = some (lot.map .str)) (h1 : ∀ n ∈ lot, n ∈ w.names) (h2 : lot.length ≤ 6) (h3 : lot.Nodup) (hg : B m F) (hm : m ≤ 3700) : f_least_by [.d (eW w), .d d, .d (fr F)] S = some (.d (fr (least w lot F)), S) := by
  have ho := back_ok h h1 h2 h3
  refine run_ret (en := [some (.d (eW w)), some (.d d), some (.d (fr F)), some (.d (fr (behind w F (back w lot))))]) (S' := S) ?_ (List.take_length)
  have e1 := sp_all_back S w d lot hd
  have e2 := sp_gap_by S h (rowsD_items _) (hg.mono (m := 4000) (by omega)) ho (by decide) (by decide)
  have hB := behind_B h hg ho (by decide)
  have e3 := sp_is_lesser S (hB.mono (m := 4000) (by omega)) (B_zero (n := 4000) (by decide))
  show sCons _ _ _ S = _
  simp only [List.map_cons, List.map_nil, List.length_cons, List.length_nil, List.replicate, List.cons_append, List.nil_append]
  simp only [c_least_by, k_nought]
  simp [sCons, sSet, sRet, cCall, cCons, cNil, cVar, cK, cIf, cTst, asB, e1, e2, e3, least, atl, - fr_zero]
  split <;> simp_all
theorem sp_gaps (S : Ss) {w : W} (h : w.Ok) {g : Rat} {rs : Rows} {n m : Nat} (hg : B m g) (hr : ROk w n rs) (h0 : 0 < n) (hn : m + (n + 8) * 6 + 11 ≤ 3000) : f_gaps [.d (eW w), .d (eSt g rs)] S = some (.d (.tup [fr (least w (rnames rs) (front w g rs)), fr (front w g rs)]), S) := by
  have hF := front_B h hg hr h0
  refine run_ret (en := [some (.d (eW w)), some (.d (eSt g rs)), some (.d (fr (front w g rs)))]) (S' := S) ?_ (List.take_length)
  have e1 := sp_front_of S h (hg.mono (m := 3900) (by omega)) hr h0 (by omega)
  have e2 := sp_least_by S h (names_items (rnames rs)) hr.nms (by simp [rnames, hr.len]) hr.nd hF (by omega)
  show sCons _ _ _ S = _
  simp only [List.map_cons, List.map_nil, List.length_cons, List.length_nil, List.replicate, List.cons_append, List.nil_append]
  simp [c_gaps, sCons, sSet, sRet, cCall, cCons, cNil, cVar, cTup, e1, e2, sp_aboard_of]
end OA
namespace OA
open PySem PySem.Spec PyProof.Rows L2

/-! ### the bag -/
/-- the store: dead things, the bag, what is being made -/
def sb (D : Ss) (p : Nat × Nat) (X : Ss) : Ss := D ++ .lst [.int (p.1 : Int), .int (p.2 : Int)] :: X
def okp (p : Nat × Nat) : Prop := p.2 < 2 ^ 31
theorem sb_len (D : Ss) (p : Nat × Nat) (X : Ss) : (sb D p X).length = D.length + 1 + X.length := by simp [sb]; omega
@[simp] theorem sb_at (D : Ss) (p : Nat × Nat) (X : Ss) : (sb D p X)[D.length]? = some (.lst [.int (p.1 : Int), .int (p.2 : Int)]) := by simp [sb]
theorem sb_set (D : Ss) (p : Nat × Nat) (X : Ss) (a b : Nat) : (sb D p X).set D.length (.lst [.int (a : Int), .int (b : Int)]) = sb D (a, b) X := by simp [sb]
@[simp] theorem sb_get (D : Ss) (p : Nat × Nat) (X : Ss) : get (sb D p X) (.c D.length) = some (.lst [.int (p.1 : Int), .int (p.2 : Int)]) := by simp [get, SO.val]
theorem sb_take (D : Ss) (p q : Nat × Nat) (X Y : Ss) : (sb D q (X ++ Y)).take (sb D p X).length = sb D q X := by
  rw [sb_len]
  have : sb D q (X ++ Y) = sb D q X ++ Y := by simp [sb]
  rw [this, ← sb_len D q X, List.take_left]
theorem run_bag {N : Nat} {c : CdS} {rs : List R} {D X Y : Ss} {p q : Nat × Nat} {x : Dt} {en} (h : c (rs.map some ++ List.replicate (N - rs.length) none) (sb D p X) = some (.ret (.d x), en, sb D q (X ++ Y))) : runF N false c rs (sb D p X) = some (.d x, sb D q X) := by
  unfold runF
  simp [h, finish, sb_take]
theorem run_bag0 {N : Nat} {c : CdS} {rs : List R} {D X : Ss} {p q : Nat × Nat} {x : Dt} {en} (h : c (rs.map some ++ List.replicate (N - rs.length) none) (sb D p X) = some (.ret (.d x), en, sb D q X)) : runF N false c rs (sb D p X) = some (.d x, sb D q X) := run_bag (Y := []) (by rw [h, List.append_nil])
theorem sb_zero (D : Ss) (p : Nat × Nat) (X : Ss) : fIx (sb D p X) (.c D.length) (.d (.int 0)) = some (.d (.int (p.1 : Int))) := by
  unfold fIx; simp [get, SO.val]; rfl
theorem sb_one (D : Ss) (p : Nat × Nat) (X : Ss) : fIx (sb D p X) (.c D.length) (.d (.int 1)) = some (.d (.int (p.2 : Int))) := by
  unfold fIx; simp [get, SO.val]; rfl
theorem fMul_s {S : Ss} {i j : Nat} (h1 : i < 2 ^ 31) (h2 : j < 2 ^ 31) : fMul S (.d (.int (i : Int))) (.d (.int (j : Int))) = some (.d (.int ((i * j : Nat) : Int))) := by
  rw [fMul_ok (a := 31) (b := 31) (by simpa using h1) (by simpa using h2) (by decide) (by decide) (by decide), Int.natCast_mul]
theorem sp_take (D X : Ss) (p : Nat × Nat) (hp : okp p) (m : Nat) (hm : 0 < m) (hz : m < 2 ^ 8999) : ∃ r q, okp q ∧ r < m ∧ f_l_take [.c D.length, .d (.int (m : Int))] (sb D p X) = some (.d (.int (r : Int)), sb D q X) := by
  by_cases h0 : 0 < p.1
  · refine ⟨p.1 % m, (p.1 / m, p.2), hp, Nat.mod_lt _ hm, ?_⟩
    refine run_bag0 (en := [some (.c D.length), some (.d (.int (m : Int))), some (.d (.int ((p.1 % m : Nat) : Int)))]) ?_
    have e1 := fMod_ok (S := sb D p X) (i := (p.1 : Int)) (j := (m : Int)) (by omega)
    have e2 := fDiv_ok (S := sb D p X) (i := (p.1 : Int)) (j := (m : Int)) (by omega) (nb hz)
    have e3 := sb_set D p X (p.1 / m) p.2
    rw [Int.natCast_ediv] at e3
    show sCons _ _ _ _ = _
    simp only [List.map_cons, List.map_nil, List.length_cons, List.length_nil, List.replicate, List.cons_append, List.nil_append]
    simp [c_l_take, sCons, sSet, sRet, sIf, cTst, asB, cCons, cNil, cBin, cVar, cK, sPut, sb_zero, h0, e1, e2]
    simp [ixN, e3]
  · have z : p.1 = 0 := by omega
    obtain ⟨r, hr⟩ : ∃ r, p.2 * 48271 % 2147483647 = r := ⟨_, rfl⟩
    have hr2 : r < 2 ^ 31 := by rw [← hr]; exact Nat.lt_of_lt_of_le (Nat.mod_lt _ (by decide)) (by decide)
    refine ⟨r * r % 2147483629 / 64 % m, (p.1, r), hr2, Nat.mod_lt _ hm, ?_⟩
    refine run_bag0 (en := [some (.c D.length), some (.d (.int (m : Int))), none]) ?_
    have e1 := fMul_s (S := sb D p X) (i := p.2) (j := 48271) hp (by decide)
    have e2 := fMod_ok (S := sb D p X) (i := ((p.2 * 48271 : Nat) : Int)) (j := 2147483647) (by decide)
    have e3 := sb_set D p X p.1 r
    have e4 := fMul_s (S := sb D (p.1, r) X) (i := r) (j := r) hr2 hr2
    have e5 := fMod_ok (S := sb D (p.1, r) X) (i := ((r * r : Nat) : Int)) (j := 2147483629) (by decide)
    have e6 := fDiv_ok (S := sb D (p.1, r) X) (i := ((r * r : Nat) : Int) % 2147483629) (j := 64) (by decide) (Nat.lt_of_lt_of_le (show (64 : Int).natAbs < 2 ^ 7 by decide) (Nat.pow_le_pow_right (by decide) (by decide)))
    have e7 := fMod_ok (S := sb D (p.1, r) X) (i := ((r * r : Nat) : Int) % 2147483629 / 64) (j := (m : Int)) (by omega)
    have e8 : ((p.2 * 48271 : Nat) : Int) % 2147483647 = (r : Int) := by rw [← hr]; rfl
    rw [e8] at e2
    show sCons _ _ _ _ = _
    simp only [List.map_cons, List.map_nil, List.length_cons, List.length_nil, List.replicate, List.cons_append, List.nil_append]
    have e1' : fMul (sb D p X) (.d (.int (p.2 : Int))) (.d (.int 48271)) = some (.d (.int ((p.2 * 48271 : Nat) : Int))) := e1
    generalize ((p.2 * 48271 : Nat) : Int) = u at *
    rw [Int.natCast_mul] at e4 e5 e6 e7
    have e3' : List.set (sb D p X) D.length (SO.lst [Dt.int 0, Dt.int (r : Int)]) = sb D (0, r) X := by
      have := sb_set D p X 0 r
      simpa using this
    rw [z] at e4 e5 e6 e7
    simp [c_l_take, sCons, sSet, sRet, sIf, cTst, asB, cCons, cNil, cBin, cVar, cK, sPut, sb_zero, sb_one, z, e1', e2]
    simp [ixN, e3', sb_one, e4, e5, e6, e7]
end OA
namespace OA
open PySem PySem.Spec PyProof.Rows L2

section
variable {en en1 : En} {S S1 S2 : Ss} {r r2 : R} {c : Cd} {c1 c2 : CdS} {t : CdB} {b : Bool}
theorem e_var {i : Nat} (h : en[i]? = some (some r)) : cVar i en S = some (r, S) := by unfold cVar; simp [h]
theorem e_seq (h : c1 en S = some (.nx, en1, S1)) : sCons c1 c2 en S = c2 en1 S1 := by unfold sCons; simp [h]
theorem e_set {i : Nat} (h : c en S = some (r, S1)) : sSet i c en S = some (.nx, en.set i (some r), S1) := by unfold sSet; simp [h]
theorem e_expr (h : c en S = some (r, S1)) : sExpr c en S = some (.nx, en, S1) := by unfold sExpr; simp [h]
theorem e_ret (h : c en S = some (r, S1)) : sRet c en S = some (.ret r, en, S1) := by unfold sRet; simp [h]
theorem e_rets (h : c en S = some (r, S1)) : sCons (sRet c) c2 en S = some (.ret r, en, S1) := by unfold sCons; simp [e_ret h]
theorem e_tst (h : c en S = some (.d (.bl b), S1)) : cTst c en S = some (b, S1) := by unfold cTst; simp [h, asB]
theorem e_ifT (h : t en S = some (true, S1)) : sIf t c1 c2 en S = c1 en S1 := by unfold sIf; simp [h]
theorem e_ifF (h : t en S = some (false, S1)) : sIf t c1 c2 en S = c2 en S1 := by unfold sIf; simp [h]
theorem e_call {f : Fn} {cl : CdL} {rs : List R} {z} (h : cl en S = some (rs, S1)) (h2 : f rs S1 = z) : cCall f cl en S = z := by unfold cCall; simp [h, h2]
theorem e_app {f : FL} {cl : CdL} {rs : List R} (h : cl en S = some (rs, S1)) (h2 : f S1 rs = some r) : cApp f cl en S = some (r, S1) := by unfold cApp; simp [h, h2]
theorem e_for0 {g : CdG} {b : CdS} : forN g b [] en S = some (.nx, en, S) := rfl
theorem e_for1 {g : CdG} {b : CdS} {d : Dt} {ds : List Dt} {en2 : En} (h1 : g (.d d) en = some en1) (h2 : b en1 S = some (.nx, en2, S1)) : forN g b (d :: ds) en S = forN g b ds en2 S1 := by
  conv => lhs; unfold forN
  simp [h1, h2]
theorem e_sfor {ci : CdI} {g : CdG} {b : CdS} {ds : List Dt} (h : ci en S = some (ds, S1)) : sFor ci g b en S = forN g b ds en S1 := by unfold sFor; simp [h]
end
theorem m8 {m : Nat} (h : m < 2 ^ 64) : m < 2 ^ 8999 := Nat.lt_of_lt_of_le h (Nat.pow_le_pow_right (by decide) (by decide))
theorem atI_nat {α : Type} (xs : List α) (i : Nat) (h : i < xs.length) : atI xs (i : Int) = some xs[i] := by
  unfold atI ixN
  simp [h]
theorem fIx_lst {S : Ss} {xs : List Dt} {i : Nat} (h : i < xs.length) : fIx S (.d (.lst xs)) (.d (.int (i : Int))) = some (.d xs[i]) := by
  unfold fIx
  simp [get, atI_nat xs i h]
theorem fIx_tup {S : Ss} {xs : List Dt} {i : Nat} (h : i < xs.length) : fIx S (.d (.tup xs)) (.d (.int (i : Int))) = some (.d xs[i]) := by
  unfold fIx
  simp [get, atI_nat xs i h]
theorem sp_of (D X : Ss) (p : Nat × Nat) (hp : okp p) (xs : List Dt) (hx : xs ≠ []) (hl : xs.length < 2 ^ 64) : ∃ x q, x ∈ xs ∧ okp q ∧ f_l_of [.c D.length, .d (.lst xs)] (sb D p X) = some (.d x, sb D q X) := by
  obtain ⟨r, q, hq, hr, e⟩ := sp_take D X p hp xs.length (by have := List.length_pos_iff.mpr hx; omega) (m8 hl)
  refine ⟨xs[r], q, List.getElem_mem hr, hq, ?_⟩
  refine run_bag0 (en := [some (.c D.length), some (.d (.lst xs))]) ?_
  show sCons _ _ _ _ = _
  simp only [List.map_cons, List.map_nil, List.length_cons, List.length_nil, List.replicate, List.cons_append, List.nil_append]
  simp [c_l_of, sCons, sRet, cCall, cApp, cCons, cNil, cBin, cVar, fLen, e, fIx_lst hr]
/-- one of some numbers, and what is taken of it -/
theorem e_pick {D X : Ss} {p : Nat × Nat} (hp : okp p) {en : En} {cl : Cd} {ns : List Nat} {b : Nat} {k : Int} (h0 : en[0]? = some (some (.c D.length))) (hcl : ∀ S, cl en S = some (.d (.lst (ns.map fun n : Nat => Dt.int (n : Int))), S))
    (hk : k = (ns.length : Int)) (hn : ∀ n ∈ ns, 0 < n ∧ n ≤ b) (hl : 0 < ns.length) (hk2 : ns.length < 2 ^ 64) (hb : b < 2 ^ 64) : ∃ r q, okp q ∧ r < b ∧
    cCall f_l_take (cCons (cVar 0) (cCons (cBin fIx cl (cCall f_l_take (cCons (cVar 0) (cCons (cK (.int k)) cNil)))) cNil)) en (sb D p X) = some (.d (.int (r : Int)), sb D q X) := by
  subst hk
  obtain ⟨r, q, hq, hr, e⟩ := sp_take D X p hp ns.length hl (m8 hk2)
  have hr' : r < (ns.map fun n : Nat => Dt.int (n : Int)).length := by simpa using hr
  obtain ⟨h1, h2⟩ := hn _ (List.getElem_mem hr)
  obtain ⟨r2, q2, hq2, hr2, e2⟩ := sp_take D X q hq ns[r] h1 (m8 (by omega))
  refine ⟨r2, q2, hq2, by omega, ?_⟩
  have e3 := fIx_lst (S := sb D q X) hr'
  rw [List.getElem_map] at e3
  have ev : ∀ S, cVar 0 en S = some (.c D.length, S) := fun S => by simp [cVar, h0]
  simp [cCall, cCons, cNil, cBin, ev, hcl, e, e3, e2]

theorem sb_getX (D X : Ss) (p : Nat × Nat) (i : Nat) : (sb D p X)[D.length + 1 + i]? = X[i]? := by
  unfold sb
  rw [List.getElem?_append_right (by omega)]
  rw [show D.length + 1 + i - D.length = i + 1 by omega, List.getElem?_cons_succ]
theorem sb_setX (D X : Ss) (p : Nat × Nat) (i : Nat) (o : SO) : (sb D p X).set (D.length + 1 + i) o = sb D p (X.set i o) := by
  unfold sb
  rw [List.set_append_right _ _ (by omega)]
  rw [show D.length + 1 + i - D.length = i + 1 by omega, List.set_cons_succ]
theorem sb_push (D X : Ss) (p : Nat × Nat) (o : SO) : sb D p X ++ [o] = sb D p (X ++ [o]) := by simp [sb]
theorem sb_last (D X : Ss) (p : Nat × Nat) (o : SO) : (sb D p (X ++ [o]))[D.length + 1 + X.length]? = some o := by rw [sb_getX]; simp
theorem sb_lastS (D X : Ss) (p : Nat × Nat) (o o' : SO) : (sb D p (X ++ [o])).set (D.length + 1 + X.length) o' = sb D p (X ++ [o']) := by rw [sb_setX]; simp
/-- a.append(e), e taking of the bag -/
theorem e_append {D X : Ss} {p q : Nat × Nat} {en : En} {co c : Cd} {ds : List Dt} {x : Dt} (h1 : co en (sb D p (X ++ [.lst ds])) = some (.c (D.length + 1 + X.length), sb D p (X ++ [.lst ds]))) (h2 : c en (sb D p (X ++ [.lst ds])) = some (.d x, sb D q (X ++ [.lst ds]))) (hl : ds.length < 1000) :
    cAppend co c en (sb D p (X ++ [.lst ds])) = some (.d .non, sb D q (X ++ [.lst (ds ++ [x])])) := by
  unfold cAppend
  simp [h1, sb_last, h2, hl, sb_lastS]

/-! ### worlds, as the laws make them -/
def okOne (o : One) : Prop := (1 ≤ o.hv ∧ o.hv ≤ 60) ∧ (1 ≤ o.rc ∧ o.rc ≤ 30) ∧ o.ar ≤ 60
def c_folk : CdS := sCons (sSet 8 (cIf (cTst (cVar 5)) (cVar 4) (cBin fAdd (cK (.int 1)) (cCall f_l_take (cCons (cVar 0) (cCons (cBin fIx (cLst (cCons (cK (.int 6)) (cCons (cK (.int 30)) cNil))) (cCall f_l_take (cCons (cVar 0) (cCons (cK (.int 2)) cNil)))) cNil)))))) (sCons (sSet 9 (cBin fAdd (cK (.int 1)) (cCall f_l_take (cCons (cVar 0) (cCons (cBin fIx (cLst (cCons (cK (.int 6)) (cCons (cK (.int 60)) cNil))) (cCall f_l_take (cCons (cVar 0) (cCons (cK (.int 2)) cNil)))) cNil))))) (sCons (sExpr (cAppend (cVar 6) (cTup (cCons (cVar 7) (cCons (cVar 9) (cCons (cVar 8) (cCons (cCall f_l_take (cCons (cVar 0) (cCons (cBin fIx (cLst (cCons (cK (.int 1)) (cCons (cK (.int 20)) (cCons (cK (.int 61)) cNil)))) (cCall f_l_take (cCons (cVar 0) (cCons (cK (.int 3)) cNil)))) cNil))) cNil))))))) sNil))
def c_loads : CdS := sCons (sExpr (cAppend (cVar 10) (cTup (cCons (cVar 7) (cCons (cBin fAdd (cK (.int 1)) (cCall f_l_take (cCons (cVar 0) (cCons (cBin fIx (cLst (cCons (cK (.int 6)) (cCons (cK (.int 60)) cNil))) (cCall f_l_take (cCons (cVar 0) (cCons (cK (.int 2)) cNil)))) cNil)))) cNil))))) sNil
theorem folk_loop (D X : Ss) (a b r : R) (reach : Nat) (hreach : 1 ≤ reach ∧ reach ≤ 30) (alike : Bool) (z : Option R) : ∀ (ns : List Str) (done : List One) (p : Nat × Nat) (u v w : Option R), okp p → done.length + ns.length ≤ 4 →
    ∃ os q u' v' w', okp q ∧ os.map One.nm = ns ∧ (∀ o ∈ os, okOne o) ∧
    forN (gNm 7) c_folk (ns.map .str) [some (.c D.length), some a, some b, some r, some (.d (.int (reach : Int))), some (.d (.bl alike)), some (.c (D.length + 1 + X.length)), u, v, w, z] (sb D p (X ++ [.lst (done.map eOne)]))
      = some (.nx, [some (.c D.length), some a, some b, some r, some (.d (.int (reach : Int))), some (.d (.bl alike)), some (.c (D.length + 1 + X.length)), u', v', w', z], sb D q (X ++ [.lst ((done ++ os).map eOne)]))
  | [], done, p, u, v, w, hp, _ => ⟨[], p, u, v, w, hp, rfl, by simp, by simp [forN]⟩
  | n :: ns, done, p, u, v, w, hp, hl => by
    -- what is his own
    have own : ∃ q rc, okp q ∧ 1 ≤ rc ∧ rc ≤ 30 ∧ cIf (cTst (cVar 5)) (cVar 4) (cBin fAdd (cK (.int 1)) (cCall f_l_take (cCons (cVar 0) (cCons (cBin fIx (cLst (cCons (cK (.int 6)) (cCons (cK (.int 30)) cNil))) (cCall f_l_take (cCons (cVar 0) (cCons (cK (.int 2)) cNil)))) cNil))))
        [some (.c D.length), some a, some b, some r, some (.d (.int (reach : Int))), some (.d (.bl alike)), some (.c (D.length + 1 + X.length)), some (.d (.str n)), v, w, z] (sb D p (X ++ [.lst (done.map eOne)])) = some (.d (.int ((rc : Nat) : Int)), sb D q (X ++ [.lst (done.map eOne)])) := by
      cases alike with
      | true => exact ⟨p, reach, hp, hreach.1, hreach.2, rfl⟩
      | false =>
        obtain ⟨k, q, hq, hk, e⟩ := e_pick (D := D) (X := X ++ [.lst (done.map eOne)]) hp (en := [some (.c D.length), some a, some b, some r, some (.d (.int (reach : Int))), some (.d (.bl false)), some (.c (D.length + 1 + X.length)), some (.d (.str n)), v, w, z]) (cl := cLst (cCons (cK (.int 6)) (cCons (cK (.int 30)) cNil))) (ns := [6, 30]) (b := 30) (k := 2) rfl (fun S => rfl) rfl (by decide) (by decide) (by decide) (by decide)
        refine ⟨q, 1 + k, hq, by omega, by omega, ?_⟩
        have e' := e_bin (f := fAdd) (e_K (.int 1)) e fAdd_int
        unfold cIf
        simp [cTst, asB, cVar]
        rw [e']
    obtain ⟨q1, rc, hq1, h1, h2, e1⟩ := own
    obtain ⟨k2, q2, hq2, hk2, e2⟩ := e_pick (D := D) (X := X ++ [.lst (done.map eOne)]) hq1 (en := [some (.c D.length), some a, some b, some r, some (.d (.int (reach : Int))), some (.d (.bl alike)), some (.c (D.length + 1 + X.length)), some (.d (.str n)), some (.d (.int (rc : Int))), w, z]) (cl := cLst (cCons (cK (.int 6)) (cCons (cK (.int 60)) cNil))) (ns := [6, 60]) (b := 60) (k := 2) rfl (fun S => rfl) rfl (by decide) (by decide) (by decide) (by decide)
    obtain ⟨k3, q3, hq3, hk3, e3⟩ := e_pick (D := D) (X := X ++ [.lst (done.map eOne)]) hq2 (en := [some (.c D.length), some a, some b, some r, some (.d (.int (reach : Int))), some (.d (.bl alike)), some (.c (D.length + 1 + X.length)), some (.d (.str n)), some (.d (.int (rc : Int))), some (.d (.int (1 + (k2 : Int)))), z]) (cl := cLst (cCons (cK (.int 1)) (cCons (cK (.int 20)) (cCons (cK (.int 61)) cNil)))) (ns := [1, 20, 61]) (b := 61) (k := 3) rfl (fun S => rfl) rfl (by decide) (by decide) (by decide) (by decide)
    have e4 := e_append (X := X) (D := D) (p := q2) (q := q3) (ds := done.map eOne) (en := [some (.c D.length), some a, some b, some r, some (.d (.int (reach : Int))), some (.d (.bl alike)), some (.c (D.length + 1 + X.length)), some (.d (.str n)), some (.d (.int (rc : Int))), some (.d (.int (1 + (k2 : Int)))), z])
      (co := cVar 6) (c := cTup (cCons (cVar 7) (cCons (cVar 9) (cCons (cVar 8) (cCons (cCall f_l_take (cCons (cVar 0) (cCons (cBin fIx (cLst (cCons (cK (.int 1)) (cCons (cK (.int 20)) (cCons (cK (.int 61)) cNil)))) (cCall f_l_take (cCons (cVar 0) (cCons (cK (.int 3)) cNil)))) cNil))) cNil))))) (x := eOne ⟨n, 1 + k2, rc, k3⟩)
      (by simp) (by
        refine e_tup (e_cons (e_var rfl) (e_cons (e_var rfl) (e_cons (e_var rfl) (e_cons e3 e_nil)))) rfl (by simp)) (by simp at hl ⊢; omega)
    obtain ⟨os, q, u', v', w', hq, h3, h4, e5⟩ := folk_loop D X a b r reach hreach alike z ns (done ++ [⟨n, 1 + k2, rc, k3⟩]) q3 (some (.d (.str n))) (some (.d (.int (rc : Int)))) (some (.d (.int (1 + (k2 : Int))))) hq3 (by simp at hl ⊢; omega)
    refine ⟨⟨n, 1 + k2, rc, k3⟩ :: os, q, u', v', w', hq, by simp [h3], ?_, ?_⟩
    · intro o ho
      rcases List.mem_cons.mp ho with rfl | ho
      · exact ⟨⟨by show 1 ≤ 1 + k2; omega, by show 1 + k2 ≤ 60; omega⟩, ⟨h1, h2⟩, by show k3 ≤ 60; omega⟩
      · exact h4 o ho
    · rw [List.append_assoc] at e5
      rw [List.singleton_append] at e5
      rw [← e5, List.map_cons]
      refine e_for1 rfl ?_
      unfold c_folk
      refine (e_seq (e_set e1)).trans ?_
      refine (e_seq (e_set (e_bin (e_K (.int 1)) e2 fAdd_int))).trans ?_
      refine (e_seq (e_expr e4)).trans ?_
      simp
end OA
namespace OA
open PySem PySem.Spec PyProof.Rows L2

theorem e_seqR {en en1 : En} {S S1 : Ss} {c1 c2 : CdS} {z} (h : c1 en S = some (.nx, en1, S1)) (h2 : c2 en1 S1 = z) : sCons c1 c2 en S = z := (e_seq h).trans h2
theorem e_iterS {c : Cd} {en : En} {S S1 : Ss} {x : Dt} {ds : List Dt} (h1 : c en S = some (.d x, S1)) (h2 : itemsOf x = some ds) : cIter c en S = some (ds, S1) := by
  unfold cIter; simp [h1, h2]
theorem e_fz {en : En} {S : Ss} {i k : Nat} {c : CdS} {ds : List Dt} {z} (h : en[i]? = some (some (.c k))) (h2 : S[k]? = some (.lst ds)) (h3 : c (en.set i (some (.d (.lst ds)))) (S.set k .gone) = z) : sFz i c en S = z := by
  unfold sFz
  simp [h, h2, SO.val, h3]
theorem e_retC {en en1 : En} {S S1 : Ss} {c1 c2 : CdS} {r : R} (h : c1 en S = some (.ret r, en1, S1)) : sCons c1 c2 en S = some (.ret r, en1, S1) := by unfold sCons; simp [h]
theorem fEq_int {S : Ss} {i j : Int} : fEq S (.d (.int i)) (.d (.int j)) = some (.d (.bl (decide (i = j)))) := by
  have e : PyData.eqv (.int i) (.int j) = decide (i = j) := by
    simp [PyData.eqv]
    rfl
  unfold fEq
  simp only [g_d, Dt.py, e]
  rfl
theorem items_take {xs : List Str} {n : Nat} : itemsOf (.lst ((xs.map Dt.str).take n)) = some ((xs.take n).map Dt.str) := by
  rw [← List.map_take]; rfl
theorem loads_loop (D X : Ss) (a1 a2 a3 a4 a5 a6 : Option R) : ∀ (ns : List Str) (done : List (Str × Nat)) (p : Nat × Nat) (u v w : Option R), okp p → done.length + ns.length ≤ 4 →
    ∃ os q u' v' w', okp q ∧ os.map Prod.fst = ns ∧ (∀ o ∈ os, 1 ≤ o.2 ∧ o.2 ≤ 60) ∧
    forN (gNm 7) c_loads (ns.map .str) [some (.c D.length), a1, a2, a3, a4, a5, a6, u, v, w, some (.c (D.length + 1 + X.length))] (sb D p (X ++ [.lst (done.map eLoad)]))
      = some (.nx, [some (.c D.length), a1, a2, a3, a4, a5, a6, u', v', w', some (.c (D.length + 1 + X.length))], sb D q (X ++ [.lst ((done ++ os).map eLoad)]))
  | [], done, p, u, v, w, hp, _ => ⟨[], p, u, v, w, hp, rfl, by simp, by simp [forN]⟩
  | n :: ns, done, p, u, v, w, hp, hl => by
    obtain ⟨k2, q2, hq2, hk2, e2⟩ := e_pick (D := D) (X := X ++ [.lst (done.map eLoad)]) hp (en := [some (.c D.length), a1, a2, a3, a4, a5, a6, some (.d (.str n)), v, w, some (.c (D.length + 1 + X.length))]) (cl := cLst (cCons (cK (.int 6)) (cCons (cK (.int 60)) cNil))) (ns := [6, 60]) (b := 60) (k := 2) rfl (fun S => rfl) rfl (by decide) (by decide) (by decide) (by decide)
    have e4 := e_append (X := X) (D := D) (p := p) (q := q2) (ds := done.map eLoad) (en := [some (.c D.length), a1, a2, a3, a4, a5, a6, some (.d (.str n)), v, w, some (.c (D.length + 1 + X.length))])
      (co := cVar 10) (c := cTup (cCons (cVar 7) (cCons (cBin fAdd (cK (.int 1)) (cCall f_l_take (cCons (cVar 0) (cCons (cBin fIx (cLst (cCons (cK (.int 6)) (cCons (cK (.int 60)) cNil))) (cCall f_l_take (cCons (cVar 0) (cCons (cK (.int 2)) cNil)))) cNil)))) cNil))) (x := eLoad (n, 1 + k2))
      (e_var rfl) (by
        refine e_tup (e_cons (e_var rfl) (e_cons (e_bin (e_K (.int 1)) e2 fAdd_int) e_nil)) (by simp [eLoad]) (by simp)) (by simp at hl ⊢; omega)
    obtain ⟨os, q, u', v', w', hq, h3, h4, e5⟩ := loads_loop D X a1 a2 a3 a4 a5 a6 ns (done ++ [(n, 1 + k2)]) q2 (some (.d (.str n))) v w hq2 (by simp at hl ⊢; omega)
    refine ⟨(n, 1 + k2) :: os, q, u', v', w', hq, by simp [h3], ?_, ?_⟩
    · intro o ho
      rcases List.mem_cons.mp ho with rfl | ho
      · exact ⟨by show 1 ≤ 1 + k2; omega, by show 1 + k2 ≤ 60; omega⟩
      · exact h4 o ho
    · rw [List.append_assoc] at e5
      rw [List.singleton_append] at e5
      rw [← e5, List.map_cons]
      refine e_for1 rfl ?_
      unfold c_loads
      refine (e_seq (e_expr e4)).trans ?_
      simp
theorem cut_head (ds : List Dt) (n : Nat) (h : n ≤ ds.length) : cut ds none (some (n : Int)) = ds.take n := by
  unfold cut
  rw [HT.sIx_nat, HT.sIx_none, Nat.min_eq_left h]
  simp
theorem e_slHead {en : En} {S S1 S2 : Ss} {c c2 : Cd} {ds : List Dt} {n : Nat} (h1 : c en S = some (.d (.lst ds), S1)) (h2 : c2 en S1 = some (.d (.int (n : Int)), S2)) (h : n ≤ ds.length) : cSl c noPart (part c2) en S = some (.d (.lst (ds.take n)), S2) := by
  unfold cSl noPart part
  simp [h1, h2, slV, cut_head ds n h]
abbrev four : List Str := ["ann", "bo", "cy", "dee"]
abbrev two : List Str := ["bale", "xbox"]
theorem six_nd : (four ++ two).Nodup := by decide +kernel
structure Made (w : W) : Prop where
  ok : w.Ok
  f : ∃ n, 1 ≤ n ∧ n ≤ 4 ∧ w.folk.map One.nm = four.take n
  l : ∃ n, n ≤ 2 ∧ w.loads.map Prod.fst = two.take n
theorem sp_world (D X : Ss) (p : Nat × Nat) (hp : okp p) (mo ml : Nat) (h1 : 1 ≤ mo) (h2 : mo ≤ 4) (h3 : ml ≤ 2) : ∃ w q, okp q ∧ Made w ∧ f_l_world [.c D.length, .d (.int (mo : Int)), .d (.int (ml : Int))] (sb D p X) = some (.d (eW w), sb D q X) := by
  -- the raft
  obtain ⟨r1, q1, hq1, hr1, e1⟩ := e_pick (D := D) (X := X) hp (en := [some (.c D.length), some (.d (.int (mo : Int))), some (.d (.int (ml : Int))), none, none, none, none, none, none, none, none]) (cl := cLst (cCons (cK (.int 12)) (cCons (cK (.int 60)) (cCons (cK (.int 200)) cNil)))) (ns := [12, 60, 200]) (b := 200) (k := 3) rfl (fun S => rfl) rfl (by decide) (by decide) (by decide) (by decide)
  obtain ⟨r2, q2, hq2, hr2, e2⟩ := e_pick (D := D) (X := X) hq1 (en := [some (.c D.length), some (.d (.int (mo : Int))), some (.d (.int (ml : Int))), none, none, none, none, none, none, none, none]) (cl := cLst (cCons (cK (.int 20)) (cCons (cK (.int 100)) cNil))) (ns := [20, 100]) (b := 100) (k := 2) rfl (fun S => rfl) rfl (by decide) (by decide) (by decide) (by decide)
  -- the reach
  obtain ⟨r3, q3, hq3, hr3, e3⟩ := e_pick (D := D) (X := X) hq2 (en := [some (.c D.length), some (.d (.int (mo : Int))), some (.d (.int (ml : Int))), some (.d (.tup [.int (1 + (r1 : Int)), .int (1 + (r2 : Int))])), none, none, none, none, none, none, none]) (cl := cLst (cCons (cK (.int 4)) (cCons (cK (.int 30)) cNil))) (ns := [4, 30]) (b := 30) (k := 2) rfl (fun S => rfl) rfl (by decide) (by decide) (by decide) (by decide)
  obtain ⟨r4, q4, hq4, hr4, e4⟩ := sp_take D X q3 hq3 2 (by decide) (m8 (by decide))
  obtain ⟨r5, q5, hq5, hr5, e5⟩ := sp_take D (X ++ [.lst []]) q4 hq4 mo (by omega) (m8 (by omega))
  obtain ⟨os, q6, u6, v6, w6, hq6, f1, f2, e6⟩ := folk_loop D X (.d (.int (mo : Int))) (.d (.int (ml : Int))) (.d (.tup [.int (1 + (r1 : Int)), .int (1 + (r2 : Int))])) (1 + r3) ⟨by omega, by omega⟩ (decide ((r4 : Int) = 0)) none (four.take (1 + r5)) [] q5 none none none hq5 (by simp; omega)
  obtain ⟨r7, q7, hq7, hr7, e7⟩ := sp_take D (X ++ [.lst (os.map eOne), .lst []]) q6 hq6 (ml + 1) (by omega) (m8 (by omega))
  obtain ⟨ls, q8, u8, v8, w8, hq8, g1, g2, e8⟩ := loads_loop D (X ++ [.lst (os.map eOne)]) (some (.d (.int (mo : Int)))) (some (.d (.int (ml : Int)))) (some (.d (.tup [.int (1 + (r1 : Int)), .int (1 + (r2 : Int))]))) (some (.d (.int ((1 + r3 : Nat) : Int)))) (some (.d (.bl (decide ((r4 : Int) = 0))))) (some (.c (D.length + 1 + X.length))) (two.take r7) [] q7 u6 v6 w6 hq7 (by simp; omega)
  have hos : os.length ≤ 4 := by
    have := congrArg List.length f1
    simp at this; omega
  have hls : ls.length ≤ 2 := by
    have := congrArg List.length g1
    simp at this; omega
  refine ⟨⟨1 + r1, 1 + r2, os, ls⟩, q8, hq8, ⟨⟨?_, ?_, ?_, ?_, ?_, ?_, hos, hls, ?_⟩, ⟨1 + r5, by omega, by omega, f1⟩, ⟨r7, by omega, g1⟩⟩, ?_⟩
  · show 1 + r1 ≤ 400; omega
  · show 1 ≤ 1 + r2; omega
  · show 1 + r2 ≤ 100; omega
  · intro x hx
    rcases List.mem_append.mp hx with hx | hx
    · obtain ⟨o, ho, rfl⟩ := List.mem_map.mp hx
      exact (f2 o ho).1
    · exact g2 x hx
  · exact fun o ho => (f2 o ho).2.1
  · exact fun o ho => (f2 o ho).2.2
  · have e : (W.mk (1 + r1) (1 + r2) os ls).names = four.take (1 + r5) ++ two.take r7 := by
      unfold W.names W.all
      rw [← f1, ← g1]
      simp [Function.comp_def]
    rw [e]
    exact List.Sublist.nodup (List.Sublist.append (List.take_sublist _ _) (List.take_sublist _ _)) six_nd
  · refine run_bag (Y := [.gone, .gone]) (en := [some (.c D.length), some (.d (.int (mo : Int))), some (.d (.int (ml : Int))), some (.d (.tup [.int (1 + (r1 : Int)), .int (1 + (r2 : Int))])), some (.d (.int ((1 + r3 : Nat) : Int))), some (.d (.bl (decide ((r4 : Int) = 0)))), some (.d (.lst (os.map eOne))), u8, v8, w8, some (.d (.lst (ls.map eLoad)))]) ?_
    show sCons _ _ _ _ = _
    simp only [List.map_cons, List.map_nil, List.length_cons, List.length_nil, List.replicate, List.cons_append, List.nil_append]
    refine (e_seq (e_set (e_tup (e_cons (e_bin (e_K (.int 1)) e1 fAdd_int) (e_cons (e_bin (e_K (.int 1)) e2 fAdd_int) e_nil)) rfl (by simp)))).trans ?_
    refine (e_seq (e_set (e_bin (e_K (.int 1)) e3 fAdd_int))).trans ?_
    refine (e_seq (e_set (e_bin (e_call (e_cons (e_var rfl) (e_cons (e_K _) e_nil)) e4) (e_K (.int 0)) fEq_int))).trans ?_
    refine (e_seq (e_set (show cNewL cNil _ (sb D q4 X) = some (.c (D.length + 1 + X.length), sb D q4 (X ++ [.lst []])) from by
      unfold cNewL
      simp [sb_len, sb_push]))).trans ?_
    refine e_seqR (Eq.trans (e_sfor (e_iterS (e_slHead (n := 1 + r5) (ds := four.map .str) rfl (e_bin (f := fAdd) (e_K (.int 1)) (e_call (e_cons (e_var (i := 0) rfl) (e_cons (e_var (i := 1) rfl) e_nil)) e5) rfl) (by simp; omega)) items_take)) e6) ?_
    refine (e_seq (e_set (show cNewL cNil _ (sb D q6 (X ++ [SO.lst (os.map eOne)])) = some (.c (D.length + 1 + (X ++ [SO.lst (os.map eOne)]).length), sb D q6 (X ++ [SO.lst (os.map eOne), .lst []])) from by
      unfold cNewL
      simp [sb_len, sb_push]))).trans ?_
    have e8' := e8
    rw [List.append_assoc, List.append_assoc, List.nil_append] at e8'
    refine e_seqR (Eq.trans (e_sfor (e_iterS (e_slHead (n := r7) (ds := two.map .str) rfl (e_call (e_cons (e_var (i := 0) rfl) (e_cons (e_bin (f := fAdd) (e_var (i := 2) rfl) (e_K (.int 1)) rfl) e_nil)) e7) (by simp; omega)) items_take)) e8') ?_
    have g2a : (sb D q8 (X ++ ([SO.lst (os.map eOne)] ++ [SO.lst (ls.map eLoad)])))[D.length + 1 + (X ++ [SO.lst (os.map eOne)]).length]? = some (.lst (ls.map eLoad)) := by
      rw [sb_getX]; simp
    have g2b : (sb D q8 (X ++ ([SO.lst (os.map eOne)] ++ [SO.lst (ls.map eLoad)]))).set (D.length + 1 + (X ++ [SO.lst (os.map eOne)]).length) .gone = sb D q8 (X ++ [SO.lst (os.map eOne), .gone]) := by
      rw [sb_setX]; simp
    have g1a : (sb D q8 (X ++ [SO.lst (os.map eOne), .gone]))[D.length + 1 + X.length]? = some (.lst (os.map eOne)) := by
      rw [sb_getX]; simp
    have g1b : (sb D q8 (X ++ [SO.lst (os.map eOne), .gone])).set (D.length + 1 + X.length) .gone = sb D q8 (X ++ [SO.gone, .gone]) := by
      rw [sb_setX]; simp
    have fin : ∀ {u8 v8 w8 : Option R} {S : Ss}, (sRet (cTup (cCons (cVar 3) (cCons (cApp (fTup false) (cCons (cVar 6) cNil)) (cCons (cApp (fTup false) (cCons (cVar 10) cNil)) cNil)))))
        [some (.c D.length), some (.d (.int (mo : Int))), some (.d (.int (ml : Int))), some (.d (.tup [.int (1 + (r1 : Int)), .int (1 + (r2 : Int))])), some (.d (.int ((1 + r3 : Nat) : Int))), some (.d (.bl (decide ((r4 : Int) = 0)))), some (.d (.lst (os.map eOne))), u8, v8, w8, some (.d (.lst (ls.map eLoad)))] S = some (.ret (.d (eW ⟨1 + r1, 1 + r2, os, ls⟩)), [some (.c D.length), some (.d (.int (mo : Int))), some (.d (.int (ml : Int))), some (.d (.tup [.int (1 + (r1 : Int)), .int (1 + (r2 : Int))])), some (.d (.int ((1 + r3 : Nat) : Int))), some (.d (.bl (decide ((r4 : Int) = 0)))), some (.d (.lst (os.map eOne))), u8, v8, w8, some (.d (.lst (ls.map eLoad)))], S) := by
      intro u8 v8 w8 S
      refine e_ret (e_tup (ds := [.tup [.int ((1 + r1 : Nat) : Int), .int ((1 + r2 : Nat) : Int)], .tup (os.map eOne), .tup (ls.map eLoad)]) (e_cons (e_var rfl) (e_cons (e_app (e_cons (e_var rfl) e_nil) rfl) (e_cons (e_app (e_cons (e_var rfl) e_nil) rfl) e_nil))) rfl (by simp))
    refine e_retC (e_fz rfl g2a ?_)
    rw [g2b]
    refine e_fz rfl g1a ?_
    rw [g1b]
    exact fin
end OA
namespace OA
open PySem PySem.Spec PyProof.Rows L2

/-! ### what '==' says -/
def Sh (n : Nat) (d : Dt) : Prop := d.py.canLay0 = true ∧ d.py.depth ≤ n
def ShA (n : Nat) (ds : List Dt) : Prop := PyData.canLayAll0 (Dt.pys ds) = true ∧ PyData.depthAll (Dt.pys ds) ≤ n
theorem shA {n : Nat} : ∀ {ds : List Dt}, (∀ d ∈ ds, Sh n d) → ShA n ds
  | [], _ => ⟨rfl, Nat.zero_le _⟩
  | d :: ds, h => by
    obtain ⟨h1, h2⟩ := h d List.mem_cons_self
    obtain ⟨h3, h4⟩ := shA fun x hx => h x (List.mem_cons_of_mem _ hx)
    refine ⟨?_, ?_⟩
    · rw [Dt.pys, PyData.canLayAll0, h1, h3]; rfl
    · rw [Dt.pys, PyData.depthAll]; omega
theorem Sh.lst {n : Nat} {ds : List Dt} (h : ∀ d ∈ ds, Sh n d) : Sh (n + 1) (.lst ds) := by
  obtain ⟨h1, h2⟩ := shA h
  exact ⟨by rw [Dt.py, PyData.canLay0]; exact h1, by rw [Dt.py, PyData.depth]; omega⟩
theorem Sh.tup {n : Nat} {ds : List Dt} (h : ∀ d ∈ ds, Sh n d) : Sh (n + 1) (.tup ds) := by
  obtain ⟨h1, h2⟩ := shA h
  exact ⟨by rw [Dt.py, PyData.canLay0]; exact h1, by rw [Dt.py, PyData.depth]; omega⟩
theorem Sh.mono {n m : Nat} {d : Dt} (h : Sh n d) (hm : n ≤ m) : Sh m d := ⟨h.1, Nat.le_trans h.2 hm⟩
theorem Sh.int (i : Int) : Sh 0 (.int i) := ⟨rfl, Nat.le_refl _⟩
theorem Sh.non : Sh 0 .non := ⟨rfl, Nat.le_refl _⟩
theorem Sh.bl (b : Bool) : Sh 0 (.bl b) := ⟨rfl, Nat.le_refl _⟩
theorem Sh.str {x : Str} (h : PyData.strOk x = true) : Sh 0 (.str x) := ⟨h, Nat.le_refl _⟩
theorem Sh.fr (q : Rat) : Sh 1 (fr q) := ⟨rfl, by show 0 + 1 ≤ 1; decide⟩
theorem Sh.nn (q : Rat) : Sh 1 (nn q) := by
  unfold OA.nn
  split
  · exact Sh.non.mono (by decide)
  · exact Sh.fr q
theorem Sh.ok {n : Nat} {d : Dt} (h : Sh n d) (hn : n ≤ 64 := by decide) : SeqAt.shaped d.py = true := by
  unfold SeqAt.shaped
  rw [h.1, decide_eq_true (Nat.le_trans h.2 hn)]; rfl
theorem fEq_sh {S : Ss} {x y : Dt} {n m : Nat} (hx : Sh n x) (hy : Sh m y) (hn : n ≤ 64 := by decide) (hm : m ≤ 64 := by decide) : fEq S (.d x) (.d y) = some (.d (.bl (PyData.eqv x.py y.py))) := by
  unfold fEq
  simp [hx.ok hn, hy.ok hm]
theorem fNe_sh {S : Ss} {x y : Dt} {n m : Nat} (hx : Sh n x) (hy : Sh m y) (hn : n ≤ 64 := by decide) (hm : m ≤ 64 := by decide) : fNe S (.d x) (.d y) = some (.d (.bl (!PyData.eqv x.py y.py))) := by
  unfold fNe
  simp [hx.ok hn, hy.ok hm]
theorem fEq_self {S : Ss} {x : Dt} {n : Nat} (hx : Sh n x) (hn : n ≤ 64 := by decide) : fEq S (.d x) (.d x) = some (.d (.bl true)) := by
  rw [fEq_sh hx hx hn hn, SeqAt.eqv_refl _ hx.1]
theorem fNe_self {S : Ss} {x : Dt} {n : Nat} (hx : Sh n x) (hn : n ≤ 64 := by decide) : fNe S (.d x) (.d x) = some (.d (.bl false)) := by
  rw [fNe_sh hx hx hn hn, SeqAt.eqv_refl _ hx.1]; rfl
theorem eqv_int (i j : Int) : PyData.eqv (.int i) (.int j) = decide (i = j) := by
  rw [PyData.eqv]; rfl
theorem eqv_str (i j : Str) : PyData.eqv (.str i) (.str j) = decide (i = j) := by
  rw [PyData.eqv]; by_cases h : i = j <;> simp [h]
theorem eqv_fr (p q : Rat) : PyData.eqv (fr p).py (fr q).py = decide (p = q) := by
  show PyData.eqv (.tuple [.int p.num, .int (p.den : Int)]) (.tuple [.int q.num, .int (q.den : Int)]) = _
  rw [PyData.eqv, PyData.eqvAll, PyData.eqvAll, PyData.eqvAll, eqv_int, eqv_int]
  by_cases h : p = q
  · subst h; simp
  · rw [decide_eq_false h]
    by_cases h1 : p.num = q.num
    · by_cases h2 : p.den = q.den
      · exact absurd (Rat.ext h1 h2) h
      · rw [show decide ((p.den : Int) = (q.den : Int)) = false from decide_eq_false fun z => h2 (by omega)]; simp
    · rw [decide_eq_false h1]; simp

/-! ### texts among texts -/
theorem any_strs (x : Str) : ∀ xs : List Str, ((Dt.pys (xs.map Dt.str)).any fun z => PyData.eqv z (Dt.str x).py) = decide (x ∈ xs)
  | [] => by simp [Dt.pys]
  | y :: ys => by
    have ih := any_strs x ys
    rw [List.map_cons, Dt.pys, List.any_cons, ih]
    show (PyData.eqv (.str y) (.str x) || _) = _
    rw [eqv_str]
    by_cases h : y = x
    · subst h; simp
    · have h' : ¬ x = y := fun z => h z.symm
      simp [h, h']
def SOk (xs : List Str) : Prop := ∀ x ∈ xs, PyData.strOk x = true
theorem SOk.lst {xs : List Str} (h : SOk xs) : Sh 1 (.lst (xs.map .str)) := Sh.lst fun d hd => by
  obtain ⟨x, hx, rfl⟩ := List.mem_map.mp hd
  exact Sh.str (h x hx)
theorem SOk.tup {xs : List Str} (h : SOk xs) : Sh 1 (.tup (xs.map .str)) := Sh.tup fun d hd => by
  obtain ⟨x, hx, rfl⟩ := List.mem_map.mp hd
  exact Sh.str (h x hx)
theorem fIn_lst {S : Ss} {x : Str} {xs : List Str} (hx : PyData.strOk x = true) (h : SOk xs) : fIn S (.d (.str x)) (.d (.lst (xs.map .str))) = some (.d (.bl (decide (x ∈ xs)))) := by
  have h1 := (Sh.str hx).ok
  have h2 := h.lst.ok
  unfold fIn isIn
  simp only [g_d]
  rw [if_pos ⟨h1, h2⟩, any_strs]
  rfl
theorem fIn_tup {S : Ss} {x : Str} {xs : List Str} (hx : PyData.strOk x = true) (h : SOk xs) : fIn S (.d (.str x)) (.d (.tup (xs.map .str))) = some (.d (.bl (decide (x ∈ xs)))) := by
  have h1 := (Sh.str hx).ok
  have h2 := h.tup.ok
  unfold fIn isIn
  simp only [g_d]
  rw [if_pos ⟨h1, h2⟩, any_strs]
  rfl
theorem six_ok : SOk (four ++ two) := by unfold SOk; decide +kernel
theorem Made.names_sub {w : W} (h : Made w) : w.names.Sublist (four ++ two) := by
  obtain ⟨n, _, _, e1⟩ := h.f
  obtain ⟨m, _, e2⟩ := h.l
  have e : w.names = four.take n ++ two.take m := by
    unfold W.names W.all
    rw [← e1, ← e2]
    simp [Function.comp_def]
  rw [e]
  exact List.Sublist.append (List.take_sublist _ _) (List.take_sublist _ _)
theorem Made.sok {w : W} (h : Made w) : SOk w.names := fun x hx => six_ok x (h.names_sub.subset hx)
theorem fNe_str {S : Ss} {x y : Str} (hx : PyData.strOk x = true) (hy : PyData.strOk y = true) : fNe S (.d (.str x)) (.d (.str y)) = some (.d (.bl (decide (x ≠ y)))) := by
  rw [fNe_sh (Sh.str hx) (Sh.str hy)]
  show some (R.d (.bl (!PyData.eqv (.str x) (.str y)))) = _
  rw [eqv_str]
  by_cases e : x = y <;> simp [e]
theorem fEq_str {S : Ss} {x y : Str} (hx : PyData.strOk x = true) (hy : PyData.strOk y = true) : fEq S (.d (.str x)) (.d (.str y)) = some (.d (.bl (decide (x = y)))) := by
  rw [fEq_sh (Sh.str hx) (Sh.str hy)]
  show some (R.d (.bl (PyData.eqv (.str x) (.str y)))) = _
  rw [eqv_str]
theorem fNe_bl {S : Ss} {a b : Bool} : fNe S (.d (.bl a)) (.d (.bl b)) = some (.d (.bl (a != b))) := by
  rw [fNe_sh (Sh.bl a) (Sh.bl b)]
  cases a <;> cases b <;> rfl
theorem fNotIn_lst {S : Ss} {x : Str} {xs : List Str} (hx : PyData.strOk x = true) (h : SOk xs) : fNotIn S (.d (.str x)) (.d (.lst (xs.map .str))) = some (.d (.bl (!decide (x ∈ xs)))) := by
  have h1 := (Sh.str hx).ok
  have h2 := h.lst.ok
  unfold fNotIn isIn
  simp only [g_d]
  rw [if_pos ⟨h1, h2⟩, any_strs]
  rfl
end OA
namespace OA
open PySem PySem.Spec PyProof.Rows L2

/-! ### names, lots -/
theorem strsOf_map' (xs : List Str) : strsOf (xs.map .str) = some xs := strsOf_map xs
theorem sp_names (S : Ss) (w : W) (h : w.Ok) : f_l_names [.d (eW w)] S = some (.d (.lst ((isortS w.names).map .str)), S) := by
  obtain ⟨d, e1, e2⟩ := add_all w h S
  refine run_ret (en := [some (.d (eW w)), none]) (S' := S) ?_ (List.take_length)
  have ec : cBin fAdd (cBin fIx (cVar 0) (cK (.int 1))) (cBin fIx (cVar 0) (cK (.int 2))) [some (.d (eW w)), none] S = some (.d d, S) := by
    simp [cBin, cVar, cK, w_one, w_two, e1]
  have hc := compN_map (vs := [1]) (g := gNm 1) (c := cBin fIx (cVar 1) (cK (.int 0))) (en := [some (.d (eW w)), none]) (S := S)
    eTh (fun t => .str t.pr.1) (w.folk.map Th.one ++ w.loads.map Th.load) (fun t _ => ⟨[some (.d (eW w)), some (.d (eTh t))], rfl, by
      cases t <;> rfl⟩)
  have hm : (w.folk.map Th.one ++ w.loads.map Th.load).map (fun t => Dt.str t.pr.1) = w.names.map .str := by
    unfold W.names W.all
    simp [List.map_append, Function.comp_def, Th.pr]
  rw [hm] at hc
  have hl : w.names.length ≤ 6 := by
    have := all_len h
    simpa [W.names] using this
  show sCons _ _ _ S = _
  refine e_rets (e_app (e_cons (e_comp (e_iter ec e2) hc) e_nil) ?_)
  unfold fSortS fL1
  simp only [g_d, strsOf_map, Option.bind_some]
  rw [if_pos (by omega)]
  rfl
def folk (w : W) : List Str := w.folk.map One.nm
theorem sp_folk (S : Ss) (w : W) : f_l_folk [.d (eW w)] S = some (.d (.lst ((folk w).map .str)), S) := by
  refine run_ret (en := [some (.d (eW w)), none]) (S' := S) ?_ (List.take_length)
  have hc := compN_map (vs := [1]) (g := gNm 1) (c := cBin fIx (cVar 1) (cK (.int 0))) (en := [some (.d (eW w)), none]) (S := S)
    eOne (fun t => .str t.nm) w.folk (fun t _ => ⟨[some (.d (eW w)), some (.d (eOne t))], rfl, rfl⟩)
  have hm : w.folk.map (fun t => Dt.str t.nm) = (folk w).map .str := by simp [folk, Function.comp_def]
  rw [hm] at hc
  show sCons _ _ _ S = _
  exact e_rets (e_comp (e_iter (e_bin (e_var rfl) (e_K (.int 1)) rfl) rfl) hc)
/-- some of the folk are in the lot, or nothing is -/
def canLie (w : W) (lot : List Str) : Bool := !(lot.filter fun n => decide (n ∈ folk w)).isEmpty || lot.isEmpty
theorem fNe_nil {S : Ss} {xs : List Str} (h : SOk xs) : fNe S (.d (.lst (xs.map .str))) (.d (.lst [])) = some (.d (.bl (!xs.isEmpty))) := by
  rw [fNe_sh h.lst (Sh.lst (n := 0) (ds := []) (by simp))]
  cases xs <;> rfl
theorem fEq_nil {S : Ss} {xs : List Str} (h : SOk xs) : fEq S (.d (.lst (xs.map .str))) (.d (.lst [])) = some (.d (.bl xs.isEmpty)) := by
  rw [fEq_sh h.lst (Sh.lst (n := 0) (ds := []) (by simp))]
  cases xs <;> rfl
theorem sp_can_lie (S : Ss) (w : W) (d : Dt) (lot : List Str) (h1 : itemsOf d = some (lot.map .str)) (h2 : seqV d = some (lot.map .str)) (hs : SOk lot) (hf : SOk (folk w)) : f_l_can_lie [.d (eW w), .d d] S = some (.d (.bl (canLie w lot)), S) := by
  refine run_ret (en := [some (.d (eW w)), some (.d d), some (.d (.lst ((lot.filter fun n => decide (n ∈ folk w)).map .str))), none]) (S' := S) ?_ (List.take_length)
  have hc := compN_filter (vs := [3]) (g := gNm 3) (t := cTst (cBin fIn (cVar 3) (cCall f_l_folk (cCons (cVar 0) cNil)))) (c := cVar 3) (en := [some (.d (eW w)), some (.d d), none, none]) (S := S)
    Dt.str Dt.str (fun n => decide (n ∈ folk w)) lot (fun n hn => ⟨[some (.d (eW w)), some (.d d), none, some (.d (.str n))], rfl, e_tst (e_bin (e_var rfl) (e_call (e_cons (e_var rfl) e_nil) (sp_folk S w)) (fIn_lst (hs n hn) hf)), fun _ => e_var rfl⟩)
  have hs2 : SOk (lot.filter fun n => decide (n ∈ folk w)) := fun x hx => hs x (List.mem_filter.mp hx).1
  show sCons _ _ _ S = _
  refine e_seqR (e_set (e_comp (e_iter (e_var rfl) h1) hc)) ?_
  refine e_rets ?_
  unfold cOr
  rw [e_bin (e_var rfl) (show cLst cNil _ S = some (.d (.lst []), S) from rfl) (fNe_nil hs2)]
  unfold canLie
  cases (lot.filter fun n => decide (n ∈ folk w)).isEmpty with
  | false => rfl
  | true =>
    simp only [Bool.not_true, Bool.false_or, Option.bind_some]
    exact e_bin (e_app (e_cons (e_var rfl) e_nil) (by unfold fList; simp only [g_d, h2, Option.bind_some, Option.map_some])) (show cLst cNil _ S = some (.d (.lst []), S) from rfl) (fEq_nil hs)
end OA
namespace OA
open PySem PySem.Spec PyProof.Rows L2

theorem Made.folk_ok {w : W} (h : Made w) : SOk (folk w) := fun x hx => h.sok x (by
  unfold W.names W.all
  rw [List.map_append]
  exact List.mem_append_left _ (by simpa [folk, Function.comp_def] using hx))
/-- between nought and the raft's length -/
def In (w : W) (q : Rat) : Prop := 0 ≤ q ∧ q ≤ (w.lg : Rat)
theorem mkRat_nonneg' {a : Nat} {b : Nat} (hb : b ≠ 0) : 0 ≤ mkRat (a : Int) b := by
  rw [← Rat.divInt_ofNat]
  exact Rat.divInt_nonneg (by omega) (by omega)
theorem place_in (w : W) (k : Nat) (hk : k ≤ 4) : In w (mkRat ((w.lg : Int) * (k : Int)) 4) := by
  rw [← Int.natCast_mul]
  refine ⟨mkRat_nonneg' (by decide), ?_⟩
  rw [Rat.mkRat_eq_div]
  have h4 : ((4 : Nat) : Rat) = 4 := rfl
  have hle : ((w.lg * k : Nat) : Int) ≤ (w.lg : Int) * 4 := by
    have := Nat.mul_le_mul_left w.lg hk
    omega
  have h2 : (((w.lg * k : Nat) : Int) : Rat) ≤ (((w.lg : Int) * 4 : Int) : Rat) := Rat.intCast_le_intCast.mpr hle
  have h3 : (((w.lg : Int) * 4 : Int) : Rat) = (w.lg : Rat) * 4 := by
    rw [Rat.intCast_mul]; rfl
  rw [h3] at h2
  rw [h4]
  grind
theorem sp_place (D X : Ss) (p : Nat × Nat) (hp : okp p) (w : W) (h : w.Ok) : ∃ q z, okp z ∧ In w q ∧ B 11 q ∧ f_l_place [.c D.length, .d (eW w)] (sb D p X) = some (.d (fr q), sb D z X) := by
  obtain ⟨x, z, hx, hz, e⟩ := sp_of D X p hp [.int 0, .int 0, .int 1, .int 2, .int 3, .int 4] (by simp) (by decide)
  obtain ⟨k, hk, rfl⟩ : ∃ k : Nat, k ≤ 4 ∧ x = .int (k : Int) := by
    simp at hx
    rcases hx with rfl | rfl | rfl | rfl | rfl
    · exact ⟨0, by decide, rfl⟩
    · exact ⟨1, by decide, rfl⟩
    · exact ⟨2, by decide, rfl⟩
    · exact ⟨3, by decide, rfl⟩
    · exact ⟨4, by decide, rfl⟩
  have hl := h.lg
  have hlk : w.lg * k < 2 ^ 11 := by
    have := Nat.mul_le_mul hl hk
    simp; omega
  refine ⟨_, z, hz, place_in w k hk, B_mk (by rw [← Int.natCast_mul]; exact nb hlk) (by decide) (by decide), ?_⟩
  refine run_bag0 (en := [some (.c D.length), some (.d (eW w))]) ?_
  have hm := fMul_s (S := sb D z X) (i := w.lg) (j := k) (by simp; omega) (by simp; omega)
  rw [Int.natCast_mul] at hm
  have hlow := sp_lowest (sb D z X) ((w.lg : Int) * (k : Int)) 4 (by decide) (m8 (by decide))
  show sCons _ _ _ _ = _
  exact e_rets (e_call (e_cons (e_bin (e_bin (e_bin (e_var rfl) (e_K (.int 0)) rfl) (e_K (.int 0)) rfl) (e_call (e_cons (e_var rfl) (e_cons (show cLst _ _ _ = some (.d (.lst [.int 0, .int 0, .int 1, .int 2, .int 3, .int 4]), _) from rfl) e_nil)) e) hm) (e_cons (e_K (.int 4)) e_nil)) hlow)
theorem rows_loop (D X : Ss) (w : W) (h : w.Ok) (d : Dt) (u : Option R) : ∀ (lot : List Str) (p : Nat × Nat), okp p → ∃ (rs : Rows) (q : Nat × Nat), okp q ∧ rnames rs = lot ∧ (∀ r ∈ rs, In w r.2 ∧ B 11 r.2) ∧
    compN [3] (gNm 3) kYes (cTup (cCons (cVar 3) (cCons (cCall f_l_place (cCons (cVar 0) (cCons (cVar 1) cNil))) cNil))) (lot.map .str) [some (.c D.length), some (.d (eW w)), some (.d d), u] (sb D p X) = some (rs.map eRow, sb D q X)
  | [], p, hp => ⟨[], p, hp, rfl, by simp, rfl⟩
  | n :: lot, p, hp => by
    obtain ⟨x, z, hz, hi, hb, e⟩ := sp_place D X p hp w h
    obtain ⟨rs, q, hq, h1, h2, e2⟩ := rows_loop D X w h d u lot z hz
    refine ⟨(n, x) :: rs, q, hq, by rw [← h1]; rfl, ?_, ?_⟩
    · intro r hr
      rcases List.mem_cons.mp hr with rfl | hr
      · exact ⟨hi, hb⟩
      · exact h2 r hr
    · have et : cTup (cCons (cVar 3) (cCons (cCall f_l_place (cCons (cVar 0) (cCons (cVar 1) cNil))) cNil)) [some (.c D.length), some (.d (eW w)), some (.d d), some (.d (.str n))] (sb D p X) = some (.d (eRow (n, x)), sb D z X) :=
        e_tup (e_cons (e_var rfl) (e_cons (e_call (e_cons (e_var rfl) (e_cons (e_var rfl) e_nil)) e) e_nil)) rfl (by simp)
      rw [List.map_cons]
      unfold compN
      simp [gNm, wipeE, kYes, et, e2]
theorem e_compS {vs : List Nat} {ci : CdI} {g : CdG} {t : CdB} {c : Cd} {en : En} {S S1 S2 : Ss} {ds ys : List Dt} (h1 : ci en S = some (ds, S1)) (h2 : compN vs g t c ds en S1 = some (ys, S2)) : cComp vs ci g t c en S = some (.d (.lst ys), S2) := by
  unfold cComp; simp [h1, h2]
theorem sp_rows (D X : Ss) (p : Nat × Nat) (hp : okp p) (w : W) (h : w.Ok) (d : Dt) (lot : List Str) (hd : itemsOf d = some (lot.map .str)) : ∃ (rs : Rows) (q : Nat × Nat), okp q ∧ rnames rs = lot ∧ (∀ r ∈ rs, In w r.2 ∧ B 11 r.2) ∧
    f_l_rows [.c D.length, .d (eW w), .d d] (sb D p X) = some (.d (rowsD rs), sb D q X) := by
  obtain ⟨rs, q, hq, h1, h2, e⟩ := rows_loop D X w h d none lot p hp
  refine ⟨rs, q, hq, h1, h2, ?_⟩
  refine run_bag0 (en := [some (.c D.length), some (.d (eW w)), some (.d d), none]) ?_
  show sCons _ _ _ _ = _
  exact e_rets (e_app (e_cons (e_compS (e_iter (e_var rfl) hd) e) e_nil) (tup_rows rs _))
theorem lot_loop (D X : Ss) (a : Option R) : ∀ (ns done : List Str) (p : Nat × Nat) (u : Option R), okp p → done.length + ns.length ≤ 100 →
    ∃ xs q u', okp q ∧ xs.Sublist ns ∧
    forN (gNm 3) (sCons (sIf (cTst (cBin fGt (cCall f_l_take (cCons (cVar 0) (cCons (cK (.int 5)) cNil))) (cK (.int 0)))) (sCons (sExpr (cAppend (cVar 2) (cVar 3))) sNil) sNil) sNil) (ns.map .str) [some (.c D.length), a, some (.c (D.length + 1 + X.length)), u] (sb D p (X ++ [.lst (done.map .str)]))
      = some (.nx, [some (.c D.length), a, some (.c (D.length + 1 + X.length)), u'], sb D q (X ++ [.lst ((done ++ xs).map .str)]))
  | [], done, p, u, hp, _ => ⟨[], p, u, hp, .refl _, by simp [forN]⟩
  | n :: ns, done, p, u, hp, hl => by
    rw [List.length_cons] at hl
    obtain ⟨r, q1, hq1, hr, e1⟩ := sp_take D (X ++ [.lst (done.map .str)]) p hp 5 (by decide) (m8 (by decide))
    have et : cTst (cBin fGt (cCall f_l_take (cCons (cVar 0) (cCons (cK (.int 5)) cNil))) (cK (.int 0))) [some (.c D.length), a, some (.c (D.length + 1 + X.length)), some (.d (.str n))] (sb D p (X ++ [.lst (done.map .str)])) = some (decide (0 < (r : Int)), sb D q1 (X ++ [.lst (done.map .str)])) :=
      e_tst (e_bin (e_call (e_cons (e_var rfl) (e_cons (e_K _) e_nil)) e1) (e_K _) fGt_int)
    by_cases h0 : 0 < (r : Int)
    · rw [decide_eq_true h0] at et
      obtain ⟨xs, q, u', hq, hs, e2⟩ := lot_loop D X a ns (done ++ [n]) q1 (some (.d (.str n))) hq1 (by simp; omega)
      have ea := e_append (X := X) (D := D) (p := q1) (q := q1) (ds := done.map .str) (co := cVar 2) (c := cVar 3) (x := .str n) (en := [some (.c D.length), a, some (.c (D.length + 1 + X.length)), some (.d (.str n))]) (e_var rfl) (e_var rfl) (by simp; omega)
      refine ⟨n :: xs, q, u', hq, hs.cons_cons n, ?_⟩
      rw [List.append_assoc, List.singleton_append] at e2
      rw [← e2, List.map_cons]
      refine e_for1 rfl ?_
      refine e_seqR ((e_ifT et).trans (e_seqR (e_expr ea) (e_snil))) ?_
      simp
    · rw [decide_eq_false h0] at et
      obtain ⟨xs, q, u', hq, hs, e2⟩ := lot_loop D X a ns done q1 (some (.d (.str n))) hq1 (by omega)
      refine ⟨xs, q, u', hq, hs.cons n, ?_⟩
      rw [← e2, List.map_cons]
      refine e_for1 rfl ?_
      exact e_seqR ((e_ifF et).trans e_snil) e_snil
theorem e_ifxT {t : CdB} {ca cb : Cd} {en : En} {S S1 : Ss} {z} (h : t en S = some (true, S1)) (h2 : ca en S1 = z) : cIf t ca cb en S = z := by unfold cIf; simp [h, h2]
theorem e_ifxF {t : CdB} {ca cb : Cd} {en : En} {S S1 : Ss} {z} (h : t en S = some (false, S1)) (h2 : cb en S1 = z) : cIf t ca cb en S = z := by unfold cIf; simp [h, h2]
/-- a lot of some world's names -/
structure LOk (w : W) (lot : List Str) : Prop where
  sub : lot.Sublist (isortS w.names)
  can : canLie w lot = true
theorem LOk.mem {w : W} {lot : List Str} (h : LOk w lot) : ∀ n ∈ lot, n ∈ w.names := fun n hn => (isortS_perm w.names).subset (h.sub.subset hn)
theorem LOk.nd {w : W} {lot : List Str} (h : LOk w lot) (hw : w.Ok) : lot.Nodup := List.Sublist.nodup h.sub ((isortS_perm w.names).nodup_iff.mpr hw.nd)
theorem names_len {w : W} (h : w.Ok) : w.names.length ≤ 6 := by
  have := all_len h
  simpa [W.names] using this
theorem LOk.len {w : W} {lot : List Str} (h : LOk w lot) (hw : w.Ok) : lot.length ≤ 6 := by
  have h1 := h.sub.length_le
  rw [(isortS_perm w.names).length_eq] at h1
  exact Nat.le_trans h1 (names_len hw)
theorem all_can {w : W} (h : Made w) : canLie w (isortS w.names) = true := by
  obtain ⟨n, h1, h2, e⟩ := h.f
  have hm : ("ann" : Str) ∈ folk w := by
    unfold folk
    rw [e]
    obtain ⟨m, rfl⟩ : ∃ m, n = m + 1 := ⟨n - 1, by omega⟩
    rw [List.take_succ_cons]
    exact List.mem_cons_self
  have hn : ("ann" : Str) ∈ w.names := by
    unfold W.names W.all
    rw [List.map_append]
    exact List.mem_append_left _ (by simpa [folk, Function.comp_def] using hm)
  unfold canLie
  rw [Bool.or_eq_true]
  left
  have hf : ("ann" : Str) ∈ (isortS w.names).filter fun n => decide (n ∈ folk w) := List.mem_filter.mpr ⟨(isortS_perm w.names).symm.subset hn, decide_eq_true hm⟩
  cases e : (isortS w.names).filter fun n => decide (n ∈ folk w) with
  | nil => rw [e] at hf; exact absurd hf (by simp)
  | cons _ _ => rfl
theorem sp_lot (D X : Ss) (p : Nat × Nat) (hp : okp p) (w : W) (h : Made w) : ∃ (lot : List Str) (q : Nat × Nat), okp q ∧ LOk w lot ∧ f_l_lot [.c D.length, .d (eW w)] (sb D p X) = some (.d (names lot), sb D q X) := by
  have hnl : (isortS w.names).length ≤ 6 := by rw [(isortS_perm w.names).length_eq]; exact names_len h.ok
  obtain ⟨xs, q, u', hq, hs, e⟩ := lot_loop D X (some (.d (eW w))) (isortS w.names) [] p none hp (by simp; omega)
  rw [List.nil_append] at e
  have hx : SOk xs := fun x hx => h.sok x ((isortS_perm w.names).subset (hs.subset hx))
  have new : cNewL cNil [some (.c D.length), some (.d (eW w)), none, none] (sb D p X) = some (.c (D.length + 1 + X.length), sb D p (X ++ [.lst []])) := by
    unfold cNewL
    simp [sb_len, sb_push]
  have ga : (sb D q (X ++ [.lst (xs.map .str)]))[D.length + 1 + X.length]? = some (.lst (xs.map .str)) := by
    rw [sb_getX]; simp
  have gb : (sb D q (X ++ [.lst (xs.map .str)])).set (D.length + 1 + X.length) .gone = sb D q (X ++ [.gone]) := by
    rw [sb_setX]; simp
  have ec : ∀ u', cTst (cCall f_l_can_lie (cCons (cVar 1) (cCons (cVar 2) cNil))) [some (.c D.length), some (.d (eW w)), some (.d (.lst (xs.map .str))), u'] (sb D q (X ++ [.gone])) = some (canLie w xs, sb D q (X ++ [.gone])) := fun u' =>
    e_tst (e_call (e_cons (e_var rfl) (e_cons (e_var rfl) e_nil)) (sp_can_lie _ w _ xs rfl rfl hx h.folk_ok))
  have key : ∀ lot, (cIf (cTst (cCall f_l_can_lie (cCons (cVar 1) (cCons (cVar 2) cNil)))) (cApp (fTup false) (cCons (cVar 2) cNil)) (cApp (fTup false) (cCons (cCall f_l_names (cCons (cVar 1) cNil)) cNil)))
      [some (.c D.length), some (.d (eW w)), some (.d (.lst (xs.map .str))), u'] (sb D q (X ++ [.gone])) = some (.d (names lot), sb D q (X ++ [.gone])) → f_l_lot [.c D.length, .d (eW w)] (sb D p X) = some (.d (names lot), sb D q X) := by
    intro lot hk
    refine run_bag (Y := [.gone]) (en := [some (.c D.length), some (.d (eW w)), some (.d (.lst (xs.map .str))), u']) ?_
    show sCons _ _ _ _ = _
    refine e_seqR (e_set new) ?_
    refine e_seqR (Eq.trans (e_sfor (e_iterS (e_call (e_cons (e_var rfl) e_nil) (sp_names _ w h.ok)) rfl)) e) ?_
    refine e_retC (e_fz rfl ga ?_)
    rw [gb]
    exact e_ret hk
  cases hc : canLie w xs with
  | true =>
    refine ⟨xs, q, hq, ⟨hs, hc⟩, key xs ?_⟩
    exact e_ifxT ((ec u').trans (by rw [hc])) (e_app (e_cons (e_var rfl) e_nil) rfl)
  | false =>
    refine ⟨isortS w.names, q, hq, ⟨.refl _, all_can h⟩, key _ ?_⟩
    exact e_ifxF ((ec u').trans (by rw [hc])) (e_app (e_cons (e_call (e_cons (e_var rfl) e_nil) (sp_names _ w h.ok)) e_nil) rfl)
/-- a standing as the laws make it -/
structure SOkay (w : W) (g : Rat) (rs : Rows) : Prop where
  g0 : 0 ≤ g
  gB : B 11 g
  lot : LOk w (rnames rs)
  rows : ∀ r ∈ rs, In w r.2 ∧ B 11 r.2
theorem SOkay.rok {w : W} {g : Rat} {rs : Rows} (h : SOkay w g rs) (hw : w.Ok) : ROk w 11 rs :=
  ⟨fun r hr => h.lot.mem _ (List.mem_map.mpr ⟨r, hr, rfl⟩), fun r hr => (h.rows r hr).2, by have := h.lot.len hw; simpa [rnames] using this, h.lot.nd hw⟩
theorem sp_standing (D X : Ss) (p : Nat × Nat) (hp : okp p) (w : W) (h : Made w) : ∃ (g : Rat) (rs : Rows) (q : Nat × Nat), okp q ∧ SOkay w g rs ∧ f_l_standing [.c D.length, .d (eW w)] (sb D p X) = some (.d (eSt g rs), sb D q X) := by
  have hlg := h.ok.lg
  obtain ⟨r1, q1, hq1, hr1, e1⟩ := sp_take D X p hp 3 (by decide) (m8 (by decide))
  have hw : ∃ wide : Nat, wide ≤ 400 ∧ fIx (sb D q1 X) (.d (.lst [.int 4, .int (w.lg : Int), .int 60])) (.d (.int (r1 : Int))) = some (.d (.int (wide : Int))) := by
    rw [fIx_lst (by simpa using hr1)]
    match r1, hr1 with
    | 0, _ => exact ⟨4, by decide, rfl⟩
    | 1, _ => exact ⟨w.lg, hlg, rfl⟩
    | 2, _ => exact ⟨60, by decide, rfl⟩
  obtain ⟨wide, hwide, ew⟩ := hw
  obtain ⟨r2, q2, hq2, hr2, e2⟩ := sp_take D X q1 hq1 (2 * wide + 1) (by omega) (m8 (by omega))
  obtain ⟨lot, q3, hq3, hl, e3⟩ := sp_lot D X q2 hq2 w h
  obtain ⟨rs, q4, hq4, hn, hrs, e4⟩ := sp_rows D X q3 hq3 w h.ok (names lot) lot rfl
  refine ⟨mkRat (r2 : Int) 2, rs, q4, hq4, ⟨mkRat_nonneg' (by decide), B_mk (nb (by omega)) (by decide) (by decide), by rw [hn]; exact hl, hrs⟩, ?_⟩
  refine run_bag0 (en := [some (.c D.length), some (.d (eW w)), some (.d (.int (wide : Int))), some (.d (fr (mkRat (r2 : Int) 2)))]) ?_
  have hm := fMul_s (S := sb D q1 X) (i := 2) (j := wide) (by decide) (by omega)
  have hlow := sp_lowest (sb D q2 X) (r2 : Int) 2 (by decide) (m8 (by decide))
  show sCons _ _ _ _ = _
  refine e_seqR (e_set (e_bin (show cLst _ _ _ = some (.d (.lst [.int 4, .int (w.lg : Int), .int 60]), _) from rfl) (e_call (e_cons (e_var rfl) (e_cons (e_K _) e_nil)) e1) ew)) ?_
  refine e_seqR (e_set (e_call (e_cons (e_call (e_cons (e_var rfl) (e_cons (e_bin (e_bin (e_K (.int 2)) (e_var rfl) hm) (e_K (.int 1)) (show fAdd _ _ _ = some (.d (.int ((2 * wide + 1 : Nat) : Int))) from rfl)) e_nil)) e2) (e_cons (e_K (.int 2)) e_nil)) hlow)) ?_
  exact e_rets (e_tup (e_cons (e_var rfl) (e_cons (e_call (e_cons (e_var rfl) (e_cons (e_var rfl) (e_cons (e_call (e_cons (e_var rfl) (e_cons (e_var rfl) e_nil)) e3) e_nil))) e4) e_nil)) rfl (by simp))
end OA
namespace OA
open PySem PySem.Spec PyProof.Rows L2

theorem run_new {N : Nat} {c : CdS} {rs : List R} {S : Ss} {o : SO} {en} (h : c (rs.map some ++ List.replicate (N - rs.length) none) S = some (.ret (.c S.length), en, S ++ [o])) : runF N true c rs S = some (.c S.length, S ++ [o]) := by
  unfold runF
  simp [h, finish]
theorem sb_new (D : Ss) (a b : Nat) : D ++ [.lst [.int (a : Int), .int (b : Int)]] = sb D (a, b) [] := rfl
theorem sp_bag (D : Ss) (ns : List Int) (k : Nat) (hk : k < 2 ^ 20) : ∃ p, okp p ∧ f_l_bag [.s ns, .d (.int (k : Int))] D = some (.c D.length, sb D p []) := by
  -- the cell's size
  have cell : ∃ z : Nat, ∀ x : Option R, sIf (cTst (cBin fLt (cVar 1) (cApp fLen (cCons (cVar 0) cNil)))) (sCons (sSet 2 (cApp fAbs (cCons (cBin fIx (cVar 0) (cVar 1)) cNil))) sNil) sNil [some (.s ns), some (.d (.int (k : Int))), some (.d (.int 0))] D = some (.nx, [some (.s ns), some (.d (.int (k : Int))), some (.d (.int (z : Int)))], D) := by
    have et : cTst (cBin fLt (cVar 1) (cApp fLen (cCons (cVar 0) cNil))) [some (.s ns), some (.d (.int (k : Int))), some (.d (.int 0))] D = some (decide ((k : Int) < (ns.length : Int)), D) :=
      e_tst (e_bin (e_var rfl) (e_app (e_cons (e_var rfl) e_nil) rfl) fLt_int)
    by_cases h : (k : Int) < (ns.length : Int)
    · have hl : k < ns.length := by omega
      rw [decide_eq_true h] at et
      refine ⟨(ns[k]).natAbs, fun _ => ?_⟩
      have ei : fIx D (.s ns) (.d (.int (k : Int))) = some (.d (.int ns[k])) := by
        unfold fIx
        simp [get, atI_nat ns k hl]
      have ea : fAbs D [.d (.int ns[k])] = some (.d (.int ((ns[k]).natAbs : Int))) := by
        unfold fAbs
        simp only [g_d]
        congr 3
        split <;> omega
      exact (e_ifT et).trans (e_seqR (e_set (e_app (e_cons (e_bin (e_var rfl) (e_var rfl) ei) e_nil) ea)) e_snil)
    · rw [decide_eq_false h] at et
      exact ⟨0, fun _ => (e_ifF et).trans e_snil⟩
  obtain ⟨z, hz⟩ := cell
  have ep : fPow D (.d (.int 10)) (.d (.int 18)) = some (.d (.int 1000000000000000000)) := rfl
  have et : cTst (cBin fLt (cVar 2) (cBin fPow (cK (.int 10)) (cK (.int 18)))) [some (.s ns), some (.d (.int (k : Int))), some (.d (.int (z : Int)))] D = some (decide ((z : Int) < 1000000000000000000), D) :=
    e_tst (e_bin (e_var rfl) (e_bin (e_K _) (e_K _) ep) fLt_int)
  by_cases h : (z : Int) < 1000000000000000000
  · rw [decide_eq_true h] at et
    have m1 := fMul_ok (S := D) (i := (z : Int)) (j := 7919) (a := 60) (b := 13) (by simp; omega) (by decide) (by decide) (by decide) (by decide)
    have m2 := fMul_ok (S := D) (i := 104729) (j := (k : Int)) (a := 20) (b := 20) (by decide) (by simpa using hk) (by decide) (by decide) (by decide)
    have m3 := fMod_ok (S := D) (i := (z : Int) * 7919 + 104729 * (k : Int)) (j := 2147483646) (by decide)
    refine ⟨(0, ((1 + ((z : Int) * 7919 + 104729 * (k : Int)) % 2147483646)).toNat), ?_, ?_⟩
    · unfold okp
      dsimp only
      have := Int.emod_lt_of_pos ((z : Int) * 7919 + 104729 * (k : Int)) (show (0 : Int) < 2147483646 by decide)
      omega
    · have h0 := Int.emod_nonneg ((z : Int) * 7919 + 104729 * (k : Int)) (show (2147483646 : Int) ≠ 0 by decide)
      rw [← sb_new, Int.toNat_of_nonneg (by omega)]
      refine run_new (en := [some (.s ns), some (.d (.int (k : Int))), some (.d (.int (z : Int)))]) ?_
      show sCons _ _ _ _ = _
      refine e_seqR (e_set (e_K _)) ?_
      refine e_seqR (hz none) ?_
      refine e_retC ((e_ifT et).trans (e_rets ?_))
      unfold cNewL
      rw [e_cons (e_K _) (e_cons (e_bin (e_K _) (e_bin (e_bin (e_bin (e_var rfl) (e_K _) m1) (e_bin (e_K _) (e_var rfl) m2) fAdd_int) (e_K _) m3) fAdd_int) e_nil)]
      rfl
  · rw [decide_eq_false h] at et
    have m3 := fMod_ok (S := D) (i := (z : Int) + (k : Int)) (j := 2147483646) (by decide)
    refine ⟨(z, ((1 + ((z : Int) + (k : Int)) % 2147483646)).toNat), ?_, ?_⟩
    · unfold okp
      dsimp only
      have := Int.emod_lt_of_pos ((z : Int) + (k : Int)) (show (0 : Int) < 2147483646 by decide)
      omega
    · have h0 := Int.emod_nonneg ((z : Int) + (k : Int)) (show (2147483646 : Int) ≠ 0 by decide)
      rw [← sb_new, Int.toNat_of_nonneg (by omega)]
      refine run_new (en := [some (.s ns), some (.d (.int (k : Int))), some (.d (.int (z : Int)))]) ?_
      show sCons _ _ _ _ = _
      refine e_seqR (e_set (e_K _)) ?_
      refine e_seqR (hz none) ?_
      refine e_seqR ((e_ifF et).trans e_snil) ?_
      refine e_rets ?_
      unfold cNewL
      rw [e_cons (e_var rfl) (e_cons (e_bin (e_K _) (e_bin (e_bin (e_var rfl) (e_var rfl) fAdd_int) (e_K _) m3) fAdd_int) e_nil)]
      rfl

/-! ### the law's own gap -/
/-- what all weigh, as the law reads it -/
theorem e_known (S : Ss) (w : W) (h : w.Ok) (k : Nat) (t : En) (hk : k < t.length) :
    cDictK (cComp [k + 1] (cIter (cBin fAdd (cBin fIx (cVar 0) (cK (.int 1))) (cBin fIx (cVar 0) (cK (.int 2))))) (gNm (k + 1)) kYes (cTup (cCons (cBin fIx (cVar (k + 1)) (cK (.int 0))) (cCons (cBin fIx (cVar (k + 1)) (cK (.int 1))) cNil)))) (some (.d (eW w)) :: t) S = some (.d (.dK (hvD w)), S) := by
  obtain ⟨d, e1, e2⟩ := add_all w h S
  have ec : cBin fAdd (cBin fIx (cVar 0) (cK (.int 1))) (cBin fIx (cVar 0) (cK (.int 2))) (some (.d (eW w)) :: t) S = some (.d d, S) := e_bin (e_bin (e_var rfl) (e_K _) (w_one w S)) (e_bin (e_var rfl) (e_K _) (w_two w S)) e1
  have hc := compN_map (vs := [k + 1]) (g := gNm (k + 1)) (c := cTup (cCons (cBin fIx (cVar (k + 1)) (cK (.int 0))) (cCons (cBin fIx (cVar (k + 1)) (cK (.int 1))) cNil))) (en := some (.d (eW w)) :: t) (S := S)
    eTh (fun t => eLoad t.pr) (w.folk.map Th.one ++ w.loads.map Th.load) (fun x _ => ⟨_, rfl, by
      have hv : (((some (R.d (eW w)) :: t).set (k + 1) none).set (k + 1) (some (.d (eTh x))))[k + 1]? = some (some (.d (eTh x))) := by simp [hk]
      refine e_tup (ds := [.str x.pr.1, .int (x.pr.2 : Int)]) (e_cons (e_bin (e_var hv) (e_K _) (z := .d (.str x.pr.1)) (by cases x <;> rfl)) (e_cons (e_bin (e_var hv) (e_K _) (z := .d (.int (x.pr.2 : Int))) (by cases x <;> rfl)) e_nil)) rfl (by simp)⟩)
  have hm : (w.folk.map Th.one ++ w.loads.map Th.load).map (fun t => eLoad t.pr) = w.all.map eLoad := by
    unfold W.all
    simp [List.map_append, Function.comp_def, Th.pr]
  rw [hm] at hc
  have hcc := e_comp (e_iter ec e2) hc
  have hd := merge_dicK (fun n : Nat => Dt.int (n : Int)) w.all [] (by simpa [W.names] using h.nd)
  have hp := pairK_all w.all
  unfold cDictK
  simp [hcc, pairV, hp]
  simpa [dicK] using hd
theorem sp_l_weight (S : Ss) (w : W) (h : w.Ok) (d : Dt) (lot : List Str) (hd : itemsOf d = some (lot.map .str)) (hn : ∀ n ∈ lot, n ∈ w.names) : f_l_weight [.d (eW w), .d d] S = some (.d (.int (weight w lot : Int)), S) := by
  refine run_ret (en := [some (.d (eW w)), some (.d d), some (.d (.dK (hvD w))), none, none]) (S' := S) ?_ (List.take_length)
  have hc := compN_map (vs := [4]) (g := gNm 4) (c := cBin fIx (cVar 2) (cVar 4)) (en := [some (.d (eW w)), some (.d d), some (.d (.dK (hvD w))), none, none]) (S := S)
    Dt.str (fun n => .int (wt w n : Int)) lot (fun n hm => ⟨[some (.d (eW w)), some (.d d), some (.d (.dK (hvD w))), none, some (.d (.str n))], rfl, by
      simp [cBin, cVar, fIx, hv_look w (hn n hm)]⟩)
  have e1 : lot.map (fun n => Dt.int (wt w n : Int)) = (lot.map (wt w)).map fun n : Nat => Dt.int (n : Int) := by simp
  rw [e1] at hc
  show sCons _ _ _ S = _
  refine e_seqR (e_set (e_known S w h 2 _ (by simp))) ?_
  refine e_rets (e_app (e_cons (e_comp (e_iter (e_var rfl) hd) hc) e_nil) ?_)
  unfold fSum fL1
  simp only [g_d, intsOf_nat, sum_nat, Option.map_some]
  rfl
/-- where all stood -/
def look (st : Rows) (n : Str) : Rat := (st.lookup n).getD 0
theorem pairK_rows : ∀ rs : Rows, pairK (rs.map eRow) = some (rs.map fun r => (r.1, fr r.2))
  | [] => rfl
  | r :: rs => by rw [List.map_cons, pairK, pairK_rows rs]; rfl
theorem pairV_rows (rs : Rows) : pairV (rowsD rs) = some (rs.map eRow) := by cases rs <;> rfl
theorem e_before {en : En} {S : Ss} {c : Cd} {st : Rows} (h : c en S = some (.d (rowsD st), S)) (hn : (rnames st).Nodup) : cDictK c en S = some (.d (.dK (dicK fr st)), S) := by
  have hd := merge_dicK fr st [] (by simpa [rnames] using hn)
  unfold cDictK
  simp [h, pairV_rows, pairK_rows]
  simpa [dicK] using hd
theorem look_ok {st : Rows} {n : Str} (h : n ∈ rnames st) : lookK (dicK fr st) n = some (fr (look st n)) := by
  rw [look_dicK]
  unfold look
  cases e : st.lookup n with
  | some v => rfl
  | none =>
    rw [List.lookup_eq_none_iff] at e
    obtain ⟨r, hr, rfl⟩ := List.mem_map.mp h
    exact absurd (e r hr) (by simp)
theorem look_B {w : W} {n : Nat} {st : Rows} (h : ROk w n st) (h0 : 0 < n) (k : Str) : B n (look st k) := by
  unfold look
  cases e : st.lookup k with
  | none => exact B_zero h0
  | some v => exact h.pl (k, v) (PySem.mem_of_lookup e)
def lsum (w : W) (st : Rows) : Rows → Rat
  | [] => 0
  | r :: rs => (r.2 - look st r.1) * (wt w r.1 : Nat) + lsum w st rs
theorem l_times_eq (q : Rat) (n : Nat) : q * ((n : Int) : Rat) = q * (n : Nat) := rfl
theorem lterm_B {w : W} (h : w.Ok) {n : Nat} {p q : Rat} (hp : B n p) (hq : B n q) (k : Str) : B (2 * n + 7) ((p - q) * (wt w k : Nat)) :=
  (term_B h (by omega) (B_sub hp hq) k).mono (by omega)
theorem lsum_B {w : W} (h : w.Ok) {n : Nat} (h0 : 0 < n) {st : Rows} (hs : ROk w n st) : ∀ rs : Rows, (∀ r ∈ rs, B n r.2) → B ((2 * n + 8) * rs.length + 1) (lsum w st rs)
  | [], _ => B_zero (by omega)
  | r :: rs, hr => by
    have ih := lsum_B h h0 hs rs fun r hm => hr r (List.mem_cons_of_mem _ hm)
    refine B.mono (B_add (lterm_B h (hr r List.mem_cons_self) (look_B hs h0 r.1) r.1) ih) ?_
    rw [List.length_cons, Nat.mul_add]
    omega
def gapL (w : W) (g : Rat) (st rs : Rows) : Rat := g - lsum w st rs / (whole w (rnames st) : Nat)
theorem sp_l_gap (S : Ss) {w : W} (h : w.Ok) {g : Rat} {d : Dt} {st rs : Rows} {n : Nat} (hd : itemsOf d = some (rs.map eRow)) (hg : B 3900 g) (hs : ROk w n st) (hr : ROk w n rs) (hin : ∀ r ∈ rs, r.1 ∈ rnames st) (h0 : 0 < n) (hn : n ≤ 250) :
    f_l_gap [.d (eW w), .d (eSt g st), .d d] S = some (.d (fr (gapL w g st rs)), S) := by
  have key : ∀ (rs : Rows), (∀ r ∈ rs, r.1 ∈ rnames st ∧ r.1 ∈ w.names ∧ B n r.2) → ∀ (t : Rat) (m : Nat) (x y : Option R), B m t → m + (2 * n + 8) * (rs.length + 1) ≤ 3950 →
      ∃ x' y', forN (gTp (gCons' (gNm 6) (gCons' (gNm 7) gNil'))) (sCons (sSet 5 (cCall f_l_plus (cCons (cVar 5) (cCons (cCall f_l_times (cCons (cCall f_l_minus (cCons (cVar 7) (cCons (cBin fIx (cVar 4) (cVar 6)) cNil))) (cCons (cBin fIx (cVar 3) (cVar 6)) cNil))) cNil)))) sNil) (rs.map eRow)
        [some (.d (eW w)), some (.d (eSt g st)), some (.d d), some (.d (.dK (hvD w))), some (.d (.dK (dicK fr st))), some (.d (fr t)), x, y, none, none] S = some (.nx, [some (.d (eW w)), some (.d (eSt g st)), some (.d d), some (.d (.dK (hvD w))), some (.d (.dK (dicK fr st))), some (.d (fr (t + lsum w st rs))), x', y', none, none], S) := by
    intro rs
    induction rs with
    | nil => intro _ t m x y _ _; exact ⟨x, y, by simp [forN, lsum, Rat.add_zero]⟩
    | cons r rs ih =>
      intro hr t m x y ht hm
      rw [List.length_cons, Nat.mul_add] at hm
      obtain ⟨hr1, hr2, hr3⟩ := hr r List.mem_cons_self
      have hlk := look_B hs h0 r.1
      have e1 := sp_less S (p := r.2) (q := look st r.1) (hr3.mono (by omega)) (hlk.mono (by omega))
      have e2 := sp_l_times S (q := r.2 - look st r.1) (a := (wt w r.1 : Int)) ((B_sub hr3 hlk).mono (by omega)) (by
        have := wt_le h r.1
        refine Nat.lt_of_lt_of_le (m := 2 ^ 6) (by simp; omega) (Nat.pow_le_pow_right (by decide) (by decide)))
      rw [l_times_eq] at e2
      have hb1 := lterm_B h hr3 hlk r.1
      have e3 := sp_plus S (p := t) (q := (r.2 - look st r.1) * (wt w r.1 : Nat)) (ht.mono (by omega)) (hb1.mono (by omega))
      have hb2 := B_add ht hb1
      obtain ⟨x', y', e4⟩ := ih (fun r hm => hr r (List.mem_cons_of_mem _ hm)) _ _ (some (.d (.str r.1))) (some (.d (fr r.2))) hb2 (by omega)
      refine ⟨x', y', ?_⟩
      have e5 : t + lsum w st (r :: rs) = t + (r.2 - look st r.1) * (wt w r.1 : Nat) + lsum w st rs := by simp [lsum, Rat.add_assoc]
      rw [e5, ← e4, List.map_cons]
      refine e_for1 rfl ?_
      have i1 : fIx S (.d (.dK (dicK fr st))) (.d (.str r.1)) = some (.d (fr (look st r.1))) := by unfold fIx; simp [look_ok hr1]
      have i2 : fIx S (.d (.dK (hvD w))) (.d (.str r.1)) = some (.d (.int (wt w r.1 : Int))) := by unfold fIx; simp [hv_look w hr2]
      refine e_seqR (e_set (e_call (e_cons (e_var rfl) (e_cons (e_call (e_cons (e_call (e_cons (e_var rfl) (e_cons (e_bin (e_var rfl) (e_var rfl) i1) e_nil)) (by rw [l_minus_eq]; exact e1)) (e_cons (e_bin (e_var rfl) (e_var rfl) i2) e_nil)) e2) e_nil)) (by rw [l_plus_eq]; exact e3))) ?_
      rfl
  have hlen := hr.len
  obtain ⟨x, y, e⟩ := key rs (fun r hm => ⟨hin r hm, hr.nm r hm, hr.pl r hm⟩) 0 1 none none (B_zero (by decide)) (by
    have := Nat.mul_le_mul (show 2 * n + 8 ≤ 508 by omega) (show rs.length + 1 ≤ 7 by omega)
    omega)
  rw [Rat.zero_add] at e
  have hB := lsum_B h h0 hs rs hr.pl
  have hB2 : B 3600 (lsum w st rs) := hB.mono (by
    have := Nat.mul_le_mul (show 2 * n + 8 ≤ 508 by omega) hlen
    omega)
  have hwl := whole_le h (lot := rnames st) (by simp [rnames, hs.len])
  have hwp := whole_pos h (rnames st)
  refine run_ret (en := [some (.d (eW w)), some (.d (eSt g st)), some (.d d), some (.d (.dK (hvD w))), some (.d (.dK (dicK fr st))), some (.d (fr (lsum w st rs))), x, y, some (.d (.int (whole w (rnames st) : Int))), none]) (S' := S) ?_ (List.take_length)
  show sCons _ _ _ S = _
  refine e_seqR (e_set (e_known S w h 8 _ (by simp))) ?_
  refine e_seqR (e_set (e_before (e_bin (e_var rfl) (e_K _) st_one) hs.nd)) ?_
  refine e_seqR (e_set (e_tup (e_cons (e_K _) (e_cons (e_K _) e_nil)) rfl (by simp))) ?_
  refine e_seqR (Eq.trans (e_sfor (e_iter (e_var rfl) hd)) e) ?_
  refine e_seqR (e_set (e_bin (e_bin (e_bin (e_var rfl) (e_K _) (w_zero w S)) (e_K _) (show fIx S _ _ = some (.d (.int (w.rh : Int))) from rfl)) (e_call (e_cons (e_var rfl) (e_cons (e_call (e_cons (e_var rfl) e_nil) (by rw [l_aboard_eq]; exact sp_aboard_of S g st)) e_nil)) (sp_l_weight S w h _ _ (names_items _) hs.nms)) fAdd_int)) ?_
  have hm := fMul_ok (S := S) (i := ((lsum w st rs).den : Int)) (j := (whole w (rnames st) : Int)) (a := 4000) (b := 9) (B.d (hB2.mono (by decide))) (nb hwl) (by decide) (by decide) (by decide)
  rw [← Int.natCast_mul] at hm
  have hlow := sp_lowest S (lsum w st rs).num ((lsum w st rs).den * whole w (rnames st)) (Nat.mul_pos (lsum w st rs).den_pos hwp) (by
    refine Nat.lt_of_lt_of_le (m := 2 ^ 3600 * 2 ^ 9) (Nat.mul_lt_mul'' hB2.2 hwl) ?_
    rw [← Nat.pow_add]
    exact Nat.pow_le_pow_right (by decide) (by decide))
  have hq : mkRat (lsum w st rs).num ((lsum w st rs).den * whole w (rnames st)) = lsum w st rs / (whole w (rnames st) : Nat) := by
    have := by_eq (lsum w st rs) 1 (whole w (rnames st))
    rw [one_by] at this
    rw [← this]
    unfold by'
    rw [Int.mul_one]
  rw [hq] at hlow
  have hB3 : B 3609 (lsum w st rs / (whole w (rnames st) : Nat)) := B_over hB2 (by decide) hwl
  have hl := sp_less S (p := g) (q := lsum w st rs / (whole w (rnames st) : Nat)) (hg.mono (by decide)) (hB3.mono (by decide))
  refine e_rets (e_call (e_cons (e_bin (e_var rfl) (e_K _) st_zero) (e_cons (e_call (e_cons (e_bin (e_var rfl) (e_K _) fr_top) (e_cons (e_bin (e_bin (e_var rfl) (e_K _) fr_bot) (e_var rfl) hm) e_nil)) (by rw [l_lowest_eq]; exact hlow)) e_nil)) (by rw [l_minus_eq]; exact hl))
end OA
namespace OA
open PySem PySem.Spec PyProof.Rows L2

/-! ### sums -/
def sumN (w : W) (st : Rows) : List Str → Rat
  | [] => 0
  | n :: ns => look st n * (wt w n : Nat) + sumN w st ns
theorem lsum_sub (w : W) (st : Rows) : ∀ rs : Rows, lsum w st rs = drive w rs - sumN w st (rnames rs)
  | [] => by simp [lsum, drive, rnames, sumN]; grind
  | r :: rs => by
    have ih := lsum_sub w st rs
    simp only [lsum, drive, rnames, List.map_cons, sumN] at ih ⊢
    rw [ih]
    grind
theorem sumN_drive (w : W) (st : Rows) : ∀ t : Rows, (∀ r ∈ t, look st r.1 = r.2) → sumN w st (rnames t) = drive w t
  | [], _ => rfl
  | r :: t, h => by
    have ih := sumN_drive w st t fun x hx => h x (List.mem_cons_of_mem _ hx)
    simp only [drive, rnames, List.map_cons, sumN] at ih ⊢
    rw [ih, h r List.mem_cons_self]
theorem look_self : ∀ st : Rows, (rnames st).Nodup → ∀ r ∈ st, look st r.1 = r.2
  | [], _, r, hr => by simp at hr
  | s :: st, hn, r, hr => by
    have hn' : s.1 ∉ rnames st ∧ (rnames st).Nodup := by simpa [rnames] using hn
    unfold look
    rw [List.lookup_cons]
    rcases List.mem_cons.mp hr with rfl | hr
    · simp
    · have : ¬ r.1 = s.1 := fun z => hn'.1 (by rw [← z]; exact List.mem_map.mpr ⟨r, hr, rfl⟩)
      rw [beq_eq_false_iff_ne.mpr this]
      exact look_self st hn'.2 r hr
theorem lsum_eq {w : W} {st rs : Rows} (hn : (rnames st).Nodup) (he : rnames rs = rnames st) : lsum w st rs = drive w rs - drive w st := by
  rw [lsum_sub, he, sumN_drive w st st (look_self st hn)]
theorem gapL_eq {w : W} {g : Rat} {st rs : Rows} (hn : (rnames st).Nodup) (he : rnames rs = rnames st) : gapL w g st rs = behind w (front w g st) rs := by
  unfold gapL behind front pull
  rw [lsum_eq hn he, he]
  grind
theorem drive_zero (w : W) : ∀ lot : List Str, drive w (lot.map fun n => (n, (0 : Rat))) = 0
  | [] => rfl
  | n :: lot => by
    rw [List.map_cons, drive, drive_zero w lot, Rat.zero_mul, Rat.add_zero]
theorem zero_names (lot : List Str) : rnames (lot.map fun n => (n, (0 : Rat))) = lot := by simp [rnames, Function.comp_def]
theorem natR_nonneg (n : Nat) : (0 : Rat) ≤ (n : Rat) := by
  have : ((0 : Int) : Rat) ≤ ((n : Int) : Rat) := Rat.intCast_le_intCast.mpr (by omega)
  exact this
theorem drive_nonneg (w : W) : ∀ rs : Rows, (∀ r ∈ rs, 0 ≤ r.2) → 0 ≤ drive w rs
  | [], _ => Rat.le_refl
  | r :: rs, h => Rat.add_nonneg (Rat.mul_nonneg (h r List.mem_cons_self) (natR_nonneg _)) (drive_nonneg w rs fun x hx => h x (List.mem_cons_of_mem _ hx))
theorem drive_back (w : W) : ∀ rs : Rows, (∀ r ∈ rs, r.2 ≤ (w.lg : Rat)) → drive w rs ≤ drive w (back w (rnames rs))
  | [], _ => Rat.le_refl
  | r :: rs, h => by
    have h1 := Rat.mul_le_mul_of_nonneg_right (h r List.mem_cons_self) (natR_nonneg (wt w r.1))
    have h2 := drive_back w rs fun x hx => h x (List.mem_cons_of_mem _ hx)
    show r.2 * (wt w r.1 : Nat) + drive w rs ≤ (w.lg : Rat) * (wt w r.1 : Nat) + drive w (back w (rnames rs))
    grind
theorem wholeR_pos {w : W} (h : w.Ok) (lot : List Str) : (0 : Rat) < ((whole w lot : Nat) : Rat) := by
  have : ((0 : Int) : Rat) < ((whole w lot : Int) : Rat) := Rat.intCast_lt_intCast.mpr (by have := whole_pos h lot; omega)
  exact this
theorem div_le_div {a b c : Rat} (hc : 0 < c) (h : a ≤ b) : a / c ≤ b / c := by
  rw [Rat.div_def, Rat.div_def]
  exact Rat.mul_le_mul_of_nonneg_right h (Rat.le_of_lt (Rat.inv_pos.mpr hc))
theorem pull_nonneg {w : W} (h : w.Ok) {rs : Rows} (hr : ∀ r ∈ rs, 0 ≤ r.2) : 0 ≤ pull w rs := by
  have := div_le_div (wholeR_pos h (rnames rs)) (drive_nonneg w rs hr)
  unfold pull
  rw [Rat.div_def, Rat.zero_mul] at this
  exact this
theorem pull_back {w : W} (h : w.Ok) {rs : Rows} (hr : ∀ r ∈ rs, r.2 ≤ (w.lg : Rat)) : pull w rs ≤ pull w (back w (rnames rs)) := by
  unfold pull
  rw [back_names]
  exact div_le_div (wholeR_pos h (rnames rs)) (drive_back w rs hr)
end OA
namespace OA
open PySem PySem.Spec PyProof.Rows L2

/-! ### greater fractions -/
theorem den_mul {n m : Nat} {p q : Rat} (hp : B n p) (hq : B m q) (h : n + m ≤ 8990) : p.den * q.den < 2 ^ 8999 := by
  refine Nat.lt_of_lt_of_le (m := 2 ^ n * 2 ^ m) (Nat.mul_lt_mul'' hp.2 hq.2) ?_
  rw [← Nat.pow_add]
  exact Nat.pow_le_pow_right (by decide) (by omega)
theorem sp_plusW (S : Ss) {n m : Nat} {p q : Rat} (hp : B n p) (hq : B m q) (h0 : 0 < n) (h1 : 0 < m) (h : n + m ≤ 8990) : f_plus [.d (fr p), .d (fr q)] S = some (.d (fr (p + q)), S) := by
  have a1 := fMul_ok (S := S) (i := p.num) (j := (q.den : Int)) hp.1 hq.d h0 h1 (by omega)
  have a2 := fMul_ok (S := S) (i := q.num) (j := (p.den : Int)) hq.1 hp.d h1 h0 (by omega)
  have a3 := fMul_ok (S := S) (i := (p.den : Int)) (j := (q.den : Int)) hp.d hq.d h0 h1 (by omega)
  have hl := sp_lowest S (p.num * q.den + q.num * p.den) (p.den * q.den) (Nat.mul_pos p.den_pos q.den_pos) (den_mul hp hq h)
  rw [← Rat.add_def', Int.natCast_mul] at hl
  refine run_ret (en := [some (.d (fr p)), some (.d (fr q))]) (S' := S) ?_ (List.take_length)
  simp [c_plus, sCons, sRet, cCall, cCons, cNil, cBin, cVar, cK, a1, a2, a3, hl]
theorem sp_lessW (S : Ss) {n m : Nat} {p q : Rat} (hp : B n p) (hq : B m q) (h0 : 0 < n) (h1 : 0 < m) (h : n + m ≤ 8990) : f_less [.d (fr p), .d (fr q)] S = some (.d (fr (p - q)), S) := by
  have a1 := fMul_ok (S := S) (i := p.num) (j := (q.den : Int)) hp.1 hq.d h0 h1 (by omega)
  have a2 := fMul_ok (S := S) (i := q.num) (j := (p.den : Int)) hq.1 hp.d h1 h0 (by omega)
  have a3 := fMul_ok (S := S) (i := (p.den : Int)) (j := (q.den : Int)) hp.d hq.d h0 h1 (by omega)
  have hl := sp_lowest S (p.num * q.den - q.num * p.den) (p.den * q.den) (Nat.mul_pos p.den_pos q.den_pos) (den_mul hp hq h)
  rw [← Rat.sub_def', Int.natCast_mul] at hl
  refine run_ret (en := [some (.d (fr p)), some (.d (fr q))]) (S' := S) ?_ (List.take_length)
  simp [c_less, sCons, sRet, cCall, cCons, cNil, cBin, cVar, cK, a1, a2, a3, hl]
theorem sp_timesW (S : Ss) {n k : Nat} {q : Rat} {a : Int} {b : Nat} (hq : B n q) (ha : a.natAbs < 2 ^ k) (hb : b < 2 ^ k) (h0 : 0 < b) (h1 : 0 < n) (h2 : 0 < k) (h : n + k ≤ 8990) : f_times [.d (fr q), .d (.int a), .d (.int (b : Int))] S = some (.d (fr (q * a / b)), S) := by
  have a1 := fMul_ok (S := S) (i := q.num) (j := a) hq.1 ha h1 h2 (by omega)
  have a3 := fMul_ok (S := S) (i := (q.den : Int)) (j := (b : Int)) hq.d (nb hb) h1 h2 (by omega)
  have hz : q.den * b < 2 ^ 8999 := by
    refine Nat.lt_of_lt_of_le (m := 2 ^ n * 2 ^ k) (Nat.mul_lt_mul'' hq.2 hb) ?_
    rw [← Nat.pow_add]
    exact Nat.pow_le_pow_right (by decide) (by omega)
  have hl := sp_lowest S (q.num * a) (q.den * b) (Nat.mul_pos q.den_pos h0) hz
  rw [show mkRat (q.num * a) (q.den * b) = q * a / b from by_eq q a b, Int.natCast_mul] at hl
  refine run_ret (en := [some (.d (fr q)), some (.d (.int a)), some (.d (.int (b : Int)))]) (S' := S) ?_ (List.take_length)
  simp [c_times, sCons, sRet, cCall, cCons, cNil, cBin, cVar, cK, a1, a3, hl]
/-- the product, as the law reckons it -/
theorem B_mul {n m : Nat} {p q : Rat} (hp : B n p) (hq : B m q) (h0 : 0 < n) : B (n + m) (p * q) := by
  rw [Rat.mul_def']
  refine B_mk (wide_lt hp.1 hq.1) ?_ (by omega)
  rw [Nat.pow_add]
  exact Nat.mul_lt_mul'' hp.2 hq.2
theorem e_mulq {en : En} {S : Ss} {c1 c2 : Cd} {n m : Nat} {p q : Rat} (hp : B n p) (hq : B m q) (h0 : 0 < n) (h1 : 0 < m) (h : n + m ≤ 8990) (e1 : c1 en S = some (.d (fr p), S)) (e2 : c2 en S = some (.d (fr q), S)) :
    cCall f_l_lowest (cCons (cBin fMul (cBin fIx c1 (cK (.int 0))) (cBin fIx c2 (cK (.int 0)))) (cCons (cBin fMul (cBin fIx c1 (cK (.int 1))) (cBin fIx c2 (cK (.int 1)))) cNil)) en S = some (.d (fr (p * q)), S) := by
  have a1 := fMul_ok (S := S) (i := p.num) (j := q.num) hp.1 hq.1 h0 h1 (by omega)
  have a3 := fMul_ok (S := S) (i := (p.den : Int)) (j := (q.den : Int)) hp.d hq.d h0 h1 (by omega)
  have hl := sp_lowest S (p.num * q.num) (p.den * q.den) (Nat.mul_pos p.den_pos q.den_pos) (den_mul hp hq h)
  rw [← Rat.mul_def', Int.natCast_mul] at hl
  exact e_call (e_cons (e_bin (e_bin e1 (e_K _) fr_top) (e_bin e2 (e_K _) fr_top) a1) (e_cons (e_bin (e_bin e1 (e_K _) fr_bot) (e_bin e2 (e_K _) fr_bot) a3) e_nil)) (by rw [l_lowest_eq]; exact hl)
theorem fEq_fr {S : Ss} {p q : Rat} : fEq S (.d (fr p)) (.d (fr q)) = some (.d (.bl (decide (p = q)))) := by
  rw [fEq_sh (Sh.fr p) (Sh.fr q), eqv_fr]

/-! ### unseen weights: the law's equation -/
def kw (w : W) (nm : Str) (x : Rat) (n : Str) : Rat := if n = nm then x else (wt w n : Nat)
def ksum (w : W) (st : Rows) (nm : Str) (x : Rat) : Rows → Rat
  | [] => 0
  | r :: rs => (r.2 - look st r.1) * kw w nm x r.1 + ksum w st nm x rs
def kwhole (w : W) (nm : Str) (x : Rat) : Rows → Rat
  | [] => 0
  | r :: rs => kw w nm x r.1 + kwhole w nm x rs
theorem kw_B {w : W} (hw : w.Ok) {n : Nat} {x : Rat} (hx : B n x) (hn : 6 ≤ n) (nm k : Str) : B n (kw w nm x k) := by
  unfold kw
  split
  · exact hx
  · exact (nat_B (n := 6) (by have := wt_le hw k; simp; omega) (by decide)).mono hn
theorem kdic (w : W) (nm : Str) (x : Rat) : ∀ ps : List (Str × Nat), nm ∈ ps.map (·.1) → putKD (dicK (fun n : Nat => fr (n : Rat)) ps) nm (fr x) = ps.map fun p => (.str p.1, if p.1 = nm then fr x else fr (p.2 : Rat)) := by
  intro ps hm
  have hs : (lookK (dicK (fun n : Nat => fr (n : Rat)) ps) nm).isSome = true := by
    rw [look_dicK]
    cases e : ps.lookup nm with
    | some v => rfl
    | none =>
      rw [List.lookup_eq_none_iff] at e
      obtain ⟨p, hp, rfl⟩ := List.mem_map.mp hm
      exact absurd (e p hp) (by simp)
  unfold putKD
  rw [hs, if_pos rfl]
  unfold dicK
  rw [List.map_map]
  refine List.map_congr_left fun p hp => ?_
  simp only [Function.comp, keyK, Option.some.injEq]
  split <;> rfl
theorem look_kdic (nm : Str) (x : Rat) (j : Str) : ∀ ps : List (Str × Nat), lookK (ps.map fun p => (.str p.1, if p.1 = nm then fr x else fr (p.2 : Rat))) j = (ps.lookup j).map fun v => if j = nm then fr x else fr (v : Rat)
  | [] => rfl
  | (k, v) :: ps => by
    have ih := look_kdic nm x j ps
    rw [List.map_cons, lookK, List.lookup_cons, ih]
    simp only [keyK, Option.some.injEq]
    by_cases e : k = j
    · subst e; simp
    · have e' : (j == k) = false := beq_eq_false_iff_ne.mpr (fun z => e z.symm)
      rw [if_neg e, e']
theorem look_kw {w : W} {nm j : Str} {x : Rat} (hj : j ∈ w.names) : lookK (w.all.map fun p => (.str p.1, if p.1 = nm then fr x else fr (p.2 : Rat))) j = some (fr (kw w nm x j)) := by
  rw [look_kdic]
  unfold kw wt
  cases e : w.all.lookup j with
  | some v =>
    simp only [Option.map_some, Option.getD_some]
    split <;> rfl
  | none =>
    rw [List.lookup_eq_none_iff] at e
    obtain ⟨p, hp, rfl⟩ := List.mem_map.mp hj
    exact absurd (e p hp) (by simp)
end OA
namespace OA
open PySem PySem.Spec PyProof.Rows L2

theorem pairK_allF (ps : List (Str × Nat)) : pairK (ps.map fun p => Dt.tup [.str p.1, fr (p.2 : Rat)]) = some (ps.map fun p => (p.1, fr (p.2 : Rat))) := by
  induction ps with
  | nil => rfl
  | cons p ps ih => rw [List.map_cons, pairK]; simp [tupV, ih]
theorem ksum_B {w : W} (hw : w.Ok) {n m : Nat} {st : Rows} {nm : Str} {x : Rat} (h0 : 0 < n) (hm : 6 ≤ m) (hx : B m x) (hs : ROk w n st) : ∀ rs : Rows, (∀ r ∈ rs, B n r.2) → B ((2 * n + m + 2) * rs.length + 1) (ksum w st nm x rs)
  | [], _ => B_zero (by omega)
  | r :: rs, hr => by
    have ih := ksum_B hw (nm := nm) h0 hm hx hs rs fun r hm => hr r (List.mem_cons_of_mem _ hm)
    have h1 := B_mul (B_sub (hr r List.mem_cons_self) (look_B hs h0 r.1)) (kw_B hw hx hm nm r.1) (by omega)
    refine B.mono (B_add h1 ih) ?_
    rw [List.length_cons, Nat.mul_add]
    omega
theorem kwhole_B {w : W} (hw : w.Ok) {m : Nat} {nm : Str} {x : Rat} (hm : 6 ≤ m) (hx : B m x) : ∀ rs : Rows, B ((m + 1) * rs.length + 1) (kwhole w nm x rs)
  | [] => B_zero (by omega)
  | r :: rs => by
    have ih := kwhole_B hw (nm := nm) hm hx rs
    refine B.mono (B_add (kw_B hw hx hm nm r.1) ih) ?_
    rw [List.length_cons, Nat.mul_add]
    omega
abbrev c_does : CdS := (sCons (sSet 11 (cCall f_l_minus (cCons (cVar 10) (cCons (cBin fIx (cVar 8) (cVar 9)) cNil)))) (sCons (sSet 6 (cCall f_l_plus (cCons (cVar 6) (cCons (cCall f_l_lowest (cCons (cBin fMul (cBin fIx (cVar 11) (cK (.int 0))) (cBin fIx (cBin fIx (cVar 5) (cVar 9)) (cK (.int 0)))) (cCons (cBin fMul (cBin fIx (cVar 11) (cK (.int 1))) (cBin fIx (cBin fIx (cVar 5) (cVar 9)) (cK (.int 1)))) cNil))) cNil)))) (sCons (sSet 7 (cCall f_l_plus (cCons (cVar 7) (cCons (cBin fIx (cVar 5) (cVar 9)) cNil)))) sNil)))
theorem does_loop (S : Ss) {w : W} (hw : w.Ok) {n m : Nat} {st : Rows} {nm : Str} {x : Rat} (h0 : 0 < n) (hm : 6 ≤ m) (hx : B m x) (hs : ROk w n st) (a0 a1 a2 a3 a4 a12 : Option R) : ∀ (rs : Rows), (∀ r ∈ rs, r.1 ∈ rnames st ∧ r.1 ∈ w.names ∧ B n r.2) → ∀ (t v : Rat) (k l : Nat) (u9 u10 u11 : Option R), B k t → B l v → 0 < k → 0 < l → k + (2 * n + m + 2) * rs.length ≤ 8900 → l + (m + 1) * rs.length ≤ 8900 →
      ∃ u9' u10' u11', forN (gTp (gCons' (gNm 9) (gCons' (gNm 10) gNil'))) c_does (rs.map eRow)
        [a0, a1, a2, a3, a4, some (.d (.dK (w.all.map fun p => (.str p.1, if p.1 = nm then fr x else fr (p.2 : Rat))))), some (.d (fr t)), some (.d (fr v)), some (.d (.dK (dicK fr st))), u9, u10, u11, a12] S
        = some (.nx, [a0, a1, a2, a3, a4, some (.d (.dK (w.all.map fun p => (.str p.1, if p.1 = nm then fr x else fr (p.2 : Rat))))), some (.d (fr (t + ksum w st nm x rs))), some (.d (fr (v + kwhole w nm x rs))), some (.d (.dK (dicK fr st))), u9', u10', u11', a12], S) := by
  intro rs
  induction rs with
  | nil => intro _ t v k l u9 u10 u11 _ _ _ _ _ _; exact ⟨u9, u10, u11, by simp [forN, ksum, kwhole, Rat.add_zero]⟩
  | cons r rs ih =>
    intro hr t v k l u9 u10 u11 ht hv hk hl h1 h2
    rw [List.length_cons, Nat.mul_add] at h1 h2
    obtain ⟨hr1, hr2, hr3⟩ := hr r List.mem_cons_self
    have hlk := look_B hs h0 r.1
    have hkw := kw_B hw hx hm nm r.1
    have hway := B_sub hr3 hlk
    have hprod := B_mul hway hkw (by omega)
    have e1 := sp_lessW S (p := r.2) (q := look st r.1) hr3 hlk h0 h0 (by omega)
    have e3 := sp_plusW S (p := t) ht hprod hk (by omega) (by omega)
    have e4 := sp_plusW S (p := v) hv hkw hl (by omega) (by omega)
    obtain ⟨u9', u10', u11', e5⟩ := ih (fun r hm => hr r (List.mem_cons_of_mem _ hm)) _ _ _ _ (some (.d (.str r.1))) (some (.d (fr r.2))) (some (.d (fr (r.2 - look st r.1)))) (B_add ht hprod) (B_add hv hkw) (by omega) (by omega) (by omega) (by omega)
    refine ⟨u9', u10', u11', ?_⟩
    have e6 : t + ksum w st nm x (r :: rs) = t + (r.2 - look st r.1) * kw w nm x r.1 + ksum w st nm x rs := by simp [ksum, Rat.add_assoc]
    have e7 : v + kwhole w nm x (r :: rs) = v + kw w nm x r.1 + kwhole w nm x rs := by simp [kwhole, Rat.add_assoc]
    rw [e6, e7, ← e5, List.map_cons]
    refine e_for1 rfl ?_
    have i1 : fIx S (.d (.dK (dicK fr st))) (.d (.str r.1)) = some (.d (fr (look st r.1))) := by unfold fIx; simp [look_ok hr1]
    have i2 : fIx S (.d (.dK (w.all.map fun p => (.str p.1, if p.1 = nm then fr x else fr (p.2 : Rat))))) (.d (.str r.1)) = some (.d (fr (kw w nm x r.1))) := by unfold fIx; simp only [g_d, look_kw hr2, Option.map_some]
    refine e_seqR (e_set (e_call (e_cons (e_var rfl) (e_cons (e_bin (e_var rfl) (e_var rfl) i1) e_nil)) (by rw [l_minus_eq]; exact e1))) ?_
    refine e_seqR (e_set (e_call (e_cons (e_var rfl) (e_cons (e_mulq hway hkw (by omega) (by omega) (by omega) (e_var rfl) (e_bin (e_var rfl) (e_var rfl) i2)) e_nil)) (by rw [l_plus_eq]; exact e3))) ?_
    exact e_seqR (e_set (e_call (e_cons (e_var rfl) (e_cons (e_bin (e_var rfl) (e_var rfl) i2) e_nil)) (by rw [l_plus_eq]; exact e4))) e_snil
/-- does it do -/
def does (w : W) (g : Rat) (st rs : Rows) (gap : Rat) (nm : Str) (x : Rat) : Bool := decide ((g - gap) * ((w.rh : Rat) + kwhole w nm x rs) = ksum w st nm x rs)
theorem sp_l_does (S : Ss) {w : W} (hw : w.Ok) {n m l : Nat} {g gap : Rat} {d : Dt} {st rs : Rows} {nm : Str} {x : Rat} (hd : itemsOf d = some (rs.map eRow)) (h0 : 0 < n) (hm : 6 ≤ m) (hl : 0 < l) (hx : B m x) (hg : B l g) (hgap : B l gap) (hs : ROk w n st) (hr : ROk w n rs) (hin : ∀ r ∈ rs, r.1 ∈ rnames st) (hnm : nm ∈ w.names) (hn1 : n ≤ 12) (hm1 : m ≤ 1270) (hl1 : l ≤ 300) :
    f_l_does [.d (eW w), .d (eSt g st), .d (.str nm), .d (fr x), .d (.tup [d, fr gap])] S = some (.d (.bl (does w g st rs gap nm x)), S) := by
  have hlen := hr.len
  have hmm1 := Nat.mul_le_mul (show 2 * n + m + 2 ≤ 1296 by omega) hlen
  have hmm2 := Nat.mul_le_mul (show m + 1 ≤ 1271 by omega) hlen
  obtain ⟨u9, u10, u11, eL⟩ := does_loop (S ++ [.gone]) hw (nm := nm) h0 hm hx hs (some (.d (eW w))) (some (.d (eSt g st))) (some (.d (.str nm))) (some (.d (fr x))) (some (.d (.tup [d, fr gap]))) none rs (fun r h => ⟨hin r h, hr.nm r h, hr.pl r h⟩) 0 (w.rh : Rat) 1 7 none none none (B_zero (by decide)) (nat_B (by have := hw.rh; simp; omega) (by decide)) (by decide) (by decide) (by omega) (by omega)
  rw [Rat.zero_add] at eL
  have hK := ksum_B hw (nm := nm) h0 hm hx hs rs hr.pl
  have hWh : B (7 + ((m + 1) * rs.length + 1) + 1) ((w.rh : Rat) + kwhole w nm x rs) := B_add (nat_B (n := 7) (by have := hw.rh; simp; omega) (by decide)) (kwhole_B hw hm hx rs)
  have hnear := B_sub hg hgap
  obtain ⟨da, e1, e2⟩ := add_all w hw S
  have hcomp := compN_map (vs := [9]) (g := gNm 9) (c := cTup (cCons (cBin fIx (cVar 9) (cK (.int 0))) (cCons (cTup (cCons (cBin fIx (cVar 9) (cK (.int 1))) (cCons (cK (.int 1)) cNil))) cNil))) (en := [some (.d (eW w)), some (.d (eSt g st)), some (.d (.str nm)), some (.d (fr x)), some (.d (.tup [d, fr gap])), none, none, none, none, none, none, none, none]) (S := S)
    eTh (fun t => Dt.tup [.str t.pr.1, fr (t.pr.2 : Rat)]) (w.folk.map Th.one ++ w.loads.map Th.load) (fun t _ => ⟨_, rfl, by cases t <;> rfl⟩)
  have hmm : (w.folk.map Th.one ++ w.loads.map Th.load).map (fun t => Dt.tup [.str t.pr.1, fr (t.pr.2 : Rat)]) = w.all.map fun p => Dt.tup [.str p.1, fr (p.2 : Rat)] := by
    unfold W.all
    simp [List.map_append, Function.comp_def, Th.pr]
  rw [hmm] at hcomp
  have hmerge := merge_dicK (fun n : Nat => fr (n : Rat)) w.all [] (by simpa [W.names] using hw.nd)
  have hdic : cDictKC (cComp [9] (cIter (cBin fAdd (cBin fIx (cVar 0) (cK (.int 1))) (cBin fIx (cVar 0) (cK (.int 2))))) (gNm 9) kYes (cTup (cCons (cBin fIx (cVar 9) (cK (.int 0))) (cCons (cTup (cCons (cBin fIx (cVar 9) (cK (.int 1))) (cCons (cK (.int 1)) cNil))) cNil))))
      [some (.d (eW w)), some (.d (eSt g st)), some (.d (.str nm)), some (.d (fr x)), some (.d (.tup [d, fr gap])), none, none, none, none, none, none, none, none] S = some (.c S.length, S ++ [.dK (dicK (fun n : Nat => fr (n : Rat)) w.all)]) := by
    unfold cDictKC
    rw [e_comp (e_iter (e_bin (e_bin (e_var rfl) (e_K _) (w_one w S)) (e_bin (e_var rfl) (e_K _) (w_two w S)) e1) e2) hcomp]
    simp only [Option.bind_some, g_d, pairV, pairK_allF, Option.map_some]
    have : mergeKD [] (w.all.map fun p => (p.1, fr (p.2 : Rat))) = dicK (fun n : Nat => fr (n : Rat)) w.all := by simpa [dicK] using hmerge
    rw [this]
  have hkl : (dicK (fun n : Nat => fr (n : Rat)) w.all).length < 1000 := by
    have := all_len hw
    simp [dicK]; omega
  refine run_ret (en := [some (.d (eW w)), some (.d (eSt g st)), some (.d (.str nm)), some (.d (fr x)), some (.d (.tup [d, fr gap])), some (.d (.dK (w.all.map fun p => (.str p.1, if p.1 = nm then fr x else fr (p.2 : Rat))))), some (.d (fr (ksum w st nm x rs))), some (.d (fr ((w.rh : Rat) + kwhole w nm x rs))), some (.d (.dK (dicK fr st))), u9, u10, u11, some (.d (fr (g - gap)))]) (S' := S ++ [.gone]) ?_ (List.take_left)
  show sCons _ _ _ S = _
  refine e_seqR (e_set hdic) ?_
  refine e_seqR (en1 := [some (.d (eW w)), some (.d (eSt g st)), some (.d (.str nm)), some (.d (fr x)), some (.d (.tup [d, fr gap])), some (.c S.length), none, none, none, none, none, none, none]) (S1 := S ++ [.dK (w.all.map fun p => (.str p.1, if p.1 = nm then fr x else fr (p.2 : Rat)))]) ?_ ?_
  · unfold sPutK
    rw [e_var rfl]
    simp only [Option.bind_some]
    rw [e_var rfl]
    simp only [Option.bind_some]
    rw [e_var rfl]
    simp only [Option.bind_some]
    have hnn : nm ∈ w.all.map (·.1) := hnm
    simp [hkl, kdic w nm x w.all hnn]
  · refine e_seqR (en1 := [some (.d (eW w)), some (.d (eSt g st)), some (.d (.str nm)), some (.d (fr x)), some (.d (.tup [d, fr gap])), some (.c S.length), some (.d (fr 0)), some (.d (fr (w.rh : Rat))), none, none, none, none, none]) (S1 := S ++ [.dK (w.all.map fun p => (.str p.1, if p.1 = nm then fr x else fr (p.2 : Rat)))]) rfl ?_
    refine e_seqR (e_set (e_before (e_bin (e_var rfl) (e_K _) st_one) hs.nd)) ?_
    refine e_seqR (en1 := [some (.d (eW w)), some (.d (eSt g st)), some (.d (.str nm)), some (.d (fr x)), some (.d (.tup [d, fr gap])), some (.d (.dK (w.all.map fun p => (.str p.1, if p.1 = nm then fr x else fr (p.2 : Rat))))), some (.d (fr (ksum w st nm x rs))), some (.d (fr ((w.rh : Rat) + kwhole w nm x rs))), some (.d (.dK (dicK fr st))), u9, u10, u11, none]) (S1 := S ++ [.gone]) ?_ ?_
    · have e : ∀ (c : CdS) (z), c [some (.d (eW w)), some (.d (eSt g st)), some (.d (.str nm)), some (.d (fr x)), some (.d (.tup [d, fr gap])), some (.d (.dK (w.all.map fun p => (.str p.1, if p.1 = nm then fr x else fr (p.2 : Rat))))), some (.d (fr 0)), some (.d (fr (w.rh : Rat))), some (.d (.dK (dicK fr st))), none, none, none, none] (S ++ [.gone]) = z → sFz 5 c [some (.d (eW w)), some (.d (eSt g st)), some (.d (.str nm)), some (.d (fr x)), some (.d (.tup [d, fr gap])), some (.c S.length), some (.d (fr 0)), some (.d (fr (w.rh : Rat))), some (.d (.dK (dicK fr st))), none, none, none, none] (S ++ [.dK (w.all.map fun p => (.str p.1, if p.1 = nm then fr x else fr (p.2 : Rat)))]) = z := by
        intro c z hz
        unfold sFz
        simpa [SO.val] using hz
      refine e _ _ ?_
      exact Eq.trans (e_sfor (e_iter (e_bin (e_var rfl) (e_K _) (show fIx _ (.d (.tup [d, fr gap])) (.d (.int 0)) = some (.d d) from rfl)) hd)) eL
    · refine e_seqR (e_set (e_call (e_cons (e_bin (e_var rfl) (e_K _) st_zero) (e_cons (e_bin (e_var rfl) (e_K _) (show fIx _ (.d (.tup [d, fr gap])) (.d (.int 1)) = some (.d (fr gap)) from rfl)) e_nil)) (by rw [l_minus_eq]; exact sp_lessW _ hg hgap hl hl (by omega)))) ?_
      have hmm3 := Nat.mul_le_mul (show m + 1 ≤ 1271 by omega) hlen
      refine e_rets (e_bin (e_mulq hnear hWh (by omega) (by omega) (by omega) (e_var rfl) (e_var rfl)) (e_var rfl) ?_)
      rw [fEq_fr]
      rfl
end OA
namespace OA
open PySem PySem.Spec PyProof.Rows L2

/-! ### the told weight -/
def absq (q : Rat) : Rat := if q < 0 then -q else q
theorem fr_abs (q : Rat) : Dt.tup [.int (if q.num < 0 then -q.num else q.num), .int (q.den : Int)] = fr (absq q) := by
  have e : q < 0 ↔ q.num < 0 := by
    rw [Rat.lt_iff]; simp
  unfold absq
  by_cases h : q < 0
  · rw [if_pos h, if_pos (e.mp h)]; rfl
  · rw [if_neg h, if_neg (fun z => h (e.mpr z))]; rfl
theorem absq_B {n : Nat} {q : Rat} (h : B n q) : B n (absq q) := by
  unfold absq
  split
  · exact ⟨by rw [Rat.neg_num, Int.natAbs_neg]; exact h.1, h.2⟩
  · exact h
def hbGo (w : W) (nm : Str) (near : Rat) : Rows → Rows → Rat → Rat → Rat × Rat
  | s :: st, r :: rs, own, tot => if s.1 = nm then hbGo w nm near st rs (near - (r.2 - s.2)) tot else hbGo w nm near st rs own (tot + (r.2 - s.2) * (wt w s.1 : Nat))
  | _, _, own, tot => (own, tot)
abbrev sAny : Str := Str.ofString "any"
def tellW (own tot : Rat) : Rat := absq tot * (own.den : Int) / (own.num.natAbs : Nat)
def hD (own tot : Rat) : Dt := if own.num = 0 then (if tot.num = 0 then .str sAny else .non) else if tot.num * own.num ≤ 0 then .non else fr (tellW own tot)
theorem zip_rows : ∀ (st rs : Rows), zipD (st.map eRow) (rs.map eRow) = (st.zip rs).map fun p => .pr [eRow p.1, eRow p.2]
  | [], _ => rfl
  | _ :: _, [] => rfl
  | s :: st, r :: rs => by rw [List.map_cons, List.map_cons, zipD, zip_rows st rs]; rfl
abbrev c_hb : CdS := (sCons (sIf (cTst (cBin fEq (cVar 10) (cVar 2))) (sCons (sSet 9 (cCall f_less (cCons (cVar 6) (cCons (cCall f_less (cCons (cVar 13) (cCons (cVar 11) cNil))) cNil)))) sNil) (sCons (sSet 8 (cCall f_plus (cCons (cVar 8) (cCons (cCall f_times (cCons (cCall f_less (cCons (cVar 13) (cCons (cVar 11) cNil))) (cCons (cBin fIx (cVar 5) (cVar 10)) (cCons (cK (.int 1)) cNil)))) cNil)))) sNil)) sNil)
abbrev g_hb : CdG := gTp (gCons' (gTp (gCons' (gNm 10) (gCons' (gNm 11) gNil'))) (gCons' (gTp (gCons' (gNm 12) (gCons' (gNm 13) gNil'))) gNil'))
theorem hb_B {w : W} (hw : w.Ok) {n l : Nat} (h0 : 0 < n) (nm : Str) {near : Rat} (hn : B l near) : ∀ (st rs : Rows), (∀ r ∈ st, B n r.2) → (∀ r ∈ rs, B n r.2) → ∀ (own tot : Rat) (k : Nat), B (l + 2 * n + 2) own → B k tot → B (l + 2 * n + 2) (hbGo w nm near st rs own tot).1 ∧ B (k + (2 * n + 8) * st.length) (hbGo w nm near st rs own tot).2
  | [], _, _, _, own, tot, k, ho, ht => ⟨by simpa [hbGo] using ho, by simpa [hbGo] using ht⟩
  | s :: st, [], _, _, own, tot, k, ho, ht => ⟨ho, ht.mono (by omega)⟩
  | s :: st, r :: rs, h1, h2, own, tot, k, ho, ht => by
    have hs := h1 s List.mem_cons_self
    have hr := h2 r List.mem_cons_self
    rw [List.length_cons, Nat.mul_add]
    unfold hbGo
    split
    · have ih := hb_B hw h0 nm hn st rs (fun x hx => h1 x (List.mem_cons_of_mem _ hx)) (fun x hx => h2 x (List.mem_cons_of_mem _ hx)) (near - (r.2 - s.2)) tot k ((B_sub hn (B_sub hr hs)).mono (by omega)) ht
      exact ⟨ih.1, ih.2.mono (by omega)⟩
    · have ih := hb_B hw h0 nm hn st rs (fun x hx => h1 x (List.mem_cons_of_mem _ hx)) (fun x hx => h2 x (List.mem_cons_of_mem _ hx)) own (tot + (r.2 - s.2) * (wt w s.1 : Nat)) _ ho (B_add ht (lterm_B hw hr hs s.1))
      exact ⟨ih.1, ih.2.mono (by omega)⟩
theorem hb_loop (S : Ss) {w : W} (hw : w.Ok) {n l : Nat} (h0 : 0 < n) (hl : 0 < l) {nm : Str} (hnm : PyData.strOk nm = true) {near : Rat} (hn : B l near) (a0 a1 a3 a4 a7 : Option R) : ∀ (st rs : Rows), (∀ r ∈ st, r.1 ∈ w.names ∧ PyData.strOk r.1 = true ∧ B n r.2) → (∀ r ∈ rs, B n r.2) → ∀ (own tot : Rat) (k : Nat) (u10 u11 u12 u13 : Option R), B (l + 2 * n + 2) own → B k tot → 0 < k → k + (2 * n + 8) * (st.length + 1) ≤ 8000 → l + 2 * n + 2 ≤ 4000 →
      ∃ u10' u11' u12' u13', forN g_hb c_hb ((st.zip rs).map fun p => .pr [eRow p.1, eRow p.2])
        [a0, a1, some (.d (.str nm)), a3, a4, some (.d (.dK (hvD w))), some (.d (fr near)), a7, some (.d (fr tot)), some (.d (fr own)), u10, u11, u12, u13] S
        = some (.nx, [a0, a1, some (.d (.str nm)), a3, a4, some (.d (.dK (hvD w))), some (.d (fr near)), a7, some (.d (fr (hbGo w nm near st rs own tot).2)), some (.d (fr (hbGo w nm near st rs own tot).1)), u10', u11', u12', u13'], S)
  | [], rs, _, _, own, tot, k, u10, u11, u12, u13, _, _, _, _, _ => ⟨u10, u11, u12, u13, by simp [forN, hbGo]⟩
  | s :: st, [], _, _, own, tot, k, u10, u11, u12, u13, _, _, _, _, _ => ⟨u10, u11, u12, u13, by simp [forN, hbGo]⟩
  | s :: st, r :: rs, h1, h2, own, tot, k, u10, u11, u12, u13, ho, ht, hk, hb1, hb2 => by
    rw [List.length_cons, Nat.mul_add] at hb1
    obtain ⟨hs1, hs2, hs3⟩ := h1 s List.mem_cons_self
    have hr := h2 r List.mem_cons_self
    have hd := B_sub hr hs3
    have e1 := sp_lessW S (p := r.2) (q := s.2) hr hs3 h0 h0 (by omega)
    have et : cTst (cBin fEq (cVar 10) (cVar 2)) [a0, a1, some (.d (.str nm)), a3, a4, some (.d (.dK (hvD w))), some (.d (fr near)), a7, some (.d (fr tot)), some (.d (fr own)), some (.d (.str s.1)), some (.d (fr s.2)), some (.d (.str r.1)), some (.d (fr r.2))] S = some (decide (s.1 = nm), S) := e_tst (e_bin (e_var rfl) (e_var rfl) (fEq_str hs2 hnm))
    rw [List.zip_cons_cons, List.map_cons]
    by_cases h : s.1 = nm
    · rw [decide_eq_true h] at et
      have e2 := sp_lessW S (p := near) (q := r.2 - s.2) hn hd hl (by omega) (by omega)
      obtain ⟨v10, v11, v12, v13, e3⟩ := hb_loop S hw h0 hl hnm hn a0 a1 a3 a4 a7 st rs (fun x hx => h1 x (List.mem_cons_of_mem _ hx)) (fun x hx => h2 x (List.mem_cons_of_mem _ hx)) (near - (r.2 - s.2)) tot k (some (.d (.str s.1))) (some (.d (fr s.2))) (some (.d (.str r.1))) (some (.d (fr r.2))) ((B_sub hn hd).mono (by omega)) ht hk (by omega) hb2
      refine ⟨v10, v11, v12, v13, ?_⟩
      unfold hbGo
      rw [if_pos h, ← e3]
      refine e_for1 rfl ?_
      exact e_seqR ((e_ifT et).trans (e_seqR (e_set (e_call (e_cons (e_var rfl) (e_cons (e_call (e_cons (e_var rfl) (e_cons (e_var rfl) e_nil)) e1) e_nil)) e2)) e_snil)) e_snil
    · rw [decide_eq_false h] at et
      have i2 : fIx S (.d (.dK (hvD w))) (.d (.str s.1)) = some (.d (.int (wt w s.1 : Int))) := by unfold fIx; simp [hv_look w hs1]
      have hw6 := wt_le hw s.1
      have e2 := sp_timesW S (q := r.2 - s.2) (a := (wt w s.1 : Int)) (b := 1) (k := 6) hd (by simp; omega) (by decide) (by decide) (by omega) (by decide) (by omega)
      rw [term_eq] at e2
      have ht1 := lterm_B hw hr hs3 s.1
      have e3 := sp_plusW S (p := tot) ht ht1 hk (by omega) (by omega)
      obtain ⟨v10, v11, v12, v13, e4⟩ := hb_loop S hw h0 hl hnm hn a0 a1 a3 a4 a7 st rs (fun x hx => h1 x (List.mem_cons_of_mem _ hx)) (fun x hx => h2 x (List.mem_cons_of_mem _ hx)) own (tot + (r.2 - s.2) * (wt w s.1 : Nat)) _ (some (.d (.str s.1))) (some (.d (fr s.2))) (some (.d (.str r.1))) (some (.d (fr r.2))) ho (B_add ht ht1) (by omega) (by omega) hb2
      refine ⟨v10, v11, v12, v13, ?_⟩
      unfold hbGo
      rw [if_neg h, ← e4]
      refine e_for1 rfl ?_
      exact e_seqR ((e_ifF et).trans (e_seqR (e_set (e_call (e_cons (e_var rfl) (e_cons (e_call (e_cons (e_call (e_cons (e_var rfl) (e_cons (e_var rfl) e_nil)) e1) (e_cons (e_bin (e_var rfl) (e_var rfl) i2) (e_cons (e_K _) e_nil))) e2) e_nil)) e3)) e_snil)) e_snil
def others (rs : Rows) (nm : Str) : List Str := (rnames rs).filter fun n => decide (n ≠ nm)
def hb0 (w : W) (g : Rat) (st : Rows) (nm : Str) (gap : Rat) : Rat := (g - gap) * (((0 : Int) - (whole w (others st nm) : Int) : Int) : Rat) / ((1 : Nat) : Rat)
def hbP (w : W) (g : Rat) (st rs : Rows) (nm : Str) (gap : Rat) : Rat × Rat := hbGo w nm (g - gap) st rs 0 (hb0 w g st nm gap)
theorem cZip_rows {en : En} {S : Ss} {ca cb : Cd} {st rs : Rows} {d e : Dt} (h1 : ca en S = some (.d d, S)) (h2 : cb en S = some (.d e, S)) (hd : tupV d = some (st.map eRow)) (he : tupV e = some (rs.map eRow)) (hl : st.length ≤ 1000) : cZip ca cb en S = some ((st.zip rs).map fun p => .pr [eRow p.1, eRow p.2], S) := by
  unfold cZip
  rw [h1]
  simp only [Option.bind_some]
  rw [h2]
  simp only [Option.bind_some]
  have n1 : datL (.d d) = none := by
    cases d <;> first | rfl | (cases hd)
  rw [n1]
  simp only [datT, hd, he]
  rw [if_pos (by simpa using hl), zip_rows]
theorem sp_heavy_by (S : Ss) {w : W} (hw : w.Ok) {n l : Nat} {g gap : Rat} {d : Dt} {st rs : Rows} {nm : Str} (hd : tupV d = some (rs.map eRow)) (h0 : 0 < n) (hl : 0 < l) (hg : B l g) (hgap : B l gap) (hs : ROk w n st) (hr : ROk w n rs) (hk : SOk (rnames st)) (hnm : PyData.strOk nm = true) (hn1 : n ≤ 50) (hl1 : l ≤ 500) :
    f_heavy_by [.d (eW w), .d (eSt g st), .d (.str nm), .d d, .d (fr gap)] S = some (.d (hD (hbP w g st rs nm gap).1 (hbP w g st rs nm gap).2), S) := by
  have hlen := hs.len
  have hmm1 := Nat.mul_le_mul (show 2 * n + 8 ≤ 108 by omega) (show st.length + 1 ≤ 7 by omega)
  have hmm2 := Nat.mul_le_mul (show 2 * n + 8 ≤ 108 by omega) hlen
  have hnear := B_sub hg hgap
  have ho : ∀ x ∈ others st nm, x ∈ w.names := fun x hx => hs.nms x (List.mem_filter.mp hx).1
  have hol : (others st nm).length ≤ 6 := Nat.le_trans (List.length_filter_le _ _) (by simpa [rnames] using hlen)
  have hwh := whole_le hw hol
  have hb0B : B (l + l + 1 + 9) (hb0 w g st nm gap) := by
    unfold hb0
    rw [← by_eq]
    exact B_by hnear (k := 9) (by have := hwh; omega) (by decide) (Nat.le_refl _) (by omega)
  have hP := hb_B hw h0 nm hnear st rs (fun r hx => hs.pl r hx) (fun r hx => hr.pl r hx) 0 (hb0 w g st nm gap) _ (B_zero (by omega)) hb0B
  obtain ⟨u10, u11, u12, u13, eL⟩ := hb_loop S hw h0 (by omega) hnm hnear (some (.d (eW w))) (some (.d (eSt g st))) (some (.d d)) (some (.d (fr gap))) (some (.d (.lst ((others st nm).map .str)))) st rs (fun r hx => ⟨hs.nm r hx, hk _ (List.mem_map.mpr ⟨r, hx, rfl⟩), hs.pl r hx⟩) (fun r hx => hr.pl r hx) 0 (hb0 w g st nm gap) _ none none none none (B_zero (by omega)) hb0B (by omega) (by omega) (by omega)
  have hbP' : hbGo w nm (g - gap) st rs 0 (hb0 w g st nm gap) = hbP w g st rs nm gap := rfl
  rw [hbP'] at eL hP
  have hc := compN_filter (vs := [10]) (g := gNm 10) (t := cTst (cBin fNe (cVar 10) (cVar 2))) (c := cVar 10) (en := [some (.d (eW w)), some (.d (eSt g st)), some (.d (.str nm)), some (.d d), some (.d (fr gap)), some (.d (.dK (hvD w))), some (.d (fr (g - gap))), none, none, none, none, none, none, none]) (S := S) Dt.str Dt.str (fun x => decide (x ≠ nm)) (rnames st) (fun x hx =>
    ⟨_, rfl, e_tst (e_bin (e_var rfl) (e_var rfl) (fNe_str (hk x hx) hnm)), fun _ => e_var rfl⟩)
  generalize (hbP w g st rs nm gap).1 = own at *
  generalize (hbP w g st rs nm gap).2 = tot at *
  have eT := sp_timesW S (q := g - gap) (a := (0 : Int) - (whole w (others st nm) : Int)) (b := 1) (k := 9) hnear (by omega) (by decide) (by decide) (by omega) (by decide) (by omega)
  have start : ∀ z, sCons (sIf (cTst (cBin fEq (cBin fIx (cVar 9) (cK (.int 0))) (cK (.int 0)))) (sCons (sRet (cIf (cTst (cBin fEq (cBin fIx (cVar 8) (cK (.int 0))) (cK (.int 0)))) (cK (.str (Str.ofString "any"))) (cK .non))) sNil) sNil) (sCons (sIf (cTst (cBin fLe (cBin fMul (cBin fIx (cVar 8) (cK (.int 0))) (cBin fIx (cVar 9) (cK (.int 0)))) (cK (.int 0)))) (sCons (sRet (cK .non)) sNil) sNil) (sCons (sRet (cCall f_times (cCons (cTup (cCons (cApp fAbs (cCons (cBin fIx (cVar 8) (cK (.int 0))) cNil)) (cCons (cBin fIx (cVar 8) (cK (.int 1))) cNil))) (cCons (cBin fIx (cVar 9) (cK (.int 1))) (cCons (cApp fAbs (cCons (cBin fIx (cVar 9) (cK (.int 0))) cNil)) cNil))))) sNil))
      [some (.d (eW w)), some (.d (eSt g st)), some (.d (.str nm)), some (.d d), some (.d (fr gap)), some (.d (.dK (hvD w))), some (.d (fr (g - gap))), some (.d (.lst ((others st nm).map .str))), some (.d (fr tot)), some (.d (fr own)), u10, u11, u12, u13] S = z → c_heavy_by [some (.d (eW w)), some (.d (eSt g st)), some (.d (.str nm)), some (.d d), some (.d (fr gap)), none, none, none, none, none, none, none, none, none] S = z := by
    intro z hz
    unfold c_heavy_by
    refine e_seqR (e_set (e_call (e_cons (e_var rfl) e_nil) (sp_heavies S w hw))) ?_
    refine e_seqR (e_set (e_call (e_cons (e_bin (e_var rfl) (e_K _) st_zero) (e_cons (e_var rfl) e_nil)) (sp_lessW S hg hgap hl hl (by omega)))) ?_
    refine e_seqR (e_set (e_comp (e_iter (e_call (e_cons (e_var rfl) e_nil) (sp_aboard_of S g st)) (names_items _)) hc)) ?_
    refine e_seqR (e_set (e_call (e_cons (e_var rfl) (e_cons (e_bin (e_K (.int 0)) (e_call (e_cons (e_var rfl) (e_cons (e_var rfl) e_nil)) (sp_whole_of S w hw (.lst ((others st nm).map .str)) (others st nm) rfl ho)) fSub_int) (e_cons (e_K (.int 1)) e_nil))) eT)) ?_
    refine e_seqR (e_set (e_K _)) ?_
    refine e_seqR (Eq.trans (e_sfor (cZip_rows (e_bin (e_var rfl) (e_K _) st_one) (e_var rfl) (rowsD_tup st) hd (by omega))) eL) hz
  have run : ∀ x, c_heavy_by [some (.d (eW w)), some (.d (eSt g st)), some (.d (.str nm)), some (.d d), some (.d (fr gap)), none, none, none, none, none, none, none, none, none] S = some (.ret (.d x), [some (.d (eW w)), some (.d (eSt g st)), some (.d (.str nm)), some (.d d), some (.d (fr gap)), some (.d (.dK (hvD w))), some (.d (fr (g - gap))), some (.d (.lst ((others st nm).map .str))), some (.d (fr tot)), some (.d (fr own)), u10, u11, u12, u13], S) → f_heavy_by [.d (eW w), .d (eSt g st), .d (.str nm), .d d, .d (fr gap)] S = some (.d x, S) := fun x hx => run_ret (S' := S) hx (List.take_length)
  refine run _ (start _ ?_)
  have t1 := e_tst (e_bin (e_bin (e_var (en := [some (.d (eW w)), some (.d (eSt g st)), some (.d (.str nm)), some (.d d), some (.d (fr gap)), some (.d (.dK (hvD w))), some (.d (fr (g - gap))), some (.d (.lst ((others st nm).map .str))), some (.d (fr tot)), some (.d (fr own)), u10, u11, u12, u13]) (S := S) (i := 9) rfl) (e_K (.int 0)) fr_top) (e_K (.int 0)) fEq_int)
  have t2 := e_tst (e_bin (e_bin (e_var (en := [some (.d (eW w)), some (.d (eSt g st)), some (.d (.str nm)), some (.d d), some (.d (fr gap)), some (.d (.dK (hvD w))), some (.d (fr (g - gap))), some (.d (.lst ((others st nm).map .str))), some (.d (fr tot)), some (.d (fr own)), u10, u11, u12, u13]) (S := S) (i := 8) rfl) (e_K (.int 0)) fr_top) (e_K (.int 0)) fEq_int)
  unfold hD
  by_cases c1 : own.num = 0
  · rw [decide_eq_true c1] at t1
    rw [if_pos c1]
    refine e_retC ((e_ifT t1).trans (e_rets ?_))
    by_cases c2 : tot.num = 0
    · rw [decide_eq_true c2] at t2
      rw [if_pos c2]
      exact e_ifxT t2 (e_K _)
    · rw [decide_eq_false c2] at t2
      rw [if_neg c2]
      exact e_ifxF t2 (e_K _)
  · rw [decide_eq_false c1] at t1
    rw [if_neg c1]
    refine e_seqR ((e_ifF t1).trans e_snil) ?_
    have hm := fMul_ok (S := S) (i := tot.num) (j := own.num) hP.2.1 hP.1.1 (by omega) (by omega) (by omega)
    have t3 := e_tst (e_bin (e_bin (e_bin (e_var (en := [some (.d (eW w)), some (.d (eSt g st)), some (.d (.str nm)), some (.d d), some (.d (fr gap)), some (.d (.dK (hvD w))), some (.d (fr (g - gap))), some (.d (.lst ((others st nm).map .str))), some (.d (fr tot)), some (.d (fr own)), u10, u11, u12, u13]) (S := S) (i := 8) rfl) (e_K (.int 0)) fr_top) (e_bin (e_var (i := 9) rfl) (e_K (.int 0)) fr_top) hm) (e_K (.int 0)) fLe_int)
    by_cases c3 : tot.num * own.num ≤ 0
    · rw [decide_eq_true c3] at t3
      rw [if_pos c3]
      exact e_retC ((e_ifT t3).trans (e_rets (e_K _)))
    · rw [decide_eq_false c3] at t3
      rw [if_neg c3]
      refine e_seqR ((e_ifF t3).trans e_snil) ?_
      have hab : ∀ q : Rat, fAbs S [.d (.int q.num)] = some (.d (.int (if q.num < 0 then -q.num else q.num))) := fun q => rfl
      have hna : (if own.num < 0 then -own.num else own.num) = (own.num.natAbs : Int) := by split <;> omega
      have hoB := hP.1
      have e9 := sp_timesW S (q := absq tot) (a := (own.den : Int)) (b := own.num.natAbs) (absq_B hP.2) (B.d hoB) hoB.1 (by omega) (by omega) (by omega) (by omega)
      refine e_rets (e_call (e_cons (e_tup (e_cons (e_app (e_cons (e_bin (e_var rfl) (e_K _) fr_top) e_nil) (hab tot)) (e_cons (e_bin (e_var rfl) (e_K _) fr_bot) e_nil)) rfl (by simp)) (e_cons (e_bin (e_var rfl) (e_K _) fr_bot) (e_cons (e_app (e_cons (e_bin (e_var rfl) (e_K _) fr_top) e_nil) (hab own)) e_nil))) ?_)
      rw [fr_abs, hna]
      exact e9
end OA
namespace OA
open PySem PySem.Spec PyProof.Rows L2

/-! ### the equation, solved -/
def zsum (w : W) (nm : Str) (x : Rat) : Rows → Rows → Rat
  | s :: st, r :: rs => (r.2 - s.2) * kw w nm x s.1 + zsum w nm x st rs
  | _, _ => 0
def wo (w : W) (nm : Str) : Rows → Rat
  | [] => 0
  | s :: st => (if s.1 = nm then (0 : Rat) else ((wt w s.1 : Nat) : Rat)) + wo w nm st
theorem ksum_z (w : W) (full : Rows) (nm : Str) (x : Rat) : ∀ st rs : Rows, (∀ s ∈ st, look full s.1 = s.2) → rnames rs = rnames st → ksum w full nm x rs = zsum w nm x st rs
  | [], [], _, _ => rfl
  | [], _ :: _, _, h => by simp [rnames] at h
  | _ :: _, [], _, h => by simp [rnames] at h
  | s :: st, r :: rs, h1, h2 => by
    simp only [rnames, List.map_cons, List.cons.injEq] at h2
    rw [ksum, zsum, h2.1, h1 s List.mem_cons_self, ksum_z w full nm x st rs (fun y hy => h1 y (List.mem_cons_of_mem _ hy)) h2.2]
theorem hb_no (w : W) (nm : Str) (near x : Rat) : ∀ (st rs : Rows) (own tot : Rat), nm ∉ rnames st → hbGo w nm near st rs own tot = (own, tot + zsum w nm x st rs)
  | [], _, own, tot, _ => by simp [hbGo, zsum, Rat.add_zero]
  | s :: st, [], own, tot, _ => by simp [hbGo, zsum, Rat.add_zero]
  | s :: st, r :: rs, own, tot, h => by
    have h' : ¬ s.1 = nm ∧ nm ∉ rnames st := by
      constructor
      · exact fun z => h (by rw [← z]; simp [rnames])
      · exact fun z => h (by simp only [rnames, List.map_cons]; exact List.mem_cons_of_mem _ z)
    unfold hbGo
    rw [if_neg h'.1, hb_no w nm near x st rs own _ h'.2, zsum]
    unfold kw
    rw [if_neg h'.1, Rat.add_assoc]
theorem hb_yes (w : W) (nm : Str) (near x : Rat) : ∀ (st rs : Rows) (own tot : Rat), rnames rs = rnames st → (rnames st).Nodup → nm ∈ rnames st →
    (hbGo w nm near st rs own tot).2 - (hbGo w nm near st rs own tot).1 * x = tot + zsum w nm x st rs - near * x
  | [], _, own, tot, _, _, h => by simp [rnames] at h
  | s :: st, [], own, tot, h, _, _ => by simp [rnames] at h
  | s :: st, r :: rs, own, tot, h1, h2, h3 => by
    simp only [rnames, List.map_cons, List.cons.injEq] at h1
    have h2' : s.1 ∉ rnames st ∧ (rnames st).Nodup := by simpa [rnames] using h2
    unfold hbGo
    by_cases e : s.1 = nm
    · rw [if_pos e, hb_no w nm near x st rs _ _ (by rw [← e]; exact h2'.1), zsum]
      unfold kw
      rw [if_pos e]
      grind
    · have h4 : nm ∈ rnames st := by
        simp only [rnames, List.map_cons] at h3
        rcases List.mem_cons.mp h3 with z | z
        · exact absurd z.symm e
        · exact z
      rw [if_neg e, hb_yes w nm near x st rs own _ h1.2 h2'.2 h4, zsum]
      unfold kw
      rw [if_neg e]
      grind
theorem kwhole_no (w : W) (nm : Str) (x : Rat) : ∀ rs : Rows, nm ∉ rnames rs → kwhole w nm x rs = wo w nm rs
  | [], _ => rfl
  | r :: rs, h => by
    have h' : ¬ r.1 = nm ∧ nm ∉ rnames rs := by
      constructor
      · exact fun z => h (by rw [← z]; simp [rnames])
      · exact fun z => h (by simp only [rnames, List.map_cons]; exact List.mem_cons_of_mem _ z)
    rw [kwhole, wo, kwhole_no w nm x rs h'.2]
    unfold kw
    rw [if_neg h'.1, if_neg h'.1]
theorem kwhole_yes (w : W) (nm : Str) (x : Rat) : ∀ rs : Rows, (rnames rs).Nodup → nm ∈ rnames rs → kwhole w nm x rs = x + wo w nm rs
  | [], _, h => by simp [rnames] at h
  | r :: rs, h2, h3 => by
    have h2' : r.1 ∉ rnames rs ∧ (rnames rs).Nodup := by simpa [rnames] using h2
    rw [kwhole, wo]
    unfold kw
    by_cases e : r.1 = nm
    · rw [if_pos e, if_pos e, kwhole_no w nm x rs (by rw [← e]; exact h2'.1)]
      grind
    · have h4 : nm ∈ rnames rs := by
        simp only [rnames, List.map_cons] at h3
        rcases List.mem_cons.mp h3 with z | z
        · exact absurd z.symm e
        · exact z
      rw [if_neg e, if_neg e, kwhole_yes w nm x rs h2'.2 h4]
      grind
theorem wo_names (w : W) (nm : Str) : ∀ a b : Rows, rnames a = rnames b → wo w nm a = wo w nm b
  | [], [], _ => rfl
  | [], _ :: _, h => by simp [rnames] at h
  | _ :: _, [], h => by simp [rnames] at h
  | r :: a, s :: b, h => by
    simp only [rnames, List.map_cons, List.cons.injEq] at h
    rw [wo, wo, h.1, wo_names w nm a b h.2]
theorem wo_others (w : W) (nm : Str) : ∀ st : Rows, ((weight w (others st nm) : Nat) : Rat) = wo w nm st
  | [] => rfl
  | s :: st => by
    have ih := wo_others w nm st
    unfold others at ih ⊢
    simp only [rnames, List.map_cons] at ih ⊢
    by_cases e : s.1 = nm
    · rw [List.filter_cons_of_neg (by simpa using e), ih, wo, if_pos e, Rat.zero_add]
    · rw [List.filter_cons_of_pos (by simpa using e), wo, if_neg e, ← ih]
      unfold weight
      rw [List.map_cons, List.sum_cons]
      exact Rat.natCast_add _ _
theorem hb0_eq (w : W) (g gap : Rat) (st : Rows) (nm : Str) : hb0 w g st nm gap = - ((g - gap) * ((w.rh : Rat) + wo w nm st)) := by
  unfold hb0
  rw [Rat.div_def]
  have h1 : ((1 : Nat) : Rat)⁻¹ = 1 := by decide +kernel
  have h2 : (((0 : Int) - (whole w (others st nm) : Int) : Int) : Rat) = - ((w.rh : Rat) + wo w nm st) := by
    rw [← wo_others]
    unfold whole
    rw [Rat.intCast_sub]
    show (0 : Rat) - (((w.rh + weight w (others st nm) : Nat) : Nat) : Rat) = _
    rw [Rat.natCast_add]
    grind
  rw [h1, h2]
  grind
theorem does_iff {w : W} {g gap : Rat} {st rs : Rows} {nm : Str} (x : Rat) (hn : (rnames st).Nodup) (he : rnames rs = rnames st) : does w g st rs gap nm x = decide ((hbP w g st rs nm gap).2 = (hbP w g st rs nm gap).1 * x) := by
  have key : (hbP w g st rs nm gap).2 - (hbP w g st rs nm gap).1 * x = ksum w st nm x rs - (g - gap) * ((w.rh : Rat) + kwhole w nm x rs) := by
    rw [ksum_z w st nm x st rs (look_self st hn) he]
    unfold hbP
    by_cases h : nm ∈ rnames st
    · rw [hb_yes w nm (g - gap) x st rs 0 _ he hn h, hb0_eq, kwhole_yes w nm x rs (by rw [he]; exact hn) (by rw [he]; exact h), wo_names w nm rs st he]
      grind
    · rw [hb_no w nm (g - gap) x st rs 0 _ h, hb0_eq, kwhole_no w nm x rs (by rw [he]; exact h), wo_names w nm rs st he]
      grind
  unfold does
  refine decide_eq_decide.mpr ⟨fun h => ?_, fun h => ?_⟩
  · grind
  · grind
/-- what is told is the answer -/
theorem num_den (q : Rat) : q = (q.num : Rat) / (q.den : Rat) := by
  rw [← Rat.mkRat_eq_div, Rat.mkRat_self]
theorem den_ne (q : Rat) : (q.den : Rat) ≠ 0 := by
  intro h
  have := Rat.natCast_eq_zero_iff.mp h
  exact q.den_nz this
theorem num_pos {q : Rat} : 0 < q.num ↔ 0 < q := by
  rw [Rat.lt_iff]; simp
theorem num_neg {q : Rat} : q.num < 0 ↔ q < 0 := by
  rw [Rat.lt_iff]; simp
theorem tellW_eq {own tot : Rat} (h : ¬ tot.num * own.num ≤ 0) : own ≠ 0 ∧ own * tellW own tot = tot ∧ 0 < tellW own tot := by
  have hp : 0 < tot.num * own.num := by omega
  have ho : own.num ≠ 0 := fun z => by rw [z] at hp; simp at hp
  have hne : own ≠ 0 := fun z => ho (Rat.num_eq_zero.mpr z)
  have e1 := num_den own
  have hd := den_ne own
  have key : tellW own tot = tot / own := by
    unfold tellW
    have ed : ((own.den : Int) : Rat) = (own.den : Rat) := rfl
    rw [ed]
    rcases Int.lt_or_gt_of_ne ho with h1 | h1
    · have h2 : tot.num < 0 := by
        rcases Int.lt_or_le tot.num 0 with h2 | h2
        · exact h2
        · have := Int.mul_nonpos_of_nonneg_of_nonpos h2 (by omega : own.num ≤ 0)
          omega
      have ea : absq tot = -tot := by unfold absq; rw [if_pos (num_neg.mp h2)]
      have en : ((own.num.natAbs : Nat) : Rat) = - (own.num : Rat) := by
        have : ((own.num.natAbs : Int) : Rat) = ((-own.num : Int) : Rat) := by congr 1; omega
        rw [Rat.intCast_neg] at this
        exact this
      have hnn : (own.num : Rat) ≠ 0 := fun z => ho (Rat.intCast_eq_zero_iff.mp z)
      rw [ea, en]
      generalize (own.num : Rat) = a at *
      generalize (own.den : Rat) = b at *
      subst e1
      grind
    · have h2 : 0 < tot.num := by
        rcases Int.lt_or_le 0 tot.num with h2 | h2
        · exact h2
        · have := Int.mul_nonpos_of_nonpos_of_nonneg h2 (by omega : 0 ≤ own.num)
          omega
      have ea : absq tot = tot := by unfold absq; rw [if_neg (Rat.not_lt.mpr (Rat.le_of_lt (num_pos.mp h2)))]
      have en : ((own.num.natAbs : Nat) : Rat) = (own.num : Rat) := by
        have : ((own.num.natAbs : Int) : Rat) = ((own.num : Int) : Rat) := by congr 1; omega
        exact this
      have hnn : (own.num : Rat) ≠ 0 := fun z => ho (Rat.intCast_eq_zero_iff.mp z)
      rw [ea, en]
      generalize (own.num : Rat) = a at *
      generalize (own.den : Rat) = b at *
      subst e1
      grind
  refine ⟨hne, by rw [key]; grind, ?_⟩
  rw [key]
  rcases Int.lt_or_gt_of_ne ho with h1 | h1
  · have h2 : tot.num < 0 := by
      rcases Int.lt_or_le tot.num 0 with h2 | h2
      · exact h2
      · have := Int.mul_nonpos_of_nonneg_of_nonpos h2 (by omega : own.num ≤ 0)
        omega
    have a1 := num_neg.mp h1
    have a2 := num_neg.mp h2
    have a3 : tot / own = (-tot) / (-own) := by grind
    rw [a3]
    exact Rat.mul_pos (by grind) (Rat.inv_pos.mpr (by grind))
  · have h2 : 0 < tot.num := by
      rcases Int.lt_or_le 0 tot.num with h2 | h2
      · exact h2
      · have := Int.mul_nonpos_of_nonpos_of_nonneg h2 (by omega : 0 ≤ own.num)
        omega
    exact Rat.mul_pos (num_pos.mp h2) (Rat.inv_pos.mpr (num_pos.mp h1))
end OA
namespace OA
open PySem PySem.Spec PyProof.Rows L2

theorem e_lst {en : En} {S S1 : Ss} {cl : CdL} {rs : List R} {ds : List Dt} (h1 : cl en S = some (rs, S1)) (h2 : dats rs = some ds) (h3 : ds.length ≤ 1000) : cLst cl en S = some (.d (.lst ds), S1) := by unfold cLst; simp [h1, h2, h3]
theorem fMin_int16 {S : Ss} {i j : Int} : fMin2 S [.d (.int i), .d (.int j)] = some (.d (.int (if j < i then j else i))) := rfl
theorem any_ok : PyData.strOk sAny = true := by decide +kernel
/-- told: a text, nothing, a fraction -/
theorem Sh.hD (own tot : Rat) : Sh 1 (hD own tot) := by
  unfold OA.hD
  split
  · split
    · exact (Sh.str any_ok).mono (by decide)
    · exact Sh.non.mono (by decide)
  · split
    · exact Sh.non.mono (by decide)
    · exact Sh.fr _
theorem told_any {S : Ss} (own tot : Rat) : fEq S (.d (hD own tot)) (.d (.str sAny)) = some (.d (.bl (decide (own.num = 0 ∧ tot.num = 0)))) := by
  rw [fEq_sh (Sh.hD own tot) (Sh.str any_ok)]
  congr 3
  unfold hD
  by_cases h1 : own.num = 0
  · rw [if_pos h1]
    by_cases h2 : tot.num = 0
    · rw [if_pos h2, decide_eq_true ⟨h1, h2⟩]
      show PyData.eqv (.str sAny) (.str sAny) = true
      rw [eqv_str]; simp
    · rw [if_neg h2, decide_eq_false (fun z => h2 z.2)]; rfl
  · rw [if_neg h1, decide_eq_false (fun z => h1 z.1)]
    split <;> rfl
theorem told_neany {S : Ss} (own tot : Rat) : fNe S (.d (hD own tot)) (.d (.str sAny)) = some (.d (.bl (!decide (own.num = 0 ∧ tot.num = 0)))) := by
  rw [fNe_sh (Sh.hD own tot) (Sh.str any_ok)]
  have := told_any (S := S) own tot
  rw [fEq_sh (Sh.hD own tot) (Sh.str any_ok)] at this
  injection this with this
  injection this with this
  injection this with this
  rw [this]
theorem in_bools {S : Ss} (b : Bool) (bs : List Bool) : fIn S (.d (.bl b)) (.d (.lst (bs.map .bl))) = some (.d (.bl (decide (b ∈ bs)))) := by
  have h2 : Sh 1 (.lst (bs.map Dt.bl)) := Sh.lst fun d hd => by
    obtain ⟨x, _, rfl⟩ := List.mem_map.mp hd
    exact Sh.bl x
  have key : ∀ bs : List Bool, ((Dt.pys (bs.map Dt.bl)).any fun z => PyData.eqv z (Dt.bl b).py) = decide (b ∈ bs) := by
    intro bs
    induction bs with
    | nil => simp [Dt.pys]
    | cons c bs ih =>
      rw [List.map_cons, Dt.pys, List.any_cons, ih]
      show (PyData.eqv (.bool c) (.bool b) || _) = _
      rw [PyData.eqv]
      cases b <;> cases c <;> simp
  unfold fIn isIn
  simp only [g_d]
  rw [if_pos ⟨(Sh.bl b).ok, h2.ok⟩, key]
  rfl
theorem notin_bools {S : Ss} (b : Bool) (bs : List Bool) : fNotIn S (.d (.bl b)) (.d (.lst (bs.map .bl))) = some (.d (.bl (!decide (b ∈ bs)))) := by
  have := in_bools (S := S) b bs
  unfold fIn at this
  unfold fNotIn
  cases e : isIn S (.d (.bl b)) (.d (.lst (bs.map .bl))) with
  | none => rw [e] at this; cases this
  | some k => rw [e] at this; cases this; rfl
theorem isN_hD {S : Ss} (own tot : Rat) : fIsN S (.d (hD own tot)) (.d .non) = some (.d (.bl (isNon (.d (hD own tot))))) := rfl
/-- the four weights tried -/
abbrev four4 : List Rat := [mkRat 1 2, 1, 7, 777]
theorem four_pos : ∀ x ∈ four4, 0 < x := by decide +kernel
theorem four_B : ∀ x ∈ four4, B 10 x := by unfold B; decide +kernel
theorem fours : Dt.lst [.tup [.int 1, .int 2], .tup [.int 1, .int 1], .tup [.int 7, .int 1], .tup [.int 777, .int 1]] = .lst (four4.map fr) := rfl
/-- what the law asks of a told weight -/
theorem all_any (own tot : Rat) : decide (own.num = 0 ∧ tot.num = 0) = !decide (false ∈ four4.map fun x => decide (tot = own * x)) := by
  by_cases h : own.num = 0 ∧ tot.num = 0
  · have h1 := Rat.num_eq_zero.mp h.1
    have h2 := Rat.num_eq_zero.mp h.2
    subst h1; subst h2
    simp
  · rw [decide_eq_false h]
    by_cases e1 : tot = own * 1
    · by_cases e7 : tot = own * 7
      · exfalso
        have ho : own = 0 := by grind
        have ht : tot = 0 := by grind
        exact h ⟨Rat.num_eq_zero.mpr ho, Rat.num_eq_zero.mpr ht⟩
      · simp [e7]
    · have e1' : ¬ tot = own := by rwa [Rat.mul_one] at e1
      simp [e1']
theorem none_none {own tot : Rat} (h : isNon (.d (hD own tot)) = true) : true ∉ four4.map fun x => decide (tot = own * x) := by
  intro hm
  obtain ⟨x, hx, e⟩ := List.mem_map.mp hm
  have e := of_decide_eq_true e
  have hp := four_pos x hx
  unfold hD at h
  by_cases h1 : own.num = 0
  · rw [if_pos h1] at h
    by_cases h2 : tot.num = 0
    · rw [if_pos h2] at h; cases h
    · have := Rat.num_eq_zero.mp h1
      rw [this, Rat.zero_mul] at e
      exact h2 (Rat.num_eq_zero.mpr e)
  · rw [if_neg h1] at h
    by_cases h2 : tot.num * own.num ≤ 0
    · have hne : own ≠ 0 := fun z => h1 (Rat.num_eq_zero.mpr z)
      have hpos : 0 < tot * own := by
        rw [e]
        have : own * x * own = x * (own * own) := by grind
        rw [this]
        refine Rat.mul_pos hp ?_
        rcases Int.lt_or_gt_of_ne h1 with h3 | h3
        · have := num_neg.mp h3
          have h4 : own * own = (-own) * (-own) := by grind
          rw [h4]
          exact Rat.mul_pos (by grind) (by grind)
        · exact Rat.mul_pos (num_pos.mp h3) (num_pos.mp h3)
      have h5 : ((tot.num * own.num : Int) : Rat) = tot * own * ((tot.den : Rat) * (own.den : Rat)) := by
        have a1 := num_den tot
        have a2 := num_den own
        have b1 := den_ne tot
        have b2 := den_ne own
        rw [Rat.intCast_mul]
        generalize (tot.num : Rat) = p at *
        generalize (tot.den : Rat) = q at *
        generalize (own.num : Rat) = r at *
        generalize (own.den : Rat) = s at *
        rw [a1, a2]
        grind
      have h6 : ((tot.num * own.num : Int) : Rat) ≤ ((0 : Int) : Rat) := Rat.intCast_le_intCast.mpr h2
      rw [h5] at h6
      have hd1 : (0 : Rat) < (tot.den : Rat) := by
        have : ((0 : Int) : Rat) < ((tot.den : Int) : Rat) := Rat.intCast_lt_intCast.mpr (by have := tot.den_pos; omega)
        exact this
      have hd2 : (0 : Rat) < (own.den : Rat) := by
        have : ((0 : Int) : Rat) < ((own.den : Int) : Rat) := Rat.intCast_lt_intCast.mpr (by have := own.den_pos; omega)
        exact this
      have := Rat.mul_pos hpos (Rat.mul_pos hd1 hd2)
      have hz : ((0 : Int) : Rat) = 0 := rfl
      rw [hz] at h6
      exact Rat.not_le.mpr this h6
    · rw [if_neg h2] at h; cases h
theorem tellW_B {a b : Nat} {own tot : Rat} (ho : B a own) (ht : B b tot) (h0 : 0 < b) : B (b + a) (tellW own tot) := by
  unfold tellW
  rw [← by_eq]
  exact B_by (absq_B ht) (B.d ho) ho.1 (Nat.le_refl _) h0
theorem num_one {q : Rat} (h : 0 < q) : ¬ q.num < 1 := by
  have := num_pos.mpr h
  omega
/-- where the weights are the true ones, it is told so -/
theorem told_true {own tot : Rat} {x : Rat} (hx : 0 < x) (e : tot = own * x) : hD own tot = .str sAny ∨ hD own tot = fr x := by
  unfold hD
  by_cases h1 : own.num = 0
  · have := Rat.num_eq_zero.mp h1
    rw [this, Rat.zero_mul] at e
    rw [if_pos h1, if_pos (Rat.num_eq_zero.mpr e)]
    exact .inl rfl
  · have hne : own ≠ 0 := fun z => h1 (Rat.num_eq_zero.mpr z)
    have h2 : ¬ tot.num * own.num ≤ 0 := by
      rcases Int.lt_or_gt_of_ne h1 with h3 | h3
      · have h4 : tot < 0 := by
          have := Rat.mul_pos (show 0 < -own by have := num_neg.mp h3; grind) hx
          grind
        have := Int.mul_pos_of_neg_of_neg (num_neg.mpr h4) h3
        omega
      · have h4 : 0 < tot := by rw [e]; exact Rat.mul_pos (num_pos.mp h3) hx
        have := Int.mul_pos (num_pos.mpr h4) h3
        omega
    rw [if_neg h1, if_neg h2]
    obtain ⟨_, h5, _⟩ := tellW_eq h2
    right
    congr 1
    rw [e] at h5
    grind
theorem notin_told {S : Ss} {own tot : Rat} {k : Nat} (h : hD own tot = .str sAny ∨ hD own tot = fr (k : Rat)) : fNotIn S (.d (hD own tot)) (.d (.lst [.str sAny, fr (k : Rat)])) = some (.d (.bl false)) := by
  have hl : Sh 2 (.lst [Dt.str sAny, fr (k : Rat)]) := Sh.lst (n := 1) fun d hd => by
    simp only [List.mem_cons, List.not_mem_nil, or_false] at hd
    rcases hd with rfl | rfl
    · exact (Sh.str any_ok).mono (by decide)
    · exact Sh.fr _
  have hs := Sh.hD own tot
  have key : ((Dt.pys [Dt.str sAny, fr (k : Rat)]).any fun z => PyData.eqv z (hD own tot).py) = true := by
    rw [Dt.pys, Dt.pys, Dt.pys, List.any_cons, List.any_cons]
    rcases h with h | h
    · rw [h]
      have : PyData.eqv (Dt.str sAny).py (Dt.str sAny).py = true := by
        show PyData.eqv (.str sAny) (.str sAny) = true
        rw [eqv_str]; simp
      rw [this]; rfl
    · rw [h]
      have : PyData.eqv (fr (k : Rat)).py (fr (k : Rat)).py = true := by rw [eqv_fr]; simp
      rw [this]; simp
  have hi : isIn S (.d (hD own tot)) (.d (.lst [.str sAny, fr (k : Rat)])) = some true := by
    unfold isIn
    generalize hz : hD own tot = z at *
    simp only [g_d]
    have hif : (if SeqAt.shaped z.py = true ∧ SeqAt.shaped (Dt.lst [Dt.str sAny, fr (k : Rat)]).py = true then some ((Dt.pys [Dt.str sAny, fr (k : Rat)]).any fun y => PyData.eqv y z.py) else none) = some true := by
      rw [if_pos ⟨hs.ok, hl.ok⟩, key]
    refine Eq.trans ?_ hif
    cases z <;> rfl
  unfold fNotIn
  rw [hi]; rfl
def c_nm16 : CdS := (sCons (sSet 10 (cCall f_heavy_by (cCons (cVar 3) (cCons (cVar 4) (cCons (cVar 9) (cCons (cVar 5) (cCons (cVar 8) cNil))))))) (sCons (sSet 11 (cLst (cCons (cTup (cCons (cK (.int 1)) (cCons (cK (.int 2)) cNil))) (cCons (cTup (cCons (cK (.int 1)) (cCons (cK (.int 1)) cNil))) (cCons (cTup (cCons (cK (.int 7)) (cCons (cK (.int 1)) cNil))) (cCons (cTup (cCons (cK (.int 777)) (cCons (cK (.int 1)) cNil))) cNil)))))) (sCons (sSet 12 (cComp [16] (cIter (cVar 11)) (gNm 16) kYes (cCall f_l_does (cCons (cVar 3) (cCons (cVar 4) (cCons (cVar 9) (cCons (cVar 16) (cCons (cTup (cCons (cVar 5) (cCons (cVar 8) cNil))) cNil)))))))) (sCons (sIf (cTst (cBin fNe (cBin fEq (cVar 10) (cK (.str (Str.ofString "any")))) (cBin fNotIn (cK (.bl false)) (cVar 12)))) (sCons (sRet (cK (.bl false))) sNil) sNil) (sCons (sIf (cTst (cBin fIsN (cVar 10) (cK .non))) (sCons (sIf (cTst (cBin fIn (cK (.bl true)) (cVar 12))) (sCons (sRet (cK (.bl false))) sNil) sNil) sNil) (sCons (sIf (cTst (cBin fNe (cVar 10) (cK (.str (Str.ofString "any"))))) (sCons (sSet 13 (cCall f_l_does (cCons (cVar 3) (cCons (cVar 4) (cCons (cVar 9) (cCons (cVar 10) (cCons (cTup (cCons (cVar 5) (cCons (cVar 8) cNil))) cNil))))))) (sCons (sIf (qqOr (cTst (cBin fLt (cBin fIx (cVar 10) (cK (.int 0))) (cK (.int 1)))) (qqNot (cTst (cVar 13)))) (sCons (sRet (cK (.bl false))) sNil) sNil) sNil)) sNil) sNil)) (sCons (sSet 14 (cCall f_l_weight (cCons (cVar 3) (cCons (cLst (cCons (cVar 9) cNil)) cNil)))) (sCons (sIf (qqAnd (cTst (cBin fEq (cVar 8) (cVar 6))) (cTst (cBin fNotIn (cVar 10) (cLst (cCons (cK (.str (Str.ofString "any"))) (cCons (cTup (cCons (cVar 14) (cCons (cK (.int 1)) cNil))) cNil)))))) (sCons (sRet (cK (.bl false))) sNil) sNil) sNil)))))))
theorem qq_andB16 {ca cb : CdB} {en : En} {S : Ss} {a b : Bool} (h1 : ca en S = some (a, S)) (h2 : a = true → cb en S = some (b, S)) : qqAnd ca cb en S = some (a && b, S) := by
  unfold qqAnd
  cases a with
  | true => simp [h1, h2 rfl]
  | false => simp [h1]
theorem qq_or {ca cb : CdB} {en : En} {S S1 S2 : Ss} (h1 : ca en S = some (false, S1)) (h2 : cb en S1 = some (false, S2)) : qqOr ca cb en S = some (false, S2) := by unfold qqOr; simp [h1, h2]
theorem qq_not {c : CdB} {en : En} {S S1 : Ss} {b : Bool} (h : c en S = some (b, S1)) : qqNot c en S = some (!b, S1) := by unfold qqNot; simp [h]
theorem lsum_kw {w : W} (st : Rows) (nm : Str) : ∀ rs : Rows, ksum w st nm (wt w nm : Nat) rs = lsum w st rs
  | [] => rfl
  | r :: rs => by
    rw [ksum, lsum, lsum_kw st nm rs]
    unfold kw
    split
    · rename_i h; rw [h]
    · rfl
theorem kwhole_wt {w : W} (nm : Str) : ∀ rs : Rows, kwhole w nm (wt w nm : Nat) rs = ((weight w (rnames rs) : Nat) : Rat)
  | [] => rfl
  | r :: rs => by
    rw [kwhole, kwhole_wt nm rs]
    unfold kw weight
    simp only [rnames, List.map_cons, List.sum_cons]
    rw [Rat.natCast_add]
    split
    · rename_i h; rw [h]
    · rfl
theorem nm16 (S : Ss) (a0 a1 a2 a7 a15 a16 : Option R) {w : W} (hw : Made w) {g gap : Rat} {d : Dt} {st rs : Rows} (hs : SOkay w g st) (hd : d = rowsD rs) (hr : ROk w 11 rs) (he : rnames rs = rnames st) (hgap : B 262 gap) {nm : Str} (hnm : nm ∈ w.names) (u10 u11 u12 u13 u14 : Option R) : ∃ v10 v11 v12 v13 v14,
    c_nm16 [a0, a1, a2, some (.d (eW w)), some (.d (eSt g st)), some (.d d), some (.d (fr (gapL w g st rs))), a7, some (.d (fr gap)), some (.d (.str nm)), u10, u11, u12, u13, u14, a15, a16] S
      = some (.nx, [a0, a1, a2, some (.d (eW w)), some (.d (eSt g st)), some (.d d), some (.d (fr (gapL w g st rs))), a7, some (.d (fr gap)), some (.d (.str nm)), v10, v11, v12, v13, v14, a15, a16], S) := by
  have h := hw.ok
  have hst := hs.rok h
  have hsok : SOk (rnames st) := fun x hx => hw.sok x (hst.nms x hx)
  have hg : B 262 g := hs.gB.mono (by decide)
  have htup : tupV d = some (rs.map eRow) := by rw [hd]; exact rowsD_tup rs
  have hitm : itemsOf d = some (rs.map eRow) := by rw [hd]; exact rowsD_items rs
  have hin : ∀ r ∈ rs, r.1 ∈ rnames st := fun r hr => by rw [← he]; exact List.mem_map.mpr ⟨r, hr, rfl⟩
  have e10 := sp_heavy_by S h htup (by decide) (by decide) hg hgap hst hr hsok (hw.sok nm hnm) (by decide) (by decide)
  have hnear := B_sub hg hgap
  have hol : (others st nm).length ≤ 6 := Nat.le_trans (List.length_filter_le _ _) (by have := hst.len; simpa [rnames] using this)
  have hb0B : B (262 + 262 + 1 + 9) (hb0 w g st nm gap) := by
    unfold hb0
    rw [← by_eq]
    exact B_by hnear (k := 9) (by have := whole_le h hol; omega) (by decide) (Nat.le_refl _) (by decide)
  have hP := hb_B h (by decide) nm hnear st rs (fun r hx => hst.pl r hx) (fun r hx => hr.pl r hx) 0 (hb0 w g st nm gap) _ (B_zero (by decide)) hb0B
  have hbP' : hbGo w nm (g - gap) st rs 0 (hb0 w g st nm gap) = hbP w g st rs nm gap := rfl
  rw [hbP'] at hP
  have hdoes : ∀ (m : Nat) (x : Rat), B m x → 6 ≤ m → m ≤ 1270 → f_l_does [.d (eW w), .d (eSt g st), .d (.str nm), .d (fr x), .d (.tup [d, fr gap])] S = some (.d (.bl (decide ((hbP w g st rs nm gap).2 = (hbP w g st rs nm gap).1 * x))), S) := fun m x hx h6 hm => by
    rw [sp_l_does S h hitm (by decide) h6 (by decide) hx hg hgap hst hr hin hnm (by decide) hm (by decide), does_iff x hst.nd he]
  have htrue : gap = gapL w g st rs → (hbP w g st rs nm gap).2 = (hbP w g st rs nm gap).1 * (wt w nm : Nat) := by
    intro eg
    have e1 := does_iff (w := w) (g := g) (gap := gap) (st := st) (rs := rs) (nm := nm) (wt w nm : Nat) hst.nd he
    refine of_decide_eq_true (e1.symm.trans ?_)
    unfold does
    rw [lsum_kw, kwhole_wt, he, eg]
    refine decide_eq_true ?_
    unfold gapL
    have hwp : ((whole w (rnames st) : Nat) : Rat) ≠ 0 := fun z => by
      have := wholeR_pos h (rnames st)
      rw [z] at this
      exact Rat.lt_irrefl this
    have hww : ((whole w (rnames st) : Nat) : Rat) = (w.rh : Rat) + ((weight w (rnames st) : Nat) : Rat) := Rat.natCast_add _ _
    rw [hww] at hwp ⊢
    grind
  have htot := hP.2.mono (m := 714) (by have := hst.len; omega)
  have hown := hP.1.mono (m := 549) (by omega)
  generalize (hbP w g st rs nm gap).1 = own at *
  generalize (hbP w g st rs nm gap).2 = tot at *
  have hc := compN_map (vs := [16]) (g := gNm 16) (c := cCall f_l_does (cCons (cVar 3) (cCons (cVar 4) (cCons (cVar 9) (cCons (cVar 16) (cCons (cTup (cCons (cVar 5) (cCons (cVar 8) cNil))) cNil)))))) (en := [a0, a1, a2, some (.d (eW w)), some (.d (eSt g st)), some (.d d), some (.d (fr (gapL w g st rs))), a7, some (.d (fr gap)), some (.d (.str nm)), some (.d (hD own tot)), some (.d (.lst (four4.map fr))), u12, u13, u14, a15, a16]) (S := S)
    fr (fun x => .bl (decide (tot = own * x))) four4 (fun x hx => ⟨_, rfl, e_call (e_cons (e_var rfl) (e_cons (e_var rfl) (e_cons (e_var rfl) (e_cons (e_var rfl) (e_cons (e_tup (e_cons (e_var rfl) (e_cons (e_var rfl) e_nil)) rfl (by simp)) e_nil))))) (hdoes 10 x (four_B x hx) (by decide) (by decide))⟩)
  have hbm : four4.map (fun x => Dt.bl (decide (tot = own * x))) = (four4.map fun x => decide (tot = own * x)).map .bl := by rw [List.map_map]; rfl
  rw [hbm] at hc
  have hwtp := wt_pos h hnm
  have hwt0 : (0 : Rat) < ((wt w nm : Nat) : Rat) := by
    have : ((0 : Int) : Rat) < ((wt w nm : Int) : Rat) := Rat.intCast_lt_intCast.mpr (by omega)
    exact this
  have eW14 : f_l_weight [.d (eW w), .d (.lst [.str nm])] S = some (.d (.int (wt w nm : Int)), S) := by
    have := sp_l_weight S w h (.lst [.str nm]) [nm] rfl (by simpa using hnm)
    rw [this]
    simp [weight]
  -- the last question
  have last : ∀ v13, sCons (sSet 14 (cCall f_l_weight (cCons (cVar 3) (cCons (cLst (cCons (cVar 9) cNil)) cNil)))) (sCons (sIf (qqAnd (cTst (cBin fEq (cVar 8) (cVar 6))) (cTst (cBin fNotIn (cVar 10) (cLst (cCons (cK (.str (Str.ofString "any"))) (cCons (cTup (cCons (cVar 14) (cCons (cK (.int 1)) cNil))) cNil)))))) (sCons (sRet (cK (.bl false))) sNil) sNil) sNil)
      [a0, a1, a2, some (.d (eW w)), some (.d (eSt g st)), some (.d d), some (.d (fr (gapL w g st rs))), a7, some (.d (fr gap)), some (.d (.str nm)), some (.d (hD own tot)), some (.d (.lst (four4.map fr))), some (.d (.lst ((four4.map fun x => decide (tot = own * x)).map .bl))), v13, u14, a15, a16] S
      = some (.nx, [a0, a1, a2, some (.d (eW w)), some (.d (eSt g st)), some (.d d), some (.d (fr (gapL w g st rs))), a7, some (.d (fr gap)), some (.d (.str nm)), some (.d (hD own tot)), some (.d (.lst (four4.map fr))), some (.d (.lst ((four4.map fun x => decide (tot = own * x)).map .bl))), v13, some (.d (.int (wt w nm : Int))), a15, a16], S) := by
    intro v13
    refine e_seqR (e_set (e_call (e_cons (e_var rfl) (e_cons (show cLst _ _ S = some (.d (.lst [.str nm]), S) from rfl) e_nil)) eW14)) ?_
    refine e_seqR ((e_ifF ((qq_andB16 (b := false) (e_tst (e_bin (e_var rfl) (e_var rfl) fEq_fr)) fun eg => ?_).trans (by rw [Bool.and_false]))).trans e_snil) e_snil
    have eg := of_decide_eq_true eg
    refine e_tst (e_bin (e_var rfl) (b := .d (.lst [.str sAny, fr ((wt w nm : Nat) : Rat)])) ?_ (notin_told (told_true hwt0 (htrue eg))))
    unfold cLst
    rw [e_cons (e_K _) (e_cons (e_tup (e_cons (e_var rfl) (e_cons (e_K _) e_nil)) rfl (by simp)) e_nil)]
    rfl
  have start : ∀ z, sCons (sIf (cTst (cBin fIsN (cVar 10) (cK .non))) (sCons (sIf (cTst (cBin fIn (cK (.bl true)) (cVar 12))) (sCons (sRet (cK (.bl false))) sNil) sNil) sNil) (sCons (sIf (cTst (cBin fNe (cVar 10) (cK (.str (Str.ofString "any"))))) (sCons (sSet 13 (cCall f_l_does (cCons (cVar 3) (cCons (cVar 4) (cCons (cVar 9) (cCons (cVar 10) (cCons (cTup (cCons (cVar 5) (cCons (cVar 8) cNil))) cNil))))))) (sCons (sIf (qqOr (cTst (cBin fLt (cBin fIx (cVar 10) (cK (.int 0))) (cK (.int 1)))) (qqNot (cTst (cVar 13)))) (sCons (sRet (cK (.bl false))) sNil) sNil) sNil)) sNil) sNil)) (sCons (sSet 14 (cCall f_l_weight (cCons (cVar 3) (cCons (cLst (cCons (cVar 9) cNil)) cNil)))) (sCons (sIf (qqAnd (cTst (cBin fEq (cVar 8) (cVar 6))) (cTst (cBin fNotIn (cVar 10) (cLst (cCons (cK (.str (Str.ofString "any"))) (cCons (cTup (cCons (cVar 14) (cCons (cK (.int 1)) cNil))) cNil)))))) (sCons (sRet (cK (.bl false))) sNil) sNil) sNil))
      [a0, a1, a2, some (.d (eW w)), some (.d (eSt g st)), some (.d d), some (.d (fr (gapL w g st rs))), a7, some (.d (fr gap)), some (.d (.str nm)), some (.d (hD own tot)), some (.d (.lst (four4.map fr))), some (.d (.lst ((four4.map fun x => decide (tot = own * x)).map .bl))), u13, u14, a15, a16] S = z →
      c_nm16 [a0, a1, a2, some (.d (eW w)), some (.d (eSt g st)), some (.d d), some (.d (fr (gapL w g st rs))), a7, some (.d (fr gap)), some (.d (.str nm)), u10, u11, u12, u13, u14, a15, a16] S = z := by
    intro z hz
    unfold c_nm16
    refine e_seqR (e_set (e_call (e_cons (e_var rfl) (e_cons (e_var rfl) (e_cons (e_var rfl) (e_cons (e_var rfl) (e_cons (e_var rfl) e_nil))))) e10)) ?_
    refine e_seqR (e_set (show cLst _ _ S = some (.d (.lst (four4.map fr)), S) from rfl)) ?_
    refine e_seqR (e_set (e_comp (e_iter (e_var rfl) rfl) hc)) ?_
    refine e_seqR ((e_ifF ((e_tst (e_bin (e_bin (e_var rfl) (e_K _) (told_any own tot)) (e_bin (e_K _) (e_var rfl) (notin_bools false _)) fNe_bl)).trans (by rw [all_any]; simp))).trans e_snil) hz
  cases hnon : isNon (.d (hD own tot)) with
  | true =>
    have hnn := none_none hnon
    refine ⟨some (.d (hD own tot)), some (.d (.lst (four4.map fr))), some (.d (.lst ((four4.map fun x => decide (tot = own * x)).map .bl))), u13, some (.d (.int (wt w nm : Int))), start _ ?_⟩
    refine e_seqR ((e_ifT ((e_tst (e_bin (e_var rfl) (e_K _) (isN_hD own tot))).trans (by rw [hnon]))).trans (e_seqR ((e_ifF ((e_tst (e_bin (e_K _) (e_var rfl) (in_bools true _))).trans (by rw [decide_eq_false hnn]))).trans e_snil) e_snil)) ?_
    exact last u13
  | false =>
    by_cases hany : own.num = 0 ∧ tot.num = 0
    · refine ⟨some (.d (hD own tot)), some (.d (.lst (four4.map fr))), some (.d (.lst ((four4.map fun x => decide (tot = own * x)).map .bl))), u13, some (.d (.int (wt w nm : Int))), start _ ?_⟩
      refine e_seqR ((e_ifF ((e_tst (e_bin (e_var rfl) (e_K _) (isN_hD own tot))).trans (by rw [hnon]))).trans (e_seqR ((e_ifF ((e_tst (e_bin (e_var rfl) (e_K _) (told_neany own tot))).trans (by rw [decide_eq_true hany]; rfl))).trans e_snil) e_snil)) ?_
      exact last u13
    · have ho : own.num ≠ 0 := fun z => by
        unfold hD at hnon
        rw [if_pos z] at hnon
        by_cases h2 : tot.num = 0
        · exact hany ⟨z, h2⟩
        · rw [if_neg h2] at hnon; cases hnon
      have ht : ¬ tot.num * own.num ≤ 0 := fun z => by
        unfold hD at hnon
        rw [if_neg ho, if_pos z] at hnon; cases hnon
      have hfr : hD own tot = fr (tellW own tot) := by unfold hD; rw [if_neg ho, if_neg ht]
      obtain ⟨_, q1, q2⟩ := tellW_eq ht
      have hTB := tellW_B hown htot (by decide)
      refine ⟨some (.d (hD own tot)), some (.d (.lst (four4.map fr))), some (.d (.lst ((four4.map fun x => decide (tot = own * x)).map .bl))), some (.d (.bl true)), some (.d (.int (wt w nm : Int))), start _ ?_⟩
      refine e_seqR ((e_ifF ((e_tst (e_bin (e_var rfl) (e_K _) (isN_hD own tot))).trans (by rw [hnon]))).trans (e_seqR ((e_ifT ((e_tst (e_bin (e_var rfl) (e_K _) (told_neany own tot))).trans (by rw [decide_eq_false hany]; rfl))).trans ?_) e_snil)) (last _)
      refine e_seqR (e_set (e_call (e_cons (e_var rfl) (e_cons (e_var rfl) (e_cons (e_var rfl) (e_cons (r := .d (fr (tellW own tot))) (by rw [← hfr]; exact e_var rfl) (e_cons (e_tup (e_cons (e_var rfl) (e_cons (e_var rfl) e_nil)) rfl (by simp)) e_nil))))) ((hdoes 1263 _ hTB (by decide) (by decide)).trans (by rw [decide_eq_true q1.symm])))) ?_
      refine e_seqR ((e_ifF (qq_or (e_tst (e_bin (e_bin (a := .d (fr (tellW own tot))) (by rw [← hfr]; exact e_var rfl) (e_K _) fr_top) (e_K _) (fLt_int.trans (by rw [decide_eq_false (num_one q2)])))) (qq_not (b := true) (e_tst (e_var rfl))))).trans e_snil) e_snil
theorem nms16 (S : Ss) (a0 a1 a2 a7 a15 a16 : Option R) {w : W} (hw : Made w) {g gap : Rat} {st rs : Rows} (hs : SOkay w g st) (hr : ROk w 11 rs) (he : rnames rs = rnames st) (hgap : B 262 gap) : ∀ (nms : List Str), (∀ n ∈ nms, n ∈ w.names) → ∀ (u9 u10 u11 u12 u13 u14 : Option R), ∃ v9 v10 v11 v12 v13 v14,
    forN (gNm 9) c_nm16 (nms.map .str) [a0, a1, a2, some (.d (eW w)), some (.d (eSt g st)), some (.d (rowsD rs)), some (.d (fr (gapL w g st rs))), a7, some (.d (fr gap)), u9, u10, u11, u12, u13, u14, a15, a16] S
      = some (.nx, [a0, a1, a2, some (.d (eW w)), some (.d (eSt g st)), some (.d (rowsD rs)), some (.d (fr (gapL w g st rs))), a7, some (.d (fr gap)), v9, v10, v11, v12, v13, v14, a15, a16], S)
  | [], _, u9, u10, u11, u12, u13, u14 => ⟨u9, u10, u11, u12, u13, u14, rfl⟩
  | n :: nms, h, u9, u10, u11, u12, u13, u14 => by
    obtain ⟨v10, v11, v12, v13, v14, e1⟩ := nm16 S a0 a1 a2 a7 a15 a16 hw hs rfl hr he hgap (h n List.mem_cons_self) u10 u11 u12 u13 u14
    obtain ⟨w9, w10, w11, w12, w13, w14, e2⟩ := nms16 S a0 a1 a2 a7 a15 a16 hw hs hr he hgap nms (fun x hx => h x (List.mem_cons_of_mem _ hx)) (some (.d (.str n))) v10 v11 v12 v13 v14
    exact ⟨w9, w10, w11, w12, w13, w14, (e_for1 rfl e1).trans e2⟩
theorem gaps16 (S : Ss) (a0 a1 a2 a7 a15 a16 : Option R) {w : W} (hw : Made w) {g : Rat} {st rs : Rows} (hs : SOkay w g st) (hr : ROk w 11 rs) (he : rnames rs = rnames st) : ∀ (gaps : List Rat), (∀ x ∈ gaps, B 262 x) → ∀ (u8 u9 u10 u11 u12 u13 u14 : Option R), ∃ v8 v9 v10 v11 v12 v13 v14,
    forN (gNm 8) (sCons (sFor (cIter (cCall f_l_names (cCons (cVar 3) cNil))) (gNm 9) c_nm16) sNil) (gaps.map fr) [a0, a1, a2, some (.d (eW w)), some (.d (eSt g st)), some (.d (rowsD rs)), some (.d (fr (gapL w g st rs))), a7, u8, u9, u10, u11, u12, u13, u14, a15, a16] S
      = some (.nx, [a0, a1, a2, some (.d (eW w)), some (.d (eSt g st)), some (.d (rowsD rs)), some (.d (fr (gapL w g st rs))), a7, v8, v9, v10, v11, v12, v13, v14, a15, a16], S)
  | [], _, u8, u9, u10, u11, u12, u13, u14 => ⟨u8, u9, u10, u11, u12, u13, u14, rfl⟩
  | x :: gaps, h, u8, u9, u10, u11, u12, u13, u14 => by
    obtain ⟨v9, v10, v11, v12, v13, v14, e1⟩ := nms16 S a0 a1 a2 a7 a15 a16 hw hs hr he (h x List.mem_cons_self) (isortS w.names) (fun n hn => (OA.isortS_perm w.names).subset hn) u9 u10 u11 u12 u13 u14
    obtain ⟨w8, w9, w10, w11, w12, w13, w14, e2⟩ := gaps16 S a0 a1 a2 a7 a15 a16 hw hs hr he gaps (fun y hy => h y (List.mem_cons_of_mem _ hy)) (some (.d (fr x))) v9 v10 v11 v12 v13 v14
    refine ⟨w8, w9, w10, w11, w12, w13, w14, Eq.trans (e_for1 rfl ?_) e2⟩
    exact e_seqR (Eq.trans (e_sfor (e_iter (e_call (e_cons (e_var rfl) e_nil) (sp_names S w hw.ok)) rfl)) e1) e_snil
def c_out16 : CdS := (sCons (sSet 2 (cCall f_l_bag (cCons (cVar 0) (cCons (cVar 1) cNil)))) (sCons (sSet 3 (cCall f_l_world (cCons (cVar 2) (cCons (cK (.int 4)) (cCons (cK (.int 2)) cNil))))) (sCons (sSet 4 (cCall f_l_standing (cCons (cVar 2) (cCons (cVar 3) cNil)))) (sCons (sSet 5 (cCall f_l_of (cCons (cVar 2) (cCons (cLst (cCons (cBin fIx (cVar 4) (cK (.int 1))) (cCons (cCall f_l_rows (cCons (cVar 2) (cCons (cVar 3) (cCons (cCall f_l_aboard (cCons (cVar 4) cNil)) cNil)))) cNil))) cNil)))) (sCons (sSet 6 (cCall f_l_gap (cCons (cVar 3) (cCons (cVar 4) (cCons (cVar 5) cNil))))) (sCons (sSet 7 (cBin fAdd (cLst (cCons (cBin fIx (cVar 4) (cK (.int 0))) (cCons (cTup (cCons (cCall f_l_take (cCons (cVar 2) (cCons (cK (.int 50)) cNil))) (cCons (cK (.int 1)) cNil))) cNil))) (cComp [15] (cIter (cLst (cCons (cVar 6) cNil))) (gNm 15) (qqNot (cTst (cCall f_l_less (cCons (cVar 15) (cCons (cTup (cCons (cK (.int 0)) (cCons (cK (.int 1)) cNil))) cNil))))) (cVar 15)))) (sCons (sFor (cIter (cVar 7)) (gNm 8) (sCons (sFor (cIter (cCall f_l_names (cCons (cVar 3) cNil))) (gNm 9) c_nm16) sNil)) sNil)))))))
theorem out16 (D : Ss) (ns : List Int) (k : Nat) (hk : k < 2 ^ 20) (t2 t3 t4 t5 t6 t7 t8 t9 t10 t11 t12 t13 t14 t15 t16 : Option R) : ∃ t2' t3' t4' t5' t6' t7' t8' t9' t10' t11' t12' t13' t14' t15' t16' D',
    c_out16 [some (.s ns), some (.d (.int (k : Int))), t2, t3, t4, t5, t6, t7, t8, t9, t10, t11, t12, t13, t14, t15, t16] D = some (.nx, [some (.s ns), some (.d (.int (k : Int))), t2', t3', t4', t5', t6', t7', t8', t9', t10', t11', t12', t13', t14', t15', t16'], D') := by
  obtain ⟨p, hp, e1⟩ := sp_bag D ns k hk
  obtain ⟨w, p2, hp2, hw, e2⟩ := sp_world D [] p hp 4 2 (by decide) (by decide) (by decide)
  obtain ⟨g, st, p3, hp3, hs, e3⟩ := sp_standing D [] p2 hp2 w hw
  obtain ⟨r1, p4, hp4, hn1, hr1, e4⟩ := sp_rows D [] p3 hp3 w hw.ok (names (rnames st)) (rnames st) rfl
  obtain ⟨x, p5, hx, hp5, e5⟩ := sp_of D [] p4 hp4 [rowsD st, rowsD r1] (by simp) (by simp)
  have h := hw.ok
  have hst := hs.rok h
  obtain ⟨rs, rfl, he, hrs⟩ : ∃ rs : Rows, x = rowsD rs ∧ rnames rs = rnames st ∧ ∀ r ∈ rs, In w r.2 ∧ B 11 r.2 := by
    simp only [List.mem_cons, List.not_mem_nil, or_false] at hx
    rcases hx with rfl | rfl
    · exact ⟨st, rfl, rfl, hs.rows⟩
    · exact ⟨r1, rfl, hn1, hr1⟩
  have hin : ∀ r ∈ rs, r.1 ∈ rnames st := fun r hr => by rw [← he]; exact List.mem_map.mpr ⟨r, hr, rfl⟩
  have hr : ROk w 11 rs := ⟨fun r hr => hs.lot.mem _ (hin r hr), fun r hr => (hrs r hr).2, by have := hs.lot.len h; rw [← he] at this; simpa [rnames] using this, by rw [he]; exact hs.lot.nd h⟩
  have e6 := sp_l_gap (sb D p5 []) h (rowsD_items rs) (hs.gB.mono (by decide)) hst hr hin (by decide) (by decide)
  have hoB : B 261 (gapL w g st rs) := by
    rw [gapL_eq hst.nd he]
    exact (behind_B h (front_B h hs.gB hst (by decide)) hr (by decide)).mono (by decide)
  obtain ⟨r7, p6, hp6, hr7, e7⟩ := sp_take D [] p5 hp5 50 (by decide) (m8 (by decide))
  have e8 := sp_is_lesser (sb D p6 []) (hoB.mono (m := 4000) (by decide)) (B_zero (n := 4000) (by decide))
  have hc := compN_filter (vs := [15]) (g := gNm 15) (t := qqNot (cTst (cCall f_l_less (cCons (cVar 15) (cCons (cTup (cCons (cK (.int 0)) (cCons (cK (.int 1)) cNil))) cNil))))) (c := cVar 15) (en := [some (.s ns), some (.d (.int (k : Int))), some (.c D.length), some (.d (eW w)), some (.d (eSt g st)), some (.d (rowsD rs)), some (.d (fr (gapL w g st rs))), t7, t8, t9, t10, t11, t12, t13, t14, t15, t16]) (S := sb D p6 []) fr fr (fun q => !decide (q < 0)) [gapL w g st rs] (fun q hq => by
    have := List.mem_singleton.mp hq
    subst this
    exact ⟨_, rfl, qq_not (e_tst (e_call (e_cons (e_var rfl) (e_cons (e_tup (e_cons (e_K _) (e_cons (e_K _) e_nil)) rfl (by simp)) e_nil)) (by rw [l_less_eq]; exact e8))), fun _ => e_var rfl⟩)
  have hg2 : ∀ q ∈ [g, (r7 : Rat)] ++ [gapL w g st rs].filter (fun q => !decide (q < 0)), B 262 q := by
    intro q hq
    rcases List.mem_append.mp hq with hq | hq
    · simp only [List.mem_cons, List.not_mem_nil, or_false] at hq
      rcases hq with rfl | rfl
      · exact hs.gB.mono (by decide)
      · exact (nat_B (n := 6) (by simp; omega) (by decide)).mono (by decide)
    · have := List.mem_singleton.mp (List.mem_filter.mp hq).1
      subst this
      exact hoB.mono (by decide)
  obtain ⟨u8, u9, u10, u11, u12, u13, u14, eG⟩ := gaps16 (sb D p6 []) (some (.s ns)) (some (.d (.int (k : Int)))) (some (.c D.length)) (some (.d (.lst (([g, (r7 : Rat)] ++ [gapL w g st rs].filter (fun q => !decide (q < 0))).map fr)))) t15 t16 hw hs hr he _ hg2 t8 t9 t10 t11 t12 t13 t14
  refine ⟨some (.c D.length), some (.d (eW w)), some (.d (eSt g st)), some (.d (rowsD rs)), some (.d (fr (gapL w g st rs))), some (.d (.lst (([g, (r7 : Rat)] ++ [gapL w g st rs].filter (fun q => !decide (q < 0))).map fr))), u8, u9, u10, u11, u12, u13, u14, t15, t16, sb D p6 [], ?_⟩
  unfold c_out16
  refine e_seqR (e_set (e_call (e_cons (e_var rfl) (e_cons (e_var rfl) e_nil)) e1)) ?_
  refine e_seqR (e_set (e_call (e_cons (e_var rfl) (e_cons (e_K _) (e_cons (e_K _) e_nil))) e2)) ?_
  refine e_seqR (e_set (e_call (e_cons (e_var rfl) (e_cons (e_var rfl) e_nil)) e3)) ?_
  refine e_seqR (e_set (e_call (e_cons (e_var rfl) (e_cons (r := .d (.lst [rowsD st, rowsD r1])) (S1 := sb D p4 []) ?_ e_nil)) e5)) ?_
  · unfold cLst
    rw [e_cons (e_bin (e_var rfl) (e_K _) st_one) (e_cons (e_call (e_cons (e_var rfl) (e_cons (e_var rfl) (e_cons (e_call (e_cons (e_var rfl) e_nil) (by rw [l_aboard_eq]; exact sp_aboard_of _ g st)) e_nil))) e4) e_nil)]
    rfl
  refine e_seqR (e_set (e_call (e_cons (e_var rfl) (e_cons (e_var rfl) (e_cons (e_var rfl) e_nil))) e6)) ?_
  refine e_seqR (e_set (e_bin (a := .d (.lst [fr g, fr (r7 : Rat)])) (S1 := sb D p6 []) ?_ (e_comp (e_iter (show cLst _ _ _ = some (.d (.lst [fr (gapL w g st rs)]), _) from rfl) rfl) hc) (z := .d (.lst (([g, (r7 : Rat)] ++ [gapL w g st rs].filter (fun q => !decide (q < 0))).map fr))) ?_)) ?_
  · exact e_lst (e_cons (e_bin (e_var rfl) (e_K _) st_zero) (e_cons (e_tup (e_cons (e_call (e_cons (e_var rfl) (e_cons (e_K _) e_nil)) e7) (e_cons (e_K _) e_nil)) rfl (by simp)) e_nil)) rfl (by simp)
  · have hl := List.length_filter_le (fun q : Rat => !decide (q < 0)) [gapL w g st rs]
    unfold fAdd
    simp only [g_d]
    rw [if_pos (by simp at hl ⊢; omega), List.map_append]
    rfl
  · exact e_seqR (Eq.trans (e_sfor (e_iter (e_var rfl) rfl)) eG) e_snil
theorem loop16 (ns : List Int) : ∀ (ks : List Nat), (∀ k ∈ ks, k < 2 ^ 20) → ∀ (D : Ss) (t1 t2 t3 t4 t5 t6 t7 t8 t9 t10 t11 t12 t13 t14 t15 t16 : Option R), ∃ t1' t2' t3' t4' t5' t6' t7' t8' t9' t10' t11' t12' t13' t14' t15' t16' D',
    forN (gNm 1) c_out16 (ks.map fun (i : Nat) => Dt.int (0 + (i : Int))) [some (.s ns), t1, t2, t3, t4, t5, t6, t7, t8, t9, t10, t11, t12, t13, t14, t15, t16] D = some (.nx, [some (.s ns), t1', t2', t3', t4', t5', t6', t7', t8', t9', t10', t11', t12', t13', t14', t15', t16'], D')
  | [], _, D, t1, t2, t3, t4, t5, t6, t7, t8, t9, t10, t11, t12, t13, t14, t15, t16 => ⟨t1, t2, t3, t4, t5, t6, t7, t8, t9, t10, t11, t12, t13, t14, t15, t16, D, rfl⟩
  | k :: ks, h, D, t1, t2, t3, t4, t5, t6, t7, t8, t9, t10, t11, t12, t13, t14, t15, t16 => by
    obtain ⟨u2, u3, u4, u5, u6, u7, u8, u9, u10, u11, u12, u13, u14, u15, u16, D1, e1⟩ := out16 D ns k (h k List.mem_cons_self) t2 t3 t4 t5 t6 t7 t8 t9 t10 t11 t12 t13 t14 t15 t16
    obtain ⟨v1, v2, v3, v4, v5, v6, v7, v8, v9, v10, v11, v12, v13, v14, v15, v16, D2, e2⟩ := loop16 ns ks (fun x hx => h x (List.mem_cons_of_mem _ hx)) D1 (some (.d (.int (k : Int)))) u2 u3 u4 u5 u6 u7 u8 u9 u10 u11 u12 u13 u14 u15 u16
    refine ⟨v1, v2, v3, v4, v5, v6, v7, v8, v9, v10, v11, v12, v13, v14, v15, v16, D2, ?_⟩
    rw [List.map_cons, Int.zero_add]
    exact (e_for1 rfl e1).trans e2
theorem law_true_k16 (ns : List Int) (h : ns.length ≤ 63) : ∃ S', f_law_k16 [.s ns] [] = some (.d (.bl true), S') := by
  have hj : ∃ j : Nat, j < 100 ∧ (1 + (if (15 : Int) < (ns.length : Int) then (15 : Int) else (ns.length : Int))) = (j : Int) := by
    split
    · exact ⟨16, by decide, rfl⟩
    · exact ⟨1 + ns.length, by omega, by omega⟩
  obtain ⟨j, hj1, hj2⟩ := hj
  obtain ⟨v1, v2, v3, v4, v5, v6, v7, v8, v9, v10, v11, v12, v13, v14, v15, v16, D2, e⟩ := loop16 ns (List.range j) (fun k hk => by
    have := List.mem_range.mp hk
    exact Nat.lt_of_lt_of_le this (by omega)) [] none none none none none none none none none none none none none none none none
  have er : cRange1 (cBin fAdd (cK (.int 1)) (cApp fMin2 (cCons (cApp fLen (cCons (cVar 0) cNil)) (cCons (cK (.int 15)) cNil)))) [some (.s ns), none, none, none, none, none, none, none, none, none, none, none, none, none, none, none, none] [] = some ((List.range j).map fun (i : Nat) => Dt.int (0 + (i : Int)), []) := by
    unfold cRange1
    rw [e_bin (e_K _) (e_app (e_cons (e_app (e_cons (e_var rfl) e_nil) (show fLen _ [.s ns] = some (.d (.int (ns.length : Int))) from rfl)) (e_cons (e_K _) e_nil)) fMin_int16) fAdd_int]
    rw [hj2]
    simp
    omega
  have eb : c_law_k16 [some (.s ns), none, none, none, none, none, none, none, none, none, none, none, none, none, none, none, none] [] = some (.ret (.d (.bl true)), [some (.s ns), v1, v2, v3, v4, v5, v6, v7, v8, v9, v10, v11, v12, v13, v14, v15, v16], D2) :=
    e_seqR (Eq.trans (e_sfor er) e) (e_rets (e_K _))
  refine ⟨D2.take 0, ?_⟩
  unfold f_law_k16 runF
  show (c_law_k16 [some (.s ns), none, none, none, none, none, none, none, none, none, none, none, none, none, none, none, none] []).bind _ = _
  rw [eb]
  rfl
end OA
namespace OA
open PySem PySem.Spec PyProof.Rows L2
/-! ### the text -/
def topS (i : Nat) : Stmt := PySem.Challenge.pw_offandon_k16_unseen_weights.main.body.getD i (.Pass ⟨0, 0, 0, 0⟩)
abbrev s_lowest : Stmt := topS 2
abbrev s_plus : Stmt := topS 3
abbrev s_less : Stmt := topS 4
abbrev s_times : Stmt := topS 5
abbrev s_heavies : Stmt := topS 6
abbrev s_aboard_of : Stmt := topS 7
abbrev s_weight_of : Stmt := topS 8
abbrev s_whole_of : Stmt := topS 9
abbrev s_heavy_by : Stmt := topS 12
abbrev s_l_bag : Stmt := topS 14
abbrev s_l_take : Stmt := topS 15
abbrev s_l_of : Stmt := topS 16
abbrev s_l_lowest : Stmt := topS 17
abbrev s_l_plus : Stmt := topS 18
abbrev s_l_minus : Stmt := topS 19
abbrev s_l_times : Stmt := topS 20
abbrev s_l_less : Stmt := topS 21
abbrev s_l_world : Stmt := topS 22
abbrev s_l_names : Stmt := topS 23
abbrev s_l_folk : Stmt := topS 24
abbrev s_l_can_lie : Stmt := topS 25
abbrev s_l_place : Stmt := topS 26
abbrev s_l_rows : Stmt := topS 27
abbrev s_l_lot : Stmt := topS 28
abbrev s_l_standing : Stmt := topS 29
abbrev s_l_weight : Stmt := topS 30
abbrev s_l_aboard : Stmt := topS 31
abbrev s_l_gap : Stmt := topS 32
abbrev s_l_does : Stmt := topS 33
abbrev s_law_k16 : Stmt := topS 34
theorem sc_lowest : FnScope ["top", "bottom", "one", "other"] ["top", "bottom"] (defScope s_lowest) := ⟨rfl, rfl, rfl, by decide +kernel, rfl, by decide +kernel, by decide +kernel⟩
theorem sc_plus : FnScope ["one", "other"] ["one", "other"] (defScope s_plus) := ⟨rfl, rfl, rfl, by decide +kernel, rfl, by decide +kernel, by decide +kernel⟩
theorem sc_less : FnScope ["one", "other"] ["one", "other"] (defScope s_less) := ⟨rfl, rfl, rfl, by decide +kernel, rfl, by decide +kernel, by decide +kernel⟩
theorem sc_times : FnScope ["one", "top", "bottom"] ["one", "top", "bottom"] (defScope s_times) := ⟨rfl, rfl, rfl, by decide +kernel, rfl, by decide +kernel, by decide +kernel⟩
theorem sc_heavies : FnScope ["world", "one"] ["world"] (defScope s_heavies) := ⟨rfl, rfl, rfl, by decide +kernel, rfl, by decide +kernel, by decide +kernel⟩
theorem sc_aboard_of : FnScope ["standing", "row"] ["standing"] (defScope s_aboard_of) := ⟨rfl, rfl, rfl, by decide +kernel, rfl, by decide +kernel, by decide +kernel⟩
theorem sc_weight_of : FnScope ["world", "lot", "known", "name"] ["world", "lot"] (defScope s_weight_of) := ⟨rfl, rfl, rfl, by decide +kernel, rfl, by decide +kernel, by decide +kernel⟩
theorem sc_whole_of : FnScope ["world", "lot"] ["world", "lot"] (defScope s_whole_of) := ⟨rfl, rfl, rfl, by decide +kernel, rfl, by decide +kernel, by decide +kernel⟩
theorem sc_heavy_by : FnScope ["world", "standing", "name", "rows", "gap", "known", "near", "others", "total", "own", "one", "before", "other", "after"] ["world", "standing", "name", "rows", "gap"] (defScope s_heavy_by) := ⟨rfl, rfl, rfl, by decide +kernel, rfl, by decide +kernel, by decide +kernel⟩
theorem sc_l_bag : FnScope ["script", "k", "cell"] ["script", "k"] (defScope s_l_bag) := ⟨rfl, rfl, rfl, by decide +kernel, rfl, by decide +kernel, by decide +kernel⟩
theorem sc_l_take : FnScope ["bag", "many", "found"] ["bag", "many"] (defScope s_l_take) := ⟨rfl, rfl, rfl, by decide +kernel, rfl, by decide +kernel, by decide +kernel⟩
theorem sc_l_of : FnScope ["bag", "some"] ["bag", "some"] (defScope s_l_of) := ⟨rfl, rfl, rfl, by decide +kernel, rfl, by decide +kernel, by decide +kernel⟩
theorem sc_l_lowest : FnScope ["top", "bottom", "one", "other"] ["top", "bottom"] (defScope s_l_lowest) := ⟨rfl, rfl, rfl, by decide +kernel, rfl, by decide +kernel, by decide +kernel⟩
theorem sc_l_plus : FnScope ["one", "other"] ["one", "other"] (defScope s_l_plus) := ⟨rfl, rfl, rfl, by decide +kernel, rfl, by decide +kernel, by decide +kernel⟩
theorem sc_l_minus : FnScope ["one", "other"] ["one", "other"] (defScope s_l_minus) := ⟨rfl, rfl, rfl, by decide +kernel, rfl, by decide +kernel, by decide +kernel⟩
theorem sc_l_times : FnScope ["part", "by"] ["part", "by"] (defScope s_l_times) := ⟨rfl, rfl, rfl, by decide +kernel, rfl, by decide +kernel, by decide +kernel⟩
theorem sc_l_less : FnScope ["one", "other"] ["one", "other"] (defScope s_l_less) := ⟨rfl, rfl, rfl, by decide +kernel, rfl, by decide +kernel, by decide +kernel⟩
theorem sc_l_world : FnScope ["bag", "most", "most_loads", "raft", "reach", "alike", "folk", "name", "own", "heavy", "loads"] ["bag", "most", "most_loads"] (defScope s_l_world) := ⟨rfl, rfl, rfl, by decide +kernel, rfl, by decide +kernel, by decide +kernel⟩
theorem sc_l_names : FnScope ["world", "one"] ["world"] (defScope s_l_names) := ⟨rfl, rfl, rfl, by decide +kernel, rfl, by decide +kernel, by decide +kernel⟩
theorem sc_l_folk : FnScope ["world", "one"] ["world"] (defScope s_l_folk) := ⟨rfl, rfl, rfl, by decide +kernel, rfl, by decide +kernel, by decide +kernel⟩
theorem sc_l_can_lie : FnScope ["world", "lot", "folk", "name"] ["world", "lot"] (defScope s_l_can_lie) := ⟨rfl, rfl, rfl, by decide +kernel, rfl, by decide +kernel, by decide +kernel⟩
theorem sc_l_place : FnScope ["bag", "world"] ["bag", "world"] (defScope s_l_place) := ⟨rfl, rfl, rfl, by decide +kernel, rfl, by decide +kernel, by decide +kernel⟩
theorem sc_l_rows : FnScope ["bag", "world", "lot", "name"] ["bag", "world", "lot"] (defScope s_l_rows) := ⟨rfl, rfl, rfl, by decide +kernel, rfl, by decide +kernel, by decide +kernel⟩
theorem sc_l_lot : FnScope ["bag", "world", "found", "name"] ["bag", "world"] (defScope s_l_lot) := ⟨rfl, rfl, rfl, by decide +kernel, rfl, by decide +kernel, by decide +kernel⟩
theorem sc_l_standing : FnScope ["bag", "world", "wide", "gap"] ["bag", "world"] (defScope s_l_standing) := ⟨rfl, rfl, rfl, by decide +kernel, rfl, by decide +kernel, by decide +kernel⟩
theorem sc_l_weight : FnScope ["world", "lot", "known", "one", "name"] ["world", "lot"] (defScope s_l_weight) := ⟨rfl, rfl, rfl, by decide +kernel, rfl, by decide +kernel, by decide +kernel⟩
theorem sc_l_aboard : FnScope ["standing", "row"] ["standing"] (defScope s_l_aboard) := ⟨rfl, rfl, rfl, by decide +kernel, rfl, by decide +kernel, by decide +kernel⟩
theorem sc_l_gap : FnScope ["world", "standing", "rows", "known", "before", "total", "name", "place", "whole", "one"] ["world", "standing", "rows"] (defScope s_l_gap) := ⟨rfl, rfl, rfl, by decide +kernel, rfl, by decide +kernel, by decide +kernel⟩
theorem sc_l_does : FnScope ["world", "standing", "name", "weight", "pair", "known", "total", "whole", "before", "one", "place", "way", "near"] ["world", "standing", "name", "weight", "pair"] (defScope s_l_does) := ⟨rfl, rfl, rfl, by decide +kernel, rfl, by decide +kernel, by decide +kernel⟩
theorem sc_law_k16 : FnScope ["script", "k", "bag", "world", "standing", "rows", "own", "some", "gap", "name", "told", "weights", "good", "sure", "heavy", "part", "weight"] ["script"] (defScope s_law_k16) := ⟨rfl, rfl, rfl, by decide +kernel, rfl, by decide +kernel, by decide +kernel⟩
structure Tx (K : PySem.W.Frag) (mg : Str → Option Value) where
  a_lowest : Addr
  fd_lowest : FuncData
  F_lowest : Fun K "lowest" "lowest" s_lowest a_lowest fd_lowest
  m_lowest : mg "lowest" = some (.ref a_lowest)
  b_lowest : Binds K fd_lowest ["top", "bottom"] []
  a_plus : Addr
  fd_plus : FuncData
  F_plus : Fun K "plus" "plus" s_plus a_plus fd_plus
  m_plus : mg "plus" = some (.ref a_plus)
  b_plus : Binds K fd_plus ["one", "other"] []
  a_less : Addr
  fd_less : FuncData
  F_less : Fun K "less" "less" s_less a_less fd_less
  m_less : mg "less" = some (.ref a_less)
  b_less : Binds K fd_less ["one", "other"] []
  a_times : Addr
  fd_times : FuncData
  F_times : Fun K "times" "times" s_times a_times fd_times
  m_times : mg "times" = some (.ref a_times)
  b_times : Binds K fd_times ["one", "top", "bottom"] []
  a_heavies : Addr
  fd_heavies : FuncData
  F_heavies : Fun K "heavies" "heavies" s_heavies a_heavies fd_heavies
  m_heavies : mg "heavies" = some (.ref a_heavies)
  b_heavies : Binds K fd_heavies ["world"] []
  a_aboard_of : Addr
  fd_aboard_of : FuncData
  F_aboard_of : Fun K "aboard_of" "aboard_of" s_aboard_of a_aboard_of fd_aboard_of
  m_aboard_of : mg "aboard_of" = some (.ref a_aboard_of)
  b_aboard_of : Binds K fd_aboard_of ["standing"] []
  a_weight_of : Addr
  fd_weight_of : FuncData
  F_weight_of : Fun K "weight_of" "weight_of" s_weight_of a_weight_of fd_weight_of
  m_weight_of : mg "weight_of" = some (.ref a_weight_of)
  b_weight_of : Binds K fd_weight_of ["world", "lot"] []
  a_whole_of : Addr
  fd_whole_of : FuncData
  F_whole_of : Fun K "whole_of" "whole_of" s_whole_of a_whole_of fd_whole_of
  m_whole_of : mg "whole_of" = some (.ref a_whole_of)
  b_whole_of : Binds K fd_whole_of ["world", "lot"] []
  a_heavy_by : Addr
  fd_heavy_by : FuncData
  F_heavy_by : Fun K "heavy_by" "heavy_by" s_heavy_by a_heavy_by fd_heavy_by
  m_heavy_by : mg "heavy_by" = some (.ref a_heavy_by)
  b_heavy_by : Binds K fd_heavy_by ["world", "standing", "name", "rows", "gap"] []
  a_l_bag : Addr
  fd_l_bag : FuncData
  F_l_bag : Fun K "_law_bag" "_law_bag" s_l_bag a_l_bag fd_l_bag
  m_l_bag : mg "_law_bag" = some (.ref a_l_bag)
  b_l_bag : Binds K fd_l_bag ["script", "k"] []
  a_l_take : Addr
  fd_l_take : FuncData
  F_l_take : Fun K "_law_take" "_law_take" s_l_take a_l_take fd_l_take
  m_l_take : mg "_law_take" = some (.ref a_l_take)
  b_l_take : Binds K fd_l_take ["bag", "many"] []
  a_l_of : Addr
  fd_l_of : FuncData
  F_l_of : Fun K "_law_of" "_law_of" s_l_of a_l_of fd_l_of
  m_l_of : mg "_law_of" = some (.ref a_l_of)
  b_l_of : Binds K fd_l_of ["bag", "some"] []
  a_l_lowest : Addr
  fd_l_lowest : FuncData
  F_l_lowest : Fun K "_law_lowest" "_law_lowest" s_l_lowest a_l_lowest fd_l_lowest
  m_l_lowest : mg "_law_lowest" = some (.ref a_l_lowest)
  b_l_lowest : Binds K fd_l_lowest ["top", "bottom"] []
  a_l_plus : Addr
  fd_l_plus : FuncData
  F_l_plus : Fun K "_law_plus" "_law_plus" s_l_plus a_l_plus fd_l_plus
  m_l_plus : mg "_law_plus" = some (.ref a_l_plus)
  b_l_plus : Binds K fd_l_plus ["one", "other"] []
  a_l_minus : Addr
  fd_l_minus : FuncData
  F_l_minus : Fun K "_law_minus" "_law_minus" s_l_minus a_l_minus fd_l_minus
  m_l_minus : mg "_law_minus" = some (.ref a_l_minus)
  b_l_minus : Binds K fd_l_minus ["one", "other"] []
  a_l_times : Addr
  fd_l_times : FuncData
  F_l_times : Fun K "_law_times" "_law_times" s_l_times a_l_times fd_l_times
  m_l_times : mg "_law_times" = some (.ref a_l_times)
  b_l_times : Binds K fd_l_times ["part", "by"] []
  a_l_less : Addr
  fd_l_less : FuncData
  F_l_less : Fun K "_law_less" "_law_less" s_l_less a_l_less fd_l_less
  m_l_less : mg "_law_less" = some (.ref a_l_less)
  b_l_less : Binds K fd_l_less ["one", "other"] []
  a_l_world : Addr
  fd_l_world : FuncData
  F_l_world : Fun K "_law_world" "_law_world" s_l_world a_l_world fd_l_world
  m_l_world : mg "_law_world" = some (.ref a_l_world)
  b_l_world : Binds K fd_l_world ["bag", "most", "most_loads"] []
  a_l_names : Addr
  fd_l_names : FuncData
  F_l_names : Fun K "_law_names" "_law_names" s_l_names a_l_names fd_l_names
  m_l_names : mg "_law_names" = some (.ref a_l_names)
  b_l_names : Binds K fd_l_names ["world"] []
  a_l_folk : Addr
  fd_l_folk : FuncData
  F_l_folk : Fun K "_law_folk" "_law_folk" s_l_folk a_l_folk fd_l_folk
  m_l_folk : mg "_law_folk" = some (.ref a_l_folk)
  b_l_folk : Binds K fd_l_folk ["world"] []
  a_l_can_lie : Addr
  fd_l_can_lie : FuncData
  F_l_can_lie : Fun K "_law_can_lie" "_law_can_lie" s_l_can_lie a_l_can_lie fd_l_can_lie
  m_l_can_lie : mg "_law_can_lie" = some (.ref a_l_can_lie)
  b_l_can_lie : Binds K fd_l_can_lie ["world", "lot"] []
  a_l_place : Addr
  fd_l_place : FuncData
  F_l_place : Fun K "_law_place" "_law_place" s_l_place a_l_place fd_l_place
  m_l_place : mg "_law_place" = some (.ref a_l_place)
  b_l_place : Binds K fd_l_place ["bag", "world"] []
  a_l_rows : Addr
  fd_l_rows : FuncData
  F_l_rows : Fun K "_law_rows" "_law_rows" s_l_rows a_l_rows fd_l_rows
  m_l_rows : mg "_law_rows" = some (.ref a_l_rows)
  b_l_rows : Binds K fd_l_rows ["bag", "world", "lot"] []
  a_l_lot : Addr
  fd_l_lot : FuncData
  F_l_lot : Fun K "_law_lot" "_law_lot" s_l_lot a_l_lot fd_l_lot
  m_l_lot : mg "_law_lot" = some (.ref a_l_lot)
  b_l_lot : Binds K fd_l_lot ["bag", "world"] []
  a_l_standing : Addr
  fd_l_standing : FuncData
  F_l_standing : Fun K "_law_standing" "_law_standing" s_l_standing a_l_standing fd_l_standing
  m_l_standing : mg "_law_standing" = some (.ref a_l_standing)
  b_l_standing : Binds K fd_l_standing ["bag", "world"] []
  a_l_weight : Addr
  fd_l_weight : FuncData
  F_l_weight : Fun K "_law_weight" "_law_weight" s_l_weight a_l_weight fd_l_weight
  m_l_weight : mg "_law_weight" = some (.ref a_l_weight)
  b_l_weight : Binds K fd_l_weight ["world", "lot"] []
  a_l_aboard : Addr
  fd_l_aboard : FuncData
  F_l_aboard : Fun K "_law_aboard" "_law_aboard" s_l_aboard a_l_aboard fd_l_aboard
  m_l_aboard : mg "_law_aboard" = some (.ref a_l_aboard)
  b_l_aboard : Binds K fd_l_aboard ["standing"] []
  a_l_gap : Addr
  fd_l_gap : FuncData
  F_l_gap : Fun K "_law_gap" "_law_gap" s_l_gap a_l_gap fd_l_gap
  m_l_gap : mg "_law_gap" = some (.ref a_l_gap)
  b_l_gap : Binds K fd_l_gap ["world", "standing", "rows"] []
  a_l_does : Addr
  fd_l_does : FuncData
  F_l_does : Fun K "_law_does" "_law_does" s_l_does a_l_does fd_l_does
  m_l_does : mg "_law_does" = some (.ref a_l_does)
  b_l_does : Binds K fd_l_does ["world", "standing", "name", "weight", "pair"] []
  a_law_k16 : Addr
  fd_law_k16 : FuncData
  F_law_k16 : Fun K "law" "law" s_law_k16 a_law_k16 fd_law_k16
  m_law_k16 : mg "law" = some (.ref a_law_k16)
  b_law_k16 : Binds K fd_law_k16 ["script"] []
  a_NOUGHT : Addr
  m_NOUGHT : mg "NOUGHT" = some (.ref a_NOUGHT)
  t_NOUGHT : ∀ H : Hp, SqT K H a_NOUGHT [.int 0, .int 1]
  k_ANY : Tok
  m_ANY : mg "ANY" = some (.str (Str.ofString "any") k_ANY)
  m_abs : mg "abs" = none
  m_dict : mg "dict" = none
  m_len : mg "len" = none
  m_list : mg "list" = none
  m_min : mg "min" = none
  m_range : mg "range" = none
  m_sorted : mg "sorted" = none
  m_sum : mg "sum" = none
  m_tuple : mg "tuple" = none
  m_zip : mg "zip" = none
section
variable {P : Program} {w : World} {K : PySem.W.Frag} {mg : Str → Option Value} {base : Heap}
theorem ok_lowest (T : Tx K mg) : FnOk P w K mg base CX0 1 T.a_lowest T.fd_lowest ["top", "bottom"] (spF K 2 f_lowest) :=
  mkFn T.F_lowest sc_lowest false fun cdv A outer s H E hr =>
    have nd := sc_lowest.nd
    (zCons (zPar (i := 2) (j := 3) rfl nd rfl rfl (by decide) rfl rfl (oCons (oCallB call_abs ckAbs rfl T.m_abs (by decide +kernel) (oCons (oVar (pv 0)) oNil)) (oCons (oVar (pv 1)) oNil)) rfl)
      (zCons (zWhile 100000 PassesOwn.never (qCmp op_gt okGt (oVar (pv 3)) (oK pe_int (fun _ => .int _)) (nomark _)) (zCons (zPar (i := 2) (j := 3) rfl nd rfl rfl (by decide) rfl rfl (oCons (oVar (pv 3)) (oCons (oBin op_mod okMod (oVar (pv 2)) (oVar (pv 3))) oNil)) rfl)
      zNil))
      (zCons (zRet (oTup (oCons (oBin op_fdivW okDiv (oVar (pv 0)) (oVar (pv 2))) (oCons (oBin op_fdivW okDiv (oVar (pv 1)) (oVar (pv 2))) oNil))))
      zNil)))
theorem ok_plus (T : Tx K mg) : FnOk P w K mg base CX0 2 T.a_plus T.fd_plus ["one", "other"] (spF K 2 f_plus) :=
  mkFn T.F_plus sc_plus false fun cdv A outer s H E hr =>
    have nd := sc_plus.nd
    (zCons (zRet (oCall (ok_lowest T) (hr.mono (by decide)) rfl T.m_lowest T.F_lowest.kp T.b_lowest (oCons (oBin opAdd okAdd (oBin op_mulW okMul (oIx (ixAny hr) okIx (oVar (pv 0)) (oK pe_int (fun _ => .int _)) (fun _ _ => rfl)) (oIx (ixAny hr) okIx (oVar (pv 1)) (oK pe_int (fun _ => .int _)) (fun _ _ => rfl))) (oBin op_mulW okMul (oIx (ixAny hr) okIx (oVar (pv 1)) (oK pe_int (fun _ => .int _)) (fun _ _ => rfl)) (oIx (ixAny hr) okIx (oVar (pv 0)) (oK pe_int (fun _ => .int _)) (fun _ _ => rfl)))) (oCons (oBin op_mulW okMul (oIx (ixAny hr) okIx (oVar (pv 0)) (oK pe_int (fun _ => .int _)) (fun _ _ => rfl)) (oIx (ixAny hr) okIx (oVar (pv 1)) (oK pe_int (fun _ => .int _)) (fun _ _ => rfl))) oNil)) (len_cons (len_cons (fun _ _ _ _ h => len_nil h)))))
      zNil)
theorem ok_less (T : Tx K mg) : FnOk P w K mg base CX0 2 T.a_less T.fd_less ["one", "other"] (spF K 2 f_less) :=
  mkFn T.F_less sc_less false fun cdv A outer s H E hr =>
    have nd := sc_less.nd
    (zCons (zRet (oCall (ok_lowest T) (hr.mono (by decide)) rfl T.m_lowest T.F_lowest.kp T.b_lowest (oCons (oBin op_sub okSub (oBin op_mulW okMul (oIx (ixAny hr) okIx (oVar (pv 0)) (oK pe_int (fun _ => .int _)) (fun _ _ => rfl)) (oIx (ixAny hr) okIx (oVar (pv 1)) (oK pe_int (fun _ => .int _)) (fun _ _ => rfl))) (oBin op_mulW okMul (oIx (ixAny hr) okIx (oVar (pv 1)) (oK pe_int (fun _ => .int _)) (fun _ _ => rfl)) (oIx (ixAny hr) okIx (oVar (pv 0)) (oK pe_int (fun _ => .int _)) (fun _ _ => rfl)))) (oCons (oBin op_mulW okMul (oIx (ixAny hr) okIx (oVar (pv 0)) (oK pe_int (fun _ => .int _)) (fun _ _ => rfl)) (oIx (ixAny hr) okIx (oVar (pv 1)) (oK pe_int (fun _ => .int _)) (fun _ _ => rfl))) oNil)) (len_cons (len_cons (fun _ _ _ _ h => len_nil h)))))
      zNil)
theorem ok_times (T : Tx K mg) : FnOk P w K mg base CX0 2 T.a_times T.fd_times ["one", "top", "bottom"] (spF K 3 f_times) :=
  mkFn T.F_times sc_times false fun cdv A outer s H E hr =>
    have nd := sc_times.nd
    (zCons (zRet (oCall (ok_lowest T) (hr.mono (by decide)) rfl T.m_lowest T.F_lowest.kp T.b_lowest (oCons (oBin op_mulW okMul (oIx (ixAny hr) okIx (oVar (pv 0)) (oK pe_int (fun _ => .int _)) (fun _ _ => rfl)) (oVar (pv 1))) (oCons (oBin op_mulW okMul (oIx (ixAny hr) okIx (oVar (pv 0)) (oK pe_int (fun _ => .int _)) (fun _ _ => rfl)) (oVar (pv 2))) oNil)) (len_cons (len_cons (fun _ _ _ _ h => len_nil h)))))
      zNil)
theorem ok_heavies (T : Tx K mg) : FnOk P w K mg base CX0 1 T.a_heavies T.fd_heavies ["world"] (spF K 1 f_heavies) :=
  mkFn T.F_heavies sc_heavies false fun cdv A outer s H E hr =>
    have nd := sc_heavies.nd
    (zCons (zRet (oDictK rfl rfl T.m_dict (by decide +kernel) (oComp (own := [("one", 1)]) [1] rfl (by decide) rfl nd (iSeq (oBin opAdd okAdd (oIx (ixAny hr) okIx (oVar (pv 0)) (oK pe_int (fun _ => .int _)) (fun _ _ => rfl)) (oIx (ixAny hr) okIx (oVar (pv 0)) (oK pe_int (fun _ => .int _)) (fun _ _ => rfl)))) (by kernel_rfl) (fun _ _ _ _ _ => (gNameOk (i := 1) nd rfl (by first | exact .inl rfl | exact .inr rfl))) (fun _ _ _ _ _ => tsNil) (fun _ _ _ _ _ => (oTup (oCons (oIx (ixAny hr) okIx (oVar (pv 1)) (oK pe_int (fun _ => .int _)) (fun _ _ => rfl)) (oCons (oIx (ixAny hr) okIx (oVar (pv 1)) (oK pe_int (fun _ => .int _)) (fun _ _ => rfl)) oNil)))))))
      zNil)
theorem ok_aboard_of (T : Tx K mg) : FnOk P w K mg base CX0 1 T.a_aboard_of T.fd_aboard_of ["standing"] (spF K 1 f_aboard_of) :=
  mkFn T.F_aboard_of sc_aboard_of false fun cdv A outer s H E hr =>
    have nd := sc_aboard_of.nd
    (zCons (zRet (oCallT clTup (ckTup false) rfl T.m_tuple (by decide +kernel) (oCons (oComp (own := [("row", 1)]) [1] rfl (by decide) rfl nd (iSeq (oIx (ixAny hr) okIx (oVar (pv 0)) (oK pe_int (fun _ => .int _)) (fun _ _ => rfl))) (by kernel_rfl) (fun _ _ _ _ _ => (gNameOk (i := 1) nd rfl (by first | exact .inl rfl | exact .inr rfl))) (fun _ _ _ _ _ => tsNil) (fun _ _ _ _ _ => (oIx (ixAny hr) okIx (oVar (pv 1)) (oK pe_int (fun _ => .int _)) (fun _ _ => rfl)))) oNil)))
      zNil)
theorem ok_weight_of (T : Tx K mg) : FnOk P w K mg base CX0 2 T.a_weight_of T.fd_weight_of ["world", "lot"] (spF K 2 f_weight_of) :=
  mkFn T.F_weight_of sc_weight_of false fun cdv A outer s H E hr =>
    have nd := sc_weight_of.nd
    (zCons (zSet (i := 2) nd rfl (by first | exact .inl rfl | exact .inr rfl) (oCall (ok_heavies T) (hr.mono (by decide)) rfl T.m_heavies T.F_heavies.kp T.b_heavies (oCons (oVar (pv 0)) oNil) (len_cons (fun _ _ _ _ h => len_nil h))))
      (zCons (zRet (oCallB (cr_sum rfl) ckSum rfl T.m_sum (by decide +kernel) (oCons (oComp (own := [("name", 3)]) [3] rfl (by decide) rfl nd (iSeq (oVar (pv 1))) (by kernel_rfl) (fun _ _ _ _ _ => (gNameOk (i := 3) nd rfl (by first | exact .inl rfl | exact .inr rfl))) (fun _ _ _ _ _ => tsNil) (fun _ _ _ _ _ => (oIx (ixAny hr) okIx (oVar (pv 2)) (oVar (pv 3)) (fun _ _ => rfl)))) oNil)))
      zNil))
theorem ok_whole_of (T : Tx K mg) : FnOk P w K mg base CX0 3 T.a_whole_of T.fd_whole_of ["world", "lot"] (spF K 2 f_whole_of) :=
  mkFn T.F_whole_of sc_whole_of false fun cdv A outer s H E hr =>
    have nd := sc_whole_of.nd
    (zCons (zRet (oBin opAdd okAdd (oIx (ixAny hr) okIx (oIx (ixAny hr) okIx (oVar (pv 0)) (oK pe_int (fun _ => .int _)) (fun _ _ => rfl)) (oK pe_int (fun _ => .int _)) (fun _ _ => rfl)) (oCall (ok_weight_of T) (hr.mono (by decide)) rfl T.m_weight_of T.F_weight_of.kp T.b_weight_of (oCons (oVar (pv 0)) (oCons (oVar (pv 1)) oNil)) (len_cons (len_cons (fun _ _ _ _ h => len_nil h))))))
      zNil)
theorem ok_heavy_by (T : Tx K mg) : FnOk P w K mg base CX0 4 T.a_heavy_by T.fd_heavy_by ["world", "standing", "name", "rows", "gap"] (spF K 5 f_heavy_by) :=
  mkFn T.F_heavy_by sc_heavy_by false fun cdv A outer s H E hr =>
    have nd := sc_heavy_by.nd
    (zCons (zSet (i := 5) nd rfl (by first | exact .inl rfl | exact .inr rfl) (oCall (ok_heavies T) (hr.mono (by decide)) rfl T.m_heavies T.F_heavies.kp T.b_heavies (oCons (oVar (pv 0)) oNil) (len_cons (fun _ _ _ _ h => len_nil h))))
      (zCons (zSet (i := 6) nd rfl (by first | exact .inl rfl | exact .inr rfl) (oCall (ok_less T) (hr.mono (by decide)) rfl T.m_less T.F_less.kp T.b_less (oCons (oIx (ixAny hr) okIx (oVar (pv 1)) (oK pe_int (fun _ => .int _)) (fun _ _ => rfl)) (oCons (oVar (pv 4)) oNil)) (len_cons (len_cons (fun _ _ _ _ h => len_nil h)))))
      (zCons (zSetComp (i := 7) (own := [("one", 10)]) [10] rfl (by decide) rfl nd rfl rfl (sw_true rfl rfl rfl (by decide +kernel)) (iSeq (oCall (ok_aboard_of T) (hr.mono (by decide)) rfl T.m_aboard_of T.F_aboard_of.kp T.b_aboard_of (oCons (oVar (pv 1)) oNil) (len_cons (fun _ _ _ _ h => len_nil h)))) (by kernel_rfl) (fun _ _ _ _ _ => (gNameOk (i := 10) nd rfl (by first | exact .inl rfl | exact .inr rfl))) (fun _ _ _ _ _ => (tsOne (qCmp (op_neD hr.units) okNe (oVar (pv 10)) (oVar (pv 2)) (nomark _)))) (fun _ _ _ _ _ => (oVar (pv 10))))
      (zCons (zSet (i := 8) nd rfl (by first | exact .inl rfl | exact .inr rfl) (oCall (ok_times T) (hr.mono (by decide)) rfl T.m_times T.F_times.kp T.b_times (oCons (oVar (pv 6)) (oCons (oBin op_sub okSub (oK pe_int (fun _ => .int _)) (oCall (ok_whole_of T) (hr.mono (by decide)) rfl T.m_whole_of T.F_whole_of.kp T.b_whole_of (oCons (oVar (pv 0)) (oCons (oVar (pv 7)) oNil)) (len_cons (len_cons (fun _ _ _ _ h => len_nil h))))) (oCons (oK pe_int (fun _ => .int _)) oNil))) (len_cons (len_cons (len_cons (fun _ _ _ _ h => len_nil h))))))
      (zCons (zSet (i := 9) nd rfl (by first | exact .inl rfl | exact .inr rfl) (oK (pe_glob (v := .ref T.a_NOUGHT) rfl T.m_NOUGHT rfl) (fun _ => .kt T.t_NOUGHT)))
      (zCons (zFor PassesOwn.never rfl (iZip rfl T.m_zip (oIx (ixAny hr) okIx (oVar (pv 1)) (oK pe_int (fun _ => .int _)) (fun _ _ => rfl)) (oVar (pv 3))) (gTuple rfl (gsCons (gTuple rfl (gsCons (gNameOk (i := 10) nd rfl (by first | exact .inl rfl | exact .inr rfl)) (gsCons (gNameOk (i := 11) nd rfl (by first | exact .inl rfl | exact .inr rfl)) gsNil)) (glen1 (glen1 glen0))) (gsCons (gTuple rfl (gsCons (gNameOk (i := 12) nd rfl (by first | exact .inl rfl | exact .inr rfl)) (gsCons (gNameOk (i := 13) nd rfl (by first | exact .inl rfl | exact .inr rfl)) gsNil)) (glen1 (glen1 glen0))) gsNil)) (glen1 (glen1 glen0))) (zCons (zIf (qCmp (op_eqD hr.units) okEq (oVar (pv 10)) (oVar (pv 2)) (nomark _)) (zCons (zSet (i := 9) nd rfl (by first | exact .inl rfl | exact .inr rfl) (oCall (ok_less T) (hr.mono (by decide)) rfl T.m_less T.F_less.kp T.b_less (oCons (oVar (pv 6)) (oCons (oCall (ok_less T) (hr.mono (by decide)) rfl T.m_less T.F_less.kp T.b_less (oCons (oVar (pv 13)) (oCons (oVar (pv 11)) oNil)) (len_cons (len_cons (fun _ _ _ _ h => len_nil h)))) oNil)) (len_cons (len_cons (fun _ _ _ _ h => len_nil h)))))
      zNil) (zCons (zSet (i := 8) nd rfl (by first | exact .inl rfl | exact .inr rfl) (oCall (ok_plus T) (hr.mono (by decide)) rfl T.m_plus T.F_plus.kp T.b_plus (oCons (oVar (pv 8)) (oCons (oCall (ok_times T) (hr.mono (by decide)) rfl T.m_times T.F_times.kp T.b_times (oCons (oCall (ok_less T) (hr.mono (by decide)) rfl T.m_less T.F_less.kp T.b_less (oCons (oVar (pv 13)) (oCons (oVar (pv 11)) oNil)) (len_cons (len_cons (fun _ _ _ _ h => len_nil h)))) (oCons (oIx (ixAny hr) okIx (oVar (pv 5)) (oVar (pv 10)) (fun _ _ => rfl)) (oCons (oK pe_int (fun _ => .int _)) oNil))) (len_cons (len_cons (len_cons (fun _ _ _ _ h => len_nil h))))) oNil)) (len_cons (len_cons (fun _ _ _ _ h => len_nil h)))))
      zNil))
      zNil))
      (zCons (zIf (qCmp (op_eqD hr.units) okEq (oIx (ixAny hr) okIx (oVar (pv 9)) (oK pe_int (fun _ => .int _)) (fun _ _ => rfl)) (oK pe_int (fun _ => .int _)) (nomark _)) (zCons (zRet (oIf (qCmp (op_eqD hr.units) okEq (oIx (ixAny hr) okIx (oVar (pv 8)) (oK pe_int (fun _ => .int _)) (fun _ _ => rfl)) (oK pe_int (fun _ => .int _)) (nomark _)) (oK (pe_glob (v := .str _) rfl T.m_ANY ⟨_, rfl⟩) (fun _ => .str _)) (oK pe_non (fun _ => .non))))
      zNil) zNil)
      (zCons (zIf (qCmp op_le okLe (oBin op_mulW okMul (oIx (ixAny hr) okIx (oVar (pv 8)) (oK pe_int (fun _ => .int _)) (fun _ _ => rfl)) (oIx (ixAny hr) okIx (oVar (pv 9)) (oK pe_int (fun _ => .int _)) (fun _ _ => rfl))) (oK pe_int (fun _ => .int _)) (nomark _)) (zCons (zRet (oK pe_non (fun _ => .non)))
      zNil) zNil)
      (zCons (zRet (oCall (ok_times T) (hr.mono (by decide)) rfl T.m_times T.F_times.kp T.b_times (oCons (oTup (oCons (oCallB call_abs ckAbs rfl T.m_abs (by decide +kernel) (oCons (oIx (ixAny hr) okIx (oVar (pv 8)) (oK pe_int (fun _ => .int _)) (fun _ _ => rfl)) oNil)) (oCons (oIx (ixAny hr) okIx (oVar (pv 8)) (oK pe_int (fun _ => .int _)) (fun _ _ => rfl)) oNil))) (oCons (oIx (ixAny hr) okIx (oVar (pv 9)) (oK pe_int (fun _ => .int _)) (fun _ _ => rfl)) (oCons (oCallB call_abs ckAbs rfl T.m_abs (by decide +kernel) (oCons (oIx (ixAny hr) okIx (oVar (pv 9)) (oK pe_int (fun _ => .int _)) (fun _ _ => rfl)) oNil)) oNil))) (len_cons (len_cons (len_cons (fun _ _ _ _ h => len_nil h))))))
      zNil)))))))))
theorem ok_l_bag (T : Tx K mg) : FnOk P w K mg base CX0 1 T.a_l_bag T.fd_l_bag ["script", "k"] (spF K 2 f_l_bag) :=
  mkFn T.F_l_bag sc_l_bag true fun cdv A outer s H E hr =>
    have nd := sc_l_bag.nd
    (zCons (zSet (i := 2) nd rfl (by first | exact .inl rfl | exact .inr rfl) (oK pe_int (fun _ => .int _)))
      (zCons (zIf (qCmp opLt okLt (oVar (pv 1)) (oCallB clLen ckLen rfl T.m_len (by decide +kernel) (oCons (oVar (pv 0)) oNil)) (nomark _)) (zCons (zSet (i := 2) nd rfl (by first | exact .inl rfl | exact .inr rfl) (oCallB call_abs ckAbs rfl T.m_abs (by decide +kernel) (oCons (oIx (ixAny hr) okIx (oVar (pv 0)) (oVar (pv 1)) (fun _ _ => rfl)) oNil)))
      zNil) zNil)
      (zCons (zIf (qCmp opLt okLt (oVar (pv 2)) (oBin op_pow okPow (oK pe_int (fun _ => .int _)) (oK pe_int (fun _ => .int _))) (nomark _)) (zCons (zRet (oNewL (oCons (oK pe_int (fun _ => .int _)) (oCons (oBin opAdd okAdd (oK pe_int (fun _ => .int _)) (oBin op_mod okMod (oBin opAdd okAdd (oBin op_mulW okMul (oVar (pv 2)) (oK pe_int (fun _ => .int _))) (oBin op_mulW okMul (oK pe_int (fun _ => .int _)) (oVar (pv 1)))) (oK pe_int (fun _ => .int _)))) oNil))))
      zNil) zNil)
      (zCons (zRet (oNewL (oCons (oVar (pv 2)) (oCons (oBin opAdd okAdd (oK pe_int (fun _ => .int _)) (oBin op_mod okMod (oBin opAdd okAdd (oVar (pv 2)) (oVar (pv 1))) (oK pe_int (fun _ => .int _)))) oNil))))
      zNil))))
theorem ok_l_take (T : Tx K mg) : FnOk P w K mg base CX0 1 T.a_l_take T.fd_l_take ["bag", "many"] (spF K 2 f_l_take) :=
  mkFn T.F_l_take sc_l_take false fun cdv A outer s H E hr =>
    have nd := sc_l_take.nd
    (zCons (zIf (qCmp op_gt okGt (oIx (ixAny hr) okIx (oVar (pv 0)) (oK pe_int (fun _ => .int _)) (fun _ _ => rfl)) (oK pe_int (fun _ => .int _)) (nomark _)) (zCons (zSet (i := 2) nd rfl (by first | exact .inl rfl | exact .inr rfl) (oBin op_mod okMod (oIx (ixAny hr) okIx (oVar (pv 0)) (oK pe_int (fun _ => .int _)) (fun _ _ => rfl)) (oVar (pv 1))))
      (zCons (zPut (oBin op_fdivW okDiv (oIx (ixAny hr) okIx (oVar (pv 0)) (oK pe_int (fun _ => .int _)) (fun _ _ => rfl)) (oVar (pv 1))) (oVar (pv 0)) (oK pe_int (fun _ => .int _)))
      (zCons (zRet (oVar (pv 2)))
      zNil))) zNil)
      (zCons (zPut (oBin op_mod okMod (oBin op_mulW okMul (oIx (ixAny hr) okIx (oVar (pv 0)) (oK pe_int (fun _ => .int _)) (fun _ _ => rfl)) (oK pe_int (fun _ => .int _))) (oK pe_int (fun _ => .int _))) (oVar (pv 0)) (oK pe_int (fun _ => .int _)))
      (zCons (zRet (oBin op_mod okMod (oBin op_fdivW okDiv (oBin op_mod okMod (oBin op_mulW okMul (oIx (ixAny hr) okIx (oVar (pv 0)) (oK pe_int (fun _ => .int _)) (fun _ _ => rfl)) (oIx (ixAny hr) okIx (oVar (pv 0)) (oK pe_int (fun _ => .int _)) (fun _ _ => rfl))) (oK pe_int (fun _ => .int _))) (oK pe_int (fun _ => .int _))) (oVar (pv 1))))
      zNil)))
theorem ok_l_of (T : Tx K mg) : FnOk P w K mg base CX0 2 T.a_l_of T.fd_l_of ["bag", "some"] (spF K 2 f_l_of) :=
  mkFn T.F_l_of sc_l_of false fun cdv A outer s H E hr =>
    have nd := sc_l_of.nd
    (zCons (zRet (oIx (ixAny hr) okIx (oVar (pv 1)) (oCall (ok_l_take T) (hr.mono (by decide)) rfl T.m_l_take T.F_l_take.kp T.b_l_take (oCons (oVar (pv 0)) (oCons (oCallB clLen ckLen rfl T.m_len (by decide +kernel) (oCons (oVar (pv 1)) oNil)) oNil)) (len_cons (len_cons (fun _ _ _ _ h => len_nil h)))) (fun _ _ => rfl)))
      zNil)
theorem ok_l_lowest (T : Tx K mg) : FnOk P w K mg base CX0 1 T.a_l_lowest T.fd_l_lowest ["top", "bottom"] (spF K 2 f_l_lowest) :=
  mkFn T.F_l_lowest sc_l_lowest false fun cdv A outer s H E hr =>
    have nd := sc_l_lowest.nd
    (zCons (zPar (i := 2) (j := 3) rfl nd rfl rfl (by decide) rfl rfl (oCons (oCallB call_abs ckAbs rfl T.m_abs (by decide +kernel) (oCons (oVar (pv 0)) oNil)) (oCons (oVar (pv 1)) oNil)) rfl)
      (zCons (zWhile 100000 PassesOwn.never (qCmp op_gt okGt (oVar (pv 3)) (oK pe_int (fun _ => .int _)) (nomark _)) (zCons (zPar (i := 2) (j := 3) rfl nd rfl rfl (by decide) rfl rfl (oCons (oVar (pv 3)) (oCons (oBin op_mod okMod (oVar (pv 2)) (oVar (pv 3))) oNil)) rfl)
      zNil))
      (zCons (zRet (oTup (oCons (oBin op_fdivW okDiv (oVar (pv 0)) (oVar (pv 2))) (oCons (oBin op_fdivW okDiv (oVar (pv 1)) (oVar (pv 2))) oNil))))
      zNil)))
theorem ok_l_plus (T : Tx K mg) : FnOk P w K mg base CX0 2 T.a_l_plus T.fd_l_plus ["one", "other"] (spF K 2 f_l_plus) :=
  mkFn T.F_l_plus sc_l_plus false fun cdv A outer s H E hr =>
    have nd := sc_l_plus.nd
    (zCons (zRet (oCall (ok_l_lowest T) (hr.mono (by decide)) rfl T.m_l_lowest T.F_l_lowest.kp T.b_l_lowest (oCons (oBin opAdd okAdd (oBin op_mulW okMul (oIx (ixAny hr) okIx (oVar (pv 0)) (oK pe_int (fun _ => .int _)) (fun _ _ => rfl)) (oIx (ixAny hr) okIx (oVar (pv 1)) (oK pe_int (fun _ => .int _)) (fun _ _ => rfl))) (oBin op_mulW okMul (oIx (ixAny hr) okIx (oVar (pv 1)) (oK pe_int (fun _ => .int _)) (fun _ _ => rfl)) (oIx (ixAny hr) okIx (oVar (pv 0)) (oK pe_int (fun _ => .int _)) (fun _ _ => rfl)))) (oCons (oBin op_mulW okMul (oIx (ixAny hr) okIx (oVar (pv 0)) (oK pe_int (fun _ => .int _)) (fun _ _ => rfl)) (oIx (ixAny hr) okIx (oVar (pv 1)) (oK pe_int (fun _ => .int _)) (fun _ _ => rfl))) oNil)) (len_cons (len_cons (fun _ _ _ _ h => len_nil h)))))
      zNil)
theorem ok_l_minus (T : Tx K mg) : FnOk P w K mg base CX0 2 T.a_l_minus T.fd_l_minus ["one", "other"] (spF K 2 f_l_minus) :=
  mkFn T.F_l_minus sc_l_minus false fun cdv A outer s H E hr =>
    have nd := sc_l_minus.nd
    (zCons (zRet (oCall (ok_l_lowest T) (hr.mono (by decide)) rfl T.m_l_lowest T.F_l_lowest.kp T.b_l_lowest (oCons (oBin op_sub okSub (oBin op_mulW okMul (oIx (ixAny hr) okIx (oVar (pv 0)) (oK pe_int (fun _ => .int _)) (fun _ _ => rfl)) (oIx (ixAny hr) okIx (oVar (pv 1)) (oK pe_int (fun _ => .int _)) (fun _ _ => rfl))) (oBin op_mulW okMul (oIx (ixAny hr) okIx (oVar (pv 1)) (oK pe_int (fun _ => .int _)) (fun _ _ => rfl)) (oIx (ixAny hr) okIx (oVar (pv 0)) (oK pe_int (fun _ => .int _)) (fun _ _ => rfl)))) (oCons (oBin op_mulW okMul (oIx (ixAny hr) okIx (oVar (pv 0)) (oK pe_int (fun _ => .int _)) (fun _ _ => rfl)) (oIx (ixAny hr) okIx (oVar (pv 1)) (oK pe_int (fun _ => .int _)) (fun _ _ => rfl))) oNil)) (len_cons (len_cons (fun _ _ _ _ h => len_nil h)))))
      zNil)
theorem ok_l_times (T : Tx K mg) : FnOk P w K mg base CX0 2 T.a_l_times T.fd_l_times ["part", "by"] (spF K 2 f_l_times) :=
  mkFn T.F_l_times sc_l_times false fun cdv A outer s H E hr =>
    have nd := sc_l_times.nd
    (zCons (zRet (oCall (ok_l_lowest T) (hr.mono (by decide)) rfl T.m_l_lowest T.F_l_lowest.kp T.b_l_lowest (oCons (oBin op_mulW okMul (oIx (ixAny hr) okIx (oVar (pv 0)) (oK pe_int (fun _ => .int _)) (fun _ _ => rfl)) (oVar (pv 1))) (oCons (oIx (ixAny hr) okIx (oVar (pv 0)) (oK pe_int (fun _ => .int _)) (fun _ _ => rfl)) oNil)) (len_cons (len_cons (fun _ _ _ _ h => len_nil h)))))
      zNil)
theorem ok_l_less (T : Tx K mg) : FnOk P w K mg base CX0 1 T.a_l_less T.fd_l_less ["one", "other"] (spF K 2 f_l_less) :=
  mkFn T.F_l_less sc_l_less false fun cdv A outer s H E hr =>
    have nd := sc_l_less.nd
    (zCons (zRet (oCmp opLt okLt (oBin op_mulW okMul (oIx (ixAny hr) okIx (oVar (pv 0)) (oK pe_int (fun _ => .int _)) (fun _ _ => rfl)) (oIx (ixAny hr) okIx (oVar (pv 1)) (oK pe_int (fun _ => .int _)) (fun _ _ => rfl))) (oBin op_mulW okMul (oIx (ixAny hr) okIx (oVar (pv 1)) (oK pe_int (fun _ => .int _)) (fun _ _ => rfl)) (oIx (ixAny hr) okIx (oVar (pv 0)) (oK pe_int (fun _ => .int _)) (fun _ _ => rfl))) (nomark _)))
      zNil)
theorem ok_l_world (T : Tx K mg) : FnOk P w K mg base CX0 2 T.a_l_world T.fd_l_world ["bag", "most", "most_loads"] (spF K 3 f_l_world) :=
  mkFn T.F_l_world sc_l_world false fun cdv A outer s H E hr =>
    have nd := sc_l_world.nd
    (zCons (zSet (i := 3) nd rfl (by first | exact .inl rfl | exact .inr rfl) (oTup (oCons (oBin opAdd okAdd (oK pe_int (fun _ => .int _)) (oCall (ok_l_take T) (hr.mono (by decide)) rfl T.m_l_take T.F_l_take.kp T.b_l_take (oCons (oVar (pv 0)) (oCons (oIx (ixAny hr) okIx (oLst (oCons (oK pe_int (fun _ => .int _)) (oCons (oK pe_int (fun _ => .int _)) (oCons (oK pe_int (fun _ => .int _)) oNil)))) (oCall (ok_l_take T) (hr.mono (by decide)) rfl T.m_l_take T.F_l_take.kp T.b_l_take (oCons (oVar (pv 0)) (oCons (oK pe_int (fun _ => .int _)) oNil)) (len_cons (len_cons (fun _ _ _ _ h => len_nil h)))) (fun _ _ => rfl)) oNil)) (len_cons (len_cons (fun _ _ _ _ h => len_nil h))))) (oCons (oBin opAdd okAdd (oK pe_int (fun _ => .int _)) (oCall (ok_l_take T) (hr.mono (by decide)) rfl T.m_l_take T.F_l_take.kp T.b_l_take (oCons (oVar (pv 0)) (oCons (oIx (ixAny hr) okIx (oLst (oCons (oK pe_int (fun _ => .int _)) (oCons (oK pe_int (fun _ => .int _)) oNil))) (oCall (ok_l_take T) (hr.mono (by decide)) rfl T.m_l_take T.F_l_take.kp T.b_l_take (oCons (oVar (pv 0)) (oCons (oK pe_int (fun _ => .int _)) oNil)) (len_cons (len_cons (fun _ _ _ _ h => len_nil h)))) (fun _ _ => rfl)) oNil)) (len_cons (len_cons (fun _ _ _ _ h => len_nil h))))) oNil))))
      (zCons (zSet (i := 4) nd rfl (by first | exact .inl rfl | exact .inr rfl) (oBin opAdd okAdd (oK pe_int (fun _ => .int _)) (oCall (ok_l_take T) (hr.mono (by decide)) rfl T.m_l_take T.F_l_take.kp T.b_l_take (oCons (oVar (pv 0)) (oCons (oIx (ixAny hr) okIx (oLst (oCons (oK pe_int (fun _ => .int _)) (oCons (oK pe_int (fun _ => .int _)) oNil))) (oCall (ok_l_take T) (hr.mono (by decide)) rfl T.m_l_take T.F_l_take.kp T.b_l_take (oCons (oVar (pv 0)) (oCons (oK pe_int (fun _ => .int _)) oNil)) (len_cons (len_cons (fun _ _ _ _ h => len_nil h)))) (fun _ _ => rfl)) oNil)) (len_cons (len_cons (fun _ _ _ _ h => len_nil h))))))
      (zCons (zSet (i := 5) nd rfl (by first | exact .inl rfl | exact .inr rfl) (oCmp (op_eqD hr.units) okEq (oCall (ok_l_take T) (hr.mono (by decide)) rfl T.m_l_take T.F_l_take.kp T.b_l_take (oCons (oVar (pv 0)) (oCons (oK pe_int (fun _ => .int _)) oNil)) (len_cons (len_cons (fun _ _ _ _ h => len_nil h)))) (oK pe_int (fun _ => .int _)) (nomark _)))
      (zCons (zSet (i := 6) nd rfl (by first | exact .inl rfl | exact .inr rfl) (oNewL oNil))
      (zCons (zFor PassesOwn.never rfl (iSeq (oSl (oLst (oCons (oK pe_str (fun _ => .str _)) (oCons (oK pe_str (fun _ => .str _)) (oCons (oK pe_str (fun _ => .str _)) (oCons (oK pe_str (fun _ => .str _)) oNil))))) pNone (pSome (oBin opAdd okAdd (oK pe_int (fun _ => .int _)) (oCall (ok_l_take T) (hr.mono (by decide)) rfl T.m_l_take T.F_l_take.kp T.b_l_take (oCons (oVar (pv 0)) (oCons (oVar (pv 1)) oNil)) (len_cons (len_cons (fun _ _ _ _ h => len_nil h)))))))) (gNameOk (i := 7) nd rfl (by first | exact .inl rfl | exact .inr rfl)) (zCons (zSet (i := 8) nd rfl (by first | exact .inl rfl | exact .inr rfl) (oIf (qVal (oVar (pv 5))) (oVar (pv 4)) (oBin opAdd okAdd (oK pe_int (fun _ => .int _)) (oCall (ok_l_take T) (hr.mono (by decide)) rfl T.m_l_take T.F_l_take.kp T.b_l_take (oCons (oVar (pv 0)) (oCons (oIx (ixAny hr) okIx (oLst (oCons (oK pe_int (fun _ => .int _)) (oCons (oK pe_int (fun _ => .int _)) oNil))) (oCall (ok_l_take T) (hr.mono (by decide)) rfl T.m_l_take T.F_l_take.kp T.b_l_take (oCons (oVar (pv 0)) (oCons (oK pe_int (fun _ => .int _)) oNil)) (len_cons (len_cons (fun _ _ _ _ h => len_nil h)))) (fun _ _ => rfl)) oNil)) (len_cons (len_cons (fun _ _ _ _ h => len_nil h)))))))
      (zCons (zSet (i := 9) nd rfl (by first | exact .inl rfl | exact .inr rfl) (oBin opAdd okAdd (oK pe_int (fun _ => .int _)) (oCall (ok_l_take T) (hr.mono (by decide)) rfl T.m_l_take T.F_l_take.kp T.b_l_take (oCons (oVar (pv 0)) (oCons (oIx (ixAny hr) okIx (oLst (oCons (oK pe_int (fun _ => .int _)) (oCons (oK pe_int (fun _ => .int _)) oNil))) (oCall (ok_l_take T) (hr.mono (by decide)) rfl T.m_l_take T.F_l_take.kp T.b_l_take (oCons (oVar (pv 0)) (oCons (oK pe_int (fun _ => .int _)) oNil)) (len_cons (len_cons (fun _ _ _ _ h => len_nil h)))) (fun _ _ => rfl)) oNil)) (len_cons (len_cons (fun _ _ _ _ h => len_nil h))))))
      (zCons (zExpr (oAppend (oVar (pv 6)) (oTup (oCons (oVar (pv 7)) (oCons (oVar (pv 9)) (oCons (oVar (pv 8)) (oCons (oCall (ok_l_take T) (hr.mono (by decide)) rfl T.m_l_take T.F_l_take.kp T.b_l_take (oCons (oVar (pv 0)) (oCons (oIx (ixAny hr) okIx (oLst (oCons (oK pe_int (fun _ => .int _)) (oCons (oK pe_int (fun _ => .int _)) (oCons (oK pe_int (fun _ => .int _)) oNil)))) (oCall (ok_l_take T) (hr.mono (by decide)) rfl T.m_l_take T.F_l_take.kp T.b_l_take (oCons (oVar (pv 0)) (oCons (oK pe_int (fun _ => .int _)) oNil)) (len_cons (len_cons (fun _ _ _ _ h => len_nil h)))) (fun _ _ => rfl)) oNil)) (len_cons (len_cons (fun _ _ _ _ h => len_nil h)))) oNil)))))))
      zNil))))
      (zCons (zSet (i := 10) nd rfl (by first | exact .inl rfl | exact .inr rfl) (oNewL oNil))
      (zCons (zFor PassesOwn.never rfl (iSeq (oSl (oLst (oCons (oK pe_str (fun _ => .str _)) (oCons (oK pe_str (fun _ => .str _)) oNil))) pNone (pSome (oCall (ok_l_take T) (hr.mono (by decide)) rfl T.m_l_take T.F_l_take.kp T.b_l_take (oCons (oVar (pv 0)) (oCons (oBin opAdd okAdd (oVar (pv 2)) (oK pe_int (fun _ => .int _))) oNil)) (len_cons (len_cons (fun _ _ _ _ h => len_nil h))))))) (gNameOk (i := 7) nd rfl (by first | exact .inl rfl | exact .inr rfl)) (zCons (zExpr (oAppend (oVar (pv 10)) (oTup (oCons (oVar (pv 7)) (oCons (oBin opAdd okAdd (oK pe_int (fun _ => .int _)) (oCall (ok_l_take T) (hr.mono (by decide)) rfl T.m_l_take T.F_l_take.kp T.b_l_take (oCons (oVar (pv 0)) (oCons (oIx (ixAny hr) okIx (oLst (oCons (oK pe_int (fun _ => .int _)) (oCons (oK pe_int (fun _ => .int _)) oNil))) (oCall (ok_l_take T) (hr.mono (by decide)) rfl T.m_l_take T.F_l_take.kp T.b_l_take (oCons (oVar (pv 0)) (oCons (oK pe_int (fun _ => .int _)) oNil)) (len_cons (len_cons (fun _ _ _ _ h => len_nil h)))) (fun _ _ => rfl)) oNil)) (len_cons (len_cons (fun _ _ _ _ h => len_nil h))))) oNil)))))
      zNil))
      (zCons (zFz (i := 10) (zFz (i := 6) (zRet (oTup (oCons (oVar (pv 3)) (oCons (oCallT clTup (ckTup false) rfl T.m_tuple (by decide +kernel) (oCons (oVar (pv 6)) oNil)) (oCons (oCallT clTup (ckTup false) rfl T.m_tuple (by decide +kernel) (oCons (oVar (pv 10)) oNil)) oNil)))))))
      zNil))))))))
theorem ok_l_names (T : Tx K mg) : FnOk P w K mg base CX0 1 T.a_l_names T.fd_l_names ["world"] (spF K 1 f_l_names) :=
  mkFn T.F_l_names sc_l_names false fun cdv A outer s H E hr =>
    have nd := sc_l_names.nd
    (zCons (zRet (oCallB cr_sortedS ckSortS rfl T.m_sorted (by decide +kernel) (oCons (oComp (own := [("one", 1)]) [1] rfl (by decide) rfl nd (iSeq (oBin opAdd okAdd (oIx (ixAny hr) okIx (oVar (pv 0)) (oK pe_int (fun _ => .int _)) (fun _ _ => rfl)) (oIx (ixAny hr) okIx (oVar (pv 0)) (oK pe_int (fun _ => .int _)) (fun _ _ => rfl)))) (by kernel_rfl) (fun _ _ _ _ _ => (gNameOk (i := 1) nd rfl (by first | exact .inl rfl | exact .inr rfl))) (fun _ _ _ _ _ => tsNil) (fun _ _ _ _ _ => (oIx (ixAny hr) okIx (oVar (pv 1)) (oK pe_int (fun _ => .int _)) (fun _ _ => rfl)))) oNil)))
      zNil)
theorem ok_l_folk (T : Tx K mg) : FnOk P w K mg base CX0 1 T.a_l_folk T.fd_l_folk ["world"] (spF K 1 f_l_folk) :=
  mkFn T.F_l_folk sc_l_folk false fun cdv A outer s H E hr =>
    have nd := sc_l_folk.nd
    (zCons (zRet (oComp (own := [("one", 1)]) [1] rfl (by decide) rfl nd (iSeq (oIx (ixAny hr) okIx (oVar (pv 0)) (oK pe_int (fun _ => .int _)) (fun _ _ => rfl))) (by kernel_rfl) (fun _ _ _ _ _ => (gNameOk (i := 1) nd rfl (by first | exact .inl rfl | exact .inr rfl))) (fun _ _ _ _ _ => tsNil) (fun _ _ _ _ _ => (oIx (ixAny hr) okIx (oVar (pv 1)) (oK pe_int (fun _ => .int _)) (fun _ _ => rfl)))))
      zNil)
theorem ok_l_can_lie (T : Tx K mg) : FnOk P w K mg base CX0 2 T.a_l_can_lie T.fd_l_can_lie ["world", "lot"] (spF K 2 f_l_can_lie) :=
  mkFn T.F_l_can_lie sc_l_can_lie false fun cdv A outer s H E hr =>
    have nd := sc_l_can_lie.nd
    (zCons (zSetComp (i := 2) (own := [("name", 3)]) [3] rfl (by decide) rfl nd rfl rfl (sw_true rfl rfl rfl (by decide +kernel)) (iSeq (oVar (pv 1))) (by kernel_rfl) (fun _ _ _ _ _ => (gNameOk (i := 3) nd rfl (by first | exact .inl rfl | exact .inr rfl))) (fun _ _ _ _ _ => (tsOne (qCmp (opIn hr) okIn (oVar (pv 3)) (oCall (ok_l_folk T) (hr.mono (by decide)) rfl T.m_l_folk T.F_l_folk.kp T.b_l_folk (oCons (oVar (pv 0)) oNil) (len_cons (fun _ _ _ _ h => len_nil h))) (by with_unfolding_all rfl)))) (fun _ _ _ _ _ => (oVar (pv 3))))
      (zCons (zRet (oOr (oCmp (op_neD hr.units) okNe (oVar (pv 2)) (oLst oNil) (nomark _)) (oOne (oCmp (op_eqD hr.units) okEq (oCallT call_list_of ckList rfl T.m_list (by decide +kernel) (oCons (oVar (pv 1)) oNil)) (oLst oNil) (nomark _)))))
      zNil))
theorem ok_l_place (T : Tx K mg) : FnOk P w K mg base CX0 3 T.a_l_place T.fd_l_place ["bag", "world"] (spF K 2 f_l_place) :=
  mkFn T.F_l_place sc_l_place false fun cdv A outer s H E hr =>
    have nd := sc_l_place.nd
    (zCons (zRet (oCall (ok_l_lowest T) (hr.mono (by decide)) rfl T.m_l_lowest T.F_l_lowest.kp T.b_l_lowest (oCons (oBin op_mulW okMul (oIx (ixAny hr) okIx (oIx (ixAny hr) okIx (oVar (pv 1)) (oK pe_int (fun _ => .int _)) (fun _ _ => rfl)) (oK pe_int (fun _ => .int _)) (fun _ _ => rfl)) (oCall (ok_l_of T) (hr.mono (by decide)) rfl T.m_l_of T.F_l_of.kp T.b_l_of (oCons (oVar (pv 0)) (oCons (oLst (oCons (oK pe_int (fun _ => .int _)) (oCons (oK pe_int (fun _ => .int _)) (oCons (oK pe_int (fun _ => .int _)) (oCons (oK pe_int (fun _ => .int _)) (oCons (oK pe_int (fun _ => .int _)) (oCons (oK pe_int (fun _ => .int _)) oNil))))))) oNil)) (len_cons (len_cons (fun _ _ _ _ h => len_nil h))))) (oCons (oK pe_int (fun _ => .int _)) oNil)) (len_cons (len_cons (fun _ _ _ _ h => len_nil h)))))
      zNil)
theorem ok_l_rows (T : Tx K mg) : FnOk P w K mg base CX0 4 T.a_l_rows T.fd_l_rows ["bag", "world", "lot"] (spF K 3 f_l_rows) :=
  mkFn T.F_l_rows sc_l_rows false fun cdv A outer s H E hr =>
    have nd := sc_l_rows.nd
    (zCons (zRet (oCallT clTup (ckTup true) rfl T.m_tuple (by decide +kernel) (oCons (oComp (own := [("name", 3)]) [3] rfl (by decide) rfl nd (iSeq (oVar (pv 2))) (by kernel_rfl) (fun _ _ _ _ _ => (gNameOk (i := 3) nd rfl (by first | exact .inl rfl | exact .inr rfl))) (fun _ _ _ _ _ => tsNil) (fun _ _ _ _ _ => (oTup (oCons (oVar (pv 3)) (oCons (oCall (ok_l_place T) (hr.mono (by decide)) rfl T.m_l_place T.F_l_place.kp T.b_l_place (oCons (oVar (pv 0)) (oCons (oVar (pv 1)) oNil)) (len_cons (len_cons (fun _ _ _ _ h => len_nil h)))) oNil))))) oNil)))
      zNil)
theorem ok_l_lot (T : Tx K mg) : FnOk P w K mg base CX0 3 T.a_l_lot T.fd_l_lot ["bag", "world"] (spF K 2 f_l_lot) :=
  mkFn T.F_l_lot sc_l_lot false fun cdv A outer s H E hr =>
    have nd := sc_l_lot.nd
    (zCons (zSet (i := 2) nd rfl (by first | exact .inl rfl | exact .inr rfl) (oNewL oNil))
      (zCons (zFor PassesOwn.never rfl (iSeq (oCall (ok_l_names T) (hr.mono (by decide)) rfl T.m_l_names T.F_l_names.kp T.b_l_names (oCons (oVar (pv 1)) oNil) (len_cons (fun _ _ _ _ h => len_nil h)))) (gNameOk (i := 3) nd rfl (by first | exact .inl rfl | exact .inr rfl)) (zCons (zIf (qCmp op_gt okGt (oCall (ok_l_take T) (hr.mono (by decide)) rfl T.m_l_take T.F_l_take.kp T.b_l_take (oCons (oVar (pv 0)) (oCons (oK pe_int (fun _ => .int _)) oNil)) (len_cons (len_cons (fun _ _ _ _ h => len_nil h)))) (oK pe_int (fun _ => .int _)) (nomark _)) (zCons (zExpr (oAppend (oVar (pv 2)) (oVar (pv 3))))
      zNil) zNil)
      zNil))
      (zCons (zFz (i := 2) (zRet (oIf (qVal (oCall (ok_l_can_lie T) (hr.mono (by decide)) rfl T.m_l_can_lie T.F_l_can_lie.kp T.b_l_can_lie (oCons (oVar (pv 1)) (oCons (oVar (pv 2)) oNil)) (len_cons (len_cons (fun _ _ _ _ h => len_nil h))))) (oCallT clTup (ckTup false) rfl T.m_tuple (by decide +kernel) (oCons (oVar (pv 2)) oNil)) (oCallT clTup (ckTup false) rfl T.m_tuple (by decide +kernel) (oCons (oCall (ok_l_names T) (hr.mono (by decide)) rfl T.m_l_names T.F_l_names.kp T.b_l_names (oCons (oVar (pv 1)) oNil) (len_cons (fun _ _ _ _ h => len_nil h))) oNil)))))
      zNil)))
theorem ok_l_standing (T : Tx K mg) : FnOk P w K mg base CX0 5 T.a_l_standing T.fd_l_standing ["bag", "world"] (spF K 2 f_l_standing) :=
  mkFn T.F_l_standing sc_l_standing false fun cdv A outer s H E hr =>
    have nd := sc_l_standing.nd
    (zCons (zSet (i := 2) nd rfl (by first | exact .inl rfl | exact .inr rfl) (oIx (ixAny hr) okIx (oLst (oCons (oK pe_int (fun _ => .int _)) (oCons (oIx (ixAny hr) okIx (oIx (ixAny hr) okIx (oVar (pv 1)) (oK pe_int (fun _ => .int _)) (fun _ _ => rfl)) (oK pe_int (fun _ => .int _)) (fun _ _ => rfl)) (oCons (oK pe_int (fun _ => .int _)) oNil)))) (oCall (ok_l_take T) (hr.mono (by decide)) rfl T.m_l_take T.F_l_take.kp T.b_l_take (oCons (oVar (pv 0)) (oCons (oK pe_int (fun _ => .int _)) oNil)) (len_cons (len_cons (fun _ _ _ _ h => len_nil h)))) (fun _ _ => rfl)))
      (zCons (zSet (i := 3) nd rfl (by first | exact .inl rfl | exact .inr rfl) (oCall (ok_l_lowest T) (hr.mono (by decide)) rfl T.m_l_lowest T.F_l_lowest.kp T.b_l_lowest (oCons (oCall (ok_l_take T) (hr.mono (by decide)) rfl T.m_l_take T.F_l_take.kp T.b_l_take (oCons (oVar (pv 0)) (oCons (oBin opAdd okAdd (oBin op_mulW okMul (oK pe_int (fun _ => .int _)) (oVar (pv 2))) (oK pe_int (fun _ => .int _))) oNil)) (len_cons (len_cons (fun _ _ _ _ h => len_nil h)))) (oCons (oK pe_int (fun _ => .int _)) oNil)) (len_cons (len_cons (fun _ _ _ _ h => len_nil h)))))
      (zCons (zRet (oTup (oCons (oVar (pv 3)) (oCons (oCall (ok_l_rows T) (hr.mono (by decide)) rfl T.m_l_rows T.F_l_rows.kp T.b_l_rows (oCons (oVar (pv 0)) (oCons (oVar (pv 1)) (oCons (oCall (ok_l_lot T) (hr.mono (by decide)) rfl T.m_l_lot T.F_l_lot.kp T.b_l_lot (oCons (oVar (pv 0)) (oCons (oVar (pv 1)) oNil)) (len_cons (len_cons (fun _ _ _ _ h => len_nil h)))) oNil))) (len_cons (len_cons (len_cons (fun _ _ _ _ h => len_nil h))))) oNil))))
      zNil)))
theorem ok_l_weight (T : Tx K mg) : FnOk P w K mg base CX0 1 T.a_l_weight T.fd_l_weight ["world", "lot"] (spF K 2 f_l_weight) :=
  mkFn T.F_l_weight sc_l_weight false fun cdv A outer s H E hr =>
    have nd := sc_l_weight.nd
    (zCons (zSet (i := 2) nd rfl (by first | exact .inl rfl | exact .inr rfl) (oDictK rfl rfl T.m_dict (by decide +kernel) (oComp (own := [("one", 3)]) [3] rfl (by decide) rfl nd (iSeq (oBin opAdd okAdd (oIx (ixAny hr) okIx (oVar (pv 0)) (oK pe_int (fun _ => .int _)) (fun _ _ => rfl)) (oIx (ixAny hr) okIx (oVar (pv 0)) (oK pe_int (fun _ => .int _)) (fun _ _ => rfl)))) (by kernel_rfl) (fun _ _ _ _ _ => (gNameOk (i := 3) nd rfl (by first | exact .inl rfl | exact .inr rfl))) (fun _ _ _ _ _ => tsNil) (fun _ _ _ _ _ => (oTup (oCons (oIx (ixAny hr) okIx (oVar (pv 3)) (oK pe_int (fun _ => .int _)) (fun _ _ => rfl)) (oCons (oIx (ixAny hr) okIx (oVar (pv 3)) (oK pe_int (fun _ => .int _)) (fun _ _ => rfl)) oNil)))))))
      (zCons (zRet (oCallB (cr_sum rfl) ckSum rfl T.m_sum (by decide +kernel) (oCons (oComp (own := [("name", 4)]) [4] rfl (by decide) rfl nd (iSeq (oVar (pv 1))) (by kernel_rfl) (fun _ _ _ _ _ => (gNameOk (i := 4) nd rfl (by first | exact .inl rfl | exact .inr rfl))) (fun _ _ _ _ _ => tsNil) (fun _ _ _ _ _ => (oIx (ixAny hr) okIx (oVar (pv 2)) (oVar (pv 4)) (fun _ _ => rfl)))) oNil)))
      zNil))
theorem ok_l_aboard (T : Tx K mg) : FnOk P w K mg base CX0 1 T.a_l_aboard T.fd_l_aboard ["standing"] (spF K 1 f_l_aboard) :=
  mkFn T.F_l_aboard sc_l_aboard false fun cdv A outer s H E hr =>
    have nd := sc_l_aboard.nd
    (zCons (zRet (oCallT clTup (ckTup false) rfl T.m_tuple (by decide +kernel) (oCons (oComp (own := [("row", 1)]) [1] rfl (by decide) rfl nd (iSeq (oIx (ixAny hr) okIx (oVar (pv 0)) (oK pe_int (fun _ => .int _)) (fun _ _ => rfl))) (by kernel_rfl) (fun _ _ _ _ _ => (gNameOk (i := 1) nd rfl (by first | exact .inl rfl | exact .inr rfl))) (fun _ _ _ _ _ => tsNil) (fun _ _ _ _ _ => (oIx (ixAny hr) okIx (oVar (pv 1)) (oK pe_int (fun _ => .int _)) (fun _ _ => rfl)))) oNil)))
      zNil)
theorem ok_l_gap (T : Tx K mg) : FnOk P w K mg base CX0 3 T.a_l_gap T.fd_l_gap ["world", "standing", "rows"] (spF K 3 f_l_gap) :=
  mkFn T.F_l_gap sc_l_gap false fun cdv A outer s H E hr =>
    have nd := sc_l_gap.nd
    (zCons (zSet (i := 3) nd rfl (by first | exact .inl rfl | exact .inr rfl) (oDictK rfl rfl T.m_dict (by decide +kernel) (oComp (own := [("one", 9)]) [9] rfl (by decide) rfl nd (iSeq (oBin opAdd okAdd (oIx (ixAny hr) okIx (oVar (pv 0)) (oK pe_int (fun _ => .int _)) (fun _ _ => rfl)) (oIx (ixAny hr) okIx (oVar (pv 0)) (oK pe_int (fun _ => .int _)) (fun _ _ => rfl)))) (by kernel_rfl) (fun _ _ _ _ _ => (gNameOk (i := 9) nd rfl (by first | exact .inl rfl | exact .inr rfl))) (fun _ _ _ _ _ => tsNil) (fun _ _ _ _ _ => (oTup (oCons (oIx (ixAny hr) okIx (oVar (pv 9)) (oK pe_int (fun _ => .int _)) (fun _ _ => rfl)) (oCons (oIx (ixAny hr) okIx (oVar (pv 9)) (oK pe_int (fun _ => .int _)) (fun _ _ => rfl)) oNil)))))))
      (zCons (zSet (i := 4) nd rfl (by first | exact .inl rfl | exact .inr rfl) (oDictK rfl rfl T.m_dict (by decide +kernel) (oIx (ixAny hr) okIx (oVar (pv 1)) (oK pe_int (fun _ => .int _)) (fun _ _ => rfl))))
      (zCons (zSet (i := 5) nd rfl (by first | exact .inl rfl | exact .inr rfl) (oTup (oCons (oK pe_int (fun _ => .int _)) (oCons (oK pe_int (fun _ => .int _)) oNil))))
      (zCons (zFor PassesOwn.never rfl (iSeq (oVar (pv 2))) (gTuple rfl (gsCons (gNameOk (i := 6) nd rfl (by first | exact .inl rfl | exact .inr rfl)) (gsCons (gNameOk (i := 7) nd rfl (by first | exact .inl rfl | exact .inr rfl)) gsNil)) (glen1 (glen1 glen0))) (zCons (zSet (i := 5) nd rfl (by first | exact .inl rfl | exact .inr rfl) (oCall (ok_l_plus T) (hr.mono (by decide)) rfl T.m_l_plus T.F_l_plus.kp T.b_l_plus (oCons (oVar (pv 5)) (oCons (oCall (ok_l_times T) (hr.mono (by decide)) rfl T.m_l_times T.F_l_times.kp T.b_l_times (oCons (oCall (ok_l_minus T) (hr.mono (by decide)) rfl T.m_l_minus T.F_l_minus.kp T.b_l_minus (oCons (oVar (pv 7)) (oCons (oIx (ixAny hr) okIx (oVar (pv 4)) (oVar (pv 6)) (fun _ _ => rfl)) oNil)) (len_cons (len_cons (fun _ _ _ _ h => len_nil h)))) (oCons (oIx (ixAny hr) okIx (oVar (pv 3)) (oVar (pv 6)) (fun _ _ => rfl)) oNil)) (len_cons (len_cons (fun _ _ _ _ h => len_nil h)))) oNil)) (len_cons (len_cons (fun _ _ _ _ h => len_nil h)))))
      zNil))
      (zCons (zSet (i := 8) nd rfl (by first | exact .inl rfl | exact .inr rfl) (oBin opAdd okAdd (oIx (ixAny hr) okIx (oIx (ixAny hr) okIx (oVar (pv 0)) (oK pe_int (fun _ => .int _)) (fun _ _ => rfl)) (oK pe_int (fun _ => .int _)) (fun _ _ => rfl)) (oCall (ok_l_weight T) (hr.mono (by decide)) rfl T.m_l_weight T.F_l_weight.kp T.b_l_weight (oCons (oVar (pv 0)) (oCons (oCall (ok_l_aboard T) (hr.mono (by decide)) rfl T.m_l_aboard T.F_l_aboard.kp T.b_l_aboard (oCons (oVar (pv 1)) oNil) (len_cons (fun _ _ _ _ h => len_nil h))) oNil)) (len_cons (len_cons (fun _ _ _ _ h => len_nil h))))))
      (zCons (zRet (oCall (ok_l_minus T) (hr.mono (by decide)) rfl T.m_l_minus T.F_l_minus.kp T.b_l_minus (oCons (oIx (ixAny hr) okIx (oVar (pv 1)) (oK pe_int (fun _ => .int _)) (fun _ _ => rfl)) (oCons (oCall (ok_l_lowest T) (hr.mono (by decide)) rfl T.m_l_lowest T.F_l_lowest.kp T.b_l_lowest (oCons (oIx (ixAny hr) okIx (oVar (pv 5)) (oK pe_int (fun _ => .int _)) (fun _ _ => rfl)) (oCons (oBin op_mulW okMul (oIx (ixAny hr) okIx (oVar (pv 5)) (oK pe_int (fun _ => .int _)) (fun _ _ => rfl)) (oVar (pv 8))) oNil)) (len_cons (len_cons (fun _ _ _ _ h => len_nil h)))) oNil)) (len_cons (len_cons (fun _ _ _ _ h => len_nil h)))))
      zNil))))))
theorem ok_l_does (T : Tx K mg) : FnOk P w K mg base CX0 3 T.a_l_does T.fd_l_does ["world", "standing", "name", "weight", "pair"] (spF K 5 f_l_does) :=
  mkFn T.F_l_does sc_l_does false fun cdv A outer s H E hr =>
    have nd := sc_l_does.nd
    (zCons (zSet (i := 5) nd rfl (by first | exact .inl rfl | exact .inr rfl) (oDictKC rfl rfl T.m_dict (by decide +kernel) (oComp (own := [("one", 9)]) [9] rfl (by decide) rfl nd (iSeq (oBin opAdd okAdd (oIx (ixAny hr) okIx (oVar (pv 0)) (oK pe_int (fun _ => .int _)) (fun _ _ => rfl)) (oIx (ixAny hr) okIx (oVar (pv 0)) (oK pe_int (fun _ => .int _)) (fun _ _ => rfl)))) (by kernel_rfl) (fun _ _ _ _ _ => (gNameOk (i := 9) nd rfl (by first | exact .inl rfl | exact .inr rfl))) (fun _ _ _ _ _ => tsNil) (fun _ _ _ _ _ => (oTup (oCons (oIx (ixAny hr) okIx (oVar (pv 9)) (oK pe_int (fun _ => .int _)) (fun _ _ => rfl)) (oCons (oTup (oCons (oIx (ixAny hr) okIx (oVar (pv 9)) (oK pe_int (fun _ => .int _)) (fun _ _ => rfl)) (oCons (oK pe_int (fun _ => .int _)) oNil))) oNil)))))))
      (zCons (zPutK hr (oVar (pv 3)) (oVar (pv 5)) (oVar (pv 2)))
      (zCons (zPar (i := 6) (j := 7) rfl nd rfl rfl (by decide) rfl rfl (oCons (oTup (oCons (oK pe_int (fun _ => .int _)) (oCons (oK pe_int (fun _ => .int _)) oNil))) (oCons (oTup (oCons (oIx (ixAny hr) okIx (oIx (ixAny hr) okIx (oVar (pv 0)) (oK pe_int (fun _ => .int _)) (fun _ _ => rfl)) (oK pe_int (fun _ => .int _)) (fun _ _ => rfl)) (oCons (oK pe_int (fun _ => .int _)) oNil))) oNil)) rfl)
      (zCons (zSet (i := 8) nd rfl (by first | exact .inl rfl | exact .inr rfl) (oDictK rfl rfl T.m_dict (by decide +kernel) (oIx (ixAny hr) okIx (oVar (pv 1)) (oK pe_int (fun _ => .int _)) (fun _ _ => rfl))))
      (zCons (zFz (i := 5) (zFor PassesOwn.never rfl (iSeq (oIx (ixAny hr) okIx (oVar (pv 4)) (oK pe_int (fun _ => .int _)) (fun _ _ => rfl))) (gTuple rfl (gsCons (gNameOk (i := 9) nd rfl (by first | exact .inl rfl | exact .inr rfl)) (gsCons (gNameOk (i := 10) nd rfl (by first | exact .inl rfl | exact .inr rfl)) gsNil)) (glen1 (glen1 glen0))) (zCons (zSet (i := 11) nd rfl (by first | exact .inl rfl | exact .inr rfl) (oCall (ok_l_minus T) (hr.mono (by decide)) rfl T.m_l_minus T.F_l_minus.kp T.b_l_minus (oCons (oVar (pv 10)) (oCons (oIx (ixAny hr) okIx (oVar (pv 8)) (oVar (pv 9)) (fun _ _ => rfl)) oNil)) (len_cons (len_cons (fun _ _ _ _ h => len_nil h)))))
      (zCons (zSet (i := 6) nd rfl (by first | exact .inl rfl | exact .inr rfl) (oCall (ok_l_plus T) (hr.mono (by decide)) rfl T.m_l_plus T.F_l_plus.kp T.b_l_plus (oCons (oVar (pv 6)) (oCons (oCall (ok_l_lowest T) (hr.mono (by decide)) rfl T.m_l_lowest T.F_l_lowest.kp T.b_l_lowest (oCons (oBin op_mulW okMul (oIx (ixAny hr) okIx (oVar (pv 11)) (oK pe_int (fun _ => .int _)) (fun _ _ => rfl)) (oIx (ixAny hr) okIx (oIx (ixAny hr) okIx (oVar (pv 5)) (oVar (pv 9)) (fun _ _ => rfl)) (oK pe_int (fun _ => .int _)) (fun _ _ => rfl))) (oCons (oBin op_mulW okMul (oIx (ixAny hr) okIx (oVar (pv 11)) (oK pe_int (fun _ => .int _)) (fun _ _ => rfl)) (oIx (ixAny hr) okIx (oIx (ixAny hr) okIx (oVar (pv 5)) (oVar (pv 9)) (fun _ _ => rfl)) (oK pe_int (fun _ => .int _)) (fun _ _ => rfl))) oNil)) (len_cons (len_cons (fun _ _ _ _ h => len_nil h)))) oNil)) (len_cons (len_cons (fun _ _ _ _ h => len_nil h)))))
      (zCons (zSet (i := 7) nd rfl (by first | exact .inl rfl | exact .inr rfl) (oCall (ok_l_plus T) (hr.mono (by decide)) rfl T.m_l_plus T.F_l_plus.kp T.b_l_plus (oCons (oVar (pv 7)) (oCons (oIx (ixAny hr) okIx (oVar (pv 5)) (oVar (pv 9)) (fun _ _ => rfl)) oNil)) (len_cons (len_cons (fun _ _ _ _ h => len_nil h)))))
      zNil)))))
      (zCons (zSet (i := 12) nd rfl (by first | exact .inl rfl | exact .inr rfl) (oCall (ok_l_minus T) (hr.mono (by decide)) rfl T.m_l_minus T.F_l_minus.kp T.b_l_minus (oCons (oIx (ixAny hr) okIx (oVar (pv 1)) (oK pe_int (fun _ => .int _)) (fun _ _ => rfl)) (oCons (oIx (ixAny hr) okIx (oVar (pv 4)) (oK pe_int (fun _ => .int _)) (fun _ _ => rfl)) oNil)) (len_cons (len_cons (fun _ _ _ _ h => len_nil h)))))
      (zCons (zRet (oCmp (op_eqD hr.units) okEq (oCall (ok_l_lowest T) (hr.mono (by decide)) rfl T.m_l_lowest T.F_l_lowest.kp T.b_l_lowest (oCons (oBin op_mulW okMul (oIx (ixAny hr) okIx (oVar (pv 12)) (oK pe_int (fun _ => .int _)) (fun _ _ => rfl)) (oIx (ixAny hr) okIx (oVar (pv 7)) (oK pe_int (fun _ => .int _)) (fun _ _ => rfl))) (oCons (oBin op_mulW okMul (oIx (ixAny hr) okIx (oVar (pv 12)) (oK pe_int (fun _ => .int _)) (fun _ _ => rfl)) (oIx (ixAny hr) okIx (oVar (pv 7)) (oK pe_int (fun _ => .int _)) (fun _ _ => rfl))) oNil)) (len_cons (len_cons (fun _ _ _ _ h => len_nil h)))) (oVar (pv 6)) (nomark _)))
      zNil)))))))
theorem ok_law_k16 (T : Tx K mg) : FnOk P w K mg base CX0 6 T.a_law_k16 T.fd_law_k16 ["script"] (spF K 1 f_law_k16) :=
  mkFn T.F_law_k16 sc_law_k16 false fun cdv A outer s H E hr =>
    have nd := sc_law_k16.nd
    (zCons (zFor PassesOwn.never rfl (iRange1 rfl T.m_range (oBin opAdd okAdd (oK pe_int (fun _ => .int _)) (oCallB (call_min2 rfl) ckMin2 rfl T.m_min (by decide +kernel) (oCons (oCallB clLen ckLen rfl T.m_len (by decide +kernel) (oCons (oVar (pv 0)) oNil)) (oCons (oK pe_int (fun _ => .int _)) oNil))))) (gNameOk (i := 1) nd rfl (by first | exact .inl rfl | exact .inr rfl)) (zCons (zSet (i := 2) nd rfl (by first | exact .inl rfl | exact .inr rfl) (oCall (ok_l_bag T) (hr.mono (by decide)) rfl T.m_l_bag T.F_l_bag.kp T.b_l_bag (oCons (oVar (pv 0)) (oCons (oVar (pv 1)) oNil)) (len_cons (len_cons (fun _ _ _ _ h => len_nil h)))))
      (zCons (zSet (i := 3) nd rfl (by first | exact .inl rfl | exact .inr rfl) (oCall (ok_l_world T) (hr.mono (by decide)) rfl T.m_l_world T.F_l_world.kp T.b_l_world (oCons (oVar (pv 2)) (oCons (oK pe_int (fun _ => .int _)) (oCons (oK pe_int (fun _ => .int _)) oNil))) (len_cons (len_cons (len_cons (fun _ _ _ _ h => len_nil h))))))
      (zCons (zSet (i := 4) nd rfl (by first | exact .inl rfl | exact .inr rfl) (oCall (ok_l_standing T) (hr.mono (by decide)) rfl T.m_l_standing T.F_l_standing.kp T.b_l_standing (oCons (oVar (pv 2)) (oCons (oVar (pv 3)) oNil)) (len_cons (len_cons (fun _ _ _ _ h => len_nil h)))))
      (zCons (zSet (i := 5) nd rfl (by first | exact .inl rfl | exact .inr rfl) (oCall (ok_l_of T) (hr.mono (by decide)) rfl T.m_l_of T.F_l_of.kp T.b_l_of (oCons (oVar (pv 2)) (oCons (oLst (oCons (oIx (ixAny hr) okIx (oVar (pv 4)) (oK pe_int (fun _ => .int _)) (fun _ _ => rfl)) (oCons (oCall (ok_l_rows T) (hr.mono (by decide)) rfl T.m_l_rows T.F_l_rows.kp T.b_l_rows (oCons (oVar (pv 2)) (oCons (oVar (pv 3)) (oCons (oCall (ok_l_aboard T) (hr.mono (by decide)) rfl T.m_l_aboard T.F_l_aboard.kp T.b_l_aboard (oCons (oVar (pv 4)) oNil) (len_cons (fun _ _ _ _ h => len_nil h))) oNil))) (len_cons (len_cons (len_cons (fun _ _ _ _ h => len_nil h))))) oNil))) oNil)) (len_cons (len_cons (fun _ _ _ _ h => len_nil h)))))
      (zCons (zSet (i := 6) nd rfl (by first | exact .inl rfl | exact .inr rfl) (oCall (ok_l_gap T) (hr.mono (by decide)) rfl T.m_l_gap T.F_l_gap.kp T.b_l_gap (oCons (oVar (pv 3)) (oCons (oVar (pv 4)) (oCons (oVar (pv 5)) oNil))) (len_cons (len_cons (len_cons (fun _ _ _ _ h => len_nil h))))))
      (zCons (zSet (i := 7) nd rfl (by first | exact .inl rfl | exact .inr rfl) (oBin opAdd okAdd (oLst (oCons (oIx (ixAny hr) okIx (oVar (pv 4)) (oK pe_int (fun _ => .int _)) (fun _ _ => rfl)) (oCons (oTup (oCons (oCall (ok_l_take T) (hr.mono (by decide)) rfl T.m_l_take T.F_l_take.kp T.b_l_take (oCons (oVar (pv 2)) (oCons (oK pe_int (fun _ => .int _)) oNil)) (len_cons (len_cons (fun _ _ _ _ h => len_nil h)))) (oCons (oK pe_int (fun _ => .int _)) oNil))) oNil))) (oComp (own := [("part", 15)]) [15] rfl (by decide) rfl nd (iSeq (oLst (oCons (oVar (pv 6)) oNil))) (by kernel_rfl) (fun _ _ _ _ _ => (gNameOk (i := 15) nd rfl (by first | exact .inl rfl | exact .inr rfl))) (fun _ _ _ _ _ => (tsOne (qNot (qVal (oCall (ok_l_less T) (hr.mono (by decide)) rfl T.m_l_less T.F_l_less.kp T.b_l_less (oCons (oVar (pv 15)) (oCons (oTup (oCons (oK pe_int (fun _ => .int _)) (oCons (oK pe_int (fun _ => .int _)) oNil))) oNil)) (len_cons (len_cons (fun _ _ _ _ h => len_nil h)))))))) (fun _ _ _ _ _ => (oVar (pv 15))))))
      (zCons (zFor PassesOwn.never rfl (iSeq (oVar (pv 7))) (gNameOk (i := 8) nd rfl (by first | exact .inl rfl | exact .inr rfl)) (zCons (zFor PassesOwn.never rfl (iSeq (oCall (ok_l_names T) (hr.mono (by decide)) rfl T.m_l_names T.F_l_names.kp T.b_l_names (oCons (oVar (pv 3)) oNil) (len_cons (fun _ _ _ _ h => len_nil h)))) (gNameOk (i := 9) nd rfl (by first | exact .inl rfl | exact .inr rfl)) (zCons (zSet (i := 10) nd rfl (by first | exact .inl rfl | exact .inr rfl) (oCall (ok_heavy_by T) (hr.mono (by decide)) rfl T.m_heavy_by T.F_heavy_by.kp T.b_heavy_by (oCons (oVar (pv 3)) (oCons (oVar (pv 4)) (oCons (oVar (pv 9)) (oCons (oVar (pv 5)) (oCons (oVar (pv 8)) oNil))))) (len_cons (len_cons (len_cons (len_cons (len_cons (fun _ _ _ _ h => len_nil h))))))))
      (zCons (zSet (i := 11) nd rfl (by first | exact .inl rfl | exact .inr rfl) (oLst (oCons (oTup (oCons (oK pe_int (fun _ => .int _)) (oCons (oK pe_int (fun _ => .int _)) oNil))) (oCons (oTup (oCons (oK pe_int (fun _ => .int _)) (oCons (oK pe_int (fun _ => .int _)) oNil))) (oCons (oTup (oCons (oK pe_int (fun _ => .int _)) (oCons (oK pe_int (fun _ => .int _)) oNil))) (oCons (oTup (oCons (oK pe_int (fun _ => .int _)) (oCons (oK pe_int (fun _ => .int _)) oNil))) oNil))))))
      (zCons (zSetComp (i := 12) (own := [("weight", 16)]) [16] rfl (by decide) rfl nd rfl rfl (sw_true rfl rfl rfl (by decide +kernel)) (iSeq (oVar (pv 11))) (by kernel_rfl) (fun _ _ _ _ _ => (gNameOk (i := 16) nd rfl (by first | exact .inl rfl | exact .inr rfl))) (fun _ _ _ _ _ => tsNil) (fun _ _ _ _ _ => (oCall (ok_l_does T) (hr.mono (by decide)) rfl T.m_l_does T.F_l_does.kp T.b_l_does (oCons (oVar (pv 3)) (oCons (oVar (pv 4)) (oCons (oVar (pv 9)) (oCons (oVar (pv 16)) (oCons (oTup (oCons (oVar (pv 5)) (oCons (oVar (pv 8)) oNil))) oNil))))) (len_cons (len_cons (len_cons (len_cons (len_cons (fun _ _ _ _ h => len_nil h)))))))))
      (zCons (zIf (qCmp (op_neD hr.units) okNe (oCmp (op_eqD hr.units) okEq (oVar (pv 10)) (oK pe_str (fun _ => .str _)) (nomark _)) (oCmp (opNotIn hr) okNotIn (oK pe_bl (fun _ => .bl _)) (oVar (pv 12)) (by with_unfolding_all rfl)) (nomark _)) (zCons (zRet (oK pe_bl (fun _ => .bl _)))
      zNil) zNil)
      (zCons (zIf (qCmp op_isN okIsN (oVar (pv 10)) (oK pe_non (fun _ => .non)) (nomark _)) (zCons (zIf (qCmp (opIn hr) okIn (oK pe_bl (fun _ => .bl _)) (oVar (pv 12)) (by with_unfolding_all rfl)) (zCons (zRet (oK pe_bl (fun _ => .bl _)))
      zNil) zNil)
      zNil) (zCons (zIf (qCmp (op_neD hr.units) okNe (oVar (pv 10)) (oK pe_str (fun _ => .str _)) (nomark _)) (zCons (zSet (i := 13) nd rfl (by first | exact .inl rfl | exact .inr rfl) (oCall (ok_l_does T) (hr.mono (by decide)) rfl T.m_l_does T.F_l_does.kp T.b_l_does (oCons (oVar (pv 3)) (oCons (oVar (pv 4)) (oCons (oVar (pv 9)) (oCons (oVar (pv 10)) (oCons (oTup (oCons (oVar (pv 5)) (oCons (oVar (pv 8)) oNil))) oNil))))) (len_cons (len_cons (len_cons (len_cons (len_cons (fun _ _ _ _ h => len_nil h))))))))
      (zCons (zIf (L2.PW.pt (qOr (qCmp opLt okLt (oIx (ixAny hr) okIx (oVar (pv 10)) (oK pe_int (fun _ => .int _)) (fun _ _ => rfl)) (oK pe_int (fun _ => .int _)) (nomark _)) (qOne2 (qNot (qVal (oVar (pv 13))))))) (zCons (zRet (oK pe_bl (fun _ => .bl _)))
      zNil) zNil)
      zNil)) zNil)
      zNil))
      (zCons (zSet (i := 14) nd rfl (by first | exact .inl rfl | exact .inr rfl) (oCall (ok_l_weight T) (hr.mono (by decide)) rfl T.m_l_weight T.F_l_weight.kp T.b_l_weight (oCons (oVar (pv 3)) (oCons (oLst (oCons (oVar (pv 9)) oNil)) oNil)) (len_cons (len_cons (fun _ _ _ _ h => len_nil h)))))
      (zCons (zIf (L2.PW.pt (qAnd (qCmp (op_eqD hr.units) okEq (oVar (pv 8)) (oVar (pv 6)) (nomark _)) (qOne1 (qCmp (opNotIn hr) okNotIn (oVar (pv 10)) (oLst (oCons (oK pe_str (fun _ => .str _)) (oCons (oTup (oCons (oVar (pv 14)) (oCons (oK pe_int (fun _ => .int _)) oNil))) oNil))) (by with_unfolding_all rfl))))) (zCons (zRet (oK pe_bl (fun _ => .bl _)))
      zNil) zNil)
      zNil))))))))
      zNil))
      zNil))))))))
      (zCons (zRet (oK pe_bl (fun _ => .bl _)))
      zNil))
end
end OA
namespace OA
open PySem PySem.Spec PyProof.Rows L2
theorem law_true (ns : List Int) (h : ns.length ≤ 63) : ∃ S', f_law_k16 [.s ns] [] = some (.d (.bl true), S') := law_true_k16 ns h

/-! ### the end -/
set_option maxHeartbeats 0 in
theorem tx_mk {K : PySem.W.Frag} {h : Heap} {mg : Str → Option Value} (X : K.In h) (G : h.Ns mainGlobals mg)
    {od0 an0 : Option Addr} {sl0 : Array (Option Value)} {oc0 kV0 dc0 pm0 cd0 ct0 : Value} {f0 : Addr}
    {od1 an1 : Option Addr} {sl1 : Array (Option Value)} {oc1 kV1 dc1 pm1 cd1 ct1 : Value} {f1 : Addr}
    {od2 an2 : Option Addr} {sl2 : Array (Option Value)} {oc2 kV2 dc2 pm2 cd2 ct2 : Value} {f2 : Addr}
    {od3 an3 : Option Addr} {sl3 : Array (Option Value)} {oc3 kV3 dc3 pm3 cd3 ct3 : Value} {f3 : Addr}
    {od4 an4 : Option Addr} {sl4 : Array (Option Value)} {oc4 kV4 dc4 pm4 cd4 ct4 : Value} {f4 : Addr}
    {od5 an5 : Option Addr} {sl5 : Array (Option Value)} {oc5 kV5 dc5 pm5 cd5 ct5 : Value} {f5 : Addr}
    {od6 an6 : Option Addr} {sl6 : Array (Option Value)} {oc6 kV6 dc6 pm6 cd6 ct6 : Value} {f6 : Addr}
    {od7 an7 : Option Addr} {sl7 : Array (Option Value)} {oc7 kV7 dc7 pm7 cd7 ct7 : Value} {f7 : Addr}
    {od8 an8 : Option Addr} {sl8 : Array (Option Value)} {oc8 kV8 dc8 pm8 cd8 ct8 : Value} {f8 : Addr}
    {od9 an9 : Option Addr} {sl9 : Array (Option Value)} {oc9 kV9 dc9 pm9 cd9 ct9 : Value} {f9 : Addr}
    {od10 an10 : Option Addr} {sl10 : Array (Option Value)} {oc10 kV10 dc10 pm10 cd10 ct10 : Value} {f10 : Addr}
    {od11 an11 : Option Addr} {sl11 : Array (Option Value)} {oc11 kV11 dc11 pm11 cd11 ct11 : Value} {f11 : Addr}
    {od12 an12 : Option Addr} {sl12 : Array (Option Value)} {oc12 kV12 dc12 pm12 cd12 ct12 : Value} {f12 : Addr}
    {od13 an13 : Option Addr} {sl13 : Array (Option Value)} {oc13 kV13 dc13 pm13 cd13 ct13 : Value} {f13 : Addr}
    {od14 an14 : Option Addr} {sl14 : Array (Option Value)} {oc14 kV14 dc14 pm14 cd14 ct14 : Value} {f14 : Addr}
    {od15 an15 : Option Addr} {sl15 : Array (Option Value)} {oc15 kV15 dc15 pm15 cd15 ct15 : Value} {f15 : Addr}
    {od16 an16 : Option Addr} {sl16 : Array (Option Value)} {oc16 kV16 dc16 pm16 cd16 ct16 : Value} {f16 : Addr}
    {od17 an17 : Option Addr} {sl17 : Array (Option Value)} {oc17 kV17 dc17 pm17 cd17 ct17 : Value} {f17 : Addr}
    {od18 an18 : Option Addr} {sl18 : Array (Option Value)} {oc18 kV18 dc18 pm18 cd18 ct18 : Value} {f18 : Addr}
    {od19 an19 : Option Addr} {sl19 : Array (Option Value)} {oc19 kV19 dc19 pm19 cd19 ct19 : Value} {f19 : Addr}
    {od20 an20 : Option Addr} {sl20 : Array (Option Value)} {oc20 kV20 dc20 pm20 cd20 ct20 : Value} {f20 : Addr}
    {od21 an21 : Option Addr} {sl21 : Array (Option Value)} {oc21 kV21 dc21 pm21 cd21 ct21 : Value} {f21 : Addr}
    {od22 an22 : Option Addr} {sl22 : Array (Option Value)} {oc22 kV22 dc22 pm22 cd22 ct22 : Value} {f22 : Addr}
    {od23 an23 : Option Addr} {sl23 : Array (Option Value)} {oc23 kV23 dc23 pm23 cd23 ct23 : Value} {f23 : Addr}
    {od24 an24 : Option Addr} {sl24 : Array (Option Value)} {oc24 kV24 dc24 pm24 cd24 ct24 : Value} {f24 : Addr}
    {od25 an25 : Option Addr} {sl25 : Array (Option Value)} {oc25 kV25 dc25 pm25 cd25 ct25 : Value} {f25 : Addr}
    {od26 an26 : Option Addr} {sl26 : Array (Option Value)} {oc26 kV26 dc26 pm26 cd26 ct26 : Value} {f26 : Addr}
    {od27 an27 : Option Addr} {sl27 : Array (Option Value)} {oc27 kV27 dc27 pm27 cd27 ct27 : Value} {f27 : Addr}
    {od28 an28 : Option Addr} {sl28 : Array (Option Value)} {oc28 kV28 dc28 pm28 cd28 ct28 : Value} {f28 : Addr}
    {od29 an29 : Option Addr} {sl29 : Array (Option Value)} {oc29 kV29 dc29 pm29 cd29 ct29 : Value} {f29 : Addr}
    {b_NOUGHT : Addr} {dd_NOUGHT : Option Addr} {t1_NOUGHT t2_NOUGHT : Tok} {n_NOUGHT : Nat} {zz_NOUGHT : Array (Option Value)}
    {q_ANY : Tok}
    (a0 : PySem.W.nsIn K mainGlobals "lowest" = some (some (.ref f0))) (l0 : K.lookup f0 = some ⟨oc0, od0, .func (PySem.W.fnOf "lowest" "lowest" (defArgs s_lowest) (defBody s_lowest) (defScope s_lowest) .none kV0 dc0 pm0 an0 cd0 ct0), sl0⟩) (c0 : PySem.W.codeIn K cd0 "lowest" = true) (k0 : PySem.W.keepIn K (.ref f0) = true)
    (a1 : PySem.W.nsIn K mainGlobals "plus" = some (some (.ref f1))) (l1 : K.lookup f1 = some ⟨oc1, od1, .func (PySem.W.fnOf "plus" "plus" (defArgs s_plus) (defBody s_plus) (defScope s_plus) .none kV1 dc1 pm1 an1 cd1 ct1), sl1⟩) (c1 : PySem.W.codeIn K cd1 "plus" = true) (k1 : PySem.W.keepIn K (.ref f1) = true)
    (a2 : PySem.W.nsIn K mainGlobals "less" = some (some (.ref f2))) (l2 : K.lookup f2 = some ⟨oc2, od2, .func (PySem.W.fnOf "less" "less" (defArgs s_less) (defBody s_less) (defScope s_less) .none kV2 dc2 pm2 an2 cd2 ct2), sl2⟩) (c2 : PySem.W.codeIn K cd2 "less" = true) (k2 : PySem.W.keepIn K (.ref f2) = true)
    (a3 : PySem.W.nsIn K mainGlobals "times" = some (some (.ref f3))) (l3 : K.lookup f3 = some ⟨oc3, od3, .func (PySem.W.fnOf "times" "times" (defArgs s_times) (defBody s_times) (defScope s_times) .none kV3 dc3 pm3 an3 cd3 ct3), sl3⟩) (c3 : PySem.W.codeIn K cd3 "times" = true) (k3 : PySem.W.keepIn K (.ref f3) = true)
    (a4 : PySem.W.nsIn K mainGlobals "heavies" = some (some (.ref f4))) (l4 : K.lookup f4 = some ⟨oc4, od4, .func (PySem.W.fnOf "heavies" "heavies" (defArgs s_heavies) (defBody s_heavies) (defScope s_heavies) .none kV4 dc4 pm4 an4 cd4 ct4), sl4⟩) (c4 : PySem.W.codeIn K cd4 "heavies" = true) (k4 : PySem.W.keepIn K (.ref f4) = true)
    (a5 : PySem.W.nsIn K mainGlobals "aboard_of" = some (some (.ref f5))) (l5 : K.lookup f5 = some ⟨oc5, od5, .func (PySem.W.fnOf "aboard_of" "aboard_of" (defArgs s_aboard_of) (defBody s_aboard_of) (defScope s_aboard_of) .none kV5 dc5 pm5 an5 cd5 ct5), sl5⟩) (c5 : PySem.W.codeIn K cd5 "aboard_of" = true) (k5 : PySem.W.keepIn K (.ref f5) = true)
    (a6 : PySem.W.nsIn K mainGlobals "weight_of" = some (some (.ref f6))) (l6 : K.lookup f6 = some ⟨oc6, od6, .func (PySem.W.fnOf "weight_of" "weight_of" (defArgs s_weight_of) (defBody s_weight_of) (defScope s_weight_of) .none kV6 dc6 pm6 an6 cd6 ct6), sl6⟩) (c6 : PySem.W.codeIn K cd6 "weight_of" = true) (k6 : PySem.W.keepIn K (.ref f6) = true)
    (a7 : PySem.W.nsIn K mainGlobals "whole_of" = some (some (.ref f7))) (l7 : K.lookup f7 = some ⟨oc7, od7, .func (PySem.W.fnOf "whole_of" "whole_of" (defArgs s_whole_of) (defBody s_whole_of) (defScope s_whole_of) .none kV7 dc7 pm7 an7 cd7 ct7), sl7⟩) (c7 : PySem.W.codeIn K cd7 "whole_of" = true) (k7 : PySem.W.keepIn K (.ref f7) = true)
    (a8 : PySem.W.nsIn K mainGlobals "heavy_by" = some (some (.ref f8))) (l8 : K.lookup f8 = some ⟨oc8, od8, .func (PySem.W.fnOf "heavy_by" "heavy_by" (defArgs s_heavy_by) (defBody s_heavy_by) (defScope s_heavy_by) .none kV8 dc8 pm8 an8 cd8 ct8), sl8⟩) (c8 : PySem.W.codeIn K cd8 "heavy_by" = true) (k8 : PySem.W.keepIn K (.ref f8) = true)
    (a9 : PySem.W.nsIn K mainGlobals "_law_bag" = some (some (.ref f9))) (l9 : K.lookup f9 = some ⟨oc9, od9, .func (PySem.W.fnOf "_law_bag" "_law_bag" (defArgs s_l_bag) (defBody s_l_bag) (defScope s_l_bag) .none kV9 dc9 pm9 an9 cd9 ct9), sl9⟩) (c9 : PySem.W.codeIn K cd9 "_law_bag" = true) (k9 : PySem.W.keepIn K (.ref f9) = true)
    (a10 : PySem.W.nsIn K mainGlobals "_law_take" = some (some (.ref f10))) (l10 : K.lookup f10 = some ⟨oc10, od10, .func (PySem.W.fnOf "_law_take" "_law_take" (defArgs s_l_take) (defBody s_l_take) (defScope s_l_take) .none kV10 dc10 pm10 an10 cd10 ct10), sl10⟩) (c10 : PySem.W.codeIn K cd10 "_law_take" = true) (k10 : PySem.W.keepIn K (.ref f10) = true)
    (a11 : PySem.W.nsIn K mainGlobals "_law_of" = some (some (.ref f11))) (l11 : K.lookup f11 = some ⟨oc11, od11, .func (PySem.W.fnOf "_law_of" "_law_of" (defArgs s_l_of) (defBody s_l_of) (defScope s_l_of) .none kV11 dc11 pm11 an11 cd11 ct11), sl11⟩) (c11 : PySem.W.codeIn K cd11 "_law_of" = true) (k11 : PySem.W.keepIn K (.ref f11) = true)
    (a12 : PySem.W.nsIn K mainGlobals "_law_lowest" = some (some (.ref f12))) (l12 : K.lookup f12 = some ⟨oc12, od12, .func (PySem.W.fnOf "_law_lowest" "_law_lowest" (defArgs s_l_lowest) (defBody s_l_lowest) (defScope s_l_lowest) .none kV12 dc12 pm12 an12 cd12 ct12), sl12⟩) (c12 : PySem.W.codeIn K cd12 "_law_lowest" = true) (k12 : PySem.W.keepIn K (.ref f12) = true)
    (a13 : PySem.W.nsIn K mainGlobals "_law_plus" = some (some (.ref f13))) (l13 : K.lookup f13 = some ⟨oc13, od13, .func (PySem.W.fnOf "_law_plus" "_law_plus" (defArgs s_l_plus) (defBody s_l_plus) (defScope s_l_plus) .none kV13 dc13 pm13 an13 cd13 ct13), sl13⟩) (c13 : PySem.W.codeIn K cd13 "_law_plus" = true) (k13 : PySem.W.keepIn K (.ref f13) = true)
    (a14 : PySem.W.nsIn K mainGlobals "_law_minus" = some (some (.ref f14))) (l14 : K.lookup f14 = some ⟨oc14, od14, .func (PySem.W.fnOf "_law_minus" "_law_minus" (defArgs s_l_minus) (defBody s_l_minus) (defScope s_l_minus) .none kV14 dc14 pm14 an14 cd14 ct14), sl14⟩) (c14 : PySem.W.codeIn K cd14 "_law_minus" = true) (k14 : PySem.W.keepIn K (.ref f14) = true)
    (a15 : PySem.W.nsIn K mainGlobals "_law_times" = some (some (.ref f15))) (l15 : K.lookup f15 = some ⟨oc15, od15, .func (PySem.W.fnOf "_law_times" "_law_times" (defArgs s_l_times) (defBody s_l_times) (defScope s_l_times) .none kV15 dc15 pm15 an15 cd15 ct15), sl15⟩) (c15 : PySem.W.codeIn K cd15 "_law_times" = true) (k15 : PySem.W.keepIn K (.ref f15) = true)
    (a16 : PySem.W.nsIn K mainGlobals "_law_less" = some (some (.ref f16))) (l16 : K.lookup f16 = some ⟨oc16, od16, .func (PySem.W.fnOf "_law_less" "_law_less" (defArgs s_l_less) (defBody s_l_less) (defScope s_l_less) .none kV16 dc16 pm16 an16 cd16 ct16), sl16⟩) (c16 : PySem.W.codeIn K cd16 "_law_less" = true) (k16 : PySem.W.keepIn K (.ref f16) = true)
    (a17 : PySem.W.nsIn K mainGlobals "_law_world" = some (some (.ref f17))) (l17 : K.lookup f17 = some ⟨oc17, od17, .func (PySem.W.fnOf "_law_world" "_law_world" (defArgs s_l_world) (defBody s_l_world) (defScope s_l_world) .none kV17 dc17 pm17 an17 cd17 ct17), sl17⟩) (c17 : PySem.W.codeIn K cd17 "_law_world" = true) (k17 : PySem.W.keepIn K (.ref f17) = true)
    (a18 : PySem.W.nsIn K mainGlobals "_law_names" = some (some (.ref f18))) (l18 : K.lookup f18 = some ⟨oc18, od18, .func (PySem.W.fnOf "_law_names" "_law_names" (defArgs s_l_names) (defBody s_l_names) (defScope s_l_names) .none kV18 dc18 pm18 an18 cd18 ct18), sl18⟩) (c18 : PySem.W.codeIn K cd18 "_law_names" = true) (k18 : PySem.W.keepIn K (.ref f18) = true)
    (a19 : PySem.W.nsIn K mainGlobals "_law_folk" = some (some (.ref f19))) (l19 : K.lookup f19 = some ⟨oc19, od19, .func (PySem.W.fnOf "_law_folk" "_law_folk" (defArgs s_l_folk) (defBody s_l_folk) (defScope s_l_folk) .none kV19 dc19 pm19 an19 cd19 ct19), sl19⟩) (c19 : PySem.W.codeIn K cd19 "_law_folk" = true) (k19 : PySem.W.keepIn K (.ref f19) = true)
    (a20 : PySem.W.nsIn K mainGlobals "_law_can_lie" = some (some (.ref f20))) (l20 : K.lookup f20 = some ⟨oc20, od20, .func (PySem.W.fnOf "_law_can_lie" "_law_can_lie" (defArgs s_l_can_lie) (defBody s_l_can_lie) (defScope s_l_can_lie) .none kV20 dc20 pm20 an20 cd20 ct20), sl20⟩) (c20 : PySem.W.codeIn K cd20 "_law_can_lie" = true) (k20 : PySem.W.keepIn K (.ref f20) = true)
    (a21 : PySem.W.nsIn K mainGlobals "_law_place" = some (some (.ref f21))) (l21 : K.lookup f21 = some ⟨oc21, od21, .func (PySem.W.fnOf "_law_place" "_law_place" (defArgs s_l_place) (defBody s_l_place) (defScope s_l_place) .none kV21 dc21 pm21 an21 cd21 ct21), sl21⟩) (c21 : PySem.W.codeIn K cd21 "_law_place" = true) (k21 : PySem.W.keepIn K (.ref f21) = true)
    (a22 : PySem.W.nsIn K mainGlobals "_law_rows" = some (some (.ref f22))) (l22 : K.lookup f22 = some ⟨oc22, od22, .func (PySem.W.fnOf "_law_rows" "_law_rows" (defArgs s_l_rows) (defBody s_l_rows) (defScope s_l_rows) .none kV22 dc22 pm22 an22 cd22 ct22), sl22⟩) (c22 : PySem.W.codeIn K cd22 "_law_rows" = true) (k22 : PySem.W.keepIn K (.ref f22) = true)
    (a23 : PySem.W.nsIn K mainGlobals "_law_lot" = some (some (.ref f23))) (l23 : K.lookup f23 = some ⟨oc23, od23, .func (PySem.W.fnOf "_law_lot" "_law_lot" (defArgs s_l_lot) (defBody s_l_lot) (defScope s_l_lot) .none kV23 dc23 pm23 an23 cd23 ct23), sl23⟩) (c23 : PySem.W.codeIn K cd23 "_law_lot" = true) (k23 : PySem.W.keepIn K (.ref f23) = true)
    (a24 : PySem.W.nsIn K mainGlobals "_law_standing" = some (some (.ref f24))) (l24 : K.lookup f24 = some ⟨oc24, od24, .func (PySem.W.fnOf "_law_standing" "_law_standing" (defArgs s_l_standing) (defBody s_l_standing) (defScope s_l_standing) .none kV24 dc24 pm24 an24 cd24 ct24), sl24⟩) (c24 : PySem.W.codeIn K cd24 "_law_standing" = true) (k24 : PySem.W.keepIn K (.ref f24) = true)
    (a25 : PySem.W.nsIn K mainGlobals "_law_weight" = some (some (.ref f25))) (l25 : K.lookup f25 = some ⟨oc25, od25, .func (PySem.W.fnOf "_law_weight" "_law_weight" (defArgs s_l_weight) (defBody s_l_weight) (defScope s_l_weight) .none kV25 dc25 pm25 an25 cd25 ct25), sl25⟩) (c25 : PySem.W.codeIn K cd25 "_law_weight" = true) (k25 : PySem.W.keepIn K (.ref f25) = true)
    (a26 : PySem.W.nsIn K mainGlobals "_law_aboard" = some (some (.ref f26))) (l26 : K.lookup f26 = some ⟨oc26, od26, .func (PySem.W.fnOf "_law_aboard" "_law_aboard" (defArgs s_l_aboard) (defBody s_l_aboard) (defScope s_l_aboard) .none kV26 dc26 pm26 an26 cd26 ct26), sl26⟩) (c26 : PySem.W.codeIn K cd26 "_law_aboard" = true) (k26 : PySem.W.keepIn K (.ref f26) = true)
    (a27 : PySem.W.nsIn K mainGlobals "_law_gap" = some (some (.ref f27))) (l27 : K.lookup f27 = some ⟨oc27, od27, .func (PySem.W.fnOf "_law_gap" "_law_gap" (defArgs s_l_gap) (defBody s_l_gap) (defScope s_l_gap) .none kV27 dc27 pm27 an27 cd27 ct27), sl27⟩) (c27 : PySem.W.codeIn K cd27 "_law_gap" = true) (k27 : PySem.W.keepIn K (.ref f27) = true)
    (a28 : PySem.W.nsIn K mainGlobals "_law_does" = some (some (.ref f28))) (l28 : K.lookup f28 = some ⟨oc28, od28, .func (PySem.W.fnOf "_law_does" "_law_does" (defArgs s_l_does) (defBody s_l_does) (defScope s_l_does) .none kV28 dc28 pm28 an28 cd28 ct28), sl28⟩) (c28 : PySem.W.codeIn K cd28 "_law_does" = true) (k28 : PySem.W.keepIn K (.ref f28) = true)
    (a29 : PySem.W.nsIn K mainGlobals "law" = some (some (.ref f29))) (l29 : K.lookup f29 = some ⟨oc29, od29, .func (PySem.W.fnOf "law" "law" (defArgs s_law_k16) (defBody s_law_k16) (defScope s_law_k16) .none kV29 dc29 pm29 an29 cd29 ct29), sl29⟩) (c29 : PySem.W.codeIn K cd29 "law" = true) (k29 : PySem.W.keepIn K (.ref f29) = true)
    (y_NOUGHT : PySem.W.nsIn K mainGlobals "NOUGHT" = some (some (.ref b_NOUGHT))) (w_NOUGHT : K.lookup b_NOUGHT = some ⟨.type "tuple", dd_NOUGHT, .seq #[.int 0 t1_NOUGHT, .int 1 t2_NOUGHT] n_NOUGHT, zz_NOUGHT⟩)
    (y_ANY : PySem.W.nsIn K mainGlobals "ANY" = some (some (.str (Str.ofString "any") q_ANY)))
    (z_abs : PySem.W.nsIn K mainGlobals "abs" = some none)
    (z_dict : PySem.W.nsIn K mainGlobals "dict" = some none)
    (z_len : PySem.W.nsIn K mainGlobals "len" = some none)
    (z_list : PySem.W.nsIn K mainGlobals "list" = some none)
    (z_min : PySem.W.nsIn K mainGlobals "min" = some none)
    (z_range : PySem.W.nsIn K mainGlobals "range" = some none)
    (z_sorted : PySem.W.nsIn K mainGlobals "sorted" = some none)
    (z_sum : PySem.W.nsIn K mainGlobals "sum" = some none)
    (z_tuple : PySem.W.nsIn K mainGlobals "tuple" = some none)
    (z_zip : PySem.W.nsIn K mainGlobals "zip" = some none) :
    Nonempty { T : Tx K mg // T.a_law_k16 = f29 } :=
  ⟨⟨{ a_lowest := f0, fd_lowest := _, F_lowest := fun_mk (st := s_lowest) l0 c0 k0, m_lowest := PySem.W.mg_of X G a0, b_lowest := (fun_mk (st := s_lowest) l0 c0 k0).binds (ps := ["top", "bottom"]) fun _ _ _ _ _ _ us hl => match us, hl with | [_, _], _ => rfl,
      a_plus := f1, fd_plus := _, F_plus := fun_mk (st := s_plus) l1 c1 k1, m_plus := PySem.W.mg_of X G a1, b_plus := (fun_mk (st := s_plus) l1 c1 k1).binds (ps := ["one", "other"]) fun _ _ _ _ _ _ us hl => match us, hl with | [_, _], _ => rfl,
      a_less := f2, fd_less := _, F_less := fun_mk (st := s_less) l2 c2 k2, m_less := PySem.W.mg_of X G a2, b_less := (fun_mk (st := s_less) l2 c2 k2).binds (ps := ["one", "other"]) fun _ _ _ _ _ _ us hl => match us, hl with | [_, _], _ => rfl,
      a_times := f3, fd_times := _, F_times := fun_mk (st := s_times) l3 c3 k3, m_times := PySem.W.mg_of X G a3, b_times := (fun_mk (st := s_times) l3 c3 k3).binds (ps := ["one", "top", "bottom"]) fun _ _ _ _ _ _ us hl => match us, hl with | [_, _, _], _ => rfl,
      a_heavies := f4, fd_heavies := _, F_heavies := fun_mk (st := s_heavies) l4 c4 k4, m_heavies := PySem.W.mg_of X G a4, b_heavies := (fun_mk (st := s_heavies) l4 c4 k4).binds (ps := ["world"]) fun _ _ _ _ _ _ us hl => match us, hl with | [_], _ => rfl,
      a_aboard_of := f5, fd_aboard_of := _, F_aboard_of := fun_mk (st := s_aboard_of) l5 c5 k5, m_aboard_of := PySem.W.mg_of X G a5, b_aboard_of := (fun_mk (st := s_aboard_of) l5 c5 k5).binds (ps := ["standing"]) fun _ _ _ _ _ _ us hl => match us, hl with | [_], _ => rfl,
      a_weight_of := f6, fd_weight_of := _, F_weight_of := fun_mk (st := s_weight_of) l6 c6 k6, m_weight_of := PySem.W.mg_of X G a6, b_weight_of := (fun_mk (st := s_weight_of) l6 c6 k6).binds (ps := ["world", "lot"]) fun _ _ _ _ _ _ us hl => match us, hl with | [_, _], _ => rfl,
      a_whole_of := f7, fd_whole_of := _, F_whole_of := fun_mk (st := s_whole_of) l7 c7 k7, m_whole_of := PySem.W.mg_of X G a7, b_whole_of := (fun_mk (st := s_whole_of) l7 c7 k7).binds (ps := ["world", "lot"]) fun _ _ _ _ _ _ us hl => match us, hl with | [_, _], _ => rfl,
      a_heavy_by := f8, fd_heavy_by := _, F_heavy_by := fun_mk (st := s_heavy_by) l8 c8 k8, m_heavy_by := PySem.W.mg_of X G a8, b_heavy_by := (fun_mk (st := s_heavy_by) l8 c8 k8).binds (ps := ["world", "standing", "name", "rows", "gap"]) fun _ _ _ _ _ _ us hl => match us, hl with | [_, _, _, _, _], _ => rfl,
      a_l_bag := f9, fd_l_bag := _, F_l_bag := fun_mk (st := s_l_bag) l9 c9 k9, m_l_bag := PySem.W.mg_of X G a9, b_l_bag := (fun_mk (st := s_l_bag) l9 c9 k9).binds (ps := ["script", "k"]) fun _ _ _ _ _ _ us hl => match us, hl with | [_, _], _ => rfl,
      a_l_take := f10, fd_l_take := _, F_l_take := fun_mk (st := s_l_take) l10 c10 k10, m_l_take := PySem.W.mg_of X G a10, b_l_take := (fun_mk (st := s_l_take) l10 c10 k10).binds (ps := ["bag", "many"]) fun _ _ _ _ _ _ us hl => match us, hl with | [_, _], _ => rfl,
      a_l_of := f11, fd_l_of := _, F_l_of := fun_mk (st := s_l_of) l11 c11 k11, m_l_of := PySem.W.mg_of X G a11, b_l_of := (fun_mk (st := s_l_of) l11 c11 k11).binds (ps := ["bag", "some"]) fun _ _ _ _ _ _ us hl => match us, hl with | [_, _], _ => rfl,
      a_l_lowest := f12, fd_l_lowest := _, F_l_lowest := fun_mk (st := s_l_lowest) l12 c12 k12, m_l_lowest := PySem.W.mg_of X G a12, b_l_lowest := (fun_mk (st := s_l_lowest) l12 c12 k12).binds (ps := ["top", "bottom"]) fun _ _ _ _ _ _ us hl => match us, hl with | [_, _], _ => rfl,
      a_l_plus := f13, fd_l_plus := _, F_l_plus := fun_mk (st := s_l_plus) l13 c13 k13, m_l_plus := PySem.W.mg_of X G a13, b_l_plus := (fun_mk (st := s_l_plus) l13 c13 k13).binds (ps := ["one", "other"]) fun _ _ _ _ _ _ us hl => match us, hl with | [_, _], _ => rfl,
      a_l_minus := f14, fd_l_minus := _, F_l_minus := fun_mk (st := s_l_minus) l14 c14 k14, m_l_minus := PySem.W.mg_of X G a14, b_l_minus := (fun_mk (st := s_l_minus) l14 c14 k14).binds (ps := ["one", "other"]) fun _ _ _ _ _ _ us hl => match us, hl with | [_, _], _ => rfl,
      a_l_times := f15, fd_l_times := _, F_l_times := fun_mk (st := s_l_times) l15 c15 k15, m_l_times := PySem.W.mg_of X G a15, b_l_times := (fun_mk (st := s_l_times) l15 c15 k15).binds (ps := ["part", "by"]) fun _ _ _ _ _ _ us hl => match us, hl with | [_, _], _ => rfl,
      a_l_less := f16, fd_l_less := _, F_l_less := fun_mk (st := s_l_less) l16 c16 k16, m_l_less := PySem.W.mg_of X G a16, b_l_less := (fun_mk (st := s_l_less) l16 c16 k16).binds (ps := ["one", "other"]) fun _ _ _ _ _ _ us hl => match us, hl with | [_, _], _ => rfl,
      a_l_world := f17, fd_l_world := _, F_l_world := fun_mk (st := s_l_world) l17 c17 k17, m_l_world := PySem.W.mg_of X G a17, b_l_world := (fun_mk (st := s_l_world) l17 c17 k17).binds (ps := ["bag", "most", "most_loads"]) fun _ _ _ _ _ _ us hl => match us, hl with | [_, _, _], _ => rfl,
      a_l_names := f18, fd_l_names := _, F_l_names := fun_mk (st := s_l_names) l18 c18 k18, m_l_names := PySem.W.mg_of X G a18, b_l_names := (fun_mk (st := s_l_names) l18 c18 k18).binds (ps := ["world"]) fun _ _ _ _ _ _ us hl => match us, hl with | [_], _ => rfl,
      a_l_folk := f19, fd_l_folk := _, F_l_folk := fun_mk (st := s_l_folk) l19 c19 k19, m_l_folk := PySem.W.mg_of X G a19, b_l_folk := (fun_mk (st := s_l_folk) l19 c19 k19).binds (ps := ["world"]) fun _ _ _ _ _ _ us hl => match us, hl with | [_], _ => rfl,
      a_l_can_lie := f20, fd_l_can_lie := _, F_l_can_lie := fun_mk (st := s_l_can_lie) l20 c20 k20, m_l_can_lie := PySem.W.mg_of X G a20, b_l_can_lie := (fun_mk (st := s_l_can_lie) l20 c20 k20).binds (ps := ["world", "lot"]) fun _ _ _ _ _ _ us hl => match us, hl with | [_, _], _ => rfl,
      a_l_place := f21, fd_l_place := _, F_l_place := fun_mk (st := s_l_place) l21 c21 k21, m_l_place := PySem.W.mg_of X G a21, b_l_place := (fun_mk (st := s_l_place) l21 c21 k21).binds (ps := ["bag", "world"]) fun _ _ _ _ _ _ us hl => match us, hl with | [_, _], _ => rfl,
      a_l_rows := f22, fd_l_rows := _, F_l_rows := fun_mk (st := s_l_rows) l22 c22 k22, m_l_rows := PySem.W.mg_of X G a22, b_l_rows := (fun_mk (st := s_l_rows) l22 c22 k22).binds (ps := ["bag", "world", "lot"]) fun _ _ _ _ _ _ us hl => match us, hl with | [_, _, _], _ => rfl,
      a_l_lot := f23, fd_l_lot := _, F_l_lot := fun_mk (st := s_l_lot) l23 c23 k23, m_l_lot := PySem.W.mg_of X G a23, b_l_lot := (fun_mk (st := s_l_lot) l23 c23 k23).binds (ps := ["bag", "world"]) fun _ _ _ _ _ _ us hl => match us, hl with | [_, _], _ => rfl,
      a_l_standing := f24, fd_l_standing := _, F_l_standing := fun_mk (st := s_l_standing) l24 c24 k24, m_l_standing := PySem.W.mg_of X G a24, b_l_standing := (fun_mk (st := s_l_standing) l24 c24 k24).binds (ps := ["bag", "world"]) fun _ _ _ _ _ _ us hl => match us, hl with | [_, _], _ => rfl,
      a_l_weight := f25, fd_l_weight := _, F_l_weight := fun_mk (st := s_l_weight) l25 c25 k25, m_l_weight := PySem.W.mg_of X G a25, b_l_weight := (fun_mk (st := s_l_weight) l25 c25 k25).binds (ps := ["world", "lot"]) fun _ _ _ _ _ _ us hl => match us, hl with | [_, _], _ => rfl,
      a_l_aboard := f26, fd_l_aboard := _, F_l_aboard := fun_mk (st := s_l_aboard) l26 c26 k26, m_l_aboard := PySem.W.mg_of X G a26, b_l_aboard := (fun_mk (st := s_l_aboard) l26 c26 k26).binds (ps := ["standing"]) fun _ _ _ _ _ _ us hl => match us, hl with | [_], _ => rfl,
      a_l_gap := f27, fd_l_gap := _, F_l_gap := fun_mk (st := s_l_gap) l27 c27 k27, m_l_gap := PySem.W.mg_of X G a27, b_l_gap := (fun_mk (st := s_l_gap) l27 c27 k27).binds (ps := ["world", "standing", "rows"]) fun _ _ _ _ _ _ us hl => match us, hl with | [_, _, _], _ => rfl,
      a_l_does := f28, fd_l_does := _, F_l_does := fun_mk (st := s_l_does) l28 c28 k28, m_l_does := PySem.W.mg_of X G a28, b_l_does := (fun_mk (st := s_l_does) l28 c28 k28).binds (ps := ["world", "standing", "name", "weight", "pair"]) fun _ _ _ _ _ _ us hl => match us, hl with | [_, _, _, _, _], _ => rfl,
      a_law_k16 := f29, fd_law_k16 := _, F_law_k16 := fun_mk (st := s_law_k16) l29 c29 k29, m_law_k16 := PySem.W.mg_of X G a29, b_law_k16 := (fun_mk (st := s_law_k16) l29 c29 k29).binds (ps := ["script"]) fun _ _ _ _ _ _ us hl => match us, hl with | [_], _ => rfl,
      a_NOUGHT := b_NOUGHT, m_NOUGHT := PySem.W.mg_of X G y_NOUGHT, t_NOUGHT := fun _ => .inr ⟨_, _, _, w_NOUGHT, rfl, rfl, (by show 2 ≤ sizeLine; decide), .cons ⟨_, rfl⟩ (.cons ⟨_, rfl⟩ .nil)⟩,
      k_ANY := _, m_ANY := PySem.W.mg_of X G y_ANY,
      m_abs := PySem.W.mg_none_of X G z_abs,
      m_dict := PySem.W.mg_none_of X G z_dict,
      m_len := PySem.W.mg_none_of X G z_len,
      m_list := PySem.W.mg_none_of X G z_list,
      m_min := PySem.W.mg_none_of X G z_min,
      m_range := PySem.W.mg_none_of X G z_range,
      m_sorted := PySem.W.mg_none_of X G z_sorted,
      m_sum := PySem.W.mg_none_of X G z_sum,
      m_tuple := PySem.W.mg_none_of X G z_tuple,
      m_zip := PySem.W.mg_none_of X G z_zip }, rfl⟩⟩
def spL (K : PySem.W.Frag) : Sp := fun vs H Q _ => ∃ (a : Addr) (ns : List Int), vs = [.ref a] ∧ SqL K H a (ns.map V.int) ∧ ns.length ≤ 63 ∧ ∀ H', Q (.bl true) H'
theorem all_mk {l : PySem.W.OpenLaw} {w : World} {K : PySem.W.Frag} {mg : Str → Option Value} {fa : Addr} (hfa : mg "law" = some (.ref fa)) (ht : ∃ g, Nonempty { T : Tx K mg // T.a_law_k16 = g }) :
    ∃ fd : FuncData, (∀ (s : Shared) (v : Value), BindsTo s fd ⟨[v], []⟩ [("script", v)]) ∧ ∀ base : Heap, K.In base → base.Ns mainGlobals mg → FnOk l.prog w K mg base CX0 6 fa fd ["script"] (spL K) := by
  obtain ⟨g, ⟨T, hT⟩⟩ := ht
  have e : fa = T.a_law_k16 := by
    have := hfa.symm.trans T.m_law_k16
    injection this with this
    injection this
  subst e
  refine ⟨T.fd_law_k16, fun s v => ?_, fun base _ _ => (ok_law_k16 T).imp fun vs H Q E h => ?_⟩
  · obtain ⟨oc, od, kV, doc, pm, an, cdv, ct, osl, e, _, _⟩ := T.F_law_k16.ex
    rw [e]
    exact .of_eq rfl
  · obtain ⟨a, ns, rfl, hS, hl, q⟩ := h
    obtain ⟨S', hr⟩ := law_true ns hl
    exact ⟨rfl, H, [], [], [.s ns], .d (.bl true), S', ⟨fun _ _ e => e, List.nodup_nil, .nil⟩, .cons ⟨a, rfl, hS⟩ .nil, hr, fun v H' F' A' _ _ p => by cases p; exact q H'⟩
end OA
open PySem PySem.W PyProof.Rows
set_option maxHeartbeats 0 in
theorem PySem.Challenge.cw_offandon_k16_unseen_weights_holds : PySem.Challenge.rw_offandon_k16_unseen_weights.Holds := by
  w_on; o_law; k_head; (case hw => w_witness2)
  k_fill
  refine L2.walk_of (l := PySem.Challenge.rw_offandon_k16_unseen_weights) (n := 63) (k := 6) (x := "script") (CX := fun _ => L2.CX0) (sp := fun w => OA.spL _) rfl (by decide) rfl ⟨rfl, by decide, by decide⟩ (fun w h Y => PySem.W.kIn_of Y) ?F (fun _ _ a ns hl _ hS => ⟨a, ns, rfl, hS, hl, fun _ => rfl⟩) (fun _ _ _ _ _ h => h)
  case F =>
    intro w mg fa h KX G hmg
    refine' OA.all_mk (w := w) hmg ⟨_, OA.tx_mk KX G ?a0 ?l0 ?c0 ?k0 ?a1 ?l1 ?c1 ?k1 ?a2 ?l2 ?c2 ?k2 ?a3 ?l3 ?c3 ?k3 ?a4 ?l4 ?c4 ?k4 ?a5 ?l5 ?c5 ?k5 ?a6 ?l6 ?c6 ?k6 ?a7 ?l7 ?c7 ?k7 ?a8 ?l8 ?c8 ?k8 ?a9 ?l9 ?c9 ?k9 ?a10 ?l10 ?c10 ?k10 ?a11 ?l11 ?c11 ?k11 ?a12 ?l12 ?c12 ?k12 ?a13 ?l13 ?c13 ?k13 ?a14 ?l14 ?c14 ?k14 ?a15 ?l15 ?c15 ?k15 ?a16 ?l16 ?c16 ?k16 ?a17 ?l17 ?c17 ?k17 ?a18 ?l18 ?c18 ?k18 ?a19 ?l19 ?c19 ?k19 ?a20 ?l20 ?c20 ?k20 ?a21 ?l21 ?c21 ?k21 ?a22 ?l22 ?c22 ?k22 ?a23 ?l23 ?c23 ?k23 ?a24 ?l24 ?c24 ?k24 ?a25 ?l25 ?c25 ?k25 ?a26 ?l26 ?c26 ?k26 ?a27 ?l27 ?c27 ?k27 ?a28 ?l28 ?c28 ?k28 ?a29 ?l29 ?c29 ?k29 ?y_NOUGHT ?w_NOUGHT ?y_ANY ?z_abs ?z_dict ?z_len ?z_list ?z_min ?z_range ?z_sorted ?z_sum ?z_tuple ?z_zip⟩
    (case a0 => k_is); (case l0 => k_is); (case c0 => k_is); (case k0 => k_is); (case a1 => k_is); (case l1 => k_is); (case c1 => k_is); (case k1 => k_is); (case a2 => k_is); (case l2 => k_is); (case c2 => k_is); (case k2 => k_is); (case a3 => k_is); (case l3 => k_is); (case c3 => k_is); (case k3 => k_is); (case a4 => k_is); (case l4 => k_is); (case c4 => k_is); (case k4 => k_is); (case a5 => k_is); (case l5 => k_is); (case c5 => k_is); (case k5 => k_is); (case a6 => k_is); (case l6 => k_is); (case c6 => k_is); (case k6 => k_is); (case a7 => k_is); (case l7 => k_is); (case c7 => k_is); (case k7 => k_is); (case a8 => k_is); (case l8 => k_is); (case c8 => k_is); (case k8 => k_is); (case a9 => k_is); (case l9 => k_is); (case c9 => k_is); (case k9 => k_is); (case a10 => k_is); (case l10 => k_is); (case c10 => k_is); (case k10 => k_is); (case a11 => k_is); (case l11 => k_is); (case c11 => k_is); (case k11 => k_is); (case a12 => k_is); (case l12 => k_is); (case c12 => k_is); (case k12 => k_is); (case a13 => k_is); (case l13 => k_is); (case c13 => k_is); (case k13 => k_is); (case a14 => k_is); (case l14 => k_is); (case c14 => k_is); (case k14 => k_is); (case a15 => k_is); (case l15 => k_is); (case c15 => k_is); (case k15 => k_is); (case a16 => k_is); (case l16 => k_is); (case c16 => k_is); (case k16 => k_is); (case a17 => k_is); (case l17 => k_is); (case c17 => k_is); (case k17 => k_is); (case a18 => k_is); (case l18 => k_is); (case c18 => k_is); (case k18 => k_is); (case a19 => k_is); (case l19 => k_is); (case c19 => k_is); (case k19 => k_is); (case a20 => k_is); (case l20 => k_is); (case c20 => k_is); (case k20 => k_is); (case a21 => k_is); (case l21 => k_is); (case c21 => k_is); (case k21 => k_is); (case a22 => k_is); (case l22 => k_is); (case c22 => k_is); (case k22 => k_is); (case a23 => k_is); (case l23 => k_is); (case c23 => k_is); (case k23 => k_is); (case a24 => k_is); (case l24 => k_is); (case c24 => k_is); (case k24 => k_is); (case a25 => k_is); (case l25 => k_is); (case c25 => k_is); (case k25 => k_is); (case a26 => k_is); (case l26 => k_is); (case c26 => k_is); (case k26 => k_is); (case a27 => k_is); (case l27 => k_is); (case c27 => k_is); (case k27 => k_is); (case a28 => k_is); (case l28 => k_is); (case c28 => k_is); (case k28 => k_is); (case a29 => k_is); (case l29 => k_is); (case c29 => k_is); (case k29 => k_is); (case y_NOUGHT => k_is); (case w_NOUGHT => k_is); (case y_ANY => k_is); (case z_abs => k_is); (case z_dict => k_is); (case z_len => k_is); (case z_list => k_is); (case z_min => k_is); (case z_range => k_is); (case z_sorted => k_is); (case z_sum => k_is); (case z_tuple => k_is); (case z_zip => k_is)
