import PyProof.Rows.All
import Wide.All
import OpenK.AllK
import Wide.FinOn
import HandS.ForMost
import HandS.Wide
import HandS.Deep
import HandS.IsInst
import HandS.TupAny
import HandS.Style
import HandS.Zip
import HandS.Flow
import KE.KDictPairs
import HandS.SortOrd
import HandS.SortRule
import PyProof.Rows.TupDisplay
import KE.LtSeq
import HandS.NoneIn
import HandS.Iter
import HandS.Conv
import PySem.Challenge.RW_offandon_k11_whole_one_off_all_off
set_option Elab.async false
set_option linter.all false
set_option maxRecDepth 100000
namespace OA
open PySem PySem.Spec PyProof.Rows L2
/-! ### data -/
inductive Dt where
  | non
  | bl (b : Bool)
  | int (i : Int)
  | str (x : Str)
  | tup (xs : List Dt)
  /-- the empty tuple, its object known -/
  | tup0
  /-- a pair just made by a walk -/
  | pr (xs : List Dt)
  | lst (xs : List Dt)
  | dK (kvs : List (Dt × Dt))
  | dT (kvs : List (Dt × Dt))
def isStr : Dt → Bool
  | .str _ => true
  | _ => false
mutual
def Dt.py : Dt → PyData
  | .non => .none
  | .bl b => .bool b
  | .int i => .int i
  | .str x => .str x
  | .tup xs => .tuple (Dt.pys xs)
  | .tup0 => .tuple []
  | .pr xs => .tuple (Dt.pys xs)
  | .lst xs => .list (Dt.pys xs)
  | .dK _ => .dict []
  | .dT _ => .dict []
def Dt.pys : List Dt → List PyData
  | [] => []
  | x :: xs => x.py :: Dt.pys xs
end
mutual
inductive Rp (K : PySem.W.Frag) (F : Hp) : V → Dt → Prop
  | non : Rp K F .non .non
  | bl (b : Bool) : Rp K F (.bl b) (.bl b)
  | int (i : Int) : Rp K F (.int i) (.int i)
  | str (x : Str) : Rp K F (.str x) (.str x)
  | lst {a : Addr} {xs : List V} {ds : List Dt} : F a = some (.lst xs) → Rps K F xs ds → Rp K F (.ref a) (.lst ds)
  | tupS {a : Addr} {xs : List V} {ds : List Dt} : ds.all isStr = true → F a = some (.tup xs) → Rps K F xs ds → Rp K F (.ref a) (.tup ds)
  | tupP {a : Addr} {ob : Obj} {xs : List V} {ds : List Dt} : ds.all isStr = false → F a = some (.frz ob (.tup xs)) → ob.dict = none → Rps K F xs ds → Rp K F (.ref a) (.tup ds)
  | tup0 {a : Addr} {ob : Obj} : F a = some (.frz ob (.tup [])) → ob.dict = none → Rp K F (.ref a) .tup0
  | pr {a : Addr} {xs : List V} {ds : List Dt} : F a = some (.tup xs) → Rps K F xs ds → Rp K F (.ref a) (.pr ds)
  | kt {a : Addr} {i j : Int} : (∀ H : Hp, SqT K H a [.int i, .int j]) → Rp K F (.ref a) (.tup [.int i, .int j])
  | dK {a : Addr} {ob : Obj} {kvs : List (Key × V)} {ds : List (Dt × Dt)} : F a = some (.frz ob (.dK kvs)) → RpK K F kvs ds → Rp K F (.ref a) (.dK ds)
  | dT {a : Addr} {ob : Obj} {kvs : List (List Key × V)} {ds : List (Dt × Dt)} : F a = some (.frz ob (.dT kvs)) → RpT K F kvs ds → Rp K F (.ref a) (.dT ds)
inductive Rps (K : PySem.W.Frag) (F : Hp) : List V → List Dt → Prop
  | nil : Rps K F [] []
  | cons {v : V} {vs : List V} {d : Dt} {ds : List Dt} : Rp K F v d → Rps K F vs ds → Rps K F (v :: vs) (d :: ds)
inductive RpK (K : PySem.W.Frag) (F : Hp) : List (Key × V) → List (Dt × Dt) → Prop
  | nil : RpK K F [] []
  | cons {k : Str} {v : V} {vs : List (Key × V)} {d : Dt} {ds : List (Dt × Dt)} : Rp K F v d → RpK K F vs ds → RpK K F ((.inr k, v) :: vs) ((.str k, d) :: ds)
inductive RpT (K : PySem.W.Frag) (F : Hp) : List (List Key × V) → List (Dt × Dt) → Prop
  | nil : RpT K F [] []
  | cons {k : List Str} {v : V} {vs : List (List Key × V)} {d : Dt} {ds : List (Dt × Dt)} : Rp K F v d → RpT K F vs ds → RpT K F ((k.map .inr, v) :: vs) ((.tup (k.map .str), d) :: ds)
end
/-! ### a heap kept -/
abbrev Ge (F F' : Hp) : Prop := ∀ a o, F a = some o → F' a = some o
theorem Ge.rfl' {F : Hp} : Ge F F := fun _ _ h => h
theorem Ge.trans {F G H : Hp} (h : Ge F G) (g : Ge G H) : Ge F H := fun a o e => g a o (h a o e)
mutual
theorem Rp.mono {K : PySem.W.Frag} {F G : Hp} (g : Ge F G) : ∀ {v : V} {d : Dt}, Rp K F v d → Rp K G v d
  | _, _, .non => .non
  | _, _, .bl b => .bl b
  | _, _, .int i => .int i
  | _, _, .str x => .str x
  | _, _, .lst e h => .lst (g _ _ e) (Rps.mono g h)
  | _, _, .tupS c e h => .tupS c (g _ _ e) (Rps.mono g h)
  | _, _, .tupP c e n h => .tupP c (g _ _ e) n (Rps.mono g h)
  | _, _, .tup0 e n => .tup0 (g _ _ e) n
  | _, _, .pr e h => .pr (g _ _ e) (Rps.mono g h)
  | _, _, .kt e => .kt e
  | _, _, .dK e h => .dK (g _ _ e) (RpK.mono g h)
  | _, _, .dT e h => .dT (g _ _ e) (RpT.mono g h)
theorem Rps.mono {K : PySem.W.Frag} {F G : Hp} (g : Ge F G) : ∀ {v : List V} {d : List Dt}, Rps K F v d → Rps K G v d
  | _, _, .nil => .nil
  | _, _, .cons h t => .cons (Rp.mono g h) (Rps.mono g t)
theorem RpK.mono {K : PySem.W.Frag} {F G : Hp} (g : Ge F G) : ∀ {v : List (Key × V)} {d : List (Dt × Dt)}, RpK K F v d → RpK K G v d
  | _, _, .nil => .nil
  | _, _, .cons h t => .cons (Rp.mono g h) (RpK.mono g t)
theorem RpT.mono {K : PySem.W.Frag} {F G : Hp} (g : Ge F G) : ∀ {v : List (List Key × V)} {d : List (Dt × Dt)}, RpT K F v d → RpT K G v d
  | _, _, .nil => .nil
  | _, _, .cons h t => .cons (Rp.mono g h) (RpT.mono g t)
end
theorem Rps.length {K : PySem.W.Frag} {F : Hp} : ∀ {vs : List V} {ds : List Dt}, Rps K F vs ds → vs.length = ds.length
  | _, _, .nil => rfl
  | _, _, .cons _ t => by simp [Rps.length t]
theorem Rps.get {K : PySem.W.Frag} {F : Hp} : ∀ {vs : List V} {ds : List Dt} {i : Nat} {d : Dt}, Rps K F vs ds → ds[i]? = some d → ∃ v, vs[i]? = some v ∧ Rp K F v d
  | _, _, _, _, .nil, h => by simp at h
  | _, _, 0, _, .cons h _, e => by simp at e; subst e; exact ⟨_, rfl, h⟩
  | _, _, i + 1, _, .cons _ t, e => by
    obtain ⟨v, h1, h2⟩ := Rps.get (i := i) t (by simpa using e)
    exact ⟨v, by simpa using h1, h2⟩
theorem Rps.append {K : PySem.W.Frag} {F : Hp} : ∀ {vs us : List V} {ds es : List Dt}, Rps K F vs ds → Rps K F us es → Rps K F (vs ++ us) (ds ++ es)
  | _, _, _, _, .nil, s => s
  | _, _, _, _, .cons h t, s => .cons h (Rps.append t s)
theorem Rps.take {K : PySem.W.Frag} {F : Hp} : ∀ {vs : List V} {ds : List Dt} (n : Nat), Rps K F vs ds → Rps K F (vs.take n) (ds.take n)
  | _, _, 0, _ => .nil
  | _, _, _ + 1, .nil => .nil
  | _, _, n + 1, .cons h t => .cons h (Rps.take n t)
theorem Rps.drop {K : PySem.W.Frag} {F : Hp} : ∀ {vs : List V} {ds : List Dt} (n : Nat), Rps K F vs ds → Rps K F (vs.drop n) (ds.drop n)
  | _, _, 0, h => h
  | _, _, _ + 1, .nil => .nil
  | _, _, n + 1, .cons _ t => Rps.drop n t
theorem Rps.set {K : PySem.W.Frag} {F : Hp} {v : V} {d : Dt} (h : Rp K F v d) : ∀ {vs : List V} {ds : List Dt} (n : Nat), Rps K F vs ds → Rps K F (vs.set n v) (ds.set n d)
  | _, _, _, .nil => .nil
  | _, _, 0, .cons _ t => .cons h t
  | _, _, n + 1, .cons g t => .cons g (Rps.set h n t)
theorem RpT.len {K : PySem.W.Frag} {F : Hp} : ∀ {vs : List (List Key × V)} {ds : List (Dt × Dt)}, RpT K F vs ds → vs.length = ds.length
  | _, _, .nil => rfl
  | _, _, .cons _ t => by simp [RpT.len t]
theorem RpK.len {K : PySem.W.Frag} {F : Hp} : ∀ {vs : List (Key × V)} {ds : List (Dt × Dt)}, RpK K F vs ds → vs.length = ds.length
  | _, _, .nil => rfl
  | _, _, .cons _ t => by simp [RpK.len t]
/-! ### what a slot holds -/
inductive R where
  | d (x : Dt)
  | c (k : Nat)
  | s (ns : List Int)
/-- what stands in a cell -/
inductive SO where
  | lst (xs : List Dt)
  | dK (kvs : List (Dt × Dt))
  | dT (kvs : List (Dt × Dt))
  | gone
def SO.val : SO → Option Dt
  | .lst xs => some (.lst xs)
  | .dK kvs => some (.dK kvs)
  | .dT kvs => some (.dT kvs)
  | .gone => none
def get (S : List SO) : R → Option Dt
  | .d x => some x
  | .c k => (S[k]?).bind SO.val
  | .s _ => none
def RpR (K : PySem.W.Frag) (F : Hp) (A : List Addr) (v : V) : R → Prop
  | .d x => Rp K F v x
  | .c k => ∃ a, A[k]? = some a ∧ v = .ref a
  | .s ns => ∃ a, v = .ref a ∧ SqL K F a (ns.map V.int)
def CellR (K : PySem.W.Frag) (F H : Hp) (a : Addr) : SO → Prop
  | .lst ds => F a = none ∧ ∃ vs, H a = some (.lst vs) ∧ Rps K F vs ds
  | .dK ds => F a = none ∧ ∃ vs, H a = some (.dK vs) ∧ RpK K F vs ds
  | .dT ds => F a = none ∧ ∃ vs, H a = some (.dT vs) ∧ RpT K F vs ds
  | .gone => ∃ o, F a = some o ∧ H a = some o
structure HSt (K : PySem.W.Frag) (F : Hp) (A : List Addr) (H : Hp) (S : List SO) : Prop where
  sub : ∀ a o, F a = some o → H a = some o
  nd : A.Nodup
  cells : Paired (fun a o => CellR K F H a o) A S
structure Ext (F : Hp) (A : List Addr) (H F' : Hp) (A' : List Addr) (H' : Hp) : Prop where
  ge : Ge F F'
  pre : ∃ B, A' = A ++ B ∧ ∀ a ∈ B, H a = none
  frame : ∀ a o, H a = some o → a ∉ A → H' a = some o
  newF : ∀ a o, F' a = some o → F a = none → H a = none ∨ a ∈ A ∨ ∃ xs, H a = some (.tup xs)
  mon : ∀ a, H' a = none → H a = none
section
variable {K : PySem.W.Frag} {F F' F2 : Hp} {A A' A2 : List Addr} {H H' H2 : Hp} {S S' : List SO} {v : V} {r : R}
theorem Ext.rfl' : Ext F A H F A H := ⟨.rfl', ⟨[], by simp, by simp⟩, fun _ _ h _ => h, (fun a o h h' => by rw [h] at h'; cases h'), fun _ h => h⟩
theorem Ext.trans (x : Ext F A H F' A' H') (y : Ext F' A' H' F2 A2 H2) : Ext F A H F2 A2 H2 := by
  obtain ⟨B, eB, hB⟩ := x.pre
  obtain ⟨C, eC, hC⟩ := y.pre
  refine ⟨Ge.trans x.ge y.ge, ⟨B ++ C, by rw [eC, eB, List.append_assoc], fun a h => ?_⟩, fun a o h hA => ?_, fun a o h h' => ?_, fun a h => x.mon a (y.mon a h)⟩
  · rcases List.mem_append.mp h with h | h
    · exact hB a h
    · exact x.mon a (hC a h)
  · refine y.frame a o (x.frame a o h hA) ?_
    rw [eB]
    intro hm
    rcases List.mem_append.mp hm with hm | hm
    · exact hA hm
    · rw [hB a hm] at h; cases h
  · cases e : F' a with
    | some o' => exact x.newF a o' e h'
    | none =>
      rcases y.newF a o h e with h1 | h1 | ⟨xs, h1⟩
      · exact .inl (x.mon a h1)
      · rw [eB] at h1
        rcases List.mem_append.mp h1 with h1 | h1
        · exact .inr (.inl h1)
        · exact .inl (hB a h1)
      · by_cases hA : a ∈ A
        · exact .inr (.inl hA)
        · cases e2 : H a with
          | none => exact .inl rfl
          | some u =>
            have := x.frame a u e2 hA
            rw [h1] at this; cases this
            exact .inr (.inr ⟨xs, rfl⟩)
theorem SqL.mono {a : Addr} {xs : List V} (g : Ge F F') (h : SqL K F a xs) : SqL K F' a xs := by
  rcases h with (h | ⟨o, h⟩) | h
  · exact .inl (.inl (g _ _ h))
  · exact .inl (.inr ⟨o, g _ _ h⟩)
  · exact .inr h
theorem SqT.mono {a : Addr} {xs : List V} (g : Ge F F') (h : SqT K F a xs) : SqT K F' a xs := by
  rcases h with (h | ⟨o, h⟩) | h
  · exact .inl (.inl (g _ _ h))
  · exact .inl (.inr ⟨o, g _ _ h⟩)
  · exact .inr h
theorem RpR.mono (g : Ge F F') (p : ∃ B, A' = A ++ B) (h : RpR K F A v r) : RpR K F' A' v r := by
  cases r with
  | d x => exact Rp.mono g h
  | c k =>
    obtain ⟨a, e, ev⟩ := h
    obtain ⟨B, rfl⟩ := p
    exact ⟨a, by rw [List.getElem?_append_left (List.getElem?_eq_some_iff.mp e).1]; exact e, ev⟩
  | s ns =>
    obtain ⟨a, e, h⟩ := h
    exact ⟨a, e, SqL.mono g h⟩
theorem RpR.ext (x : Ext F A H F' A' H') (h : RpR K F A v r) : RpR K F' A' v r := h.mono x.ge (let ⟨B, e, _⟩ := x.pre; ⟨B, e⟩)
theorem CellR.mono {a : Addr} {o : SO} (g : Ge F F') (n : F a = none → F' a = none) (e : ∀ o, H a = some o → H' a = some o) (h : CellR K F H a o) : CellR K F' H' a o := by
  cases o with
  | lst ds => obtain ⟨h0, vs, h1, h2⟩ := h; exact ⟨n h0, vs, e _ h1, h2.mono g⟩
  | dK ds => obtain ⟨h0, vs, h1, h2⟩ := h; exact ⟨n h0, vs, e _ h1, h2.mono g⟩
  | dT ds => obtain ⟨h0, vs, h1, h2⟩ := h; exact ⟨n h0, vs, e _ h1, h2.mono g⟩
  | gone => obtain ⟨o, h1, h2⟩ := h; exact ⟨o, g _ _ h1, e _ h2⟩
theorem CellR.there {a : Addr} {o : SO} (h : CellR K F H a o) : ∃ u, H a = some u := by
  cases o with
  | lst ds => obtain ⟨h0, vs, h1, h2⟩ := h; exact ⟨_, h1⟩
  | dK ds => obtain ⟨h0, vs, h1, h2⟩ := h; exact ⟨_, h1⟩
  | dT ds => obtain ⟨h0, vs, h1, h2⟩ := h; exact ⟨_, h1⟩
  | gone => obtain ⟨o, h1, h2⟩ := h; exact ⟨o, h2⟩
theorem Paired.mem {α β : Type} {G : α → β → Prop} : ∀ {l : List α} {m : List β}, Paired G l m → ∀ a ∈ l, ∃ b, G a b
  | _, _, .nil, a, h => by simp at h
  | _, _, .cons r t, a, h => by
    rcases List.mem_cons.mp h with rfl | h
    · exact ⟨_, r⟩
    · exact Paired.mem t a h
theorem Paired.mapM {α β : Type} {F G : α → β → Prop} : ∀ {l₁ : List α} {l₂ : List β}, Paired F l₁ l₂ → (∀ a ∈ l₁, ∀ b, F a b → G a b) → Paired G l₁ l₂
  | _, _, .nil, _ => .nil
  | _, _, .cons r t, f => .cons (f _ List.mem_cons_self _ r) (Paired.mapM t fun a h => f a (List.mem_cons_of_mem _ h))
theorem Paired.getR {α β : Type} {G : α → β → Prop} : ∀ {l : List α} {m : List β} {i : Nat} {b : β}, Paired G l m → m[i]? = some b → ∃ a, l[i]? = some a ∧ G a b
  | _, _, _, _, .nil, h => by simp at h
  | _, _, 0, _, .cons r _, e => by simp at e; subst e; exact ⟨_, rfl, r⟩
  | _, _, i + 1, _, .cons _ t, e => by
    obtain ⟨v, h1, h2⟩ := Paired.getR (i := i) t (by simpa using e)
    exact ⟨v, by simpa using h1, h2⟩
theorem Paired.appendP {α β : Type} {G : α → β → Prop} : ∀ {l l' : List α} {m m' : List β}, Paired G l m → Paired G l' m' → Paired G (l ++ l') (m ++ m')
  | _, _, _, _, .nil, h => h
  | _, _, _, _, .cons r t, h => .cons r (Paired.appendP t h)
theorem HSt.there (h : HSt K F A H S) {a : Addr} (ha : a ∈ A) : ∃ u, H a = some u := by
  obtain ⟨o, ho⟩ := Paired.mem h.cells a ha
  exact ho.there
/-- a new object is laid and frozen -/
theorem HSt.lay {p : Addr} {o : HO} (h : HSt K F A H S) (n : H p = none) : HSt K (upd F p o) A (upd H p o) S ∧ Ext F A H (upd F p o) A (upd H p o) := by
  have nF : F p = none := by
    cases e : F p with
    | none => rfl
    | some u => rw [h.sub _ _ e] at n; cases n
  have g : Ge F (upd F p o) := fun a u e => by rw [upd_ne (ne_of_none e nF)]; exact e
  have kp : ∀ a u, H a = some u → upd H p o a = some u := fun a u e => by rw [upd_ne (ne_of_none e n)]; exact e
  have nA : ∀ a ∈ A, a ≠ p := fun a ha => by
    obtain ⟨u, e⟩ := h.there ha
    exact ne_of_none e n
  refine ⟨⟨fun a u e => ?_, h.nd, Paired.mapM h.cells fun a ha b r => r.mono g (fun e => by rw [upd_ne (nA a ha)]; exact e) (kp a)⟩, g, ⟨[], by simp, by simp⟩, fun a u e _ => kp a u e, fun a u e e' => ?_, fun a e => ?_⟩
  · by_cases hp : a = p
    · subst hp; rw [upd_same] at e ⊢; exact e
    · rw [upd_ne hp] at e ⊢; exact h.sub _ _ e
  · by_cases hp : a = p
    · subst hp; exact .inl n
    · rw [upd_ne hp] at e; rw [e] at e'; cases e'
  · by_cases hp : a = p
    · subst hp; exact n
    · rw [upd_ne hp] at e; exact e
end
end OA
namespace OA
open PySem PySem.Spec PyProof.Rows L2
theorem _root_.L2.PE.weak {X : Cx} {e : Expr} {t t' : TE} (h : PE X e t) (w : ∀ σ H Q, t' σ H Q → t σ H Q) : PE X e t' := ⟨fun pins s σ H Q I q => h.run pins s σ H Q I (w σ H Q q)⟩
theorem _root_.L2.PT.weak {X : Cx} {e : Expr} {t t' : TT} (h : PT X e t) (w : ∀ σ H Q, t' σ H Q → t σ H Q) : PT X e t' := ⟨fun pins s σ H Q I q => h.run pins s σ H Q I (w σ H Q q)⟩
theorem _root_.L2.PW.weak {X : Cx} {e : Expr} {t t' : TT} (h : PW X e t) (w : ∀ σ H Q, t' σ H Q → t σ H Q) : PW X e t' := ⟨fun wh pins s σ H Q I q => h.run wh pins s σ H Q I (w σ H Q q)⟩
theorem _root_.L2.PA.weak {X : Cx} {e : List Expr} {t t' : TA} (h : PA X e t) (w : ∀ σ H Q, t' σ H Q → t σ H Q) : PA X e t' := ⟨fun pos pins s σ H Q I q => h.run pos pins s σ H Q I (w σ H Q q)⟩
theorem _root_.L2.PS.weak {X : Cx} {e : Stmt} {t t' : TS} (h : PS X e t) (w : ∀ D σ H, t' D σ H → t D σ H) : PS X e t' := ⟨fun pins s σ H D I q => h.run pins s σ H D I (w D σ H q)⟩
theorem _root_.L2.PSs.weak {X : Cx} {e : List Stmt} {t t' : TS} (h : PSs X e t) (w : ∀ D σ H, t' D σ H → t D σ H) : PSs X e t' := ⟨fun pins s σ H D I q => h.run pins s σ H D I (w D σ H q)⟩
abbrev En := List (Option R)
abbrev Ss := List SO
abbrev Cd := En → Ss → Option (R × Ss)
abbrev CdL := En → Ss → Option (List R × Ss)
abbrev CdB := En → Ss → Option (Bool × Ss)
inductive Fl where
  | nx | ret (r : R) | bk | ct
abbrev CdS := En → Ss → Option (Fl × En × Ss)
def EnvR (K : PySem.W.Frag) (F : Hp) (A : List Addr) (σ : L2.St) (en : En) : Prop :=
  σ.length = en.length ∧ ∀ (i : Nat) (r : R), en[i]? = some (some r) → ∃ v, σ[i]? = some (some v) ∧ RpR K F A v r
section
variable {K : PySem.W.Frag} {F F' F2 : Hp} {A A' A2 : List Addr} {H H' H2 : Hp} {S S' : Ss} {v : V} {r : R} {σ : L2.St} {en : En}
theorem EnvR.ext (x : Ext F A H F' A' H') (h : EnvR K F A σ en) : EnvR K F' A' σ en := ⟨h.1, fun i r e => by
  obtain ⟨v, e1, h1⟩ := h.2 i r e
  exact ⟨v, e1, h1.ext x⟩⟩
theorem EnvR.set (h : EnvR K F A σ en) (i : Nat) (q : RpR K F A v r) : EnvR K F A (σ.set i (some v)) (en.set i (some r)) := ⟨by simp [h.1], fun j r' e => by
  by_cases hj : i = j
  · subst hj
    by_cases hl : i < en.length
    · rw [List.getElem?_set_self hl] at e
      cases e
      exact ⟨v, by rw [List.getElem?_set_self (by rw [h.1]; exact hl)], q⟩
    · rw [List.getElem?_eq_none (by simpa using hl)] at e; cases e
  · rw [List.getElem?_set_ne hj] at e ⊢
    exact h.2 j r' e⟩
def wipeE (en : En) : List Nat → En
  | [] => en
  | v :: vs => (wipeE en vs).set v none
theorem EnvR.none (h : EnvR K F A σ en) (i : Nat) : EnvR K F A (σ.set i none) (en.set i none) := ⟨by simp [h.1], fun j r' e => by
  by_cases hj : i = j
  · subst hj
    by_cases hl : i < en.length
    · rw [List.getElem?_set_self hl] at e; cases e
    · rw [List.getElem?_eq_none (by simpa using hl)] at e; cases e
  · rw [List.getElem?_set_ne hj] at e ⊢
    exact h.2 j r' e⟩
theorem EnvR.wipe (h : EnvR K F A σ en) : ∀ vs : List Nat, EnvR K F A (wipe σ vs) (wipeE en vs)
  | [] => h
  | v :: vs => (EnvR.wipe h vs).none v
end
def tE (K : PySem.W.Frag) (c : Cd) : TE := fun σ H Q => ∃ F A S en r S', HSt K F A H S ∧ EnvR K F A σ en ∧ c en S = some (r, S') ∧
  ∀ v H' F' A', HSt K F' A' H' S' → Ext F A H F' A' H' → RpR K F' A' v r → Q v H'
inductive RpRs (K : PySem.W.Frag) (F : Hp) (A : List Addr) : List V → List R → Prop
  | nil : RpRs K F A [] []
  | cons {v vs r rs} : RpR K F A v r → RpRs K F A vs rs → RpRs K F A (v :: vs) (r :: rs)
theorem RpRs.ext {K : PySem.W.Frag} {F F' : Hp} {A A' : List Addr} {H H' : Hp} (x : Ext F A H F' A' H') : ∀ {vs : List V} {rs : List R}, RpRs K F A vs rs → RpRs K F' A' vs rs
  | _, _, .nil => .nil
  | _, _, .cons h t => .cons (h.ext x) (RpRs.ext x t)
theorem RpRs.length {K : PySem.W.Frag} {F : Hp} {A : List Addr} : ∀ {vs : List V} {rs : List R}, RpRs K F A vs rs → vs.length = rs.length
  | _, _, .nil => rfl
  | _, _, .cons _ t => by simp [RpRs.length t]
def tEs (K : PySem.W.Frag) (c : CdL) : TA := fun σ H Q => ∃ F A S en r S', HSt K F A H S ∧ EnvR K F A σ en ∧ c en S = some (r, S') ∧
  ∀ v H' F' A', HSt K F' A' H' S' → Ext F A H F' A' H' → RpRs K F' A' v r → Q v H'
def tT (K : PySem.W.Frag) (c : CdB) : TT := fun σ H Q => ∃ F A S en r S', HSt K F A H S ∧ EnvR K F A σ en ∧ c en S = some (r, S') ∧
  ∀ H' F' A', HSt K F' A' H' S' → Ext F A H F' A' H' → Q r H'
def tS (K : PySem.W.Frag) (c : CdS) : TS := fun D σ H => ∃ F A S en fl en' S', HSt K F A H S ∧ EnvR K F A σ en ∧ c en S = some (fl, en', S') ∧
  match fl with
  | .nx => ∀ σ' H' F' A', HSt K F' A' H' S' → Ext F A H F' A' H' → EnvR K F' A' σ' en' → D.nx σ' H'
  | .ret r => ∀ v H' F' A', HSt K F' A' H' S' → Ext F A H F' A' H' → RpR K F' A' v r → D.rt v H'
  | .bk => ∀ σ' H' F' A', HSt K F' A' H' S' → Ext F A H F' A' H' → EnvR K F' A' σ' en' → D.bk σ' H'
  | .ct => ∀ σ' H' F' A', HSt K F' A' H' S' → Ext F A H F' A' H' → EnvR K F' A' σ' en' → D.ct σ' H'
section
variable {X : Cx} {e a b : Expr} {es : List Expr} {c ca cb : Cd} {cl : CdL} {pos : Pos}
/-! ### names, constants -/
def cVar (i : Nat) : Cd := fun en S => match en[i]? with
  | some (some r) => some (r, S)
  | _ => none
theorem oVar {i : Nat} (h : PE X e (tVar i)) : PE X e (tE X.K (cVar i)) := h.weak fun σ H Q ⟨F, A, S, en, r, S', hs, he, ec, k⟩ => by
  unfold cVar at ec
  split at ec
  · rename_i r' hr
    cases ec
    obtain ⟨v, e1, h1⟩ := he.2 _ _ hr
    exact ⟨v, e1, k v H F A hs .rfl' h1⟩
  · cases ec
def cK (d : Dt) : Cd := fun _ S => some (.d d, S)
theorem oK {v : V} {d : Dt} (h : PE X e (tC v)) (hd : ∀ F, Rp X.K F v d) : PE X e (tE X.K (cK d)) := h.weak fun σ H Q ⟨F, A, S, en, r, S', hs, he, ec, k⟩ => by
  cases ec
  exact k v H F A hs .rfl' (hd F)
/-! ### argument lists -/
def cNil : CdL := fun _ S => some ([], S)
def cCons (c : Cd) (cl : CdL) : CdL := fun en S => (c en S).bind fun p => (cl en p.2).map fun q => (p.1 :: q.1, q.2)
theorem oNil : PA X [] (tEs X.K cNil) := pa_nil.weak fun σ H Q ⟨F, A, S, en, r, S', hs, he, ec, k⟩ => by
  cases ec
  exact k [] H F A hs .rfl' .nil
theorem oCons (ha : PE X e (tE X.K c)) (hr : PA X es (tEs X.K cl)) (hs : starEach (e :: es) X.env = (false, eval e X.env) :: starEach es X.env := by rfl) : PA X (e :: es) (tEs X.K (cCons c cl)) :=
  (pa_cons ha hr hs).weak fun σ H Q ⟨F, A, S, en, r, S', hs, he, ec, k⟩ => by
    unfold cCons at ec
    obtain ⟨⟨r1, S1⟩, e1, ec⟩ := Option.bind_eq_some_iff.mp ec
    obtain ⟨⟨r2, S2⟩, e2, ec⟩ := Option.map_eq_some_iff.mp ec
    cases ec
    exact ⟨F, A, S, en, r1, S1, hs, he, e1, fun v H1 F1 A1 hs1 x1 p1 => ⟨F1, A1, S1, en, r2, S2, hs1, he.ext x1, e2, fun vs H2 F2 A2 hs2 x2 p2 => k (v :: vs) H2 F2 A2 hs2 (x1.trans x2) (.cons (p1.ext x2) p2)⟩⟩
/-- only data -/
def dats : List R → Option (List Dt)
  | [] => some []
  | .d x :: rs => (dats rs).map (x :: ·)
  | _ :: _ => none
theorem dats_rp {K : PySem.W.Frag} {F : Hp} {A : List Addr} : ∀ {vs : List V} {rs : List R} {ds : List Dt}, RpRs K F A vs rs → dats rs = some ds → Rps K F vs ds
  | _, _, _, .nil, h => by cases h; exact .nil
  | _, .d x :: _, _, .cons h t, e => by
    obtain ⟨ds', e1, e2⟩ := Option.map_eq_some_iff.mp e
    cases e2
    exact .cons h (dats_rp t e1)
  | _, .c _ :: _, _, .cons h t, e => by cases e
  | _, .s _ :: _, _, .cons h t, e => by cases e
def cTup (cl : CdL) : Cd := fun en S => (cl en S).bind fun p => (dats p.1).bind fun ds => if ds.length ≤ 1000 then some (.d (.tup ds), p.2) else none
def cLst (cl : CdL) : Cd := fun en S => (cl en S).bind fun p => (dats p.1).bind fun ds => if ds.length ≤ 1000 then some (.d (.lst ds), p.2) else none
theorem oLst (h : PA X es (tEs X.K cl)) : PE X (.List es pos) (tE X.K (cLst cl)) := (pe_lst h).weak fun σ H Q ⟨F, A, S, en, r, S', hs, he, ec, k⟩ => by
  unfold cLst at ec
  obtain ⟨⟨r1, S1⟩, e1, ec⟩ := Option.bind_eq_some_iff.mp ec
  obtain ⟨ds, e2, ec⟩ := Option.bind_eq_some_iff.mp ec
  split at ec
  · cases ec
    refine ⟨F, A, S, en, r1, S1, hs, he, e1, fun vs H1 F1 A1 hs1 x1 p1 => ?_⟩
    have p2 := dats_rp p1 e2
    refine ⟨Nat.le_of_lt (small1000 (by rw [p2.length]; assumption)), fun p np => ?_⟩
    obtain ⟨hs2, x2⟩ := hs1.lay (o := .lst vs) np
    exact k _ _ _ _ hs2 (x1.trans x2) (Rp.lst upd_same (p2.mono x2.ge))
  · cases ec
end
section
variable {K : PySem.W.Frag} {F F' F2 : Hp} {A A' A2 : List Addr} {H H' H2 : Hp} {S S' : Ss} {v : V} {r : R} {σ : L2.St} {en : En} {p : Addr}
/-- a new cell -/
theorem HSt.newCell {o : HO} {so : SO} (h : HSt K F A H S) (n : H p = none) (ho : CellR K F (upd H p o) p so) :
    HSt K F (A ++ [p]) (upd H p o) (S ++ [so]) ∧ Ext F A H F (A ++ [p]) (upd H p o) := by
  have kp : ∀ a u, H a = some u → upd H p o a = some u := fun a u e => by rw [upd_ne (ne_of_none e n)]; exact e
  have nA : p ∉ A := fun ha => by
    obtain ⟨u, e⟩ := h.there ha
    rw [n] at e; cases e
  refine ⟨⟨fun a u e => kp a u (h.sub _ _ e), ?_, Paired.appendP (Paired.mapM h.cells fun a ha b r => r.mono Ge.rfl' (fun e => e) (kp a)) (.cons ho .nil)⟩, Ge.rfl', ⟨[p], rfl, by simpa using n⟩, fun a u e _ => kp a u e, (fun a u e e' => by rw [e] at e'; cases e'), fun a e => ?_⟩
  · rw [List.nodup_append]
    exact ⟨h.nd, by simp, fun a ha b hb => by
      have : b = p := by simpa using hb
      subst this
      exact fun z => nA (z ▸ ha)⟩
  · by_cases hp : a = p
    · subst hp; exact n
    · rw [upd_ne hp] at e; exact e
theorem HSt.nF (h : HSt K F A H S) (n : H p = none) : F p = none := by
  cases e : F p with
  | none => rfl
  | some u => rw [h.sub _ _ e] at n; cases n
theorem HSt.len (h : HSt K F A H S) : A.length = S.length := Paired.length h.cells
/-- a cell is written -/
theorem HSt.put {k : Nat} {a : Addr} {o : HO} {so so' : SO} (h : HSt K F A H S) (ea : A[k]? = some a) (es : S[k]? = some so) (ng : so ≠ .gone) (ho : CellR K F (upd H a o) a so') :
    HSt K F A (upd H a o) (S.set k so') ∧ Ext F A H F A (upd H a o) := by
  have hm : a ∈ A := List.mem_of_getElem? ea
  obtain ⟨a', ea', hc⟩ := Paired.getR h.cells es
  rw [ea] at ea'; cases ea'
  have nF : F a = none := by
    cases so with
    | lst ds => exact hc.1
    | dK ds => exact hc.1
    | dT ds => exact hc.1
    | gone => exact absurd rfl ng
  have kp : ∀ b u, b ≠ a → H b = some u → upd H a o b = some u := fun b u hb e => by rw [upd_ne hb]; exact e
  refine ⟨⟨fun b u e => ?_, h.nd, ?_⟩, Ge.rfl', ⟨[], by simp, by simp⟩, fun b u e hb => kp b u (fun z => hb (z ▸ hm)) e, (fun b u e e' => by rw [e] at e'; cases e'), fun b e => ?_⟩
  · have hb : b ≠ a := fun z => by rw [z, nF] at e; cases e
    exact kp b u hb (h.sub _ _ e)
  · have gen : ∀ (A : List Addr) (S : Ss) (k : Nat), A.Nodup → Paired (fun a o => CellR K F H a o) A S → A[k]? = some a → Paired (fun b so => CellR K F (upd H a o) b so) A (S.set k so') := by
      intro A
      induction A with
      | nil => intro S k _ _ e; simp at e
      | cons b A ih =>
        intro S k nd pr e
        cases pr with
        | cons r t =>
          rw [List.nodup_cons] at nd
          cases k with
          | zero =>
            simp at e; subst e
            refine .cons ho (Paired.mapM t fun c hc so r => r.mono Ge.rfl' (fun e => e) fun u e => kp c u (fun z => nd.1 (z ▸ hc)) e)
          | succ k =>
            have e' : A[k]? = some a := by simpa using e
            refine .cons (r.mono Ge.rfl' (fun e => e) fun u e => kp b u (fun z => nd.1 (z ▸ List.mem_of_getElem? e')) e) (ih _ k nd.2 t e')
    exact gen A S k h.nd h.cells ea
  · by_cases hb : b = a
    · subst hb; rw [upd_same] at e; cases e
    · rw [upd_ne hb] at e; exact e
/-- a cell is frozen -/
theorem HSt.frz {k : Nat} {a : Addr} {o : HO} {so : SO} (h : HSt K F A H S) (ea : A[k]? = some a) (es : S[k]? = some so) (ng : so ≠ .gone) :
    HSt K (upd F a o) A (upd H a o) (S.set k .gone) ∧ Ext F A H (upd F a o) A (upd H a o) := by
  have hm : a ∈ A := List.mem_of_getElem? ea
  obtain ⟨a', ea', hc⟩ := Paired.getR h.cells es
  rw [ea] at ea'; cases ea'
  have nF : F a = none := by
    cases so with
    | lst ds => exact hc.1
    | dK ds => exact hc.1
    | dT ds => exact hc.1
    | gone => exact absurd rfl ng
  have kp : ∀ b u, b ≠ a → H b = some u → upd H a o b = some u := fun b u hb e => by rw [upd_ne hb]; exact e
  have g : Ge F (upd F a o) := fun b u e => by rw [upd_ne (ne_of_none e nF)]; exact e
  refine ⟨⟨fun b u e => ?_, h.nd, ?_⟩, g, ⟨[], by simp, by simp⟩, fun b u e hb => kp b u (fun z => hb (z ▸ hm)) e, fun b u e e' => ?_, fun b e => ?_⟩
  · by_cases hb : b = a
    · subst hb; rw [upd_same] at e ⊢; exact e
    · rw [upd_ne hb] at e ⊢; exact h.sub _ _ e
  · have gen : ∀ (A : List Addr) (S : Ss) (k : Nat), A.Nodup → Paired (fun a o => CellR K F H a o) A S → A[k]? = some a → Paired (fun b so => CellR K (upd F a o) (upd H a o) b so) A (S.set k .gone) := by
      intro A
      induction A with
      | nil => intro S k _ _ e; simp at e
      | cons b A ih =>
        intro S k nd pr e
        cases pr with
        | cons r t =>
          rw [List.nodup_cons] at nd
          cases k with
          | zero =>
            simp at e; subst e
            refine .cons ⟨o, upd_same, upd_same⟩ (Paired.mapM t fun c hc so r => have hcb : c ≠ b := fun z => nd.1 (z ▸ hc); r.mono g (fun e => by rw [upd_ne hcb]; exact e) fun u e => kp c u hcb e)
          | succ k =>
            have e' : A[k]? = some a := by simpa using e
            have hb : b ≠ a := fun z => nd.1 (z ▸ List.mem_of_getElem? e')
            refine .cons (r.mono g (fun e => by rw [upd_ne hb]; exact e) fun u e => kp b u hb e) (ih _ k nd.2 t e')
    exact gen A S k h.nd h.cells ea
  · by_cases hb : b = a
    · subst hb; exact .inr (.inl hm)
    · rw [upd_ne hb] at e; rw [e] at e'; cases e'
  · by_cases hb : b = a
    · subst hb; rw [upd_same] at e; cases e
    · rw [upd_ne hb] at e; exact e
/-- a list that may be read -/
theorem HSt.rdL {ds : List Dt} (h : HSt K F A H S) (q : RpR K F A v r) (g : get S r = some (.lst ds)) : ∃ a xs, v = .ref a ∧ H a = some (.lst xs) ∧ Rps K F xs ds := by
  cases r with
  | d x =>
    cases g
    cases q with
    | lst e t => exact ⟨_, _, rfl, h.sub _ _ e, t⟩
  | s ns => cases g
  | c k =>
    obtain ⟨a, ea, rfl⟩ := q
    obtain ⟨so, e1, e2⟩ := Option.bind_eq_some_iff.mp g
    obtain ⟨a', ea', hc⟩ := Paired.getR h.cells e1
    rw [ea] at ea'; cases ea'
    cases so with
    | lst ds' => cases e2; obtain ⟨_, vs, e3, t⟩ := hc; exact ⟨a, vs, rfl, e3, t⟩
    | dK ds => cases e2
    | dT ds => cases e2
    | gone => cases e2
/-- what is a tuple -/
def tupV : Dt → Option (List Dt)
  | .tup ds => some ds
  | .tup0 => some []
  | .pr ds => some ds
  | _ => none
theorem HSt.rdT {d : Dt} {ds : List Dt} (h : HSt K F A H S) (q : RpR K F A v r) (g : get S r = some d) (t : tupV d = some ds) : ∃ a xs, v = .ref a ∧ SqT K H a xs ∧ Rps K F xs ds := by
  cases r with
  | d x =>
    cases g
    cases q with
    | tupS _ e u => cases t; exact ⟨_, _, rfl, .inl (.inl (h.sub _ _ e)), u⟩
    | tupP _ e _ u => cases t; exact ⟨_, _, rfl, .inl (.inr ⟨_, h.sub _ _ e⟩), u⟩
    | tup0 e _ => cases t; exact ⟨_, _, rfl, .inl (.inr ⟨_, h.sub _ _ e⟩), .nil⟩
    | pr e u => cases t; exact ⟨_, _, rfl, .inl (.inl (h.sub _ _ e)), u⟩
    | kt e => cases t; exact ⟨_, _, rfl, e H, .cons (.int _) (.cons (.int _) .nil)⟩
    | _ => cases t
  | s ns => cases g
  | c k =>
    obtain ⟨so, e1, e2⟩ := Option.bind_eq_some_iff.mp g
    cases so <;> cases e2 <;> cases t
theorem HSt.rdI {i : Int} (q : RpR K F A v r) (g : get S r = some (.int i)) : v = .int i := by
  cases r with
  | d x => cases g; cases q; rfl
  | s ns => cases g
  | c k =>
    obtain ⟨so, e1, e2⟩ := Option.bind_eq_some_iff.mp g
    cases so <;> cases e2
theorem HSt.rdS {i : Str} (q : RpR K F A v r) (g : get S r = some (.str i)) : v = .str i := by
  cases r with
  | d x => cases g; cases q; rfl
  | s ns => cases g
  | c k =>
    obtain ⟨so, e1, e2⟩ := Option.bind_eq_some_iff.mp g
    cases so <;> cases e2
theorem HSt.rdB {i : Bool} (q : RpR K F A v r) (g : get S r = some (.bl i)) : v = .bl i := by
  cases r with
  | d x => cases g; cases q; rfl
  | s ns => cases g
  | c k =>
    obtain ⟨so, e1, e2⟩ := Option.bind_eq_some_iff.mp g
    cases so <;> cases e2
end
mutual
theorem Rp.dp {K : PySem.W.Frag} {F H : Hp} (sub : Ge F H) : ∀ {v : V} {d : Dt}, Rp K F v d → d.py.canLay0 = true → Dp K H v d.py
  | _, _, .non, _ => by unfold Dt.py; exact .non
  | _, _, .bl b, _ => by unfold Dt.py; exact .bl b
  | _, _, .int i, _ => by unfold Dt.py; exact .int i
  | _, _, .str x, _ => by unfold Dt.py; exact .str x
  | _, _, .lst e h, c => by unfold Dt.py at c ⊢; exact .lst (.inl (.inl (sub _ _ e))) (Rps.dp sub h (by simpa [PyData.canLay0] using c))
  | _, _, .tupS _ e h, c => by unfold Dt.py at c ⊢; exact .tup (.inl (.inl (sub _ _ e))) (Rps.dp sub h (by simpa [PyData.canLay0] using c))
  | _, _, .tupP _ e _ h, c => by unfold Dt.py at c ⊢; exact .tup (.inl (.inr ⟨_, sub _ _ e⟩)) (Rps.dp sub h (by simpa [PyData.canLay0] using c))
  | _, _, .tup0 e _, c => by unfold Dt.py; exact .tup (.inl (.inr ⟨_, sub _ _ e⟩)) .nil
  | _, _, .pr e h, c => by unfold Dt.py at c ⊢; exact .tup (.inl (.inl (sub _ _ e))) (Rps.dp sub h (by simpa [PyData.canLay0] using c))
  | _, _, .kt e, c => by simp only [Dt.py, Dt.pys]; exact .tup (e H) (.cons (.int _) (.cons (.int _) .nil))
  | _, _, .dK e h, c => by simp [Dt.py, PyData.canLay0] at c
  | _, _, .dT e h, c => by simp [Dt.py, PyData.canLay0] at c
theorem Rps.dp {K : PySem.W.Frag} {F H : Hp} (sub : Ge F H) : ∀ {v : List V} {d : List Dt}, Rps K F v d → PyData.canLayAll0 (Dt.pys d) = true → DpAll K H v (Dt.pys d)
  | _, _, .nil, _ => by unfold Dt.pys; exact .nil
  | _, _, .cons h t, c => by
    simp only [Dt.pys, PyData.canLayAll0, Bool.and_eq_true] at c
    unfold Dt.pys
    exact .cons (Rp.dp sub h c.1) (Rps.dp sub t c.2)
end
theorem HSt.dp {K : PySem.W.Frag} {F : Hp} {A : List Addr} {H : Hp} {S : Ss} {v : V} {r : R} {d : Dt} (h : HSt K F A H S) (q : RpR K F A v r) (g : get S r = some d) (c : SeqAt.shaped d.py = true) : Dp K H v d.py := by
  have cl := SeqAt.canLay_of_shaped c
  cases r with
  | d x => cases g; exact Rp.dp h.sub q cl
  | s ns => cases g
  | c k =>
    cases d with
    | lst ds =>
      obtain ⟨a, xs, rfl, e, t⟩ := h.rdL q g
      unfold Dt.py at cl ⊢
      exact .lst (.inl (.inl e)) (Rps.dp h.sub t (by simpa [PyData.canLay0] using cl))
    | _ =>
      obtain ⟨so, e1, e2⟩ := Option.bind_eq_some_iff.mp g
      cases so <;> first
        | (cases e2; done)
        | (cases e2; exact absurd cl (by simp [Dt.py, PyData.canLay0]))
        | (simp [PyData.canLay0] at cl; done)
/-! ### tuples -/
/-- a new tuple: its object is known, or it is tracked as one that may be a key -/
theorem _root_.L2.Inv.newTup {X : Cx} {pins : List (Addr × Obj)} {σ : L2.St} {H : Hp} {s : Shared} {xs : List V} {us : List Value} (I : Inv X pins σ H s) (r : Vals xs us) (hz : xs.length ≤ sizeLine) {o : HO} (ho : o = .tup xs ∨ o = .frz { cls := .type "tuple", data := .seq us.toArray } (.tup xs)) (t : Nat) :
    Inv X pins σ (upd H s.heap.objs.size o) { s with heap := s.heap.push { cls := .type "tuple", data := .seq us.toArray }, toks := t } := by
  have base : ∀ H', ObjOk X.prog X.w H' (s.heap.push { cls := .type "tuple", data := .seq us.toArray }) s.heap.objs.size (.tup xs) := fun H' => ⟨hz, us, r, ⟨_, Heap.get?_push_size _ rfl, rfl, _, rfl⟩⟩
  refine I.laid (t' := t) (fun b u e => Heap.get?_push_of_some _ e) (Nat.le_refl _) ?_
  rcases ho with rfl | rfl
  · exact base _
  · exact ⟨Heap.get?_push_size _ rfl, base _⟩
/-- what is asked at a new tuple -/
def newT (H : Hp) (xs : List V) (Q : VK) : Prop := ∀ (p : Addr) (ob : Obj), H p = none → ob.dict = none → ∃ o, (o = .tup xs ∨ o = .frz ob (.tup xs)) ∧ Q (.ref p) (upd H p o)
theorem newT_ok {K : PySem.W.Frag} {F : Hp} {A : List Addr} {H : Hp} {S : Ss} {xs : List V} {ds : List Dt} {Q : VK} (h : HSt K F A H S) (hx : Rps K F xs ds) (k : ∀ v H' F' A', HSt K F' A' H' S → Ext F A H F' A' H' → RpR K F' A' v (.d (.tup ds)) → Q v H') : newT H xs Q := fun p ob np nd => by
  cases c : ds.all isStr with
  | true =>
    obtain ⟨h2, x2⟩ := h.lay (o := .tup xs) np
    exact ⟨_, .inl rfl, k _ _ _ _ h2 x2 (Rp.tupS c upd_same (hx.mono x2.ge))⟩
  | false =>
    obtain ⟨h2, x2⟩ := h.lay (o := .frz ob (.tup xs)) np
    exact ⟨_, .inr rfl, k _ _ _ _ h2 x2 (Rp.tupP c upd_same nd (hx.mono x2.ge))⟩
theorem newT_ok0 {K : PySem.W.Frag} {F : Hp} {A : List Addr} {H : Hp} {S : Ss} {xs : List V} {Q : VK} (h : HSt K F A H S) (hx : Rps K F xs []) (k : ∀ v H' F' A', HSt K F' A' H' S → Ext F A H F' A' H' → RpR K F' A' v (.d .tup0) → Q v H') : newT H xs Q := fun p ob np nd => by
  cases hx
  obtain ⟨h2, x2⟩ := h.lay (o := .frz ob (.tup [])) np
  exact ⟨_, .inr rfl, k _ _ _ _ h2 x2 (Rp.tup0 upd_same nd)⟩
def tTupN (t : TA) : TE := fun σ H Q => t σ H fun xs H1 => xs.length ≤ sizeLine ∧ newT H1 xs Q
section
variable {X : Cx} {es : List Expr} {cl : CdL} {pos : Pos}
theorem pe_tupN {x1} {t : TA} (h : PA X es t) : PE X (.Tuple es x1 pos) (tTupN t) := by
  refine ⟨fun pins s σ H Q I hq => wpAny_Tuple_spliced (thn (h.run pos pins s σ H _ I hq) fun us s1 ⟨xs, H1, I1, r, z, q⟩ => ⟨by rw [← r.length]; exact z, ?_⟩)⟩
  obtain ⟨o, ho, q⟩ := q _ { cls := .type "tuple", data := .seq us.toArray } (I1.hok.fresh (Nat.le_refl _)) rfl
  exact ⟨.ref s1.heap.objs.size, _, I1.newTup r z ho s1.toks, rfl, q⟩
theorem oTup {k} (h : PA X es (tEs X.K cl)) : PE X (.Tuple es k pos) (tE X.K (cTup cl)) := (pe_tupN h).weak fun σ H Q ⟨F, A, S, en, r, S', hs, he, ec, k⟩ => by
  unfold cTup at ec
  obtain ⟨⟨r1, S1⟩, e1, ec⟩ := Option.bind_eq_some_iff.mp ec
  obtain ⟨ds, e2, ec⟩ := Option.bind_eq_some_iff.mp ec
  split at ec
  · cases ec
    refine ⟨F, A, S, en, r1, S1, hs, he, e1, fun vs H1 F1 A1 hs1 x1 p1 => ?_⟩
    have p2 := dats_rp p1 e2
    exact ⟨Nat.le_of_lt (small1000 (by rw [p2.length]; assumption)), newT_ok hs1 p2 fun v H2 F2 A2 hs2 x2 q => k v H2 F2 A2 hs2 (x1.trans x2) q⟩
  · cases ec
end
end OA
namespace OA
open PySem PySem.Spec PyProof.Rows L2
/-! ### operators by values -/
abbrev F2 := Ss → R → R → Option R
def OpOk (K : PySem.W.Frag) (r : R2) (f : F2) : Prop := ∀ F A H S x y rx ry z Q, HSt K F A H S → RpR K F A x rx → RpR K F A y ry → f S rx ry = some z →
  (∀ v H' F' A', HSt K F' A' H' S → Ext F A H F' A' H' → RpR K F' A' v z → Q v H') → r x y H Q
def cBin (f : F2) (ca cb : Cd) : Cd := fun en S => (ca en S).bind fun p => (cb en p.2).bind fun q => (f q.2 p.1 q.1).map fun z => (z, q.2)
section
variable {X : Cx} {e a b : Expr} {es : List Expr} {c ca cb cc : Cd} {cl : CdL} {pos : Pos} {r r' : R2} {f f' : F2} {op : Operator} {cop cop' : CmpOp}
theorem bin_ok (hr : OpOk X.K r f) {σ H Q} (h : tE X.K (cBin f ca cb) σ H Q) : tOp r (tE X.K ca) (tE X.K cb) σ H Q := by
  obtain ⟨F, A, S, en, z, S', hs, he, ec, k⟩ := h
  unfold cBin at ec
  obtain ⟨⟨r1, S1⟩, e1, ec⟩ := Option.bind_eq_some_iff.mp ec
  obtain ⟨⟨r2, S2⟩, e2, ec⟩ := Option.bind_eq_some_iff.mp ec
  obtain ⟨z', e3, ec⟩ := Option.map_eq_some_iff.mp ec
  cases ec
  exact ⟨F, A, S, en, r1, S1, hs, he, e1, fun v H1 F1 A1 hs1 x1 p1 => ⟨F1, A1, S1, en, r2, S2, hs1, he.ext x1, e2, fun u H2 F2 A2 hs2 x2 p2 =>
    hr F2 A2 H2 S2 v u r1 r2 z Q hs2 (p1.ext x2) p2 e3 fun w H3 F3 A3 hs3 x3 p3 => k w H3 F3 A3 hs3 ((x1.trans x2).trans x3) p3⟩⟩
theorem oBin (ho : OpR X (binaryOp op) r) (hr : OpOk X.K r f) (ha : PE X a (tE X.K ca)) (hb : PE X b (tE X.K cb)) : PE X (.BinOp a op b pos) (tE X.K (cBin f ca cb)) :=
  (pe_op ho ha hb).weak fun _ _ _ h => bin_ok hr h
theorem oCmp (ho : OpR X (compareOp cop) r) (hr : OpOk X.K r f) (ha : PE X a (tE X.K ca)) (hb : PE X b (tE X.K cb)) (hm : behindInMarks cop b = false) : PE X (.Compare a [cop] [b] pos) (tE X.K (cBin f ca cb)) :=
  (pe_cmpR ho ha hb hm).weak fun _ _ _ h => bin_ok hr h
/-- a value that is a bool -/
def asB (p : R × Ss) : Option (Bool × Ss) := match p.1 with
  | .d (.bl b) => some (b, p.2)
  | _ => none
def cTst (c : Cd) : CdB := fun en S => (c en S).bind asB
theorem tst_ok {K : PySem.W.Frag} {σ H Q} (h : tT K (cTst c) σ H Q) : tE K c σ H fun x H' => ∃ k, x = .bl k ∧ Q k H' := by
  obtain ⟨F, A, S, en, z, S', hs, he, ec, k⟩ := h
  obtain ⟨⟨r1, S1⟩, e1, ec⟩ := Option.bind_eq_some_iff.mp ec
  unfold asB at ec
  split at ec
  · rename_i b hb
    cases ec
    refine ⟨F, A, S, en, r1, S1, hs, he, e1, fun v H1 F1 A1 hs1 x1 p1 => ?_⟩
    have hb' : r1 = .d (.bl z) := hb
    subst hb'
    cases p1
    exact ⟨z, rfl, k H1 F1 A1 hs1 x1⟩
  · cases ec
theorem qCmp (ho : OpR X (compareOp cop) r) (hr : OpOk X.K r f) (ha : PE X a (tE X.K ca)) (hb : PE X b (tE X.K cb)) (hm : behindInMarks cop b = false) : PT X (.Compare a [cop] [b] pos) (tT X.K (cTst (cBin f ca cb))) :=
  (pt_cmpR ho ha hb hm).weak fun _ _ _ h => bin_ok hr (tst_ok h)
theorem qVal (h : PE X e (tE X.K c)) (he : ∀ whole, isTrue e X.env whole = (do let v ← whole; standAt e.pos; holding [v] (truthy v)) := by intro _; rfl) : PT X e (tT X.K (cTst c)) :=
  (pt_val h he).weak fun _ _ _ h => tst_ok h
/-- a < b < c -/
def cChain (f f' : F2) (ca cb cc : Cd) : Cd := fun en S => (ca en S).bind fun p => (cb en p.2).bind fun q => (f q.2 p.1 q.1).bind fun z => match z with
  | .d (.bl true) => (cc en q.2).bind fun w => (f' w.2 q.1 w.1).map fun z => (z, w.2)
  | .d (.bl false) => some (.d (.bl false), q.2)
  | _ => none
/-! ### and, or, not, if -/
def cAnd (ca cb : Cd) : Cd := fun en S => (ca en S).bind fun p => match p.1 with
  | .d (.bl true) => cb en p.2
  | .d (.bl false) => some (.d (.bl false), p.2)
  | _ => none
def cOr (ca cb : Cd) : Cd := fun en S => (ca en S).bind fun p => match p.1 with
  | .d (.bl false) => cb en p.2
  | .d (.bl true) => some (.d (.bl true), p.2)
  | _ => none
def cNot (ca : Cd) : Cd := fun en S => (ca en S).bind fun p => match p.1 with
  | .d (.bl b) => some (.d (.bl !b), p.2)
  | _ => none
def qqAnd (ca cb : CdB) : CdB := fun en S => (ca en S).bind fun p => if p.1 = true then cb en p.2 else some (false, p.2)
def qqOr (ca cb : CdB) : CdB := fun en S => (ca en S).bind fun p => if p.1 = true then some (true, p.2) else cb en p.2
def qqNot (ca : CdB) : CdB := fun en S => (ca en S).map fun p => (!p.1, p.2)
variable {rest : List Expr} {ka kb : CdB}
theorem oOne {o} (h : PE X a (tE X.K ca)) : PE X (.BoolOp o [a] pos) (tE X.K ca) := pe_one h
theorem oAnd (ha : PE X a (tE X.K ca)) (hb : PE X (.BoolOp .And (b :: rest) pos) (tE X.K cb)) : PE X (.BoolOp .And (a :: b :: rest) pos) (tE X.K (cAnd ca cb)) :=
  (pe_and ha hb).weak fun σ H Q ⟨F, A, S, en, z, S', hs, he, ec, k⟩ => by
    unfold cAnd at ec
    obtain ⟨⟨r1, S1⟩, e1, ec⟩ := Option.bind_eq_some_iff.mp ec
    refine ⟨F, A, S, en, r1, S1, hs, he, e1, fun v H1 F1 A1 hs1 x1 p1 => ?_⟩
    split at ec
    · rename_i hb; simp only at hb; subst hb; cases p1
      refine ⟨true, rfl, ?_⟩
      rw [if_pos rfl]
      exact ⟨F1, A1, S1, en, z, S', hs1, he.ext x1, ec, fun u H2 F2 A2 hs2 x2 p2 => k u H2 F2 A2 hs2 (x1.trans x2) p2⟩
    · rename_i hb; simp only at hb; subst hb; cases p1; cases ec
      refine ⟨false, rfl, ?_⟩
      rw [if_neg Bool.false_ne_true]
      exact k _ H1 F1 A1 hs1 x1 (.bl false)
    · cases ec
theorem oOr (ha : PE X a (tE X.K ca)) (hb : PE X (.BoolOp .Or (b :: rest) pos) (tE X.K cb)) : PE X (.BoolOp .Or (a :: b :: rest) pos) (tE X.K (cOr ca cb)) :=
  (pe_or ha hb).weak fun σ H Q ⟨F, A, S, en, z, S', hs, he, ec, k⟩ => by
    unfold cOr at ec
    obtain ⟨⟨r1, S1⟩, e1, ec⟩ := Option.bind_eq_some_iff.mp ec
    refine ⟨F, A, S, en, r1, S1, hs, he, e1, fun v H1 F1 A1 hs1 x1 p1 => ?_⟩
    split at ec
    · rename_i hb; simp only at hb; subst hb; cases p1
      refine ⟨false, rfl, ?_⟩
      rw [if_neg Bool.false_ne_true]
      exact ⟨F1, A1, S1, en, z, S', hs1, he.ext x1, ec, fun u H2 F2 A2 hs2 x2 p2 => k u H2 F2 A2 hs2 (x1.trans x2) p2⟩
    · rename_i hb; simp only at hb; subst hb; cases p1; cases ec
      refine ⟨true, rfl, ?_⟩
      rw [if_pos rfl]
      exact k _ H1 F1 A1 hs1 x1 (.bl true)
    · cases ec
theorem qOne1 (h : PT X a (tT X.K ka)) : PW X (.BoolOp .And [a] pos) (tT X.K ka) := pw_and1 h
theorem qOne2 (h : PT X a (tT X.K ka)) : PW X (.BoolOp .Or [a] pos) (tT X.K ka) := pw_or1 h
theorem qAnd (ha : PT X a (tT X.K ka)) (hb : PW X (.BoolOp .And (b :: rest) pos) (tT X.K kb)) : PW X (.BoolOp .And (a :: b :: rest) pos) (tT X.K (qqAnd ka kb)) :=
  (pw_and ha hb).weak fun σ H Q ⟨F, A, S, en, z, S', hs, he, ec, k⟩ => by
    unfold qqAnd at ec
    obtain ⟨⟨r1, S1⟩, e1, ec⟩ := Option.bind_eq_some_iff.mp ec
    refine ⟨F, A, S, en, r1, S1, hs, he, e1, fun H1 F1 A1 hs1 x1 => ?_⟩
    cases r1 with
    | true => exact ⟨F1, A1, S1, en, z, S', hs1, he.ext x1, ec, fun H2 F2 A2 hs2 x2 => k H2 F2 A2 hs2 (x1.trans x2)⟩
    | false => cases ec; exact k H1 F1 A1 hs1 x1
theorem qOr (ha : PT X a (tT X.K ka)) (hb : PW X (.BoolOp .Or (b :: rest) pos) (tT X.K kb)) : PW X (.BoolOp .Or (a :: b :: rest) pos) (tT X.K (qqOr ka kb)) :=
  (pw_or ha hb).weak fun σ H Q ⟨F, A, S, en, z, S', hs, he, ec, k⟩ => by
    unfold qqOr at ec
    obtain ⟨⟨r1, S1⟩, e1, ec⟩ := Option.bind_eq_some_iff.mp ec
    refine ⟨F, A, S, en, r1, S1, hs, he, e1, fun H1 F1 A1 hs1 x1 => ?_⟩
    cases r1 with
    | false => exact ⟨F1, A1, S1, en, z, S', hs1, he.ext x1, ec, fun H2 F2 A2 hs2 x2 => k H2 F2 A2 hs2 (x1.trans x2)⟩
    | true => cases ec; exact k H1 F1 A1 hs1 x1
theorem qNot (ha : PT X a (tT X.K ka)) : PT X (.UnaryOp .Not a pos) (tT X.K (qqNot ka)) :=
  (pt_not ha).weak fun σ H Q ⟨F, A, S, en, z, S', hs, he, ec, k⟩ => by
    unfold qqNot at ec
    obtain ⟨⟨r1, S1⟩, e1, ec⟩ := Option.map_eq_some_iff.mp ec
    cases ec
    exact ⟨F, A, S, en, r1, S1, hs, he, e1, fun H1 F1 A1 hs1 x1 => k H1 F1 A1 hs1 x1⟩
def cIf (t : CdB) (ca cb : Cd) : Cd := fun en S => (t en S).bind fun p => if p.1 = true then ca en p.2 else cb en p.2
theorem oIf {t : Expr} (ht : PT X t (tT X.K ka)) (ha : PE X a (tE X.K ca)) (hb : PE X b (tE X.K cb)) : PE X (.IfExp t a b pos) (tE X.K (cIf ka ca cb)) :=
  (pe_ifExp ht ha hb).weak fun σ H Q ⟨F, A, S, en, z, S', hs, he, ec, k⟩ => by
    unfold cIf at ec
    obtain ⟨⟨r1, S1⟩, e1, ec⟩ := Option.bind_eq_some_iff.mp ec
    refine ⟨F, A, S, en, r1, S1, hs, he, e1, fun H1 F1 A1 hs1 x1 => ?_⟩
    cases r1 with
    | true => exact ⟨F1, A1, S1, en, z, S', hs1, he.ext x1, ec, fun v H2 F2 A2 hs2 x2 => k v H2 F2 A2 hs2 (x1.trans x2)⟩
    | false => exact ⟨F1, A1, S1, en, z, S', hs1, he.ext x1, ec, fun v H2 F2 A2 hs2 x2 => k v H2 F2 A2 hs2 (x1.trans x2)⟩
/-! ### calls by values -/
abbrev FL := Ss → List R → Option R
def CallOk (K : PySem.W.Frag) (r : List V → Hp → VK → Prop) (f : FL) : Prop := ∀ F A H S xs rs z Q, HSt K F A H S → RpRs K F A xs rs → f S rs = some z →
  (∀ v H' F' A', HSt K F' A' H' S → Ext F A H F' A' H' → RpR K F' A' v z → Q v H') → r xs H Q
def cApp (f : FL) (cl : CdL) : Cd := fun en S => (cl en S).bind fun p => (f p.2 p.1).map fun z => (z, p.2)
variable {rr : List V → Hp → VK → Prop} {ff : FL} {id T : String} {x : Str} {p : Pos}
theorem app_ok (hr : CallOk X.K rr ff) {σ H Q} (h : tE X.K (cApp ff cl) σ H Q) : tCB rr (tEs X.K cl) σ H Q := by
  obtain ⟨F, A, S, en, z, S', hs, he, ec, k⟩ := h
  unfold cApp at ec
  obtain ⟨⟨r1, S1⟩, e1, ec⟩ := Option.bind_eq_some_iff.mp ec
  obtain ⟨z', e3, ec⟩ := Option.map_eq_some_iff.mp ec
  cases ec
  exact ⟨F, A, S, en, r1, S1, hs, he, e1, fun v H1 F1 A1 hs1 x1 p1 => hr F1 A1 H1 S1 v r1 z Q hs1 p1 e3 fun w H3 F3 A3 hs3 x3 p3 => k w H3 F3 A3 hs3 (x1.trans x3) p3⟩
theorem oCallB (hc : CallR X (.builtin id) rr) (hr : CallOk X.K rr ff) (hg : Gl X x) (hm : X.mg x = none) (hv : bootBuiltins x = some (.builtin id)) (ha : PA X (e :: es) (tEs X.K cl)) (hn : x ≠ "__name__" := by decide) (hdb : (x == ("__debug__" : Str)) = false := by decide)
    (he : starEach (e :: es) X.env = (false, eval e X.env) :: starEach es X.env := by rfl) (hpl : (backTo pos (starEach es X.env)).any (·.1) = false := by rfl) : PE X (.Call (.Name x p) (e :: es) [] pos) (tE X.K (cApp ff cl)) :=
  (pe_callB hc hg hm hv ha hn hdb he hpl).weak fun _ _ _ h => app_ok hr h
theorem oCallT (hc : CallR X (.type T) rr) (hr : CallOk X.K rr ff) (hg : Gl X x) (hm : X.mg x = none) (hv : bootBuiltins x = some (.type T)) (ha : PA X (e :: es) (tEs X.K cl)) (hn : x ≠ "__name__" := by decide) (hdb : (x == ("__debug__" : Str)) = false := by decide)
    (he : starEach (e :: es) X.env = (false, eval e X.env) :: starEach es X.env := by rfl) (hpl : (backTo pos (starEach es X.env)).any (·.1) = false := by rfl) : PE X (.Call (.Name x p) (e :: es) [] pos) (tE X.K (cApp ff cl)) :=
  (pe_callTy hc hg hm hv ha hn hdb he hpl).weak fun _ _ _ h => app_ok hr h
/-! ### defs of the text -/
abbrev Fn := List R → Ss → Option (R × Ss)
def spF (K : PySem.W.Frag) (n : Nat) (f : Fn) : Sp := fun vs H Q _ => vs.length = n ∧ ∃ F A S rs r S', HSt K F A H S ∧ RpRs K F A vs rs ∧ f rs S = some (r, S') ∧
  ∀ v H' F' A', HSt K F' A' H' S' → Ext F A H F' A' H' → RpR K F' A' v r → Q v H'
def cCall (f : Fn) (cl : CdL) : Cd := fun en S => (cl en S).bind fun p => f p.1 p.2
theorem oCall {n k : Nat} {g : Addr} {fd : FuncData} {ps : List Str} {f : Fn} (G : FnOk X.prog X.w X.K X.mg X.base CX0 k g fd ps (spF X.K n f)) (hr : Room k X.A) (hg : Gl X x) (hm : X.mg x = some (.ref g)) (hk : PySem.W.keepIn X.K (.ref g) = true) (hb : Binds X.K fd ps [])
    (ha : PA X (e :: es) (tEs X.K cl)) (hn : ∀ en S rs S', cl en S = some (rs, S') → rs.length = n) (hdb : (x == ("__debug__" : Str)) = false := by decide) (he : starEach (e :: es) X.env = (false, eval e X.env) :: starEach es X.env := by rfl) (hpl : (backTo pos (starEach es X.env)).any (·.1) = false := by rfl) :
    PE X (.Call (.Name x p) (e :: es) [] pos) (tE X.K (cCall f cl)) :=
  (pe_call G hr hg hm hk hb .nil (pass0) ha hdb he hpl).weak fun σ H Q ⟨F, A, S, en, z, S', hs, he, ec, k⟩ => by
    unfold cCall at ec
    obtain ⟨⟨r1, S1⟩, e1, ec⟩ := Option.bind_eq_some_iff.mp ec
    refine ⟨F, A, S, en, r1, S1, hs, he, e1, fun v H1 F1 A1 hs1 x1 p1 => ?_⟩
    dsimp only
    rw [List.append_nil]
    exact ⟨by rw [p1.length]; exact hn _ _ _ _ e1, F1, A1, S1, r1, z, S', hs1, p1, ec, fun w H3 F3 A3 hs3 x3 p3 => k w H3 F3 A3 hs3 (x1.trans x3) p3⟩
theorem len_nil {en S rs S'} (h : cNil en S = some (rs, S')) : rs.length = 0 := by cases h; rfl
theorem len_cons {c : Cd} {cl : CdL} {n : Nat} (h : ∀ en S rs S', cl en S = some (rs, S') → rs.length = n) : ∀ en S rs S', cCons c cl en S = some (rs, S') → rs.length = n + 1 := fun en S rs S' ec => by
  unfold cCons at ec
  obtain ⟨⟨r1, S1⟩, e1, ec⟩ := Option.bind_eq_some_iff.mp ec
  obtain ⟨⟨r2, S2⟩, e2, ec⟩ := Option.map_eq_some_iff.mp ec
  cases ec
  simp [h _ _ _ _ e2]
end
/-! ### statements -/
section
variable {X : Cx} {e a b : Expr} {es : List Expr} {c ca cb cc : Cd} {cl : CdL} {pos : Pos} {st : Stmt} {rest : List Stmt} {c1 c2 : CdS} {ka : CdB}
def sNil : CdS := fun en S => some (.nx, en, S)
def sCons (c1 c2 : CdS) : CdS := fun en S => (c1 en S).bind fun p => match p.1 with
  | .nx => c2 p.2.1 p.2.2
  | _ => some p
theorem zNil : PSs X [] (tS X.K sNil) := pss_nil.weak fun D σ H ⟨F, A, S, en, fl, en', S', hs, he, ec, k⟩ => by
  cases ec
  exact k σ H F A hs .rfl' he
theorem zCons (h1 : PS X st (tS X.K c1)) (h2 : PSs X rest (tS X.K c2)) : PSs X (st :: rest) (tS X.K (sCons c1 c2)) := (pss_cons h1 h2).weak fun D σ H ⟨F, A, S, en, fl, en', S', hs, he, ec, k⟩ => by
  unfold sCons at ec
  obtain ⟨⟨fl1, en1, S1⟩, e1, ec⟩ := Option.bind_eq_some_iff.mp ec
  refine ⟨F, A, S, en, fl1, en1, S1, hs, he, e1, ?_⟩
  cases fl1 with
  | nx =>
    intro σ1 H1 F1 A1 hs1 x1 he1
    refine ⟨F1, A1, S1, en1, fl, en', S', hs1, he1, ec, ?_⟩
    cases fl with
    | nx => exact fun σ2 H2 F2 A2 hs2 x2 he2 => k σ2 H2 F2 A2 hs2 (x1.trans x2) he2
    | ret r => exact fun v H2 F2 A2 hs2 x2 he2 => k v H2 F2 A2 hs2 (x1.trans x2) he2
    | bk => exact fun σ2 H2 F2 A2 hs2 x2 he2 => k σ2 H2 F2 A2 hs2 (x1.trans x2) he2
    | ct => exact fun σ2 H2 F2 A2 hs2 x2 he2 => k σ2 H2 F2 A2 hs2 (x1.trans x2) he2
  | ret r => cases ec; exact k
  | bk => cases ec; exact k
  | ct => cases ec; exact k
def sSet (i : Nat) (c : Cd) : CdS := fun en S => (c en S).map fun p => (.nx, en.set i (some p.1), p.2)
theorem zSet {i : Nat} {x : Str} {pos' : Pos} (hN : X.N.Nodup) (hi : X.N[i]? = some x) (hx : Loc X.env.scope x) (he : PE X e (tE X.K c)) (hs : swapsWith e (some (.Name x pos')) pos.line X.env = pure false := by rfl) (hf : X.fn x = true ∨ X.env.scope.names.lookup x = some .local := by first | exact .inl rfl | exact .inr rfl | assumption) :
    PS X (.Assign [.Name x pos'] e pos) (tS X.K (sSet i c)) := (ps_set hN hi hx he hs hf).weak fun D σ H ⟨F, A, S, en, fl, en', S', hs, he, ec, k⟩ => by
  unfold sSet at ec
  obtain ⟨⟨r1, S1⟩, e1, ec⟩ := Option.map_eq_some_iff.mp ec
  cases ec
  exact ⟨F, A, S, en, r1, S1, hs, he, e1, fun v H1 F1 A1 hs1 x1 p1 => k _ H1 F1 A1 hs1 x1 ((he.ext x1).set i p1)⟩
def sRet (c : Cd) : CdS := fun en S => (c en S).map fun p => (.ret p.1, en, p.2)
theorem zRet (he : PE X e (tE X.K c)) : PS X (.Return (some e) pos) (tS X.K (sRet c)) := (ps_ret he).weak fun D σ H ⟨F, A, S, en, fl, en', S', hs, he, ec, k⟩ => by
  unfold sRet at ec
  obtain ⟨⟨r1, S1⟩, e1, ec⟩ := Option.map_eq_some_iff.mp ec
  cases ec
  exact ⟨F, A, S, en, r1, S1, hs, he, e1, k⟩
def sExpr (c : Cd) : CdS := fun en S => (c en S).map fun p => (.nx, en, p.2)
theorem zExpr (he : PE X e (tE X.K c)) (hs : swapsWith e none pos.line X.env = pure false := by rfl) : PS X (.Expr e pos) (tS X.K (sExpr c)) := (ps_expr he hs).weak fun D σ H ⟨F, A, S, en, fl, en', S', hs, he, ec, k⟩ => by
  unfold sExpr at ec
  obtain ⟨⟨r1, S1⟩, e1, ec⟩ := Option.map_eq_some_iff.mp ec
  cases ec
  exact ⟨F, A, S, en, r1, S1, hs, he, e1, fun v H1 F1 A1 hs1 x1 p1 => k σ H1 F1 A1 hs1 x1 (he.ext x1)⟩
def sIf (t : CdB) (c1 c2 : CdS) : CdS := fun en S => (t en S).bind fun p => if p.1 = true then c1 en p.2 else c2 en p.2
theorem zIf {sa sb : List Stmt} (ht : PT X e (tT X.K ka)) (ha : PSs X sa (tS X.K c1)) (hb : PSs X sb (tS X.K c2)) : PS X (.If e sa sb pos) (tS X.K (sIf ka c1 c2)) :=
  (ps_if ht ha hb).weak fun D σ H ⟨F, A, S, en, fl, en', S', hs, he, ec, k⟩ => by
    unfold sIf at ec
    obtain ⟨⟨r1, S1⟩, e1, ec⟩ := Option.bind_eq_some_iff.mp ec
    refine ⟨F, A, S, en, r1, S1, hs, he, e1, fun H1 F1 A1 hs1 x1 => ?_⟩
    have fin : ∀ c, c en S1 = some (fl, en', S') → tS X.K c D σ H1 := fun c ec => by
      refine ⟨F1, A1, S1, en, fl, en', S', hs1, he.ext x1, ec, ?_⟩
      cases fl with
      | nx => exact fun σ2 H2 F2 A2 hs2 x2 he2 => k σ2 H2 F2 A2 hs2 (x1.trans x2) he2
      | ret r => exact fun v H2 F2 A2 hs2 x2 he2 => k v H2 F2 A2 hs2 (x1.trans x2) he2
      | bk => exact fun σ2 H2 F2 A2 hs2 x2 he2 => k σ2 H2 F2 A2 hs2 (x1.trans x2) he2
      | ct => exact fun σ2 H2 F2 A2 hs2 x2 he2 => k σ2 H2 F2 A2 hs2 (x1.trans x2) he2
    cases r1 with
    | true => exact fin _ ec
    | false => exact fin _ ec
/-! ### while -/
def whileN : Nat → CdB → CdS → CdS
  | 0, _, _ => fun _ _ => none
  | n + 1, t, c => fun en S => (t en S).bind fun p => if p.1 = true then (c en p.2).bind fun q => match q.1 with
      | .nx => whileN n t c q.2.1 q.2.2
      | .ct => whileN n t c q.2.1 q.2.2
      | .bk => some (.nx, q.2.1, q.2.2)
      | .ret r => some (.ret r, q.2.1, q.2.2)
    else some (.nx, en, p.2)
theorem zWhile {body : List Stmt} (n : Nat) (hp : PassesOwn (model X.prog X.w) X.A X.env X.xe) (ht : PT X e (tT X.K ka)) (hb : PSs X body (tS X.K c1)) : PS X (.While e body [] pos) (tS X.K (whileN n ka c1)) :=
  (ps_while hp ht hb).weak fun D σ H ⟨F, A, S, en, fl, en', S', hs, he, ec, k⟩ => by
    refine ⟨fun m σ1 H1 => ∃ F1 A1 S1 en1, HSt X.K F1 A1 H1 S1 ∧ Ext F A H F1 A1 H1 ∧ EnvR X.K F1 A1 σ1 en1 ∧ whileN m ka c1 en1 S1 = some (fl, en', S'), ⟨n, F, A, S, en, hs, .rfl', he, ec⟩, ?_⟩
    rintro m σ1 H1 ⟨F1, A1, S1, en1, hs1, x1, he1, ec1⟩
    cases m with
    | zero => cases ec1
    | succ m =>
      unfold whileN at ec1
      obtain ⟨⟨b, S2⟩, e2, ec2⟩ := Option.bind_eq_some_iff.mp ec1
      refine ⟨F1, A1, S1, en1, b, S2, hs1, he1, e2, fun H2 F2 A2 hs2 x2 => ?_⟩
      cases b with
      | false =>
        rw [if_neg Bool.false_ne_true] at ec2 ⊢
        cases ec2
        exact k σ1 H2 F2 A2 hs2 (x1.trans x2) (he1.ext x2)
      | true =>
        rw [if_pos rfl] at ec2 ⊢
        obtain ⟨⟨fl3, en3, S3⟩, e3, ec3⟩ := Option.bind_eq_some_iff.mp ec2
        refine ⟨fun σ' H' => ∃ m', m' < m + 1 ∧ ∃ F1 A1 S1 en1, HSt X.K F1 A1 H' S1 ∧ Ext F A H F1 A1 H' ∧ EnvR X.K F1 A1 σ' en1 ∧ whileN m' ka c1 en1 S1 = some (fl, en', S'), fun σ' H' h => h, F2, A2, S2, en1, fl3, en3, S3, hs2, he1.ext x2, e3, ?_⟩
        cases fl3 with
        | nx => exact fun σ4 H4 F4 A4 hs4 x4 he4 => ⟨m, Nat.lt_succ_self m, F4, A4, S3, en3, hs4, (x1.trans x2).trans x4, he4, ec3⟩
        | ct => exact fun σ4 H4 F4 A4 hs4 x4 he4 => ⟨m, Nat.lt_succ_self m, F4, A4, S3, en3, hs4, (x1.trans x2).trans x4, he4, ec3⟩
        | bk => cases ec3; exact fun σ4 H4 F4 A4 hs4 x4 he4 => k σ4 H4 F4 A4 hs4 ((x1.trans x2).trans x4) he4
        | ret r => cases ec3; exact fun σ4 H4 F4 A4 hs4 x4 he4 => k σ4 H4 F4 A4 hs4 ((x1.trans x2).trans x4) he4
end
/-! ### a def's body -/
/-- what is handed back: data, or a cell of the caller's; with keep, one new cell -/
def finish (keep : Bool) (n : Nat) (r : R) (S : Ss) : Option (R × Ss) := match r with
  | .d x => some (.d x, S.take n)
  | .s ns => some (.s ns, S.take n)
  | .c k => if k < n then some (.c k, S.take n) else if keep = true then (S[k]?).map fun o => (.c n, S.take n ++ [o]) else none
def runF (N : Nat) (keep : Bool) (c : CdS) : Fn := fun rs S => (c (rs.map some ++ List.replicate (N - rs.length) none) S).bind fun p => match p.1 with
  | .ret r => finish keep S.length r p.2.2
  | .nx => finish keep S.length (.d .non) p.2.2
  | _ => none
section
variable {K : PySem.W.Frag} {F F' : Hp} {A A' : List Addr} {H H' : Hp} {S S' : Ss} {v : V} {r r' : R}
theorem Paired.takeP {α β : Type} {G : α → β → Prop} : ∀ {l : List α} {m : List β} (n : Nat), Paired G l m → Paired G (l.take n) (m.take n)
  | _, _, 0, _ => .nil
  | _, _, _ + 1, .nil => .nil
  | _, _, n + 1, .cons r t => .cons r (Paired.takeP n t)
theorem HSt.cut (h : HSt K F' A' H' S') (x : Ext F A H F' A' H') (hl : A.length = S.length) : HSt K F' A H' (S'.take S.length) ∧ Ext F A H F' A H' := by
  obtain ⟨B, rfl, hB⟩ := x.pre
  have e : (A ++ B).take S.length = A := by rw [← hl]; simp
  refine ⟨⟨h.sub, ?_, ?_⟩, x.ge, ⟨[], by simp, by simp⟩, x.frame, x.newF, x.mon⟩
  · exact (List.nodup_append.mp h.nd).1
  · have q := Paired.takeP S.length h.cells
    rw [e] at q
    exact q
theorem finish_ok {keep : Bool} {S2 : Ss} (h : HSt K F' A' H' S') (x : Ext F A H F' A' H') (hl : A.length = S.length) (q : RpR K F' A' v r) (ef : finish keep S.length r S' = some (r', S2)) :
    ∃ A2, HSt K F' A2 H' S2 ∧ Ext F A H F' A2 H' ∧ RpR K F' A2 v r' := by
  obtain ⟨h1, x1⟩ := h.cut x hl
  cases r with
  | d z => cases ef; exact ⟨A, h1, x1, q⟩
  | s ns => cases ef; exact ⟨A, h1, x1, q⟩
  | c k =>
    obtain ⟨a, ea, rfl⟩ := q
    unfold finish at ef
    obtain ⟨B, eB, hB⟩ := x.pre
    simp only at ef
    split at ef
    · rename_i hk
      cases ef
      refine ⟨A, h1, x1, a, ?_, rfl⟩
      rw [eB, List.getElem?_append_left (by omega)] at ea
      exact ea
    · rename_i hk
      split at ef
      · obtain ⟨o, eo, ef⟩ := Option.map_eq_some_iff.mp ef
        cases ef
        obtain ⟨a', ea', hc⟩ := Paired.getR h.cells eo
        rw [ea] at ea'; cases ea'
        have hb : a ∈ B := by
          rw [eB, List.getElem?_append_right (by omega)] at ea
          exact List.mem_of_getElem? ea
        refine ⟨A ++ [a], ⟨h1.sub, ?_, Paired.appendP h1.cells (.cons hc .nil)⟩, ⟨x1.ge, ⟨[a], rfl, by simpa using hB a hb⟩, x1.frame, x1.newF, x1.mon⟩, a, ?_, rfl⟩
        · rw [List.nodup_append]
          refine ⟨h1.nd, by simp, fun b hb' c hc' => ?_⟩
          have : c = a := by simpa using hc'
          subst this
          have nd := h.nd
          rw [eB, List.nodup_append] at nd
          exact nd.2.2 b hb' c hb
        · rw [← hl]; simp
      · cases ef
end
theorem env_start {K : PySem.W.Frag} {F : Hp} {A : List Addr} : ∀ {vs : List V} {rs : List R}, RpRs K F A vs rs → ∀ m : Nat, EnvR K F A (vs.map some ++ List.replicate m none) (rs.map some ++ List.replicate m none)
  | _, _, .nil, m => ⟨by simp, fun i r e => by
      simp only [List.map_nil, List.nil_append, List.getElem?_replicate] at e
      split at e <;> cases e⟩
  | _, _, .cons h t, m => by
    have ih := env_start t m
    refine ⟨by simp at ih ⊢; have := t.length; omega, fun i r e => ?_⟩
    cases i with
    | zero => simp at e; subst e; exact ⟨_, rfl, h⟩
    | succ i => exact ih.2 i r (by simpa using e)
theorem mkFn {P : Program} {w : World} {K : PySem.W.Frag} {mg : Str → Option Value} {base : Heap} {x qual : Str} {st : Stmt} {f : Addr} {fd : FuncData} {N ps : List Str} {k : Nat} (G : Fun K x qual st f fd) (S : FnScope N ps (defScope st)) (keep : Bool) {c : CdS}
    (body : ∀ (cdv : Value) (A : Around) (outer : List PySem.Env) (s : Shared) (H : Hp) (E : XK), Room k (A.deeper (envOfC qual (defScope st) s.heap.objs.size f cdv)) → PSs (cxOf CX0 P w K mg base N qual (defScope st) f cdv A outer s H E).nox (defBody st) (tS K c)) :
    FnOk P w K mg base CX0 (k + 1) f fd ps (spF K ps.length (runF N.length keep c)) :=
  G.ok S (fun vs H Q E h => h.1) fun cdv A outer s H vs Q E hr h => by
    obtain ⟨hl, F, A', S', rs, r, S'', hs, hp, ef, k⟩ := h
    refine ⟨_, body cdv A outer s H E hr, ?_⟩
    unfold runF at ef
    obtain ⟨⟨fl, en1, S1⟩, e1, ef⟩ := Option.bind_eq_some_iff.mp ef
    refine ⟨F, A', S', _, fl, en1, S1, hs, ?_, e1, ?_⟩
    · have := env_start hp (N.length - vs.length)
      unfold L2.start
      rw [← hp.length]
      exact this
    · cases fl with
      | nx =>
        intro σ' H' F' A2 hs2 x2 he2
        obtain ⟨A3, h3, x3, p3⟩ := finish_ok (v := .non) (r := .d .non) hs2 x2 hs.len Rp.non ef
        exact k _ _ _ _ h3 x3 p3
      | ret r1 =>
        intro v H' F' A2 hs2 x2 p2
        obtain ⟨A3, h3, x3, p3⟩ := finish_ok hs2 x2 hs.len p2 ef
        exact k _ _ _ _ h3 x3 p3
      | bk => cases ef
      | ct => cases ef
end OA
namespace OA
open PySem PySem.Spec PyProof.Rows L2
/-! ### targets -/
abbrev CdG := R → En → Option En
abbrev CdGs := List Dt → En → Option En
/-- all slots but those at us are kept -/
def Chg (us : List Nat) (σ σ' : L2.St) : Prop := σ'.length = σ.length ∧ ∀ i, i ∉ us → σ'[i]? = σ[i]?
def tG (K : PySem.W.Frag) (us : List Nat) (c : CdG) : TG := fun v σ H Q => ∃ F A S en r en', HSt K F A H S ∧ EnvR K F A σ en ∧ RpR K F A v r ∧ c r en = some en' ∧ ∀ σ', EnvR K F A σ' en' → Chg us σ σ' → Q σ' H
def tGs (K : PySem.W.Frag) (us : List Nat) (c : CdGs) : TGs := fun vs σ H Q => ∃ F A S en ds en', HSt K F A H S ∧ EnvR K F A σ en ∧ Rps K F vs ds ∧ c ds en = some en' ∧ ∀ σ', EnvR K F A σ' en' → Chg us σ σ' → Q σ' H
theorem _root_.L2.PG.weak {X : Cx} {e : Expr} {t t' : TG} (h : PG X e t) (w : ∀ v σ H Q, t' v σ H Q → t v σ H Q) : PG X e t' := ⟨fun pins s σ H v u Q I r q => h.run pins s σ H v u Q I r (w v σ H Q q)⟩
theorem _root_.L2.PGs.weak {X : Cx} {e : List Expr} {t t' : TGs} (h : PGs X e t) (w : ∀ v σ H Q, t' v σ H Q → t v σ H Q) : PGs X e t' := ⟨fun pins s σ H v u Q I r q => h.run pins s σ H v u Q I r (w v σ H Q q)⟩
def gNm (i : Nat) : CdG := fun r en => some (en.set i (some r))
def gNil' : CdGs := fun ds en => match ds with | [] => some en | _ => none
def gCons' (c : CdG) (cs : CdGs) : CdGs := fun ds en => match ds with | d :: ds => (c (.d d) en).bind (cs ds) | [] => none
def gTp (cs : CdGs) : CdG := fun r en => match r with | .d x => (tupV x).bind fun ds => cs ds en | _ => none
section
variable {X : Cx} {pos : Pos}
theorem gNameOk {i : Nat} {x : Str} (hN : X.N.Nodup) (hi : X.N[i]? = some x) (hx : Loc X.env.scope x) (hf : X.fn x = true ∨ X.env.scope.names.lookup x = some .local := by first | exact .inl rfl | exact .inr rfl | assumption) : PG X (.Name x pos) (tG X.K [i] (gNm i)) :=
  (pg_name hN hi hx hf).weak fun v σ H Q ⟨F, A, S, en, r, en', hs, he, hr, ec, k⟩ => by
    cases ec
    exact k _ (he.set i hr) ⟨by simp, fun j hj => List.getElem?_set_ne (fun e => hj (by simp [e]))⟩
theorem gsNil : PGs X [] (tGs X.K [] gNil') := pgs_nil.weak fun vs σ H Q ⟨F, A, S, en, ds, en', hs, he, hr, ec, k⟩ => by
  cases hr with
  | nil => cases ec; exact ⟨rfl, k _ he ⟨rfl, fun _ _ => rfl⟩⟩
  | cons _ _ => cases ec
theorem gsCons {e : Expr} {es : List Expr} {us vs : List Nat} {c : CdG} {cs : CdGs} (h1 : PG X e (tG X.K us c)) (h2 : PGs X es (tGs X.K vs cs))
    (hs : (assignEach (e :: es) X.env).map (·.2) = assign e X.env :: (assignEach es X.env).map (·.2) := by rfl) : PGs X (e :: es) (tGs X.K (us ++ vs) (gCons' c cs)) :=
  (pgs_cons h1 h2 hs).weak fun ws σ H Q ⟨F, A, S, en, ds, en', hs, he, hr, ec, k⟩ => by
    cases hr with
    | nil => cases ec
    | cons hv ht =>
      obtain ⟨en1, e1, e2⟩ := Option.bind_eq_some_iff.mp ec
      refine ⟨_, _, rfl, F, A, S, en, .d _, en1, hs, he, hv, e1, fun σ1 he1 ch1 => ⟨F, A, S, en1, _, en', hs, he1, ht, e2, fun σ2 he2 ch2 => k σ2 he2 ⟨ch2.1.trans ch1.1, fun i hi => ?_⟩⟩⟩
      have hi' : i ∉ us ∧ i ∉ vs := by simpa [not_or] using hi
      exact (ch2.2 i hi'.2).trans (ch1.2 i hi'.1)
theorem gTuple {es : List Expr} {k : Nat} {us : List Nat} {cs : CdGs} {n : Nat} (hc : X.calm = true) (h : PGs X es (tGs X.K us cs)) (hl : ∀ ds en en', cs ds en = some en' → ds.length = n)
    (hn : (assignEach es X.env).length = n := by rfl) (hst : (assignEach es X.env).findIdx? (·.1) = none := by rfl) : PG X (.Tuple es k pos) (tG X.K us (gTp cs)) :=
  (pg_tup hc h hn hst).weak fun v σ H Q ⟨F, A, S, en, r, en', hs, he, hr, ec, k⟩ => by
    unfold gTp at ec
    split at ec
    · obtain ⟨ds, et, ec⟩ := Option.bind_eq_some_iff.mp ec
      obtain ⟨a, xs, rfl, hq, hx⟩ := hs.rdT (S := S) hr rfl et
      exact ⟨a, xs, rfl, hq, by rw [hx.length]; exact hl _ _ _ ec, F, A, S, en, ds, en', hs, he, hx, ec, k⟩
    · cases ec
theorem glen0 : ∀ ds en en', gNil' ds en = some en' → ds.length = 0 := fun ds en en' h => by
  cases ds with
  | nil => rfl
  | cons _ _ => cases h
theorem glen1 {c : CdG} {cs : CdGs} {n : Nat} (h : ∀ ds en en', cs ds en = some en' → ds.length = n) : ∀ ds en en', gCons' c cs ds en = some en' → ds.length = n + 1 := fun ds en en' e => by
  cases ds with
  | nil => cases e
  | cons d ds =>
    obtain ⟨en1, e1, e2⟩ := Option.bind_eq_some_iff.mp e
    simp [h _ _ _ e2]
/-- target = value -/
def sAsg (g : CdG) (c : Cd) : CdS := fun en S => (c en S).bind fun p => (g p.1 en).map fun en' => (.nx, en', p.2)
theorem zAsg {tg e : Expr} {c : Cd} {us : List Nat} {g : CdG} (he : PE X e (tE X.K c)) (hg : PG X tg (tG X.K us g)) (hs : swapsWithSole [tg] e pos.line X.env = pure false := by rfl) (hw : swappedStores [tg] e X.env = pure none := by rfl)
    (h1 : (assignEach [tg] X.env).map (·.2) = [assign tg X.env] := by rfl) : PS X (.Assign [tg] e pos) (tS X.K (sAsg g c)) :=
  (ps_asg he hg hs hw h1).weak fun D σ H ⟨F, A, S, en, fl, en', S', hs, he, ec, k⟩ => by
    obtain ⟨⟨r1, S1⟩, e1, ec⟩ := Option.bind_eq_some_iff.mp ec
    obtain ⟨en1, e2, ec⟩ := Option.map_eq_some_iff.mp ec
    cases ec
    exact ⟨F, A, S, en, r1, S1, hs, he, e1, fun v H1 F1 A1 hs1 x1 p1 => ⟨F1, A1, S1, en, r1, en', hs1, he.ext x1, p1, e2, fun σ' he' _ => k σ' H1 F1 A1 hs1 x1 he'⟩⟩
/-- a, b = x, y -/
def sPar (i j : Nat) (ca cb : Cd) : CdS := fun en S => (ca en S).bind fun p => (cb en p.2).map fun q => (.nx, (en.set i (some p.1)).set j (some q.1), q.2)
theorem zPar {i j : Nat} {x y : Str} {a b : Expr} {ca cb : Cd} {px py pt : Pos} {kt k2 pt2} (hc : X.calm = true) (hN : X.N.Nodup) (hi : X.N[i]? = some x) (hj : X.N[j]? = some y) (hij : i ≠ j)
    (hx : X.env.scope.names.lookup x = some .local) (hy : X.env.scope.names.lookup y = some .local) (ha : PA X [a, b] (tEs X.K (cCons ca (cCons cb cNil)))) (hs : swappedStores [.Tuple [.Name x px, .Name y py] kt pt] (.Tuple [a, b] k2 pt2) X.env = pure (some [x, y]))
    (hs2 : swapsWithSole [.Tuple [.Name x px, .Name y py] kt pt] (.Tuple [a, b] k2 pt2) pos.line X.env = pure false := by rfl) :
    PS X (.Assign [.Tuple [.Name x px, .Name y py] kt pt] (.Tuple [a, b] k2 pt2) pos) (tS X.K (sPar i j ca cb)) :=
  (ps_par hc hN hi hj hij hx hy ha hs hs2).weak fun D σ H ⟨F, A, S, en, fl, en', S', hs, he, ec, k⟩ => by
    obtain ⟨⟨r1, S1⟩, e1, ec⟩ := Option.bind_eq_some_iff.mp ec
    obtain ⟨⟨r2, S2⟩, e2, ec⟩ := Option.map_eq_some_iff.mp ec
    cases ec
    refine ⟨F, A, S, en, [r1, r2], S2, hs, he, ?_, fun vs H1 F1 A1 hs1 x1 p1 => ?_⟩
    · unfold cCons cNil
      simp [e1, e2]
    · cases p1 with
      | cons q1 t =>
        cases t with
        | cons q2 t =>
          cases t
          exact ⟨_, _, rfl, k _ H1 F1 A1 hs1 x1 (((he.ext x1).set i q1).set j q2)⟩
end
/-! ### what is walked -/
abbrev CdI := En → Ss → Option (List Dt × Ss)
def Walks (K : PySem.W.Frag) (F : Hp) (J : It) (ds : List Dt) : Prop := ∀ (F2 : Hp) (A2 : List Addr) (H2 : Hp) (S2 : Ss), Ge F F2 → HSt K F2 A2 H2 S2 → ∀ i : Nat,
  (∀ d, ds[i]? = some d → J.go i H2 ∧ ∀ x H3, J.yld i H2 x H3 → ∃ F3, HSt K F3 A2 H3 S2 ∧ Ext F2 A2 H2 F3 A2 H3 ∧ Rp K F3 x d) ∧ (ds[i]? = none → J.stop i H2)
def tI (K : PySem.W.Frag) (c : CdI) : TI := fun σ H R => ∃ F A S en ds S', HSt K F A H S ∧ EnvR K F A σ en ∧ c en S = some (ds, S') ∧
  ∀ J H' F' A', HSt K F' A' H' S' → Ext F A H F' A' H' → Walks K F' J ds → ds.length ≤ sizeLine → R J H'
theorem _root_.L2.PI.weak {X : Cx} {tg e : Expr} {t t' : TI} (h : PI X tg e t) (w : ∀ σ H Q, t' σ H Q → t σ H Q) : PI X tg e t' := ⟨fun pins s σ H R I q => h.run pins s σ H R I (w σ H R q)⟩
theorem Rps.at {K : PySem.W.Frag} {F : Hp} {vs : List V} {ds : List Dt} (h : Rps K F vs ds) {i : Nat} {d : Dt} (e : ds[i]? = some d) : ∃ v, vs[i]? = some v ∧ Rp K F v d := h.get e
theorem Rps.out {K : PySem.W.Frag} {F : Hp} {vs : List V} {ds : List Dt} (h : Rps K F vs ds) {i : Nat} (e : ds[i]? = none) : vs.length ≤ i := by
  rw [h.length]; exact List.getElem?_eq_none_iff.mp e
theorem walks_list {K : PySem.W.Frag} {F : Hp} {a : Addr} {xs : List V} {ds : List Dt} (e : F a = some (.lst xs)) (h : Rps K F xs ds) : Walks K F (Itl K a) ds := fun F2 A2 H2 S2 g hs i => by
  have q : SqL K H2 a xs := .inl (.inl (hs.sub _ _ (g _ _ e)))
  refine ⟨fun d ed => ?_, fun ed => ⟨xs, q, h.out ed⟩⟩
  obtain ⟨v, ev, hv⟩ := h.at ed
  refine ⟨⟨xs, v, q, ev⟩, fun x H3 hy => ?_⟩
  obtain ⟨rfl, hy⟩ := hy
  have := hy xs q
  rw [ev] at this; cases this
  exact ⟨F2, hs, .rfl', hv.mono g⟩
theorem walks_tup {K : PySem.W.Frag} {F : Hp} {a : Addr} {xs : List V} {ds : List Dt} (q : ∀ F2 A2 H2 S2, Ge F F2 → HSt K F2 A2 H2 S2 → SqT K H2 a xs) (h : Rps K F xs ds) : Walks K F (Itt K a) ds := fun F2 A2 H2 S2 g hs i => by
  have q := q F2 A2 H2 S2 g hs
  refine ⟨fun d ed => ?_, fun ed => ⟨xs, q, h.out ed⟩⟩
  obtain ⟨v, ev, hv⟩ := h.at ed
  refine ⟨⟨xs, v, q, ev⟩, fun x H3 hy => ?_⟩
  obtain ⟨rfl, hy⟩ := hy
  have := hy xs q
  rw [ev] at this; cases this
  exact ⟨F2, hs, .rfl', hv.mono g⟩
theorem rps_strs {K : PySem.W.Frag} {F : Hp} : ∀ ks : List Str, Rps K F ((ks.map Sum.inr : List Key).map kV) (ks.map Dt.str)
  | [] => .nil
  | x :: ks => .cons (.str x) (rps_strs ks)
theorem all_str : ∀ ks : List Str, (ks.map Dt.str).all isStr = true
  | [] => rfl
  | x :: ks => by rw [List.map_cons, List.all_cons, all_str ks]; rfl
theorem rpT_at {K : PySem.W.Frag} {F : Hp} : ∀ {kvs : List (List Key × V)} {ds : List (Dt × Dt)} {i : Nat}, RpT K F kvs ds → (∀ d, ds[i]? = some d → ∃ (k : List Str) (v : V), kvs[i]? = some (k.map .inr, v) ∧ d.1 = .tup (k.map .str)) ∧ (ds[i]? = none → kvs.length ≤ i)
  | _, _, i, .nil => ⟨fun d e => by simp at e, fun _ => by simp⟩
  | _, _, 0, .cons h t => ⟨fun d e => by simp at e; subst e; exact ⟨_, _, rfl, rfl⟩, fun e => by simp at e⟩
  | _, _, i + 1, .cons h t => by
    obtain ⟨h1, h2⟩ := rpT_at (i := i) t
    exact ⟨fun d e => by simpa using h1 d (by simpa using e), fun e => by have := h2 (by simpa using e); simpa using this⟩
theorem rpK_at {K : PySem.W.Frag} {F : Hp} : ∀ {kvs : List (Key × V)} {ds : List (Dt × Dt)} {i : Nat}, RpK K F kvs ds → (∀ d, ds[i]? = some d → ∃ (k : Str) (v : V), kvs[i]? = some (.inr k, v) ∧ d.1 = .str k) ∧ (ds[i]? = none → kvs.length ≤ i)
  | _, _, i, .nil => ⟨fun d e => by simp at e, fun _ => by simp⟩
  | _, _, 0, .cons h t => ⟨fun d e => by simp at e; subst e; exact ⟨_, _, rfl, rfl⟩, fun e => by simp at e⟩
  | _, _, i + 1, .cons h t => by
    obtain ⟨h1, h2⟩ := rpK_at (i := i) t
    exact ⟨fun d e => by simpa using h1 d (by simpa using e), fun e => by have := h2 (by simpa using e); simpa using this⟩
/-- a tuple that is tracked may be frozen -/
theorem HSt.frzT {K : PySem.W.Frag} {F : Hp} {A : List Addr} {H : Hp} {S : Ss} {q : Addr} {xs : List V} (h : HSt K F A H S) (e : H q = some (.tup xs)) : HSt K (upd F q (.tup xs)) A H S ∧ Ext F A H (upd F q (.tup xs)) A H := by
  have g : Ge F (upd F q (.tup xs)) := fun b u eb => by
    by_cases hb : b = q
    · subst hb
      have := h.sub _ _ eb
      rw [e] at this; cases this
      exact upd_same
    · rw [upd_ne hb]; exact eb
  have nA : q ∉ A ∨ (∃ o, F q = some o) := by
    by_cases hq : q ∈ A
    · right
      obtain ⟨so, hc⟩ := Paired.mem h.cells q hq
      cases so with
      | lst ds => obtain ⟨_, vs, e2, _⟩ := hc; rw [e] at e2; cases e2
      | dK ds => obtain ⟨_, vs, e2, _⟩ := hc; rw [e] at e2; cases e2
      | dT ds => obtain ⟨_, vs, e2, _⟩ := hc; rw [e] at e2; cases e2
      | gone => obtain ⟨o, e1, e2⟩ := hc; exact ⟨o, e1⟩
    · exact .inl hq
  refine ⟨⟨fun b u eb => ?_, h.nd, Paired.mapM h.cells fun a ha so r => r.mono g (fun n => ?_) fun _ z => z⟩, g, ⟨[], by simp, by simp⟩, fun _ _ z _ => z, fun b u eb n => ?_, fun _ z => z⟩
  · by_cases hb : b = q
    · subst hb; rw [upd_same] at eb; cases eb; exact e
    · rw [upd_ne hb] at eb; exact h.sub _ _ eb
  · rcases nA with nA | ⟨o, ho⟩
    · have hne : a ≠ q := fun z => nA (z ▸ ha)
      rw [upd_ne hne]; exact n
    · by_cases hb : a = q
      · subst hb; rw [n] at ho; cases ho
      · rw [upd_ne hb]; exact n
  · by_cases hb : b = q
    · subst hb; exact .inr (.inr ⟨xs, e⟩)
    · rw [upd_ne hb] at eb; rw [eb] at n; cases n
theorem walks_dT {K : PySem.W.Frag} {F : Hp} {a : Addr} {o : Obj} {kvs : List (List Key × V)} {ds : List (Dt × Dt)} (e : F a = some (.frz o (.dT kvs))) (h : RpT K F kvs ds) : Walks K F (Itkt a o kvs) (ds.map (·.1)) := fun F2 A2 H2 S2 g hs i => by
  have q : H2 a = some (.frz o (.dT kvs)) := hs.sub _ _ (g _ _ e)
  obtain ⟨h1, h2⟩ := rpT_at (i := i) h
  refine ⟨fun d ed => ?_, fun ed => ⟨q, h2 (by simpa using ed)⟩⟩
  rw [List.getElem?_map] at ed
  obtain ⟨d', ed', rfl⟩ := Option.map_eq_some_iff.mp ed
  obtain ⟨k, v, ek, hk⟩ := h1 d' ed'
  refine ⟨⟨q, (List.getElem?_eq_some_iff.mp ek).1⟩, fun x H3 hy => ?_⟩
  obtain ⟨rfl, k', v', p, ek', rfl, hp⟩ := hy
  rw [ek] at ek'; cases ek'
  obtain ⟨hs', x'⟩ := hs.frzT hp
  exact ⟨_, hs', x', by rw [hk]; exact .tupS (all_str k) upd_same (rps_strs k)⟩
theorem walks_dK {K : PySem.W.Frag} {F : Hp} {a : Addr} {o : Obj} {kvs : List (Key × V)} {ds : List (Dt × Dt)} (e : F a = some (.frz o (.dK kvs))) (h : RpK K F kvs ds) : Walks K F (Itk a o kvs) (ds.map (·.1)) := fun F2 A2 H2 S2 g hs i => by
  have q : H2 a = some (.frz o (.dK kvs)) := hs.sub _ _ (g _ _ e)
  obtain ⟨h1, h2⟩ := rpK_at (i := i) h
  refine ⟨fun d ed => ?_, fun ed => ⟨q, h2 (by simpa using ed)⟩⟩
  rw [List.getElem?_map] at ed
  obtain ⟨d', ed', rfl⟩ := Option.map_eq_some_iff.mp ed
  obtain ⟨k, v, ek, hk⟩ := h1 d' ed'
  refine ⟨⟨q, (List.getElem?_eq_some_iff.mp ek).1⟩, fun x H3 hy => ?_⟩
  obtain ⟨rfl, k', v', ek', rfl⟩ := hy
  rw [ek] at ek'; cases ek'
  refine ⟨F2, hs, .rfl', ?_⟩
  rw [hk]
  exact .str k
theorem walks_str {K : PySem.W.Frag} {F : Hp} (x : Str) : Walks K F (Its x) (x.cps.toList.map fun c => Dt.str ⟨#[c]⟩) := fun F2 A2 H2 S2 g hs i => by
  refine ⟨fun d ed => ?_, fun ed => ?_⟩
  · rw [List.getElem?_map] at ed
    obtain ⟨c, ec, rfl⟩ := Option.map_eq_some_iff.mp ed
    try rw [Array.getElem?_toList] at ec
    refine ⟨?_, fun y H3 hy => ?_⟩
    · show i < x.cps.size
      obtain ⟨h, _⟩ := Array.getElem?_eq_some_iff.mp ec
      exact h
    · obtain ⟨rfl, c', ec', rfl⟩ := hy
      rw [ec] at ec'; cases ec'
      exact ⟨F2, hs, .rfl', .str _⟩
  · show x.cps.size ≤ i
    simpa using ed
theorem walks_range {K : PySem.W.Frag} {F : Hp} (lo : Int) (n : Nat) : Walks K F (Itr lo n) ((List.range n).map fun i => Dt.int (lo + (i : Nat))) := fun F2 A2 H2 S2 g hs i => by
  refine ⟨fun d ed => ?_, fun ed => ?_⟩
  · rw [List.getElem?_map] at ed
    obtain ⟨c, ec, rfl⟩ := Option.map_eq_some_iff.mp ed
    obtain ⟨hc, e⟩ := List.getElem?_eq_some_iff.mp ec
    have hc' : i < n := by simpa using hc
    have e' : i = c := by simpa using e
    subst e'
    refine ⟨hc', fun y H3 hy => ?_⟩
    obtain ⟨rfl, rfl⟩ := hy
    exact ⟨F2, hs, .rfl', Rp.int _⟩
  · show n ≤ i
    simpa using ed
def itemsOf : Dt → Option (List Dt)
  | .lst ds => some ds
  | .tup ds => some ds
  | .tup0 => some []
  | .str x => if x.cps.size ≤ 1000 then some (x.cps.toList.map fun c => Dt.str ⟨#[c]⟩) else none
  | .dK kvs => some (kvs.map (·.1))
  | .dT kvs => some (kvs.map (·.1))
  | _ => none
def cIter (c : Cd) : CdI := fun en S => (c en S).bind fun p => match p.1 with
  | .d x => (itemsOf x).map fun ds => (ds, p.2)
  | _ => none
section
variable {X : Cx} {tg e : Expr} {c : Cd} {pos : Pos}
theorem iSeq (h : PE X e (tE X.K c)) : PI X tg e (tI X.K (cIter c)) := by
  refine ⟨fun pins s σ H R I ⟨F, A, S, en, ds, S', hs, he, ec, k⟩ => ?_⟩
  obtain ⟨⟨r1, S1⟩, e1, ec⟩ := Option.bind_eq_some_iff.mp ec
  have hrun := h.run pins s σ H (fun v H1 => ∃ F1 A1, HSt X.K F1 A1 H1 S1 ∧ Ext F A H F1 A1 H1 ∧ RpR X.K F1 A1 v r1) I ⟨F, A, S, en, r1, S1, hs, he, e1, fun v H1 F1 A1 hs1 x1 p1 => ⟨F1, A1, hs1, x1, p1⟩⟩
  refine thn hrun fun u s1 ⟨v, H1, I1, rv, F1, A1, hs1, x1, p1⟩ => ?_
  cases r1 with
  | c _ => cases ec
  | s _ => cases ec
  | d x =>
    obtain ⟨ds', e2, ec⟩ := Option.map_eq_some_iff.mp ec
    cases ec
    cases p1 with
    | non => cases e2
    | bl _ => cases e2
    | int _ => cases e2
    | str x =>
      have hx : x.cps.size ≤ 1000 := by
        by_cases hx : x.cps.size ≤ 1000
        · exact hx
        · rw [itemsOf, if_neg hx] at e2; cases e2
      rw [itemsOf, if_pos hx] at e2
      cases e2
      obtain ⟨t, rfl⟩ := rv
      have q := k _ _ _ _ hs1 x1 (walks_str x) (by have := small1000 hx; simpa using Nat.le_of_lt this)
      cases ha : x.cps.all (· < 128) with
      | false => exact wpAny_pyIter_wide ha (pi_one (tk := s1.toks) I1 _ (turn_str _ x t "str_iterator" (.inr rfl)) ⟨_, Heap.get?_push_size _ rfl, rfl, rfl⟩ q)
      | true => exact wpAny_pyIter_ascii ha (pi_one (tk := s1.toks) I1 _ (turn_str _ x t "str_ascii_iterator" (.inl rfl)) ⟨_, Heap.get?_push_size _ rfl, rfl, rfl⟩ q)
    | lst ea hx =>
      cases e2
      cases rv
      obtain ⟨its, rr, p, hz⟩ := I1.list (.inl (.inl (hs1.sub _ _ ea)))
      exact wpAny_pyIter_list p.isList (pi_one (tk := s1.toks) I1 _ (turn_list _ _) ⟨_, Heap.get?_push_size _ rfl, rfl, rfl⟩ (k _ _ _ _ hs1 x1 (walks_list ea hx) (by rw [← hx.length]; exact hz)))
    | pr ea hx => cases e2
    | tupS _ ea hx =>
      cases e2
      cases rv
      obtain ⟨its, rr, p, hz⟩ := I1.tuple (.inl (.inl (hs1.sub _ _ ea)))
      exact wpAny_pyIter_tuple p (pi_one (tk := s1.toks) I1 _ (turn_tuple _ _) ⟨_, Heap.get?_push_size _ rfl, rfl, rfl⟩ (k _ _ _ _ hs1 x1 (walks_tup (fun F2 A2 H2 S2 g hs => .inl (.inl (hs.sub _ _ (g _ _ ea)))) hx) (by rw [← hx.length]; exact hz)))
    | tupP _ ea _ hx =>
      cases e2
      cases rv
      obtain ⟨its, rr, p, hz⟩ := I1.tuple (.inl (.inr ⟨_, hs1.sub _ _ ea⟩))
      exact wpAny_pyIter_tuple p (pi_one (tk := s1.toks) I1 _ (turn_tuple _ _) ⟨_, Heap.get?_push_size _ rfl, rfl, rfl⟩ (k _ _ _ _ hs1 x1 (walks_tup (fun F2 A2 H2 S2 g hs => .inl (.inr ⟨_, hs.sub _ _ (g _ _ ea)⟩)) hx) (by rw [← hx.length]; exact hz)))
    | tup0 ea _ =>
      cases e2
      cases rv
      obtain ⟨its, rr, p, hz⟩ := I1.tuple (.inl (.inr ⟨_, hs1.sub _ _ ea⟩))
      exact wpAny_pyIter_tuple p (pi_one (tk := s1.toks) I1 _ (turn_tuple _ _) ⟨_, Heap.get?_push_size _ rfl, rfl, rfl⟩ (k _ _ _ _ hs1 x1 (walks_tup (fun F2 A2 H2 S2 g hs => .inl (.inr ⟨_, hs.sub _ _ (g _ _ ea)⟩)) .nil) (Nat.zero_le _)))
    | kt ea =>
      cases e2
      cases rv
      obtain ⟨its, rr, p, hz⟩ := I1.tuple (ea H1)
      exact wpAny_pyIter_tuple p (pi_one (tk := s1.toks) I1 _ (turn_tuple _ _) ⟨_, Heap.get?_push_size _ rfl, rfl, rfl⟩ (k _ _ _ _ hs1 x1 (walks_tup (fun F2 A2 H2 S2 g hs => ea H2) (.cons (.int _) (.cons (.int _) .nil))) (Nat.le_of_lt (small1000 (by simp)))))
    | dT ea hx =>
      cases e2
      cases rv
      have hd := hs1.sub _ _ ea
      obtain ⟨hh, hgd, hex, es, ep, hdt, hsz, ent⟩ := I1.frzT hd
      have hlen : _ ≤ sizeLine := (show ObjOk X.prog X.w H1 s1.heap _ (.frz _ (.dT _)) from I1.hok _ _ hd).2.1
      have hlx := hx.len
      refine iter_keys hh hgd hex hdt (pi_one (tk := s1.toks) I1 _ (turn_keysT _ hdt) ⟨_, Heap.get?_push_size _ rfl, rfl, ?_⟩ (k _ _ _ _ hs1 x1 (walks_dT ea hx) (by simpa [← hlx] using hlen)))
      rw [hsz] <;> rfl
    | dK ea hx =>
      cases e2
      cases rv
      have hd := hs1.sub _ _ ea
      obtain ⟨hh, hgd, hex, es, ep, vs, hdt, hsz, kv, hm⟩ := I1.frzK hd
      have hlen : _ ≤ sizeLine := (show ObjOk X.prog X.w H1 s1.heap _ (.frz _ (.dK _)) from I1.hok _ _ hd).2.1
      have hlx := hx.len
      refine iter_keys hh hgd hex hdt (pi_one (tk := s1.toks) I1 _ (turn_keys _ hdt) ⟨_, Heap.get?_push_size _ rfl, rfl, ?_⟩ (k _ _ _ _ hs1 x1 (walks_dK ea hx) (by simpa [← hlx] using hlen)))
      rw [hsz] <;> rfl
/-! ### freezing -/
def cFrz (c : Cd) : Cd := fun en S => (c en S).bind fun p => match p.1 with
  | .d x => some (.d x, p.2)
  | .c k => (p.2[k]?).bind fun o => o.val.map fun x => (.d x, p.2.set k .gone)
  | .s _ => none
theorem oFrz (h : PE X e (tE X.K c)) : PE X e (tE X.K (cFrz c)) := by
  refine ⟨fun pins s σ H Q I ⟨F, A, S, en, r, S', hs, he, ec, k⟩ => ?_⟩
  obtain ⟨⟨r1, S1⟩, e1, ec⟩ := Option.bind_eq_some_iff.mp ec
  have hrun := h.run pins s σ H (fun v H1 => ∃ F1 A1, HSt X.K F1 A1 H1 S1 ∧ Ext F A H F1 A1 H1 ∧ RpR X.K F1 A1 v r1) I ⟨F, A, S, en, r1, S1, hs, he, e1, fun v H1 F1 A1 hs1 x1 p1 => ⟨F1, A1, hs1, x1, p1⟩⟩
  refine thn hrun fun u s1 ⟨v, H1, I1, rv, F1, A1, hs1, x1, p1⟩ => ?_
  cases r1 with
  | d x => cases ec; exact ⟨v, H1, I1, rv, k v H1 F1 A1 hs1 x1 p1⟩
  | s ns => cases ec
  | c j =>
    obtain ⟨o, eo, ec⟩ := Option.bind_eq_some_iff.mp ec
    obtain ⟨x, ex, ec⟩ := Option.map_eq_some_iff.mp ec
    cases ec
    obtain ⟨a, ea, rfl⟩ := p1
    obtain ⟨a', ea', hc⟩ := Paired.getR hs1.cells eo
    rw [ea] at ea'; cases ea'
    cases o with
    | gone => cases ex
    | lst ds =>
      cases ex
      obtain ⟨_, vs, e3, t⟩ := hc
      obtain ⟨hs2, x2⟩ := hs1.frz (o := .lst vs) ea eo (by simp)
      have eH : upd H1 a (.lst vs) = H1 := by
        funext b
        by_cases hb : b = a
        · subst hb; rw [upd_same, e3]
        · rw [upd_ne hb]
      rw [eH] at hs2 x2
      exact ⟨_, H1, I1, rv, k _ _ _ _ hs2 (x1.trans x2) (Rp.lst upd_same (t.mono x2.ge))⟩
    | dK ds =>
      obtain ⟨_, vs, e3, t⟩ := hc
      obtain ⟨od, I2⟩ := I1.lock e3 trivial
      obtain ⟨hs2, x2⟩ := hs1.frz (o := .frz od (.dK vs)) ea eo (by simp)
      cases ex
      exact ⟨_, _, I2, rv, k _ _ _ _ hs2 (x1.trans x2) (Rp.dK upd_same (t.mono x2.ge))⟩
    | dT ds =>
      cases ex
      obtain ⟨_, vs, e3, t⟩ := hc
      obtain ⟨od, I2⟩ := I1.lock e3 trivial
      obtain ⟨hs2, x2⟩ := hs1.frz (o := .frz od (.dT vs)) ea eo (by simp)
      exact ⟨_, _, I2, rv, k _ _ _ _ hs2 (x1.trans x2) (Rp.dT upd_same (t.mono x2.ge))⟩
/-- a new dict (at a place of its own) is locked for good -/
def tLk (t : TE) : TE := fun σ H Q => t σ H fun v H' => ∃ d u, v = .ref d ∧ H' d = some u ∧ Mut (some u) ∧ ∀ od, Q v (upd H' d (.frz od u))
theorem pe_lk {t : TE} (h : PE X e t) : PE X e (tLk t) := by
  refine ⟨fun pins s σ H Q I hw => ?_⟩
  refine thn (h.run pins s σ H _ I hw) fun u s1 ⟨v, H1, I1, rv, d, o, e1, e2, mu, q⟩ => ?_
  obtain ⟨od, I2⟩ := I1.lock e2 mu
  exact ⟨v, _, I2, rv, q od⟩
end
/-! ### for -/
def forN (g : CdG) (b : CdS) : List Dt → CdS
  | [] => fun en S => some (.nx, en, S)
  | d :: ds => fun en S => (g (.d d) en).bind fun en1 => (b en1 S).bind fun q => match q.1 with
    | .nx => forN g b ds q.2.1 q.2.2
    | .ct => forN g b ds q.2.1 q.2.2
    | .bk => some (.nx, q.2.1, q.2.2)
    | .ret r => some (.ret r, q.2.1, q.2.2)
def sFor (ci : CdI) (g : CdG) (b : CdS) : CdS := fun en S => (ci en S).bind fun p => forN g b p.1 en p.2
section
variable {X : Cx} {tg iter : Expr} {pos : Pos} {ci : CdI} {g : CdG} {us : List Nat} {b : CdS} {body : List Stmt}
theorem zFor (hp : PassesOwn (model X.prog X.w) X.A X.env X.xe) (hc : X.calm = true) (hi : PI X tg iter (tI X.K ci)) (hg : PG X tg (tG X.K us g)) (hb : PSs X body (tS X.K b))
    (hs : ∀ x, foldedSetIterable iter X.env x = pure x := by intro _; rfl) : PS X (.For tg iter body [] pos) (tS X.K (sFor ci g b)) :=
  (ps_for hp hc hi hg hb hs).weak fun D σ H ⟨F, A, S, en, fl, en', S', hs, he, ec, k⟩ => by
    obtain ⟨⟨ds, S1⟩, e1, ec⟩ := Option.bind_eq_some_iff.mp ec
    refine ⟨F, A, S, en, ds, S1, hs, he, e1, fun J H1 F1 A1 hs1 x1 wk hl => ?_⟩
    refine ⟨fun i m σ2 H2 => m = ds.length - i ∧ ∃ F2 A2 S2 en2, HSt X.K F2 A2 H2 S2 ∧ Ext F1 A1 H1 F2 A2 H2 ∧ EnvR X.K F2 A2 σ2 en2 ∧ forN g b (ds.drop i) en2 S2 = some (fl, en', S'), ⟨ds.length, by simp, F1, A1, S1, en, hs1, .rfl', he.ext x1, by simpa using ec⟩, ?_⟩
    rintro i m σ2 H2 ⟨rfl, F2, A2, S2, en2, hs2, x2, he2, ec2⟩
    obtain ⟨w1, w2⟩ := wk F2 A2 H2 S2 x2.ge hs2 i
    cases ed : ds[i]? with
    | none =>
      refine .inl ⟨w2 ed, ?_⟩
      rw [List.drop_eq_nil_of_le (List.getElem?_eq_none_iff.mp ed)] at ec2
      cases ec2
      exact k σ2 H2 F2 A2 hs2 (x1.trans x2) he2
    | some d =>
      obtain ⟨hlt, e⟩ := List.getElem?_eq_some_iff.mp ed
      rw [List.drop_eq_getElem_cons hlt, e] at ec2
      obtain ⟨go, yl⟩ := w1 d ed
      obtain ⟨en3, e3, ec3⟩ := Option.bind_eq_some_iff.mp ec2
      obtain ⟨⟨fl4, en4, S4⟩, e4, ec4⟩ := Option.bind_eq_some_iff.mp ec3
      refine .inr ⟨go, fun σ' H' => ∃ m', m' < ds.length - i ∧ m' = ds.length - (i + 1) ∧ ∃ F2 A2 S2 en2, HSt X.K F2 A2 H' S2 ∧ Ext F1 A1 H1 F2 A2 H' ∧ EnvR X.K F2 A2 σ' en2 ∧ forN g b (ds.drop (i + 1)) en2 S2 = some (fl, en', S'), fun σ' H' h => h, fun x H3 hy => ?_⟩
      obtain ⟨F3, hs3, x3, hx3⟩ := yl x H3 hy
      refine ⟨F3, A2, S2, en2, .d d, en3, hs3, he2.ext x3, hx3, e3, fun σ4 he4 _ => ?_⟩
      refine ⟨F3, A2, S2, en3, fl4, en4, S4, hs3, he4, e4, ?_⟩
      cases fl4 with
      | nx => exact fun σ5 H5 F5 A5 hs5 x5 he5 => ⟨_, by omega, rfl, F5, A5, S4, en4, hs5, (x2.trans x3).trans x5, he5, ec4⟩
      | ct => exact fun σ5 H5 F5 A5 hs5 x5 he5 => ⟨_, by omega, rfl, F5, A5, S4, en4, hs5, (x2.trans x3).trans x5, he5, ec4⟩
      | bk => cases ec4; exact fun σ5 H5 F5 A5 hs5 x5 he5 => k σ5 H5 F5 A5 hs5 (((x1.trans x2).trans x3).trans x5) he5
      | ret r => cases ec4; exact fun σ5 H5 F5 A5 hs5 x5 he5 => k σ5 H5 F5 A5 hs5 (((x1.trans x2).trans x3).trans x5) he5
end
/-! ### comprehensions -/
def compN (vs : List Nat) (g : CdG) (t : CdB) (c : Cd) : List Dt → En → Ss → Option (List Dt × Ss)
  | [] => fun _ S => some ([], S)
  | d :: ds => fun en S => (g (.d d) (wipeE en vs)).bind fun en1 => (t en1 S).bind fun q =>
    if q.1 = true then (c en1 q.2).bind fun z => match z.1 with
      | .d x => (compN vs g t c ds en z.2).map fun y => (x :: y.1, y.2)
      | _ => none
    else compN vs g t c ds en q.2
def cComp (vs : List Nat) (ci : CdI) (g : CdG) (t : CdB) (c : Cd) : Cd := fun en S => (ci en S).bind fun p => (compN vs g t c p.1 en p.2).map fun y => (.d (.lst y.1), y.2)
def kYes : CdB := fun _ S => some (true, S)
theorem wipe_eq {σ σ' : L2.St} {us vs : List Nat} (h : Chg us σ σ') (hv : ∀ i ∈ us, i ∈ vs) : wipe σ' vs = wipe σ vs := by
  have key : ∀ (vs : List Nat) (σ : L2.St) (i : Nat), (wipe σ vs)[i]? = if i ∈ vs then (if i < σ.length then some none else none) else σ[i]? := by
    intro vs
    induction vs with
    | nil => intro σ i; simp [wipe]
    | cons v vs ih =>
      intro σ i
      unfold wipe
      by_cases hi : v = i
      · subst hi
        simp only [List.mem_cons, true_or, if_true]
        by_cases hl : v < σ.length
        · rw [List.getElem?_set_self (by rw [wipe_length]; exact hl), if_pos hl]
        · rw [List.getElem?_eq_none (by rw [List.length_set, wipe_length]; omega), if_neg hl]
      · rw [List.getElem?_set_ne hi, ih]
        have : (i = v ∨ i ∈ vs) ↔ i ∈ vs := ⟨fun h => h.elim (fun e => absurd e.symm hi) id, .inr⟩
        simp only [List.mem_cons, this]
  apply List.ext_getElem?
  intro i
  rw [key, key, h.1]
  by_cases hi : i ∈ vs
  · rw [if_pos hi, if_pos hi]
  · rw [if_neg hi, if_neg hi]
    exact h.2 i fun z => hi (hv i z)
theorem wipe_wipe (σ : L2.St) (vs : List Nat) : wipe (wipe σ vs) vs = wipe σ vs := wipe_eq (us := vs) ⟨wipe_length _ _, fun i hi => wipe_out hi⟩ fun _ h => h
section
variable {X : Cx} {tg iter elt : Expr} {pos : Pos} {ci : CdI} {g : CdG} {us : List Nat} {c : Cd} {t : CdB} {ifs : List Expr} {scope : Scope} {own : List (Str × Nat)}
theorem lc_ok {K : PySem.W.Frag} {vs : List Nat} (hv : ∀ i ∈ us, i ∈ vs) {σ H Q} (h : tE K (cComp vs ci g t c) σ H Q) : tLc (tI K ci) (tG K us g) (tT K t) (tE K c) vs σ H Q := by
  obtain ⟨F, A, S, en, z, S', hs, he, ec, k⟩ := h
  obtain ⟨⟨ds, S1⟩, e1, ec⟩ := Option.bind_eq_some_iff.mp ec
  obtain ⟨⟨ys, S2⟩, e2, ec⟩ := Option.map_eq_some_iff.mp ec
  cases ec
  refine ⟨F, A, S, en, ds, S1, hs, he, e1, fun J H1 F1 A1 hs1 x1 wk hl Da nD => ?_⟩
  -- the state: acc at Da, outside F and A
  have kp : ∀ a u, H1 a = some u → upd H1 Da (.lst []) a = some u := fun a u e => by rw [upd_ne (ne_of_none e nD)]; exact e
  refine ⟨fun i m H2 => m = ds.length - i ∧ ∃ F2 A2 Si xs zs, HSt K F2 A2 H2 Si ∧ Ext F1 A1 H1 F2 A2 H2 ∧ H2 Da = some (.lst xs) ∧ xs.length ≤ i ∧ Rps K F2 xs zs ∧ F2 Da = none ∧ Da ∉ A2 ∧
    ∃ rest, compN vs g t c (ds.drop i) en Si = some (rest, S2) ∧ zs ++ rest = ys, ⟨ds.length, by simp, F1, A1, S1, [], [], ?_, ⟨Ge.rfl', ⟨[], by simp, by simp⟩, fun a o e _ => kp a o e, (fun a o e n => by rw [e] at n; cases n), fun a e => ?_⟩, upd_same, Nat.zero_le _, .nil, ?_, ?_, ys, by simpa using e2, by simp⟩, ?_⟩
  · exact ⟨fun a u e => kp a u (hs1.sub _ _ e), hs1.nd, Paired.mapM hs1.cells fun a ha so r => CellR.mono Ge.rfl' (fun e => e) (kp a) r⟩
  · by_cases hd : a = Da
    · subst hd; exact nD
    · rw [upd_ne hd] at e; exact e
  · exact hs1.nF nD
  · intro ha
    obtain ⟨u, e⟩ := hs1.there ha
    rw [nD] at e; cases e
  · rintro i m H2 ⟨rfl, F2, A2, Si, xs, zs, hs2, x2, eD, hxl, hz, fD, aD, rest, ec2, ey⟩
    obtain ⟨w1, w2⟩ := wk F2 A2 H2 Si x2.ge hs2 i
    have x12 : Ext F A H F2 A2 H2 := x1.trans x2
    cases ed : ds[i]? with
    | none =>
      refine .inl ⟨w2 ed, ?_⟩
      rw [List.drop_eq_nil_of_le (List.getElem?_eq_none_iff.mp ed)] at ec2
      cases ec2
      rw [List.append_nil] at ey
      subst ey
      -- the new list is frozen
      have g' : Ge F2 (upd F2 Da (.lst xs)) := fun b u e => by rw [upd_ne (ne_of_none e fD)]; exact e
      refine k _ H2 (upd F2 Da (.lst xs)) A2 ⟨fun a u e => ?_, hs2.nd, Paired.mapM hs2.cells fun a ha so r => CellR.mono g' (fun n => ?_) (fun _ z => z) r⟩ ⟨Ge.trans x12.ge g', x12.pre, x12.frame, fun a o e n => ?_, x12.mon⟩ (Rp.lst upd_same (hz.mono g'))
      · by_cases hd : a = Da
        · subst hd; rw [upd_same] at e; cases e; exact eD
        · rw [upd_ne hd] at e; exact hs2.sub _ _ e
      · rw [upd_ne (show a ≠ Da from fun z => aD (z ▸ ha))]; exact n
      · by_cases hd : a = Da
        · subst hd; exact .inl (x1.mon _ nD)
        · rw [upd_ne hd] at e; exact x12.newF a o e n
    | some d =>
      obtain ⟨hlt, e⟩ := List.getElem?_eq_some_iff.mp ed
      rw [List.drop_eq_getElem_cons hlt, e] at ec2
      obtain ⟨go, yl⟩ := w1 d ed
      obtain ⟨en3, e3, ec3⟩ := Option.bind_eq_some_iff.mp ec2
      obtain ⟨⟨q4, S4⟩, e4, ec4⟩ := Option.bind_eq_some_iff.mp ec3
      refine .inr ⟨go, fun H' => ∃ m', m' < ds.length - i ∧ m' = ds.length - (i + 1) ∧ ∃ F2 A2 Si xs zs, HSt K F2 A2 H' Si ∧ Ext F1 A1 H1 F2 A2 H' ∧ H' Da = some (.lst xs) ∧ xs.length ≤ i + 1 ∧ Rps K F2 xs zs ∧ F2 Da = none ∧ Da ∉ A2 ∧
        ∃ rest, compN vs g t c (ds.drop (i + 1)) en Si = some (rest, S2) ∧ zs ++ rest = ys, fun H' h => h, fun x H3 hy => ?_⟩
      obtain ⟨F3, hs3, x3, hx3⟩ := yl x H3 hy
      have heW : EnvR K F3 A2 (wipe σ vs) (wipeE en vs) := ((he.ext (x12.trans x3))).wipe vs
      refine ⟨F3, A2, Si, wipeE en vs, .d d, en3, hs3, heW, hx3, e3, fun σ4 he4 ch => ⟨(wipe_eq ch hv).trans (wipe_wipe σ vs), ?_⟩⟩
      refine ⟨F3, A2, Si, en3, q4, S4, hs3, he4, e4, fun H5 F5 A5 hs5 x5 => ?_⟩
      -- Da stays apart
      have apart : ∀ {F' A' H'}, Ext F2 A2 H2 F' A' H' → H' Da = some (.lst xs) ∧ F' Da = none ∧ Da ∉ A' := fun {F' A' H'} y => by
        refine ⟨y.frame _ _ eD aD, ?_, fun ha => ?_⟩
        · cases q : F' Da with
          | none => rfl
          | some u =>
            rcases y.newF _ _ q fD with h | h | ⟨zs, h⟩
            · rw [eD] at h; cases h
            · exact absurd h aD
            · rw [eD] at h; cases h
        · obtain ⟨B, eB, hB⟩ := y.pre
          rw [eB] at ha
          rcases List.mem_append.mp ha with h | h
          · exact aD h
          · have := hB _ h; rw [eD] at this; cases this
      have x25 := x3.trans x5
      cases q4 with
      | false =>
        obtain ⟨a1, a2, a3⟩ := apart x25
        exact ⟨_, by omega, rfl, F5, A5, S4, xs, zs, hs5, x2.trans x25, a1, by omega, hz.mono x25.ge, a2, a3, rest, ec4, ey⟩
      | true =>
        obtain ⟨⟨r6, S6⟩, e6, ec6⟩ := Option.bind_eq_some_iff.mp ec4
        refine ⟨F5, A5, S4, en3, r6, S6, hs5, he4.ext x5, e6, fun v H7 F7 A7 hs7 x7 p7 => ?_⟩
        cases r6 with
        | c _ => cases ec6
        | s _ => cases ec6
        | d x6 =>
          obtain ⟨⟨y8, S8⟩, e8, ec8⟩ := Option.map_eq_some_iff.mp ec6
          cases ec8
          have x27 := x25.trans x7
          obtain ⟨a1, a2, a3⟩ := apart x27
          refine ⟨xs, a1, by omega, _, by omega, rfl, F7, A7, S6, xs ++ [v], zs ++ [x6], ?_, ?_, upd_same, by simp; omega, (hz.mono x27.ge).append (.cons p7 .nil), a2, a3, y8, e8, by simpa using ey⟩
          · have kq : ∀ a u, a ≠ Da → H7 a = some u → upd H7 Da (.lst (xs ++ [v])) a = some u := fun a u hd e => by rw [upd_ne hd]; exact e
            exact ⟨fun a u e => kq a u (fun z => by rw [z, a2] at e; cases e) (hs7.sub _ _ e), hs7.nd, Paired.mapM hs7.cells fun a ha so r => have hne : a ≠ Da := fun z => a3 (z ▸ ha); CellR.mono Ge.rfl' (fun e => e) (fun u e => kq a u hne e) r⟩
          · have y := x2.trans x27
            refine ⟨y.ge, y.pre, fun a o e hA => ?_, y.newF, fun a e => ?_⟩
            · have hd : a ≠ Da := fun z => by rw [z, nD] at e; cases e
              rw [upd_ne hd]; exact y.frame a o e hA
            · by_cases hd : a = Da
              · subst hd; rw [upd_same] at e; cases e
              · rw [upd_ne hd] at e; exact y.mon a e
end
end OA
namespace OA
open PySem PySem.Spec PyProof.Rows L2
/-! ### joining rules -/
def rOr (r r' : R2) : R2 := fun x y H Q => r x y H Q ∨ r' x y H Q
theorem opr_or {X : Cx} {f : Value → Value → Sem Value} {r r' : R2} (h : OpR X f r) (h' : OpR X f r') : OpR X f (rOr r r') := fun pins s σ H x y v u Q I rx ry q => q.elim (h pins s σ H x y v u Q I rx ry) (h' pins s σ H x y v u Q I rx ry)
def cOr' (r r' : List V → Hp → VK → Prop) : List V → Hp → VK → Prop := fun xs H Q => r xs H Q ∨ r' xs H Q
theorem callr_or {X : Cx} {f : Value} {r r' : List V → Hp → VK → Prop} (h : CallR X f r) (h' : CallR X f r') : CallR X f (cOr' r r') := fun pins s σ H xs us Q I rx q => q.elim (h pins s σ H xs us Q I rx) (h' pins s σ H xs us Q I rx)
/-! ### whole numbers -/
def fI2 (g : Int → Int → Option Dt) : F2 := fun S a b => match get S a, get S b with
  | some (.int i), some (.int j) => (g i j).map .d
  | _, _ => none
theorem fI2_in {g : Int → Int → Option Dt} {S a b z} (h : fI2 g S a b = some z) : ∃ i j d, get S a = some (.int i) ∧ get S b = some (.int j) ∧ g i j = some d ∧ z = .d d := by
  unfold fI2 at h
  split at h
  · rename_i i j h1 h2
    obtain ⟨d, e, rfl⟩ := Option.map_eq_some_iff.mp h
    exact ⟨i, j, d, h1, h2, e, rfl⟩
  · cases h
theorem okI {K : PySem.W.Frag} {C : Int → Int → Prop} {gv : Int → Int → V} {g : Int → Int → Option Dt} (hg : ∀ i j d, g i j = some d → C i j ∧ ∀ F, Rp K F (gv i j) d) : OpOk K (rI C gv) (fI2 g) := by
  intro F A H S x y rx ry z Q hs px py e k
  obtain ⟨i, j, d, e1, e2, e3, rfl⟩ := fI2_in e
  obtain ⟨hc, hd⟩ := hg i j d e3
  exact ⟨i, j, HSt.rdI px e1, HSt.rdI py e2, hc, k _ _ _ _ hs .rfl' (hd F)⟩
theorem okI0 {K : PySem.W.Frag} {gv : Int → Int → V} {g : Int → Int → Option Dt} (hg : ∀ i j d, g i j = some d → ∀ F, Rp K F (gv i j) d) : OpOk K (rI0 gv) (fI2 g) := by
  intro F A H S x y rx ry z Q hs px py e k
  obtain ⟨i, j, d, e1, e2, e3, rfl⟩ := fI2_in e
  exact ⟨i, j, HSt.rdI px e1, HSt.rdI py e2, k _ _ _ _ hs .rfl' (hg i j d e3 F)⟩
def fSub : F2 := fI2 fun i j => some (.int (i - j))
def fMul : F2 := fI2 fun i j => if i.natAbs.log2 + j.natAbs.log2 < 1000000 then some (.int (i * j)) else none
def fDiv : F2 := fI2 fun i j => if 0 < j ∧ j.natAbs.log2 < 9000 then some (.int (i / j)) else none
def fMod : F2 := fI2 fun i j => if 0 < j then some (.int (i % j)) else none
def fPow : F2 := fI2 fun i j => if 0 ≤ j ∧ j ≤ 1000 ∧ i.natAbs < 2 ^ 64 then some (.int (i ^ j.toNat)) else none
theorem okSub {K} : OpOk K (rI0 fun i j => .int (i - j)) fSub := okI0 fun i j d h F => by cases h; exact .int _
theorem okMul {K} : OpOk K (rI CMulW fun i j => .int (i * j)) fMul := okI fun i j d h => by
  split at h
  · cases h; exact ⟨‹_›, fun F => .int _⟩
  · cases h
theorem okDiv {K} : OpOk K (rI CDivW fun i j => .int (i / j)) fDiv := okI fun i j d h => by
  split at h
  · cases h; exact ⟨‹_›, fun F => .int _⟩
  · cases h
theorem okMod {K} : OpOk K (rI (fun _ j => 0 < j) fun i j => .int (i % j)) fMod := okI fun i j d h => by
  split at h
  · cases h; exact ⟨‹_›, fun F => .int _⟩
  · cases h
theorem okPow {K} : OpOk K (rI CPow fun i j => .int (i ^ j.toNat)) fPow := okI fun i j d h => by
  split at h
  · rename_i hh
    cases h; exact ⟨⟨hh.1, by omega, hh.2.2⟩, fun F => .int _⟩
  · cases h
def fLe : F2 := fI2 fun i j => some (.bl (decide (i ≤ j)))
def fGt : F2 := fI2 fun i j => some (.bl (decide (j < i)))
def fGe : F2 := fI2 fun i j => some (.bl (decide (j ≤ i)))
theorem okLe {K} : OpOk K (rI0 fun i j => .bl (decide (i ≤ j))) fLe := okI0 fun i j d h F => by cases h; exact .bl _
theorem okGt {K} : OpOk K (rI0 fun i j => .bl (decide (j < i))) fGt := okI0 fun i j d h F => by cases h; exact .bl _
/-! ### < of numbers, of texts -/
def fLt : F2 := fun S a b => match get S a, get S b with
  | some (.int i), some (.int j) => some (.d (.bl (decide (i < j))))
  | some (.str x), some (.str y) => some (.d (.bl (decide (x.cps.toList < y.cps.toList))))
  | _, _ => none
abbrev rLt : R2 := rOr (rI0 fun i j => .bl (decide (i < j))) (fun x y H Q => ∃ i j, x = .str i ∧ y = .str j ∧ Q (.bl (decide (i.cps.toList < j.cps.toList))) H)
theorem opLt {X : Cx} : OpR X (compareOp .Lt) rLt := opr_or op_lt op_lt_str
theorem okLt {K} : OpOk K rLt fLt := by
  intro F A H S x y rx ry z Q hs px py e k
  unfold fLt at e
  split at e
  · rename_i i j e1 e2; cases e
    exact .inl ⟨i, j, HSt.rdI px e1, HSt.rdI py e2, k _ _ _ _ hs .rfl' (Rp.bl _)⟩
  · rename_i i j e1 e2; cases e
    exact .inr ⟨i, j, HSt.rdS px e1, HSt.rdS py e2, k _ _ _ _ hs .rfl' (Rp.bl _)⟩
  · cases e
/-! ### + -/
/-- t + u, the new tuple's object told -/
def rCatN (K : PySem.W.Frag) : R2 := fun x y H Q => ∃ a b xs ys, x = .ref a ∧ y = .ref b ∧ SqT K H a xs ∧ SqT K H b ys ∧ xs.length + ys.length ≤ sizeLine ∧
  (xs = [] → Q (.ref b) H) ∧ (xs ≠ [] → ys = [] → Q (.ref a) H) ∧ (xs ≠ [] → ys ≠ [] → newT H (xs ++ ys) Q)
theorem op_catN {X : Cx} : OpR X (binaryOp .Add) (rCatN X.K) := by
  rintro pins s σ H x y v u Q I rx ry ⟨a, b, xs, ys, rfl, rfl, ha, hb, hz, q0, q1, q2⟩
  cases rx
  cases ry
  obtain ⟨its, r1, p1, _⟩ := I.tuple ha
  obtain ⟨its2, r2, p2, _⟩ := I.tuple hb
  by_cases hx : xs = []
  · subst hx
    cases r1
    exact cat_tup0 p1 p2 ⟨.ref b, H, I, rfl, q0 rfl⟩
  · refine HT.cat_tup p1 p2 (fun z => hx (r1.nil_iff.mp z)) (fun z => ⟨.ref a, H, I, rfl, q1 hx (r2.nil_iff.mp z)⟩) (fun z => ?_) (by rw [← r1.length, ← r2.length]; exact hz)
    obtain ⟨o, ho, q⟩ := q2 hx (fun w => z (r2.nil_iff.mpr w)) _ { cls := .type "tuple", data := .seq (its ++ its2).toArray } (I.hok.fresh (Nat.le_refl _)) rfl
    have I2 := I.newTup (r1.append r2) (by rw [List.length_append]; exact hz) ho s.toks
    exact ⟨.ref s.heap.objs.size, _, I2, rfl, q⟩
def fAdd : F2 := fun S a b => match get S a, get S b with
  | some (.int i), some (.int j) => some (.d (.int (i + j)))
  | some (.str x), some (.str y) => if x.length + y.length ≤ 1000 then some (.d (.str (x ++ y))) else none
  | some (.lst xs), some (.lst ys) => if xs.length + ys.length ≤ 1000 then some (.d (.lst (xs ++ ys))) else none
  | some x, some y => match tupV x, tupV y with
    | some xs, some ys => if xs.length + ys.length ≤ 1000 then (if xs.isEmpty then some (.d y) else if ys.isEmpty then some (.d x) else some (.d (.tup (xs ++ ys)))) else none
    | _, _ => none
  | _, _ => none
abbrev rAdd (K : PySem.W.Frag) : R2 := rOr (rI0 fun i j => .int (i + j)) (rOr (fun x y H Q => ∃ i j, x = .str i ∧ y = .str j ∧ i.length + j.length ≤ sizeLine ∧ Q (.str (i ++ j)) H) (rOr rCat (rCatN K)))
theorem opAdd {X : Cx} : OpR X (binaryOp .Add) (rAdd X.K) := opr_or op_add (opr_or op_add_str (opr_or op_cat op_catN))
theorem okAdd {K} : OpOk K (rAdd K) fAdd := by
  intro F A H S x y rx ry z Q hs px py e k
  unfold fAdd at e
  split at e
  · rename_i i j e1 e2; cases e
    exact .inl ⟨i, j, HSt.rdI px e1, HSt.rdI py e2, k _ _ _ _ hs .rfl' (Rp.int _)⟩
  · rename_i i j e1 e2
    split at e <;> cases e
    exact .inr (.inl ⟨i, j, HSt.rdS px e1, HSt.rdS py e2, Nat.le_of_lt (small1000 ‹_›), k _ _ _ _ hs .rfl' (Rp.str _)⟩)
  · rename_i xs ys e1 e2
    split at e <;> cases e
    rename_i hl
    obtain ⟨a, us, rfl, ha, ra⟩ := hs.rdL px e1
    obtain ⟨b, ws, rfl, hb, rb⟩ := hs.rdL py e2
    refine .inr (.inr (.inl ⟨a, b, us, ws, rfl, rfl, ha, hb, Nat.le_of_lt (small1000 (by rw [ra.length, rb.length]; exact hl)), fun p np => ?_⟩))
    obtain ⟨h1, x1⟩ := hs.lay (o := .lst (us ++ ws)) np
    exact k _ _ _ _ h1 x1 (Rp.lst upd_same ((ra.append rb).mono x1.ge))
  · rename_i dx dy _ _ _ e1 e2
    split at e
    · rename_i xs ys t1 t2
      split at e
      · rename_i hl
        obtain ⟨a, us, rfl, ha, ra⟩ := hs.rdT px e1 t1
        obtain ⟨b, ws, rfl, hb, rb⟩ := hs.rdT py e2 t2
        have pa : ∀ {v r x ds}, RpR K F A v r → get S r = some x → tupV x = some ds → RpR K F A v (.d x) := fun {v r x ds} p g t => by
          cases r with
          | d x => cases g; exact p
          | s ns => cases g
          | c k =>
            obtain ⟨so, e1, e2⟩ := Option.bind_eq_some_iff.mp g
            cases so <;> cases e2 <;> cases t
        refine .inr (.inr (.inr ⟨a, b, us, ws, rfl, rfl, ha, hb, Nat.le_of_lt (small1000 (by rw [ra.length, rb.length]; exact hl)), fun e0 => ?_, fun e0 e1' => ?_, fun n1 n2 => ?_⟩))
        · subst e0
          cases ra
          simp at e
          subst e
          exact k _ _ _ _ hs .rfl' (pa py e2 t2)
        · subst e1'
          cases rb
          have : xs ≠ [] := fun z => by subst z; cases ra; exact e0 rfl
          simp [this] at e
          subst e
          exact k _ _ _ _ hs .rfl' (pa px e1 t1)
        · have m1 : xs ≠ [] := fun z => by subst z; cases ra; exact n1 rfl
          have m2 : ys ≠ [] := fun z => by subst z; cases rb; exact n2 rfl
          simp [m1, m2] at e
          subst e
          exact newT_ok hs (ra.append rb) k
      · cases e
    · cases e
  · cases e
/-! ### == != is in -/
def fEq : F2 := fun S a b => match get S a, get S b with
  | some x, some y => if SeqAt.shaped x.py = true ∧ SeqAt.shaped y.py = true then some (.d (.bl (PyData.eqv x.py y.py))) else none
  | _, _ => none
def fNe : F2 := fun S a b => match get S a, get S b with
  | some x, some y => if SeqAt.shaped x.py = true ∧ SeqAt.shaped y.py = true then some (.d (.bl (!PyData.eqv x.py y.py))) else none
  | _, _ => none
theorem okEq {K} : OpOk K (rEqD K) fEq := by
  intro F A H S x y rx ry z Q hs px py e k
  unfold fEq at e
  split at e
  · rename_i d d' e1 e2
    split at e <;> cases e
    rename_i hh
    exact ⟨d.py, d'.py, hs.dp px e1 hh.1, hs.dp py e2 hh.2, hh.1, hh.2, k _ _ _ _ hs .rfl' (Rp.bl _)⟩
  · cases e
theorem okNe {K} : OpOk K (rNeD K) fNe := by
  intro F A H S x y rx ry z Q hs px py e k
  unfold fNe at e
  split at e
  · rename_i d d' e1 e2
    split at e <;> cases e
    rename_i hh
    exact ⟨d.py, d'.py, hs.dp px e1 hh.1, hs.dp py e2 hh.2, hh.1, hh.2, k _ _ _ _ hs .rfl' (Rp.bl _)⟩
  · cases e
def isNon : R → Bool
  | .d .non => true
  | _ => false
theorem isNon_v {K F A v r} (h : RpR K F A v r) : decide (v = .non) = isNon r := by
  cases r with
  | d x => cases h <;> rfl
  | c k => obtain ⟨a, _, rfl⟩ := h; rfl
  | s ns => obtain ⟨a, rfl, _⟩ := h; rfl
def fIsN : F2 := fun S a b => if isNon b then some (.d (.bl (isNon a))) else none
def fNotN : F2 := fun S a b => if isNon b then some (.d (.bl (!isNon a))) else none
theorem okIsN {K} : OpOk K (fun x y H Q => y = .non ∧ Q (.bl (decide (x = .non))) H) fIsN := by
  intro F A H S x y rx ry z Q hs px py e k
  unfold fIsN at e
  split at e <;> cases e
  rename_i hh
  have := isNon_v py
  rw [hh] at this
  exact ⟨of_decide_eq_true this, by rw [isNon_v px]; exact k _ _ _ _ hs .rfl' (Rp.bl _)⟩
theorem okNotN {K} : OpOk K (fun x y H Q => y = .non ∧ Q (.bl (!decide (x = .non))) H) fNotN := by
  intro F A H S x y rx ry z Q hs px py e k
  unfold fNotN at e
  split at e <;> cases e
  rename_i hh
  have := isNon_v py
  rw [hh] at this
  exact ⟨of_decide_eq_true this, by rw [isNon_v px]; exact k _ _ _ _ hs .rfl' (Rp.bl _)⟩
def fIsB (neg : Bool) : F2 := fun S a b => match get S a, get S b with
  | some (.bl x), some (.bl y) => some (.d (.bl (if neg then !decide (x = y) else decide (x = y))))
  | _, _ => none
theorem okIsB {K} : OpOk K rIsB (fIsB false) := by
  intro F A H S x y rx ry z Q hs px py e k
  unfold fIsB at e
  split at e
  · rename_i i j e1 e2; cases e
    exact ⟨i, j, HSt.rdB px e1, HSt.rdB py e2, k _ _ _ _ hs .rfl' (Rp.bl _)⟩
  · cases e
/-! x in a list, a tuple, a text, a dict -/
def rInT (K : PySem.W.Frag) (neg : Bool) : R2 := fun x y H Q => ∃ d ds, Dp K H x d ∧ Dp K H y (.tuple ds) ∧ SeqAt.shaped d = true ∧ SeqAt.shaped (.tuple ds) = true ∧ Q (.bl (if neg then !(ds.any fun z => PyData.eqv z d) else ds.any fun z => PyData.eqv z d)) H
theorem op_inDT {X : Cx} (hu : X.A.units + 65 < cLine) : OpR X (compareOp .In) (rInT X.K false) := by
  rintro pins s σ H x y v u Q I rx ry ⟨d, ds, hd, he, sd, se, q⟩
  obtain ⟨_, r1⟩ := Dp.reads I d x v hd rx
  obtain ⟨_, r2⟩ := Dp.reads I (.tuple ds) y u he ry
  have room := room_in_shaped (xs := ds) sd hu
  exact SeqAt.in_tuple_reads r2 r1 (SeqAt.canLay_of_shaped se) (SeqAt.canLay_of_shaped sd) room ⟨.bl _, H, I, rfl, q⟩
theorem op_notInDT {X : Cx} (hu : X.A.units + 65 < cLine) : OpR X (compareOp .NotIn) (rInT X.K true) := by
  rintro pins s σ H x y v u Q I rx ry ⟨d, ds, hd, he, sd, se, q⟩
  obtain ⟨_, r1⟩ := Dp.reads I d x v hd rx
  obtain ⟨_, r2⟩ := Dp.reads I (.tuple ds) y u he ry
  have room := room_in_shaped (xs := ds) sd hu
  exact SeqAt.notIn_tuple_reads r2 r1 (SeqAt.canLay_of_shaped se) (SeqAt.canLay_of_shaped sd) room ⟨.bl _, H, I, rfl, q⟩
end OA
namespace OA
open PySem PySem.Spec PyProof.Rows L2
/-! ### dicts by keys -/
/-- the texts of a key tuple -/
def strsOf : List Dt → Option (List Str)
  | [] => some []
  | .str x :: ds => (strsOf ds).map (x :: ·)
  | _ :: _ => none
theorem strsOf_eq : ∀ {ds : List Dt} {ks : List Str}, strsOf ds = some ks → ds = ks.map Dt.str
  | [], _, h => by cases h; rfl
  | .str x :: ds, _, h => by
    obtain ⟨ks, e, rfl⟩ := Option.map_eq_some_iff.mp h
    rw [List.map_cons, ← strsOf_eq e]
  | .non :: _, _, h => by cases h
  | .bl _ :: _, _, h => by cases h
  | .int _ :: _, _, h => by cases h
  | .tup _ :: _, _, h => by cases h
  | .tup0 :: _, _, h => by cases h
  | .pr _ :: _, _, h => by cases h
  | .lst _ :: _, _, h => by cases h
  | .dK _ :: _, _, h => by cases h
  | .dT _ :: _, _, h => by cases h
theorem strsOf_map : ∀ ks : List Str, strsOf (ks.map Dt.str) = some ks
  | [] => rfl
  | x :: ks => by rw [List.map_cons, strsOf, strsOf_map ks]; rfl
def keyT : Dt → Option (List Str)
  | .tup ds => strsOf ds
  | _ => none
def keyK : Dt → Option Str
  | .str x => some x
  | _ => none
/-- what a dict of texts, of tuples of texts, holds -/
def lookK : List (Dt × Dt) → Str → Option Dt
  | [], _ => none
  | (d, v) :: r, k => if keyK d = some k then some v else lookK r k
def lookT : List (Dt × Dt) → List Str → Option Dt
  | [], _ => none
  | (d, v) :: r, k => if keyT d = some k then some v else lookT r k
def ORp (K : PySem.W.Frag) (F : Hp) : Option V → Option Dt → Prop
  | some v, some d => Rp K F v d
  | none, none => True
  | _, _ => False
theorem inr_inj : ∀ {a b : List Str}, (a.map Sum.inr : List Key) = b.map Sum.inr → a = b
  | [], [], _ => rfl
  | [], _ :: _, h => by cases h
  | _ :: _, [], h => by cases h
  | x :: a, y :: b, h => by
    rw [List.map_cons, List.map_cons] at h
    injection h with h1 h2
    injection h1 with h1
    rw [h1, inr_inj h2]
theorem lookK_rp {K : PySem.W.Frag} {F : Hp} (k : Str) : ∀ {kvs : List (Key × V)} {ds : List (Dt × Dt)}, RpK K F kvs ds → ORp K F (valV kvs (.inr k)) (lookK ds k)
  | _, _, .nil => trivial
  | _, _, .cons (k := k') h t => by
    have ih := lookK_rp (K := K) (F := F) k t
    by_cases e : k' = k
    · subst e
      rw [valV_pos rfl, lookK, if_pos (by rfl)]
      exact h
    · rw [valV_neg (fun z => e (by simpa using z)), lookK, if_neg (by simp [keyK, e])]
      exact ih
theorem lookT_rp {K : PySem.W.Frag} {F : Hp} (k : List Str) : ∀ {kvs : List (List Key × V)} {ds : List (Dt × Dt)}, RpT K F kvs ds → ORp K F (valV kvs (k.map .inr)) (lookT ds k)
  | _, _, .nil => trivial
  | _, _, .cons (k := k') h t => by
    have ih := lookT_rp (K := K) (F := F) k t
    by_cases e : k' = k
    · subst e
      rw [valV_pos rfl, lookT, if_pos (by show strsOf _ = _; exact strsOf_map _)]
      exact h
    · rw [valV_neg (fun z => e (inr_inj (by simpa using z))), lookT, if_neg (by show ¬ strsOf _ = _; rw [strsOf_map]; simpa using e)]
      exact ih
section
variable {K : PySem.W.Frag} {F F' F2 : Hp} {A A' A2 : List Addr} {H H' H2 : Hp} {S S' : Ss} {v : V} {r : R}
theorem HSt.rdK {ds : List (Dt × Dt)} (h : HSt K F A H S) (q : RpR K F A v r) (g : get S r = some (.dK ds)) : ∃ a kvs, v = .ref a ∧ Rd H a (.dK kvs) ∧ RpK K F kvs ds := by
  cases r with
  | d x => cases g; cases q with | dK e t => exact ⟨_, _, rfl, .inr ⟨_, h.sub _ _ e⟩, t⟩
  | s ns => cases g
  | c k =>
    obtain ⟨a, ea, rfl⟩ := q
    obtain ⟨so, e1, e2⟩ := Option.bind_eq_some_iff.mp g
    obtain ⟨a', ea', hc⟩ := Paired.getR h.cells e1
    rw [ea] at ea'; cases ea'
    cases so with
    | dK ds' => cases e2; obtain ⟨_, vs, e3, t⟩ := hc; exact ⟨a, vs, rfl, .inl e3, t⟩
    | _ => cases e2
theorem HSt.rdDT {ds : List (Dt × Dt)} (h : HSt K F A H S) (q : RpR K F A v r) (g : get S r = some (.dT ds)) : ∃ a kvs, v = .ref a ∧ Rd H a (.dT kvs) ∧ RpT K F kvs ds := by
  cases r with
  | d x => cases g; cases q with | dT e t => exact ⟨_, _, rfl, .inr ⟨_, h.sub _ _ e⟩, t⟩
  | s ns => cases g
  | c k =>
    obtain ⟨a, ea, rfl⟩ := q
    obtain ⟨so, e1, e2⟩ := Option.bind_eq_some_iff.mp g
    obtain ⟨a', ea', hc⟩ := Paired.getR h.cells e1
    rw [ea] at ea'; cases ea'
    cases so with
    | dT ds' => cases e2; obtain ⟨_, vs, e3, t⟩ := hc; exact ⟨a, vs, rfl, .inl e3, t⟩
    | _ => cases e2
theorem key_vs {K : PySem.W.Frag} {F : Hp} : ∀ (ks : List Str) {xs : List V}, Rps K F xs (ks.map Dt.str) → xs = (ks.map Sum.inr : List Key).map kV
  | [], _, .nil => rfl
  | k :: ks, _, .cons h1 t => by
    cases h1
    rw [key_vs ks t]
    rfl
/-- a key tuple -/
theorem HSt.rdKey {d : Dt} {ks : List Str} (h : HSt K F A H S) (q : RpR K F A v r) (g : get S r = some d) (e : keyT d = some ks) : ∃ b, v = .ref b ∧ H b = some (.tup ((ks.map Sum.inr : List Key).map kV)) := by
  have fin : ∀ {xs : List V} {ds : List Dt}, Rps K F xs ds → strsOf ds = some ks → xs = (ks.map Sum.inr : List Key).map kV := fun hx e => key_vs ks (strsOf_eq e ▸ hx)
  cases r with
  | d x =>
    cases g
    cases q with
    | tupS _ e1 u => exact ⟨_, rfl, by rw [h.sub _ _ e1, fin u e]⟩
    | @tupP _ _ _ ds c e1 _ u =>
      have := strsOf_eq e
      subst this
      rw [all_str] at c; cases c
    | kt e1 => cases e
    | _ => cases e
  | s ns => cases g
  | c k =>
    obtain ⟨so, e1, e2⟩ := Option.bind_eq_some_iff.mp g
    cases so <;> cases e2 <;> cases e
end
/-! ### x in y -/
def isIn (S : Ss) (a b : R) : Option Bool := match get S a, get S b with
  | some (.str x), some (.str y) => match x.cps.toList with
    | [c] => some (decide (c ∈ y.cps.toList))
    | _ => none
  | some x, some (.lst ys) => if SeqAt.shaped x.py = true ∧ SeqAt.shaped (Dt.lst ys).py = true then some ((Dt.pys ys).any fun z => PyData.eqv z x.py) else none
  | some x, some (.tup ys) => if SeqAt.shaped x.py = true ∧ SeqAt.shaped (Dt.tup ys).py = true then some ((Dt.pys ys).any fun z => PyData.eqv z x.py) else none
  | some x, some (.dK ds) => (keyK x).map fun k => (lookK ds k).isSome
  | some x, some (.dT ds) => (keyT x).map fun k => (lookT ds k).isSome
  | _, _ => none
def fIn : F2 := fun S a b => (isIn S a b).map fun k => .d (.bl k)
def fNotIn : F2 := fun S a b => (isIn S a b).map fun k => .d (.bl !k)
abbrev rInS : R2 := fun x y H Q => ∃ (c : Nat) (z : Str), x = .str ⟨#[c]⟩ ∧ y = .str z ∧ Q (.bl (decide (c ∈ z.cps.toList))) H
abbrev rNotInS : R2 := fun x y H Q => ∃ (c : Nat) (z : Str), x = .str ⟨#[c]⟩ ∧ y = .str z ∧ Q (.bl (!decide (c ∈ z.cps.toList))) H
def rInDi : R2 := fun y x H Q => ∃ a o, x = .ref a ∧ DGet H a y o ∧ Q (.bl o.isSome) H
def rNotInDi : R2 := fun y x H Q => ∃ a o, x = .ref a ∧ DGet H a y o ∧ Q (.bl !o.isSome) H
theorem op_inDi {X : Cx} (hu : X.A.units + 1 < cLine) : OpR X (compareOp .In) rInDi := by
  rintro pins s σ H y x u v Q I ry rx ⟨a, o, rfl, g, q⟩
  cases rx
  exact d_in hu I g ry fun s3 I3 => ⟨.bl o.isSome, H, I3, rfl, q⟩
theorem op_notInDi {X : Cx} (hu : X.A.units + 1 < cLine) : OpR X (compareOp .NotIn) rNotInDi := by
  rintro pins s σ H y x u v Q I ry rx ⟨a, o, rfl, g, q⟩
  cases rx
  exact d_notIn hu I g ry fun s3 I3 => ⟨.bl (!o.isSome), H, I3, rfl, q⟩
abbrev rIn' (K : PySem.W.Frag) : R2 := rOr rInS (rOr (rInD K) (rOr (rInT K false) rInDi))
abbrev rNotIn' (K : PySem.W.Frag) : R2 := rOr rNotInS (rOr (rNotInD K) (rOr (rInT K true) rNotInDi))
theorem opIn {X : Cx} {k : Nat} (hr : Room k X.A) : OpR X (compareOp .In) (rIn' X.K) :=
  opr_or op_in_sign (opr_or (op_inD (by have := hr.un; omega)) (opr_or (op_inDT (by have := hr.un; omega)) (op_inDi (by have := hr.un; omega))))
theorem opNotIn {X : Cx} {k : Nat} (hr : Room k X.A) : OpR X (compareOp .NotIn) (rNotIn' X.K) :=
  opr_or op_notIn_sign (opr_or (op_notInD (by have := hr.un; omega)) (opr_or (op_notInDT (by have := hr.un; omega)) (op_notInDi (by have := hr.un; omega))))
theorem orp_some {K : PySem.W.Frag} {F : Hp} {o : Option V} {d : Option Dt} (h : ORp K F o d) : o.isSome = d.isSome := by
  cases o <;> cases d <;> first | rfl | exact h.elim
theorem one_sign {x : Str} {c : Nat} (h : x.cps.toList = [c]) : x = ⟨#[c]⟩ := by
  cases x with
  | mk a =>
    cases a with
    | mk l => simp at h; subst h; rfl
theorem okIn' {K : PySem.W.Frag} {neg : Bool} {F A H S x y rx ry k Q} (hs : HSt K F A H S) (px : RpR K F A x rx) (py : RpR K F A y ry) (e : isIn S rx ry = some k) (q : Q (.bl (if neg then !k else k)) H) :
    if neg then rNotIn' K x y H Q else rIn' K x y H Q := by
  unfold isIn at e
  split at e
  · rename_i a b e1 e2
    split at e
    · rename_i c hc
      cases e
      have e3 := one_sign hc
      subst e3
      have ex := HSt.rdS px e1
      have ey := HSt.rdS py e2
      subst ex ey
      cases neg with
      | true => exact .inl ⟨c, b, rfl, rfl, q⟩
      | false => exact .inl ⟨c, b, rfl, rfl, q⟩
    · cases e
  · rename_i d ys _ e1 e2
    split at e <;> cases e
    rename_i hh
    have d1 := hs.dp px e1 hh.1
    have d2 := hs.dp py e2 hh.2
    have h2 := hh.2
    unfold Dt.py at d2 h2
    cases neg with
    | true => exact .inr (.inl ⟨_, _, d1, d2, hh.1, h2, q⟩)
    | false => exact .inr (.inl ⟨_, _, d1, d2, hh.1, h2, q⟩)
  · rename_i d ys _ e1 e2
    split at e <;> cases e
    rename_i hh
    have d1 := hs.dp px e1 hh.1
    have d2 := hs.dp py e2 hh.2
    have h2 := hh.2
    unfold Dt.py at d2 h2
    cases neg with
    | true => exact .inr (.inr (.inl ⟨_, _, d1, d2, hh.1, h2, q⟩))
    | false => exact .inr (.inr (.inl ⟨_, _, d1, d2, hh.1, h2, q⟩))
  · rename_i d ds e1 e2
    obtain ⟨kk, ek, rfl⟩ := Option.map_eq_some_iff.mp e
    obtain ⟨a, kvs, rfl, hR, hk⟩ := hs.rdK py e2
    obtain ⟨x', rfl⟩ : ∃ x', d = .str x' := by cases d <;> first | exact ⟨_, rfl⟩ | cases ek
    cases ek
    have ex := HSt.rdS px e1
    subst ex
    have g : DGet H a (.str kk) (valV kvs (.inr kk)) := .inl ⟨kvs, .inr kk, hR, rfl, rfl⟩
    have ho := orp_some (lookK_rp kk hk)
    rw [← ho] at q
    cases neg with
    | true => exact .inr (.inr (.inr ⟨a, _, rfl, g, q⟩))
    | false => exact .inr (.inr (.inr ⟨a, _, rfl, g, q⟩))
  · rename_i d ds e1 e2
    obtain ⟨kk, ek, rfl⟩ := Option.map_eq_some_iff.mp e
    obtain ⟨a, kvs, rfl, hR, hk⟩ := hs.rdDT py e2
    obtain ⟨b, rfl, hb⟩ := hs.rdKey px e1 ek
    have g : DGet H a (.ref b) (valV kvs (kk.map .inr)) := .inr ⟨kvs, _, b, hR, rfl, hb, rfl⟩
    have ho := orp_some (lookT_rp kk hk)
    rw [← ho] at q
    cases neg with
    | true => exact .inr (.inr (.inr ⟨a, _, rfl, g, q⟩))
    | false => exact .inr (.inr (.inr ⟨a, _, rfl, g, q⟩))
  · cases e
theorem okIn {K} : OpOk K (rIn' K) fIn := by
  intro F A H S x y rx ry z Q hs px py e k
  obtain ⟨b, eb, rfl⟩ := Option.map_eq_some_iff.mp e
  exact okIn' (neg := false) hs px py eb (k _ _ _ _ hs .rfl' (Rp.bl _))
theorem okNotIn {K} : OpOk K (rNotIn' K) fNotIn := by
  intro F A H S x y rx ry z Q hs px py e k
  obtain ⟨b, eb, rfl⟩ := Option.map_eq_some_iff.mp e
  exact okIn' (neg := true) hs px py eb (k _ _ _ _ hs .rfl' (Rp.bl _))
/-! ### x[i] -/
def fIx : F2 := fun S a b => match a, get S b with
  | .s ns, some (.int i) => (atI ns i).map fun z => .d (.int z)
  | a, some (.int i) => match get S a with
    | some (.lst ds) => (atI ds i).map .d
    | some (.tup ds) => (atI ds i).map .d
    | some (.pr ds) => (atI ds i).map .d
    | _ => none
  | a, some (.str k) => match get S a with
    | some (.dK ds) => (lookK ds k).map .d
    | _ => none
  | a, some (.tup ks) => match get S a with
    | some (.dT ds) => (strsOf ks).bind fun k => (lookT ds k).map .d
    | _ => none
  | _, _ => none
def rIxD : R2 := fun x y H Q => ∃ a v, x = .ref a ∧ DGet H a y (some v) ∧ Q v H
theorem ix_dic {X : Cx} (hu : X.A.units + 1 < cLine) : IxR X rIxD := by
  rintro value slice pins s σ H x y v u Q I rx ry ⟨a, w, rfl, g, q⟩ hs
  cases rx
  exact tail_any (dict_typeIs I g) PySem.F.slot_dict_getitem.lookup (d_getItem hu I g ry fun w' s3 I3 rw' => ⟨w, H, I3, rw', q⟩) hs
abbrev rIx' (K : PySem.W.Frag) : R2 := fun x y H Q => rIxL K x y H Q ∨ (rIxT K x y H Q ∨ rIxD x y H Q)
theorem ixAny {X : Cx} {k : Nat} (hr : Room k X.A) : IxR X (rIx' X.K) := ix_list.or (ix_tup.or (ix_dic (by have := hr.un; omega)))
theorem Rps.atI {K : PySem.W.Frag} {F : Hp} {vs : List V} {ds : List Dt} {i : Int} {d : Dt} (h : Rps K F vs ds) (e : atI ds i = some d) : ∃ v, L2.atI vs i = some v ∧ Rp K F v d := by
  unfold L2.atI at e ⊢
  obtain ⟨j, e1, e2⟩ := Option.bind_eq_some_iff.mp e
  obtain ⟨v, e3, hv⟩ := h.get e2
  exact ⟨v, by rw [h.length, e1]; exact e3, hv⟩
theorem atI_map {α β : Type} (f : α → β) (xs : List α) (i : Int) : L2.atI (xs.map f) i = (L2.atI xs i).map f := by
  unfold L2.atI
  rw [List.length_map]
  cases ixN xs.length i with
  | none => rfl
  | some j => simp
theorem okIx {K} : OpOk K (rIx' K) fIx := by
  intro F A H S x y rx ry z Q hs px py e k
  unfold fIx at e
  split at e
  · rename_i ns i ei
    obtain ⟨w, ew, rfl⟩ := Option.map_eq_some_iff.mp e
    obtain ⟨a, rfl, hq⟩ := px
    have ey := HSt.rdI py ei
    subst ey
    exact .inl ⟨a, _, i, .int w, rfl, rfl, SqL.mono hs.sub hq, by rw [atI_map, ew]; rfl, k _ _ _ _ hs .rfl' (Rp.int _)⟩
  · rename_i i _ ei
    have ey := HSt.rdI py ei
    subst ey
    split at e
    · rename_i ds ed
      obtain ⟨w, ew, rfl⟩ := Option.map_eq_some_iff.mp e
      obtain ⟨a, xs, rfl, ha, hx⟩ := hs.rdL px ed
      obtain ⟨v, ev, hv⟩ := hx.atI ew
      exact .inl ⟨a, xs, i, v, rfl, rfl, .inl (.inl ha), ev, k _ _ _ _ hs .rfl' hv⟩
    · rename_i ds ed
      obtain ⟨w, ew, rfl⟩ := Option.map_eq_some_iff.mp e
      obtain ⟨a, xs, rfl, ha, hx⟩ := hs.rdT px ed rfl
      obtain ⟨v, ev, hv⟩ := hx.atI ew
      exact .inr (.inl ⟨a, xs, i, v, rfl, rfl, ha, ev, k _ _ _ _ hs .rfl' hv⟩)
    · rename_i ds ed
      obtain ⟨w, ew, rfl⟩ := Option.map_eq_some_iff.mp e
      obtain ⟨a, xs, rfl, ha, hx⟩ := hs.rdT px ed rfl
      obtain ⟨v, ev, hv⟩ := hx.atI ew
      exact .inr (.inl ⟨a, xs, i, v, rfl, rfl, ha, ev, k _ _ _ _ hs .rfl' hv⟩)
    · cases e
  · rename_i kk ek
    have ey := HSt.rdS py ek
    subst ey
    split at e
    · rename_i ds ed
      obtain ⟨w, ew, rfl⟩ := Option.map_eq_some_iff.mp e
      obtain ⟨a, kvs, rfl, hR, hk⟩ := hs.rdK px ed
      have ho := lookK_rp kk hk
      rw [ew] at ho
      cases ev : valV kvs (.inr kk) with
      | none => rw [ev] at ho; exact ho.elim
      | some v =>
        rw [ev] at ho
        exact .inr (.inr ⟨a, v, rfl, .inl ⟨kvs, .inr kk, hR, rfl, ev.symm⟩, k _ _ _ _ hs .rfl' ho⟩)
    · cases e
  · rename_i ks ek
    split at e
    · rename_i ds ed
      obtain ⟨kk, ekk, e⟩ := Option.bind_eq_some_iff.mp e
      obtain ⟨w, ew, rfl⟩ := Option.map_eq_some_iff.mp e
      obtain ⟨a, kvs, rfl, hR, hk⟩ := hs.rdDT px ed
      obtain ⟨b, rfl, hb⟩ := hs.rdKey py ek ekk
      have ho := lookT_rp kk hk
      rw [ew] at ho
      cases ev : valV kvs (kk.map .inr) with
      | none => rw [ev] at ho; exact ho.elim
      | some v =>
        rw [ev] at ho
        exact .inr (.inr ⟨a, v, rfl, .inr ⟨kvs, _, b, hR, rfl, hb, ev.symm⟩, k _ _ _ _ hs .rfl' ho⟩)
    · cases e
  · cases e
section
variable {X : Cx} {a b : Expr} {pos : Pos} {r : R2} {f : F2} {ca cb : Cd}
theorem oIx (ho : IxR X r) (hr : OpOk X.K r f) (ha : PE X a (tE X.K ca)) (hb : PE X b (tE X.K cb)) (hs : PlainIx b) : PE X (.Subscript a b pos) (tE X.K (cBin f ca cb)) := (pe_ix ho ha hb hs).weak fun _ _ _ h => bin_ok hr h
end
end OA
namespace OA
open PySem PySem.Spec PyProof.Rows L2
/-! ### calls of built-ins -/
def fLen : FL := fun S rs => match rs with
  | [.s ns] => some (.d (.int ns.length))
  | [a] => match get S a with
    | some (.lst ds) => some (.d (.int ds.length))
    | some (.str x) => if x.length ≤ 1000 then some (.d (.int x.length)) else none
    | some d => (tupV d).map fun ds => .d (.int ds.length)
    | none => none
  | _ => none
abbrev rLen (K : PySem.W.Frag) : List V → Hp → VK → Prop := cOr' (fun xs H Q => ∃ p ys, xs = [.ref p] ∧ (SqL K H p ys ∨ SqT K H p ys) ∧ Q (.int ys.length) H) (fun xs H Q => ∃ z, xs = [.str z] ∧ z.length ≤ sizeLine ∧ Q (.int z.length) H)
theorem clLen {X : Cx} : CallR X (.builtin "len") (rLen X.K) := callr_or call_len_seq call_len_str
theorem rps1 {K F A} {xs : List V} {r : R} (h : RpRs K F A xs [r]) : ∃ v, xs = [v] ∧ RpR K F A v r := by
  cases h with
  | cons h t => cases t; exact ⟨_, rfl, h⟩
theorem rps2 {K F A} {xs : List V} {r r' : R} (h : RpRs K F A xs [r, r']) : ∃ v v', xs = [v, v'] ∧ RpR K F A v r ∧ RpR K F A v' r' := by
  cases h with
  | cons h t => cases t with | cons h' t => cases t; exact ⟨_, _, rfl, h, h'⟩
theorem ckLen {K} : CallOk K (rLen K) fLen := by
  intro F A H S xs rs z Q hs hx e k
  unfold fLen at e
  split at e
  · rename_i ns
    cases e
    obtain ⟨v, rfl, a, rfl, hq⟩ := rps1 hx
    exact .inl ⟨a, _, rfl, .inl (SqL.mono hs.sub hq), by rw [List.length_map]; exact k _ _ _ _ hs .rfl' (Rp.int _)⟩
  · rename_i a _
    obtain ⟨v, rfl, hv⟩ := rps1 hx
    split at e
    · rename_i ds ed
      cases e
      obtain ⟨b, ys, rfl, hb, hy⟩ := hs.rdL hv ed
      exact .inl ⟨b, ys, rfl, .inl (.inl (.inl hb)), by rw [hy.length]; exact k _ _ _ _ hs .rfl' (Rp.int _)⟩
    · rename_i x ed
      split at e <;> cases e
      have ex := HSt.rdS hv ed
      subst ex
      exact .inr ⟨x, rfl, Nat.le_of_lt (small1000 ‹_›), k _ _ _ _ hs .rfl' (Rp.int _)⟩
    · rename_i d _ _ ed
      obtain ⟨ds, et, rfl⟩ := Option.map_eq_some_iff.mp e
      obtain ⟨b, ys, rfl, hb, hy⟩ := hs.rdT hv ed et
      exact .inl ⟨b, ys, rfl, .inr hb, by rw [hy.length]; exact k _ _ _ _ hs .rfl' (Rp.int _)⟩
    · cases e
  · cases e
def fAbs : FL := fun S rs => match rs with
  | [a] => match get S a with
    | some (.int i) => some (.d (.int (if i < 0 then -i else i)))
    | _ => none
  | _ => none
theorem ckAbs {K} : CallOk K (fun xs H Q => ∃ i, xs = [.int i] ∧ Q (.int (if i < 0 then -i else i)) H) fAbs := by
  intro F A H S xs rs z Q hs hx e k
  unfold fAbs at e
  split at e
  · obtain ⟨v, rfl, hv⟩ := rps1 hx
    split at e <;> cases e
    rename_i i ei
    have := HSt.rdI hv ei
    subst this
    exact ⟨i, rfl, k _ _ _ _ hs .rfl' (Rp.int _)⟩
  · cases e
def fMin2 : FL := fun S rs => match rs with
  | [a, b] => match get S a, get S b with
    | some (.int i), some (.int j) => some (.d (.int (if j < i then j else i)))
    | _, _ => none
  | _ => none
theorem ckMin2 {K} : CallOk K (fun xs H Q => ∃ i j, xs = [.int i, .int j] ∧ Q (.int (if j < i then j else i)) H) fMin2 := by
  intro F A H S xs rs z Q hs hx e k
  unfold fMin2 at e
  split at e
  · obtain ⟨v, v', rfl, hv, hv'⟩ := rps2 hx
    split at e <;> cases e
    rename_i i j ei ej
    have e1 := HSt.rdI hv ei
    have e2 := HSt.rdI hv' ej
    subst e1 e2
    exact ⟨i, j, rfl, k _ _ _ _ hs .rfl' (Rp.int _)⟩
  · cases e
def intsOf : List Dt → Option (List Int)
  | [] => some []
  | .int i :: ds => (intsOf ds).map (i :: ·)
  | _ :: _ => none
theorem intsOf_rp {K F} : ∀ {ds : List Dt} {xs : List V} {ns : List Int}, Rps K F xs ds → intsOf ds = some ns → xs = ns.map V.int
  | [], _, _, .nil, h => by cases h; rfl
  | d :: ds, _, _, .cons hv t, h => by
    cases d with
    | int i =>
      obtain ⟨ns, e, rfl⟩ := Option.map_eq_some_iff.mp h
      cases hv
      rw [intsOf_rp t e]; rfl
    | _ => cases h
def boolsOf : List Dt → Option (List Bool)
  | [] => some []
  | .bl i :: ds => (boolsOf ds).map (i :: ·)
  | _ :: _ => none
theorem boolsOf_rp {K F} : ∀ {ds : List Dt} {xs : List V} {ns : List Bool}, Rps K F xs ds → boolsOf ds = some ns → xs = ns.map V.bl
  | [], _, _, .nil, h => by cases h; rfl
  | d :: ds, _, _, .cons hv t, h => by
    cases d with
    | bl i =>
      obtain ⟨ns, e, rfl⟩ := Option.map_eq_some_iff.mp h
      cases hv
      rw [boolsOf_rp t e]; rfl
    | _ => cases h
theorem strsOf_rp {K F} : ∀ {ds : List Dt} {xs : List V} {ns : List Str}, Rps K F xs ds → strsOf ds = some ns → xs = ns.map V.str
  | [], _, _, .nil, h => by cases h; rfl
  | d :: ds, _, _, .cons hv t, h => by
    cases d with
    | str i =>
      obtain ⟨ns, e, rfl⟩ := Option.map_eq_some_iff.mp h
      cases hv
      rw [strsOf_rp t e]; rfl
    | _ => cases h
def fL1 (g : List Dt → Option Dt) : FL := fun S rs => match rs with
  | [a] => match get S a with
    | some (.lst ds) => (g ds).map .d
    | _ => none
  | _ => none
theorem fL1_in {g S rs z} (h : fL1 g S rs = some z) : ∃ a ds d, rs = [a] ∧ get S a = some (.lst ds) ∧ g ds = some d ∧ z = .d d := by
  unfold fL1 at h
  split at h
  · split at h
    · rename_i ds ed
      obtain ⟨d, e, rfl⟩ := Option.map_eq_some_iff.mp h
      exact ⟨_, ds, d, rfl, ed, e, rfl⟩
    · cases h
  · cases h
def fSum : FL := fL1 fun ds => (intsOf ds).map fun ns => .int ns.sum
def fAll : FL := fL1 fun ds => (boolsOf ds).map fun ns => .bl (ns.all id)
theorem ckSum {K} : CallOk K (rSum K) fSum := by
  intro F A H S xs rs z Q hs hx e k
  obtain ⟨a, ds, d, rfl, ed, e2, rfl⟩ := fL1_in e
  obtain ⟨ns, en, rfl⟩ := Option.map_eq_some_iff.mp e2
  obtain ⟨v, rfl, hv⟩ := rps1 hx
  obtain ⟨b, ys, rfl, hb, hy⟩ := hs.rdL hv ed
  have := intsOf_rp hy en
  subst this
  exact ⟨b, ns, rfl, .inl (.inl hb), k _ _ _ _ hs .rfl' (Rp.int _)⟩
theorem ckAll {K} : CallOk K (rAll K) fAll := by
  intro F A H S xs rs z Q hs hx e k
  obtain ⟨a, ds, d, rfl, ed, e2, rfl⟩ := fL1_in e
  obtain ⟨ns, en, rfl⟩ := Option.map_eq_some_iff.mp e2
  obtain ⟨v, rfl, hv⟩ := rps1 hx
  obtain ⟨b, ys, rfl, hb, hy⟩ := hs.rdL hv ed
  have := boolsOf_rp hy en
  subst this
  exact ⟨b, ns, rfl, .inl (.inl hb), k _ _ _ _ hs .rfl' (Rp.bl _)⟩
/-! list(x), tuple(x) -/
def seqV : Dt → Option (List Dt)
  | .lst ds => some ds
  | d => tupV d
theorem HSt.rdSeq {K F A H S} {v : V} {r : R} {d : Dt} {ds : List Dt} (h : HSt K F A H S) (q : RpR K F A v r) (g : get S r = some d) (t : seqV d = some ds) : ∃ a xs, v = .ref a ∧ (SqL K H a xs ∨ SqT K H a xs) ∧ Rps K F xs ds := by
  unfold seqV at t
  split at t
  · cases t
    obtain ⟨a, xs, rfl, e, u⟩ := h.rdL q g
    exact ⟨a, xs, rfl, .inl (.inl (.inl e)), u⟩
  · obtain ⟨a, xs, rfl, e, u⟩ := h.rdT q g t
    exact ⟨a, xs, rfl, .inr e, u⟩
def fList : FL := fun S rs => match rs with
  | [a] => (get S a).bind fun d => (seqV d).map fun ds => .d (.lst ds)
  | _ => none
abbrev rList (K : PySem.W.Frag) : List V → Hp → VK → Prop := fun xs H Q => ∃ p ys, xs = [.ref p] ∧ (SqL K H p ys ∨ SqT K H p ys) ∧ ∀ l, H l = none → Q (.ref l) (upd H l (.lst ys))
theorem ckList {K} : CallOk K (rList K) fList := by
  intro F A H S xs rs z Q hs hx e k
  unfold fList at e
  split at e
  · obtain ⟨v, rfl, hv⟩ := rps1 hx
    obtain ⟨d, ed, e⟩ := Option.bind_eq_some_iff.mp e
    obtain ⟨ds, et, rfl⟩ := Option.map_eq_some_iff.mp e
    obtain ⟨b, ys, rfl, hb, hy⟩ := hs.rdSeq hv ed et
    refine ⟨b, ys, rfl, hb, fun l nl => ?_⟩
    obtain ⟨h1, x1⟩ := hs.lay (o := .lst ys) nl
    exact k _ _ _ _ h1 x1 (Rp.lst upd_same (hy.mono x1.ge))
  · cases e
/-- tuple(x), the new tuple's object told -/
def rTupN (K : PySem.W.Frag) : List V → Hp → VK → Prop := fun xs H Q => ∃ p ys, xs = [.ref p] ∧ ((SqL K H p ys ∧ newT H ys Q) ∨ (SqT K H p ys ∧ Q (.ref p) H))
theorem clTup {X : Cx} : CallR X (.type "tuple") (rTupN X.K) := by
  rintro pins s σ H xs us Q I r ⟨p, ys, rfl, h⟩
  obtain ⟨u, rfl, rx⟩ := vals1 r
  cases rx
  rcases h with ⟨hq, q⟩ | ⟨hq, q⟩
  · obtain ⟨its, rr, pl, hz⟩ := I.list hq
    refine call_tuple_list pl.isList (fun h' kp => ?_) (by rw [List.size_toArray, ← rr.length]; exact hz)
    have I1 : Inv X pins σ H { s with heap := h' } := I.kept (t' := s.toks) kp
    obtain ⟨o, ho, q⟩ := q _ { cls := .type "tuple", data := .seq its.toArray } (I1.hok.fresh (Nat.le_refl _)) rfl
    exact ⟨.ref h'.objs.size, _, I1.newTup rr hz ho s.toks, rfl, q⟩
  · obtain ⟨its, rr, pl, hz⟩ := I.tuple hq
    exact call_tuple_same pl ⟨.ref p, H, I, rfl, q⟩
def fTup (z : Bool) : FL := fun S rs => match rs with
  | [a] => (get S a).bind fun d => match d with
    | .lst ds => some (.d (if z = true ∧ ds.isEmpty then .tup0 else .tup ds))
    | d => (tupV d).map fun _ => .d d
  | _ => none
theorem ckTup {K} (z : Bool) : CallOk K (rTupN K) (fTup z) := by
  intro F A H S xs rs w Q hs hx e k
  unfold fTup at e
  split at e
  · rename_i a
    obtain ⟨v, rfl, hv⟩ := rps1 hx
    obtain ⟨d, ed, e⟩ := Option.bind_eq_some_iff.mp e
    split at e
    · rename_i ds
      cases e
      obtain ⟨b, ys, rfl, hb, hy⟩ := hs.rdL hv ed
      refine ⟨b, ys, rfl, .inl ⟨.inl (.inl hb), ?_⟩⟩
      by_cases hz : z = true ∧ ds.isEmpty = true
      · rw [if_pos hz] at k
        have : ds = [] := by simpa using hz.2
        subst this
        exact newT_ok0 hs hy k
      · rw [if_neg hz] at k
        exact newT_ok hs hy k
    · obtain ⟨ds, et, rfl⟩ := Option.map_eq_some_iff.mp e
      obtain ⟨b, ys, rfl, hb, hy⟩ := hs.rdT hv ed et
      refine ⟨b, ys, rfl, .inr ⟨hb, k _ _ _ _ hs .rfl' ?_⟩⟩
      cases a with
      | d x => cases ed; exact hv
      | s ns => cases ed
      | c j =>
        obtain ⟨so, e1, e2⟩ := Option.bind_eq_some_iff.mp ed
        cases so <;> cases e2 <;> cases et
  · cases e
/-! isinstance -/
def tyR : Dt → Option String
  | .non => some "NoneType"
  | .bl _ => some "bool"
  | .int _ => some "int"
  | .str _ => some "str"
  | .tup _ => some "tuple"
  | .tup0 => some "tuple"
  | .lst _ => some "list"
  | _ => none
theorem rp_ty {K F H} (sub : Ge F H) {v : V} {d : Dt} (h : Rp K F v d) {T : String} (e : tyR d = some T) : TyX K H v (.type T) := by
  cases h with
  | non => cases e; exact .base .non
  | bl b => cases e; exact .base (.bl b)
  | int b => cases e; exact .base (.int b)
  | str b => cases e; exact .base (.str b)
  | lst e1 _ => cases e; exact .base (.lst (sub _ _ e1))
  | tupS _ e1 _ => cases e; exact .base (.tup (sub _ _ e1))
  | tupP _ e1 _ _ => cases e; exact .fTuple (sub _ _ e1)
  | tup0 e1 _ => cases e; exact .fTuple (sub _ _ e1)
  | pr _ _ => cases e
  | @kt a i j e1 =>
    cases e
    rcases e1 (fun _ => none) with (h | ⟨ob, h⟩) | ⟨o, its, n, hk, hc, _⟩
    · cases h
    · cases h
    · exact .kTuple hk hc
  | dK _ _ => cases e
  | dT _ _ => cases e
def cIsi (T : String) (c : Cd) : Cd := fun en S => (c en S).bind fun p => match p.1 with
  | .d x => (tyR x).bind fun t => (kitB t T).map fun b => (.d (.bl b), p.2)
  | _ => none
section
variable {X : Cx} {a b e : Expr} {es : List Expr} {pos p : Pos} {x : Str} {c ca cb : Cd} {cl : CdL} {t : TE}
theorem oIsi {T : String} {p2 : Pos} {tx : Str} (hg : Gl X "isinstance") (hm : X.mg "isinstance" = none) (he : PE X e (tE X.K c)) (hg2 : Gl X tx) (hm2 : X.mg tx = none) (hv : bootBuiltins tx = some (.type T)) (hn : tx ≠ "__name__" := by decide) (hd : (tx == ("__debug__" : Str)) = false := by decide)
    (hs : starEach [e, .Name tx p2] X.env = (false, eval e X.env) :: starEach [.Name tx p2] X.env := by rfl) (hs2 : starEach [.Name tx p2] X.env = (false, eval (.Name tx p2) X.env) :: starEach [] X.env := by rfl) (hpl : (backTo pos (starEach [.Name tx p2] X.env)).any (·.1) = false := by rfl) :
    PE X (.Call (.Name "isinstance" p) [e, .Name tx p2] [] pos) (tE X.K (cIsi T c)) :=
  (pe_callB call_isi hg hm (by decide +kernel) (pa_cons he (pa_cons (pe_bltn (v := .ty T) hg2 hm2 hv rfl hn hd) pa_nil hs2) hs) (by decide) (by decide) hs hpl).weak fun σ H Q ⟨F, A, S, en, r, S', hst, he, ec, k⟩ => by
    unfold cIsi at ec
    obtain ⟨⟨r1, S1⟩, e1, ec⟩ := Option.bind_eq_some_iff.mp ec
    refine ⟨F, A, S, en, r1, S1, hst, he, e1, fun v H1 F1 A1 hs1 x1 p1 => ?_⟩
    cases r1 with
    | d y =>
      obtain ⟨ty, et, ec⟩ := Option.bind_eq_some_iff.mp ec
      obtain ⟨bb, eb, ec⟩ := Option.map_eq_some_iff.mp ec
      cases ec
      exact ⟨v, .ty T, .type ty, .type T, bb, rfl, .ty T, rp_ty hs1.sub p1 et, kit_ty eb, k _ _ _ _ hs1 x1 (Rp.bl _)⟩
    | c _ => cases ec
    | s _ => cases ec
/-! ### slices -/
abbrev CdO := En → Ss → Option (Option Int × Ss)
def noPart : CdO := fun _ S => some (none, S)
def part (c : Cd) : CdO := fun en S => (c en S).bind fun p => match p.1 with
  | .d (.int i) => some (some i, p.2)
  | _ => none
def tO (K : PySem.W.Frag) (c : CdO) : TO := fun σ H Q => ∃ F A S en r S', HSt K F A H S ∧ EnvR K F A σ en ∧ c en S = some (r, S') ∧
  ∀ H' F' A', HSt K F' A' H' S' → Ext F A H F' A' H' → Q r H'
theorem _root_.L2.PO.weak {X : Cx} {e : Option Expr} {t t' : TO} (h : PO X e t) (w : ∀ σ H Q, t' σ H Q → t σ H Q) : PO X e t' := ⟨fun pins s σ H Q I q => h.run pins s σ H Q I (w σ H Q q)⟩
theorem pNone : PO X none (tO X.K noPart) := po_none.weak fun σ H Q ⟨F, A, S, en, r, S', hs, he, ec, k⟩ => by
  cases ec
  exact k H F A hs .rfl'
theorem pSome (h : PE X e (tE X.K c)) : PO X (some e) (tO X.K (part c)) := (po_some h).weak fun σ H Q ⟨F, A, S, en, r, S', hs, he, ec, k⟩ => by
  obtain ⟨⟨r1, S1⟩, e1, ec⟩ := Option.bind_eq_some_iff.mp ec
  split at ec
  · rename_i i hi
    cases ec
    refine ⟨F, A, S, en, r1, S1, hs, he, e1, fun v H1 F1 A1 hs1 x1 p1 => ?_⟩
    have hi' : r1 = .d (.int i) := hi
    subst hi'
    cases p1
    exact ⟨i, rfl, k H1 F1 A1 hs1 x1⟩
  · cases ec
def cut (ds : List Dt) (lo hi : Option Int) : List Dt := (ds.drop (HT.sIx ds.length 0 lo)).take (HT.sIx ds.length ds.length hi - HT.sIx ds.length 0 lo)
def slV (d : Dt) (lo hi : Option Int) : Option Dt := match d with
  | .lst ds => some (.lst (cut ds lo hi))
  | .str z => if z.length ≤ 1000 then some (.str (cutS z lo hi)) else none
  | d => (tupV d).map fun ds => if HT.sIx ds.length 0 lo = 0 ∧ HT.sIx ds.length ds.length hi = ds.length then d else .tup (cut ds lo hi)
def cSl (c : Cd) (lo hi : CdO) : Cd := fun en S => (c en S).bind fun p => (lo en p.2).bind fun q => (hi en q.2).bind fun w => (get w.2 p.1).bind fun d => (slV d q.1 w.1).map fun z => (.d z, w.2)
/-- t[lo:hi], the new tuple's object told -/
def rSlN (K : PySem.W.Frag) : V → Option Int → Option Int → Hp → VK → Prop := fun x lo hi H Q => ∃ a xs, x = .ref a ∧ SqT K H a xs ∧
  (HT.sIx xs.length 0 lo = 0 ∧ HT.sIx xs.length xs.length hi = xs.length → Q (.ref a) H) ∧ (¬ (HT.sIx xs.length 0 lo = 0 ∧ HT.sIx xs.length xs.length hi = xs.length) → newT H (cutV xs lo hi) Q)
theorem sl_tupN : SlR X (rSlN X.K) := by
  rintro pins s σ H x v vl vu lo hi sl Q I rx hs pl pu ⟨a, xs, rfl, hx, q1, q2⟩
  cases rx
  obtain ⟨its, r, ht, hz⟩ := I.tuple hx
  have hlen : its.toArray.size = xs.length := by rw [List.size_toArray]; exact r.length.symm
  refine ⟨"tuple", _, PyProof.Rows.slot_tuple_getitem.lookup, ht.typeIs, ?_⟩
  by_cases hw : HT.sIx xs.length 0 lo = 0 ∧ HT.sIx xs.length xs.length hi = xs.length
  · exact getItem_tuple_whole ht hs pl pu (by rw [hlen]; exact hw) ⟨.ref a, H, I, rfl, q1 hw⟩
  · refine HT.getItem_tuple_cut ht hs pl pu (by rw [hlen]; exact hw) ?_ (by rw [hlen]; exact hz)
    rw [hlen]
    have rc : Vals (cutV xs lo hi) _ := (r.drop (HT.sIx xs.length 0 lo)).take (HT.sIx xs.length xs.length hi - HT.sIx xs.length 0 lo)
    obtain ⟨o, ho, q⟩ := q2 hw _ { cls := .type "tuple", data := .seq _ } (I.hok.fresh (Nat.le_refl _)) rfl
    exact ⟨.ref s.heap.objs.size, _, I.newTup rc (Nat.le_trans (cutV_length xs lo hi) hz) ho s.toks, rfl, q⟩
theorem slr_or {r r' : V → Option Int → Option Int → Hp → VK → Prop} (h : SlR X r) (h' : SlR X r') : SlR X (fun x lo hi H Q => r x lo hi H Q ∨ r' x lo hi H Q) := by
  intro pins s σ H x v vl vu lo hi sl Q I rx hs pl pu q
  rcases q with q | q
  · exact h pins s σ H x v vl vu lo hi sl Q I rx hs pl pu q
  · exact h' pins s σ H x v vl vu lo hi sl Q I rx hs pl pu q
theorem Rps.cut {K F} {xs : List V} {ds : List Dt} (h : Rps K F xs ds) (lo hi : Option Int) : Rps K F (cutV xs lo hi) (OA.cut ds lo hi) := by
  unfold cutV OA.cut
  rw [h.length]
  exact (h.drop _).take _
theorem oSl {lo hi : Option Expr} {p2 : Pos} {cl ch : CdO} (he : PE X e (tE X.K c)) (hl : PO X lo (tO X.K cl)) (hh : PO X hi (tO X.K ch)) : PE X (.Subscript e (.Slice lo hi none p2) pos) (tE X.K (cSl c cl ch)) :=
  (pe_slice (slr_or sl_list (slr_or sl_str sl_tupN)) he hl hh).weak fun σ H Q ⟨F, A, S, en, r, S', hs, he, ec, k⟩ => by
    obtain ⟨⟨r1, S1⟩, e1, ec⟩ := Option.bind_eq_some_iff.mp ec
    obtain ⟨⟨l, S2⟩, e2, ec⟩ := Option.bind_eq_some_iff.mp ec
    obtain ⟨⟨h, S3⟩, e3, ec⟩ := Option.bind_eq_some_iff.mp ec
    obtain ⟨d, ed, ec⟩ := Option.bind_eq_some_iff.mp ec
    obtain ⟨z, ez, ec⟩ := Option.map_eq_some_iff.mp ec
    cases ec
    refine ⟨F, A, S, en, r1, S1, hs, he, e1, fun v H1 F1 A1 hs1 x1 p1 => ⟨F1, A1, S1, en, l, S2, hs1, he.ext x1, e2, fun H2 F2 A2 hs2 x2 => ⟨F2, A2, S2, en, h, S3, hs2, (he.ext x1).ext x2, e3, fun H3 F3 A3 hs3 x3 => ?_⟩⟩⟩
    have p3 := (p1.ext x2).ext x3
    have xx := (x1.trans x2).trans x3
    unfold slV at ez
    split at ez
    · rename_i ds
      cases ez
      obtain ⟨a, xs, rfl, ha, hx⟩ := hs3.rdL p3 ed
      refine .inl ⟨a, xs, rfl, .inl (.inl ha), fun p np => ?_⟩
      obtain ⟨h4, x4⟩ := hs3.lay (o := .lst (cutV xs l h)) np
      exact k _ _ _ _ h4 (xx.trans x4) (Rp.lst upd_same ((hx.cut l h).mono x4.ge))
    · rename_i y
      split at ez <;> cases ez
      have ey := HSt.rdS p3 ed
      subst ey
      exact .inr (.inl ⟨y, rfl, Nat.le_of_lt (small1000 ‹_›), k _ _ _ _ hs3 xx (Rp.str _)⟩)
    · obtain ⟨ds, et, rfl⟩ := Option.map_eq_some_iff.mp ez
      obtain ⟨a, xs, rfl, ha, hx⟩ := hs3.rdT p3 ed et
      refine .inr (.inr ⟨a, xs, rfl, ha, fun hw => ?_, fun hw => ?_⟩)
      · rw [hx.length] at hw
        rw [if_pos hw] at k
        refine k _ _ _ _ hs3 xx ?_
        cases r1 with
        | d x => cases ed; exact p3
        | s ns => cases ed
        | c j =>
          obtain ⟨so, e1, e2⟩ := Option.bind_eq_some_iff.mp ed
          cases so <;> cases e2 <;> cases et
      · rw [hx.length] at hw
        rw [if_neg hw] at k
        exact newT_ok hs3 (hx.cut l h) fun v H4 F4 A4 h4 x4 q => k v H4 F4 A4 h4 (xx.trans x4) q
end
end OA
namespace OA
open PySem PySem.Spec PyProof.Rows L2
/-! ### sorted texts -/
def leS (a b : Str) : Bool := !ltCps b.cps.toList a.cps.toList
def insS (x : Str) : List Str → List Str
  | [] => [x]
  | y :: r => if leS x y then x :: y :: r else y :: insS x r
def isortS : List Str → List Str
  | [] => []
  | x :: r => insS x (isortS r)
theorem leS_total (a b : Str) : leS a b = true ∨ leS b a = true := by
  unfold leS
  rw [ltCps_eq, ltCps_eq]
  by_cases h : b.cps.toList < a.cps.toList
  · right; simp [List.lt_asymm h]
  · left; simp [h]
theorem leS_trans {a b c : Str} (h1 : leS a b = true) (h2 : leS b c = true) : leS a c = true := by
  unfold leS at *
  rw [ltCps_eq] at *
  simp only [Bool.not_eq_true', decide_eq_false_iff_not, List.not_lt] at *
  exact List.le_trans h1 h2
theorem leS_anti {a b : Str} (h1 : leS a b = true) (h2 : leS b a = true) : a = b := by
  unfold leS at *
  rw [ltCps_eq] at *
  simp only [Bool.not_eq_true', decide_eq_false_iff_not, List.not_lt] at *
  have e := List.le_antisymm h1 h2
  cases a with
  | mk a => cases b with
    | mk b => exact congrArg Str.mk (Array.toList_inj.mp e)
theorem insS_perm (x : Str) : ∀ l, (insS x l).Perm (x :: l)
  | [] => List.Perm.refl _
  | y :: r => by
    unfold insS
    split
    · exact List.Perm.refl _
    · exact ((insS_perm x r).cons y).trans (List.Perm.swap x y r)
theorem isortS_perm : ∀ l, (isortS l).Perm l
  | [] => List.Perm.refl _
  | x :: r => (insS_perm x _).trans ((isortS_perm r).cons x)
theorem insS_sorted (x : Str) : ∀ l, l.Pairwise (fun a b => leS a b = true) → (insS x l).Pairwise (fun a b => leS a b = true)
  | [], _ => by simp [insS]
  | y :: r, h => by
    unfold insS
    rw [List.pairwise_cons] at h
    split
    · rename_i hxy
      refine List.pairwise_cons.mpr ⟨fun z hz => ?_, List.pairwise_cons.mpr h⟩
      rcases List.mem_cons.mp hz with rfl | hz
      · exact hxy
      · exact leS_trans hxy (h.1 z hz)
    · rename_i hxy
      have hyx : leS y x = true := (leS_total x y).resolve_left hxy
      refine List.pairwise_cons.mpr ⟨fun z hz => ?_, insS_sorted x r h.2⟩
      rcases List.mem_cons.mp ((insS_perm x r).mem_iff.mp hz) with rfl | hz
      · exact hyx
      · exact h.1 z hz
theorem isortS_sorted : ∀ l, (isortS l).Pairwise (fun a b => leS a b = true)
  | [] => List.Pairwise.nil
  | x :: r => insS_sorted x _ (isortS_sorted r)
theorem risingS_pw : ∀ (l : List Str) (p : Str), risingS p l = true → (p :: l).Pairwise (fun a b => leS a b = true)
  | [], p, _ => by simp
  | x :: r, p, h => by
    unfold risingS at h
    rw [Bool.and_eq_true] at h
    have ih := risingS_pw r x h.2
    have hpx : leS p x = true := h.1
    refine List.pairwise_cons.mpr ⟨fun z hz => ?_, ih⟩
    rcases List.mem_cons.mp hz with rfl | hz
    · exact hpx
    · exact leS_trans hpx ((List.pairwise_cons.mp ih).1 z hz)
theorem sorted_is {ys xs : List Str} (h : ys.Perm xs) (s : sortedS ys = true) : ys = isortS xs := by
  have hp : ys.Pairwise (fun a b => leS a b = true) := by
    cases ys with
    | nil => exact List.Pairwise.nil
    | cons y r => exact risingS_pw r y s
  exact List.Perm.eq_of_pairwise (le := fun a b => leS a b = true) (fun a b _ _ h1 h2 => leS_anti h1 h2) hp (isortS_sorted xs) (h.trans (isortS_perm xs).symm)
def fSortS : FL := fL1 fun ds => (strsOf ds).bind fun xs => if xs.length < 64 then some (.lst ((isortS xs).map .str)) else none
theorem rps_str {K F} : ∀ xs : List Str, Rps K F (xs.map V.str) (xs.map Dt.str)
  | [] => .nil
  | x :: xs => .cons (.str x) (rps_str xs)
theorem ckSortS {K} : CallOk K (rSortedS K) fSortS := by
  intro F A H S xs rs z Q hs hx e k
  obtain ⟨a, ds, d, rfl, ed, e2, rfl⟩ := fL1_in e
  obtain ⟨ns, en, e2⟩ := Option.bind_eq_some_iff.mp e2
  split at e2 <;> cases e2
  obtain ⟨v, rfl, hv⟩ := rps1 hx
  obtain ⟨b, ys, rfl, hb, hy⟩ := hs.rdL hv ed
  have := strsOf_rp hy en
  subst this
  refine ⟨b, ns, rfl, .inl (.inl hb), ‹_›, fun ys p hp hso np => ?_⟩
  have := sorted_is hp hso
  subst this
  obtain ⟨h1, x1⟩ := hs.lay (o := .lst ((isortS ns).map V.str)) np
  exact k _ _ _ _ h1 x1 (Rp.lst upd_same (rps_str _))
/-! ### comprehensions, as rules -/
section
variable {X : Cx} {tg iter elt : Expr} {pos : Pos} {ci : CdI} {g : CdG} {us : List Nat} {c : Cd} {t : CdB} {ifs : List Expr} {scope : Scope} {own : List (Str × Nat)}
theorem tsNil : PTs X [] (tT X.K kYes) := ⟨fun pins s σ H Q I ⟨F, A, S, en, r, S', hs, he, ec, k⟩ => by
  cases ec
  exact pts_nil.run pins s σ H Q I (k H F A hs .rfl')⟩
theorem tsOne {e : Expr} (h : PT X e (tT X.K t)) : PTs X [e] (tT X.K t) := pts_one h
theorem oComp (vs : List Nat) (hvs : own.map (·.2) = vs) (hv : ∀ i ∈ us, i ∈ vs) (hc : X.calm = true) (hN : X.N.Nodup) (hi : PI X tg iter (tI X.K ci)) (ok : blkC X.N X.env.scope scope own = true)
    (hg : ∀ (s : Shared) (H : Hp) (C : Addr) (cl : List (Str × Addr)) (fp : List Addr), PG (X.blk s H scope (compEnvC scope cl C X.env) fp) tg (tG X.K us g)) (ht : ∀ (s : Shared) (H : Hp) (C : Addr) (cl : List (Str × Addr)) (fp : List Addr), PTs (X.blk s H scope (compEnvC scope cl C X.env) fp) ifs (tT X.K t))
    (he : ∀ (s : Shared) (H : Hp) (C : Addr) (cl : List (Str × Addr)) (fp : List Addr), PE (X.blk s H scope (compEnvC scope cl C X.env) fp) elt (tE X.K c)) (hs : ∀ x, foldedSetIterable iter X.env x = pure x := by intro _; rfl) :
    PE X (.ListComp elt [⟨tg, iter, ifs, 0⟩] scope pos) (tE X.K (cComp vs ci g t c)) :=
  (pe_lc hc hN hi (blkOk_by ok) hg ht he hs).weak fun σ H Q h => by
    rw [hvs]
    exact lc_ok hv h
theorem zSetComp {i : Nat} {y : Str} {py spos : Pos} (vs : List Nat) (hvs : own.map (·.2) = vs) (hv : ∀ i ∈ us, i ∈ vs) (hc : X.calm = true) (hN : X.N.Nodup) (hy : X.N[i]? = some y) (hyl : X.env.scope.names.lookup y = some .local)
    (hsw : swapsWith (.ListComp elt [⟨tg, iter, ifs, 0⟩] scope pos) (some (.Name y py)) spos.line X.env = pure true) (hi : PI X tg iter (tI X.K ci)) (ok : blkC X.N X.env.scope scope own = true)
    (hg : ∀ (s : Shared) (H : Hp) (C : Addr) (cl : List (Str × Addr)) (fp : List Addr), PG (X.blk s H scope (compEnvC scope cl C X.env) fp) tg (tG X.K us g)) (ht : ∀ (s : Shared) (H : Hp) (C : Addr) (cl : List (Str × Addr)) (fp : List Addr), PTs (X.blk s H scope (compEnvC scope cl C X.env) fp) ifs (tT X.K t))
    (he : ∀ (s : Shared) (H : Hp) (C : Addr) (cl : List (Str × Addr)) (fp : List Addr), PE (X.blk s H scope (compEnvC scope cl C X.env) fp) elt (tE X.K c)) (hs : ∀ x, foldedSetIterable iter X.env x = pure x := by intro _; rfl) :
    PS X (.Assign [.Name y py] (.ListComp elt [⟨tg, iter, ifs, 0⟩] scope pos) spos) (tS X.K (sSet i (cComp vs ci g t c))) :=
  (ps_setLc hc hN hy hyl hsw hi (blkOk_by ok) hg ht he hs).weak fun D σ H ⟨F, A, S, en, fl, en', S', hs, he, ec, k⟩ => by
    unfold sSet at ec
    obtain ⟨⟨r1, S1⟩, e1, ec⟩ := Option.map_eq_some_iff.mp ec
    cases ec
    subst hvs
    refine lc_ok hv ?_
    exact ⟨F, A, S, en, r1, S1, hs, he, e1, fun v H1 F1 A1 hs1 x1 p1 => k _ H1 F1 A1 hs1 x1 ((he.ext x1).set i p1)⟩
/-! ### ranges, zip -/
def cRange1 (c : Cd) : CdI := fun en S => (c en S).bind fun p => match p.1 with
  | .d (.int j) => if 0 ≤ j ∧ j < 1000 then some ((List.range j.toNat).map fun (i : Nat) => Dt.int (0 + (i : Int)), p.2) else none
  | _ => none
theorem iRange1 {a : Expr} {ca : Cd} {p : Pos} (hg : Gl X "range") (hm : X.mg "range" = none) (ha : PE X a (tE X.K ca)) (hs : starEach [a] X.env = [(false, eval a X.env)] := by rfl) : PI X tg (.Call (.Name "range" p) [a] [] pos) (tI X.K (cRange1 ca)) :=
  (pi_range1 hg hm (pa_cons ha pa_nil (by rw [hs]; rfl)) hs).weak fun σ H R ⟨F, A, S, en, ds, S', hs, he, ec, k⟩ => by
    obtain ⟨⟨r1, S1⟩, e1, ec⟩ := Option.bind_eq_some_iff.mp ec
    split at ec
    · rename_i j hj
      split at ec <;> cases ec
      rename_i hl
      refine ⟨F, A, S, en, r1, S1, hs, he, e1, fun v H1 F1 A1 hs1 x1 p1 => ?_⟩
      have hj' : r1 = .d (.int j) := hj
      subst hj'
      cases p1
      exact ⟨j, rfl, by omega, by omega, k _ _ _ _ hs1 x1 (walks_range 0 j.toNat) (by rw [List.length_map, List.length_range]; exact Nat.le_of_lt (small1000 (by omega)))⟩
    · cases ec
end
end OA
namespace OA
open PySem PySem.Spec PyProof.Rows L2
section
variable {X : Cx} {e o i : Expr} {es : List Expr} {c co ci : Cd} {cl : CdL} {pos : Pos}
/-! ### new cells -/
def cNewL (cl : CdL) : Cd := fun en S => (cl en S).bind fun p => (dats p.1).bind fun ds => if ds.length ≤ 1000 then some (.c p.2.length, p.2 ++ [.lst ds]) else none
theorem oNewL (h : PA X es (tEs X.K cl)) : PE X (.List es pos) (tE X.K (cNewL cl)) := (pe_lst h).weak fun σ H Q ⟨F, A, S, en, r, S', hs, he, ec, k⟩ => by
  obtain ⟨⟨r1, S1⟩, e1, ec⟩ := Option.bind_eq_some_iff.mp ec
  obtain ⟨ds, e2, ec⟩ := Option.bind_eq_some_iff.mp ec
  split at ec
  · cases ec
    refine ⟨F, A, S, en, r1, S1, hs, he, e1, fun vs H1 F1 A1 hs1 x1 p1 => ?_⟩
    have p2 := dats_rp p1 e2
    refine ⟨Nat.le_of_lt (small1000 (by rw [p2.length]; assumption)), fun p np => ?_⟩
    obtain ⟨hs2, x2⟩ := hs1.newCell (so := .lst ds) np ⟨hs1.nF np, vs, upd_same, p2⟩
    exact k _ _ _ _ hs2 (x1.trans x2) ⟨p, by rw [← hs1.len]; simp, rfl⟩
  · cases ec
/-! ### cells changed -/
theorem HSt.cellL {K F A H S} {v : V} {k : Nat} {ds : List Dt} (h : HSt K F A H S) (q : RpR K F A v (.c k)) (e : S[k]? = some (.lst ds)) : ∃ a vs, v = .ref a ∧ A[k]? = some a ∧ F a = none ∧ H a = some (.lst vs) ∧ Rps K F vs ds := by
  obtain ⟨a, ea, rfl⟩ := q
  obtain ⟨a', ea', n, vs, e1, t⟩ := Paired.getR h.cells e
  rw [ea] at ea'; cases ea'
  exact ⟨a, vs, rfl, ea, n, e1, t⟩
theorem HSt.cellT {K F A H S} {v : V} {k : Nat} {ds : List (Dt × Dt)} (h : HSt K F A H S) (q : RpR K F A v (.c k)) (e : S[k]? = some (.dT ds)) : ∃ a vs, v = .ref a ∧ A[k]? = some a ∧ F a = none ∧ H a = some (.dT vs) ∧ RpT K F vs ds := by
  obtain ⟨a, ea, rfl⟩ := q
  obtain ⟨a', ea', n, vs, e1, t⟩ := Paired.getR h.cells e
  rw [ea] at ea'; cases ea'
  exact ⟨a, vs, rfl, ea, n, e1, t⟩
def cAppend (co c : Cd) : Cd := fun en S => (co en S).bind fun p => match p.1 with
  | .c k => match p.2[k]? with
    | some (.lst _) => (c en p.2).bind fun q => match q.1, q.2[k]? with
      | .d x, some (.lst ds) => if ds.length < 1000 then some (.d .non, q.2.set k (.lst (ds ++ [x]))) else none
      | _, _ => none
    | _ => none
  | _ => none
theorem oAppend {apos : Pos} (ho : PE X o (tE X.K co)) (ha : PE X e (tE X.K c)) (hbase : attributeBase o "append" X.env (eval o X.env) = eval o X.env := by rfl)
    (hfew : ((backTo pos (starEach [e] X.env)).all (fun x => !x.1) && (backToKw pos (keywordEach [] X.env)).all (fun x => x.1.isSome) && decide ([e].length + ([] : List Keyword).length + (if ([] : List Keyword).isEmpty then 0 else 1) < 30)) = true := by rfl)
    (hline : (apos.endLine == pos.line) = true := by rfl) (hst : starEach [e] X.env = (false, eval e X.env) :: starEach [] X.env := by rfl) (hplain : (backTo pos (starEach [] X.env)).any (·.1) = false := by rfl) :
    PE X (.Call (.Attribute o "append" apos) [e] [] pos) (tE X.K (cAppend co c)) :=
  (pe_bm PySem.F.plainAttrs_list PySem.F.slot_list_append PySem.F.type_list_append mt_append ho (pa_cons ha pa_nil hst) hbase hfew hline hst hplain).weak fun σ H Q ⟨F, A, S, en, r, S', hs, he, ec, k⟩ => by
    obtain ⟨⟨r1, S1⟩, e1, ec⟩ := Option.bind_eq_some_iff.mp ec
    refine ⟨F, A, S, en, r1, S1, hs, he, e1, fun v H1 F1 A1 hs1 x1 p1 => ?_⟩
    split at ec
    · rename_i j hj
      have hj' : r1 = .c j := hj
      subst hj'
      split at ec
      · rename_i ds0 h0
        obtain ⟨a, vs, rfl, ea, na, ha, hvs⟩ := hs1.cellL p1 h0
        refine ⟨.inl ⟨rfl, _, .inl (.inl ha)⟩, ?_⟩
        obtain ⟨⟨r2, S2⟩, e2, ec⟩ := Option.bind_eq_some_iff.mp ec
        refine ⟨F1, A1, S1, en, r2, S2, hs1, he.ext x1, e2, fun w H2 F2 A2 hs2 x2 p2 => ?_⟩
        split at ec
        · rename_i x ds hx h2
          split at ec
          · rename_i hl
            cases ec
            have hx' : r2 = .d x := hx
            subst hx'
            obtain ⟨a', ws, ew, ea', na', ha', hws⟩ := hs2.cellL (p1.ext x2) h2
            cases ew
            obtain ⟨h3, x3⟩ := hs2.put (o := .lst (ws ++ [w])) (so' := .lst (ds ++ [x])) ea' h2 (by simp) ⟨na', _, upd_same, hws.append (.cons p2 .nil)⟩
            exact ⟨a, ws, w, rfl, rfl, ha', small1000 (by rw [hws.length]; omega), k _ _ _ _ h3 ((x1.trans x2).trans x3) Rp.non⟩
          · cases ec
        · cases ec
      · cases ec
    · cases ec
/-- a[i] = e, a list -/
def sPut (c co ci : Cd) : CdS := fun en S => (c en S).bind fun p => (co en p.2).bind fun q => (ci en q.2).bind fun w => match p.1, q.1, w.1 with
  | .d x, .c k, .d (.int j) => match w.2[k]? with
    | some (.lst ds) => (ixN ds.length j).map fun n => (.nx, en, w.2.set k (.lst (ds.set n x)))
    | _ => none
  | _, _, _ => none
theorem zPut {tp : Pos} (he : PE X e (tE X.K c)) (ho : PE X o (tE X.K co)) (hi : PE X i (tE X.K ci))
    (ha : ∀ v, assign (.Subscript o i tp) X.env v = (do
      let ov ← holding [v] (eval o X.env)
      let iv ← holding [v, ov] (eval i X.env)
      standAt tp
      holding [v, ov, iv] (setItem ov iv v)
      release [v, ov, iv] []) := by intro _; rfl)
    (hs : swapsWithSole [.Subscript o i tp] e pos.line X.env = pure false := by rfl) (hw : swappedStores [.Subscript o i tp] e X.env = pure none := by rfl)
    (h1 : (assignEach [.Subscript o i tp] X.env).map (·.2) = [assign (.Subscript o i tp) X.env] := by rfl) : PS X (.Assign [.Subscript o i tp] e pos) (tS X.K (sPut c co ci)) :=
  (ps_asg he (pg_sub ho hi set_list ha) hs hw h1).weak fun D σ H ⟨F, A, S, en, fl, en', S', hs, he, ec, k⟩ => by
    obtain ⟨⟨r1, S1⟩, e1, ec⟩ := Option.bind_eq_some_iff.mp ec
    obtain ⟨⟨r2, S2⟩, e2, ec⟩ := Option.bind_eq_some_iff.mp ec
    obtain ⟨⟨r3, S3⟩, e3, ec⟩ := Option.bind_eq_some_iff.mp ec
    refine ⟨F, A, S, en, r1, S1, hs, he, e1, fun v H1 F1 A1 hs1 x1 p1 => ⟨F1, A1, S1, en, r2, S2, hs1, he.ext x1, e2, fun ov H2 F2 A2 hs2 x2 p2 => ⟨F2, A2, S2, en, r3, S3, hs2, (he.ext x1).ext x2, e3, fun iv H3 F3 A3 hs3 x3 p3 => ?_⟩⟩⟩
    split at ec
    · rename_i x kk j h1 h2 h3
      have h1' : r1 = .d x := h1
      have h2' : r2 = .c kk := h2
      have h3' : r3 = .d (.int j) := h3
      subst h1' h2' h3'
      split at ec
      · rename_i ds h0
        obtain ⟨n, en1, ec⟩ := Option.map_eq_some_iff.mp ec
        cases ec
        cases p3
        obtain ⟨a, vs, rfl, ea, na, ha, hvs⟩ := hs3.cellL (p2.ext x3) h0
        have p1' := (p1.ext x2).ext x3
        obtain ⟨h4, x4⟩ := hs3.put (o := .lst (vs.set n v)) (so' := .lst (ds.set n x)) ea h0 (by simp) ⟨na, _, upd_same, Rps.set p1' n hvs⟩
        have xx := ((x1.trans x2).trans x3).trans x4
        exact ⟨a, vs, j, n, rfl, rfl, ha, by rw [hvs.length]; exact en1, k _ _ _ _ h4 xx (he.ext xx)⟩
      · cases ec
    · cases ec
/-! ### d[k] = e, tuples of texts as keys -/
def putTD (ds : List (Dt × Dt)) (k : List Str) (v : Dt) : List (Dt × Dt) := if (lookT ds k).isSome then ds.map (fun p => if keyT p.1 = some k then (p.1, v) else p) else ds ++ [(.tup (k.map .str), v)]
theorem replT_rp {K F} {k : List Str} {v : V} {d : Dt} (hv : Rp K F v d) : ∀ {kvs : List (List Key × V)} {ds : List (Dt × Dt)}, RpT K F kvs ds →
    RpT K F (kvs.map fun kv => if kv.1 = k.map Sum.inr then (kv.1, v) else kv) (ds.map fun p => if keyT p.1 = some k then (p.1, d) else p)
  | _, _, .nil => .nil
  | _, _, .cons (k := k') h t => by
    have ih := replT_rp (k := k) hv t
    rw [List.map_cons, List.map_cons]
    by_cases e : k' = k
    · subst e
      rw [if_pos rfl, if_pos (by show strsOf _ = _; exact strsOf_map _)]
      exact .cons hv ih
    · rw [if_neg (fun z => e (inr_inj (by simpa using z))), if_neg (by show ¬ strsOf _ = _; rw [strsOf_map]; simpa using e)]
      exact .cons h ih
theorem snocT_rp {K F} {k : List Str} {v : V} {d : Dt} (hv : Rp K F v d) : ∀ {kvs : List (List Key × V)} {ds : List (Dt × Dt)}, RpT K F kvs ds → RpT K F (kvs ++ [(k.map Sum.inr, v)]) (ds ++ [(.tup (k.map .str), d)])
  | _, _, .nil => .cons hv .nil
  | _, _, .cons h t => .cons h (snocT_rp hv t)
theorem putTD_rp {K F} {kvs : List (List Key × V)} {ds : List (Dt × Dt)} {k : List Str} {v : V} {d : Dt} (h : RpT K F kvs ds) (hv : Rp K F v d) : RpT K F (putK kvs (k.map .inr) v) (putTD ds k d) := by
  have ho := orp_some (lookT_rp k h)
  unfold putK putTD
  rw [valV_any, ho]
  split
  · exact replT_rp hv h
  · exact snocT_rp hv h
def sPutT (c co ci : Cd) : CdS := fun en S => (c en S).bind fun p => (co en p.2).bind fun q => (ci en q.2).bind fun w => match p.1, q.1, w.1 with
  | .d x, .c k, kr => match w.2[k]? with
    | some (.dT ds) => (get w.2 kr).bind fun kd => (keyT kd).bind fun ks => if ds.length < 1000 then some (.nx, en, w.2.set k (.dT (putTD ds ks x))) else none
    | _ => none
  | _, _, _ => none
theorem zPutT {kk : Nat} {tp : Pos} (hr : Room kk X.A) (he : PE X e (tE X.K c)) (ho : PE X o (tE X.K co)) (hi : PE X i (tE X.K ci)) (hs : swapsWith e (some (.Subscript o i tp)) pos.line X.env = pure false := by rfl) :
    PS X (.Assign [.Subscript o i tp] e pos) (tS X.K (sPutT c co ci)) :=
  (ps_dput (by have := hr.un; omega) ho hi he hs).weak fun D σ H ⟨F, A, S, en, fl, en', S', hs, he, ec, k⟩ => by
    obtain ⟨⟨r1, S1⟩, e1, ec1⟩ := Option.bind_eq_some_iff.mp ec
    obtain ⟨⟨r2, S2⟩, e2, ec2⟩ := Option.bind_eq_some_iff.mp ec1
    obtain ⟨⟨r3, S3⟩, e3, ec3⟩ := Option.bind_eq_some_iff.mp ec2
    clear ec ec1 ec2
    refine ⟨F, A, S, en, r1, S1, hs, he, e1, fun v H1 F1 A1 hs1 x1 p1 => ⟨F1, A1, S1, en, r2, S2, hs1, he.ext x1, e2, fun ov H2 F2 A2 hs2 x2 p2 => ⟨F2, A2, S2, en, r3, S3, hs2, (he.ext x1).ext x2, e3, fun iv H3 F3 A3 hs3 x3 p3 => ?_⟩⟩⟩
    split at ec3
    · rename_i kr x j h1 h2
      have h1' : r1 = .d x := h1
      have h2' : r2 = .c j := h2
      subst h1' h2'
      split at ec3
      · rename_i ds h0
        obtain ⟨kd, ek, ec4⟩ := Option.bind_eq_some_iff.mp ec3
        obtain ⟨ks, eks, ec⟩ := Option.bind_eq_some_iff.mp ec4
        split at ec
        · rename_i hl
          cases ec
          obtain ⟨b, rfl, hb⟩ := hs3.rdKey p3 ek eks
          obtain ⟨a, vs, rfl, ea, na, ha, hvs⟩ := hs3.cellT (p2.ext x3) h0
          have p1' := (p1.ext x2).ext x3
          obtain ⟨h4, x4⟩ := hs3.put (o := .dT (putK vs (ks.map .inr) v)) (so' := .dT (putTD ds ks x)) ea h0 (by simp) ⟨na, _, upd_same, putTD_rp hvs p1'⟩
          have xx := ((x1.trans x2).trans x3).trans x4
          exact ⟨a, _, rfl, DPut.t ha hb (small1000 (by rw [hvs.len]; omega)), k _ _ _ _ h4 xx (he.ext xx)⟩
        · cases ec
      · cases ec3
    · cases ec3
end
/-! ### dict(pairs) -/
def pairK : List Dt → Option (List (Str × Dt))
  | [] => some []
  | d :: ds => match tupV d with
    | some [.str k, v] => (pairK ds).map ((k, v) :: ·)
    | _ => none
def putKD (ds : List (Dt × Dt)) (k : Str) (v : Dt) : List (Dt × Dt) := if (lookK ds k).isSome then ds.map (fun p => if keyK p.1 = some k then (p.1, v) else p) else ds ++ [(.str k, v)]
theorem replK_rp {K F} {k : Str} {v : V} {d : Dt} (hv : Rp K F v d) : ∀ {kvs : List (Key × V)} {ds : List (Dt × Dt)}, RpK K F kvs ds →
    RpK K F (kvs.map fun kv => if kv.1 = Sum.inr k then (kv.1, v) else kv) (ds.map fun p => if keyK p.1 = some k then (p.1, d) else p)
  | _, _, .nil => .nil
  | _, _, .cons (k := k') h t => by
    have ih := replK_rp (k := k) hv t
    rw [List.map_cons, List.map_cons]
    by_cases e : k' = k
    · subst e
      rw [if_pos rfl, if_pos (show keyK (Dt.str k') = some k' from rfl)]
      exact .cons hv ih
    · rw [if_neg (fun z => e (by simpa using z)), if_neg (by simp [keyK, e])]
      exact .cons h ih
theorem snocK_rp {K F} {k : Str} {v : V} {d : Dt} (hv : Rp K F v d) : ∀ {kvs : List (Key × V)} {ds : List (Dt × Dt)}, RpK K F kvs ds → RpK K F (kvs ++ [(Sum.inr k, v)]) (ds ++ [(.str k, d)])
  | _, _, .nil => .cons hv .nil
  | _, _, .cons h t => .cons h (snocK_rp hv t)
theorem putKD_rp {K F} {kvs : List (Key × V)} {ds : List (Dt × Dt)} {k : Str} {v : V} {d : Dt} (h : RpK K F kvs ds) (hv : Rp K F v d) : RpK K F (putK kvs (.inr k) v) (putKD ds k d) := by
  have ho := orp_some (lookK_rp k h)
  unfold putK putKD
  rw [valV_any, ho]
  split
  · exact replK_rp hv h
  · exact snocK_rp hv h
def mergeKD (acc : List (Dt × Dt)) : List (Str × Dt) → List (Dt × Dt)
  | [] => acc
  | (k, v) :: r => mergeKD (putKD acc k v) r
/-- a list of pairs, or a tuple whose object is known -/
def PairSeq (K : PySem.W.Frag) (H : Hp) (a : Addr) (xs : List V) : Prop := SqL K H a xs ∨ ∃ ob, H a = some (.frz ob (.tup xs)) ∧ ob.dict = none
def rDictK (K : PySem.W.Frag) : List V → Hp → VK → Prop := fun xs H Q => ∃ (a : Addr) (ps : List Addr) (kvs : List (Key × V)), xs = [.ref a] ∧ PairSeq K H a (ps.map V.ref) ∧ Paired (fun p kv => SqT K H p [kV kv.1, kv.2]) ps kvs ∧
    ∀ p, H p = none → Q (.ref p) (upd H p (.dK (mergeK [] kvs)))
theorem pairs_vals {X : Cx} {pins : List (Addr × Obj)} {σ : L2.St} {H : Hp} {s : Shared} (I : Inv X pins σ H s) : ∀ {ps : List Addr} {kvs : List (Key × V)}, Paired (fun p kv => SqT X.K H p [kV kv.1, kv.2]) ps kvs →
    ∃ (pv : List (Value × Value)) (prs : List (Key × Value)), KV kvs prs ∧ pv.length = ps.length ∧ prs.length = ps.length ∧ ∀ (j : Nat) u y, pv[j]? = some (u, y) → ∃ k b, prs[j]? = some (k, y) ∧ ps[j]? = some b ∧ IsTup s.heap b #[u, y] ∧ keyIs k u = true
  | _, _, .nil => ⟨[], [], .nil, rfl, rfl, fun j u y e => by simp at e⟩
  | _, _, .cons (a := p) (b := kv) h t => by
    obtain ⟨pv, prs, r, l1, l2, hp⟩ := pairs_vals I t
    obtain ⟨its, rv, ht, _⟩ := I.tuple h
    obtain ⟨u, y, rfl, ru, ry⟩ := vals2 rv
    refine ⟨(u, y) :: pv, (kv.1, y) :: prs, .cons ⟨rfl, ry⟩ r, by simp [l1], by simp [l2], fun j u' y' e => ?_⟩
    cases j with
    | zero =>
      simp at e
      obtain ⟨rfl, rfl⟩ := e
      exact ⟨kv.1, p, rfl, rfl, ht, kV_is (P := X.prog) (w := X.w) ru⟩
    | succ j => simpa using hp j u' y' (by simpa using e)
theorem clDictK {X : Cx} (hc : X.calm = true) : CallR X (.type "dict") (rDictK X.K) := by
  rintro pins s σ H xs us Q I r ⟨a, ps, kvs, rfl, hq, hp, q⟩
  rcases hq with hq | ⟨ob, hq, hd⟩
  · exact call_dictP hc pins s σ H _ us Q I r ⟨a, ps, kvs, rfl, hq, hp, q⟩
  · obtain ⟨u, rfl, rx⟩ := vals1 r
    cases rx
    obtain ⟨ho, hz, its, rv, ob', ho', hcl, n, hdat⟩ := (show ObjOk X.prog X.w H s.heap a (.frz ob (.tup (ps.map V.ref))) from I.hok a _ hq)
    rw [ho] at ho'; cases ho'
    have ei := refs_at rv
    subst ei
    rw [List.length_map] at hz
    obtain ⟨pv, prs, rel, l1, l2, hpr⟩ := pairs_vals I hp
    have hpi : PairItems s.heap (ps.map Value.ref).toArray (fun j => ps.getD j 0) pv := by
      refine ⟨by simp [l1], fun j k v e => ?_⟩
      obtain ⟨kk, b, e1, e2, e3, e4⟩ := hpr j k v e
      exact ⟨by simp [e2], .inl (by simpa [List.getD, e2] using (show s.heap.IsTuple b #[k, v] from e3))⟩
    refine PySem.call_dict_pairs (knd := mixKind X.prog X.w) (kvs := prs) (PairArg.tuple a (ps.map Value.ref).toArray (fun j => ps.getD j 0) pv) (I.ok.hd hc) ⟨⟨ob, n, ho, hcl, hd, hdat⟩, hpi⟩ ⟨by rw [l1, l2], fun j key v e => ?_⟩ (by rw [l1]; exact hz) fun h' tk hd' kp => ?_
    · obtain ⟨kk, b, e1, e2, e3, e4⟩ := hpr j key v e
      exact ⟨kk, e1, e4⟩
    · have hm : (s.heap.objs.size == sysModules) = false := beq_eq_false_iff_ne.mpr (Nat.ne_of_gt I.big)
      have hlen : (mergeK [] kvs).length ≤ sizeLine := Nat.le_trans (length_mergeK kvs []) (by rw [List.length_nil, Nat.zero_add, rel.length, l2]; exact hz)
      exact ⟨.ref s.heap.objs.size, upd H s.heap.objs.size (.dK (mergeK [] kvs)), I.laid (t' := tk) (fun b o e => kp b o (by simp) e) (Nat.le_refl _) (show ObjOk X.prog X.w _ _ _ (.dK (mergeK [] kvs)) from ⟨hlen, hm, merged [] prs, KV.merge rel .nil, hd'⟩), rfl, q _ (I.hok.fresh (Nat.le_refl _))⟩
theorem mergeKD_rp {K F} : ∀ {kvs : List (Key × V)} {ps : List (Str × Dt)} {acc : List (Key × V)} {ad : List (Dt × Dt)}, Paired (fun kv p => kv.1 = Sum.inr p.1 ∧ Rp K F kv.2 p.2) kvs ps → RpK K F acc ad → RpK K F (mergeK acc kvs) (mergeKD ad ps)
  | _, _, _, _, .nil, h => h
  | (k, v) :: kvs, (k', d) :: ps, acc, ad, .cons r t, h => by
    obtain ⟨rfl, hv⟩ := r
    show RpK K F (mergeK (putK acc (.inr k') v) kvs) (mergeKD (putKD ad k' d) ps)
    exact mergeKD_rp t (putKD_rp h hv)
/-- a sequence handed to dict() -/
def pairV : Dt → Option (List Dt)
  | .lst ds => some ds
  | .tup ds => if ds.all isStr then none else some ds
  | .tup0 => some []
  | _ => none
theorem HSt.rdPairs {K F A H S} {v : V} {r : R} {d : Dt} {ds : List Dt} (h : HSt K F A H S) (q : RpR K F A v r) (g : get S r = some d) (t : pairV d = some ds) (nk : ∀ i j, ds ≠ [.int i, .int j]) : ∃ a xs, v = .ref a ∧ PairSeq K H a xs ∧ Rps K F xs ds := by
  unfold pairV at t
  split at t
  · cases t
    obtain ⟨a, xs, rfl, e, u⟩ := h.rdL q g
    exact ⟨a, xs, rfl, .inl (.inl (.inl e)), u⟩
  · split at t <;> cases t
    rename_i hn
    cases r with
    | d x =>
      cases g
      cases q with
      | tupS c _ _ => exact absurd c hn
      | tupP c e n u => exact ⟨_, _, rfl, .inr ⟨_, h.sub _ _ e, n⟩, u⟩
      | kt e => exact absurd rfl (nk _ _)
    | s ns => cases g
    | c k =>
      obtain ⟨so, e1, e2⟩ := Option.bind_eq_some_iff.mp g
      cases so <;> cases e2
  · cases t
    cases r with
    | d x =>
      cases g
      cases q with
      | tup0 e n => exact ⟨_, _, rfl, .inr ⟨_, h.sub _ _ e, n⟩, .nil⟩
    | s ns => cases g
    | c k =>
      obtain ⟨so, e1, e2⟩ := Option.bind_eq_some_iff.mp g
      cases so <;> cases e2
  · cases t
theorem pairK_rp {K F H} (sub : Ge F H) : ∀ {ds : List Dt} {xs : List V} {ps : List (Str × Dt)}, Rps K F xs ds → pairK ds = some ps →
    ∃ (as : List Addr) (kvs : List (Key × V)), xs = as.map V.ref ∧ Paired (fun p kv => SqT K H p [kV kv.1, kv.2]) as kvs ∧ Paired (fun kv p => kv.1 = Sum.inr p.1 ∧ Rp K F kv.2 p.2) kvs ps
  | [], _, _, .nil, h => by cases h; exact ⟨[], [], rfl, .nil, .nil⟩
  | d :: ds, _, _, .cons hv t, h => by
    unfold pairK at h
    split at h
    · rename_i k v ht
      obtain ⟨ps, e, rfl⟩ := Option.map_eq_some_iff.mp h
      obtain ⟨as, kvs, rfl, h1, h2⟩ := pairK_rp sub t e
      have fin : ∀ {a : Addr} {xs : List V}, SqT K H a xs → Rps K F xs [.str k, v] → ∃ (as' : List Addr) (kvs' : List (Key × V)), V.ref a :: as.map V.ref = as'.map V.ref ∧ Paired (fun p kv => SqT K H p [kV kv.1, kv.2]) as' kvs' ∧ Paired (fun kv p => kv.1 = Sum.inr p.1 ∧ Rp K F kv.2 p.2) kvs' ((k, v) :: ps) := fun {a xs} hs hx => by
        cases hx with
        | cons hk tt => cases tt with
          | cons hw tt =>
            cases tt
            cases hk
            exact ⟨a :: as, (Sum.inr k, _) :: kvs, rfl, .cons hs h1, .cons ⟨rfl, hw⟩ h2⟩
      cases hv with
      | tupS _ e1 u => cases ht; exact fin (.inl (.inl (sub _ _ e1))) u
      | tupP _ e1 _ u => cases ht; exact fin (.inl (.inr ⟨_, sub _ _ e1⟩)) u
      | tup0 e1 _ => cases ht
      | pr e1 u => cases ht; exact fin (.inl (.inl (sub _ _ e1))) u
      | kt e1 => cases ht
      | _ => cases ht
    · cases h
section
variable {X : Cx} {e : Expr} {c : Cd} {pos p : Pos} {x : Str}
def cDictK (c : Cd) : Cd := fun en S => (c en S).bind fun q => (get q.2 q.1).bind fun d => (pairV d).bind fun ds => (pairK ds).map fun ps => (.d (.dK (mergeKD [] ps)), q.2)
theorem oDictK (hc : X.calm = true) (hg : Gl X x) (hm : X.mg x = none) (hv : bootBuiltins x = some (.type "dict")) (he : PE X e (tE X.K c)) (hn : x ≠ "__name__" := by decide) (hdb : (x == ("__debug__" : Str)) = false := by decide)
    (hst : starEach [e] X.env = (false, eval e X.env) :: starEach [] X.env := by rfl) (hpl : (backTo pos (starEach [] X.env)).any (·.1) = false := by rfl) : PE X (.Call (.Name x p) [e] [] pos) (tE X.K (cDictK c)) :=
  (pe_lk (pe_callTy (clDictK hc) hg hm hv (pa_cons he pa_nil hst) hn hdb hst hpl)).weak fun σ H Q ⟨F, A, S, en, r, S', hs, he, ec, k⟩ => by
    obtain ⟨⟨r1, S1⟩, e1, ec⟩ := Option.bind_eq_some_iff.mp ec
    obtain ⟨d, ed, ec⟩ := Option.bind_eq_some_iff.mp ec
    obtain ⟨ds, eds, ec⟩ := Option.bind_eq_some_iff.mp ec
    obtain ⟨ps, eps, ec⟩ := Option.map_eq_some_iff.mp ec
    cases ec
    refine ⟨F, A, S, en, r1, S1, hs, he, e1, fun v H1 F1 A1 hs1 x1 p1 => ?_⟩
    obtain ⟨a, xs, rfl, hq, hx⟩ := hs1.rdPairs p1 ed eds (fun i j z => by subst z; cases eps)
    obtain ⟨as, kvs, rfl, h1, h2⟩ := pairK_rp hs1.sub hx eps
    refine ⟨a, as, kvs, rfl, hq, h1, fun p np => ⟨p, _, rfl, upd_same, trivial, fun od => ?_⟩⟩
    rw [upd_upd]
    obtain ⟨h3, x3⟩ := hs1.lay (o := .frz od (.dK (mergeK [] kvs))) np
    exact k _ _ _ _ h3 (x1.trans x3) (Rp.dK upd_same ((mergeKD_rp h2 .nil).mono x3.ge))
end
end OA
namespace OA
open PySem PySem.Spec PyProof.Rows L2
/-- what a name holds is frozen from here on -/
def sFz (i : Nat) (c : CdS) : CdS := fun en S => match en[i]? with
  | some (some (.c k)) => (S[k]?).bind fun o => o.val.bind fun x => c (en.set i (some (.d x))) (S.set k .gone)
  | _ => c en S
theorem EnvR.setS {K : PySem.W.Frag} {F : Hp} {A : List Addr} {σ : L2.St} {en : En} {i : Nat} {v : V} {r : R} (h : EnvR K F A σ en) (e : σ[i]? = some (some v)) (q : RpR K F A v r) : EnvR K F A σ (en.set i (some r)) := ⟨by simp [h.1], fun j r' ej => by
  by_cases hj : i = j
  · subst hj
    by_cases hl : i < en.length
    · rw [List.getElem?_set_self hl] at ej
      cases ej
      exact ⟨v, e, q⟩
    · rw [List.getElem?_eq_none (by simp; omega)] at ej; cases ej
  · rw [List.getElem?_set_ne hj] at ej
    exact h.2 j r' ej⟩
theorem zFz {X : Cx} {st : Stmt} {i : Nat} {c : CdS} (h : PS X st (tS X.K c)) : PS X st (tS X.K (sFz i c)) := by
  refine ⟨fun pins s σ H D I ⟨F, A, S, en, fl, en', S', hs, he, ec, k⟩ => ?_⟩
  unfold sFz at ec
  split at ec
  · rename_i j ej
    obtain ⟨o, eo, ec⟩ := Option.bind_eq_some_iff.mp ec
    obtain ⟨x, ex, ec⟩ := Option.bind_eq_some_iff.mp ec
    obtain ⟨v, ev, a, ea, rfl⟩ := he.2 i _ ej
    obtain ⟨a', ea', hc⟩ := Paired.getR hs.cells eo
    rw [ea] at ea'; cases ea'
    have go : ∀ (H2 : Hp) (F2 : Hp), HSt X.K F2 A H2 (S.set j .gone) → Ext F A H F2 A H2 → Rp X.K F2 (.ref a) x → Inv X pins σ H2 s → wpAny (model X.prog X.w) X.A (exec st X.env) (SP X pins D) X.xe s := by
      intro H2 F2 hs2 x2 p2 I2
      refine h.run pins s σ H2 D I2 ⟨F2, A, _, _, fl, en', S', hs2, EnvR.setS (r := .d x) (he.ext x2) ev p2, ec, ?_⟩
      cases fl with
      | nx => exact fun σ' H' F' A' hs' x' he' => k σ' H' F' A' hs' (x2.trans x') he'
      | ret r => exact fun v H' F' A' hs' x' p' => k v H' F' A' hs' (x2.trans x') p'
      | bk => exact fun σ' H' F' A' hs' x' he' => k σ' H' F' A' hs' (x2.trans x') he'
      | ct => exact fun σ' H' F' A' hs' x' he' => k σ' H' F' A' hs' (x2.trans x') he'
    cases o with
    | gone => cases ex
    | lst ds =>
      cases ex
      obtain ⟨_, vs, e3, t⟩ := hc
      obtain ⟨hs2, x2⟩ := hs.frz (o := .lst vs) ea eo (by simp)
      have eH : upd H a (.lst vs) = H := by
        funext b
        by_cases hb : b = a
        · subst hb; rw [upd_same, e3]
        · rw [upd_ne hb]
      rw [eH] at hs2 x2
      exact go H _ hs2 x2 (Rp.lst upd_same (t.mono x2.ge)) I
    | dK ds =>
      obtain ⟨_, vs, e3, t⟩ := hc
      obtain ⟨od, I2⟩ := I.lock e3 trivial
      obtain ⟨hs2, x2⟩ := hs.frz (o := .frz od (.dK vs)) ea eo (by simp)
      cases ex
      exact go _ _ hs2 x2 (Rp.dK upd_same (t.mono x2.ge)) I2
    | dT ds =>
      obtain ⟨_, vs, e3, t⟩ := hc
      obtain ⟨od, I2⟩ := I.lock e3 trivial
      obtain ⟨hs2, x2⟩ := hs.frz (o := .frz od (.dT vs)) ea eo (by simp)
      cases ex
      exact go _ _ hs2 x2 (Rp.dT upd_same (t.mono x2.ge)) I2
  · exact h.run pins s σ H D I ⟨F, A, S, en, fl, en', S', hs, he, ec, k⟩
end OA
namespace OA
open PySem PyProof.Rows Srt SrtO L2
/-! ### sorted(), of lists and tuples -/
section
variable {prog : Program} {w : World} {A : Around} {E : Value → Shared → Prop} {s : Shared}
abbrev heapC (h : Heap) (vs : List Value) : Heap := (h.push (seqObj "list" #[] 0)).update h.objs.size (Obj.mapSeq (· ++ vs.toArray))
theorem collT {l : Addr} {vs : List Value} {Q : List Value → Shared → Prop} (hl : IsTup s.heap l vs.toArray) (hz : vs.length ≤ sizeLine) (h : Q vs { s with heap := heapC s.heap vs }) : wpAny (model prog w) A (collect (.ref l)) Q E s := by
  obtain ⟨o, ho, hc, n, hd⟩ := hl
  have ho2 : (s.heap.push (seqObj "list" #[] 0)).get? l = some o := Heap.get?_push_of_some _ ho
  have hn : (s.heap.push (seqObj "list" #[] 0)).get? s.heap.objs.size = some (seqObj "list" #[] 0) := Heap.get?_push_size _ rfl
  have ht : (Builtin.List.listSameRef (.ref s.heap.objs.size) (.ref l) || Value.type "tuple" == Value.type "list" || Value.type "tuple" == Value.type "tuple") = true := by
    rw [show (Value.type "tuple" == Value.type "tuple") = true by rfl, Bool.or_true]
  have last : wpAny (model prog w) A (do
      let o ← load s.heap.objs.size
      match o.data with
      | .seq xs _ => pure xs.toList
      | _ => unsupported "internal:collect") Q E { s with heap := heapC s.heap vs } := by
    refine wpAny_bind (wpAny_load (get?_update_seq hn _) ?_)
    show wpAny _ _ (pure ((#[] : Array Value) ++ vs.toArray).toList) Q E _
    rw [show ((#[] : Array Value) ++ vs.toArray).toList = vs by simp]; exact wpAny_pure h
  unfold collect
  refine wpAny_bind (wpAny_runValue (codeAny_builtin entry_proto_collect' (show wpAny _ _ (do again (.builtin "list.__iadd__" ⟨[← newList [], .ref l], []⟩)) _ _ s from ?_)))
  refine wpAny_bind (wpAny_newList (wpAny_pure ⟨Code.quiet_builtin _ (by decide +kernel), codeAny_builtin entry_list_iadd' (show wpAny _ _ (Builtin.List.listExtendWith (.ref s.heap.objs.size) (.ref l) (.ref s.heap.objs.size)) _ _ { s with heap := s.heap.push (seqObj "list" #[] 0) } from ?_)⟩))
  unfold Builtin.List.listExtendWith
  refine wpAny_bind (wpAny_typeOf (T := "tuple") ⟨o, ho2, hc⟩ ?_)
  rw [if_pos ht]
  refine wpAny_bind (listItems_at ho2 hd (wpAny_bind (listItems_at (xs := #[]) (n := 0) hn rfl ?_)))
  rw [if_neg (by simp)]
  exact wpAny_bind (listUpdate_at (xs := #[]) (n := 0) hn rfl (wpAny_pure last) (Nat.zero_le _) (by show (#[] ++ vs.toArray).size ≤ sizeLine + 1; simp only [Array.size_append, List.size_toArray, List.length_nil]; omega))
theorem collL {l : Addr} {vs : List Value} {Q : List Value → Shared → Prop} (hl : s.heap.IsList l vs.toArray) (hz : vs.length ≤ sizeLine) (h : Q vs { s with heap := heapC s.heap vs }) : wpAny (model prog w) A (collect (.ref l)) Q E s := collect_list hl h hz
set_option maxHeartbeats 4000000 in
theorem sorted_at {v : Value} {vs : List Value} {ltv : Value → Value → Bool} {Q : Value → Shared → Prop} (O : Swo ltv) (hc : ∀ Q' : List Value → Shared → Prop, Q' vs { s with heap := heapC s.heap vs } → wpAny (model prog w) A.in1 (collect v) Q' E s) (hz : vs.length ≤ sizeLine)
    (hS : 2 ≤ vs.length → ∀ (h1 : Heap) (a : Addr), h1.get? a = some (seqObj "list" vs.toArray 0) → (∀ b o, s.heap.get? b = some o → b ≠ a ∧ h1.get? b = some o) → SortableO prog w A.in1.in1 { s with heap := h1 } a vs ltv)
    (h : ∀ out : List Value, Srtd ltv out → Stb ltv out vs → Q (.ref (s.heap.objs.size + 1)) { s with heap := sortedAll s.heap vs out.toArray }) : wpAny (model prog w) A (call (.builtin "sorted") [v]) Q E s := by
  have hsz : (heapC s.heap vs).objs.size = s.heap.objs.size + 1 := by rw [Heap.size_update, size_push']
  have hoL : ((heapC s.heap vs).push (seqObj "list" vs.toArray 0)).get? (s.heap.objs.size + 1) = some (seqObj "list" vs.toArray 0) := hsz ▸ Heap.get?_push_size _ rfl
  have keep : ∀ b o, s.heap.get? b = some o → b ≠ s.heap.objs.size + 1 ∧ ((heapC s.heap vs).push (seqObj "list" vs.toArray 0)).get? b = some o := fun b o q => by
    have hlt := Heap.lt_size q
    refine ⟨Nat.ne_of_lt (Nat.lt_succ_of_lt hlt), Heap.get?_push_of_some _ ?_⟩
    rw [Heap.get?_update_ne _ _ _ _ (Nat.ne_of_lt hlt)]; exact Heap.get?_push_of_some _ q
  refine Calls.call_function_entry kind_sorted plain_sorted entry_sorted (args_sorted1 _) (show wpAny _ _ (Builtin.«sorted» _) _ _ _ from ?_)
  unfold Builtin.«sorted»
  refine wpAny_bind (m := checkCount "sorted" 1 1 _) (wpAny_pure (wpAny_bind (hc _ (wpAny_bind (wpAny_newList ?_ hz)))))
  show wpAny _ _ _ _ _ { s with heap := (heapC s.heap vs).push (seqObj "list" vs.toArray 0) }
  rw [hsz]
  exact wpAny_bind (wpAny_holding (wpAny_call_entry slot_list_sort ⟨_, hoL, rfl⟩ entry_list_sort (list_sort_ord O hoL hz (fun h2 => hS h2 _ _ hoL keep) fun out hs hb => ⟨_, rfl, wpAny_pure ⟨_, rfl, h out hs hb⟩⟩) (args_list_sort _)))
def ltN (k : Value → Str) (v u : Value) : Bool := decide ((k v).cps.toList < (k u).cps.toList)
theorem swoN (k : Value → Str) : Swo (ltN k) := by
  refine ⟨fun x y h => ?_, fun x y z h1 h2 => ?_⟩
  · unfold ltN at *
    exact decide_eq_false (List.lt_asymm (of_decide_eq_true h))
  · unfold ltN at *
    have a := of_decide_eq_false h1
    have b := of_decide_eq_false h2
    rw [List.not_lt] at a b
    exact decide_eq_false (List.not_lt.mpr (List.le_trans a b))
def IsRowV (h : Heap) (v : Value) (n : Str) : Prop := ∃ a o items m tk r, v = .ref a ∧ h.get? a = some o ∧ o.cls = .type "tuple" ∧ o.data = .seq items m ∧ items.toList = .str n tk :: r
theorem IsRowV.keeps {h h' : Heap} {v : Value} {n : Str} (p : IsRowV h v n) (k : ∀ b o, h.get? b = some o → o.cls = .type "tuple" → h'.get? b = some o) : IsRowV h' v n := by
  obtain ⟨a, o, it, m, tk, r, e, ho, hc, hd, hi⟩ := p
  exact ⟨a, o, it, m, tk, r, e, k _ _ ho hc, hc, hd, hi⟩
theorem kat_self {b : Bool} {Q : Bool → Shared → Prop} : ∀ (l : List Value) (i : Nat), Q false s → PySem.W.KatLex prog w A b false Q (l.zip l) i s
  | [], _, h => PySem.W.kat_nil h
  | v :: l, i, h => PySem.W.kat_cons (SeqAt.EqAt.same v prog w _ _ (PySem.W.kat_yes (kat_self l (i + 1) h)))
theorem row_cmp {vs : List Value} {k : Value → Str} (hp : ∀ v ∈ vs, IsRowV s.heap v (k v)) (hj : ∀ v ∈ vs, ∀ u ∈ vs, k v = k u → v = u) : Cmp prog w A s (tuples' true) (fun p => p.1 ∈ vs) (lt2 (ltN k)) := by
  intro p q hm hm'
  show wpAny (model prog w) A (keyLt' (tuples' true) p.1 q.1) (fun r s' => s' = s ∧ r = ltN k p.1 q.1) (fun _ _ => False) s
  by_cases e : k p.1 = k q.1
  · have e2 := hj _ hm _ hm' e
    rw [← e2]
    obtain ⟨a, o, it, m, tk, r, ev, ho, hc, hd, hi⟩ := hp _ hm
    have hr : ltN k p.1 p.1 = false := (swoN k).refl _
    rw [hr, ev]
    refine PySem.W.kat_lt ho hd ho hd ?_
    rw [decide_eq_false (Nat.lt_irrefl _)]
    exact kat_self _ 0 ⟨rfl, rfl⟩
  · have h1 := hp _ hm
    have h2 := hp _ hm'
    unfold ltN
    generalize k p.1 = x at *
    generalize k q.1 = y at *
    obtain ⟨a, o, it, m, tk, r, ev, ho, hc, hd, hi⟩ := h1
    obtain ⟨a', o', it', m', tk', r', ev', ho', hc', hd', hi'⟩ := h2
    rw [ev, ev']
    refine PySem.W.kat_lt ho hd ho' hd' ?_
    rw [hi, hi', List.zip_cons_cons]
    refine PySem.W.kat_cons (SeqAt.EqAt.str_str x tk y tk' prog w _ _ ?_)
    rw [beq_eq_false_iff_ne.mpr e]
    exact PySem.W.kat_no (oneLt_str ⟨rfl, rfl⟩)
theorem row_firsts {h : Heap} {k : Value → Str} : ∀ {vs : List Value}, (∀ v ∈ vs, IsRowV h v (k v)) → ∃ fs : List Value, PySem.W.KatTups h vs fs ∧ fs.length = vs.length ∧ ∀ f ∈ fs, ∃ x t, f = Value.str x t
  | [], _ => ⟨[], PySem.W.KatTups.nil, rfl, fun _ hm => by simp at hm⟩
  | v :: vs, hp => by
    obtain ⟨fs, h1, h2, h3⟩ := row_firsts (vs := vs) fun u hu => hp u (List.mem_cons_of_mem _ hu)
    obtain ⟨a, o, it, m, tk, r, ev, ho, hc, hd, hi⟩ := hp v List.mem_cons_self
    subst ev
    have hi0 : it[0]? = some (.str (k (.ref a)) tk) := by rw [← Array.getElem?_toList, hi]; rfl
    refine ⟨.str (k (.ref a)) tk :: fs, PySem.W.KatTups.cons ho hc hd hi0 h1, by rw [List.length_cons, List.length_cons, h2], fun f hf => ?_⟩
    rcases List.mem_cons.mp hf with rfl | hf
    · exact ⟨_, _, rfl⟩
    · exact h3 f hf
theorem rows_srt {a : Addr} {vs : List Value} {k : Value → Str} (h0 : 0 < vs.length) (hp : ∀ v ∈ vs, IsRowV s.heap v (k v)) (hj : ∀ v ∈ vs, ∀ u ∈ vs, k v = k u → v = u) (ha : ∀ o, s.heap.get? a = some o → o.cls ≠ .type "tuple") : SortableO prog w A s a vs (ltN k) := by
  intro h' keep
  have hp' : ∀ v ∈ vs, IsRowV h' v (k v) := fun v hm => (hp v hm).keeps fun b o e c => keep b o (fun z => by subst z; exact ha o e c) e
  obtain ⟨fs, h1, h2, h3⟩ := row_firsts hp'
  refine ⟨tuples' true, fun Q E hq => ?_, row_cmp (s := { s with heap := h' }) hp' hj⟩
  refine PySem.W.kat_kind (T := .type "str") h1 (by omega) (fun f hm => ?_) (by rfl) ?_
  · obtain ⟨x, t, rfl⟩ := h3 f hm
    exact PySem.W.Looks.now
  · rw [show (Value.type "str" != Value.type "tuple") = true by first | decide +kernel | rfl | decide]
    exact hq
/-- texts -/
theorem strs_srt {a : Addr} {vs : List Value} {k : Value → Str} (h0 : 2 ≤ vs.length) (hp : ∀ v ∈ vs, ∃ t, v = .str (k v) t) : SortableO prog w A s a vs (ltN k) := by
  intro h' keep
  refine ⟨oneType', fun Q E hq => ?_, ?_⟩
  · have hs : ∀ us : List Value, (∀ v ∈ us, ∃ t, v = .str (k v) t) → StrsAre us (us.map k) := by
      intro us
      induction us with
      | nil => exact fun _ => .nil
      | cons v us ih =>
        intro h
        obtain ⟨t, e⟩ := h v List.mem_cons_self
        have := StrsAre.cons (k v) t (ih fun u hu => h u (List.mem_cons_of_mem _ hu))
        rw [← e] at this
        exact this
    match vs, h0, hp with
    | v1 :: v2 :: r, _, hp =>
      rw [keyKind_strs (hs _ hp)]
      exact wpAny_pure hq
  · intro p q hm hm'
    obtain ⟨t, e⟩ := hp _ hm
    obtain ⟨u, e'⟩ := hp _ hm'
    show wpAny (model prog w) A (keyLt' oneType' p.1 q.1) (fun r s' => s' = _ ∧ r = ltN k p.1 q.1) (fun _ _ => False) _
    unfold ltN
    generalize k p.1 = x at *
    generalize k q.1 = y at *
    rw [e, e', keyLt'_oneType]
    exact oneLt_str ⟨rfl, rfl⟩
end
end OA
namespace OA
open PySem PySem.Spec PyProof.Rows L2
/-! ### sorted by a text -/
section
variable {α β : Type}
def insK (k : α → Str) (x : α) : List α → List α
  | [] => [x]
  | y :: r => if leS (k x) (k y) then x :: y :: r else y :: insK k x r
def isortK (k : α → Str) : List α → List α
  | [] => []
  | x :: r => insK k x (isortK k r)
theorem insK_perm (k : α → Str) (x : α) : ∀ l, (insK k x l).Perm (x :: l)
  | [] => .refl _
  | y :: r => by
    unfold insK
    split
    · exact .refl _
    · exact ((insK_perm k x r).cons y).trans (.swap x y r)
theorem isortK_perm (k : α → Str) : ∀ l, (isortK k l).Perm l
  | [] => .refl _
  | x :: r => (insK_perm k x _).trans ((isortK_perm k r).cons x)
theorem insK_sorted (k : α → Str) (x : α) : ∀ l, l.Pairwise (fun a b => leS (k a) (k b) = true) → (insK k x l).Pairwise (fun a b => leS (k a) (k b) = true)
  | [], _ => by simp [insK]
  | y :: r, h => by
    unfold insK
    rw [List.pairwise_cons] at h
    split
    · rename_i hxy
      refine List.pairwise_cons.mpr ⟨fun z hz => ?_, List.pairwise_cons.mpr h⟩
      rcases List.mem_cons.mp hz with rfl | hz
      · exact hxy
      · exact leS_trans hxy (h.1 z hz)
    · rename_i hxy
      have hyx : leS (k y) (k x) = true := (leS_total (k x) (k y)).resolve_left hxy
      refine List.pairwise_cons.mpr ⟨fun z hz => ?_, insK_sorted k x r h.2⟩
      rcases List.mem_cons.mp ((insK_perm k x r).mem_iff.mp hz) with rfl | hz
      · exact hyx
      · exact h.1 z hz
theorem isortK_sorted (k : α → Str) : ∀ l, (isortK k l).Pairwise (fun a b => leS (k a) (k b) = true)
  | [] => .nil
  | x :: r => insK_sorted k x _ (isortK_sorted k r)
theorem insK_map (k : β → Str) (f : α → β) (x : α) : ∀ l, (insK (fun a => k (f a)) x l).map f = insK k (f x) (l.map f)
  | [] => rfl
  | y :: r => by
    rw [insK, List.map_cons, insK]
    split
    · rfl
    · rw [List.map_cons, insK_map k f x r]
theorem isortK_map (k : β → Str) (f : α → β) : ∀ l, (isortK (fun a => k (f a)) l).map f = isortK k (l.map f)
  | [] => rfl
  | x :: r => by rw [isortK, insK_map, isortK_map k f r]; rfl
theorem insK_congr {k k' : α → Str} (x : α) : ∀ l, k x = k' x → (∀ y ∈ l, k y = k' y) → insK k x l = insK k' x l
  | [], _, _ => rfl
  | y :: r, h, h2 => by
    rw [insK, insK, h, h2 y List.mem_cons_self, insK_congr x r h fun z hz => h2 z (List.mem_cons_of_mem _ hz)]
theorem isortK_congr {k k' : α → Str} : ∀ l, (∀ y ∈ l, k y = k' y) → isortK k l = isortK k' l
  | [], _ => rfl
  | x :: r, h => by
    rw [isortK, isortK, isortK_congr r fun z hz => h z (List.mem_cons_of_mem _ hz)]
    exact insK_congr x _ (h x List.mem_cons_self) fun y hy => h y (List.mem_cons_of_mem _ ((isortK_perm k' r).subset hy))
theorem sortK_is {k : α → Str} {ys xs : List α} (hp : ys.Perm xs) (hs : ys.Pairwise (fun a b => leS (k a) (k b) = true)) (hj : ∀ x ∈ xs, ∀ y ∈ xs, k x = k y → x = y) : ys = isortK k xs :=
  List.Perm.eq_of_pairwise (le := fun a b => leS (k a) (k b) = true) (fun a b ha hb h1 h2 => hj a (hp.subset ha) b ((isortK_perm k xs).subset hb) (leS_anti h1 h2)) hs (isortK_sorted k xs) (hp.trans (isortK_perm k xs).symm)
end
def nmD : Dt → Str
  | .tup (.str n :: _) => n
  | _ => ⟨#[]⟩
def isRowD : Dt → Bool
  | .tup (.str _ :: _) => true
  | _ => false
/-- a list or a tuple, its rows sorted by their names, all different -/
def fSortR : FL := fun S rs => match rs with
  | [a] => (get S a).bind fun d => (seqV d).bind fun ds => if ds.all isRowD = true ∧ (ds.map nmD).Nodup then some (.d (.lst (isortK nmD ds))) else none
  | _ => none
/-- a list or a tuple of texts, sorted -/
def fSortT : FL := fun S rs => match rs with
  | [a] => (get S a).bind fun d => (seqV d).bind fun ds => (strsOf ds).map fun xs => .d (.lst ((isortS xs).map .str))
  | _ => none
theorem leS_of_not {a b : Str} (h : ¬ b.cps.toList < a.cps.toList) : leS a b = true := by
  unfold leS
  rw [ltCps_eq, decide_eq_false h]; rfl
/-- where the key of a row stands -/
def rSortRow (K : PySem.W.Frag) : List V → Hp → VK → Prop := fun vs H Q => ∃ (a : Addr) (xs : List V) (k : V → Str), vs = [.ref a] ∧ (SqL K H a xs ∨ SqT K H a xs) ∧ (∀ x ∈ xs, ∃ t r, x = .ref t ∧ SqT K H t (.str (k x) :: r)) ∧ (∀ x ∈ xs, ∀ y ∈ xs, k x = k y → x = y) ∧
  ∀ (ys : List V) (p : Addr), ys.Pairwise (fun x y => leS (k x) (k y) = true) → ys.Perm xs → H p = none → Q (.ref p) (upd H p (.lst ys))
def rSortTx (K : PySem.W.Frag) : List V → Hp → VK → Prop := fun vs H Q => ∃ (a : Addr) (xs : List Str), vs = [.ref a] ∧ (SqL K H a (xs.map .str) ∨ SqT K H a (xs.map .str)) ∧
  ∀ (ys : List Str) (p : Addr), ys.Pairwise (fun x y => leS x y = true) → ys.Perm xs → H p = none → Q (.ref p) (upd H p (.lst (ys.map .str)))
section
variable {X : Cx}
theorem coll_any {X : Cx} {pins : List (Addr × Obj)} {σ : L2.St} {H : Hp} {s : Shared} {a : Addr} {xs : List V} (I : Inv X pins σ H s) (h : SqL X.K H a xs ∨ SqT X.K H a xs) : ∃ its : List Value, Vals xs its ∧ its.length ≤ sizeLine ∧
    ∀ (prog : Program) (w : World) (A : Around) (E : Value → Shared → Prop) (Q' : List Value → Shared → Prop), Q' its { s with heap := heapC s.heap its } → wpAny (model prog w) A (collect (.ref a)) Q' E s := by
  rcases h with h | h
  · obtain ⟨its, rv, hl, hz⟩ := I.list h
    have hz' : its.length ≤ sizeLine := by rw [← rv.length]; exact hz
    exact ⟨its, rv, hz', fun prog w A E Q' hq => collL hl.isList hz' hq⟩
  · obtain ⟨its, rv, hl, hz⟩ := I.tuple h
    have hz' : its.length ≤ sizeLine := by rw [← rv.length]; exact hz
    exact ⟨its, rv, hz', fun prog w A E Q' hq => collT hl hz' hq⟩
theorem cr_sortRow : CallR X (.builtin "sorted") (rSortRow X.K) := by
  intro pins s σ H vs us Q I r h
  obtain ⟨a, xs, k, rfl, hs, hx, hj, q⟩ := h
  obtain ⟨its, rv, hz, hc⟩ := coll_any I hs
  obtain ⟨u, rfl, ru⟩ := vals1 r
  obtain rfl : u = Value.ref a := ru
  obtain ⟨e1, e2⟩ := refs_back rv fun x m => by
    obtain ⟨t, _, e, _⟩ := hx x m
    exact ⟨t, e⟩
  have hrow : ∀ v ∈ its, IsRowV s.heap v (k (backV v)) := fun v hv => by
    obtain ⟨t, rfl⟩ := e2 v hv
    have hm : V.ref t ∈ xs := by rw [e1]; exact List.mem_map.mpr ⟨_, hv, rfl⟩
    obtain ⟨t', rr, e, ht⟩ := hx _ hm
    cases e
    obtain ⟨its2, r2, ⟨o, ho, hcl, n, hd⟩, _⟩ := I.tuple ht
    cases r2 with
    | cons hv1 r2 =>
      obtain ⟨tk, rfl⟩ := hv1
      exact ⟨t, o, _, n, tk, _, rfl, ho, hcl, hd, rfl⟩
  have hjv : ∀ v ∈ its, ∀ u ∈ its, k (backV v) = k (backV u) → v = u := fun v hv u hu e => by
    obtain ⟨t, rfl⟩ := e2 v hv
    obtain ⟨t2, rfl⟩ := e2 u hu
    have := hj (V.ref t) (by rw [e1]; exact List.mem_map.mpr ⟨_, hv, rfl⟩) (V.ref t2) (by rw [e1]; exact List.mem_map.mpr ⟨_, hu, rfl⟩) e
    cases this; rfl
  refine sorted_at (swoN fun v => k (backV v)) (fun Q' hq => hc _ _ _ _ Q' hq) hz (fun h2 h1 b hb kk => ?_) fun out h1 h2 => ?_
  · refine rows_srt (s := { s with heap := h1 }) (by omega) (fun v hm => (hrow v hm).keeps fun b o e _ => (kk b o e).2) hjv fun o e => ?_
    have e' := e.symm.trans hb
    cases e'
    intro c
    exact absurd (Value.type.inj c) (by decide)
  · have h3 : ∀ u ∈ out, ∃ a, u = Value.ref a := fun u hu => e2 u (h2.perm.mem_iff.mp hu)
    obtain ⟨n, hn⟩ := PyProof.Rows.sortedAll_at s.heap its out.toArray
    have hb : (out.map backV).Perm xs := by rw [e1]; exact h2.perm.map backV
    refine ⟨.ref (s.heap.objs.size + 1), upd H (s.heap.objs.size + 1) (.lst (out.map backV)), I.laid (t' := s.toks) (fun _ _ => PyProof.Rows.sortedAll_old) (Nat.le_succ _) ⟨?_, out, n, vals_back h3, hn⟩, rfl, q _ _ ?_ hb (I.hok.fresh (Nat.le_succ _))⟩
    · rw [hb.length_eq, rv.length]; exact hz
    · refine List.pairwise_map.mpr (h1.imp fun {x y} hh => leS_of_not ?_)
      exact of_decide_eq_false hh
theorem cr_sortTx : CallR X (.builtin "sorted") (rSortTx X.K) := by
  intro pins s σ H vs us Q I r h
  obtain ⟨a, xs, rfl, hs, q⟩ := h
  obtain ⟨its, rv, hz, hc⟩ := coll_any I hs
  obtain ⟨u, rfl, ru⟩ := vals1 r
  obtain rfl : u = Value.ref a := ru
  have key : ∀ {xs : List Str} {its : List Value}, Vals (xs.map V.str) its → (∀ v ∈ its, ∃ t, v = .str (match v with | .str x _ => x | _ => ⟨#[]⟩) t) ∧ xs = its.map (fun v => match v with | .str x _ => x | _ => ⟨#[]⟩) := by
    intro xs
    induction xs with
    | nil => intro its h; cases h; exact ⟨by simp, rfl⟩
    | cons x xs ih =>
      intro its h
      cases h with
      | cons h1 h2 =>
        obtain ⟨t, rfl⟩ := h1
        obtain ⟨a1, a2⟩ := ih h2
        refine ⟨fun v hv => ?_, by rw [List.map_cons, ← a2]⟩
        rcases List.mem_cons.mp hv with rfl | hv
        · exact ⟨t, rfl⟩
        · exact a1 v hv
  obtain ⟨k1, k2⟩ := key rv
  refine sorted_at (swoN fun v => match v with | .str x _ => x | _ => ⟨#[]⟩) (fun Q' hq => hc _ _ _ _ Q' hq) hz (fun h2 h1 b hb kk => strs_srt h2 k1) fun out h1 h2 => ?_
  have h3 : ∀ v ∈ out, ∃ t, v = .str (match v with | .str x _ => x | _ => ⟨#[]⟩) t := fun v hv => k1 v (h2.perm.mem_iff.mp hv)
  have hb : (out.map (fun v => match v with | .str x _ => x | _ => ⟨#[]⟩)).Perm xs := by rw [k2]; exact h2.perm.map _
  obtain ⟨n, hn⟩ := PyProof.Rows.sortedAll_at s.heap its out.toArray
  have hv : ∀ {out : List Value}, (∀ v ∈ out, ∃ t, v = .str (match v with | .str x _ => x | _ => ⟨#[]⟩) t) → Vals ((out.map (fun v => match v with | .str x _ => x | _ => ⟨#[]⟩)).map V.str) out := by
    intro out
    induction out with
    | nil => exact fun _ => .nil
    | cons v out ih =>
      intro h
      exact .cons (h v List.mem_cons_self) (ih fun u hu => h u (List.mem_cons_of_mem _ hu))
  refine ⟨.ref (s.heap.objs.size + 1), upd H (s.heap.objs.size + 1) (.lst ((out.map (fun v => match v with | .str x _ => x | _ => ⟨#[]⟩)).map V.str)), I.laid (t' := s.toks) (fun _ _ => PyProof.Rows.sortedAll_old) (Nat.le_succ _) ⟨?_, out, n, hv h3, hn⟩, rfl, q _ _ ?_ hb (I.hok.fresh (Nat.le_succ _))⟩
  · have := rv.length
    rw [List.length_map] at this
    rw [List.length_map, hb.length_eq, this]; exact hz
  · refine List.pairwise_map.mpr (h1.imp fun {x y} hh => leS_of_not ?_)
    exact of_decide_eq_false hh
end
theorem ckSortT {K} : CallOk K (rSortTx K) fSortT := by
  intro F A H S xs rs z Q hs hx e k
  unfold fSortT at e
  split at e
  · obtain ⟨d, ed, e2⟩ := Option.bind_eq_some_iff.mp e
    obtain ⟨ds, eds, e2⟩ := Option.bind_eq_some_iff.mp e2
    obtain ⟨ns, en, e2⟩ := Option.map_eq_some_iff.mp e2
    cases e2
    obtain ⟨v, rfl, hv⟩ := rps1 hx
    obtain ⟨b, ys, rfl, hb, hy⟩ := hs.rdSeq hv ed eds
    have := strsOf_rp hy en
    subst this
    refine ⟨b, ns, rfl, hb, fun ys p hso hp np => ?_⟩
    have : ys = isortS ns := List.Perm.eq_of_pairwise (le := fun a b => leS a b = true) (fun a b _ _ h1 h2 => leS_anti h1 h2) hso (isortS_sorted ns) (hp.trans (isortS_perm ns).symm)
    subst this
    obtain ⟨h1, x1⟩ := hs.lay (o := .lst ((isortS ns).map V.str)) np
    exact k _ _ _ _ h1 x1 (Rp.lst upd_same (rps_str _))
  · cases e
/-- the name of a row -/
def nmV (F : Hp) : V → Str
  | .ref a => match F a with
    | some (.tup (.str n :: _)) => n
    | some (.frz _ (.tup (.str n :: _))) => n
    | _ => ⟨#[]⟩
  | _ => ⟨#[]⟩
theorem row_nm {K : PySem.W.Frag} {F H : Hp} (sub : ∀ a o, F a = some o → H a = some o) {v : V} {d : Dt} (h : Rp K F v d) (hd : isRowD d = true) : nmV F v = nmD d ∧ ∃ t r, v = .ref t ∧ SqT K H t (.str (nmD d) :: r) := by
  cases h with
  | tupS c e h2 => cases h2 with
    | nil => cases hd
    | cons h1 h2 => cases h1 with
      | str x => exact ⟨by simp only [nmV, e]; rfl, _, _, rfl, .inl (.inl (sub _ _ e))⟩
      | _ => cases hd
  | tupP c e n h2 => cases h2 with
    | nil => cases hd
    | cons h1 h2 => cases h1 with
      | str x => exact ⟨by simp only [nmV, e]; rfl, _, _, rfl, .inl (.inr ⟨_, sub _ _ e⟩)⟩
      | _ => cases hd
  | _ => cases hd
theorem rps_zip {K F} : ∀ {xs : List V} {ds : List Dt}, Rps K F xs ds → ∃ zs : List (V × Dt), xs = zs.map (·.1) ∧ ds = zs.map (·.2) ∧ ∀ z ∈ zs, Rp K F z.1 z.2
  | _, _, .nil => ⟨[], rfl, rfl, by simp⟩
  | _, _, .cons (v := v) (d := d) h t => by
    obtain ⟨zs, e1, e2, h2⟩ := rps_zip t
    refine ⟨(v, d) :: zs, by rw [List.map_cons, ← e1], by rw [List.map_cons, ← e2], fun z hz => ?_⟩
    rcases List.mem_cons.mp hz with rfl | hz
    · exact h
    · exact h2 z hz
theorem rps_unzip {K F} : ∀ {zs : List (V × Dt)}, (∀ z ∈ zs, Rp K F z.1 z.2) → Rps K F (zs.map (·.1)) (zs.map (·.2))
  | [], _ => .nil
  | z :: zs, h => .cons (h z List.mem_cons_self) (rps_unzip fun y hy => h y (List.mem_cons_of_mem _ hy))
theorem nodup_inj {α β : Type} {f : α → β} : ∀ {l : List α}, (l.map f).Nodup → ∀ x ∈ l, ∀ y ∈ l, f x = f y → x = y
  | [], _, x, hx, _, _, _ => by simp at hx
  | a :: l, h, x, hx, y, hy, e => by
    rw [List.map_cons, List.nodup_cons] at h
    rcases List.mem_cons.mp hx with rfl | hx
    · rcases List.mem_cons.mp hy with rfl | hy
      · rfl
      · exact absurd (List.mem_map.mpr ⟨y, hy, e.symm⟩) h.1
    · rcases List.mem_cons.mp hy with rfl | hy
      · exact absurd (List.mem_map.mpr ⟨x, ‹x ∈ l›, e⟩) h.1
      · exact nodup_inj h.2 x hx y hy e
theorem ckSortR {K} : CallOk K (rSortRow K) fSortR := by
  intro F A H S xs rs z Q hs hx e k
  unfold fSortR at e
  split at e
  · obtain ⟨d, ed, e2⟩ := Option.bind_eq_some_iff.mp e
    obtain ⟨ds, eds, e2⟩ := Option.bind_eq_some_iff.mp e2
    split at e2
    · rename_i hc
      cases e2
      obtain ⟨v, rfl, hv⟩ := rps1 hx
      obtain ⟨b, ys, rfl, hb, hy⟩ := hs.rdSeq hv ed eds
      obtain ⟨zs, rfl, rfl, hz⟩ := rps_zip hy
      have hrow : ∀ z ∈ zs, isRowD z.2 = true := fun z hm => List.all_eq_true.mp hc.1 _ (List.mem_map.mpr ⟨z, hm, rfl⟩)
      have hkey : ∀ z ∈ zs, nmV F z.1 = nmD z.2 := fun z hm => (row_nm hs.sub (hz z hm) (hrow z hm)).1
      have hnd : (zs.map fun z => nmD z.2).Nodup := by
        have := hc.2
        rw [List.map_map] at this
        exact this
      refine ⟨b, zs.map (·.1), nmV F, rfl, hb, fun x hm => ?_, fun x hm y hm' e => ?_, fun ys p hso hp np => ?_⟩
      · obtain ⟨z, hz1, rfl⟩ := List.mem_map.mp hm
        obtain ⟨e1, t, r, e2, h2⟩ := row_nm hs.sub (hz z hz1) (hrow z hz1)
        rw [e1]
        exact ⟨t, r, e2, h2⟩
      · obtain ⟨z, hz1, rfl⟩ := List.mem_map.mp hm
        obtain ⟨z', hz2, rfl⟩ := List.mem_map.mp hm'
        rw [hkey z hz1, hkey z' hz2] at e
        rw [nodup_inj hnd z hz1 z' hz2 e]
      · have hj : ∀ x ∈ zs.map (·.1), ∀ y ∈ zs.map (·.1), nmV F x = nmV F y → x = y := fun x hm y hm' e => by
          obtain ⟨z, hz1, rfl⟩ := List.mem_map.mp hm
          obtain ⟨z', hz2, rfl⟩ := List.mem_map.mp hm'
          rw [hkey z hz1, hkey z' hz2] at e
          rw [nodup_inj hnd z hz1 z' hz2 e]
        have e1 := sortK_is hp hso hj
        have e2 : isortK (nmV F) (zs.map (·.1)) = (isortK (fun z : V × Dt => nmD z.2) zs).map (·.1) := by
          rw [← isortK_map (nmV F) (fun z : V × Dt => z.1) zs]
          exact congrArg _ (isortK_congr zs hkey)
        have e3 : isortK nmD (zs.map (·.2)) = (isortK (fun z : V × Dt => nmD z.2) zs).map (·.2) := (isortK_map nmD (fun z : V × Dt => z.2) zs).symm
        rw [e1, e2]
        obtain ⟨h1, x1⟩ := hs.lay (o := .lst ((isortK (fun z : V × Dt => nmD z.2) zs).map (·.1))) np
        refine k _ _ _ _ h1 x1 ?_
        rw [e3]
        exact Rp.lst upd_same ((rps_unzip fun z hm => hz z ((isortK_perm _ zs).subset hm)).mono x1.ge)
    · cases e2
  · cases e
end OA
namespace OA
open PySem PySem.Spec PyProof.Rows L2
/-! ### a comprehension whose list is changed later -/
def cCompC (vs : List Nat) (ci : CdI) (g : CdG) (t : CdB) (c : Cd) : Cd := fun en S => (ci en S).bind fun p => (compN vs g t c p.1 en p.2).map fun y => (.c y.2.length, y.2 ++ [.lst y.1])
theorem lc_cell {us : List Nat} {ci : CdI} {g : CdG} {t : CdB} {c : Cd} {K : PySem.W.Frag} {vs : List Nat} (hv : ∀ i ∈ us, i ∈ vs) {σ H Q} (h : tE K (cCompC vs ci g t c) σ H Q) : tLc (tI K ci) (tG K us g) (tT K t) (tE K c) vs σ H Q := by
  obtain ⟨F, A, S, en, z, S', hs, he, ec, k⟩ := h
  obtain ⟨⟨ds, S1⟩, e1, ec⟩ := Option.bind_eq_some_iff.mp ec
  obtain ⟨⟨ys, S2⟩, e2, ec⟩ := Option.map_eq_some_iff.mp ec
  cases ec
  refine ⟨F, A, S, en, ds, S1, hs, he, e1, fun J H1 F1 A1 hs1 x1 wk hl Da nD => ?_⟩
  -- the state: acc at Da, outside F and A
  have kp : ∀ a u, H1 a = some u → upd H1 Da (.lst []) a = some u := fun a u e => by rw [upd_ne (ne_of_none e nD)]; exact e
  refine ⟨fun i m H2 => m = ds.length - i ∧ ∃ F2 A2 Si xs zs, HSt K F2 A2 H2 Si ∧ Ext F1 A1 H1 F2 A2 H2 ∧ H2 Da = some (.lst xs) ∧ xs.length ≤ i ∧ Rps K F2 xs zs ∧ F2 Da = none ∧ Da ∉ A2 ∧
    ∃ rest, compN vs g t c (ds.drop i) en Si = some (rest, S2) ∧ zs ++ rest = ys, ⟨ds.length, by simp, F1, A1, S1, [], [], ?_, ⟨Ge.rfl', ⟨[], by simp, by simp⟩, fun a o e _ => kp a o e, (fun a o e n => by rw [e] at n; cases n), fun a e => ?_⟩, upd_same, Nat.zero_le _, .nil, ?_, ?_, ys, by simpa using e2, by simp⟩, ?_⟩
  · exact ⟨fun a u e => kp a u (hs1.sub _ _ e), hs1.nd, Paired.mapM hs1.cells fun a ha so r => CellR.mono Ge.rfl' (fun e => e) (kp a) r⟩
  · by_cases hd : a = Da
    · subst hd; exact nD
    · rw [upd_ne hd] at e; exact e
  · exact hs1.nF nD
  · intro ha
    obtain ⟨u, e⟩ := hs1.there ha
    rw [nD] at e; cases e
  · rintro i m H2 ⟨rfl, F2, A2, Si, xs, zs, hs2, x2, eD, hxl, hz, fD, aD, rest, ec2, ey⟩
    obtain ⟨w1, w2⟩ := wk F2 A2 H2 Si x2.ge hs2 i
    have x12 : Ext F A H F2 A2 H2 := x1.trans x2
    cases ed : ds[i]? with
    | none =>
      refine .inl ⟨w2 ed, ?_⟩
      rw [List.drop_eq_nil_of_le (List.getElem?_eq_none_iff.mp ed)] at ec2
      cases ec2
      rw [List.append_nil] at ey
      subst ey
      -- the new list is a cell
      have nH : H Da = none := x1.mon _ nD
      obtain ⟨B, eB, hB⟩ := x12.pre
      refine k (.ref Da) H2 F2 (A2 ++ [Da]) ⟨hs2.sub, ?_, Paired.appendP hs2.cells (.cons ⟨fD, xs, eD, hz⟩ .nil)⟩ ⟨x12.ge, ⟨B ++ [Da], by rw [eB, List.append_assoc], fun a ha => ?_⟩, x12.frame, x12.newF, x12.mon⟩ ⟨Da, by rw [← hs2.len]; simp, rfl⟩
      · rw [List.nodup_append]
        refine ⟨hs2.nd, by simp, fun x hx y hy e => ?_⟩
        have := List.mem_singleton.mp hy
        subst this; subst e
        exact aD hx
      · rcases List.mem_append.mp ha with ha | ha
        · exact hB a ha
        · have := List.mem_singleton.mp ha
          subst this; exact nH
    | some d =>
      obtain ⟨hlt, e⟩ := List.getElem?_eq_some_iff.mp ed
      rw [List.drop_eq_getElem_cons hlt, e] at ec2
      obtain ⟨go, yl⟩ := w1 d ed
      obtain ⟨en3, e3, ec3⟩ := Option.bind_eq_some_iff.mp ec2
      obtain ⟨⟨q4, S4⟩, e4, ec4⟩ := Option.bind_eq_some_iff.mp ec3
      refine .inr ⟨go, fun H' => ∃ m', m' < ds.length - i ∧ m' = ds.length - (i + 1) ∧ ∃ F2 A2 Si xs zs, HSt K F2 A2 H' Si ∧ Ext F1 A1 H1 F2 A2 H' ∧ H' Da = some (.lst xs) ∧ xs.length ≤ i + 1 ∧ Rps K F2 xs zs ∧ F2 Da = none ∧ Da ∉ A2 ∧
        ∃ rest, compN vs g t c (ds.drop (i + 1)) en Si = some (rest, S2) ∧ zs ++ rest = ys, fun H' h => h, fun x H3 hy => ?_⟩
      obtain ⟨F3, hs3, x3, hx3⟩ := yl x H3 hy
      have heW : EnvR K F3 A2 (wipe σ vs) (wipeE en vs) := ((he.ext (x12.trans x3))).wipe vs
      refine ⟨F3, A2, Si, wipeE en vs, .d d, en3, hs3, heW, hx3, e3, fun σ4 he4 ch => ⟨(wipe_eq ch hv).trans (wipe_wipe σ vs), ?_⟩⟩
      refine ⟨F3, A2, Si, en3, q4, S4, hs3, he4, e4, fun H5 F5 A5 hs5 x5 => ?_⟩
      -- Da stays apart
      have apart : ∀ {F' A' H'}, Ext F2 A2 H2 F' A' H' → H' Da = some (.lst xs) ∧ F' Da = none ∧ Da ∉ A' := fun {F' A' H'} y => by
        refine ⟨y.frame _ _ eD aD, ?_, fun ha => ?_⟩
        · cases q : F' Da with
          | none => rfl
          | some u =>
            rcases y.newF _ _ q fD with h | h | ⟨zs, h⟩
            · rw [eD] at h; cases h
            · exact absurd h aD
            · rw [eD] at h; cases h
        · obtain ⟨B, eB, hB⟩ := y.pre
          rw [eB] at ha
          rcases List.mem_append.mp ha with h | h
          · exact aD h
          · have := hB _ h; rw [eD] at this; cases this
      have x25 := x3.trans x5
      cases q4 with
      | false =>
        obtain ⟨a1, a2, a3⟩ := apart x25
        exact ⟨_, by omega, rfl, F5, A5, S4, xs, zs, hs5, x2.trans x25, a1, by omega, hz.mono x25.ge, a2, a3, rest, ec4, ey⟩
      | true =>
        obtain ⟨⟨r6, S6⟩, e6, ec6⟩ := Option.bind_eq_some_iff.mp ec4
        refine ⟨F5, A5, S4, en3, r6, S6, hs5, he4.ext x5, e6, fun v H7 F7 A7 hs7 x7 p7 => ?_⟩
        cases r6 with
        | c _ => cases ec6
        | s _ => cases ec6
        | d x6 =>
          obtain ⟨⟨y8, S8⟩, e8, ec8⟩ := Option.map_eq_some_iff.mp ec6
          cases ec8
          have x27 := x25.trans x7
          obtain ⟨a1, a2, a3⟩ := apart x27
          refine ⟨xs, a1, by omega, _, by omega, rfl, F7, A7, S6, xs ++ [v], zs ++ [x6], ?_, ?_, upd_same, by simp; omega, (hz.mono x27.ge).append (.cons p7 .nil), a2, a3, y8, e8, by simpa using ey⟩
          · have kq : ∀ a u, a ≠ Da → H7 a = some u → upd H7 Da (.lst (xs ++ [v])) a = some u := fun a u hd e => by rw [upd_ne hd]; exact e
            exact ⟨fun a u e => kq a u (fun z => by rw [z, a2] at e; cases e) (hs7.sub _ _ e), hs7.nd, Paired.mapM hs7.cells fun a ha so r => have hne : a ≠ Da := fun z => a3 (z ▸ ha); CellR.mono Ge.rfl' (fun e => e) (fun u e => kq a u hne e) r⟩
          · have y := x2.trans x27
            refine ⟨y.ge, y.pre, fun a o e hA => ?_, y.newF, fun a e => ?_⟩
            · have hd : a ≠ Da := fun z => by rw [z, nD] at e; cases e
              rw [upd_ne hd]; exact y.frame a o e hA
            · by_cases hd : a = Da
              · subst hd; rw [upd_same] at e; cases e
              · rw [upd_ne hd] at e; exact y.mon a e
section
variable {X : Cx} {tg iter elt : Expr} {pos : Pos} {ci : CdI} {g : CdG} {us : List Nat} {c : Cd} {t : CdB} {ifs : List Expr} {scope : Scope} {own : List (Str × Nat)}
theorem oCompC (vs : List Nat) (hvs : own.map (·.2) = vs) (hv : ∀ i ∈ us, i ∈ vs) (hc : X.calm = true) (hN : X.N.Nodup) (hi : PI X tg iter (tI X.K ci)) (ok : blkC X.N X.env.scope scope own = true)
    (hg : ∀ (s : Shared) (H : Hp) (C : Addr) (cl : List (Str × Addr)) (fp : List Addr), PG (X.blk s H scope (compEnvC scope cl C X.env) fp) tg (tG X.K us g)) (ht : ∀ (s : Shared) (H : Hp) (C : Addr) (cl : List (Str × Addr)) (fp : List Addr), PTs (X.blk s H scope (compEnvC scope cl C X.env) fp) ifs (tT X.K t))
    (he : ∀ (s : Shared) (H : Hp) (C : Addr) (cl : List (Str × Addr)) (fp : List Addr), PE (X.blk s H scope (compEnvC scope cl C X.env) fp) elt (tE X.K c)) (hs : ∀ x, foldedSetIterable iter X.env x = pure x := by intro _; rfl) :
    PE X (.ListComp elt [⟨tg, iter, ifs, 0⟩] scope pos) (tE X.K (cCompC vs ci g t c)) :=
  (pe_lc hc hN hi (blkOk_by ok) hg ht he hs).weak fun σ H Q h => by
    rw [hvs]
    exact lc_cell hv h
end
end OA
namespace OA
open PySem PySem.Spec PyProof.Rows L2
/-! ### a dict display with one tuple of texts as its key -/
def tDisp1T (tk tv : TE) : TE := fun σ H Q => ∀ p, H p = none → tk σ (upd H p (.dT [])) fun x H1 => tv σ H1 fun y H2 => H2 p = some (.dT []) ∧ ∃ (b : Addr) (ks : List L2.Key), x = .ref b ∧ H2 b = some (.tup (ks.map kV)) ∧ Q (.ref p) (upd H2 p (.dT (putK [] ks y)))
section
variable {X : Cx} {pos : Pos}
theorem pe_disp1T {k v : Expr} {tk tv : TE} (hu : X.A.units + 1 < cLine) (hk : PE X k tk) (hv : PE X v tv) : PE X (.Dict [some k] [v] pos) (tDisp1T tk tv) := by
  refine ⟨fun pins s σ H Q I q => ?_⟩
  have hn := I.hok.fresh (Nat.le_refl s.heap.objs.size)
  have I1 := I.laid (a := s.heap.objs.size) (o := .dT []) (h' := s.heap.push { cls := .type "dict", data := .dict #[] }) (t' := s.toks) (fun _ _ q => Heap.get?_push_of_some _ q) (Nat.le_refl _) (dt_empty s.heap I.big)
  refine wpAny_Dict_any rfl rfl (by simp) (by simp) ?_
  refine pairTrees_cons_walk (thn (hk.run pins _ σ _ _ I1 (q _ hn)) fun u s2 ⟨x, H1, I2, rx, q1⟩ => thn (hv.run pins s2 σ H1 _ I2 q1) fun u2 s3 ⟨y, H2, I3, ry, e, b, ks, ex, eb, q2⟩ => pairTrees_nil_walk ?_)
  subst ex
  obtain rfl : u = Value.ref b := rx
  unfold storeAll
  rw [List.forIn_cons]
  obtain ⟨z, hd, xs, rel, dd⟩ := dt_of I3.hok e
  have hz : xs.length ≤ sizeLine := by rw [← Paired.length rel]; exact z
  have hl : (putK ([] : List (List L2.Key × V)) ks y).length ≤ sizeLine := by have := length_putK ([] : List (List L2.Key × V)) ks y; have := sizeLine_eq; simp at *; omega
  refine wpAny_bind (wpAny_bind (wpAny_dictSet_heap (hsz := hz) (show X.A.units < cLine by omega) (key_of I3.hok eb) dd fun h' dd' hs => wpAny_pure ?_))
  dsimp only
  rw [List.forIn_nil]
  refine wpAny_pure ?_
  obtain ⟨o, es, ep, ho, h2, h3, h4, _, h5⟩ := dd'
  refine ⟨.ref s.heap.objs.size, upd H2 s.heap.objs.size (.dT (putK [] ks y)), d_write I3 (by rw [e]; exact True.intro) hs ⟨o, ho⟩ ⟨hl, hd, _, (rel.put ks eb ry).keeps fun c ys ec => ?_, o, es, ep, ho, h2, h3, h4, h5⟩, rfl, q2⟩
  rw [upd_ne (ne_of ec e (fun z => nomatch z))]
  exact ec
def cDispT (ck cv : Cd) : Cd := fun en S => (ck en (S ++ [.dT []])).bind fun p => (cv en p.2).bind fun q => match q.1, q.2[S.length]? with
  | .d y, some (.dT []) => (get q.2 p.1).bind fun kd => (keyT kd).map fun ks => (.c S.length, q.2.set S.length (.dT (putTD [] ks y)))
  | _, _ => none
theorem oDispT {kk : Nat} {k v : Expr} {ck cv : Cd} (hr : Room kk X.A) (hk : PE X k (tE X.K ck)) (hv : PE X v (tE X.K cv)) : PE X (.Dict [some k] [v] pos) (tE X.K (cDispT ck cv)) :=
  (pe_disp1T (by have := hr.un; omega) hk hv).weak fun σ H Q ⟨F, A, S, en, r, S', hs, he, ec, k⟩ => by
    obtain ⟨⟨r1, S1⟩, e1, ec1⟩ := Option.bind_eq_some_iff.mp ec
    obtain ⟨⟨r2, S2⟩, e2, ec2⟩ := Option.bind_eq_some_iff.mp ec1
    clear ec ec1
    intro p np
    obtain ⟨hs0, x0⟩ := hs.newCell (o := .dT []) (so := .dT []) np ⟨hs.nF np, [], upd_same, .nil⟩
    refine ⟨F, A ++ [p], S ++ [.dT []], en, r1, S1, hs0, he.ext x0, e1, fun x H1 F1 A1 hs1 x1 p1 => ⟨F1, A1, S1, en, r2, S2, hs1, (he.ext x0).ext x1, e2, fun y H2 F2 A2 hs2 x2 p2 => ?_⟩⟩
    split at ec2
    · rename_i y' hy h0
      have hy' : r2 = .d y' := hy
      subst hy'
      obtain ⟨kd, ek, ec3⟩ := Option.bind_eq_some_iff.mp ec2
      obtain ⟨ks, eks, ec⟩ := Option.map_eq_some_iff.mp ec3
      cases ec
      obtain ⟨B, eB, _⟩ := (x1.trans x2).pre
      have ea : A2[S.length]? = some p := by
        rw [eB, ← hs.len]
        simp
      obtain ⟨a', ea', n, vs, ha, t⟩ := Paired.getR hs2.cells h0
      rw [ea] at ea'; cases ea'
      cases t
      obtain ⟨b, rfl, hb⟩ := hs2.rdKey (p1.ext x2) ek eks
      obtain ⟨h4, x4⟩ := hs2.put (o := .dT (putK [] (ks.map .inr) y)) (so' := .dT (putTD [] ks y')) ea h0 (by simp) ⟨n, _, upd_same, putTD_rp .nil p2⟩
      exact ⟨ha, b, ks.map .inr, rfl, hb, k _ _ _ _ h4 (((x0.trans x1).trans x2).trans x4) ⟨p, by
        have := x4.pre
        exact ea, rfl⟩⟩
    · cases ec2
end
end OA
namespace OA
open PySem PyProof.Rows Srt SrtO L2
/-! ### lots in order -/
/-- a tuple of texts -/
def IsLotV (h : Heap) (v : Value) (xs : List Str) : Prop := ∃ a o items m, v = .ref a ∧ h.get? a = some o ∧ o.cls = .type "tuple" ∧ o.data = .seq items m ∧ StrsAre items.toList xs
theorem IsLotV.keeps {h h' : Heap} {v : Value} {xs : List Str} (p : IsLotV h v xs) (k : ∀ b o, h.get? b = some o → o.cls = .type "tuple" → h'.get? b = some o) : IsLotV h' v xs := by
  obtain ⟨a, o, it, m, e, ho, hc, hd, hi⟩ := p
  exact ⟨a, o, it, m, e, k _ _ ho hc, hc, hd, hi⟩
end OA
namespace OA
open PySem PySem.Spec PyProof.Rows L2
/-! ### dict() of pairs whose keys are tuples of texts -/
def mergeT (acc : List (List L2.Key × V)) (kvs : List (List L2.Key × V)) : List (List L2.Key × V) := kvs.foldl (fun a p => putK a p.1 p.2) acc
def PT (K : PySem.W.Frag) (H : Hp) (p : Addr) (kv : List L2.Key × V) : Prop := ∃ b : Addr, SqT K H p [.ref b, kv.2] ∧ H b = some (.tup (kv.1.map kV))
theorem KT.merge {H : Hp} : ∀ {kvs : List (List L2.Key × V)} {prs : List (List L2.Key × Addr × Value)} {acc : List (List L2.Key × V)} {ac : List (List L2.Key × Addr × Value)}, KT H kvs prs → KT H acc ac → KT H (mergeT acc kvs) (storedAllH ac prs)
  | _, _, _, _, .nil, h => h
  | _, _, _, _, .cons (a := p) (b := q) hq t, h => by
    have h1 := KT.put h p.1 hq.2.1 hq.2.2
    have := KT.merge t h1
    show KT H (mergeT (putK _ p.1 p.2) _) (storedAllH (storedH _ q.1 q.2.1 q.2.2) _)
    rw [← hq.1]
    exact this
end OA
namespace OA
open PySem PySem.Spec PyProof.Rows L2
/-! ### -i, d.get(k, x) of a dict of lots -/
section
variable {X : Cx} {pos : Pos}
def cNeg (c : Cd) : Cd := fun en S => (c en S).bind fun p => match p.1 with
  | .d (.int i) => some (.d (.int (-i)), p.2)
  | _ => none
theorem oNeg {a : Expr} {ca : Cd} (ha : PE X a (tE X.K ca)) : PE X (.UnaryOp .USub a pos) (tE X.K (cNeg ca)) :=
  (pe_un un_neg ha).weak fun σ H Q ⟨F, A, S, en, z, S', hs, he, ec, k⟩ => by
    unfold cNeg at ec
    obtain ⟨⟨r1, S1⟩, e1, ec⟩ := Option.bind_eq_some_iff.mp ec
    refine ⟨F, A, S, en, r1, S1, hs, he, e1, fun v H1 F1 A1 hs1 x1 p1 => ?_⟩
    split at ec
    · rename_i i hb; simp only at hb; subst hb; cases p1; cases ec
      exact ⟨_, rfl, k _ H1 F1 A1 hs1 x1 (.int _)⟩
    · cases ec
end
end OA
namespace OA
open PySem PySem.Spec PyProof.Rows L2
/-! ### list(a dict of lots) -/
theorem keys_know {K : PySem.W.Frag} {A : List Addr} {H : Hp} {S : Ss} {F0 : Hp} : ∀ {kvs : List (List L2.Key × V)} {ds : List (Dt × Dt)} {bs : List Addr} {F : Hp}, RpT K F0 kvs ds → IsKeys H kvs bs → HSt K F A H S → ∃ F', HSt K F' A H S ∧ Ext F A H F' A H ∧ Rps K F' (bs.map V.ref) (ds.map (·.1))
  | _, _, _, F, .nil, .nil, hs => ⟨F, hs, .rfl', .nil⟩
  | _, _, _, F, .cons (k := k) hv t, .cons (b := b) hb tb, hs => by
    obtain ⟨F1, hs1, x1, r1⟩ := keys_know t tb hs
    obtain ⟨hs2, x2⟩ := hs1.frzT hb
    exact ⟨_, hs2, x1.trans x2, .cons (.tupS (all_str k) upd_same (rps_strs k)) (r1.mono x2.ge)⟩
def rListD (K : PySem.W.Frag) : List V → Hp → VK → Prop := fun xs H Q => ∃ d kvs, xs = [V.ref d] ∧ Rd H d (.dT kvs) ∧ ∀ p bs, H p = none → IsKeys H kvs bs → Q (.ref p) (upd H p (.lst (bs.map V.ref)))
def fListD : FL := fun S rs => match rs with
  | [a] => match get S a with
    | some (.dT ds) => some (.d (.lst (ds.map (·.1))))
    | _ => none
  | _ => none
theorem ckListD {K} : CallOk K (rListD K) fListD := by
  intro F A H S xs rs z Q hs hx e k
  unfold fListD at e
  split at e
  · rename_i a
    split at e
    · rename_i ds ed
      cases e
      obtain ⟨v, rfl, hv⟩ := rps1 hx
      obtain ⟨d, kvs, rfl, hd, ht⟩ := hs.rdDT hv ed
      refine ⟨d, kvs, rfl, hd, fun p bs np hk => ?_⟩
      obtain ⟨F1, hs1, x1, r1⟩ := keys_know ht hk hs
      obtain ⟨h2, x2⟩ := hs1.lay (o := .lst (bs.map V.ref)) np
      exact k _ _ _ _ h2 (x1.trans x2) (Rp.lst upd_same (r1.mono x2.ge))
    · cases e
  · cases e
theorem clListD {X : Cx} (hc : X.calm = true) : CallR X (.type "list") (rListD X.K) := call_list_dT hc
end OA
namespace OA
open PySem PySem.Spec PyProof.Rows L2
def c_lowest : CdS := (sCons (sPar 2 3 (cApp fAbs (cCons (cVar 0) cNil)) (cVar 1)) (sCons (whileN 100000 (cTst (cBin fGt (cVar 3) (cK (.int 0)))) (sCons (sPar 2 3 (cVar 3) (cBin fMod (cVar 2) (cVar 3))) sNil)) (sCons (sRet (cTup (cCons (cBin fDiv (cVar 0) (cVar 2)) (cCons (cBin fDiv (cVar 1) (cVar 2)) cNil)))) sNil)))
def f_lowest : Fn := runF 4 false c_lowest
def c_plus : CdS := (sCons (sRet (cCall f_lowest (cCons (cBin fAdd (cBin fMul (cBin fIx (cVar 0) (cK (.int 0))) (cBin fIx (cVar 1) (cK (.int 1)))) (cBin fMul (cBin fIx (cVar 1) (cK (.int 0))) (cBin fIx (cVar 0) (cK (.int 1))))) (cCons (cBin fMul (cBin fIx (cVar 0) (cK (.int 1))) (cBin fIx (cVar 1) (cK (.int 1)))) cNil)))) sNil)
def f_plus : Fn := runF 2 false c_plus
def c_less : CdS := (sCons (sRet (cCall f_lowest (cCons (cBin fSub (cBin fMul (cBin fIx (cVar 0) (cK (.int 0))) (cBin fIx (cVar 1) (cK (.int 1)))) (cBin fMul (cBin fIx (cVar 1) (cK (.int 0))) (cBin fIx (cVar 0) (cK (.int 1))))) (cCons (cBin fMul (cBin fIx (cVar 0) (cK (.int 1))) (cBin fIx (cVar 1) (cK (.int 1)))) cNil)))) sNil)
def f_less : Fn := runF 2 false c_less
def c_times : CdS := (sCons (sRet (cCall f_lowest (cCons (cBin fMul (cBin fIx (cVar 0) (cK (.int 0))) (cVar 1)) (cCons (cBin fMul (cBin fIx (cVar 0) (cK (.int 1))) (cVar 2)) cNil)))) sNil)
def f_times : Fn := runF 3 false c_times
def c_is_lesser : CdS := (sCons (sRet (cBin fLt (cBin fMul (cBin fIx (cVar 0) (cK (.int 0))) (cBin fIx (cVar 1) (cK (.int 1)))) (cBin fMul (cBin fIx (cVar 1) (cK (.int 0))) (cBin fIx (cVar 0) (cK (.int 1)))))) sNil)
def f_is_lesser : Fn := runF 2 false c_is_lesser
def c_heavies : CdS := (sCons (sRet (cDictK (cComp [1] (cIter (cBin fAdd (cBin fIx (cVar 0) (cK (.int 1))) (cBin fIx (cVar 0) (cK (.int 2))))) (gNm 1) kYes (cTup (cCons (cBin fIx (cVar 1) (cK (.int 0))) (cCons (cBin fIx (cVar 1) (cK (.int 1))) cNil)))))) sNil)
def f_heavies : Fn := runF 2 false c_heavies
def c_aboard_of : CdS := (sCons (sRet (cApp (fTup false) (cCons (cComp [1] (cIter (cBin fIx (cVar 0) (cK (.int 1)))) (gNm 1) kYes (cBin fIx (cVar 1) (cK (.int 0)))) cNil))) sNil)
def f_aboard_of : Fn := runF 2 false c_aboard_of
def c_weight_of : CdS := (sCons (sSet 2 (cCall f_heavies (cCons (cVar 0) cNil))) (sCons (sRet (cApp fSum (cCons (cComp [3] (cIter (cVar 1)) (gNm 3) kYes (cBin fIx (cVar 2) (cVar 3))) cNil))) sNil))
def f_weight_of : Fn := runF 4 false c_weight_of
def c_whole_of : CdS := (sCons (sRet (cBin fAdd (cBin fIx (cBin fIx (cVar 0) (cK (.int 0))) (cK (.int 1))) (cCall f_weight_of (cCons (cVar 0) (cCons (cVar 1) cNil))))) sNil)
def f_whole_of : Fn := runF 2 false c_whole_of
def c_drive_of : CdS := (sCons (sSet 2 (cCall f_heavies (cCons (cVar 0) cNil))) (sCons (sSet 3 (cK (.tup [.int 0, .int 1]))) (sCons (sFor (cIter (cVar 1)) (gTp (gCons' (gNm 4) (gCons' (gNm 5) gNil'))) (sCons (sSet 3 (cCall f_plus (cCons (cVar 3) (cCons (cCall f_times (cCons (cVar 5) (cCons (cBin fIx (cVar 2) (cVar 4)) (cCons (cK (.int 1)) cNil)))) cNil)))) sNil)) (sCons (sRet (cVar 3)) sNil))))
def f_drive_of : Fn := runF 6 false c_drive_of
def c_front_of : CdS := (sCons (sRet (cCall f_plus (cCons (cBin fIx (cVar 1) (cK (.int 0))) (cCons (cCall f_times (cCons (cCall f_drive_of (cCons (cVar 0) (cCons (cBin fIx (cVar 1) (cK (.int 1))) cNil))) (cCons (cK (.int 1)) (cCons (cCall f_whole_of (cCons (cVar 0) (cCons (cCall f_aboard_of (cCons (cVar 1) cNil)) cNil))) cNil)))) cNil)))) sNil)
def f_front_of : Fn := runF 2 false c_front_of
def c_gap_by : CdS := (sCons (sSet 3 (cCall f_whole_of (cCons (cVar 0) (cCons (cComp [4] (cIter (cVar 2)) (gNm 4) kYes (cBin fIx (cVar 4) (cK (.int 0)))) cNil)))) (sCons (sRet (cCall f_less (cCons (cVar 1) (cCons (cCall f_times (cCons (cCall f_drive_of (cCons (cVar 0) (cCons (cVar 2) cNil))) (cCons (cK (.int 1)) (cCons (cVar 3) cNil)))) cNil)))) sNil))
def f_gap_by : Fn := runF 5 false c_gap_by
def c_gap_behind : CdS := (sCons (sSet 3 (cCall f_gap_by (cCons (cVar 0) (cCons (cCall f_front_of (cCons (cVar 0) (cCons (cVar 1) cNil))) (cCons (cVar 2) cNil))))) (sCons (sRet (cIf (cTst (cCall f_is_lesser (cCons (cVar 3) (cCons (cK (.tup [.int 0, .int 1])) cNil)))) (cK .non) (cVar 3))) sNil))
def f_gap_behind : Fn := runF 4 false c_gap_behind
def c_all_back : CdS := (sCons (sRet (cApp (fTup true) (cCons (cComp [2] (cIter (cVar 1)) (gNm 2) kYes (cTup (cCons (cVar 2) (cCons (cTup (cCons (cBin fIx (cBin fIx (cVar 0) (cK (.int 0))) (cK (.int 0))) (cCons (cK (.int 1)) cNil))) cNil)))) cNil))) sNil)
def f_all_back : Fn := runF 3 false c_all_back
def c_least_by : CdS := (sCons (sSet 3 (cCall f_gap_by (cCons (cVar 0) (cCons (cVar 2) (cCons (cCall f_all_back (cCons (cVar 0) (cCons (cVar 1) cNil))) cNil))))) (sCons (sRet (cIf (cTst (cCall f_is_lesser (cCons (cVar 3) (cCons (cK (.tup [.int 0, .int 1])) cNil)))) (cK (.tup [.int 0, .int 1])) (cVar 3))) sNil))
def f_least_by : Fn := runF 4 false c_least_by
def c_gaps : CdS := (sCons (sSet 2 (cCall f_front_of (cCons (cVar 0) (cCons (cVar 1) cNil)))) (sCons (sRet (cTup (cCons (cCall f_least_by (cCons (cVar 0) (cCons (cCall f_aboard_of (cCons (cVar 1) cNil)) (cCons (cVar 2) cNil)))) (cCons (cVar 2) cNil)))) sNil))
def f_gaps : Fn := runF 3 false c_gaps
def c_l_bag : CdS := (sCons (sSet 2 (cK (.int 0))) (sCons (sIf (cTst (cBin fLt (cVar 1) (cApp fLen (cCons (cVar 0) cNil)))) (sCons (sSet 2 (cApp fAbs (cCons (cBin fIx (cVar 0) (cVar 1)) cNil))) sNil) sNil) (sCons (sIf (cTst (cBin fLt (cVar 2) (cBin fPow (cK (.int 10)) (cK (.int 18))))) (sCons (sRet (cNewL (cCons (cK (.int 0)) (cCons (cBin fAdd (cK (.int 1)) (cBin fMod (cBin fAdd (cBin fMul (cVar 2) (cK (.int 7919))) (cBin fMul (cK (.int 104729)) (cVar 1))) (cK (.int 2147483646)))) cNil)))) sNil) sNil) (sCons (sRet (cNewL (cCons (cVar 2) (cCons (cBin fAdd (cK (.int 1)) (cBin fMod (cBin fAdd (cVar 2) (cVar 1)) (cK (.int 2147483646)))) cNil)))) sNil))))
def f_l_bag : Fn := runF 3 true c_l_bag
def c_l_take : CdS := (sCons (sIf (cTst (cBin fGt (cBin fIx (cVar 0) (cK (.int 0))) (cK (.int 0)))) (sCons (sSet 2 (cBin fMod (cBin fIx (cVar 0) (cK (.int 0))) (cVar 1))) (sCons (sPut (cBin fDiv (cBin fIx (cVar 0) (cK (.int 0))) (cVar 1)) (cVar 0) (cK (.int 0))) (sCons (sRet (cVar 2)) sNil))) sNil) (sCons (sPut (cBin fMod (cBin fMul (cBin fIx (cVar 0) (cK (.int 1))) (cK (.int 48271))) (cK (.int 2147483647))) (cVar 0) (cK (.int 1))) (sCons (sRet (cBin fMod (cBin fDiv (cBin fMod (cBin fMul (cBin fIx (cVar 0) (cK (.int 1))) (cBin fIx (cVar 0) (cK (.int 1)))) (cK (.int 2147483629))) (cK (.int 64))) (cVar 1))) sNil)))
def f_l_take : Fn := runF 3 false c_l_take
def c_l_of : CdS := (sCons (sRet (cBin fIx (cVar 1) (cCall f_l_take (cCons (cVar 0) (cCons (cApp fLen (cCons (cVar 1) cNil)) cNil))))) sNil)
def f_l_of : Fn := runF 2 false c_l_of
def c_l_lowest : CdS := (sCons (sPar 2 3 (cApp fAbs (cCons (cVar 0) cNil)) (cVar 1)) (sCons (whileN 100000 (cTst (cBin fGt (cVar 3) (cK (.int 0)))) (sCons (sPar 2 3 (cVar 3) (cBin fMod (cVar 2) (cVar 3))) sNil)) (sCons (sRet (cTup (cCons (cBin fDiv (cVar 0) (cVar 2)) (cCons (cBin fDiv (cVar 1) (cVar 2)) cNil)))) sNil)))
def f_l_lowest : Fn := runF 4 false c_l_lowest
def c_l_plus : CdS := (sCons (sRet (cCall f_l_lowest (cCons (cBin fAdd (cBin fMul (cBin fIx (cVar 0) (cK (.int 0))) (cBin fIx (cVar 1) (cK (.int 1)))) (cBin fMul (cBin fIx (cVar 1) (cK (.int 0))) (cBin fIx (cVar 0) (cK (.int 1))))) (cCons (cBin fMul (cBin fIx (cVar 0) (cK (.int 1))) (cBin fIx (cVar 1) (cK (.int 1)))) cNil)))) sNil)
def f_l_plus : Fn := runF 2 false c_l_plus
def c_l_minus : CdS := (sCons (sRet (cCall f_l_lowest (cCons (cBin fSub (cBin fMul (cBin fIx (cVar 0) (cK (.int 0))) (cBin fIx (cVar 1) (cK (.int 1)))) (cBin fMul (cBin fIx (cVar 1) (cK (.int 0))) (cBin fIx (cVar 0) (cK (.int 1))))) (cCons (cBin fMul (cBin fIx (cVar 0) (cK (.int 1))) (cBin fIx (cVar 1) (cK (.int 1)))) cNil)))) sNil)
def f_l_minus : Fn := runF 2 false c_l_minus
def c_l_times : CdS := (sCons (sRet (cCall f_l_lowest (cCons (cBin fMul (cBin fIx (cVar 0) (cK (.int 0))) (cVar 1)) (cCons (cBin fIx (cVar 0) (cK (.int 1))) cNil)))) sNil)
def f_l_times : Fn := runF 2 false c_l_times
def c_l_less : CdS := (sCons (sRet (cBin fLt (cBin fMul (cBin fIx (cVar 0) (cK (.int 0))) (cBin fIx (cVar 1) (cK (.int 1)))) (cBin fMul (cBin fIx (cVar 1) (cK (.int 0))) (cBin fIx (cVar 0) (cK (.int 1)))))) sNil)
def f_l_less : Fn := runF 2 false c_l_less
def c_l_world : CdS := (sCons (sSet 3 (cTup (cCons (cBin fAdd (cK (.int 1)) (cCall f_l_take (cCons (cVar 0) (cCons (cBin fIx (cLst (cCons (cK (.int 12)) (cCons (cK (.int 60)) (cCons (cK (.int 200)) cNil)))) (cCall f_l_take (cCons (cVar 0) (cCons (cK (.int 3)) cNil)))) cNil)))) (cCons (cBin fAdd (cK (.int 1)) (cCall f_l_take (cCons (cVar 0) (cCons (cBin fIx (cLst (cCons (cK (.int 20)) (cCons (cK (.int 100)) cNil))) (cCall f_l_take (cCons (cVar 0) (cCons (cK (.int 2)) cNil)))) cNil)))) cNil)))) (sCons (sSet 4 (cBin fAdd (cK (.int 1)) (cCall f_l_take (cCons (cVar 0) (cCons (cBin fIx (cLst (cCons (cK (.int 4)) (cCons (cK (.int 30)) cNil))) (cCall f_l_take (cCons (cVar 0) (cCons (cK (.int 2)) cNil)))) cNil))))) (sCons (sSet 5 (cBin fEq (cCall f_l_take (cCons (cVar 0) (cCons (cK (.int 2)) cNil))) (cK (.int 0)))) (sCons (sSet 6 (cNewL cNil)) (sCons (sFor (cIter (cSl (cLst (cCons (cK (.str (Str.ofString "ann"))) (cCons (cK (.str (Str.ofString "bo"))) (cCons (cK (.str (Str.ofString "cy"))) (cCons (cK (.str (Str.ofString "dee"))) cNil))))) noPart (part (cBin fAdd (cK (.int 1)) (cCall f_l_take (cCons (cVar 0) (cCons (cVar 1) cNil))))))) (gNm 7) (sCons (sSet 8 (cIf (cTst (cVar 5)) (cVar 4) (cBin fAdd (cK (.int 1)) (cCall f_l_take (cCons (cVar 0) (cCons (cBin fIx (cLst (cCons (cK (.int 6)) (cCons (cK (.int 30)) cNil))) (cCall f_l_take (cCons (cVar 0) (cCons (cK (.int 2)) cNil)))) cNil)))))) (sCons (sSet 9 (cBin fAdd (cK (.int 1)) (cCall f_l_take (cCons (cVar 0) (cCons (cBin fIx (cLst (cCons (cK (.int 6)) (cCons (cK (.int 60)) cNil))) (cCall f_l_take (cCons (cVar 0) (cCons (cK (.int 2)) cNil)))) cNil))))) (sCons (sExpr (cAppend (cVar 6) (cTup (cCons (cVar 7) (cCons (cVar 9) (cCons (cVar 8) (cCons (cCall f_l_take (cCons (cVar 0) (cCons (cBin fIx (cLst (cCons (cK (.int 1)) (cCons (cK (.int 20)) (cCons (cK (.int 61)) cNil)))) (cCall f_l_take (cCons (cVar 0) (cCons (cK (.int 3)) cNil)))) cNil))) cNil))))))) sNil)))) (sCons (sSet 10 (cNewL cNil)) (sCons (sFor (cIter (cSl (cLst (cCons (cK (.str (Str.ofString "bale"))) (cCons (cK (.str (Str.ofString "xbox"))) cNil))) noPart (part (cCall f_l_take (cCons (cVar 0) (cCons (cBin fAdd (cVar 2) (cK (.int 1))) cNil)))))) (gNm 7) (sCons (sExpr (cAppend (cVar 10) (cTup (cCons (cVar 7) (cCons (cBin fAdd (cK (.int 1)) (cCall f_l_take (cCons (cVar 0) (cCons (cBin fIx (cLst (cCons (cK (.int 6)) (cCons (cK (.int 60)) cNil))) (cCall f_l_take (cCons (cVar 0) (cCons (cK (.int 2)) cNil)))) cNil)))) cNil))))) sNil)) (sCons (sFz 10 (sFz 6 (sRet (cTup (cCons (cVar 3) (cCons (cApp (fTup false) (cCons (cVar 6) cNil)) (cCons (cApp (fTup false) (cCons (cVar 10) cNil)) cNil))))))) sNil))))))))
def f_l_world : Fn := runF 11 false c_l_world
def c_l_names : CdS := (sCons (sRet (cApp fSortS (cCons (cComp [1] (cIter (cBin fAdd (cBin fIx (cVar 0) (cK (.int 1))) (cBin fIx (cVar 0) (cK (.int 2))))) (gNm 1) kYes (cBin fIx (cVar 1) (cK (.int 0)))) cNil))) sNil)
def f_l_names : Fn := runF 2 false c_l_names
def c_l_folk : CdS := (sCons (sRet (cComp [1] (cIter (cBin fIx (cVar 0) (cK (.int 1)))) (gNm 1) kYes (cBin fIx (cVar 1) (cK (.int 0))))) sNil)
def f_l_folk : Fn := runF 2 false c_l_folk
def c_l_can_lie : CdS := (sCons (sSet 2 (cComp [3] (cIter (cVar 1)) (gNm 3) (cTst (cBin fIn (cVar 3) (cCall f_l_folk (cCons (cVar 0) cNil)))) (cVar 3))) (sCons (sRet (cOr (cBin fNe (cVar 2) (cLst cNil)) (cBin fEq (cApp fList (cCons (cVar 1) cNil)) (cLst cNil)))) sNil))
def f_l_can_lie : Fn := runF 4 false c_l_can_lie
def c_l_place : CdS := (sCons (sRet (cCall f_l_lowest (cCons (cBin fMul (cBin fIx (cBin fIx (cVar 1) (cK (.int 0))) (cK (.int 0))) (cCall f_l_of (cCons (cVar 0) (cCons (cLst (cCons (cK (.int 0)) (cCons (cK (.int 0)) (cCons (cK (.int 1)) (cCons (cK (.int 2)) (cCons (cK (.int 3)) (cCons (cK (.int 4)) cNil))))))) cNil)))) (cCons (cK (.int 4)) cNil)))) sNil)
def f_l_place : Fn := runF 2 false c_l_place
def c_l_rows : CdS := (sCons (sRet (cApp (fTup true) (cCons (cComp [3] (cIter (cVar 2)) (gNm 3) kYes (cTup (cCons (cVar 3) (cCons (cCall f_l_place (cCons (cVar 0) (cCons (cVar 1) cNil))) cNil)))) cNil))) sNil)
def f_l_rows : Fn := runF 4 false c_l_rows
def c_l_lot : CdS := (sCons (sSet 2 (cNewL cNil)) (sCons (sFor (cIter (cCall f_l_names (cCons (cVar 1) cNil))) (gNm 3) (sCons (sIf (cTst (cBin fGt (cCall f_l_take (cCons (cVar 0) (cCons (cK (.int 5)) cNil))) (cK (.int 0)))) (sCons (sExpr (cAppend (cVar 2) (cVar 3))) sNil) sNil) sNil)) (sCons (sFz 2 (sRet (cIf (cTst (cCall f_l_can_lie (cCons (cVar 1) (cCons (cVar 2) cNil)))) (cApp (fTup false) (cCons (cVar 2) cNil)) (cApp (fTup false) (cCons (cCall f_l_names (cCons (cVar 1) cNil)) cNil))))) sNil)))
def f_l_lot : Fn := runF 4 false c_l_lot
def c_l_standing : CdS := (sCons (sSet 2 (cBin fIx (cLst (cCons (cK (.int 4)) (cCons (cBin fIx (cBin fIx (cVar 1) (cK (.int 0))) (cK (.int 0))) (cCons (cK (.int 60)) cNil)))) (cCall f_l_take (cCons (cVar 0) (cCons (cK (.int 3)) cNil))))) (sCons (sSet 3 (cCall f_l_lowest (cCons (cCall f_l_take (cCons (cVar 0) (cCons (cBin fAdd (cBin fMul (cK (.int 2)) (cVar 2)) (cK (.int 1))) cNil))) (cCons (cK (.int 2)) cNil)))) (sCons (sRet (cTup (cCons (cVar 3) (cCons (cCall f_l_rows (cCons (cVar 0) (cCons (cVar 1) (cCons (cCall f_l_lot (cCons (cVar 0) (cCons (cVar 1) cNil))) cNil)))) cNil)))) sNil)))
def f_l_standing : Fn := runF 4 false c_l_standing
def c_l_weight : CdS := (sCons (sSet 2 (cDictK (cComp [3] (cIter (cBin fAdd (cBin fIx (cVar 0) (cK (.int 1))) (cBin fIx (cVar 0) (cK (.int 2))))) (gNm 3) kYes (cTup (cCons (cBin fIx (cVar 3) (cK (.int 0))) (cCons (cBin fIx (cVar 3) (cK (.int 1))) cNil)))))) (sCons (sRet (cApp fSum (cCons (cComp [4] (cIter (cVar 1)) (gNm 4) kYes (cBin fIx (cVar 2) (cVar 4))) cNil))) sNil))
def f_l_weight : Fn := runF 5 false c_l_weight
def c_l_aboard : CdS := (sCons (sRet (cApp (fTup false) (cCons (cComp [1] (cIter (cBin fIx (cVar 0) (cK (.int 1)))) (gNm 1) kYes (cBin fIx (cVar 1) (cK (.int 0)))) cNil))) sNil)
def f_l_aboard : Fn := runF 2 false c_l_aboard
def c_folk_of : CdS := (sCons (sRet (cComp [1] (cIter (cBin fIx (cVar 0) (cK (.int 1)))) (gNm 1) kYes (cBin fIx (cVar 1) (cK (.int 0))))) sNil)
def f_folk_of : Fn := runF 2 false c_folk_of
def c_can_be_aboard : CdS := (sCons (sSet 2 (cComp [3] (cIter (cVar 1)) (gNm 3) (cTst (cBin fIn (cVar 3) (cCall f_folk_of (cCons (cVar 0) cNil)))) (cVar 3))) (sCons (sRet (cOr (cBin fEq (cApp fLen (cCons (cVar 2) cNil)) (cApp fLen (cCons (cVar 1) cNil))) (cBin fNe (cVar 2) (cLst cNil)))) sNil))
def f_can_be_aboard : Fn := runF 4 false c_can_be_aboard
def c_one_of : CdS := (sCons (sRet (cBin fIx (cComp [2] (cIter (cBin fIx (cVar 0) (cK (.int 1)))) (gNm 2) (cTst (cBin fEq (cBin fIx (cVar 2) (cK (.int 0))) (cVar 1))) (cVar 2)) (cK (.int 0)))) sNil)
def f_one_of : Fn := runF 3 false c_one_of
def c_movers : CdS := (sCons (sRet (cComp [1] (cIter (cSl (cVar 0) (part (cK (.int 1))) noPart)) (gNm 1) (cTst (cBin fNe (cVar 1) (cK (.str (Str.ofString ""))))) (cVar 1))) sNil)
def f_movers : Fn := runF 2 false c_movers
def c_lot_behind : CdS := (sCons (sSet 3 (cCall f_movers (cCons (cVar 2) cNil))) (sCons (sIf (cTst (cBin fNe (cComp [5] (cIter (cVar 3)) (gNm 5) (cTst (cBin fNe (cBin fIn (cVar 5) (cVar 1)) (cBin fEq (cBin fIx (cVar 2) (cK (.int 0))) (cK (.str (Str.ofString "off")))))) (cVar 5)) (cLst cNil))) (sCons (sRet (cK .non)) sNil) sNil) (sCons (sIf (cTst (cBin fEq (cBin fIx (cVar 2) (cK (.int 0))) (cK (.str (Str.ofString "off"))))) (sCons (sSet 4 (cApp (fTup false) (cCons (cComp [5] (cIter (cVar 1)) (gNm 5) (cTst (cBin fNotIn (cVar 5) (cVar 3))) (cVar 5)) cNil))) sNil) (sCons (sSet 4 (cApp (fTup false) (cCons (cApp fSortT (cCons (cBin fAdd (cVar 1) (cApp (fTup false) (cCons (cVar 3) cNil))) cNil)) cNil))) sNil)) (sCons (sRet (cIf (cTst (cCall f_can_be_aboard (cCons (cVar 0) (cCons (cVar 4) cNil)))) (cVar 4) (cK .non))) sNil))))
def f_lot_behind : Fn := runF 6 false c_lot_behind
def c_reach_of : CdS := (sCons (sRet (cTup (cCons (cBin fIx (cCall f_one_of (cCons (cVar 0) (cCons (cBin fIx (cVar 1) (cK (.int 1))) cNil))) (cK (.int 2))) (cCons (cK (.int 1)) cNil)))) sNil)
def f_reach_of : Fn := runF 2 false c_reach_of
def c_stepped : CdS := (sCons (sAsg (gTp (gCons' (gNm 3) (gCons' (gNm 4) gNil'))) (cTup (cCons (cCall f_aboard_of (cCons (cVar 1) cNil)) (cCons (cCall f_movers (cCons (cVar 2) cNil)) cNil)))) (sCons (sIf (qqOr (cTst (cBin fIsN (cCall f_lot_behind (cCons (cVar 0) (cCons (cVar 3) (cCons (cVar 2) cNil)))) (cK .non))) (cTst (cCall f_is_lesser (cCons (cCall f_reach_of (cCons (cVar 0) (cCons (cVar 2) cNil))) (cCons (cBin fIx (cVar 1) (cK (.int 0))) cNil))))) (sCons (sRet (cK .non)) sNil) sNil) (sCons (sIf (cTst (cBin fEq (cBin fIx (cVar 2) (cK (.int 0))) (cK (.str (Str.ofString "on"))))) (sCons (sRet (cTup (cCons (cBin fIx (cVar 1) (cK (.int 0))) (cCons (cApp (fTup true) (cCons (cApp fSortR (cCons (cBin fAdd (cBin fIx (cVar 1) (cK (.int 1))) (cApp (fTup true) (cCons (cComp [5] (cIter (cVar 4)) (gNm 5) kYes (cTup (cCons (cVar 5) (cCons (cK (.tup [.int 0, .int 1])) cNil)))) cNil))) cNil)) cNil)) cNil)))) sNil) sNil) (sCons (sIf (cTst (cBin fNe (cComp [6] (cIter (cBin fIx (cVar 1) (cK (.int 1)))) (gNm 6) (qqAnd (cTst (cBin fIn (cBin fIx (cVar 6) (cK (.int 0))) (cVar 4))) (cTst (cBin fNe (cBin fIx (cVar 6) (cK (.int 1))) (cK (.tup [.int 0, .int 1]))))) (cVar 6)) (cLst cNil))) (sCons (sRet (cK .non)) sNil) sNil) (sCons (sRet (cTup (cCons (cBin fIx (cVar 1) (cK (.int 0))) (cCons (cApp (fTup true) (cCons (cComp [6] (cIter (cBin fIx (cVar 1) (cK (.int 1)))) (gNm 6) (cTst (cBin fNotIn (cBin fIx (cVar 6) (cK (.int 0))) (cVar 4))) (cVar 6)) cNil)) cNil)))) sNil)))))
def f_stepped : Fn := runF 7 false c_stepped
def c_l_steps : CdS := (sCons (sSet 1 (cNewL cNil)) (sCons (sFor (cIter (cLst (cCons (cK (.str (Str.ofString "off"))) (cCons (cK (.str (Str.ofString "on"))) cNil)))) (gNm 2) (sCons (sFor (cIter (cBin fIx (cVar 0) (cK (.int 1)))) (gTp (gCons' (gNm 3) (gCons' (gNm 4) (gCons' (gNm 5) (gCons' (gNm 6) gNil'))))) (sCons (sExpr (cAppend (cVar 1) (cTup (cCons (cVar 2) (cCons (cVar 3) (cCons (cK (.str (Str.ofString ""))) cNil)))))) (sCons (sFor (cIter (cBin fIx (cVar 0) (cK (.int 2)))) (gTp (gCons' (gNm 7) (gCons' (gNm 8) gNil'))) (sCons (sIf (cTst (cBin fLe (cVar 8) (cVar 6))) (sCons (sExpr (cAppend (cVar 1) (cTup (cCons (cVar 2) (cCons (cVar 3) (cCons (cVar 7) cNil)))))) sNil) sNil) sNil)) sNil))) sNil)) (sCons (sRet (cFrz (cVar 1))) sNil)))
def f_l_steps : Fn := runF 9 false c_l_steps
def c_l_after : CdS := (sCons (sSet 3 (cComp [6] (cIter (cSl (cVar 2) (part (cK (.int 1))) noPart)) (gNm 6) (cTst (cBin fNe (cVar 6) (cK (.str (Str.ofString ""))))) (cVar 6))) (sCons (sSet 4 (cComp [6] (cIter (cVar 3)) (gNm 6) (cTst (cBin fIn (cVar 6) (cVar 1))) (cVar 6))) (sCons (sIf (qqOr (qqAnd (cTst (cBin fEq (cBin fIx (cVar 2) (cK (.int 0))) (cK (.str (Str.ofString "off"))))) (cTst (cBin fLt (cApp fLen (cCons (cVar 4) cNil)) (cApp fLen (cCons (cVar 3) cNil))))) (qqAnd (cTst (cBin fEq (cBin fIx (cVar 2) (cK (.int 0))) (cK (.str (Str.ofString "on"))))) (cTst (cBin fNe (cVar 4) (cLst cNil))))) (sCons (sRet (cK .non)) sNil) sNil) (sCons (sIf (cTst (cBin fEq (cBin fIx (cVar 2) (cK (.int 0))) (cK (.str (Str.ofString "off"))))) (sCons (sSet 5 (cApp (fTup false) (cCons (cComp [6] (cIter (cVar 1)) (gNm 6) (cTst (cBin fNotIn (cVar 6) (cVar 3))) (cVar 6)) cNil))) sNil) (sCons (sSet 5 (cApp (fTup false) (cCons (cApp fSortT (cCons (cBin fAdd (cApp fList (cCons (cVar 1) cNil)) (cVar 3)) cNil)) cNil))) sNil)) (sCons (sRet (cIf (cTst (cCall f_l_can_lie (cCons (cVar 0) (cCons (cVar 5) cNil)))) (cVar 5) (cK .non))) sNil)))))
def f_l_after : Fn := runF 7 false c_l_after
def c_l_reach : CdS := (sCons (sRet (cTup (cCons (cBin fIx (cComp [2] (cIter (cBin fIx (cVar 0) (cK (.int 1)))) (gNm 2) (cTst (cBin fEq (cBin fIx (cVar 2) (cK (.int 0))) (cBin fIx (cVar 1) (cK (.int 1))))) (cBin fIx (cVar 2) (cK (.int 2)))) (cK (.int 0))) (cCons (cK (.int 1)) cNil)))) sNil)
def f_l_reach : Fn := runF 3 false c_l_reach
def c_lesser : CdS := (sCons (sRet (cIf (cTst (cCall f_is_lesser (cCons (cVar 0) (cCons (cVar 1) cNil)))) (cVar 0) (cVar 1))) sNil)
def f_lesser : Fn := runF 2 false c_lesser
def c_loads_of : CdS := (sCons (sRet (cComp [1] (cIter (cBin fIx (cVar 0) (cK (.int 2)))) (gNm 1) kYes (cBin fIx (cVar 1) (cK (.int 0))))) sNil)
def f_loads_of : Fn := runF 2 false c_loads_of
def c_is_step : CdS := (sCons (sIf (qqOr (qqNot (cTst (cIsi "tuple" (cVar 1)))) (qqOr (cTst (cBin fNe (cApp fLen (cCons (cVar 1) cNil)) (cK (.int 3)))) (qqNot (cTst (cApp fAll (cCons (cComp [2] (cIter (cVar 1)) (gNm 2) kYes (cIsi "str" (cVar 2))) cNil)))))) (sCons (sRet (cK (.bl false))) sNil) sNil) (sCons (sIf (qqOr (cTst (cBin fNotIn (cBin fIx (cVar 1) (cK (.int 0))) (cTup (cCons (cK (.str (Str.ofString "off"))) (cCons (cK (.str (Str.ofString "on"))) cNil))))) (cTst (cBin fNotIn (cBin fIx (cVar 1) (cK (.int 1))) (cCall f_folk_of (cCons (cVar 0) cNil))))) (sCons (sRet (cK (.bl false))) sNil) sNil) (sCons (sRet (cOr (cBin fEq (cBin fIx (cVar 1) (cK (.int 2))) (cK (.str (Str.ofString "")))) (cAnd (cBin fIn (cBin fIx (cVar 1) (cK (.int 2))) (cCall f_loads_of (cCons (cVar 0) cNil))) (cBin fLe (cBin fIx (cCall f_heavies (cCons (cVar 0) cNil)) (cBin fIx (cVar 1) (cK (.int 2)))) (cBin fIx (cCall f_one_of (cCons (cVar 0) (cCons (cBin fIx (cVar 1) (cK (.int 1))) cNil))) (cK (.int 3))))))) sNil)))
def f_is_step : Fn := runF 3 false c_is_step
def c_all_steps : CdS := (sCons (sSet 1 (cNewL cNil)) (sCons (sFor (cIter (cTup (cCons (cK (.str (Str.ofString "off"))) (cCons (cK (.str (Str.ofString "on"))) cNil)))) (gNm 2) (sCons (sFor (cIter (cCall f_folk_of (cCons (cVar 0) cNil))) (gNm 3) (sCons (sFor (cIter (cBin fAdd (cLst (cCons (cK (.str (Str.ofString ""))) cNil)) (cCall f_loads_of (cCons (cVar 0) cNil)))) (gNm 4) (sCons (sIf (cTst (cCall f_is_step (cCons (cVar 0) (cCons (cTup (cCons (cVar 2) (cCons (cVar 3) (cCons (cVar 4) cNil)))) cNil)))) (sCons (sExpr (cAppend (cVar 1) (cTup (cCons (cVar 2) (cCons (cVar 3) (cCons (cVar 4) cNil)))))) sNil) sNil) sNil)) sNil)) sNil)) (sCons (sRet (cFrz (cVar 1))) sNil)))
def f_all_steps : Fn := runF 5 false c_all_steps
def c_nearest_for : CdS := (sCons (sIf (cTst (cBin fEq (cBin fIx (cVar 3) (cK (.int 0))) (cK (.str (Str.ofString "on"))))) (sCons (sRet (cCall f_least_by (cCons (cVar 0) (cCons (cVar 1) (cCons (cVar 2) cNil))))) sNil) sNil) (sCons (sSet 4 (cBin fSub (cCall f_weight_of (cCons (cVar 0) (cCons (cVar 1) cNil))) (cCall f_weight_of (cCons (cVar 0) (cCons (cCall f_movers (cCons (cVar 3) cNil)) cNil))))) (sCons (sRet (cCall f_less (cCons (cVar 2) (cCons (cCall f_lowest (cCons (cBin fMul (cBin fIx (cBin fIx (cVar 0) (cK (.int 0))) (cK (.int 0))) (cVar 4)) (cCons (cCall f_whole_of (cCons (cVar 0) (cCons (cVar 1) cNil))) cNil))) cNil)))) sNil)))
def f_nearest_for : Fn := runF 5 false c_nearest_for
def c_best_gap : CdS := (sCons (sSet 4 (cCall f_nearest_for (cCons (cVar 0) (cCons (cVar 1) (cCons (cVar 2) (cCons (cVar 3) cNil)))))) (sCons (sIf (qqOr (cTst (cBin fIsN (cCall f_lot_behind (cCons (cVar 0) (cCons (cVar 1) (cCons (cVar 3) cNil)))) (cK .non))) (cTst (cCall f_is_lesser (cCons (cCall f_reach_of (cCons (cVar 0) (cCons (cVar 3) cNil))) (cCons (cVar 4) cNil))))) (sCons (sRet (cK .non)) sNil) sNil) (sCons (sRet (cIf (cTst (cBin fEq (cBin fIx (cVar 3) (cK (.int 0))) (cK (.str (Str.ofString "on"))))) (cVar 4) (cCall f_lesser (cCons (cCall f_reach_of (cCons (cVar 0) (cCons (cVar 3) cNil))) (cCons (cVar 2) cNil))))) sNil)))
def f_best_gap : Fn := runF 5 false c_best_gap
def c_best_from : CdS := (sCons (sSet 4 (cCall f_best_gap (cCons (cVar 0) (cCons (cVar 1) (cCons (cVar 2) (cCons (cVar 3) cNil)))))) (sCons (sIf (cTst (cBin fIsN (cVar 4) (cK .non))) (sCons (sRet (cK .non)) sNil) sNil) (sCons (sPar 5 6 (cCall f_whole_of (cCons (cVar 0) (cCons (cVar 1) cNil))) (cCall f_weight_of (cCons (cVar 0) (cCons (cCall f_movers (cCons (cVar 3) cNil)) cNil)))) (sCons (sIf (cTst (cBin fEq (cBin fIx (cVar 3) (cK (.int 0))) (cK (.str (Str.ofString "on"))))) (sCons (sRet (cCall f_times (cCons (cCall f_plus (cCons (cCall f_times (cCons (cVar 2) (cCons (cVar 5) (cCons (cK (.int 1)) cNil)))) (cCons (cCall f_times (cCons (cVar 4) (cCons (cVar 6) (cCons (cK (.int 1)) cNil)))) cNil))) (cCons (cK (.int 1)) (cCons (cBin fAdd (cVar 5) (cVar 6)) cNil))))) sNil) sNil) (sCons (sRet (cCall f_times (cCons (cCall f_less (cCons (cCall f_times (cCons (cVar 2) (cCons (cVar 5) (cCons (cK (.int 1)) cNil)))) (cCons (cCall f_times (cCons (cVar 4) (cCons (cVar 6) (cCons (cK (.int 1)) cNil)))) cNil))) (cCons (cK (.int 1)) (cCons (cBin fSub (cVar 5) (cVar 6)) cNil))))) sNil)))))
def f_best_from : Fn := runF 7 false c_best_from
def c_can_step : CdS := (sCons (sAsg (gTp (gCons' (gNm 2) (gCons' (gNm 3) gNil'))) (cTup (cCons (cCall f_aboard_of (cCons (cVar 1) cNil)) (cCons (cCall f_front_of (cCons (cVar 0) (cCons (cVar 1) cNil))) cNil)))) (sCons (sRet (cCompC [4] (cIter (cCall f_all_steps (cCons (cVar 0) cNil))) (gNm 4) (cTst (cBin fNotN (cCall f_best_gap (cCons (cVar 0) (cCons (cVar 2) (cCons (cVar 3) (cCons (cVar 4) cNil))))) (cK .non))) (cVar 4))) sNil))
def f_can_step : Fn := runF 5 true c_can_step
def c_rows_by : CdS := (sCons (sSet 5 (cComp [8] (cIter (cVar 1)) (gNm 8) (qqOr (cTst (cBin fEq (cBin fIx (cVar 3) (cK (.int 0))) (cK (.str (Str.ofString "on"))))) (cTst (cBin fNotIn (cVar 8) (cCall f_movers (cCons (cVar 3) cNil))))) (cVar 8))) (sCons (sSet 6 (cCall f_weight_of (cCons (cVar 0) (cCons (cVar 5) cNil)))) (sCons (sSet 7 (cIf (cTst (cBin fGt (cVar 6) (cK (.int 0)))) (cCall f_times (cCons (cCall f_less (cCons (cVar 2) (cCons (cVar 4) cNil))) (cCons (cCall f_whole_of (cCons (cVar 0) (cCons (cVar 1) cNil))) (cCons (cVar 6) cNil)))) (cK (.tup [.int 0, .int 1])))) (sCons (sRet (cApp (fTup true) (cCons (cComp [8] (cIter (cVar 1)) (gNm 8) kYes (cTup (cCons (cVar 8) (cCons (cIf (cTst (cBin fIn (cVar 8) (cVar 5))) (cVar 7) (cK (.tup [.int 0, .int 1]))) cNil)))) cNil))) sNil))))
def f_rows_by : Fn := runF 9 false c_rows_by
def c_rows_for : CdS := (sCons (sPar 3 4 (cCall f_aboard_of (cCons (cVar 1) cNil)) (cCall f_front_of (cCons (cVar 0) (cCons (cVar 1) cNil)))) (sCons (sSet 5 (cCall f_best_gap (cCons (cVar 0) (cCons (cVar 3) (cCons (cVar 4) (cCons (cVar 2) cNil)))))) (sCons (sRet (cIf (cTst (cBin fIsN (cVar 5) (cK .non))) (cK .non) (cCall f_rows_by (cCons (cVar 0) (cCons (cVar 3) (cCons (cVar 4) (cCons (cVar 2) (cCons (cVar 5) cNil)))))))) sNil)))
def f_rows_for : Fn := runF 6 false c_rows_for
def c_l_least : CdS := (sCons (sRet (cIf (cTst (cCall f_l_less (cCons (cVar 0) (cCons (cVar 1) cNil)))) (cVar 0) (cVar 1))) sNil)
def f_l_least : Fn := runF 2 false c_l_least
def c_l_nearest : CdS := (sCons (sSet 4 (cComp [7] (cIter (cVar 1)) (gNm 7) (qqOr (cTst (cBin fEq (cBin fIx (cVar 3) (cK (.int 0))) (cK (.str (Str.ofString "on"))))) (cTst (cBin fNotIn (cVar 7) (cSl (cVar 3) (part (cK (.int 1))) noPart)))) (cVar 7))) (sCons (sSet 5 (cBin fAdd (cBin fIx (cBin fIx (cVar 0) (cK (.int 0))) (cK (.int 1))) (cCall f_l_weight (cCons (cVar 0) (cCons (cVar 1) cNil))))) (sCons (sSet 6 (cCall f_l_minus (cCons (cVar 2) (cCons (cCall f_l_lowest (cCons (cBin fMul (cBin fIx (cBin fIx (cVar 0) (cK (.int 0))) (cK (.int 0))) (cCall f_l_weight (cCons (cVar 0) (cCons (cVar 4) cNil)))) (cCons (cVar 5) cNil))) cNil)))) (sCons (sRet (cIf (cTst (cCall f_l_less (cCons (cVar 6) (cCons (cTup (cCons (cK (.int 0)) (cCons (cK (.int 1)) cNil))) cNil)))) (cTup (cCons (cK (.int 0)) (cCons (cK (.int 1)) cNil))) (cVar 6))) sNil))))
def f_l_nearest : Fn := runF 8 false c_l_nearest
def c_l_behind : CdS := (sCons (sSet 5 (cCall f_l_weight (cCons (cVar 0) (cCons (cComp [9] (cIter (cSl (cVar 3) (part (cK (.int 1))) noPart)) (gNm 9) (cTst (cBin fNe (cVar 9) (cK (.str (Str.ofString ""))))) (cVar 9)) cNil)))) (sCons (sSet 6 (cBin fAdd (cBin fIx (cBin fIx (cVar 0) (cK (.int 0))) (cK (.int 1))) (cCall f_l_weight (cCons (cVar 0) (cCons (cVar 1) cNil))))) (sCons (sSet 7 (cIf (cTst (cBin fEq (cBin fIx (cVar 3) (cK (.int 0))) (cK (.str (Str.ofString "on"))))) (cVar 5) (cBin fSub (cK (.int 0)) (cVar 5)))) (sCons (sSet 8 (cCall f_l_plus (cCons (cCall f_l_times (cCons (cVar 2) (cCons (cVar 6) cNil))) (cCons (cCall f_l_times (cCons (cVar 4) (cCons (cVar 7) cNil))) cNil)))) (sCons (sRet (cCall f_l_lowest (cCons (cBin fIx (cVar 8) (cK (.int 0))) (cCons (cBin fMul (cBin fIx (cVar 8) (cK (.int 1))) (cBin fAdd (cVar 6) (cVar 7))) cNil)))) sNil)))))
def f_l_behind : Fn := runF 10 false c_l_behind
def c_l_best : CdS := (sCons (sSet 4 (cCall f_l_after (cCons (cVar 0) (cCons (cVar 1) (cCons (cVar 3) cNil))))) (sCons (sPar 5 6 (cCall f_l_nearest (cCons (cVar 0) (cCons (cVar 1) (cCons (cVar 2) (cCons (cVar 3) cNil))))) (cCall f_l_reach (cCons (cVar 0) (cCons (cVar 3) cNil)))) (sCons (sIf (qqOr (cTst (cBin fIsN (cVar 4) (cK .non))) (cTst (cCall f_l_less (cCons (cVar 6) (cCons (cVar 5) cNil))))) (sCons (sRet (cK .non)) sNil) sNil) (sCons (sSet 7 (cIf (cTst (cBin fEq (cBin fIx (cVar 3) (cK (.int 0))) (cK (.str (Str.ofString "on"))))) (cVar 5) (cCall f_l_least (cCons (cVar 6) (cCons (cVar 2) cNil))))) (sCons (sRet (cTup (cCons (cVar 4) (cCons (cCall f_l_behind (cCons (cVar 0) (cCons (cVar 1) (cCons (cVar 2) (cCons (cVar 3) (cCons (cVar 7) cNil)))))) cNil)))) sNil)))))
def f_l_best : Fn := runF 8 false c_l_best
def c_l_near_standing : CdS := (sCons (sSet 2 (cCall f_l_standing (cCons (cVar 0) (cCons (cVar 1) cNil)))) (sCons (sSet 3 (cCall f_l_aboard (cCons (cVar 2) cNil))) (sCons (sIf (qqAnd (cTst (cBin fNe (cVar 3) (cTup cNil))) (cTst (cBin fEq (cCall f_l_take (cCons (cVar 0) (cCons (cK (.int 2)) cNil))) (cK (.int 0))))) (sCons (sSet 4 (cCall f_l_of (cCons (cVar 0) (cCons (cCall f_l_steps (cCons (cVar 1) cNil)) cNil)))) (sCons (sSet 5 (cComp [8] (cIter (cVar 3)) (gNm 8) (cTst (cBin fNotIn (cVar 8) (cSl (cVar 4) (part (cK (.int 1))) noPart))) (cVar 8))) (sCons (sSet 6 (cBin fAdd (cBin fIx (cBin fIx (cVar 1) (cK (.int 0))) (cK (.int 1))) (cCall f_l_weight (cCons (cVar 1) (cCons (cVar 3) cNil))))) (sCons (sSet 7 (cCall f_l_plus (cCons (cCall f_l_reach (cCons (cVar 1) (cCons (cVar 4) cNil))) (cCons (cCall f_l_lowest (cCons (cBin fMul (cBin fIx (cBin fIx (cVar 1) (cK (.int 0))) (cK (.int 0))) (cCall f_l_weight (cCons (cVar 1) (cCons (cVar 5) cNil)))) (cCons (cVar 6) cNil))) cNil)))) (sCons (sSet 7 (cCall f_l_of (cCons (cVar 0) (cCons (cLst (cCons (cVar 7) (cCons (cVar 7) (cCons (cCall f_l_plus (cCons (cVar 7) (cCons (cTup (cCons (cK (.int 1)) (cCons (cK (.int 2)) cNil))) cNil))) (cCons (cCall f_l_lowest (cCons (cBin fMul (cBin fIx (cVar 7) (cK (.int 0))) (cK (.int 9))) (cCons (cBin fMul (cBin fIx (cVar 7) (cK (.int 1))) (cK (.int 10))) cNil))) cNil))))) cNil)))) (sCons (sRet (cTup (cCons (cVar 7) (cCons (cApp (fTup true) (cCons (cComp [8] (cIter (cVar 3)) (gNm 8) kYes (cTup (cCons (cVar 8) (cCons (cTup (cCons (cK (.int 0)) (cCons (cK (.int 1)) cNil))) cNil)))) cNil)) cNil)))) sNil)))))) sNil) (sCons (sRet (cVar 2)) sNil))))
def f_l_near_standing : Fn := runF 9 false c_l_near_standing
def c_has_folk : CdS := (sCons (sRet (cBin fNe (cComp [2] (cIter (cVar 1)) (gNm 2) (cTst (cBin fIn (cVar 2) (cCall f_folk_of (cCons (cVar 0) cNil)))) (cVar 2)) (cLst cNil))) sNil)
def f_has_folk : Fn := runF 3 false c_has_folk
def c_pulls_by : CdS := (sCons (sSet 4 (cApp (fTup false) (cCons (cComp [5] (cIter (cVar 1)) (gNm 5) (cTst (cBin fNotIn (cVar 5) (cCall f_movers (cCons (cVar 3) cNil)))) (cVar 5)) cNil))) (sCons (sIf (qqNot (cTst (cCall f_has_folk (cCons (cVar 0) (cCons (cVar 4) cNil))))) (sCons (sRet (cK (.bl false))) sNil) sNil) (sCons (sRet (cCall f_is_lesser (cCons (cCall f_nearest_for (cCons (cVar 0) (cCons (cVar 1) (cCons (cVar 2) (cCons (cVar 3) cNil))))) (cCons (cCall f_lesser (cCons (cCall f_reach_of (cCons (cVar 0) (cCons (cVar 3) cNil))) (cCons (cVar 2) cNil))) cNil)))) sNil)))
def f_pulls_by : Fn := runF 6 false c_pulls_by
def c_closed : CdS := (sCons (sSet 2 (cDispT (cCall f_aboard_of (cCons (cVar 1) cNil)) (cCall f_front_of (cCons (cVar 0) (cCons (cVar 1) cNil))))) (sCons (sSet 3 (cK (.bl true))) (sCons (whileN 2000000 (cTst (cVar 3)) (sCons (sSet 3 (cK (.bl false))) (sCons (sFor (cIter (cApp fListD (cCons (cVar 2) cNil))) (gNm 4) (sCons (sFor (cIter (cCall f_all_steps (cCons (cVar 0) cNil))) (gNm 5) (sCons (sSet 6 (cCall f_best_from (cCons (cVar 0) (cCons (cVar 4) (cCons (cBin fIx (cVar 2) (cVar 4)) (cCons (cVar 5) cNil)))))) (sCons (sIf (cTst (cBin fNotN (cVar 6) (cK .non))) (sCons (sIf (cTst (cCall f_pulls_by (cCons (cVar 0) (cCons (cVar 4) (cCons (cBin fIx (cVar 2) (cVar 4)) (cCons (cVar 5) cNil)))))) (sCons (sRet (cK .non)) sNil) sNil) (sCons (sSet 7 (cCall f_lot_behind (cCons (cVar 0) (cCons (cVar 4) (cCons (cVar 5) cNil))))) (sCons (sIf (qqOr (cTst (cBin fNotIn (cVar 7) (cVar 2))) (cTst (cCall f_is_lesser (cCons (cVar 6) (cCons (cBin fIx (cVar 2) (cVar 7)) cNil))))) (sCons (sPutT (cVar 6) (cVar 2) (cVar 7)) (sCons (sSet 3 (cK (.bl true))) sNil)) sNil) sNil))) sNil) sNil))) sNil)) sNil))) (sCons (sRet (cFrz (cVar 2))) sNil))))
def f_closed : Fn := runF 8 false c_closed
def c_pulls : CdS := (sCons (sRet (cOr (cBin fIsN (cCall f_closed (cCons (cVar 0) (cCons (cVar 1) cNil))) (cK .non)) (cBin fEq (cCall f_front_of (cCons (cVar 0) (cCons (cVar 1) cNil))) (cK (.tup [.int 0, .int 1]))))) sNil)
def f_pulls : Fn := runF 2 false c_pulls
def c_l_has_folk : CdS := (sCons (sRet (cBin fNe (cComp [2] (cIter (cVar 1)) (gNm 2) (cTst (cBin fIn (cVar 2) (cCall f_l_folk (cCons (cVar 0) cNil)))) (cVar 2)) (cLst cNil))) sNil)
def f_l_has_folk : Fn := runF 3 false c_l_has_folk
def c_l_slack : CdS := (sCons (sSet 4 (cComp [6] (cIter (cVar 1)) (gNm 6) (cTst (cBin fNotIn (cVar 6) (cSl (cVar 3) (part (cK (.int 1))) noPart))) (cVar 6))) (sCons (sIf (qqOr (cTst (cBin fIsN (cCall f_l_best (cCons (cVar 0) (cCons (cVar 1) (cCons (cVar 2) (cCons (cVar 3) cNil))))) (cK .non))) (qqNot (cTst (cCall f_l_has_folk (cCons (cVar 0) (cCons (cVar 4) cNil)))))) (sCons (sRet (cK (.bl false))) sNil) sNil) (sCons (sSet 5 (cCall f_l_nearest (cCons (cVar 0) (cCons (cVar 1) (cCons (cVar 2) (cCons (cVar 3) cNil)))))) (sCons (sRet (cAnd (cCall f_l_less (cCons (cVar 5) (cCons (cCall f_l_reach (cCons (cVar 0) (cCons (cVar 3) cNil))) cNil))) (cCall f_l_less (cCons (cVar 5) (cCons (cVar 2) cNil))))) sNil))))
def f_l_slack : Fn := runF 7 false c_l_slack
def c_l_contrary : CdS := (sCons (sRet (cBin fAdd (cTup (cCons (cIf (cTst (cBin fEq (cBin fIx (cVar 0) (cK (.int 0))) (cK (.str (Str.ofString "off"))))) (cK (.str (Str.ofString "on"))) (cK (.str (Str.ofString "off")))) cNil)) (cSl (cVar 0) (part (cK (.int 1))) noPart))) sNil)
def f_l_contrary : Fn := runF 1 false c_l_contrary
def c_l_taken_best : CdS := (sCons (sSet 3 (cCall f_rows_for (cCons (cVar 0) (cCons (cVar 1) (cCons (cVar 2) cNil))))) (sCons (sRet (cCall f_stepped (cCons (cVar 0) (cCons (cTup (cCons (cCall f_gap_behind (cCons (cVar 0) (cCons (cVar 1) (cCons (cVar 3) cNil)))) (cCons (cVar 3) cNil))) (cCons (cVar 2) cNil))))) sNil))
def f_l_taken_best : Fn := runF 4 false c_l_taken_best
def c_l_round : CdS := (sCons (sRet (cCall f_l_taken_best (cCons (cVar 0) (cCons (cCall f_l_taken_best (cCons (cVar 0) (cCons (cVar 1) (cCons (cVar 2) cNil)))) (cCons (cCall f_l_contrary (cCons (cVar 2) cNil)) cNil))))) sNil)
def f_l_round : Fn := runF 3 false c_l_round
def c_l_falls : CdS := (sCons (sSet 3 (cNewL (cCons (cBin fIx (cCall f_gaps (cCons (cVar 0) (cCons (cVar 1) cNil))) (cK (.int 1))) cNil))) (sCons (sFor (cRange1 (cK (.int 4))) (gNm 4) (sCons (sIf (cTst (cBin fEq (cBin fIx (cVar 3) (cNeg (cK (.int 1)))) (cTup (cCons (cK (.int 0)) (cCons (cK (.int 1)) cNil))))) (sCons (sRet (cK (.bl true))) sNil) sNil) (sCons (sSet 1 (cCall f_l_round (cCons (cVar 0) (cCons (cVar 1) (cCons (cVar 2) cNil))))) (sCons (sExpr (cAppend (cVar 3) (cBin fIx (cCall f_gaps (cCons (cVar 0) (cCons (cVar 1) cNil))) (cK (.int 1))))) (sCons (sIf (qqNot (cTst (cCall f_l_less (cCons (cBin fIx (cVar 3) (cNeg (cK (.int 1)))) (cCons (cBin fIx (cVar 3) (cNeg (cK (.int 2)))) cNil))))) (sCons (sRet (cK (.bl false))) sNil) sNil) (sCons (sIf (qqAnd (cTst (cBin fGt (cVar 4) (cK (.int 0)))) (qqAnd (cTst (cBin fEq (cBin fIx (cVar 2) (cK (.int 0))) (cK (.str (Str.ofString "off"))))) (cTst (cCall f_l_less (cCons (cCall f_l_reach (cCons (cVar 0) (cCons (cVar 2) cNil))) (cCons (cBin fIx (cVar 3) (cNeg (cK (.int 1)))) cNil)))))) (sCons (sPar 5 6 (cCall f_l_minus (cCons (cBin fIx (cVar 3) (cNeg (cK (.int 2)))) (cCons (cBin fIx (cVar 3) (cNeg (cK (.int 1)))) cNil))) (cCall f_l_minus (cCons (cBin fIx (cVar 3) (cNeg (cK (.int 3)))) (cCons (cBin fIx (cVar 3) (cNeg (cK (.int 2)))) cNil)))) (sCons (sIf (cTst (cCall f_l_less (cCons (cVar 5) (cCons (cVar 6) cNil)))) (sCons (sRet (cK (.bl false))) sNil) sNil) sNil)) sNil) sNil)))))) (sCons (sRet (cK (.bl true))) sNil)))
def f_l_falls : Fn := runF 7 false c_l_falls
def c_law_k11 : CdS := (sCons (sFor (cRange1 (cBin fAdd (cK (.int 1)) (cApp fMin2 (cCons (cApp fLen (cCons (cVar 0) cNil)) (cCons (cK (.int 8)) cNil))))) (gNm 1) (sCons (sSet 2 (cCall f_l_bag (cCons (cVar 0) (cCons (cVar 1) cNil)))) (sCons (sSet 3 (cCall f_l_world (cCons (cVar 2) (cCons (cK (.int 4)) (cCons (cK (.int 2)) cNil))))) (sCons (sSet 4 (cCall f_l_near_standing (cCons (cVar 2) (cCons (cVar 3) cNil)))) (sCons (sSet 5 (cCall f_pulls (cCons (cVar 3) (cCons (cVar 4) cNil)))) (sCons (sIf (qqAnd (cTst (cBin fEq (cBin fIx (cCall f_gaps (cCons (cVar 3) (cCons (cVar 4) cNil))) (cK (.int 1))) (cTup (cCons (cK (.int 0)) (cCons (cK (.int 1)) cNil))))) (qqNot (cTst (cVar 5)))) (sCons (sRet (cK (.bl false))) sNil) sNil) (sCons (sFor (cRange1 (cK (.int 4))) (gNm 6) (sCons (sSet 7 (cFrz (cCall f_can_step (cCons (cVar 3) (cCons (cVar 4) cNil))))) (sCons (sPar 8 9 (cBin fIx (cCall f_gaps (cCons (cVar 3) (cCons (cVar 4) cNil))) (cK (.int 1))) (cCall f_l_aboard (cCons (cVar 4) cNil))) (sCons (sFor (cIter (cVar 7)) (gNm 10) (sCons (sIf (cTst (cCall f_l_slack (cCons (cVar 3) (cCons (cVar 9) (cCons (cVar 8) (cCons (cVar 10) cNil)))))) (sCons (sIf (qqOr (qqNot (cTst (cVar 5))) (qqNot (cTst (cCall f_l_falls (cCons (cVar 3) (cCons (cVar 4) (cCons (cVar 10) cNil))))))) (sCons (sRet (cK (.bl false))) sNil) sNil) sNil) sNil) sNil)) (sCons (sIf (cTst (cBin fNe (cVar 7) (cLst cNil))) (sCons (sSet 4 (cCall f_l_taken_best (cCons (cVar 3) (cCons (cVar 4) (cCons (cCall f_l_of (cCons (cVar 2) (cCons (cVar 7) cNil))) cNil))))) sNil) sNil) sNil))))) sNil))))))) (sCons (sSet 3 (cTup (cCons (cTup (cCons (cK (.int 1)) (cCons (cK (.int 1)) cNil))) (cCons (cTup (cCons (cTup (cCons (cK (.str (Str.ofString "ann"))) (cCons (cK (.int 1)) (cCons (cK (.int 1)) (cCons (cK (.int 10)) cNil))))) cNil)) (cCons (cTup cNil) cNil))))) (sCons (sRet (cBin (fIsB false) (cCall f_pulls (cCons (cVar 3) (cCons (cTup (cCons (cTup (cCons (cK (.int 0)) (cCons (cK (.int 1)) cNil))) (cCons (cTup (cCons (cTup (cCons (cK (.str (Str.ofString "ann"))) (cCons (cTup (cCons (cK (.int 0)) (cCons (cK (.int 1)) cNil))) cNil))) cNil)) cNil))) cNil))) (cK (.bl true)))) sNil)))
def f_law_k11 : Fn := runF 11 false c_law_k11
end OA
namespace OA
open PySem PySem.Spec PyProof.Rows L2
/-! ### reading code -/
section
variable {en : En} {S : Ss} {i : Nat} {r : R}
@[simp] theorem e_var0 {a : Option R} {t : En} (r : R) : cVar 0 (some r :: t) S = some (r, S) := rfl
@[simp] theorem e_varS {a : Option R} {t : En} (i : Nat) : cVar (i + 1) (a :: t) S = cVar i t S := by unfold cVar; simp
@[simp] theorem e_K (d : Dt) : cK d en S = some (.d d, S) := rfl
@[simp] theorem e_nil : cNil en S = some ([], S) := rfl
@[simp] theorem e_snil : sNil en S = some (.nx, en, S) := rfl
@[simp] theorem g_d (x : Dt) : get S (.d x) = some x := rfl
@[simp] theorem dats_nil : dats [] = some [] := rfl
@[simp] theorem dats_cons (x : Dt) (rs : List R) : dats (.d x :: rs) = (dats rs).map (x :: ·) := rfl
theorem e_cons {c : Cd} {cl : CdL} {r rs S1 S2} (h1 : c en S = some (r, S1)) (h2 : cl en S1 = some (rs, S2)) : cCons c cl en S = some (r :: rs, S2) := by unfold cCons; simp [h1, h2]
theorem e_bin {f : F2} {ca cb : Cd} {a b z S1 S2} (h1 : ca en S = some (a, S1)) (h2 : cb en S1 = some (b, S2)) (h3 : f S2 a b = some z) : cBin f ca cb en S = some (z, S2) := by unfold cBin; simp [h1, h2, h3]
theorem e_tup {cl : CdL} {rs ds S1} (h1 : cl en S = some (rs, S1)) (h2 : dats rs = some ds) (h3 : ds.length ≤ 1000) : cTup cl en S = some (.d (.tup ds), S1) := by unfold cTup; simp [h1, h2, h3]
end
/-! ### fractions -/
def fr (q : Rat) : Dt := .tup [.int q.num, .int (q.den : Int)]
/-- a bound on both parts -/
def B (n : Nat) (q : Rat) : Prop := q.num.natAbs < 2 ^ n ∧ q.den < 2 ^ n
theorem B.mono {n m : Nat} {q : Rat} (h : B n q) (hm : n ≤ m) : B m q := ⟨Nat.lt_of_lt_of_le h.1 (Nat.pow_le_pow_right (by decide) hm), Nat.lt_of_lt_of_le h.2 (Nat.pow_le_pow_right (by decide) hm)⟩
theorem log_lt {n k : Nat} (h : n < 2 ^ k) (hk : 0 < k) : n.log2 < k := PySem.Flt.log2_lt_of hk h
theorem fMul_ok {S : Ss} {i j : Int} {a b : Nat} (ha : i.natAbs < 2 ^ a) (hb : j.natAbs < 2 ^ b) (h0 : 0 < a) (h1 : 0 < b) (h : a + b ≤ 1000000) : fMul S (.d (.int i)) (.d (.int j)) = some (.d (.int (i * j))) := by
  have x := log_lt ha h0
  have y := log_lt hb h1
  unfold fMul fI2
  simp only [g_d]
  rw [if_pos (by omega)]
  rfl
@[simp] theorem fAdd_int {S : Ss} {i j : Int} : fAdd S (.d (.int i)) (.d (.int j)) = some (.d (.int (i + j))) := rfl
@[simp] theorem fSub_int {S : Ss} {i j : Int} : fSub S (.d (.int i)) (.d (.int j)) = some (.d (.int (i - j))) := rfl
@[simp] theorem fLt_int {S : Ss} {i j : Int} : fLt S (.d (.int i)) (.d (.int j)) = some (.d (.bl (decide (i < j)))) := rfl
@[simp] theorem fGt_int {S : Ss} {i j : Int} : fGt S (.d (.int i)) (.d (.int j)) = some (.d (.bl (decide (j < i)))) := rfl
@[simp] theorem fLe_int {S : Ss} {i j : Int} : fLe S (.d (.int i)) (.d (.int j)) = some (.d (.bl (decide (i ≤ j)))) := rfl
@[simp] theorem fGe_int {S : Ss} {i j : Int} : fGe S (.d (.int i)) (.d (.int j)) = some (.d (.bl (decide (j ≤ i)))) := rfl
theorem fMod_ok {S : Ss} {i j : Int} (h : 0 < j) : fMod S (.d (.int i)) (.d (.int j)) = some (.d (.int (i % j))) := by
  unfold fMod fI2
  simp only [g_d]
  rw [if_pos h]; rfl
theorem fDiv_ok {S : Ss} {i j : Int} (h : 0 < j) (h2 : j.natAbs < 2 ^ 8999) : fDiv S (.d (.int i)) (.d (.int j)) = some (.d (.int (i / j))) := by
  have := log_lt h2 (by decide)
  unfold fDiv fI2
  simp only [g_d]
  rw [if_pos ⟨h, by omega⟩]; rfl
@[simp] theorem fr_top {S : Ss} {q : Rat} : fIx S (.d (fr q)) (.d (.int 0)) = some (.d (.int q.num)) := rfl
@[simp] theorem fr_bot {S : Ss} {q : Rat} : fIx S (.d (fr q)) (.d (.int 1)) = some (.d (.int (q.den : Int))) := rfl
/-! ### the greatest common divisor -/
abbrev gT : CdB := cTst (cBin fGt (cVar 3) (cK (.int 0)))
abbrev gC : CdS := sCons (sPar 2 3 (cVar 3) (cBin fMod (cVar 2) (cVar 3))) sNil
theorem gl_end (n : Nat) (x y : R) (a : Int) (S : Ss) : whileN (n + 1) gT gC [some x, some y, some (.d (.int a)), some (.d (.int 0))] S = some (.nx, [some x, some y, some (.d (.int a)), some (.d (.int 0))], S) := by
  unfold whileN
  simp [gT, cTst, cBin, asB, cVar, cK, fGt_int]
theorem gl_step (n : Nat) (x y : R) (a b : Nat) (hb : 0 < b) (S : Ss) : whileN (n + 1) gT gC [some x, some y, some (.d (.int (a : Int))), some (.d (.int (b : Int)))] S = whileN n gT gC [some x, some y, some (.d (.int (b : Int))), some (.d (.int ((a % b : Nat) : Int)))] S := by
  have hb' : (0 : Int) < (b : Int) := by omega
  conv => lhs; unfold whileN
  simp [gT, gC, cTst, cBin, asB, cVar, cK, fGt_int, hb, sCons, sPar, fMod_ok hb', sNil]
theorem gl (S : Ss) (x y : R) : ∀ (k : Nat) (n a b : Nat), b < 2 ^ k → 2 * k + 1 ≤ n → whileN n gT gC [some x, some y, some (.d (.int (a : Int))), some (.d (.int (b : Int)))] S = some (.nx, [some x, some y, some (.d (.int ((Nat.gcd a b : Nat) : Int))), some (.d (.int 0))], S)
  | 0, n, a, b, hb, hn => by
    have e : b = 0 := by omega
    subst e
    obtain ⟨m, rfl⟩ : ∃ m, n = m + 1 := ⟨n - 1, by omega⟩
    rw [Nat.gcd_zero_right]
    exact gl_end m x y a S
  | k + 1, n, a, b, hb, hn => by
    obtain ⟨m, rfl⟩ : ∃ m, n = m + 1 := ⟨n - 1, by omega⟩
    by_cases h0 : b = 0
    · subst h0
      rw [Nat.gcd_zero_right]
      exact gl_end m x y a S
    · rw [gl_step m x y a b (by omega) S]
      have e1 : Nat.gcd a b = Nat.gcd b (a % b) := by rw [Nat.gcd_comm a b, Nat.gcd_rec b a, Nat.gcd_comm]
      obtain ⟨m, rfl⟩ : ∃ j, m = j + 1 := ⟨m - 1, by omega⟩
      by_cases h1 : a % b = 0
      · rw [e1, h1, Nat.gcd_zero_right]
        exact gl_end m x y b S
      · rw [gl_step m x y b (a % b) (by omega) S]
        have e2 : Nat.gcd b (a % b) = Nat.gcd (a % b) (b % (a % b)) := by rw [Nat.gcd_comm b, Nat.gcd_rec (a % b) b, Nat.gcd_comm]
        rw [e1, e2]
        refine gl S x y k m (a % b) (b % (a % b)) ?_ (by omega)
        have l1 : a % b < b := Nat.mod_lt _ (by omega)
        have l2 : b % (a % b) < a % b := Nat.mod_lt _ (by omega)
        have l3 : b % (a % b) + (a % b) ≤ b := by
          have := Nat.div_add_mod b (a % b)
          have hq : 1 ≤ b / (a % b) := (Nat.one_le_div_iff (by omega)).mpr (by omega)
          have : (a % b) * 1 ≤ (a % b) * (b / (a % b)) := Nat.mul_le_mul_left _ hq
          omega
        have : 2 ^ (k + 1) = 2 * 2 ^ k := by rw [Nat.pow_succ]; omega
        omega
/-- the fraction a / b -/
theorem fr_mk {a : Int} {b : Nat} (hb : b ≠ 0) : fr (mkRat a b) = .tup [.int (a / ((Nat.gcd a.natAbs b : Nat) : Int)), .int ((b : Int) / ((Nat.gcd a.natAbs b : Nat) : Int))] := by
  unfold fr
  rw [Rat.num_mkRat, Rat.den_mkRat, if_neg hb, if_neg hb, Nat.gcd_comm]
  simp
theorem run_ret {N : Nat} {c : CdS} {rs : List R} {S S' : Ss} {x : Dt} {en} (h : c (rs.map some ++ List.replicate (N - rs.length) none) S = some (.ret (.d x), en, S')) (hs : S'.take S.length = S) : runF N false c rs S = some (.d x, S) := by
  unfold runF
  simp [h, finish, hs]
theorem sp_lowest (S : Ss) (a : Int) (b : Nat) (hb : 0 < b) (hz : b < 2 ^ 8999) : f_lowest [.d (.int a), .d (.int (b : Int))] S = some (.d (fr (mkRat a b)), S) := by
  have hg := gl S (.d (.int a)) (.d (.int (b : Int))) 8999 100000 a.natAbs b hz (by decide)
  have gp : 0 < Nat.gcd a.natAbs b := Nat.gcd_pos_of_pos_right _ hb
  have gz : Nat.gcd a.natAbs b < 2 ^ 8999 := Nat.lt_of_le_of_lt (Nat.gcd_le_right _ hb) hz
  have ea : (if a < 0 then -a else a) = (a.natAbs : Int) := by split <;> omega
  refine run_ret (en := [some (.d (.int a)), some (.d (.int (b : Int))), some (.d (.int ((Nat.gcd a.natAbs b : Nat) : Int))), some (.d (.int 0))]) (S' := S) ?_ (List.take_length)
  rw [fr_mk (by omega)]
  have d1 := fDiv_ok (S := S) (i := a) (j := ((Nat.gcd a.natAbs b : Nat) : Int)) (by omega) (by simpa using gz)
  have d2 := fDiv_ok (S := S) (i := (b : Int)) (j := ((Nat.gcd a.natAbs b : Nat) : Int)) (by omega) (by simpa using gz)
  show sCons _ _ _ S = _
  simp only [gT, gC] at hg
  simp [c_lowest, sCons, sPar, cApp, cCons, cNil, cVar, fAbs, ea, hg, sRet, cTup, cBin, d1, d2]
end OA
namespace OA
open PySem PySem.Spec PyProof.Rows L2
theorem B_mk {a : Int} {b n : Nat} (ha : a.natAbs < 2 ^ n) (hb : b < 2 ^ n) (hn : 0 < n) : B n (mkRat a b) := by
  unfold B
  rw [Rat.num_mkRat, Rat.den_mkRat]
  by_cases h0 : b = 0
  · rw [if_pos h0, if_pos h0]
    have : 1 < 2 ^ n := Nat.one_lt_two_pow (by omega)
    exact ⟨by simpa using Nat.lt_trans Nat.zero_lt_one this, this⟩
  · rw [if_neg h0, if_neg h0]
    refine ⟨Nat.lt_of_le_of_lt ?_ ha, Nat.lt_of_le_of_lt (Nat.div_le_self _ _) hb⟩
    rw [Int.natAbs_ediv_of_dvd (Int.ofNat_dvd_left.mpr (Nat.gcd_dvd_right _ _))]
    exact Nat.div_le_self _ _
theorem B.d {n : Nat} {q : Rat} (h : B n q) : ((q.den : Int)).natAbs < 2 ^ n := by rw [Int.natAbs_natCast]; exact h.2
theorem nb {b n : Nat} (h : b < 2 ^ n) : ((b : Int)).natAbs < 2 ^ n := by rw [Int.natAbs_natCast]; exact h
theorem B_add {n m : Nat} {p q : Rat} (hp : B n p) (hq : B m q) : B (n + m + 1) (p + q) := by
  rw [Rat.add_def']
  refine B_mk ?_ ?_ (by omega)
  · have h1 : (p.num * q.den).natAbs < 2 ^ (n + m) := wide_lt hp.1 hq.d
    have h2 : (q.num * p.den).natAbs < 2 ^ (n + m) := by rw [Nat.add_comm n m]; exact wide_lt hq.1 hp.d
    have : 2 ^ (n + m + 1) = 2 * 2 ^ (n + m) := by rw [Nat.pow_succ]; omega
    omega
  · have : p.den * q.den < 2 ^ (n + m) := by rw [Nat.pow_add]; exact Nat.mul_lt_mul'' hp.2 hq.2
    exact Nat.lt_of_lt_of_le this (Nat.pow_le_pow_right (by decide) (by omega))
theorem B_sub {n m : Nat} {p q : Rat} (hp : B n p) (hq : B m q) : B (n + m + 1) (p - q) := by
  rw [Rat.sub_def']
  refine B_mk ?_ ?_ (by omega)
  · have h1 : (p.num * q.den).natAbs < 2 ^ (n + m) := wide_lt hp.1 hq.d
    have h2 : (q.num * p.den).natAbs < 2 ^ (n + m) := by rw [Nat.add_comm n m]; exact wide_lt hq.1 hp.d
    have : 2 ^ (n + m + 1) = 2 * 2 ^ (n + m) := by rw [Nat.pow_succ]; omega
    omega
  · have : p.den * q.den < 2 ^ (n + m) := by rw [Nat.pow_add]; exact Nat.mul_lt_mul'' hp.2 hq.2
    exact Nat.lt_of_lt_of_le this (Nat.pow_le_pow_right (by decide) (by omega))
/-- q times a, by b -/
def by' (q : Rat) (a : Int) (b : Nat) : Rat := mkRat (q.num * a) (q.den * b)
theorem by_eq (q : Rat) (a : Int) (b : Nat) : by' q a b = q * a / b := by
  unfold by'
  rw [← Rat.mkRat_mul_mkRat, Rat.mkRat_self, Rat.mkRat_eq_div, Rat.div_def, Rat.div_def, Rat.mul_assoc]
theorem B_by {n k m : Nat} {q : Rat} {a : Int} {b : Nat} (hq : B n q) (ha : a.natAbs < 2 ^ k) (hb : b < 2 ^ k) (hm : n + k ≤ m) (h0 : 0 < n) : B m (by' q a b) := by
  refine B.mono (n := n + k) (B_mk (wide_lt hq.1 ha) ?_ (by omega)) hm
  rw [Nat.pow_add]
  exact Nat.mul_lt_mul'' hq.2 hb
theorem B_zero {n : Nat} (h : 0 < n) : B n 0 := by
  have : 1 < 2 ^ n := Nat.one_lt_two_pow (by omega)
  exact ⟨by simpa using Nat.lt_trans Nat.zero_lt_one this, this⟩
@[simp] theorem fr_zero : fr 0 = .tup [.int 0, .int 1] := rfl
theorem sp_plus (S : Ss) {p q : Rat} (hp : B 4000 p) (hq : B 4000 q) : f_plus [.d (fr p), .d (fr q)] S = some (.d (fr (p + q)), S) := by
  have a1 := fMul_ok (S := S) (i := p.num) (j := (q.den : Int)) hp.1 hq.d (by decide) (by decide) (by decide)
  have a2 := fMul_ok (S := S) (i := q.num) (j := (p.den : Int)) hq.1 hp.d (by decide) (by decide) (by decide)
  have a3 := fMul_ok (S := S) (i := (p.den : Int)) (j := (q.den : Int)) hp.d hq.d (by decide) (by decide) (by decide)
  have hz : p.den * q.den < 2 ^ 8999 := Nat.lt_of_lt_of_le (by rw [Nat.pow_add (m := 4000) (n := 4000)]; exact Nat.mul_lt_mul'' hp.2 hq.2) (Nat.pow_le_pow_right (n := 2) (by decide) (show 4000 + 4000 ≤ 8999 by decide))
  have hl := sp_lowest S (p.num * q.den + q.num * p.den) (p.den * q.den) (Nat.mul_pos p.den_pos q.den_pos) hz
  rw [← Rat.add_def'] at hl
  refine run_ret (en := [some (.d (fr p)), some (.d (fr q))]) (S' := S) ?_ (List.take_length)
  rw [Int.natCast_mul] at hl
  simp [c_plus, sCons, sRet, cCall, cCons, cNil, cBin, cVar, cK, a1, a2, a3, hl]
theorem sp_less (S : Ss) {p q : Rat} (hp : B 4000 p) (hq : B 4000 q) : f_less [.d (fr p), .d (fr q)] S = some (.d (fr (p - q)), S) := by
  have a1 := fMul_ok (S := S) (i := p.num) (j := (q.den : Int)) hp.1 hq.d (by decide) (by decide) (by decide)
  have a2 := fMul_ok (S := S) (i := q.num) (j := (p.den : Int)) hq.1 hp.d (by decide) (by decide) (by decide)
  have a3 := fMul_ok (S := S) (i := (p.den : Int)) (j := (q.den : Int)) hp.d hq.d (by decide) (by decide) (by decide)
  have hz : p.den * q.den < 2 ^ 8999 := Nat.lt_of_lt_of_le (by rw [Nat.pow_add (m := 4000) (n := 4000)]; exact Nat.mul_lt_mul'' hp.2 hq.2) (Nat.pow_le_pow_right (n := 2) (by decide) (show 4000 + 4000 ≤ 8999 by decide))
  have hl := sp_lowest S (p.num * q.den - q.num * p.den) (p.den * q.den) (Nat.mul_pos p.den_pos q.den_pos) hz
  rw [← Rat.sub_def'] at hl
  refine run_ret (en := [some (.d (fr p)), some (.d (fr q))]) (S' := S) ?_ (List.take_length)
  rw [Int.natCast_mul] at hl
  simp [c_less, sCons, sRet, cCall, cCons, cNil, cBin, cVar, cK, a1, a2, a3, hl]
theorem sp_times (S : Ss) {q : Rat} {a : Int} {b : Nat} (hq : B 4000 q) (ha : a.natAbs < 2 ^ 4000) (hb : b < 2 ^ 4000) (h0 : 0 < b) : f_times [.d (fr q), .d (.int a), .d (.int (b : Int))] S = some (.d (fr (q * a / b)), S) := by
  have a1 := fMul_ok (S := S) (i := q.num) (j := a) hq.1 ha (by decide) (by decide) (by decide)
  have a3 := fMul_ok (S := S) (i := (q.den : Int)) (j := (b : Int)) hq.d (nb hb) (by decide) (by decide) (by decide)
  have hz : q.den * b < 2 ^ 8999 := Nat.lt_of_lt_of_le (by rw [Nat.pow_add (m := 4000) (n := 4000)]; exact Nat.mul_lt_mul'' hq.2 hb) (Nat.pow_le_pow_right (n := 2) (by decide) (show 4000 + 4000 ≤ 8999 by decide))
  have hl := sp_lowest S (q.num * a) (q.den * b) (Nat.mul_pos q.den_pos h0) hz
  rw [show mkRat (q.num * a) (q.den * b) = q * a / b from by_eq q a b] at hl
  refine run_ret (en := [some (.d (fr q)), some (.d (.int a)), some (.d (.int (b : Int)))]) (S' := S) ?_ (List.take_length)
  rw [Int.natCast_mul] at hl
  simp [c_times, sCons, sRet, cCall, cCons, cNil, cBin, cVar, cK, a1, a3, hl]
theorem sp_is_lesser (S : Ss) {p q : Rat} (hp : B 4000 p) (hq : B 4000 q) : f_is_lesser [.d (fr p), .d (fr q)] S = some (.d (.bl (decide (p < q))), S) := by
  have a1 := fMul_ok (S := S) (i := p.num) (j := (q.den : Int)) hp.1 hq.d (by decide) (by decide) (by decide)
  have a2 := fMul_ok (S := S) (i := q.num) (j := (p.den : Int)) hq.1 hp.d (by decide) (by decide) (by decide)
  refine run_ret (en := [some (.d (fr p)), some (.d (fr q))]) (S' := S) ?_ (List.take_length)
  simp [c_is_lesser, sCons, sRet, cBin, cVar, cK, a1, a2, Rat.lt_iff]
theorem l_lowest_eq : f_l_lowest = f_lowest := rfl
theorem l_plus_eq : f_l_plus = f_plus := rfl
theorem l_minus_eq : f_l_minus = f_less := rfl
theorem l_less_eq : f_l_less = f_is_lesser := rfl
theorem sp_l_times (S : Ss) {q : Rat} {a : Int} (hq : B 4000 q) (ha : a.natAbs < 2 ^ 4000) : f_l_times [.d (fr q), .d (.int a)] S = some (.d (fr (q * a)), S) := by
  have a1 := fMul_ok (S := S) (i := q.num) (j := a) hq.1 ha (by decide) (by decide) (by decide)
  have hz : q.den < 2 ^ 8999 := Nat.lt_of_lt_of_le hq.2 (Nat.pow_le_pow_right (n := 2) (by decide) (by decide))
  have hl := sp_lowest S (q.num * a) q.den q.den_pos hz
  rw [show mkRat (q.num * a) q.den = q * a by rw [Rat.mul_def']; simp] at hl
  refine run_ret (en := [some (.d (fr q)), some (.d (.int a))]) (S' := S) ?_ (List.take_length)
  simp [c_l_times, l_lowest_eq, sCons, sRet, cCall, cCons, cNil, cBin, cVar, cK, a1, hl]
end OA
namespace OA
open PySem PySem.Spec PyProof.Rows L2
/-! ### lists walked -/
theorem compN_map {α : Type} {vs : List Nat} {g : CdG} {c : Cd} {en : En} {S : Ss} (enc f : α → Dt) : ∀ (xs : List α), (∀ x ∈ xs, ∃ en1, g (.d (enc x)) (wipeE en vs) = some en1 ∧ c en1 S = some (.d (f x), S)) → compN vs g kYes c (xs.map enc) en S = some (xs.map f, S)
  | [], _ => rfl
  | x :: xs, h => by
    obtain ⟨en1, e1, e2⟩ := h x List.mem_cons_self
    have ih := compN_map (vs := vs) (g := g) (c := c) (en := en) (S := S) enc f xs fun y hy => h y (List.mem_cons_of_mem _ hy)
    simp [compN, e1, kYes, e2, ih]
theorem compN_filter {α : Type} {vs : List Nat} {g : CdG} {t : CdB} {c : Cd} {en : En} {S : Ss} (enc f : α → Dt) (p : α → Bool) : ∀ (xs : List α), (∀ x ∈ xs, ∃ en1, g (.d (enc x)) (wipeE en vs) = some en1 ∧ t en1 S = some (p x, S) ∧ (p x = true → c en1 S = some (.d (f x), S))) → compN vs g t c (xs.map enc) en S = some ((xs.filter p).map f, S)
  | [], _ => rfl
  | x :: xs, h => by
    obtain ⟨en1, e1, e2, e3⟩ := h x List.mem_cons_self
    have ih := compN_filter (vs := vs) (g := g) (t := t) (c := c) (en := en) (S := S) enc f p xs fun y hy => h y (List.mem_cons_of_mem _ hy)
    cases hp : p x with
    | true =>
      have e3 := e3 hp
      simp [compN, e1, e2, hp, e3, ih]
    | false => simp [compN, e1, e2, hp, ih]
theorem e_comp {vs : List Nat} {ci : CdI} {g : CdG} {t : CdB} {c : Cd} {en : En} {S : Ss} {ds ys : List Dt} (h1 : ci en S = some (ds, S)) (h2 : compN vs g t c ds en S = some (ys, S)) : cComp vs ci g t c en S = some (.d (.lst ys), S) := by
  unfold cComp; simp [h1, h2]
theorem e_iter {c : Cd} {en : En} {S : Ss} {x : Dt} {ds : List Dt} (h1 : c en S = some (.d x, S)) (h2 : itemsOf x = some ds) : cIter c en S = some (ds, S) := by
  unfold cIter; simp [h1, h2]
/-! ### worlds -/
structure One where
  nm : Str
  hv : Nat
  rc : Nat
  ar : Nat
structure W where
  lg : Nat
  rh : Nat
  folk : List One
  loads : List (Str × Nat)
def eOne (o : One) : Dt := .tup [.str o.nm, .int (o.hv : Int), .int (o.rc : Int), .int (o.ar : Int)]
def eLoad (l : Str × Nat) : Dt := .tup [.str l.1, .int (l.2 : Int)]
def eW (w : W) : Dt := .tup [.tup [.int (w.lg : Int), .int (w.rh : Int)], .tup (w.folk.map eOne), .tup (w.loads.map eLoad)]
/-- all, with what they weigh -/
def W.all (w : W) : List (Str × Nat) := w.folk.map (fun o => (o.nm, o.hv)) ++ w.loads
def W.names (w : W) : List Str := w.all.map (·.1)
structure W.Ok (w : W) : Prop where
  lg : w.lg ≤ 500
  rh0 : 1 ≤ w.rh
  rh : w.rh ≤ 100
  hv : ∀ p ∈ w.all, 1 ≤ p.2 ∧ p.2 ≤ 60
  rc : ∀ o ∈ w.folk, 1 ≤ o.rc ∧ o.rc ≤ 30
  ar : ∀ o ∈ w.folk, o.ar ≤ 60
  nf : w.folk.length ≤ 4
  nl : w.loads.length ≤ 2
  nd : w.names.Nodup
def wt (w : W) (n : Str) : Nat := (w.all.lookup n).getD 0
def weight (w : W) (lot : List Str) : Nat := (lot.map (wt w)).sum
def whole (w : W) (lot : List Str) : Nat := w.rh + weight w lot
theorem all_len {w : W} (h : w.Ok) : w.all.length ≤ 6 := by
  unfold W.all
  have := h.nf; have := h.nl
  simp; omega
/-- a dict of texts -/
def dicK {α : Type} (f : α → Dt) (ps : List (Str × α)) : List (Dt × Dt) := ps.map fun p => (.str p.1, f p.2)
theorem look_dicK {α : Type} (f : α → Dt) (j : Str) : ∀ ps : List (Str × α), lookK (dicK f ps) j = (ps.lookup j).map f
  | [] => rfl
  | (k, v) :: ps => by
    have ih := look_dicK f j ps
    simp only [dicK, List.map_cons, lookK, keyK, List.lookup_cons, Option.some.injEq] at ih ⊢
    by_cases e : k = j
    · subst e; simp
    · have e' : (j == k) = false := beq_eq_false_iff_ne.mpr (fun z => e z.symm)
      rw [if_neg e, e']
      exact ih
theorem merge_dicK {α : Type} (f : α → Dt) : ∀ (ps acc : List (Str × α)), ((acc ++ ps).map (·.1)).Nodup → mergeKD (dicK f acc) (ps.map fun p => (p.1, f p.2)) = dicK f (acc ++ ps)
  | [], acc, _ => by simp [mergeKD]
  | (k, v) :: ps, acc, h => by
    have hk : ¬ k ∈ acc.map (·.1) := by
      intro hm
      rw [List.map_append, List.nodup_append] at h
      exact h.2.2 k hm k (by simp) rfl
    have hn : lookK (dicK f acc) k = none := by
      rw [look_dicK]
      have : acc.lookup k = none := by
        rw [List.lookup_eq_none_iff]
        intro p hp
        exact bne_iff_ne.mpr fun z => hk (List.mem_map.mpr ⟨p, hp, z.symm⟩)
      rw [this]; rfl
    have e1 : putKD (dicK f acc) k (f v) = dicK f (acc ++ [(k, v)]) := by
      unfold putKD
      rw [hn]
      simp [dicK]
    rw [List.map_cons]
    show mergeKD (putKD (dicK f acc) k (f v)) _ = _
    rw [e1, merge_dicK f ps (acc ++ [(k, v)]) (by simpa using h)]
    simp
abbrev hvD (w : W) : List (Dt × Dt) := dicK (fun n : Nat => Dt.int (n : Int)) w.all
theorem hv_look (w : W) {n : Str} (h : n ∈ w.names) : lookK (hvD w) n = some (.int (wt w n : Int)) := by
  rw [look_dicK]
  unfold wt
  cases e : w.all.lookup n with
  | some v => rfl
  | none =>
    rw [List.lookup_eq_none_iff] at e
    obtain ⟨p, hp, rfl⟩ := List.mem_map.mp h
    exact absurd (e p hp) (by simp)
theorem wt_le {w : W} (h : w.Ok) (n : Str) : wt w n ≤ 60 := by
  unfold wt
  cases e : w.all.lookup n with
  | none => exact Nat.zero_le _
  | some v =>
    have hm : (n, v) ∈ w.all := PySem.mem_of_lookup e
    exact (h.hv _ hm).2
theorem wt_pos {w : W} (h : w.Ok) {n : Str} (hn : n ∈ w.names) : 1 ≤ wt w n := by
  unfold wt
  cases e : w.all.lookup n with
  | none =>
    rw [List.lookup_eq_none_iff] at e
    obtain ⟨p, hp, rfl⟩ := List.mem_map.mp hn
    exact absurd (e p hp) (by simp)
  | some v =>
    have hm : (n, v) ∈ w.all := PySem.mem_of_lookup e
    exact (h.hv _ hm).1
theorem weight_le {w : W} (h : w.Ok) : ∀ lot : List Str, weight w lot ≤ 60 * lot.length
  | [] => Nat.le_refl _
  | n :: lot => by
    have ih := weight_le h lot
    have := wt_le h n
    unfold weight at ih ⊢
    rw [List.map_cons, List.sum_cons, List.length_cons]
    omega
/-! ### the program's own reading of worlds -/
theorem pairK_all (ps : List (Str × Nat)) : pairK (ps.map eLoad) = some (ps.map fun p => (p.1, .int (p.2 : Int))) := by
  induction ps with
  | nil => rfl
  | cons p ps ih => rw [List.map_cons, pairK]; simp [eLoad, tupV, ih]
theorem w_one (w : W) (S : Ss) : fIx S (.d (eW w)) (.d (.int 1)) = some (.d (.tup (w.folk.map eOne))) := rfl
theorem w_two (w : W) (S : Ss) : fIx S (.d (eW w)) (.d (.int 2)) = some (.d (.tup (w.loads.map eLoad))) := rfl
theorem w_zero (w : W) (S : Ss) : fIx S (.d (eW w)) (.d (.int 0)) = some (.d (.tup [.int (w.lg : Int), .int (w.rh : Int)])) := rfl
/-- one or load -/
inductive Th where
  | one (o : One)
  | load (l : Str × Nat)
def eTh : Th → Dt
  | .one o => eOne o
  | .load l => eLoad l
def Th.pr : Th → Str × Nat
  | .one o => (o.nm, o.hv)
  | .load l => l
theorem add_all (w : W) (h : w.Ok) (S : Ss) : ∃ d, fAdd S (.d (.tup (w.folk.map eOne))) (.d (.tup (w.loads.map eLoad))) = some (.d d) ∧ itemsOf d = some ((w.folk.map Th.one ++ w.loads.map Th.load).map eTh) := by
  have hl : (w.folk.map eOne).length + (w.loads.map eLoad).length ≤ 1000 := by
    have := h.nf; have := h.nl
    simp; omega
  have e : (w.folk.map Th.one ++ w.loads.map Th.load).map eTh = w.folk.map eOne ++ w.loads.map eLoad := by
    simp [List.map_append, eTh, Function.comp_def]
  rw [e]
  unfold fAdd
  simp only [g_d, tupV]
  rw [if_pos hl]
  cases hf : w.folk with
  | nil => exact ⟨_, rfl, rfl⟩
  | cons o os =>
    cases hq : w.loads with
    | nil => exact ⟨_, rfl, by simp [itemsOf]⟩
    | cons p ps => exact ⟨_, rfl, rfl⟩
theorem sp_heavies (S : Ss) (w : W) (h : w.Ok) : f_heavies [.d (eW w)] S = some (.d (.dK (hvD w)), S) := by
  refine run_ret (en := [some (.d (eW w)), none]) (S' := S) ?_ (List.take_length)
  obtain ⟨d, e1, e2⟩ := add_all w h S
  have ec : cBin fAdd (cBin fIx (cVar 0) (cK (.int 1))) (cBin fIx (cVar 0) (cK (.int 2))) [some (.d (eW w)), none] S = some (.d d, S) := by
    simp [cBin, cVar, cK, w_one, w_two, e1]
  have hc := compN_map (vs := [1]) (g := gNm 1) (c := cTup (cCons (cBin fIx (cVar 1) (cK (.int 0))) (cCons (cBin fIx (cVar 1) (cK (.int 1))) cNil))) (en := [some (.d (eW w)), none]) (S := S)
    eTh (fun t => eLoad t.pr) (w.folk.map Th.one ++ w.loads.map Th.load) (fun t _ => ⟨[some (.d (eW w)), some (.d (eTh t))], rfl, by
      cases t <;> rfl⟩)
  have hm : (w.folk.map Th.one ++ w.loads.map Th.load).map (fun t => eLoad t.pr) = w.all.map eLoad := by
    unfold W.all
    simp [List.map_append, Function.comp_def, Th.pr]
  rw [hm] at hc
  have hcc := e_comp (e_iter ec e2) hc
  have hd := merge_dicK (fun n : Nat => Dt.int (n : Int)) w.all [] (by simpa [W.names] using h.nd)
  have hp := pairK_all w.all
  show sCons _ _ _ S = _
  simp [c_heavies, sCons, sRet, cDictK, hcc, pairV, hp]
  simpa [dicK] using hd
theorem intsOf_nat : ∀ ns : List Nat, intsOf (ns.map fun n : Nat => Dt.int (n : Int)) = some (ns.map fun n : Nat => (n : Int))
  | [] => rfl
  | n :: ns => by rw [List.map_cons, intsOf, intsOf_nat ns]; rfl
theorem sum_nat : ∀ ns : List Nat, (ns.map fun n : Nat => (n : Int)).sum = ((ns.sum : Nat) : Int)
  | [] => rfl
  | n :: ns => by rw [List.map_cons, List.sum_cons, List.sum_cons, sum_nat ns]; simp
theorem sp_weight_of (S : Ss) (w : W) (h : w.Ok) (d : Dt) (lot : List Str) (hd : itemsOf d = some (lot.map .str)) (hn : ∀ n ∈ lot, n ∈ w.names) : f_weight_of [.d (eW w), .d d] S = some (.d (.int (weight w lot : Int)), S) := by
  refine run_ret (en := [some (.d (eW w)), some (.d d), some (.d (.dK (hvD w))), none]) (S' := S) ?_ (List.take_length)
  have hc := compN_map (vs := [3]) (g := gNm 3) (c := cBin fIx (cVar 2) (cVar 3)) (en := [some (.d (eW w)), some (.d d), some (.d (.dK (hvD w))), none]) (S := S)
    Dt.str (fun n => .int (wt w n : Int)) lot (fun n hm => ⟨[some (.d (eW w)), some (.d d), some (.d (.dK (hvD w))), some (.d (.str n))], rfl, by
      simp [cBin, cVar, fIx, hv_look w (hn n hm)]⟩)
  have hcc := e_comp (e_iter (c := cVar 1) (en := [some (.d (eW w)), some (.d d), some (.d (.dK (hvD w))), none]) (S := S) rfl hd) hc
  have e1 : lot.map (fun n => Dt.int (wt w n : Int)) = (lot.map (wt w)).map fun n : Nat => Dt.int (n : Int) := by simp
  rw [e1] at hcc
  show sCons _ _ _ S = _
  simp only [List.map_cons, List.map_nil, List.length_cons, List.length_nil, List.replicate, List.cons_append, List.nil_append]
  simp [c_weight_of, sCons, sSet, cCall, cCons, cNil, cVar, sp_heavies S w h, sRet, cApp]
  have hs : fSum S [.d (.lst ((lot.map (wt w)).map fun n : Nat => Dt.int (n : Int)))] = some (.d (.int (weight w lot : Int))) := by
    unfold fSum fL1
    simp only [g_d, intsOf_nat, sum_nat, Option.map_some]
    rfl
  generalize List.map (fun n : Nat => Dt.int (n : Int)) (List.map (wt w) lot) = ys at hcc hs
  rw [hcc]
  simp [hs]
/-! ### rows -/
abbrev Rows := List (Str × Rat)
def eRow (r : Str × Rat) : Dt := .tup [.str r.1, fr r.2]
def rowsD : Rows → Dt
  | [] => .tup0
  | r :: rs => .tup ((r :: rs).map eRow)
theorem rowsD_items (rs : Rows) : itemsOf (rowsD rs) = some (rs.map eRow) := by cases rs <;> rfl
theorem rowsD_tup (rs : Rows) : tupV (rowsD rs) = some (rs.map eRow) := by cases rs <;> rfl
def rnames (rs : Rows) : List Str := rs.map (·.1)
def drive (w : W) : Rows → Rat
  | [] => 0
  | r :: rs => r.2 * (wt w r.1 : Nat) + drive w rs
theorem term_eq (q : Rat) (n : Nat) : q * ((n : Int) : Rat) / ((1 : Nat) : Rat) = q * (n : Nat) := by
  rw [Rat.div_def]
  have : ((1 : Nat) : Rat)⁻¹ = 1 := by decide +kernel
  rw [this, Rat.mul_one]
  rfl
theorem term_B {w : W} (h : w.Ok) {n : Nat} (h0 : 0 < n) {q : Rat} (hq : B n q) (k : Str) : B (n + 6) (q * (wt w k : Nat)) := by
  rw [← term_eq, ← by_eq]
  exact B_by (k := 6) hq (by have := wt_le h k; simp; omega) (by decide) (Nat.le_refl _) h0
theorem drive_B {w : W} (h : w.Ok) {n : Nat} (h0 : 0 < n) : ∀ rs : Rows, (∀ r ∈ rs, B n r.2) → B ((n + 8) * rs.length + 1) (drive w rs)
  | [], _ => B_zero (by omega)
  | r :: rs, hr => by
    have ih := drive_B h h0 rs fun r hm => hr r (List.mem_cons_of_mem _ hm)
    refine B.mono (B_add (term_B h h0 (hr r List.mem_cons_self) r.1) ih) ?_
    rw [List.length_cons, Nat.mul_add]
    omega
theorem sp_drive_of (S : Ss) (w : W) (h : w.Ok) (d : Dt) (rs : Rows) (hd : itemsOf d = some (rs.map eRow)) (hn : ∀ r ∈ rs, r.1 ∈ w.names) {n : Nat} (h0 : 0 < n) (hB : ∀ r ∈ rs, B n r.2) (hl : (n + 8) * (rs.length + 1) ≤ 3900) :
    f_drive_of [.d (eW w), .d d] S = some (.d (fr (drive w rs)), S) := by
  have key : ∀ (rs : Rows), (∀ r ∈ rs, r.1 ∈ w.names) → (∀ r ∈ rs, B n r.2) → ∀ (t : Rat) (m : Nat) (x y : Option R), B m t → m + (n + 8) * (rs.length + 1) ≤ 3950 →
      ∃ x' y', forN (gTp (gCons' (gNm 4) (gCons' (gNm 5) gNil'))) (sCons (sSet 3 (cCall f_plus (cCons (cVar 3) (cCons (cCall f_times (cCons (cVar 5) (cCons (cBin fIx (cVar 2) (cVar 4)) (cCons (cK (.int 1)) cNil)))) cNil)))) sNil) (rs.map eRow)
        [some (.d (eW w)), some (.d d), some (.d (.dK (hvD w))), some (.d (fr t)), x, y] S = some (.nx, [some (.d (eW w)), some (.d d), some (.d (.dK (hvD w))), some (.d (fr (t + drive w rs))), x', y'], S) := by
    intro rs
    induction rs with
    | nil => intro _ _ t m x y _ _; exact ⟨x, y, by simp [forN, drive, Rat.add_zero]⟩
    | cons r rs ih =>
      intro hn hB t m x y ht hm
      rw [List.length_cons, Nat.mul_add] at hm
      have hr := hB r List.mem_cons_self
      have h1 := sp_times S (q := r.2) (a := (wt w r.1 : Int)) (b := 1) (hr.mono (by omega)) (by
        have := wt_le h r.1
        refine Nat.lt_of_lt_of_le (m := 2 ^ 6) (by simp; omega) (Nat.pow_le_pow_right (by decide) (by decide))) (Nat.one_lt_two_pow (by decide)) (by decide)
      rw [term_eq] at h1
      have hb1 := term_B h h0 hr r.1
      have h2 := sp_plus S (p := t) (q := r.2 * (wt w r.1 : Nat)) (ht.mono (by omega)) (hb1.mono (by omega))
      have hb2 := B_add ht hb1
      obtain ⟨x', y', e3⟩ := ih (fun r hm => hn r (List.mem_cons_of_mem _ hm)) (fun r hm => hB r (List.mem_cons_of_mem _ hm)) _ _ (some (.d (.str r.1))) (some (.d (fr r.2))) hb2 (by omega)
      refine ⟨x', y', ?_⟩
      have e4 : t + drive w (r :: rs) = t + r.2 * (wt w r.1 : Nat) + drive w rs := by simp [drive, Rat.add_assoc]
      rw [e4, ← e3]
      have h1' : f_times [.d (fr r.2), .d (.int (wt w r.1 : Int)), .d (.int 1)] S = some (.d (fr (r.2 * (wt w r.1 : Nat))), S) := h1
      rw [List.map_cons]
      conv => lhs; unfold forN
      simp [gTp, eRow, tupV, gCons', gNm, gNil', sCons, sSet, cCall, cCons, cNil, cVar, cBin, cK, fIx, hv_look w (hn r List.mem_cons_self), h1', h2, sNil]
  obtain ⟨x, y, e⟩ := key rs hn hB 0 1 none none (B_zero (by decide)) (by omega)
  rw [Rat.zero_add] at e
  refine run_ret (en := [some (.d (eW w)), some (.d d), some (.d (.dK (hvD w))), some (.d (fr (drive w rs))), x, y]) (S' := S) ?_ (List.take_length)
  have e' := e
  rw [fr_zero] at e'
  have hi := e_iter (c := cVar 1) (en := [some (.d (eW w)), some (.d d), some (.d (.dK (hvD w))), some (.d (.tup [.int 0, .int 1])), none, none]) (S := S) rfl hd
  show sCons _ _ _ S = _
  simp only [List.map_cons, List.map_nil, List.length_cons, List.length_nil, List.replicate, List.cons_append, List.nil_append]
  simp [c_drive_of, sCons, sSet, cCall, cCons, cNil, cVar, sp_heavies S w h, sRet, cK, sFor]
  simp [hi, e']
end OA
namespace OA
open PySem PySem.Spec PyProof.Rows L2
structure ROk (w : W) (n : Nat) (rs : Rows) : Prop where
  nm : ∀ r ∈ rs, r.1 ∈ w.names
  pl : ∀ r ∈ rs, B n r.2
  len : rs.length ≤ 6
  nd : (rnames rs).Nodup
theorem ROk.mono {w : W} {n m : Nat} {rs : Rows} (h : ROk w n rs) (hm : n ≤ m) : ROk w m rs := ⟨h.nm, fun r hr => (h.pl r hr).mono hm, h.len, h.nd⟩
theorem ROk.nms {w : W} {n : Nat} {rs : Rows} (h : ROk w n rs) : ∀ x ∈ rnames rs, x ∈ w.names := fun x hx => by
  obtain ⟨r, hr, rfl⟩ := List.mem_map.mp hx
  exact h.nm r hr
theorem whole_pos {w : W} (h : w.Ok) (lot : List Str) : 0 < whole w lot := by have := h.rh0; unfold whole; omega
theorem whole_le {w : W} (h : w.Ok) {lot : List Str} (hl : lot.length ≤ 6) : whole w lot < 2 ^ 9 := by
  have := h.rh; have := weight_le h lot
  unfold whole
  simp; omega
def pull (w : W) (rs : Rows) : Rat := drive w rs / (whole w (rnames rs) : Nat)
theorem one_by (q : Rat) (b : Nat) : q * ((1 : Int) : Rat) / (b : Rat) = q / (b : Rat) := by
  rw [show ((1 : Int) : Rat) = 1 from rfl, Rat.mul_one]
theorem B_over {n : Nat} {q : Rat} {b : Nat} (hq : B n q) (h0 : 0 < n) (hb : b < 2 ^ 9) : B (n + 9) (q / (b : Nat)) := by
  rw [← one_by, ← by_eq]
  exact B_by (k := 9) hq (by decide) hb (Nat.le_refl _) h0
theorem pull_B {w : W} (h : w.Ok) {n : Nat} (h0 : 0 < n) {rs : Rows} (hr : ROk w n rs) : B ((n + 8) * 6 + 10) (pull w rs) := by
  refine B.mono (B_over (drive_B h h0 rs hr.pl) (by omega) (whole_le h (by simp [rnames, hr.len]))) ?_
  have := Nat.mul_le_mul_left (n + 8) hr.len
  omega
def eSt (g : Rat) (rs : Rows) : Dt := .tup [fr g, rowsD rs]
@[simp] theorem st_zero {S : Ss} {g : Rat} {rs : Rows} : fIx S (.d (eSt g rs)) (.d (.int 0)) = some (.d (fr g)) := rfl
@[simp] theorem st_one {S : Ss} {g : Rat} {rs : Rows} : fIx S (.d (eSt g rs)) (.d (.int 1)) = some (.d (rowsD rs)) := rfl
def names (xs : List Str) : Dt := .tup (xs.map .str)
theorem names_items (xs : List Str) : itemsOf (names xs) = some (xs.map .str) := rfl
theorem e_names {vs : List Nat} {k : Nat} {c : Cd} {en : En} {S : Ss} {d : Dt} {rs : Rows} (hk : vs = [k]) (hl : k < en.length) (h1 : c en S = some (.d d, S)) (h2 : itemsOf d = some (rs.map eRow)) : cComp vs (cIter c) (gNm k) kYes (cBin fIx (cVar k) (cK (.int 0))) en S = some (.d (.lst ((rnames rs).map .str)), S) := by
  subst hk
  have hc := compN_map (vs := [k]) (g := gNm k) (c := cBin fIx (cVar k) (cK (.int 0))) (en := en) (S := S) eRow (fun r => .str r.1) rs (fun r _ => ⟨_, rfl, by
    simp [cBin, cVar, cK, wipeE, hl]
    rfl⟩)
  have := e_comp (e_iter h1 h2) hc
  rw [this]
  simp [rnames, Function.comp_def]
theorem sp_aboard_of (S : Ss) (g : Rat) (rs : Rows) : f_aboard_of [.d (eSt g rs)] S = some (.d (names (rnames rs)), S) := by
  refine run_ret (en := [some (.d (eSt g rs)), none]) (S' := S) ?_ (List.take_length)
  have := e_names (vs := [1]) (k := 1) (en := [some (.d (eSt g rs)), none]) (S := S) (c := cBin fIx (cVar 0) (cK (.int 1))) rfl (by simp) (by simp [cBin, cVar, cK]) (rowsD_items rs)
  show sCons _ _ _ S = _
  simp [c_aboard_of, sCons, sRet, cApp, cCons, cNil]
  rw [this]
  simp [fTup, names]
theorem l_aboard_eq : f_l_aboard = f_aboard_of := rfl
theorem sp_whole_of (S : Ss) (w : W) (h : w.Ok) (d : Dt) (lot : List Str) (hd : itemsOf d = some (lot.map .str)) (hn : ∀ n ∈ lot, n ∈ w.names) : f_whole_of [.d (eW w), .d d] S = some (.d (.int (whole w lot : Int)), S) := by
  refine run_ret (en := [some (.d (eW w)), some (.d d)]) (S' := S) ?_ (List.take_length)
  have e : fIx S (.d (.tup [.int (w.lg : Int), .int (w.rh : Int)])) (.d (.int 1)) = some (.d (.int (w.rh : Int))) := rfl
  show sCons _ _ _ S = _
  simp [c_whole_of, sCons, sRet, cCall, cCons, cNil, cBin, cVar, cK, w_zero, e, sp_weight_of S w h d lot hd hn, whole]
theorem sp_drive (S : Ss) {w : W} (h : w.Ok) {d : Dt} {rs : Rows} {n : Nat} (hr : ROk w n rs) (h0 : 0 < n) (hn : n ≤ 500) (hd : itemsOf d = some (rs.map eRow)) : f_drive_of [.d (eW w), .d d] S = some (.d (fr (drive w rs)), S) := by
  refine sp_drive_of S w h d rs hd hr.nm h0 hr.pl ?_
  have := hr.len
  have := Nat.mul_le_mul (show n + 8 ≤ 508 by omega) (show rs.length + 1 ≤ 7 by omega)
  omega
theorem drive_b {w : W} (h : w.Ok) {rs : Rows} {n : Nat} (hr : ROk w n rs) (h0 : 0 < n) : B ((n + 8) * 6 + 1) (drive w rs) := (drive_B h h0 rs hr.pl).mono (by have := Nat.mul_le_mul_left (n + 8) hr.len; omega)
theorem lt4 {b n : Nat} (h : b < 2 ^ n) (hn : n ≤ 4000) : b < 2 ^ 4000 := Nat.lt_of_lt_of_le h (Nat.pow_le_pow_right (by decide) hn)
theorem sp_pull (S : Ss) {w : W} (h : w.Ok) {rs : Rows} {n : Nat} (hr : ROk w n rs) (h0 : 0 < n) (hn : n ≤ 500) : f_times [.d (fr (drive w rs)), .d (.int 1), .d (.int (whole w (rnames rs) : Int))] S = some (.d (fr (pull w rs)), S) := by
  have hb := whole_le h (lot := rnames rs) (by simp [rnames, hr.len])
  have := sp_times S (q := drive w rs) (a := 1) (b := whole w (rnames rs)) ((drive_b h hr h0).mono (by omega)) (lt4 (n := 1) (by decide) (by decide)) (lt4 hb (by decide)) (whole_pos h _)
  rw [one_by] at this
  exact this
def front (w : W) (g : Rat) (rs : Rows) : Rat := g + pull w rs
theorem sp_front_of (S : Ss) {w : W} (h : w.Ok) {g : Rat} {rs : Rows} {n : Nat} (hg : B 3900 g) (hr : ROk w n rs) (h0 : 0 < n) (hn : n ≤ 500) : f_front_of [.d (eW w), .d (eSt g rs)] S = some (.d (fr (front w g rs)), S) := by
  refine run_ret (en := [some (.d (eW w)), some (.d (eSt g rs))]) (S' := S) ?_ (List.take_length)
  show sCons _ _ _ S = _
  simp [c_front_of, sCons, sRet, cCall, cCons, cNil, cBin, cVar, cK, sp_drive S h hr h0 hn (rowsD_items rs), sp_aboard_of, sp_whole_of S w h _ _ (names_items _) hr.nms, sp_pull S h hr h0 hn,
    sp_plus S (hg.mono (by decide)) ((pull_B h h0 hr).mono (m := 4000) (by omega)), front]
def behind (w : W) (F : Rat) (rs : Rows) : Rat := F - pull w rs
theorem sp_gap_by (S : Ss) {w : W} (h : w.Ok) {F : Rat} {d : Dt} {rs : Rows} {n : Nat} (hd : itemsOf d = some (rs.map eRow)) (hg : B 4000 F) (hr : ROk w n rs) (h0 : 0 < n) (hn : n ≤ 500) : f_gap_by [.d (eW w), .d (fr F), .d d] S = some (.d (fr (behind w F rs)), S) := by
  refine run_ret (en := [some (.d (eW w)), some (.d (fr F)), some (.d d), some (.d (.int (whole w (rnames rs) : Int))), none]) (S' := S) ?_ (List.take_length)
  have e1 := e_names (vs := [4]) (k := 4) (en := [some (.d (eW w)), some (.d (fr F)), some (.d d), none, none]) (S := S) (c := cVar 2) rfl (by simp) rfl hd
  have e2 := sp_whole_of S w h (.lst ((rnames rs).map .str)) (rnames rs) rfl hr.nms
  show sCons _ _ _ S = _
  simp only [List.map_cons, List.map_nil, List.length_cons, List.length_nil, List.replicate, List.cons_append, List.nil_append]
  simp [c_gap_by, sCons, sSet, sRet, cCall, cCons, cNil, cVar, cK]
  rw [e1]
  simp [e2, sp_drive S h hr h0 hn hd, sp_pull S h hr h0 hn,
    sp_less S hg ((pull_B h h0 hr).mono (m := 4000) (by omega)), behind]
/-- none, if less than nought -/
def nn (q : Rat) : Dt := if q < 0 then .non else fr q
theorem front_B {w : W} (h : w.Ok) {g : Rat} {rs : Rows} {n m : Nat} (hg : B m g) (hr : ROk w n rs) (h0 : 0 < n) : B (m + (n + 8) * 6 + 11) (front w g rs) :=
  (B_add hg (pull_B h h0 hr)).mono (by omega)
theorem behind_B {w : W} (h : w.Ok) {F : Rat} {rs : Rows} {n m : Nat} (hg : B m F) (hr : ROk w n rs) (h0 : 0 < n) : B (m + (n + 8) * 6 + 11) (behind w F rs) :=
  (B_sub hg (pull_B h h0 hr)).mono (by omega)
theorem k_nought : Dt.tup [.int 0, .int 1] = fr 0 := rfl
theorem sp_gap_behind (S : Ss) {w : W} (h : w.Ok) {g : Rat} {d : Dt} {st rs : Rows} {n m : Nat} (hd : itemsOf d = some (rs.map eRow)) (hg : B m g) (hs : ROk w n st) (hr : ROk w n rs) (h0 : 0 < n) (hn : m + (n + 8) * 12 + 22 ≤ 3900) : f_gap_behind [.d (eW w), .d (eSt g st), .d d] S = some (.d (nn (behind w (front w g st) rs)), S) := by
  refine run_ret (en := [some (.d (eW w)), some (.d (eSt g st)), some (.d d), some (.d (fr (behind w (front w g st) rs)))]) (S' := S) ?_ (List.take_length)
  have hF := front_B h hg hs h0
  have hB := behind_B h hF hr h0
  have e1 := sp_front_of S h (hg.mono (m := 3900) (by omega)) hs h0 (by omega)
  have e2 := sp_gap_by S h hd (hF.mono (m := 4000) (by omega)) hr h0 (by omega)
  have e3 := sp_is_lesser S (hB.mono (m := 4000) (by omega)) (B_zero (n := 4000) (by decide))
  show sCons _ _ _ S = _
  simp only [List.map_cons, List.map_nil, List.length_cons, List.length_nil, List.replicate, List.cons_append, List.nil_append]
  simp only [c_gap_behind, k_nought]
  simp [sCons, sSet, sRet, cCall, cCons, cNil, cVar, cK, cIf, cTst, asB, e1, e2, e3, nn, - fr_zero]
  split <;> simp_all
def back (w : W) (lot : List Str) : Rows := lot.map fun n => (n, (w.lg : Rat))
theorem back_names (w : W) (lot : List Str) : rnames (back w lot) = lot := by simp [rnames, back, Function.comp_def]
theorem nat_B {k n : Nat} (h : k < 2 ^ n) (hn : 0 < n) : B n (k : Rat) := ⟨h, Nat.one_lt_two_pow (by omega)⟩
theorem back_ok {w : W} (h : w.Ok) {lot : List Str} (h1 : ∀ n ∈ lot, n ∈ w.names) (h2 : lot.length ≤ 6) (h3 : lot.Nodup) : ROk w 9 (back w lot) := by
  refine ⟨fun r hr => ?_, fun r hr => ?_, by simp [back, h2], by rw [back_names]; exact h3⟩
  · obtain ⟨x, hx, rfl⟩ := List.mem_map.mp hr
    exact h1 x hx
  · obtain ⟨x, hx, rfl⟩ := List.mem_map.mp hr
    exact nat_B (by have := h.lg; simp; omega) (by decide)
theorem tup_rows (rs : Rows) (S : Ss) : fTup true S [.d (.lst (rs.map eRow))] = some (.d (rowsD rs)) := by cases rs <;> rfl
theorem sp_all_back (S : Ss) (w : W) (d : Dt) (lot : List Str) (hd : itemsOf d = some (lot.map .str)) : f_all_back [.d (eW w), .d d] S = some (.d (rowsD (back w lot)), S) := by
  refine run_ret (en := [some (.d (eW w)), some (.d d), none]) (S' := S) ?_ (List.take_length)
  have hc := compN_map (vs := [2]) (g := gNm 2) (c := cTup (cCons (cVar 2) (cCons (cTup (cCons (cBin fIx (cBin fIx (cVar 0) (cK (.int 0))) (cK (.int 0))) (cCons (cK (.int 1)) cNil))) cNil))) (en := [some (.d (eW w)), some (.d d), none]) (S := S)
    Dt.str (fun n => eRow (n, (w.lg : Rat))) lot (fun n _ => ⟨_, rfl, rfl⟩)
  have hcc := e_comp (e_iter (c := cVar 1) rfl hd) hc
  show sCons _ _ _ S = _
  simp only [List.map_cons, List.map_nil, List.length_cons, List.length_nil, List.replicate, List.cons_append, List.nil_append]
  simp [c_all_back, sCons, sRet, cApp, cCons, cNil]
  rw [hcc]
  have : lot.map (fun n => eRow (n, (w.lg : Rat))) = (back w lot).map eRow := by simp [back, Function.comp_def]
  rw [this]
  simp [tup_rows]
def atl (q : Rat) : Rat := if q < 0 then 0 else q
def least (w : W) (lot : List Str) (F : Rat) : Rat := atl (behind w F (back w lot))
theorem sp_least_by (S : Ss) {w : W} (h : w.Ok) {F : Rat} {d : Dt} {lot : List Str} {m : Nat} (hd : itemsOf d = some (lot.map .str)) (h1 : ∀ n ∈ lot, n ∈ w.names) (h2 : lot.length ≤ 6) (h3 : lot.Nodup) (hg : B m F) (hm : m ≤ 3700) : f_least_by [.d (eW w), .d d, .d (fr F)] S = some (.d (fr (least w lot F)), S) := by
  have ho := back_ok h h1 h2 h3
  refine run_ret (en := [some (.d (eW w)), some (.d d), some (.d (fr F)), some (.d (fr (behind w F (back w lot))))]) (S' := S) ?_ (List.take_length)
  have e1 := sp_all_back S w d lot hd
  have e2 := sp_gap_by S h (rowsD_items _) (hg.mono (m := 4000) (by omega)) ho (by decide) (by decide)
  have hB := behind_B h hg ho (by decide)
  have e3 := sp_is_lesser S (hB.mono (m := 4000) (by omega)) (B_zero (n := 4000) (by decide))
  show sCons _ _ _ S = _
  simp only [List.map_cons, List.map_nil, List.length_cons, List.length_nil, List.replicate, List.cons_append, List.nil_append]
  simp only [c_least_by, k_nought]
  simp [sCons, sSet, sRet, cCall, cCons, cNil, cVar, cK, cIf, cTst, asB, e1, e2, e3, least, atl, - fr_zero]
  split <;> simp_all
theorem sp_gaps (S : Ss) {w : W} (h : w.Ok) {g : Rat} {rs : Rows} {n m : Nat} (hg : B m g) (hr : ROk w n rs) (h0 : 0 < n) (hn : m + (n + 8) * 6 + 11 ≤ 3000) : f_gaps [.d (eW w), .d (eSt g rs)] S = some (.d (.tup [fr (least w (rnames rs) (front w g rs)), fr (front w g rs)]), S) := by
  have hF := front_B h hg hr h0
  refine run_ret (en := [some (.d (eW w)), some (.d (eSt g rs)), some (.d (fr (front w g rs)))]) (S' := S) ?_ (List.take_length)
  have e1 := sp_front_of S h (hg.mono (m := 3900) (by omega)) hr h0 (by omega)
  have e2 := sp_least_by S h (names_items (rnames rs)) hr.nms (by simp [rnames, hr.len]) hr.nd hF (by omega)
  show sCons _ _ _ S = _
  simp only [List.map_cons, List.map_nil, List.length_cons, List.length_nil, List.replicate, List.cons_append, List.nil_append]
  simp [c_gaps, sCons, sSet, sRet, cCall, cCons, cNil, cVar, cTup, e1, e2, sp_aboard_of]
end OA
namespace OA
open PySem PySem.Spec PyProof.Rows L2
/-! ### the bag -/
/-- the store: dead things, the bag, what is being made -/
def sb (D : Ss) (p : Nat × Nat) (X : Ss) : Ss := D ++ .lst [.int (p.1 : Int), .int (p.2 : Int)] :: X
def okp (p : Nat × Nat) : Prop := p.2 < 2 ^ 31
theorem sb_len (D : Ss) (p : Nat × Nat) (X : Ss) : (sb D p X).length = D.length + 1 + X.length := by simp [sb]; omega
@[simp] theorem sb_at (D : Ss) (p : Nat × Nat) (X : Ss) : (sb D p X)[D.length]? = some (.lst [.int (p.1 : Int), .int (p.2 : Int)]) := by simp [sb]
theorem sb_set (D : Ss) (p : Nat × Nat) (X : Ss) (a b : Nat) : (sb D p X).set D.length (.lst [.int (a : Int), .int (b : Int)]) = sb D (a, b) X := by simp [sb]
@[simp] theorem sb_get (D : Ss) (p : Nat × Nat) (X : Ss) : get (sb D p X) (.c D.length) = some (.lst [.int (p.1 : Int), .int (p.2 : Int)]) := by simp [get, SO.val]
theorem sb_take (D : Ss) (p q : Nat × Nat) (X Y : Ss) : (sb D q (X ++ Y)).take (sb D p X).length = sb D q X := by
  rw [sb_len]
  have : sb D q (X ++ Y) = sb D q X ++ Y := by simp [sb]
  rw [this, ← sb_len D q X, List.take_left]
theorem run_bag {N : Nat} {c : CdS} {rs : List R} {D X Y : Ss} {p q : Nat × Nat} {x : Dt} {en} (h : c (rs.map some ++ List.replicate (N - rs.length) none) (sb D p X) = some (.ret (.d x), en, sb D q (X ++ Y))) : runF N false c rs (sb D p X) = some (.d x, sb D q X) := by
  unfold runF
  simp [h, finish, sb_take]
theorem run_bag0 {N : Nat} {c : CdS} {rs : List R} {D X : Ss} {p q : Nat × Nat} {x : Dt} {en} (h : c (rs.map some ++ List.replicate (N - rs.length) none) (sb D p X) = some (.ret (.d x), en, sb D q X)) : runF N false c rs (sb D p X) = some (.d x, sb D q X) := run_bag (Y := []) (by rw [h, List.append_nil])
theorem sb_zero (D : Ss) (p : Nat × Nat) (X : Ss) : fIx (sb D p X) (.c D.length) (.d (.int 0)) = some (.d (.int (p.1 : Int))) := by
  unfold fIx; simp [get, SO.val]; rfl
theorem sb_one (D : Ss) (p : Nat × Nat) (X : Ss) : fIx (sb D p X) (.c D.length) (.d (.int 1)) = some (.d (.int (p.2 : Int))) := by
  unfold fIx; simp [get, SO.val]; rfl
theorem fMul_s {S : Ss} {i j : Nat} (h1 : i < 2 ^ 31) (h2 : j < 2 ^ 31) : fMul S (.d (.int (i : Int))) (.d (.int (j : Int))) = some (.d (.int ((i * j : Nat) : Int))) := by
  rw [fMul_ok (a := 31) (b := 31) (by simpa using h1) (by simpa using h2) (by decide) (by decide) (by decide), Int.natCast_mul]
theorem sp_take (D X : Ss) (p : Nat × Nat) (hp : okp p) (m : Nat) (hm : 0 < m) (hz : m < 2 ^ 8999) : ∃ r q, okp q ∧ r < m ∧ f_l_take [.c D.length, .d (.int (m : Int))] (sb D p X) = some (.d (.int (r : Int)), sb D q X) := by
  by_cases h0 : 0 < p.1
  · refine ⟨p.1 % m, (p.1 / m, p.2), hp, Nat.mod_lt _ hm, ?_⟩
    refine run_bag0 (en := [some (.c D.length), some (.d (.int (m : Int))), some (.d (.int ((p.1 % m : Nat) : Int)))]) ?_
    have e1 := fMod_ok (S := sb D p X) (i := (p.1 : Int)) (j := (m : Int)) (by omega)
    have e2 := fDiv_ok (S := sb D p X) (i := (p.1 : Int)) (j := (m : Int)) (by omega) (nb hz)
    have e3 := sb_set D p X (p.1 / m) p.2
    rw [Int.natCast_ediv] at e3
    show sCons _ _ _ _ = _
    simp only [List.map_cons, List.map_nil, List.length_cons, List.length_nil, List.replicate, List.cons_append, List.nil_append]
    simp [c_l_take, sCons, sSet, sRet, sIf, cTst, asB, cCons, cNil, cBin, cVar, cK, sPut, sb_zero, h0, e1, e2]
    simp [ixN, e3]
  · have z : p.1 = 0 := by omega
    obtain ⟨r, hr⟩ : ∃ r, p.2 * 48271 % 2147483647 = r := ⟨_, rfl⟩
    have hr2 : r < 2 ^ 31 := by rw [← hr]; exact Nat.lt_of_lt_of_le (Nat.mod_lt _ (by decide)) (by decide)
    refine ⟨r * r % 2147483629 / 64 % m, (p.1, r), hr2, Nat.mod_lt _ hm, ?_⟩
    refine run_bag0 (en := [some (.c D.length), some (.d (.int (m : Int))), none]) ?_
    have e1 := fMul_s (S := sb D p X) (i := p.2) (j := 48271) hp (by decide)
    have e2 := fMod_ok (S := sb D p X) (i := ((p.2 * 48271 : Nat) : Int)) (j := 2147483647) (by decide)
    have e3 := sb_set D p X p.1 r
    have e4 := fMul_s (S := sb D (p.1, r) X) (i := r) (j := r) hr2 hr2
    have e5 := fMod_ok (S := sb D (p.1, r) X) (i := ((r * r : Nat) : Int)) (j := 2147483629) (by decide)
    have e6 := fDiv_ok (S := sb D (p.1, r) X) (i := ((r * r : Nat) : Int) % 2147483629) (j := 64) (by decide) (Nat.lt_of_lt_of_le (show (64 : Int).natAbs < 2 ^ 7 by decide) (Nat.pow_le_pow_right (by decide) (by decide)))
    have e7 := fMod_ok (S := sb D (p.1, r) X) (i := ((r * r : Nat) : Int) % 2147483629 / 64) (j := (m : Int)) (by omega)
    have e8 : ((p.2 * 48271 : Nat) : Int) % 2147483647 = (r : Int) := by rw [← hr]; rfl
    rw [e8] at e2
    show sCons _ _ _ _ = _
    simp only [List.map_cons, List.map_nil, List.length_cons, List.length_nil, List.replicate, List.cons_append, List.nil_append]
    have e1' : fMul (sb D p X) (.d (.int (p.2 : Int))) (.d (.int 48271)) = some (.d (.int ((p.2 * 48271 : Nat) : Int))) := e1
    generalize ((p.2 * 48271 : Nat) : Int) = u at *
    rw [Int.natCast_mul] at e4 e5 e6 e7
    have e3' : List.set (sb D p X) D.length (SO.lst [Dt.int 0, Dt.int (r : Int)]) = sb D (0, r) X := by
      have := sb_set D p X 0 r
      simpa using this
    rw [z] at e4 e5 e6 e7
    simp [c_l_take, sCons, sSet, sRet, sIf, cTst, asB, cCons, cNil, cBin, cVar, cK, sPut, sb_zero, sb_one, z, e1', e2]
    simp [ixN, e3', sb_one, e4, e5, e6, e7]
end OA
namespace OA
open PySem PySem.Spec PyProof.Rows L2
section
variable {en en1 : En} {S S1 S2 : Ss} {r r2 : R} {c : Cd} {c1 c2 : CdS} {t : CdB} {b : Bool}
theorem e_var {i : Nat} (h : en[i]? = some (some r)) : cVar i en S = some (r, S) := by unfold cVar; simp [h]
theorem e_seq (h : c1 en S = some (.nx, en1, S1)) : sCons c1 c2 en S = c2 en1 S1 := by unfold sCons; simp [h]
theorem e_set {i : Nat} (h : c en S = some (r, S1)) : sSet i c en S = some (.nx, en.set i (some r), S1) := by unfold sSet; simp [h]
theorem e_expr (h : c en S = some (r, S1)) : sExpr c en S = some (.nx, en, S1) := by unfold sExpr; simp [h]
theorem e_ret (h : c en S = some (r, S1)) : sRet c en S = some (.ret r, en, S1) := by unfold sRet; simp [h]
theorem e_rets (h : c en S = some (r, S1)) : sCons (sRet c) c2 en S = some (.ret r, en, S1) := by unfold sCons; simp [e_ret h]
theorem e_tst (h : c en S = some (.d (.bl b), S1)) : cTst c en S = some (b, S1) := by unfold cTst; simp [h, asB]
theorem e_ifT (h : t en S = some (true, S1)) : sIf t c1 c2 en S = c1 en S1 := by unfold sIf; simp [h]
theorem e_ifF (h : t en S = some (false, S1)) : sIf t c1 c2 en S = c2 en S1 := by unfold sIf; simp [h]
theorem e_call {f : Fn} {cl : CdL} {rs : List R} {z} (h : cl en S = some (rs, S1)) (h2 : f rs S1 = z) : cCall f cl en S = z := by unfold cCall; simp [h, h2]
theorem e_app {f : FL} {cl : CdL} {rs : List R} (h : cl en S = some (rs, S1)) (h2 : f S1 rs = some r) : cApp f cl en S = some (r, S1) := by unfold cApp; simp [h, h2]
theorem e_for0 {g : CdG} {b : CdS} : forN g b [] en S = some (.nx, en, S) := rfl
theorem e_for1 {g : CdG} {b : CdS} {d : Dt} {ds : List Dt} {en2 : En} (h1 : g (.d d) en = some en1) (h2 : b en1 S = some (.nx, en2, S1)) : forN g b (d :: ds) en S = forN g b ds en2 S1 := by
  conv => lhs; unfold forN
  simp [h1, h2]
theorem e_sfor {ci : CdI} {g : CdG} {b : CdS} {ds : List Dt} (h : ci en S = some (ds, S1)) : sFor ci g b en S = forN g b ds en S1 := by unfold sFor; simp [h]
end
theorem m8 {m : Nat} (h : m < 2 ^ 64) : m < 2 ^ 8999 := Nat.lt_of_lt_of_le h (Nat.pow_le_pow_right (by decide) (by decide))
theorem atI_nat {α : Type} (xs : List α) (i : Nat) (h : i < xs.length) : atI xs (i : Int) = some xs[i] := by
  unfold atI ixN
  simp [h]
theorem fIx_lst {S : Ss} {xs : List Dt} {i : Nat} (h : i < xs.length) : fIx S (.d (.lst xs)) (.d (.int (i : Int))) = some (.d xs[i]) := by
  unfold fIx
  simp [get, atI_nat xs i h]
theorem sp_of (D X : Ss) (p : Nat × Nat) (hp : okp p) (xs : List Dt) (hx : xs ≠ []) (hl : xs.length < 2 ^ 64) : ∃ x q, x ∈ xs ∧ okp q ∧ f_l_of [.c D.length, .d (.lst xs)] (sb D p X) = some (.d x, sb D q X) := by
  obtain ⟨r, q, hq, hr, e⟩ := sp_take D X p hp xs.length (by have := List.length_pos_iff.mpr hx; omega) (m8 hl)
  refine ⟨xs[r], q, List.getElem_mem hr, hq, ?_⟩
  refine run_bag0 (en := [some (.c D.length), some (.d (.lst xs))]) ?_
  show sCons _ _ _ _ = _
  simp only [List.map_cons, List.map_nil, List.length_cons, List.length_nil, List.replicate, List.cons_append, List.nil_append]
  simp [c_l_of, sCons, sRet, cCall, cApp, cCons, cNil, cBin, cVar, fLen, e, fIx_lst hr]
/-- one of some numbers, and what is taken of it -/
theorem e_pick {D X : Ss} {p : Nat × Nat} (hp : okp p) {en : En} {cl : Cd} {ns : List Nat} {b : Nat} {k : Int} (h0 : en[0]? = some (some (.c D.length))) (hcl : ∀ S, cl en S = some (.d (.lst (ns.map fun n : Nat => Dt.int (n : Int))), S))
    (hk : k = (ns.length : Int)) (hn : ∀ n ∈ ns, 0 < n ∧ n ≤ b) (hl : 0 < ns.length) (hk2 : ns.length < 2 ^ 64) (hb : b < 2 ^ 64) : ∃ r q, okp q ∧ r < b ∧
    cCall f_l_take (cCons (cVar 0) (cCons (cBin fIx cl (cCall f_l_take (cCons (cVar 0) (cCons (cK (.int k)) cNil)))) cNil)) en (sb D p X) = some (.d (.int (r : Int)), sb D q X) := by
  subst hk
  obtain ⟨r, q, hq, hr, e⟩ := sp_take D X p hp ns.length hl (m8 hk2)
  have hr' : r < (ns.map fun n : Nat => Dt.int (n : Int)).length := by simpa using hr
  obtain ⟨h1, h2⟩ := hn _ (List.getElem_mem hr)
  obtain ⟨r2, q2, hq2, hr2, e2⟩ := sp_take D X q hq ns[r] h1 (m8 (by omega))
  refine ⟨r2, q2, hq2, by omega, ?_⟩
  have e3 := fIx_lst (S := sb D q X) hr'
  rw [List.getElem_map] at e3
  have ev : ∀ S, cVar 0 en S = some (.c D.length, S) := fun S => by simp [cVar, h0]
  simp [cCall, cCons, cNil, cBin, ev, hcl, e, e3, e2]
theorem sb_getX (D X : Ss) (p : Nat × Nat) (i : Nat) : (sb D p X)[D.length + 1 + i]? = X[i]? := by
  unfold sb
  rw [List.getElem?_append_right (by omega)]
  rw [show D.length + 1 + i - D.length = i + 1 by omega, List.getElem?_cons_succ]
theorem sb_setX (D X : Ss) (p : Nat × Nat) (i : Nat) (o : SO) : (sb D p X).set (D.length + 1 + i) o = sb D p (X.set i o) := by
  unfold sb
  rw [List.set_append_right _ _ (by omega)]
  rw [show D.length + 1 + i - D.length = i + 1 by omega, List.set_cons_succ]
theorem sb_push (D X : Ss) (p : Nat × Nat) (o : SO) : sb D p X ++ [o] = sb D p (X ++ [o]) := by simp [sb]
theorem sb_last (D X : Ss) (p : Nat × Nat) (o : SO) : (sb D p (X ++ [o]))[D.length + 1 + X.length]? = some o := by rw [sb_getX]; simp
theorem sb_lastS (D X : Ss) (p : Nat × Nat) (o o' : SO) : (sb D p (X ++ [o])).set (D.length + 1 + X.length) o' = sb D p (X ++ [o']) := by rw [sb_setX]; simp
/-- a.append(e), e taking of the bag -/
theorem e_append {D X : Ss} {p q : Nat × Nat} {en : En} {co c : Cd} {ds : List Dt} {x : Dt} (h1 : co en (sb D p (X ++ [.lst ds])) = some (.c (D.length + 1 + X.length), sb D p (X ++ [.lst ds]))) (h2 : c en (sb D p (X ++ [.lst ds])) = some (.d x, sb D q (X ++ [.lst ds]))) (hl : ds.length < 1000) :
    cAppend co c en (sb D p (X ++ [.lst ds])) = some (.d .non, sb D q (X ++ [.lst (ds ++ [x])])) := by
  unfold cAppend
  simp [h1, sb_last, h2, hl, sb_lastS]
/-! ### worlds, as the laws make them -/
def okOne (o : One) : Prop := (1 ≤ o.hv ∧ o.hv ≤ 60) ∧ (1 ≤ o.rc ∧ o.rc ≤ 30) ∧ o.ar ≤ 60
def c_folk : CdS := sCons (sSet 8 (cIf (cTst (cVar 5)) (cVar 4) (cBin fAdd (cK (.int 1)) (cCall f_l_take (cCons (cVar 0) (cCons (cBin fIx (cLst (cCons (cK (.int 6)) (cCons (cK (.int 30)) cNil))) (cCall f_l_take (cCons (cVar 0) (cCons (cK (.int 2)) cNil)))) cNil)))))) (sCons (sSet 9 (cBin fAdd (cK (.int 1)) (cCall f_l_take (cCons (cVar 0) (cCons (cBin fIx (cLst (cCons (cK (.int 6)) (cCons (cK (.int 60)) cNil))) (cCall f_l_take (cCons (cVar 0) (cCons (cK (.int 2)) cNil)))) cNil))))) (sCons (sExpr (cAppend (cVar 6) (cTup (cCons (cVar 7) (cCons (cVar 9) (cCons (cVar 8) (cCons (cCall f_l_take (cCons (cVar 0) (cCons (cBin fIx (cLst (cCons (cK (.int 1)) (cCons (cK (.int 20)) (cCons (cK (.int 61)) cNil)))) (cCall f_l_take (cCons (cVar 0) (cCons (cK (.int 3)) cNil)))) cNil))) cNil))))))) sNil))
def c_loads : CdS := sCons (sExpr (cAppend (cVar 10) (cTup (cCons (cVar 7) (cCons (cBin fAdd (cK (.int 1)) (cCall f_l_take (cCons (cVar 0) (cCons (cBin fIx (cLst (cCons (cK (.int 6)) (cCons (cK (.int 60)) cNil))) (cCall f_l_take (cCons (cVar 0) (cCons (cK (.int 2)) cNil)))) cNil)))) cNil))))) sNil
theorem folk_loop (D X : Ss) (a b r : R) (reach : Nat) (hreach : 1 ≤ reach ∧ reach ≤ 30) (alike : Bool) (z : Option R) : ∀ (ns : List Str) (done : List One) (p : Nat × Nat) (u v w : Option R), okp p → done.length + ns.length ≤ 4 →
    ∃ os q u' v' w', okp q ∧ os.map One.nm = ns ∧ (∀ o ∈ os, okOne o) ∧
    forN (gNm 7) c_folk (ns.map .str) [some (.c D.length), some a, some b, some r, some (.d (.int (reach : Int))), some (.d (.bl alike)), some (.c (D.length + 1 + X.length)), u, v, w, z] (sb D p (X ++ [.lst (done.map eOne)]))
      = some (.nx, [some (.c D.length), some a, some b, some r, some (.d (.int (reach : Int))), some (.d (.bl alike)), some (.c (D.length + 1 + X.length)), u', v', w', z], sb D q (X ++ [.lst ((done ++ os).map eOne)]))
  | [], done, p, u, v, w, hp, _ => ⟨[], p, u, v, w, hp, rfl, by simp, by simp [forN]⟩
  | n :: ns, done, p, u, v, w, hp, hl => by
    -- what is his own
    have own : ∃ q rc, okp q ∧ 1 ≤ rc ∧ rc ≤ 30 ∧ cIf (cTst (cVar 5)) (cVar 4) (cBin fAdd (cK (.int 1)) (cCall f_l_take (cCons (cVar 0) (cCons (cBin fIx (cLst (cCons (cK (.int 6)) (cCons (cK (.int 30)) cNil))) (cCall f_l_take (cCons (cVar 0) (cCons (cK (.int 2)) cNil)))) cNil))))
        [some (.c D.length), some a, some b, some r, some (.d (.int (reach : Int))), some (.d (.bl alike)), some (.c (D.length + 1 + X.length)), some (.d (.str n)), v, w, z] (sb D p (X ++ [.lst (done.map eOne)])) = some (.d (.int ((rc : Nat) : Int)), sb D q (X ++ [.lst (done.map eOne)])) := by
      cases alike with
      | true => exact ⟨p, reach, hp, hreach.1, hreach.2, rfl⟩
      | false =>
        obtain ⟨k, q, hq, hk, e⟩ := e_pick (D := D) (X := X ++ [.lst (done.map eOne)]) hp (en := [some (.c D.length), some a, some b, some r, some (.d (.int (reach : Int))), some (.d (.bl false)), some (.c (D.length + 1 + X.length)), some (.d (.str n)), v, w, z]) (cl := cLst (cCons (cK (.int 6)) (cCons (cK (.int 30)) cNil))) (ns := [6, 30]) (b := 30) (k := 2) rfl (fun S => rfl) rfl (by decide) (by decide) (by decide) (by decide)
        refine ⟨q, 1 + k, hq, by omega, by omega, ?_⟩
        have e' := e_bin (f := fAdd) (e_K (.int 1)) e fAdd_int
        unfold cIf
        simp [cTst, asB, cVar]
        rw [e']
    obtain ⟨q1, rc, hq1, h1, h2, e1⟩ := own
    obtain ⟨k2, q2, hq2, hk2, e2⟩ := e_pick (D := D) (X := X ++ [.lst (done.map eOne)]) hq1 (en := [some (.c D.length), some a, some b, some r, some (.d (.int (reach : Int))), some (.d (.bl alike)), some (.c (D.length + 1 + X.length)), some (.d (.str n)), some (.d (.int (rc : Int))), w, z]) (cl := cLst (cCons (cK (.int 6)) (cCons (cK (.int 60)) cNil))) (ns := [6, 60]) (b := 60) (k := 2) rfl (fun S => rfl) rfl (by decide) (by decide) (by decide) (by decide)
    obtain ⟨k3, q3, hq3, hk3, e3⟩ := e_pick (D := D) (X := X ++ [.lst (done.map eOne)]) hq2 (en := [some (.c D.length), some a, some b, some r, some (.d (.int (reach : Int))), some (.d (.bl alike)), some (.c (D.length + 1 + X.length)), some (.d (.str n)), some (.d (.int (rc : Int))), some (.d (.int (1 + (k2 : Int)))), z]) (cl := cLst (cCons (cK (.int 1)) (cCons (cK (.int 20)) (cCons (cK (.int 61)) cNil)))) (ns := [1, 20, 61]) (b := 61) (k := 3) rfl (fun S => rfl) rfl (by decide) (by decide) (by decide) (by decide)
    have e4 := e_append (X := X) (D := D) (p := q2) (q := q3) (ds := done.map eOne) (en := [some (.c D.length), some a, some b, some r, some (.d (.int (reach : Int))), some (.d (.bl alike)), some (.c (D.length + 1 + X.length)), some (.d (.str n)), some (.d (.int (rc : Int))), some (.d (.int (1 + (k2 : Int)))), z])
      (co := cVar 6) (c := cTup (cCons (cVar 7) (cCons (cVar 9) (cCons (cVar 8) (cCons (cCall f_l_take (cCons (cVar 0) (cCons (cBin fIx (cLst (cCons (cK (.int 1)) (cCons (cK (.int 20)) (cCons (cK (.int 61)) cNil)))) (cCall f_l_take (cCons (cVar 0) (cCons (cK (.int 3)) cNil)))) cNil))) cNil))))) (x := eOne ⟨n, 1 + k2, rc, k3⟩)
      (by simp) (by
        refine e_tup (e_cons (e_var rfl) (e_cons (e_var rfl) (e_cons (e_var rfl) (e_cons e3 e_nil)))) rfl (by simp)) (by simp at hl ⊢; omega)
    obtain ⟨os, q, u', v', w', hq, h3, h4, e5⟩ := folk_loop D X a b r reach hreach alike z ns (done ++ [⟨n, 1 + k2, rc, k3⟩]) q3 (some (.d (.str n))) (some (.d (.int (rc : Int)))) (some (.d (.int (1 + (k2 : Int))))) hq3 (by simp at hl ⊢; omega)
    refine ⟨⟨n, 1 + k2, rc, k3⟩ :: os, q, u', v', w', hq, by simp [h3], ?_, ?_⟩
    · intro o ho
      rcases List.mem_cons.mp ho with rfl | ho
      · exact ⟨⟨by show 1 ≤ 1 + k2; omega, by show 1 + k2 ≤ 60; omega⟩, ⟨h1, h2⟩, by show k3 ≤ 60; omega⟩
      · exact h4 o ho
    · rw [List.append_assoc] at e5
      rw [List.singleton_append] at e5
      rw [← e5, List.map_cons]
      refine e_for1 rfl ?_
      unfold c_folk
      refine (e_seq (e_set e1)).trans ?_
      refine (e_seq (e_set (e_bin (e_K (.int 1)) e2 fAdd_int))).trans ?_
      refine (e_seq (e_expr e4)).trans ?_
      simp
end OA
namespace OA
open PySem PySem.Spec PyProof.Rows L2
theorem e_seqR {en en1 : En} {S S1 : Ss} {c1 c2 : CdS} {z} (h : c1 en S = some (.nx, en1, S1)) (h2 : c2 en1 S1 = z) : sCons c1 c2 en S = z := (e_seq h).trans h2
theorem e_iterS {c : Cd} {en : En} {S S1 : Ss} {x : Dt} {ds : List Dt} (h1 : c en S = some (.d x, S1)) (h2 : itemsOf x = some ds) : cIter c en S = some (ds, S1) := by
  unfold cIter; simp [h1, h2]
theorem e_fz {en : En} {S : Ss} {i k : Nat} {c : CdS} {ds : List Dt} {z} (h : en[i]? = some (some (.c k))) (h2 : S[k]? = some (.lst ds)) (h3 : c (en.set i (some (.d (.lst ds)))) (S.set k .gone) = z) : sFz i c en S = z := by
  unfold sFz
  simp [h, h2, SO.val, h3]
theorem e_retC {en en1 : En} {S S1 : Ss} {c1 c2 : CdS} {r : R} (h : c1 en S = some (.ret r, en1, S1)) : sCons c1 c2 en S = some (.ret r, en1, S1) := by unfold sCons; simp [h]
theorem fEq_int {S : Ss} {i j : Int} : fEq S (.d (.int i)) (.d (.int j)) = some (.d (.bl (decide (i = j)))) := by
  have e : PyData.eqv (.int i) (.int j) = decide (i = j) := by
    simp [PyData.eqv]
    rfl
  unfold fEq
  simp only [g_d, Dt.py, e]
  rfl
theorem items_take {xs : List Str} {n : Nat} : itemsOf (.lst ((xs.map Dt.str).take n)) = some ((xs.take n).map Dt.str) := by
  rw [← List.map_take]; rfl
theorem loads_loop (D X : Ss) (a1 a2 a3 a4 a5 a6 : Option R) : ∀ (ns : List Str) (done : List (Str × Nat)) (p : Nat × Nat) (u v w : Option R), okp p → done.length + ns.length ≤ 4 →
    ∃ os q u' v' w', okp q ∧ os.map Prod.fst = ns ∧ (∀ o ∈ os, 1 ≤ o.2 ∧ o.2 ≤ 60) ∧
    forN (gNm 7) c_loads (ns.map .str) [some (.c D.length), a1, a2, a3, a4, a5, a6, u, v, w, some (.c (D.length + 1 + X.length))] (sb D p (X ++ [.lst (done.map eLoad)]))
      = some (.nx, [some (.c D.length), a1, a2, a3, a4, a5, a6, u', v', w', some (.c (D.length + 1 + X.length))], sb D q (X ++ [.lst ((done ++ os).map eLoad)]))
  | [], done, p, u, v, w, hp, _ => ⟨[], p, u, v, w, hp, rfl, by simp, by simp [forN]⟩
  | n :: ns, done, p, u, v, w, hp, hl => by
    obtain ⟨k2, q2, hq2, hk2, e2⟩ := e_pick (D := D) (X := X ++ [.lst (done.map eLoad)]) hp (en := [some (.c D.length), a1, a2, a3, a4, a5, a6, some (.d (.str n)), v, w, some (.c (D.length + 1 + X.length))]) (cl := cLst (cCons (cK (.int 6)) (cCons (cK (.int 60)) cNil))) (ns := [6, 60]) (b := 60) (k := 2) rfl (fun S => rfl) rfl (by decide) (by decide) (by decide) (by decide)
    have e4 := e_append (X := X) (D := D) (p := p) (q := q2) (ds := done.map eLoad) (en := [some (.c D.length), a1, a2, a3, a4, a5, a6, some (.d (.str n)), v, w, some (.c (D.length + 1 + X.length))])
      (co := cVar 10) (c := cTup (cCons (cVar 7) (cCons (cBin fAdd (cK (.int 1)) (cCall f_l_take (cCons (cVar 0) (cCons (cBin fIx (cLst (cCons (cK (.int 6)) (cCons (cK (.int 60)) cNil))) (cCall f_l_take (cCons (cVar 0) (cCons (cK (.int 2)) cNil)))) cNil)))) cNil))) (x := eLoad (n, 1 + k2))
      (e_var rfl) (by
        refine e_tup (e_cons (e_var rfl) (e_cons (e_bin (e_K (.int 1)) e2 fAdd_int) e_nil)) (by simp [eLoad]) (by simp)) (by simp at hl ⊢; omega)
    obtain ⟨os, q, u', v', w', hq, h3, h4, e5⟩ := loads_loop D X a1 a2 a3 a4 a5 a6 ns (done ++ [(n, 1 + k2)]) q2 (some (.d (.str n))) v w hq2 (by simp at hl ⊢; omega)
    refine ⟨(n, 1 + k2) :: os, q, u', v', w', hq, by simp [h3], ?_, ?_⟩
    · intro o ho
      rcases List.mem_cons.mp ho with rfl | ho
      · exact ⟨by show 1 ≤ 1 + k2; omega, by show 1 + k2 ≤ 60; omega⟩
      · exact h4 o ho
    · rw [List.append_assoc] at e5
      rw [List.singleton_append] at e5
      rw [← e5, List.map_cons]
      refine e_for1 rfl ?_
      unfold c_loads
      refine (e_seq (e_expr e4)).trans ?_
      simp
theorem cut_head (ds : List Dt) (n : Nat) (h : n ≤ ds.length) : cut ds none (some (n : Int)) = ds.take n := by
  unfold cut
  rw [HT.sIx_nat, HT.sIx_none, Nat.min_eq_left h]
  simp
theorem e_slHead {en : En} {S S1 S2 : Ss} {c c2 : Cd} {ds : List Dt} {n : Nat} (h1 : c en S = some (.d (.lst ds), S1)) (h2 : c2 en S1 = some (.d (.int (n : Int)), S2)) (h : n ≤ ds.length) : cSl c noPart (part c2) en S = some (.d (.lst (ds.take n)), S2) := by
  unfold cSl noPart part
  simp [h1, h2, slV, cut_head ds n h]
abbrev four : List Str := ["ann", "bo", "cy", "dee"]
abbrev two : List Str := ["bale", "xbox"]
theorem six_nd : (four ++ two).Nodup := by decide +kernel
/-- a name, as it may be -/
def goodN (x : Str) : Bool := PyData.strOk x && (decide (1 ≤ x.cps.size) && (decide (x.cps.size ≤ 8) && x.cps.toList.all fun c => decide (c ∈ (Str.ofString "abcdefghijklmnopqrstuvwxyz").cps.toList)))
theorem six_good : ∀ x ∈ four ++ two, goodN x = true := by decide +kernel
structure Made (w : W) : Prop where
  ok : w.Ok
  fne : w.folk ≠ []
  nm : ∀ x ∈ w.names, goodN x = true
theorem sp_worldB (D X : Ss) (p : Nat × Nat) (hp : okp p) (mo ml : Nat) (h1 : 1 ≤ mo) (h2 : mo ≤ 4) (h3 : ml ≤ 2) : ∃ w q, okp q ∧ Made w ∧ (1 ≤ w.lg ∧ w.lg ≤ 200) ∧ f_l_world [.c D.length, .d (.int (mo : Int)), .d (.int (ml : Int))] (sb D p X) = some (.d (eW w), sb D q X) := by
  -- the raft
  obtain ⟨r1, q1, hq1, hr1, e1⟩ := e_pick (D := D) (X := X) hp (en := [some (.c D.length), some (.d (.int (mo : Int))), some (.d (.int (ml : Int))), none, none, none, none, none, none, none, none]) (cl := cLst (cCons (cK (.int 12)) (cCons (cK (.int 60)) (cCons (cK (.int 200)) cNil)))) (ns := [12, 60, 200]) (b := 200) (k := 3) rfl (fun S => rfl) rfl (by decide) (by decide) (by decide) (by decide)
  obtain ⟨r2, q2, hq2, hr2, e2⟩ := e_pick (D := D) (X := X) hq1 (en := [some (.c D.length), some (.d (.int (mo : Int))), some (.d (.int (ml : Int))), none, none, none, none, none, none, none, none]) (cl := cLst (cCons (cK (.int 20)) (cCons (cK (.int 100)) cNil))) (ns := [20, 100]) (b := 100) (k := 2) rfl (fun S => rfl) rfl (by decide) (by decide) (by decide) (by decide)
  -- the reach
  obtain ⟨r3, q3, hq3, hr3, e3⟩ := e_pick (D := D) (X := X) hq2 (en := [some (.c D.length), some (.d (.int (mo : Int))), some (.d (.int (ml : Int))), some (.d (.tup [.int (1 + (r1 : Int)), .int (1 + (r2 : Int))])), none, none, none, none, none, none, none]) (cl := cLst (cCons (cK (.int 4)) (cCons (cK (.int 30)) cNil))) (ns := [4, 30]) (b := 30) (k := 2) rfl (fun S => rfl) rfl (by decide) (by decide) (by decide) (by decide)
  obtain ⟨r4, q4, hq4, hr4, e4⟩ := sp_take D X q3 hq3 2 (by decide) (m8 (by decide))
  obtain ⟨r5, q5, hq5, hr5, e5⟩ := sp_take D (X ++ [.lst []]) q4 hq4 mo (by omega) (m8 (by omega))
  obtain ⟨os, q6, u6, v6, w6, hq6, f1, f2, e6⟩ := folk_loop D X (.d (.int (mo : Int))) (.d (.int (ml : Int))) (.d (.tup [.int (1 + (r1 : Int)), .int (1 + (r2 : Int))])) (1 + r3) ⟨by omega, by omega⟩ (decide ((r4 : Int) = 0)) none (four.take (1 + r5)) [] q5 none none none hq5 (by simp; omega)
  obtain ⟨r7, q7, hq7, hr7, e7⟩ := sp_take D (X ++ [.lst (os.map eOne), .lst []]) q6 hq6 (ml + 1) (by omega) (m8 (by omega))
  obtain ⟨ls, q8, u8, v8, w8, hq8, g1, g2, e8⟩ := loads_loop D (X ++ [.lst (os.map eOne)]) (some (.d (.int (mo : Int)))) (some (.d (.int (ml : Int)))) (some (.d (.tup [.int (1 + (r1 : Int)), .int (1 + (r2 : Int))]))) (some (.d (.int ((1 + r3 : Nat) : Int)))) (some (.d (.bl (decide ((r4 : Int) = 0))))) (some (.c (D.length + 1 + X.length))) (two.take r7) [] q7 u6 v6 w6 hq7 (by simp; omega)
  have hos : os.length ≤ 4 := by
    have := congrArg List.length f1
    simp at this; omega
  have hls : ls.length ≤ 2 := by
    have := congrArg List.length g1
    simp at this; omega
  have e : (W.mk (1 + r1) (1 + r2) os ls).names = four.take (1 + r5) ++ two.take r7 := by
      unfold W.names W.all
      rw [← f1, ← g1]
      simp [Function.comp_def]
  refine ⟨⟨1 + r1, 1 + r2, os, ls⟩, q8, hq8, ⟨⟨?_, ?_, ?_, ?_, ?_, ?_, hos, hls, ?_⟩, ?_, fun x hx => ?_⟩, ⟨by show 1 ≤ 1 + r1; omega, by show 1 + r1 ≤ 200; omega⟩, ?_⟩
  · show 1 + r1 ≤ 500; omega
  · show 1 ≤ 1 + r2; omega
  · show 1 + r2 ≤ 100; omega
  · intro x hx
    rcases List.mem_append.mp hx with hx | hx
    · obtain ⟨o, ho, rfl⟩ := List.mem_map.mp hx
      exact (f2 o ho).1
    · exact g2 x hx
  · exact fun o ho => (f2 o ho).2.1
  · exact fun o ho => (f2 o ho).2.2
  · rw [e]
    exact List.Sublist.nodup (List.Sublist.append (List.take_sublist _ _) (List.take_sublist _ _)) six_nd
  · intro hc
    have hc' : os = [] := hc
    rw [hc'] at f1
    have hl := congrArg List.length f1
    have h4 : four.length = 4 := rfl
    rw [List.length_take, h4] at hl
    simp only [List.map_nil, List.length_nil] at hl
    omega
  · rw [e] at hx
    exact six_good x ((List.Sublist.append (List.take_sublist _ _) (List.take_sublist _ _)).subset hx)
  · refine run_bag (Y := [.gone, .gone]) (en := [some (.c D.length), some (.d (.int (mo : Int))), some (.d (.int (ml : Int))), some (.d (.tup [.int (1 + (r1 : Int)), .int (1 + (r2 : Int))])), some (.d (.int ((1 + r3 : Nat) : Int))), some (.d (.bl (decide ((r4 : Int) = 0)))), some (.d (.lst (os.map eOne))), u8, v8, w8, some (.d (.lst (ls.map eLoad)))]) ?_
    show sCons _ _ _ _ = _
    simp only [List.map_cons, List.map_nil, List.length_cons, List.length_nil, List.replicate, List.cons_append, List.nil_append]
    refine (e_seq (e_set (e_tup (e_cons (e_bin (e_K (.int 1)) e1 fAdd_int) (e_cons (e_bin (e_K (.int 1)) e2 fAdd_int) e_nil)) rfl (by simp)))).trans ?_
    refine (e_seq (e_set (e_bin (e_K (.int 1)) e3 fAdd_int))).trans ?_
    refine (e_seq (e_set (e_bin (e_call (e_cons (e_var rfl) (e_cons (e_K _) e_nil)) e4) (e_K (.int 0)) fEq_int))).trans ?_
    refine (e_seq (e_set (show cNewL cNil _ (sb D q4 X) = some (.c (D.length + 1 + X.length), sb D q4 (X ++ [.lst []])) from by
      unfold cNewL
      simp [sb_len, sb_push]))).trans ?_
    refine e_seqR (Eq.trans (e_sfor (e_iterS (e_slHead (n := 1 + r5) (ds := four.map .str) rfl (e_bin (f := fAdd) (e_K (.int 1)) (e_call (e_cons (e_var (i := 0) rfl) (e_cons (e_var (i := 1) rfl) e_nil)) e5) rfl) (by simp; omega)) items_take)) e6) ?_
    refine (e_seq (e_set (show cNewL cNil _ (sb D q6 (X ++ [SO.lst (os.map eOne)])) = some (.c (D.length + 1 + (X ++ [SO.lst (os.map eOne)]).length), sb D q6 (X ++ [SO.lst (os.map eOne), .lst []])) from by
      unfold cNewL
      simp [sb_len, sb_push]))).trans ?_
    have e8' := e8
    rw [List.append_assoc, List.append_assoc, List.nil_append] at e8'
    refine e_seqR (Eq.trans (e_sfor (e_iterS (e_slHead (n := r7) (ds := two.map .str) rfl (e_call (e_cons (e_var (i := 0) rfl) (e_cons (e_bin (f := fAdd) (e_var (i := 2) rfl) (e_K (.int 1)) rfl) e_nil)) e7) (by simp; omega)) items_take)) e8') ?_
    have g2a : (sb D q8 (X ++ ([SO.lst (os.map eOne)] ++ [SO.lst (ls.map eLoad)])))[D.length + 1 + (X ++ [SO.lst (os.map eOne)]).length]? = some (.lst (ls.map eLoad)) := by
      rw [sb_getX]; simp
    have g2b : (sb D q8 (X ++ ([SO.lst (os.map eOne)] ++ [SO.lst (ls.map eLoad)]))).set (D.length + 1 + (X ++ [SO.lst (os.map eOne)]).length) .gone = sb D q8 (X ++ [SO.lst (os.map eOne), .gone]) := by
      rw [sb_setX]; simp
    have g1a : (sb D q8 (X ++ [SO.lst (os.map eOne), .gone]))[D.length + 1 + X.length]? = some (.lst (os.map eOne)) := by
      rw [sb_getX]; simp
    have g1b : (sb D q8 (X ++ [SO.lst (os.map eOne), .gone])).set (D.length + 1 + X.length) .gone = sb D q8 (X ++ [SO.gone, .gone]) := by
      rw [sb_setX]; simp
    have fin : ∀ {u8 v8 w8 : Option R} {S : Ss}, (sRet (cTup (cCons (cVar 3) (cCons (cApp (fTup false) (cCons (cVar 6) cNil)) (cCons (cApp (fTup false) (cCons (cVar 10) cNil)) cNil)))))
        [some (.c D.length), some (.d (.int (mo : Int))), some (.d (.int (ml : Int))), some (.d (.tup [.int (1 + (r1 : Int)), .int (1 + (r2 : Int))])), some (.d (.int ((1 + r3 : Nat) : Int))), some (.d (.bl (decide ((r4 : Int) = 0)))), some (.d (.lst (os.map eOne))), u8, v8, w8, some (.d (.lst (ls.map eLoad)))] S = some (.ret (.d (eW ⟨1 + r1, 1 + r2, os, ls⟩)), [some (.c D.length), some (.d (.int (mo : Int))), some (.d (.int (ml : Int))), some (.d (.tup [.int (1 + (r1 : Int)), .int (1 + (r2 : Int))])), some (.d (.int ((1 + r3 : Nat) : Int))), some (.d (.bl (decide ((r4 : Int) = 0)))), some (.d (.lst (os.map eOne))), u8, v8, w8, some (.d (.lst (ls.map eLoad)))], S) := by
      intro u8 v8 w8 S
      refine e_ret (e_tup (ds := [.tup [.int ((1 + r1 : Nat) : Int), .int ((1 + r2 : Nat) : Int)], .tup (os.map eOne), .tup (ls.map eLoad)]) (e_cons (e_var rfl) (e_cons (e_app (e_cons (e_var rfl) e_nil) rfl) (e_cons (e_app (e_cons (e_var rfl) e_nil) rfl) e_nil))) rfl (by simp))
    refine e_retC (e_fz rfl g2a ?_)
    rw [g2b]
    refine e_fz rfl g1a ?_
    rw [g1b]
    exact fin
theorem sp_world (D X : Ss) (p : Nat × Nat) (hp : okp p) (mo ml : Nat) (h1 : 1 ≤ mo) (h2 : mo ≤ 4) (h3 : ml ≤ 2) : ∃ w q, okp q ∧ Made w ∧ f_l_world [.c D.length, .d (.int (mo : Int)), .d (.int (ml : Int))] (sb D p X) = some (.d (eW w), sb D q X) := by
  obtain ⟨w, q, a, b, _, c⟩ := sp_worldB D X p hp mo ml h1 h2 h3
  exact ⟨w, q, a, b, c⟩
end OA
namespace OA
open PySem PySem.Spec PyProof.Rows L2
/-! ### what '==' says -/
def Sh (n : Nat) (d : Dt) : Prop := d.py.canLay0 = true ∧ d.py.depth ≤ n
def ShA (n : Nat) (ds : List Dt) : Prop := PyData.canLayAll0 (Dt.pys ds) = true ∧ PyData.depthAll (Dt.pys ds) ≤ n
theorem shA {n : Nat} : ∀ {ds : List Dt}, (∀ d ∈ ds, Sh n d) → ShA n ds
  | [], _ => ⟨rfl, Nat.zero_le _⟩
  | d :: ds, h => by
    obtain ⟨h1, h2⟩ := h d List.mem_cons_self
    obtain ⟨h3, h4⟩ := shA fun x hx => h x (List.mem_cons_of_mem _ hx)
    refine ⟨?_, ?_⟩
    · rw [Dt.pys, PyData.canLayAll0, h1, h3]; rfl
    · rw [Dt.pys, PyData.depthAll]; omega
theorem Sh.lst {n : Nat} {ds : List Dt} (h : ∀ d ∈ ds, Sh n d) : Sh (n + 1) (.lst ds) := by
  obtain ⟨h1, h2⟩ := shA h
  exact ⟨by rw [Dt.py, PyData.canLay0]; exact h1, by rw [Dt.py, PyData.depth]; omega⟩
theorem Sh.tup {n : Nat} {ds : List Dt} (h : ∀ d ∈ ds, Sh n d) : Sh (n + 1) (.tup ds) := by
  obtain ⟨h1, h2⟩ := shA h
  exact ⟨by rw [Dt.py, PyData.canLay0]; exact h1, by rw [Dt.py, PyData.depth]; omega⟩
theorem Sh.mono {n m : Nat} {d : Dt} (h : Sh n d) (hm : n ≤ m) : Sh m d := ⟨h.1, Nat.le_trans h.2 hm⟩
theorem Sh.int (i : Int) : Sh 0 (.int i) := ⟨rfl, Nat.le_refl _⟩
theorem Sh.non : Sh 0 .non := ⟨rfl, Nat.le_refl _⟩
theorem Sh.bl (b : Bool) : Sh 0 (.bl b) := ⟨rfl, Nat.le_refl _⟩
theorem Sh.str {x : Str} (h : PyData.strOk x = true) : Sh 0 (.str x) := ⟨h, Nat.le_refl _⟩
theorem Sh.fr (q : Rat) : Sh 1 (fr q) := ⟨rfl, by show 0 + 1 ≤ 1; decide⟩
theorem Sh.ok {n : Nat} {d : Dt} (h : Sh n d) (hn : n ≤ 64 := by decide) : SeqAt.shaped d.py = true := by
  unfold SeqAt.shaped
  rw [h.1, decide_eq_true (Nat.le_trans h.2 hn)]; rfl
theorem fEq_sh {S : Ss} {x y : Dt} {n m : Nat} (hx : Sh n x) (hy : Sh m y) (hn : n ≤ 64 := by decide) (hm : m ≤ 64 := by decide) : fEq S (.d x) (.d y) = some (.d (.bl (PyData.eqv x.py y.py))) := by
  unfold fEq
  simp [hx.ok hn, hy.ok hm]
theorem fNe_sh {S : Ss} {x y : Dt} {n m : Nat} (hx : Sh n x) (hy : Sh m y) (hn : n ≤ 64 := by decide) (hm : m ≤ 64 := by decide) : fNe S (.d x) (.d y) = some (.d (.bl (!PyData.eqv x.py y.py))) := by
  unfold fNe
  simp [hx.ok hn, hy.ok hm]
theorem eqv_int (i j : Int) : PyData.eqv (.int i) (.int j) = decide (i = j) := by
  rw [PyData.eqv]; rfl
theorem eqv_str (i j : Str) : PyData.eqv (.str i) (.str j) = decide (i = j) := by
  rw [PyData.eqv]; by_cases h : i = j <;> simp [h]
theorem eqv_fr (p q : Rat) : PyData.eqv (fr p).py (fr q).py = decide (p = q) := by
  show PyData.eqv (.tuple [.int p.num, .int (p.den : Int)]) (.tuple [.int q.num, .int (q.den : Int)]) = _
  rw [PyData.eqv, PyData.eqvAll, PyData.eqvAll, PyData.eqvAll, eqv_int, eqv_int]
  by_cases h : p = q
  · subst h; simp
  · rw [decide_eq_false h]
    by_cases h1 : p.num = q.num
    · by_cases h2 : p.den = q.den
      · exact absurd (Rat.ext h1 h2) h
      · rw [show decide ((p.den : Int) = (q.den : Int)) = false from decide_eq_false fun z => h2 (by omega)]; simp
    · rw [decide_eq_false h1]; simp
/-! ### texts among texts -/
theorem any_strs (x : Str) : ∀ xs : List Str, ((Dt.pys (xs.map Dt.str)).any fun z => PyData.eqv z (Dt.str x).py) = decide (x ∈ xs)
  | [] => by simp [Dt.pys]
  | y :: ys => by
    have ih := any_strs x ys
    rw [List.map_cons, Dt.pys, List.any_cons, ih]
    show (PyData.eqv (.str y) (.str x) || _) = _
    rw [eqv_str]
    by_cases h : y = x
    · subst h; simp
    · have h' : ¬ x = y := fun z => h z.symm
      simp [h, h']
def SOk (xs : List Str) : Prop := ∀ x ∈ xs, PyData.strOk x = true
theorem SOk.lst {xs : List Str} (h : SOk xs) : Sh 1 (.lst (xs.map .str)) := Sh.lst fun d hd => by
  obtain ⟨x, hx, rfl⟩ := List.mem_map.mp hd
  exact Sh.str (h x hx)
theorem SOk.tup {xs : List Str} (h : SOk xs) : Sh 1 (.tup (xs.map .str)) := Sh.tup fun d hd => by
  obtain ⟨x, hx, rfl⟩ := List.mem_map.mp hd
  exact Sh.str (h x hx)
theorem fIn_lst {S : Ss} {x : Str} {xs : List Str} (hx : PyData.strOk x = true) (h : SOk xs) : fIn S (.d (.str x)) (.d (.lst (xs.map .str))) = some (.d (.bl (decide (x ∈ xs)))) := by
  have h1 := (Sh.str hx).ok
  have h2 := h.lst.ok
  unfold fIn isIn
  simp only [g_d]
  rw [if_pos ⟨h1, h2⟩, any_strs]
  rfl
theorem fIn_tup {S : Ss} {x : Str} {xs : List Str} (hx : PyData.strOk x = true) (h : SOk xs) : fIn S (.d (.str x)) (.d (.tup (xs.map .str))) = some (.d (.bl (decide (x ∈ xs)))) := by
  have h1 := (Sh.str hx).ok
  have h2 := h.tup.ok
  unfold fIn isIn
  simp only [g_d]
  rw [if_pos ⟨h1, h2⟩, any_strs]
  rfl
theorem Made.sok {w : W} (h : Made w) : SOk w.names := fun x hx => by
  have := h.nm x hx
  unfold goodN at this
  rw [Bool.and_eq_true] at this
  exact this.1
theorem fNe_str {S : Ss} {x y : Str} (hx : PyData.strOk x = true) (hy : PyData.strOk y = true) : fNe S (.d (.str x)) (.d (.str y)) = some (.d (.bl (decide (x ≠ y)))) := by
  rw [fNe_sh (Sh.str hx) (Sh.str hy)]
  show some (R.d (.bl (!PyData.eqv (.str x) (.str y)))) = _
  rw [eqv_str]
  by_cases e : x = y <;> simp [e]
theorem fEq_str {S : Ss} {x y : Str} (hx : PyData.strOk x = true) (hy : PyData.strOk y = true) : fEq S (.d (.str x)) (.d (.str y)) = some (.d (.bl (decide (x = y)))) := by
  rw [fEq_sh (Sh.str hx) (Sh.str hy)]
  show some (R.d (.bl (PyData.eqv (.str x) (.str y)))) = _
  rw [eqv_str]
theorem fNe_bl {S : Ss} {a b : Bool} : fNe S (.d (.bl a)) (.d (.bl b)) = some (.d (.bl (a != b))) := by
  rw [fNe_sh (Sh.bl a) (Sh.bl b)]
  cases a <;> cases b <;> rfl
theorem fNotIn_lst {S : Ss} {x : Str} {xs : List Str} (hx : PyData.strOk x = true) (h : SOk xs) : fNotIn S (.d (.str x)) (.d (.lst (xs.map .str))) = some (.d (.bl (!decide (x ∈ xs)))) := by
  have h1 := (Sh.str hx).ok
  have h2 := h.lst.ok
  unfold fNotIn isIn
  simp only [g_d]
  rw [if_pos ⟨h1, h2⟩, any_strs]
  rfl
end OA
namespace OA
open PySem PySem.Spec PyProof.Rows L2
/-! ### names, lots -/
theorem sp_names (S : Ss) (w : W) (h : w.Ok) : f_l_names [.d (eW w)] S = some (.d (.lst ((isortS w.names).map .str)), S) := by
  obtain ⟨d, e1, e2⟩ := add_all w h S
  refine run_ret (en := [some (.d (eW w)), none]) (S' := S) ?_ (List.take_length)
  have ec : cBin fAdd (cBin fIx (cVar 0) (cK (.int 1))) (cBin fIx (cVar 0) (cK (.int 2))) [some (.d (eW w)), none] S = some (.d d, S) := by
    simp [cBin, cVar, cK, w_one, w_two, e1]
  have hc := compN_map (vs := [1]) (g := gNm 1) (c := cBin fIx (cVar 1) (cK (.int 0))) (en := [some (.d (eW w)), none]) (S := S)
    eTh (fun t => .str t.pr.1) (w.folk.map Th.one ++ w.loads.map Th.load) (fun t _ => ⟨[some (.d (eW w)), some (.d (eTh t))], rfl, by
      cases t <;> rfl⟩)
  have hm : (w.folk.map Th.one ++ w.loads.map Th.load).map (fun t => Dt.str t.pr.1) = w.names.map .str := by
    unfold W.names W.all
    simp [List.map_append, Function.comp_def, Th.pr]
  rw [hm] at hc
  have hl : w.names.length ≤ 6 := by
    have := all_len h
    simpa [W.names] using this
  show sCons _ _ _ S = _
  refine e_rets (e_app (e_cons (e_comp (e_iter ec e2) hc) e_nil) ?_)
  unfold fSortS fL1
  simp only [g_d, strsOf_map, Option.bind_some]
  rw [if_pos (by omega)]
  rfl
def folk (w : W) : List Str := w.folk.map One.nm
theorem sp_folk (S : Ss) (w : W) : f_l_folk [.d (eW w)] S = some (.d (.lst ((folk w).map .str)), S) := by
  refine run_ret (en := [some (.d (eW w)), none]) (S' := S) ?_ (List.take_length)
  have hc := compN_map (vs := [1]) (g := gNm 1) (c := cBin fIx (cVar 1) (cK (.int 0))) (en := [some (.d (eW w)), none]) (S := S)
    eOne (fun t => .str t.nm) w.folk (fun t _ => ⟨[some (.d (eW w)), some (.d (eOne t))], rfl, rfl⟩)
  have hm : w.folk.map (fun t => Dt.str t.nm) = (folk w).map .str := by simp [folk, Function.comp_def]
  rw [hm] at hc
  show sCons _ _ _ S = _
  exact e_rets (e_comp (e_iter (e_bin (e_var rfl) (e_K (.int 1)) rfl) rfl) hc)
/-- some of the folk are in the lot, or nothing is -/
def canLie (w : W) (lot : List Str) : Bool := !(lot.filter fun n => decide (n ∈ folk w)).isEmpty || lot.isEmpty
theorem fNe_nil {S : Ss} {xs : List Str} (h : SOk xs) : fNe S (.d (.lst (xs.map .str))) (.d (.lst [])) = some (.d (.bl (!xs.isEmpty))) := by
  rw [fNe_sh h.lst (Sh.lst (n := 0) (ds := []) (by simp))]
  cases xs <;> rfl
theorem fEq_nil {S : Ss} {xs : List Str} (h : SOk xs) : fEq S (.d (.lst (xs.map .str))) (.d (.lst [])) = some (.d (.bl xs.isEmpty)) := by
  rw [fEq_sh h.lst (Sh.lst (n := 0) (ds := []) (by simp))]
  cases xs <;> rfl
theorem sp_can_lie (S : Ss) (w : W) (d : Dt) (lot : List Str) (h1 : itemsOf d = some (lot.map .str)) (h2 : seqV d = some (lot.map .str)) (hs : SOk lot) (hf : SOk (folk w)) : f_l_can_lie [.d (eW w), .d d] S = some (.d (.bl (canLie w lot)), S) := by
  refine run_ret (en := [some (.d (eW w)), some (.d d), some (.d (.lst ((lot.filter fun n => decide (n ∈ folk w)).map .str))), none]) (S' := S) ?_ (List.take_length)
  have hc := compN_filter (vs := [3]) (g := gNm 3) (t := cTst (cBin fIn (cVar 3) (cCall f_l_folk (cCons (cVar 0) cNil)))) (c := cVar 3) (en := [some (.d (eW w)), some (.d d), none, none]) (S := S)
    Dt.str Dt.str (fun n => decide (n ∈ folk w)) lot (fun n hn => ⟨[some (.d (eW w)), some (.d d), none, some (.d (.str n))], rfl, e_tst (e_bin (e_var rfl) (e_call (e_cons (e_var rfl) e_nil) (sp_folk S w)) (fIn_lst (hs n hn) hf)), fun _ => e_var rfl⟩)
  have hs2 : SOk (lot.filter fun n => decide (n ∈ folk w)) := fun x hx => hs x (List.mem_filter.mp hx).1
  show sCons _ _ _ S = _
  refine e_seqR (e_set (e_comp (e_iter (e_var rfl) h1) hc)) ?_
  refine e_rets ?_
  unfold cOr
  rw [e_bin (e_var rfl) (show cLst cNil _ S = some (.d (.lst []), S) from rfl) (fNe_nil hs2)]
  unfold canLie
  cases (lot.filter fun n => decide (n ∈ folk w)).isEmpty with
  | false => rfl
  | true =>
    simp only [Bool.not_true, Bool.false_or, Option.bind_some]
    exact e_bin (e_app (e_cons (e_var rfl) e_nil) (by unfold fList; simp only [g_d, h2, Option.bind_some, Option.map_some])) (show cLst cNil _ S = some (.d (.lst []), S) from rfl) (fEq_nil hs)
end OA
namespace OA
open PySem PySem.Spec PyProof.Rows L2
theorem Made.folk_ok {w : W} (h : Made w) : SOk (folk w) := fun x hx => h.sok x (by
  unfold W.names W.all
  rw [List.map_append]
  exact List.mem_append_left _ (by simpa [folk, Function.comp_def] using hx))
/-- between nought and the raft's length -/
def In (w : W) (q : Rat) : Prop := 0 ≤ q ∧ q ≤ (w.lg : Rat)
theorem mkRat_nonneg' {a : Nat} {b : Nat} (hb : b ≠ 0) : 0 ≤ mkRat (a : Int) b := by
  rw [← Rat.divInt_ofNat]
  exact Rat.divInt_nonneg (by omega) (by omega)
theorem place_in (w : W) (k : Nat) (hk : k ≤ 4) : In w (mkRat ((w.lg : Int) * (k : Int)) 4) := by
  rw [← Int.natCast_mul]
  refine ⟨mkRat_nonneg' (by decide), ?_⟩
  rw [Rat.mkRat_eq_div]
  have h4 : ((4 : Nat) : Rat) = 4 := rfl
  have hle : ((w.lg * k : Nat) : Int) ≤ (w.lg : Int) * 4 := by
    have := Nat.mul_le_mul_left w.lg hk
    omega
  have h2 : (((w.lg * k : Nat) : Int) : Rat) ≤ (((w.lg : Int) * 4 : Int) : Rat) := Rat.intCast_le_intCast.mpr hle
  have h3 : (((w.lg : Int) * 4 : Int) : Rat) = (w.lg : Rat) * 4 := by
    rw [Rat.intCast_mul]; rfl
  rw [h3] at h2
  rw [h4]
  grind
theorem e_compS {vs : List Nat} {ci : CdI} {g : CdG} {t : CdB} {c : Cd} {en : En} {S S1 S2 : Ss} {ds ys : List Dt} (h1 : ci en S = some (ds, S1)) (h2 : compN vs g t c ds en S1 = some (ys, S2)) : cComp vs ci g t c en S = some (.d (.lst ys), S2) := by
  unfold cComp; simp [h1, h2]
theorem lot_loop (D X : Ss) (a : Option R) : ∀ (ns done : List Str) (p : Nat × Nat) (u : Option R), okp p → done.length + ns.length ≤ 100 →
    ∃ xs q u', okp q ∧ xs.Sublist ns ∧
    forN (gNm 3) (sCons (sIf (cTst (cBin fGt (cCall f_l_take (cCons (cVar 0) (cCons (cK (.int 5)) cNil))) (cK (.int 0)))) (sCons (sExpr (cAppend (cVar 2) (cVar 3))) sNil) sNil) sNil) (ns.map .str) [some (.c D.length), a, some (.c (D.length + 1 + X.length)), u] (sb D p (X ++ [.lst (done.map .str)]))
      = some (.nx, [some (.c D.length), a, some (.c (D.length + 1 + X.length)), u'], sb D q (X ++ [.lst ((done ++ xs).map .str)]))
  | [], done, p, u, hp, _ => ⟨[], p, u, hp, .refl _, by simp [forN]⟩
  | n :: ns, done, p, u, hp, hl => by
    rw [List.length_cons] at hl
    obtain ⟨r, q1, hq1, hr, e1⟩ := sp_take D (X ++ [.lst (done.map .str)]) p hp 5 (by decide) (m8 (by decide))
    have et : cTst (cBin fGt (cCall f_l_take (cCons (cVar 0) (cCons (cK (.int 5)) cNil))) (cK (.int 0))) [some (.c D.length), a, some (.c (D.length + 1 + X.length)), some (.d (.str n))] (sb D p (X ++ [.lst (done.map .str)])) = some (decide (0 < (r : Int)), sb D q1 (X ++ [.lst (done.map .str)])) :=
      e_tst (e_bin (e_call (e_cons (e_var rfl) (e_cons (e_K _) e_nil)) e1) (e_K _) fGt_int)
    by_cases h0 : 0 < (r : Int)
    · rw [decide_eq_true h0] at et
      obtain ⟨xs, q, u', hq, hs, e2⟩ := lot_loop D X a ns (done ++ [n]) q1 (some (.d (.str n))) hq1 (by simp; omega)
      have ea := e_append (X := X) (D := D) (p := q1) (q := q1) (ds := done.map .str) (co := cVar 2) (c := cVar 3) (x := .str n) (en := [some (.c D.length), a, some (.c (D.length + 1 + X.length)), some (.d (.str n))]) (e_var rfl) (e_var rfl) (by simp; omega)
      refine ⟨n :: xs, q, u', hq, hs.cons_cons n, ?_⟩
      rw [List.append_assoc, List.singleton_append] at e2
      rw [← e2, List.map_cons]
      refine e_for1 rfl ?_
      refine e_seqR ((e_ifT et).trans (e_seqR (e_expr ea) (e_snil))) ?_
      simp
    · rw [decide_eq_false h0] at et
      obtain ⟨xs, q, u', hq, hs, e2⟩ := lot_loop D X a ns done q1 (some (.d (.str n))) hq1 (by omega)
      refine ⟨xs, q, u', hq, hs.cons n, ?_⟩
      rw [← e2, List.map_cons]
      refine e_for1 rfl ?_
      exact e_seqR ((e_ifF et).trans e_snil) e_snil
theorem e_ifxT {t : CdB} {ca cb : Cd} {en : En} {S S1 : Ss} {z} (h : t en S = some (true, S1)) (h2 : ca en S1 = z) : cIf t ca cb en S = z := by unfold cIf; simp [h, h2]
theorem e_ifxF {t : CdB} {ca cb : Cd} {en : En} {S S1 : Ss} {z} (h : t en S = some (false, S1)) (h2 : cb en S1 = z) : cIf t ca cb en S = z := by unfold cIf; simp [h, h2]
/-- a lot of some world's names -/
structure LOk (w : W) (lot : List Str) : Prop where
  sub : lot.Sublist (isortS w.names)
  can : canLie w lot = true
theorem LOk.mem {w : W} {lot : List Str} (h : LOk w lot) : ∀ n ∈ lot, n ∈ w.names := fun n hn => (isortS_perm w.names).subset (h.sub.subset hn)
theorem LOk.nd {w : W} {lot : List Str} (h : LOk w lot) (hw : w.Ok) : lot.Nodup := List.Sublist.nodup h.sub ((isortS_perm w.names).nodup_iff.mpr hw.nd)
theorem names_len {w : W} (h : w.Ok) : w.names.length ≤ 6 := by
  have := all_len h
  simpa [W.names] using this
theorem LOk.len {w : W} {lot : List Str} (h : LOk w lot) (hw : w.Ok) : lot.length ≤ 6 := by
  have h1 := h.sub.length_le
  rw [(isortS_perm w.names).length_eq] at h1
  exact Nat.le_trans h1 (names_len hw)
theorem all_can {w : W} (h : Made w) : canLie w (isortS w.names) = true := by
  obtain ⟨o, os, e⟩ : ∃ o os, w.folk = o :: os := by
    cases hc : w.folk with
    | nil => exact absurd hc h.fne
    | cons o os => exact ⟨o, os, rfl⟩
  have hm : o.nm ∈ folk w := by
    unfold folk
    rw [e]
    exact List.mem_cons_self
  have hn : o.nm ∈ w.names := by
    unfold W.names W.all
    rw [List.map_append]
    exact List.mem_append_left _ (by simpa [folk, Function.comp_def] using hm)
  unfold canLie
  rw [Bool.or_eq_true]
  left
  have hf : o.nm ∈ (isortS w.names).filter fun n => decide (n ∈ folk w) := List.mem_filter.mpr ⟨(isortS_perm w.names).symm.subset hn, decide_eq_true hm⟩
  cases e : (isortS w.names).filter fun n => decide (n ∈ folk w) with
  | nil => rw [e] at hf; exact absurd hf (by simp)
  | cons _ _ => rfl
theorem sp_lot (D X : Ss) (p : Nat × Nat) (hp : okp p) (w : W) (h : Made w) : ∃ (lot : List Str) (q : Nat × Nat), okp q ∧ LOk w lot ∧ f_l_lot [.c D.length, .d (eW w)] (sb D p X) = some (.d (names lot), sb D q X) := by
  have hnl : (isortS w.names).length ≤ 6 := by rw [(isortS_perm w.names).length_eq]; exact names_len h.ok
  obtain ⟨xs, q, u', hq, hs, e⟩ := lot_loop D X (some (.d (eW w))) (isortS w.names) [] p none hp (by simp; omega)
  rw [List.nil_append] at e
  have hx : SOk xs := fun x hx => h.sok x ((isortS_perm w.names).subset (hs.subset hx))
  have new : cNewL cNil [some (.c D.length), some (.d (eW w)), none, none] (sb D p X) = some (.c (D.length + 1 + X.length), sb D p (X ++ [.lst []])) := by
    unfold cNewL
    simp [sb_len, sb_push]
  have ga : (sb D q (X ++ [.lst (xs.map .str)]))[D.length + 1 + X.length]? = some (.lst (xs.map .str)) := by
    rw [sb_getX]; simp
  have gb : (sb D q (X ++ [.lst (xs.map .str)])).set (D.length + 1 + X.length) .gone = sb D q (X ++ [.gone]) := by
    rw [sb_setX]; simp
  have ec : ∀ u', cTst (cCall f_l_can_lie (cCons (cVar 1) (cCons (cVar 2) cNil))) [some (.c D.length), some (.d (eW w)), some (.d (.lst (xs.map .str))), u'] (sb D q (X ++ [.gone])) = some (canLie w xs, sb D q (X ++ [.gone])) := fun u' =>
    e_tst (e_call (e_cons (e_var rfl) (e_cons (e_var rfl) e_nil)) (sp_can_lie _ w _ xs rfl rfl hx h.folk_ok))
  have key : ∀ lot, (cIf (cTst (cCall f_l_can_lie (cCons (cVar 1) (cCons (cVar 2) cNil)))) (cApp (fTup false) (cCons (cVar 2) cNil)) (cApp (fTup false) (cCons (cCall f_l_names (cCons (cVar 1) cNil)) cNil)))
      [some (.c D.length), some (.d (eW w)), some (.d (.lst (xs.map .str))), u'] (sb D q (X ++ [.gone])) = some (.d (names lot), sb D q (X ++ [.gone])) → f_l_lot [.c D.length, .d (eW w)] (sb D p X) = some (.d (names lot), sb D q X) := by
    intro lot hk
    refine run_bag (Y := [.gone]) (en := [some (.c D.length), some (.d (eW w)), some (.d (.lst (xs.map .str))), u']) ?_
    show sCons _ _ _ _ = _
    refine e_seqR (e_set new) ?_
    refine e_seqR (Eq.trans (e_sfor (e_iterS (e_call (e_cons (e_var rfl) e_nil) (sp_names _ w h.ok)) rfl)) e) ?_
    refine e_retC (e_fz rfl ga ?_)
    rw [gb]
    exact e_ret hk
  cases hc : canLie w xs with
  | true =>
    refine ⟨xs, q, hq, ⟨hs, hc⟩, key xs ?_⟩
    exact e_ifxT ((ec u').trans (by rw [hc])) (e_app (e_cons (e_var rfl) e_nil) rfl)
  | false =>
    refine ⟨isortS w.names, q, hq, ⟨.refl _, all_can h⟩, key _ ?_⟩
    exact e_ifxF ((ec u').trans (by rw [hc])) (e_app (e_cons (e_call (e_cons (e_var rfl) e_nil) (sp_names _ w h.ok)) e_nil) rfl)
/-- a standing as the laws make it -/
structure SOkay (w : W) (g : Rat) (rs : Rows) : Prop where
  g0 : 0 ≤ g
  gB : B 11 g
  lot : LOk w (rnames rs)
  rows : ∀ r ∈ rs, In w r.2 ∧ B 11 r.2
theorem SOkay.rok {w : W} {g : Rat} {rs : Rows} (h : SOkay w g rs) (hw : w.Ok) : ROk w 11 rs :=
  ⟨fun r hr => h.lot.mem _ (List.mem_map.mpr ⟨r, hr, rfl⟩), fun r hr => (h.rows r hr).2, by have := h.lot.len hw; simpa [rnames] using this, h.lot.nd hw⟩
end OA
namespace OA
open PySem PySem.Spec PyProof.Rows L2
theorem run_new {N : Nat} {c : CdS} {rs : List R} {S : Ss} {o : SO} {en} (h : c (rs.map some ++ List.replicate (N - rs.length) none) S = some (.ret (.c S.length), en, S ++ [o])) : runF N true c rs S = some (.c S.length, S ++ [o]) := by
  unfold runF
  simp [h, finish]
theorem sb_new (D : Ss) (a b : Nat) : D ++ [.lst [.int (a : Int), .int (b : Int)]] = sb D (a, b) [] := rfl
theorem sp_bag (D : Ss) (ns : List Int) (k : Nat) (hk : k < 2 ^ 20) : ∃ p, okp p ∧ f_l_bag [.s ns, .d (.int (k : Int))] D = some (.c D.length, sb D p []) := by
  -- the cell's size
  have cell : ∃ z : Nat, ∀ x : Option R, sIf (cTst (cBin fLt (cVar 1) (cApp fLen (cCons (cVar 0) cNil)))) (sCons (sSet 2 (cApp fAbs (cCons (cBin fIx (cVar 0) (cVar 1)) cNil))) sNil) sNil [some (.s ns), some (.d (.int (k : Int))), some (.d (.int 0))] D = some (.nx, [some (.s ns), some (.d (.int (k : Int))), some (.d (.int (z : Int)))], D) := by
    have et : cTst (cBin fLt (cVar 1) (cApp fLen (cCons (cVar 0) cNil))) [some (.s ns), some (.d (.int (k : Int))), some (.d (.int 0))] D = some (decide ((k : Int) < (ns.length : Int)), D) :=
      e_tst (e_bin (e_var rfl) (e_app (e_cons (e_var rfl) e_nil) rfl) fLt_int)
    by_cases h : (k : Int) < (ns.length : Int)
    · have hl : k < ns.length := by omega
      rw [decide_eq_true h] at et
      refine ⟨(ns[k]).natAbs, fun _ => ?_⟩
      have ei : fIx D (.s ns) (.d (.int (k : Int))) = some (.d (.int ns[k])) := by
        unfold fIx
        simp [get, atI_nat ns k hl]
      have ea : fAbs D [.d (.int ns[k])] = some (.d (.int ((ns[k]).natAbs : Int))) := by
        unfold fAbs
        simp only [g_d]
        congr 3
        split <;> omega
      exact (e_ifT et).trans (e_seqR (e_set (e_app (e_cons (e_bin (e_var rfl) (e_var rfl) ei) e_nil) ea)) e_snil)
    · rw [decide_eq_false h] at et
      exact ⟨0, fun _ => (e_ifF et).trans e_snil⟩
  obtain ⟨z, hz⟩ := cell
  have ep : fPow D (.d (.int 10)) (.d (.int 18)) = some (.d (.int 1000000000000000000)) := rfl
  have et : cTst (cBin fLt (cVar 2) (cBin fPow (cK (.int 10)) (cK (.int 18)))) [some (.s ns), some (.d (.int (k : Int))), some (.d (.int (z : Int)))] D = some (decide ((z : Int) < 1000000000000000000), D) :=
    e_tst (e_bin (e_var rfl) (e_bin (e_K _) (e_K _) ep) fLt_int)
  by_cases h : (z : Int) < 1000000000000000000
  · rw [decide_eq_true h] at et
    have m1 := fMul_ok (S := D) (i := (z : Int)) (j := 7919) (a := 60) (b := 13) (by simp; omega) (by decide) (by decide) (by decide) (by decide)
    have m2 := fMul_ok (S := D) (i := 104729) (j := (k : Int)) (a := 20) (b := 20) (by decide) (by simpa using hk) (by decide) (by decide) (by decide)
    have m3 := fMod_ok (S := D) (i := (z : Int) * 7919 + 104729 * (k : Int)) (j := 2147483646) (by decide)
    refine ⟨(0, ((1 + ((z : Int) * 7919 + 104729 * (k : Int)) % 2147483646)).toNat), ?_, ?_⟩
    · unfold okp
      dsimp only
      have := Int.emod_lt_of_pos ((z : Int) * 7919 + 104729 * (k : Int)) (show (0 : Int) < 2147483646 by decide)
      omega
    · have h0 := Int.emod_nonneg ((z : Int) * 7919 + 104729 * (k : Int)) (show (2147483646 : Int) ≠ 0 by decide)
      rw [← sb_new, Int.toNat_of_nonneg (by omega)]
      refine run_new (en := [some (.s ns), some (.d (.int (k : Int))), some (.d (.int (z : Int)))]) ?_
      show sCons _ _ _ _ = _
      refine e_seqR (e_set (e_K _)) ?_
      refine e_seqR (hz none) ?_
      refine e_retC ((e_ifT et).trans (e_rets ?_))
      unfold cNewL
      rw [e_cons (e_K _) (e_cons (e_bin (e_K _) (e_bin (e_bin (e_bin (e_var rfl) (e_K _) m1) (e_bin (e_K _) (e_var rfl) m2) fAdd_int) (e_K _) m3) fAdd_int) e_nil)]
      rfl
  · rw [decide_eq_false h] at et
    have m3 := fMod_ok (S := D) (i := (z : Int) + (k : Int)) (j := 2147483646) (by decide)
    refine ⟨(z, ((1 + ((z : Int) + (k : Int)) % 2147483646)).toNat), ?_, ?_⟩
    · unfold okp
      dsimp only
      have := Int.emod_lt_of_pos ((z : Int) + (k : Int)) (show (0 : Int) < 2147483646 by decide)
      omega
    · have h0 := Int.emod_nonneg ((z : Int) + (k : Int)) (show (2147483646 : Int) ≠ 0 by decide)
      rw [← sb_new, Int.toNat_of_nonneg (by omega)]
      refine run_new (en := [some (.s ns), some (.d (.int (k : Int))), some (.d (.int (z : Int)))]) ?_
      show sCons _ _ _ _ = _
      refine e_seqR (e_set (e_K _)) ?_
      refine e_seqR (hz none) ?_
      refine e_seqR ((e_ifF et).trans e_snil) ?_
      refine e_rets ?_
      unfold cNewL
      rw [e_cons (e_var rfl) (e_cons (e_bin (e_K _) (e_bin (e_bin (e_var rfl) (e_var rfl) fAdd_int) (e_K _) m3) fAdd_int) e_nil)]
      rfl
/-! ### the law's own gap -/
/-- what all weigh, as the law reads it -/
theorem e_known (S : Ss) (w : W) (h : w.Ok) (k : Nat) (t : En) (hk : k < t.length) :
    cDictK (cComp [k + 1] (cIter (cBin fAdd (cBin fIx (cVar 0) (cK (.int 1))) (cBin fIx (cVar 0) (cK (.int 2))))) (gNm (k + 1)) kYes (cTup (cCons (cBin fIx (cVar (k + 1)) (cK (.int 0))) (cCons (cBin fIx (cVar (k + 1)) (cK (.int 1))) cNil)))) (some (.d (eW w)) :: t) S = some (.d (.dK (hvD w)), S) := by
  obtain ⟨d, e1, e2⟩ := add_all w h S
  have ec : cBin fAdd (cBin fIx (cVar 0) (cK (.int 1))) (cBin fIx (cVar 0) (cK (.int 2))) (some (.d (eW w)) :: t) S = some (.d d, S) := e_bin (e_bin (e_var rfl) (e_K _) (w_one w S)) (e_bin (e_var rfl) (e_K _) (w_two w S)) e1
  have hc := compN_map (vs := [k + 1]) (g := gNm (k + 1)) (c := cTup (cCons (cBin fIx (cVar (k + 1)) (cK (.int 0))) (cCons (cBin fIx (cVar (k + 1)) (cK (.int 1))) cNil))) (en := some (.d (eW w)) :: t) (S := S)
    eTh (fun t => eLoad t.pr) (w.folk.map Th.one ++ w.loads.map Th.load) (fun x _ => ⟨_, rfl, by
      have hv : (((some (R.d (eW w)) :: t).set (k + 1) none).set (k + 1) (some (.d (eTh x))))[k + 1]? = some (some (.d (eTh x))) := by simp [hk]
      refine e_tup (ds := [.str x.pr.1, .int (x.pr.2 : Int)]) (e_cons (e_bin (e_var hv) (e_K _) (z := .d (.str x.pr.1)) (by cases x <;> rfl)) (e_cons (e_bin (e_var hv) (e_K _) (z := .d (.int (x.pr.2 : Int))) (by cases x <;> rfl)) e_nil)) rfl (by simp)⟩)
  have hm : (w.folk.map Th.one ++ w.loads.map Th.load).map (fun t => eLoad t.pr) = w.all.map eLoad := by
    unfold W.all
    simp [List.map_append, Function.comp_def, Th.pr]
  rw [hm] at hc
  have hcc := e_comp (e_iter ec e2) hc
  have hd := merge_dicK (fun n : Nat => Dt.int (n : Int)) w.all [] (by simpa [W.names] using h.nd)
  have hp := pairK_all w.all
  unfold cDictK
  simp [hcc, pairV, hp]
  simpa [dicK] using hd
theorem sp_l_weight (S : Ss) (w : W) (h : w.Ok) (d : Dt) (lot : List Str) (hd : itemsOf d = some (lot.map .str)) (hn : ∀ n ∈ lot, n ∈ w.names) : f_l_weight [.d (eW w), .d d] S = some (.d (.int (weight w lot : Int)), S) := by
  refine run_ret (en := [some (.d (eW w)), some (.d d), some (.d (.dK (hvD w))), none, none]) (S' := S) ?_ (List.take_length)
  have hc := compN_map (vs := [4]) (g := gNm 4) (c := cBin fIx (cVar 2) (cVar 4)) (en := [some (.d (eW w)), some (.d d), some (.d (.dK (hvD w))), none, none]) (S := S)
    Dt.str (fun n => .int (wt w n : Int)) lot (fun n hm => ⟨[some (.d (eW w)), some (.d d), some (.d (.dK (hvD w))), none, some (.d (.str n))], rfl, by
      simp [cBin, cVar, fIx, hv_look w (hn n hm)]⟩)
  have e1 : lot.map (fun n => Dt.int (wt w n : Int)) = (lot.map (wt w)).map fun n : Nat => Dt.int (n : Int) := by simp
  rw [e1] at hc
  show sCons _ _ _ S = _
  refine e_seqR (e_set (e_known S w h 2 _ (by simp))) ?_
  refine e_rets (e_app (e_cons (e_comp (e_iter (e_var rfl) hd) hc) e_nil) ?_)
  unfold fSum fL1
  simp only [g_d, intsOf_nat, sum_nat, Option.map_some]
  rfl
end OA
namespace OA
open PySem PySem.Spec PyProof.Rows L2
/-! ### sums -/
theorem drive_zero (w : W) : ∀ lot : List Str, drive w (lot.map fun n => (n, (0 : Rat))) = 0
  | [] => rfl
  | n :: lot => by
    rw [List.map_cons, drive, drive_zero w lot, Rat.zero_mul, Rat.add_zero]
theorem zero_names (lot : List Str) : rnames (lot.map fun n => (n, (0 : Rat))) = lot := by simp [rnames, Function.comp_def]
theorem natR_nonneg (n : Nat) : (0 : Rat) ≤ (n : Rat) := by
  have : ((0 : Int) : Rat) ≤ ((n : Int) : Rat) := Rat.intCast_le_intCast.mpr (by omega)
  exact this
theorem drive_nonneg (w : W) : ∀ rs : Rows, (∀ r ∈ rs, 0 ≤ r.2) → 0 ≤ drive w rs
  | [], _ => Rat.le_refl
  | r :: rs, h => Rat.add_nonneg (Rat.mul_nonneg (h r List.mem_cons_self) (natR_nonneg _)) (drive_nonneg w rs fun x hx => h x (List.mem_cons_of_mem _ hx))
theorem drive_back (w : W) : ∀ rs : Rows, (∀ r ∈ rs, r.2 ≤ (w.lg : Rat)) → drive w rs ≤ drive w (back w (rnames rs))
  | [], _ => Rat.le_refl
  | r :: rs, h => by
    have h1 := Rat.mul_le_mul_of_nonneg_right (h r List.mem_cons_self) (natR_nonneg (wt w r.1))
    have h2 := drive_back w rs fun x hx => h x (List.mem_cons_of_mem _ hx)
    show r.2 * (wt w r.1 : Nat) + drive w rs ≤ (w.lg : Rat) * (wt w r.1 : Nat) + drive w (back w (rnames rs))
    grind
theorem wholeR_pos {w : W} (h : w.Ok) (lot : List Str) : (0 : Rat) < ((whole w lot : Nat) : Rat) := by
  have : ((0 : Int) : Rat) < ((whole w lot : Int) : Rat) := Rat.intCast_lt_intCast.mpr (by have := whole_pos h lot; omega)
  exact this
theorem div_le_div {a b c : Rat} (hc : 0 < c) (h : a ≤ b) : a / c ≤ b / c := by
  rw [Rat.div_def, Rat.div_def]
  exact Rat.mul_le_mul_of_nonneg_right h (Rat.le_of_lt (Rat.inv_pos.mpr hc))
theorem pull_nonneg {w : W} (h : w.Ok) {rs : Rows} (hr : ∀ r ∈ rs, 0 ≤ r.2) : 0 ≤ pull w rs := by
  have := div_le_div (wholeR_pos h (rnames rs)) (drive_nonneg w rs hr)
  unfold pull
  rw [Rat.div_def, Rat.zero_mul] at this
  exact this
end OA
namespace OA
open PySem PySem.Spec PyProof.Rows L2
/-! ### steps -/
abbrev sOff : Str := Str.ofString "off"
abbrev sOn : Str := Str.ofString "on"
abbrev sNo : Str := Str.ofString ""
structure Stp where
  off : Bool
  n : Str
  l : Str
def Stp.way (s : Stp) : Str := if s.off then sOff else sOn
def eStp (s : Stp) : Dt := .tup [.str s.way, .str s.n, .str s.l]
def Stp.mv (s : Stp) : List Str := [s.n, s.l].filter fun x => decide (x ≠ sNo)
structure TOk (w : W) (s : Stp) : Prop where
  n : s.n ∈ folk w
  l : s.l = sNo ∨ s.l ∈ w.loads.map Prod.fst
theorem no_ok : PyData.strOk sNo = true := by decide +kernel
theorem off_ok : PyData.strOk sOff = true := by decide +kernel
theorem on_ok : PyData.strOk sOn = true := by decide +kernel
theorem folk_names {w : W} {n : Str} (h : n ∈ folk w) : n ∈ w.names := by
  unfold W.names W.all
  rw [List.map_append]
  exact List.mem_append_left _ (by simpa [folk, Function.comp_def] using h)
theorem load_names {w : W} {n : Str} (h : n ∈ w.loads.map Prod.fst) : n ∈ w.names := by
  unfold W.names W.all
  rw [List.map_append]
  exact List.mem_append_right _ h
theorem Made.ne {w : W} (h : Made w) {x : Str} (hx : x ∈ w.names) : x ≠ sNo := fun e => by
  have := h.nm x hx
  rw [e] at this
  exact absurd this (by decide +kernel)
theorem TOk.l_ok {w : W} {s : Stp} (h : TOk w s) (hw : Made w) : PyData.strOk s.l = true := by
  rcases h.l with e | e
  · rw [e]; exact no_ok
  · exact hw.sok _ (load_names e)
theorem TOk.n_ok {w : W} {s : Stp} (h : TOk w s) (hw : Made w) : PyData.strOk s.n = true := hw.sok _ (folk_names h.n)
theorem TOk.mv_names {w : W} {s : Stp} (h : TOk w s) : ∀ x ∈ s.mv, x ∈ w.names := fun x hx => by
  obtain ⟨h1, h2⟩ := List.mem_filter.mp hx
  have h2 := of_decide_eq_true h2
  rcases List.mem_cons.mp h1 with rfl | h1
  · exact folk_names h.n
  · have := List.mem_singleton.mp h1
    subst this
    rcases h.l with e | e
    · exact absurd e h2
    · exact load_names e
theorem TOk.mv_ok {w : W} {s : Stp} (h : TOk w s) (hw : Made w) : SOk s.mv := fun x hx => hw.sok x (h.mv_names x hx)
theorem TOk.mv_nd {w : W} {s : Stp} (h : TOk w s) (hw : Made w) : s.mv.Nodup := by
  unfold Stp.mv
  refine List.Sublist.nodup List.filter_sublist ?_
  rw [List.nodup_cons]
  refine ⟨fun hm => ?_, by simp⟩
  have e := List.mem_singleton.mp hm
  rcases h.l with e2 | e2
  · rw [e2] at e
    exact hw.ne (folk_names h.n) e
  · rw [← e] at e2
    have hnd := hw.ok.nd
    unfold W.names W.all at hnd
    rw [List.map_append, List.nodup_append] at hnd
    exact hnd.2.2 _ (by have := h.n; simpa [folk, Function.comp_def] using this) _ e2 rfl
theorem way_ok (s : Stp) : PyData.strOk s.way = true := by unfold Stp.way; cases s.off <;> decide +kernel
theorem is_off {S : Ss} (s : Stp) : fEq S (.d (.str s.way)) (.d (.str sOff)) = some (.d (.bl s.off)) := by
  rw [fEq_str (way_ok s) off_ok]
  unfold Stp.way
  cases s.off
  · rw [show decide ((if false = true then sOff else sOn) = sOff) = false by decide +kernel]
  · rfl
theorem is_on {S : Ss} (s : Stp) : fEq S (.d (.str s.way)) (.d (.str sOn)) = some (.d (.bl !s.off)) := by
  rw [fEq_str (way_ok s) on_ok]
  unfold Stp.way
  cases s.off
  · rfl
  · rw [show decide ((if true = true then sOff else sOn) = sOn) = false by decide +kernel]; rfl
@[simp] theorem stp_zero {S : Ss} {s : Stp} : fIx S (.d (eStp s)) (.d (.int 0)) = some (.d (.str s.way)) := rfl
@[simp] theorem stp_one {S : Ss} {s : Stp} : fIx S (.d (eStp s)) (.d (.int 1)) = some (.d (.str s.n)) := rfl
/-- [x for x in step[1:] if x != ''] -/
theorem e_movers {en : En} {S : Ss} {k i : Nat} {w : W} {s : Stp} (hw : Made w) (h : TOk w s) (hk : k < en.length) (hi : i ≠ k) (he : en[i]? = some (some (.d (eStp s)))) :
    cComp [k] (cIter (cSl (cVar i) (part (cK (.int 1))) noPart)) (gNm k) (cTst (cBin fNe (cVar k) (cK (.str sNo)))) (cVar k) en S = some (.d (.lst (s.mv.map .str)), S) := by
  have hsl : cSl (cVar i) (part (cK (.int 1))) noPart en S = some (.d (.tup [.str s.n, .str s.l]), S) := by
    unfold cSl part noPart
    simp [cVar, he, cK, slV, tupV, eStp]
    rfl
  have hc := compN_filter (vs := [k]) (g := gNm k) (t := cTst (cBin fNe (cVar k) (cK (.str sNo)))) (c := cVar k) (en := en) (S := S) Dt.str Dt.str (fun x => decide (x ≠ sNo)) [s.n, s.l] (fun x hx => by
    have hx2 : PyData.strOk x = true := by
      rcases List.mem_cons.mp hx with rfl | hx
      · exact h.n_ok hw
      · have := List.mem_singleton.mp hx
        subst this
        exact h.l_ok hw
    have hv : ((wipeE en [k]).set k (some (.d (.str x))))[k]? = some (some (.d (.str x))) := by simp [wipeE, hk]
    exact ⟨_, rfl, e_tst (e_bin (e_var hv) (e_K _) (fNe_str hx2 no_ok)), fun _ => e_var hv⟩)
  exact e_comp (e_iter hsl rfl) hc
theorem sp_movers (S : Ss) {w : W} {s : Stp} (hw : Made w) (h : TOk w s) : f_movers [.d (eStp s)] S = some (.d (.lst (s.mv.map .str)), S) := by
  refine run_ret (en := [some (.d (eStp s)), none]) (S' := S) ?_ (List.take_length)
  show sCons _ _ _ S = _
  exact e_rets (e_movers hw h (by simp) (by decide) rfl)
theorem sp_folk_of (S : Ss) (w : W) : f_folk_of [.d (eW w)] S = some (.d (.lst ((folk w).map .str)), S) := sp_folk S w
theorem canLie_eq (w : W) (lot : List Str) : (decide ((lot.filter fun n => decide (n ∈ folk w)).length = lot.length) || !(lot.filter fun n => decide (n ∈ folk w)).isEmpty) = canLie w lot := by
  unfold canLie
  cases lot with
  | nil => rfl
  | cons x xs =>
    cases e : (x :: xs).filter fun n => decide (n ∈ folk w) with
    | nil => simp
    | cons _ _ => simp
theorem sp_can (S : Ss) (w : W) (lot : List Str) (hs : SOk lot) (hf : SOk (folk w)) : f_can_be_aboard [.d (eW w), .d (names lot)] S = some (.d (.bl (canLie w lot)), S) := by
  refine run_ret (en := [some (.d (eW w)), some (.d (names lot)), some (.d (.lst ((lot.filter fun n => decide (n ∈ folk w)).map .str))), none]) (S' := S) ?_ (List.take_length)
  have hc := compN_filter (vs := [3]) (g := gNm 3) (t := cTst (cBin fIn (cVar 3) (cCall f_folk_of (cCons (cVar 0) cNil)))) (c := cVar 3) (en := [some (.d (eW w)), some (.d (names lot)), none, none]) (S := S)
    Dt.str Dt.str (fun n => decide (n ∈ folk w)) lot (fun n hn => ⟨[some (.d (eW w)), some (.d (names lot)), none, some (.d (.str n))], rfl, e_tst (e_bin (e_var rfl) (e_call (e_cons (e_var rfl) e_nil) (sp_folk_of S w)) (fIn_lst (hs n hn) hf)), fun _ => e_var rfl⟩)
  have hs2 : SOk (lot.filter fun n => decide (n ∈ folk w)) := fun x hx => hs x (List.mem_filter.mp hx).1
  show sCons _ _ _ S = _
  refine e_seqR (e_set (e_comp (e_iter (e_var rfl) (names_items _)) hc)) ?_
  refine e_rets ?_
  rw [← canLie_eq]
  have l1 : fLen S [.d (.lst ((lot.filter fun n => decide (n ∈ folk w)).map .str))] = some (.d (.int ((lot.filter fun n => decide (n ∈ folk w)).length : Int))) := by
    unfold fLen; simp
  have l2 : fLen S [.d (names lot)] = some (.d (.int (lot.length : Int))) := by
    unfold fLen names; simp [tupV]
  unfold cOr
  rw [e_bin (e_app (e_cons (e_var rfl) e_nil) l1) (e_app (e_cons (e_var rfl) e_nil) l2) fEq_int]
  by_cases e : (lot.filter fun n => decide (n ∈ folk w)).length = lot.length
  · have e' : ((lot.filter fun n => decide (n ∈ folk w)).length : Int) = (lot.length : Int) := by omega
    rw [decide_eq_true e, decide_eq_true e']
    rfl
  · have e' : ¬ ((lot.filter fun n => decide (n ∈ folk w)).length : Int) = (lot.length : Int) := by omega
    rw [decide_eq_false e, decide_eq_false e']
    simp only [Option.bind_some, Bool.false_or]
    exact e_bin (e_var rfl) (show cLst cNil _ S = some (.d (.lst []), S) from rfl) (fNe_nil hs2)
end OA
namespace OA
open PySem PySem.Spec PyProof.Rows L2
/-- the lot behind a step -/
def lotF (lot : List Str) (s : Stp) : List Str := if s.off then lot.filter (fun x => !decide (x ∈ s.mv)) else isortS (lot ++ s.mv)
def lotB (w : W) (lot : List Str) (s : Stp) : Option (List Str) := if (s.mv.filter fun x => decide (x ∈ lot) != s.off).isEmpty then (if canLie w (lotF lot s) then some (lotF lot s) else none) else none
def oD : Option (List Str) → Dt
  | none => .non
  | some f => names f
theorem lotF_ok {w : W} {lot : List Str} {s : Stp} (hl : SOk lot) (hm : SOk s.mv) : SOk (lotF lot s) := by
  unfold lotF
  split
  · exact fun x hx => hl x (List.mem_filter.mp hx).1
  · intro x hx
    rcases List.mem_append.mp ((OA.isortS_perm _).subset hx) with hx | hx
    · exact hl x hx
    · exact hm x hx
theorem e_keep {en : En} {S : Ss} {k i j : Nat} {d : Dt} {lot mv : List Str} (hk : k < en.length) (hj : j ≠ k) (hd : itemsOf d = some (lot.map .str)) (hi : en[i]? = some (some (.d d))) (he : en[j]? = some (some (.d (.lst (mv.map .str))))) (hl : SOk lot) (hm : SOk mv) :
    cComp [k] (cIter (cVar i)) (gNm k) (cTst (cBin fNotIn (cVar k) (cVar j))) (cVar k) en S = some (.d (.lst ((lot.filter fun x => !decide (x ∈ mv)).map .str)), S) := by
  have hc := compN_filter (vs := [k]) (g := gNm k) (t := cTst (cBin fNotIn (cVar k) (cVar j))) (c := cVar k) (en := en) (S := S) Dt.str Dt.str (fun x => !decide (x ∈ mv)) lot (fun x hx => by
    have hv : ((wipeE en [k]).set k (some (.d (.str x))))[k]? = some (some (.d (.str x))) := by simp [wipeE, hk]
    have hv2 : ((wipeE en [k]).set k (some (.d (.str x))))[j]? = some (some (.d (.lst (mv.map .str)))) := by
      simp only [wipeE]
      rw [List.getElem?_set_ne (by omega), List.getElem?_set_ne (by omega)]; exact he
    exact ⟨_, rfl, e_tst (e_bin (e_var hv) (e_var hv2) (fNotIn_lst (hl x hx) hm)), fun _ => e_var hv⟩)
  exact e_comp (e_iter (e_var hi) hd) hc
theorem fSortT_lst {S : Ss} {d : Dt} {xs : List Str} (h : seqV d = some (xs.map .str)) : fSortT S [.d d] = some (.d (.lst ((isortS xs).map .str))) := by
  unfold fSortT
  simp only [g_d, h, Option.bind_some, strsOf_map, Option.map_some]
theorem fTup_lst {S : Ss} {ds : List Dt} : fTup false S [.d (.lst ds)] = some (.d (.tup ds)) := rfl
theorem add_names {S : Ss} {lot mv : List Str} (h : lot.length + mv.length ≤ 1000) : ∃ d, fAdd S (.d (names lot)) (.d (names mv)) = some (.d d) ∧ seqV d = some ((lot ++ mv).map .str) := by
  unfold fAdd names
  simp only [g_d, tupV]
  rw [if_pos (by simpa using h)]
  cases lot with
  | nil => exact ⟨_, rfl, rfl⟩
  | cons x lot =>
    cases mv with
    | nil => exact ⟨_, rfl, by simp [seqV, tupV]⟩
    | cons y mv => exact ⟨_, rfl, by simp [seqV, tupV]⟩
theorem mv_len (s : Stp) : s.mv.length ≤ 2 := List.length_filter_le _ _
theorem sp_lot_behind (S : Ss) {w : W} {s : Stp} {lot : List Str} (hw : Made w) (h : TOk w s) (hl : SOk lot) (hn : lot.length ≤ 900) : f_lot_behind [.d (eW w), .d (names lot), .d (eStp s)] S = some (.d (oD (lotB w lot s)), S) := by
  have hm := h.mv_ok hw
  have hf := lotF_ok (w := w) hl hm
  have hc := compN_filter (vs := [5]) (g := gNm 5) (t := cTst (cBin fNe (cBin fIn (cVar 5) (cVar 1)) (cBin fEq (cBin fIx (cVar 2) (cK (.int 0))) (cK (.str sOff))))) (c := cVar 5) (en := [some (.d (eW w)), some (.d (names lot)), some (.d (eStp s)), some (.d (.lst (s.mv.map .str))), none, none]) (S := S) Dt.str Dt.str (fun x => decide (x ∈ lot) != s.off) s.mv (fun x hx =>
    ⟨[some (.d (eW w)), some (.d (names lot)), some (.d (eStp s)), some (.d (.lst (s.mv.map .str))), none, some (.d (.str x))], rfl, e_tst (e_bin (e_bin (e_var rfl) (e_var rfl) (fIn_tup (hm x hx) hl)) (e_bin (e_bin (e_var rfl) (e_K _) stp_zero) (e_K _) (is_off s)) fNe_bl), fun _ => e_var rfl⟩)
  have hs2 : SOk (s.mv.filter fun x => decide (x ∈ lot) != s.off) := fun x hx => hm x (List.mem_filter.mp hx).1
  have et := e_tst (e_bin (e_comp (e_iter (e_var (i := 3) rfl) rfl) hc) (show cLst cNil _ S = some (.d (.lst []), S) from rfl) (fNe_nil hs2))
  have eoff : ∀ z4 z5, cTst (cBin fEq (cBin fIx (cVar 2) (cK (.int 0))) (cK (.str sOff))) [some (.d (eW w)), some (.d (names lot)), some (.d (eStp s)), some (.d (.lst (s.mv.map .str))), z4, z5] S = some (s.off, S) := fun z4 z5 => e_tst (e_bin (e_bin (e_var rfl) (e_K _) stp_zero) (e_K _) (is_off s))
  cases hb : (s.mv.filter fun x => decide (x ∈ lot) != s.off).isEmpty with
  | false =>
    rw [hb] at et
    refine run_ret (en := [some (.d (eW w)), some (.d (names lot)), some (.d (eStp s)), some (.d (.lst (s.mv.map .str))), none, none]) (S' := S) ?_ (List.take_length)
    show sCons _ _ _ S = _
    unfold lotB
    rw [hb]
    exact e_seqR (e_set (e_call (e_cons (e_var rfl) e_nil) (sp_movers S hw h))) (e_retC ((e_ifT et).trans (e_rets (e_K _))))
  | true =>
    rw [hb] at et
    refine run_ret (en := [some (.d (eW w)), some (.d (names lot)), some (.d (eStp s)), some (.d (.lst (s.mv.map .str))), some (.d (names (lotF lot s))), none]) (S' := S) ?_ (List.take_length)
    show sCons _ _ _ S = _
    refine e_seqR (e_set (e_call (e_cons (e_var rfl) e_nil) (sp_movers S hw h))) ?_
    refine e_seqR ((e_ifF et).trans e_snil) ?_
    have e3 : sIf (cTst (cBin fEq (cBin fIx (cVar 2) (cK (.int 0))) (cK (.str sOff)))) (sCons (sSet 4 (cApp (fTup false) (cCons (cComp [5] (cIter (cVar 1)) (gNm 5) (cTst (cBin fNotIn (cVar 5) (cVar 3))) (cVar 5)) cNil))) sNil) (sCons (sSet 4 (cApp (fTup false) (cCons (cApp fSortT (cCons (cBin fAdd (cVar 1) (cApp (fTup false) (cCons (cVar 3) cNil))) cNil)) cNil))) sNil)
        [some (.d (eW w)), some (.d (names lot)), some (.d (eStp s)), some (.d (.lst (s.mv.map .str))), none, none] S = some (.nx, [some (.d (eW w)), some (.d (names lot)), some (.d (eStp s)), some (.d (.lst (s.mv.map .str))), some (.d (names (lotF lot s))), none], S) := by
      unfold lotF
      have eo := eoff none none
      cases ho : s.off with
      | true =>
        rw [ho] at eo
        exact (e_ifT eo).trans (e_seqR (e_set (e_app (e_cons (e_keep (k := 5) (i := 1) (j := 3) (by simp) (by decide) (names_items lot) rfl rfl hl hm) e_nil) fTup_lst)) e_snil)
      | false =>
        rw [ho] at eo
        obtain ⟨d, e1, e2⟩ := add_names (S := S) (lot := lot) (mv := s.mv) (by have := mv_len s; omega)
        exact (e_ifF eo).trans (e_seqR (e_set (e_app (e_cons (e_app (e_cons (e_bin (e_var rfl) (e_app (e_cons (e_var rfl) e_nil) rfl) e1) e_nil) (fSortT_lst e2)) e_nil) fTup_lst)) e_snil)
    refine e_seqR e3 ?_
    have ec := e_tst (e_call (e_cons (e_var (i := 0) (en := [some (.d (eW w)), some (.d (names lot)), some (.d (eStp s)), some (.d (.lst (s.mv.map .str))), some (.d (names (lotF lot s))), none]) rfl) (e_cons (e_var (i := 4) rfl) e_nil)) (sp_can S w (lotF lot s) hf hw.folk_ok))
    unfold lotB
    rw [hb]
    cases hcl : canLie w (lotF lot s) with
    | true =>
      rw [hcl] at ec
      exact e_rets (e_ifxT ec (e_var rfl))
    | false =>
      rw [hcl] at ec
      exact e_rets (e_ifxF ec (e_K _))
end OA
namespace OA
open PySem PySem.Spec PyProof.Rows L2
theorem qq_and {ca cb : CdB} {en : En} {S S1 S2 : Ss} {a b : Bool} (h1 : ca en S = some (a, S1)) (h2 : a = true → cb en S1 = some (b, S2)) (h3 : a = false → S2 = S1) : qqAnd ca cb en S = some (a && b, S2) := by
  unfold qqAnd
  cases a with
  | true => simp [h1, h2 rfl]
  | false => simp [h1, h3 rfl]
theorem qq_orB {ca cb : CdB} {en : En} {S : Ss} {a b : Bool} (h1 : ca en S = some (a, S)) (h2 : a = false → cb en S = some (b, S)) : qqOr ca cb en S = some (a || b, S) := by
  unfold qqOr
  cases a with
  | true => simp [h1]
  | false => simp [h1, h2 rfl]
theorem qq_andB {ca cb : CdB} {en : En} {S : Ss} {a b : Bool} (h1 : ca en S = some (a, S)) (h2 : a = true → cb en S = some (b, S)) : qqAnd ca cb en S = some (a && b, S) := qq_and h1 h2 fun _ => rfl
theorem len_lst {S : Ss} {xs : List Str} : fLen S [.d (.lst (xs.map .str))] = some (.d (.int (xs.length : Int))) := by unfold fLen; simp
/-- the law's own condition is the program's -/
theorem cond_eq (mv lot : List Str) (off : Bool) : ((off && decide (((mv.filter fun x => decide (x ∈ lot)).length : Int) < (mv.length : Int))) || (!off && !(mv.filter fun x => decide (x ∈ lot)).isEmpty)) = !(mv.filter fun x => decide (x ∈ lot) != off).isEmpty := by
  cases off with
  | true =>
    simp only [Bool.true_and, Bool.not_true, Bool.false_and, Bool.or_false]
    induction mv with
    | nil => rfl
    | cons x mv ih =>
      by_cases h : x ∈ lot
      · have e1 : ((x :: mv).filter fun x => decide (x ∈ lot)) = x :: mv.filter fun x => decide (x ∈ lot) := by simp [h]
        have e2 : ((x :: mv).filter fun x => decide (x ∈ lot) != true) = mv.filter fun x => decide (x ∈ lot) != true := by simp [h]
        rw [e1, e2, ← ih]
        congr 1
        simp
      · have e1 : ((x :: mv).filter fun x => decide (x ∈ lot)) = mv.filter fun x => decide (x ∈ lot) := by simp [h]
        have e2 : ((x :: mv).filter fun x => decide (x ∈ lot) != true) = x :: mv.filter fun x => decide (x ∈ lot) != true := by simp [h]
        rw [e1, e2]
        have := List.length_filter_le (fun x => decide (x ∈ lot)) mv
        simp; omega
  | false =>
    simp
theorem add_lsts {S : Ss} {xs ys : List Str} (h : xs.length + ys.length ≤ 1000) : fAdd S (.d (.lst (xs.map .str))) (.d (.lst (ys.map .str))) = some (.d (.lst ((xs ++ ys).map .str))) := by
  unfold fAdd
  simp only [g_d]
  rw [if_pos (by simpa using h), List.map_append]
theorem sp_l_after (S : Ss) {w : W} {s : Stp} {lot : List Str} (hw : Made w) (h : TOk w s) (hl : SOk lot) (hn : lot.length ≤ 900) : f_l_after [.d (eW w), .d (names lot), .d (eStp s)] S = some (.d (oD (lotB w lot s)), S) := by
  have hm := h.mv_ok hw
  have hf := lotF_ok (w := w) hl hm
  have e3 := e_movers (S := S) (k := 6) (i := 2) (en := [some (.d (eW w)), some (.d (names lot)), some (.d (eStp s)), none, none, none, none]) hw h (by simp) (by decide) rfl
  have hc := compN_filter (vs := [6]) (g := gNm 6) (t := cTst (cBin fIn (cVar 6) (cVar 1))) (c := cVar 6) (en := [some (.d (eW w)), some (.d (names lot)), some (.d (eStp s)), some (.d (.lst (s.mv.map .str))), none, none, none]) (S := S) Dt.str Dt.str (fun x => decide (x ∈ lot)) s.mv (fun x hx =>
    ⟨[some (.d (eW w)), some (.d (names lot)), some (.d (eStp s)), some (.d (.lst (s.mv.map .str))), none, none, some (.d (.str x))], rfl, e_tst (e_bin (e_var rfl) (e_var rfl) (fIn_tup (hm x hx) hl)), fun _ => e_var rfl⟩)
  have hs2 : SOk (s.mv.filter fun x => decide (x ∈ lot)) := fun x hx => hm x (List.mem_filter.mp hx).1
  have eoff : ∀ z4 z5 z6, cTst (cBin fEq (cBin fIx (cVar 2) (cK (.int 0))) (cK (.str sOff))) [some (.d (eW w)), some (.d (names lot)), some (.d (eStp s)), some (.d (.lst (s.mv.map .str))), z4, z5, z6] S = some (s.off, S) := fun z4 z5 z6 => e_tst (e_bin (e_bin (e_var rfl) (e_K _) stp_zero) (e_K _) (is_off s))
  have eon : ∀ z4 z5 z6, cTst (cBin fEq (cBin fIx (cVar 2) (cK (.int 0))) (cK (.str sOn))) [some (.d (eW w)), some (.d (names lot)), some (.d (eStp s)), some (.d (.lst (s.mv.map .str))), z4, z5, z6] S = some (!s.off, S) := fun z4 z5 z6 => e_tst (e_bin (e_bin (e_var rfl) (e_K _) stp_zero) (e_K _) (is_on s))
  have et : qqOr (qqAnd (cTst (cBin fEq (cBin fIx (cVar 2) (cK (.int 0))) (cK (.str sOff)))) (cTst (cBin fLt (cApp fLen (cCons (cVar 4) cNil)) (cApp fLen (cCons (cVar 3) cNil))))) (qqAnd (cTst (cBin fEq (cBin fIx (cVar 2) (cK (.int 0))) (cK (.str sOn)))) (cTst (cBin fNe (cVar 4) (cLst cNil))))
      [some (.d (eW w)), some (.d (names lot)), some (.d (eStp s)), some (.d (.lst (s.mv.map .str))), some (.d (.lst ((s.mv.filter fun x => decide (x ∈ lot)).map .str))), none, none] S = some (!(s.mv.filter fun x => decide (x ∈ lot) != s.off).isEmpty, S) := by
    rw [← cond_eq]
    exact qq_orB (qq_andB (eoff _ _ _) fun _ => e_tst (e_bin (e_app (e_cons (e_var rfl) e_nil) len_lst) (e_app (e_cons (e_var rfl) e_nil) len_lst) fLt_int)) fun _ => qq_andB (eon _ _ _) fun _ => e_tst (e_bin (e_var rfl) (show cLst cNil _ S = some (.d (.lst []), S) from rfl) (fNe_nil hs2))
  cases hb : (s.mv.filter fun x => decide (x ∈ lot) != s.off).isEmpty with
  | false =>
    rw [hb] at et
    refine run_ret (en := [some (.d (eW w)), some (.d (names lot)), some (.d (eStp s)), some (.d (.lst (s.mv.map .str))), some (.d (.lst ((s.mv.filter fun x => decide (x ∈ lot)).map .str))), none, none]) (S' := S) ?_ (List.take_length)
    show sCons _ _ _ S = _
    unfold lotB
    rw [hb]
    exact e_seqR (e_set e3) (e_seqR (e_set (e_comp (e_iter (e_var rfl) rfl) hc)) (e_retC ((e_ifT et).trans (e_rets (e_K _)))))
  | true =>
    rw [hb] at et
    refine run_ret (en := [some (.d (eW w)), some (.d (names lot)), some (.d (eStp s)), some (.d (.lst (s.mv.map .str))), some (.d (.lst ((s.mv.filter fun x => decide (x ∈ lot)).map .str))), some (.d (names (lotF lot s))), none]) (S' := S) ?_ (List.take_length)
    show sCons _ _ _ S = _
    refine e_seqR (e_set e3) (e_seqR (e_set (e_comp (e_iter (e_var rfl) rfl) hc)) (e_seqR ((e_ifF et).trans e_snil) ?_))
    have e4 : sIf (cTst (cBin fEq (cBin fIx (cVar 2) (cK (.int 0))) (cK (.str sOff)))) (sCons (sSet 5 (cApp (fTup false) (cCons (cComp [6] (cIter (cVar 1)) (gNm 6) (cTst (cBin fNotIn (cVar 6) (cVar 3))) (cVar 6)) cNil))) sNil) (sCons (sSet 5 (cApp (fTup false) (cCons (cApp fSortT (cCons (cBin fAdd (cApp fList (cCons (cVar 1) cNil)) (cVar 3)) cNil)) cNil))) sNil)
        [some (.d (eW w)), some (.d (names lot)), some (.d (eStp s)), some (.d (.lst (s.mv.map .str))), some (.d (.lst ((s.mv.filter fun x => decide (x ∈ lot)).map .str))), none, none] S = some (.nx, [some (.d (eW w)), some (.d (names lot)), some (.d (eStp s)), some (.d (.lst (s.mv.map .str))), some (.d (.lst ((s.mv.filter fun x => decide (x ∈ lot)).map .str))), some (.d (names (lotF lot s))), none], S) := by
      unfold lotF
      have eo := eoff (some (.d (.lst ((s.mv.filter fun x => decide (x ∈ lot)).map .str)))) none none
      cases ho : s.off with
      | true =>
        rw [ho] at eo
        exact (e_ifT eo).trans (e_seqR (e_set (e_app (e_cons (e_keep (k := 6) (i := 1) (j := 3) (by simp) (by decide) (names_items lot) rfl rfl hl hm) e_nil) fTup_lst)) e_snil)
      | false =>
        rw [ho] at eo
        exact (e_ifF eo).trans (e_seqR (e_set (e_app (e_cons (e_app (e_cons (e_bin (e_app (e_cons (e_var rfl) e_nil) (show fList S [.d (names lot)] = some (.d (.lst (lot.map .str))) from rfl)) (e_var rfl) (add_lsts (by have := mv_len s; omega))) e_nil) (fSortT_lst rfl)) e_nil) fTup_lst)) e_snil)
    refine e_seqR e4 ?_
    have ec := e_tst (e_call (e_cons (e_var (i := 0) (en := [some (.d (eW w)), some (.d (names lot)), some (.d (eStp s)), some (.d (.lst (s.mv.map .str))), some (.d (.lst ((s.mv.filter fun x => decide (x ∈ lot)).map .str))), some (.d (names (lotF lot s))), none]) rfl) (e_cons (e_var (i := 5) rfl) e_nil)) (sp_can_lie S w (names (lotF lot s)) (lotF lot s) rfl rfl hf hw.folk_ok))
    unfold lotB
    rw [hb]
    cases hcl : canLie w (lotF lot s) with
    | true =>
      rw [hcl] at ec
      exact e_rets (e_ifxT ec (e_var rfl))
    | false =>
      rw [hcl] at ec
      exact e_rets (e_ifxF ec (e_K _))
/-- how far one can reach -/
def rcOf (w : W) (n : Str) : Nat := ((w.folk.find? fun o => decide (o.nm = n)).map One.rc).getD 0
theorem fIx_hd {S : Ss} {x : Dt} {xs : List Dt} : fIx S (.d (.lst (x :: xs))) (.d (.int 0)) = some (.d x) := fIx_lst (S := S) (xs := x :: xs) (i := 0) (by simp)
theorem find_one {w : W} {n : Str} (h : n ∈ folk w) : ∃ o r, o ∈ w.folk ∧ (w.folk.filter fun o => decide (o.nm = n)) = o :: r ∧ rcOf w n = o.rc ∧ o.nm = n := by
  unfold rcOf
  cases e : w.folk.find? fun o => decide (o.nm = n) with
  | none =>
    obtain ⟨o, ho, e2⟩ := List.mem_map.mp h
    have := List.find?_eq_none.mp e o ho
    simp [e2] at this
  | some o =>
    obtain ⟨h1, as, bs, h2, h3⟩ := List.find?_eq_some_iff_append.mp e
    refine ⟨o, bs.filter fun o => decide (o.nm = n), by rw [h2]; simp, ?_, rfl, of_decide_eq_true h1⟩
    rw [h2, List.filter_append, List.filter_cons_of_pos (p := fun o : One => decide (o.nm = n)) h1]
    rw [List.filter_eq_nil_iff.mpr (fun a ha => by simpa using h3 a ha)]
    rfl
theorem rc_fr (k : Nat) : fr (k : Rat) = .tup [.int (k : Int), .int 1] := rfl
theorem sp_one_of (S : Ss) {w : W} {n : Str} {o : One} {r : List One} (hw : Made w) (hn : PyData.strOk n = true) (e : (w.folk.filter fun o => decide (o.nm = n)) = o :: r) : f_one_of [.d (eW w), .d (.str n)] S = some (.d (eOne o), S) := by
  refine run_ret (en := [some (.d (eW w)), some (.d (.str n)), none]) (S' := S) ?_ (List.take_length)
  have hc := compN_filter (vs := [2]) (g := gNm 2) (t := cTst (cBin fEq (cBin fIx (cVar 2) (cK (.int 0))) (cVar 1))) (c := cVar 2) (en := [some (.d (eW w)), some (.d (.str n)), none]) (S := S)
    eOne eOne (fun o => decide (o.nm = n)) w.folk (fun o ho => ⟨[some (.d (eW w)), some (.d (.str n)), some (.d (eOne o))], rfl, e_tst (e_bin (e_bin (e_var rfl) (e_K _) (show fIx S _ _ = some (.d (.str o.nm)) from rfl)) (e_var rfl) (fEq_str (hw.folk_ok _ (List.mem_map.mpr ⟨o, ho, rfl⟩)) hn)), fun _ => e_var rfl⟩)
  rw [e] at hc
  show sCons _ _ _ S = _
  exact e_rets (e_bin (e_comp (e_iter (e_bin (e_var rfl) (e_K _) (w_one w S)) rfl) hc) (e_K (.int 0)) fIx_hd)
theorem sp_reach_of (S : Ss) {w : W} {s : Stp} (hw : Made w) (h : TOk w s) : f_reach_of [.d (eW w), .d (eStp s)] S = some (.d (fr (rcOf w s.n : Rat)), S) := by
  obtain ⟨o, r, _, e, e2, _⟩ := find_one h.n
  refine run_ret (en := [some (.d (eW w)), some (.d (eStp s))]) (S' := S) ?_ (List.take_length)
  rw [e2, rc_fr]
  show sCons _ _ _ S = _
  exact e_rets (e_tup (e_cons (e_bin (e_call (e_cons (e_var rfl) (e_cons (e_bin (e_var rfl) (e_K _) stp_one) e_nil)) (sp_one_of S hw (h.n_ok hw) e)) (e_K (.int 2)) rfl) (e_cons (e_K (.int 1)) e_nil)) rfl (by simp))
theorem sp_l_reach (S : Ss) {w : W} {s : Stp} (hw : Made w) (h : TOk w s) : f_l_reach [.d (eW w), .d (eStp s)] S = some (.d (fr (rcOf w s.n : Rat)), S) := by
  obtain ⟨o, r, _, e, e2, _⟩ := find_one h.n
  refine run_ret (en := [some (.d (eW w)), some (.d (eStp s)), none]) (S' := S) ?_ (List.take_length)
  have hc := compN_filter (vs := [2]) (g := gNm 2) (t := cTst (cBin fEq (cBin fIx (cVar 2) (cK (.int 0))) (cBin fIx (cVar 1) (cK (.int 1))))) (c := cBin fIx (cVar 2) (cK (.int 2))) (en := [some (.d (eW w)), some (.d (eStp s)), none]) (S := S)
    eOne (fun o => .int (o.rc : Int)) (fun o => decide (o.nm = s.n)) w.folk (fun o ho => ⟨[some (.d (eW w)), some (.d (eStp s)), some (.d (eOne o))], rfl, e_tst (e_bin (e_bin (e_var rfl) (e_K _) (show fIx S _ _ = some (.d (.str o.nm)) from rfl)) (e_bin (e_var rfl) (e_K _) stp_one) (fEq_str (hw.folk_ok _ (List.mem_map.mpr ⟨o, ho, rfl⟩)) (h.n_ok hw))), fun _ => e_bin (e_var rfl) (e_K (.int 2)) rfl⟩)
  rw [e] at hc
  rw [e2, rc_fr]
  show sCons _ _ _ S = _
  exact e_rets (e_tup (e_cons (e_bin (e_comp (e_iter (e_bin (e_var rfl) (e_K _) (w_one w S)) rfl) hc) (e_K (.int 0)) fIx_hd) (e_cons (e_K (.int 1)) e_nil)) rfl (by simp))
theorem rcOf_le {w : W} (hw : w.Ok) (n : Str) : rcOf w n ≤ 30 := by
  unfold rcOf
  cases e : w.folk.find? fun o => decide (o.nm = n) with
  | none => exact Nat.zero_le _
  | some o => exact (hw.rc o (List.mem_of_find?_eq_some e)).2
end OA
namespace OA
open PySem PySem.Spec PyProof.Rows L2
/-! ### steps taken -/
/-- rows, as they lie in a standing -/
def SD (d : Dt) (rs : Rows) : Prop := d = rowsD rs ∨ d = .tup (rs.map eRow)
theorem SD.items {d : Dt} {rs : Rows} (h : SD d rs) : itemsOf d = some (rs.map eRow) := by
  rcases h with rfl | rfl
  · exact rowsD_items rs
  · rfl
theorem SD.seq {d : Dt} {rs : Rows} (h : SD d rs) : seqV d = some (rs.map eRow) := by
  rcases h with rfl | rfl
  · cases rs <;> rfl
  · rfl
theorem SD.rows (rs : Rows) : SD (rowsD rs) rs := .inl rfl
theorem sp_aboard' (S : Ss) {x d : Dt} {rs : Rows} (h : SD d rs) : f_aboard_of [.d (.tup [x, d])] S = some (.d (names (rnames rs)), S) := by
  refine run_ret (en := [some (.d (.tup [x, d])), none]) (S' := S) ?_ (List.take_length)
  have := e_names (vs := [1]) (k := 1) (en := [some (.d (.tup [x, d])), none]) (S := S) (c := cBin fIx (cVar 0) (cK (.int 1))) rfl (by simp) (e_bin (e_var rfl) (e_K _) rfl) h.items
  show sCons _ _ _ S = _
  exact e_rets (e_app (e_cons this e_nil) rfl)
def sortR (rs : Rows) : Rows := isortK (fun r => r.1) rs
theorem fSortR_rows {S : Ss} {d : Dt} {rs : Rows} (h : seqV d = some (rs.map eRow)) (hn : (rnames rs).Nodup) : fSortR S [.d d] = some (.d (.lst ((sortR rs).map eRow))) := by
  unfold fSortR
  simp only [g_d, h, Option.bind_some]
  have h1 : (rs.map eRow).all isRowD = true := by
    rw [List.all_eq_true]
    intro x hx
    obtain ⟨r, _, rfl⟩ := List.mem_map.mp hx
    rfl
  have h2 : ((rs.map eRow).map nmD) = rnames rs := by rw [List.map_map]; rfl
  rw [if_pos ⟨h1, by rw [h2]; exact hn⟩]
  have := isortK_map nmD eRow rs
  rw [← this]
  rfl
def zr (mv : List Str) : Rows := mv.map fun n => (n, (0 : Rat))
theorem add_rows {S : Ss} {d : Dt} {rs z : Rows} (h : SD d rs) (hl : rs.length + z.length ≤ 1000) : ∃ d', fAdd S (.d d) (.d (rowsD z)) = some (.d d') ∧ seqV d' = some ((rs ++ z).map eRow) := by
  have hz : tupV (rowsD z) = some (z.map eRow) := rowsD_tup z
  have key : ∀ d : Dt, tupV d = some (rs.map eRow) → (∀ i, d ≠ .int i) → (∀ i, d ≠ .str i) → (∀ i, d ≠ .lst i) → ∃ d', fAdd S (.d d) (.d (rowsD z)) = some (.d d') ∧ seqV d' = some ((rs ++ z).map eRow) := by
    intro d hd h1 h2 h3
    have e : fAdd S (.d d) (.d (rowsD z)) = if (rs.map eRow).length + (z.map eRow).length ≤ 1000 then (if (rs.map eRow).isEmpty then some (.d (rowsD z)) else if (z.map eRow).isEmpty then some (.d d) else some (.d (.tup (rs.map eRow ++ z.map eRow)))) else none := by
      unfold fAdd
      simp only [g_d]
      split
      · rename_i i _ he _; cases he; exact absurd rfl (h1 i)
      · rename_i i _ he _; cases he; exact absurd rfl (h2 i)
      · rename_i i _ he _; cases he; exact absurd rfl (h3 i)
      · rename_i x y _ _ _ hx hy
        cases hx; cases hy
        rw [hd, hz]
      · rename_i hh
        exact absurd rfl (hh d (rowsD z) rfl)
    rw [if_pos (by simpa using hl)] at e
    cases rs with
    | nil => exact ⟨rowsD z, e, by cases z <;> rfl⟩
    | cons r rs =>
      cases z with
      | nil =>
        refine ⟨d, e, ?_⟩
        have : seqV d = tupV d := by
          cases d <;> first | rfl | exact absurd rfl (h3 _)
        rw [this, hd, List.append_nil]
      | cons r' z => exact ⟨_, e, by simp [seqV, tupV]⟩
  rcases h with rfl | rfl
  · exact key _ (rowsD_tup rs) (fun i => by cases rs <;> simp [rowsD]) (fun i => by cases rs <;> simp [rowsD]) (fun i => by cases rs <;> simp [rowsD])
  · exact key _ rfl (fun i => by simp) (fun i => by simp) (fun i => by simp)
theorem Sh.row {r : Str × Rat} (h : PyData.strOk r.1 = true) : Sh 2 (eRow r) := Sh.tup (n := 1) fun d hd => by
  simp at hd
  rcases hd with rfl | rfl
  · exact (Sh.str h).mono (by decide)
  · exact Sh.fr _
theorem Sh.rowsL {rs : Rows} (h : SOk (rnames rs)) : Sh 3 (.lst (rs.map eRow)) := Sh.lst fun d hd => by
  obtain ⟨r, hr, rfl⟩ := List.mem_map.mp hd
  exact Sh.row (h _ (List.mem_map.mpr ⟨r, hr, rfl⟩))
theorem Sh.rowsT {rs : Rows} (h : SOk (rnames rs)) : Sh 3 (rowsD rs) := by
  have key : Sh 3 (.tup (rs.map eRow)) := Sh.tup fun d hd => by
    obtain ⟨r, hr, rfl⟩ := List.mem_map.mp hd
    exact Sh.row (h _ (List.mem_map.mpr ⟨r, hr, rfl⟩))
  cases rs with
  | nil => exact ⟨rfl, by show 0 + 1 ≤ 3; decide⟩
  | cons r rs => exact key
theorem Sh.st {g : Rat} {rs : Rows} (h : SOk (rnames rs)) : Sh 4 (eSt g rs) := Sh.tup (n := 3) fun d hd => by
  simp at hd
  rcases hd with rfl | rfl
  · exact (Sh.fr g).mono (by decide)
  · exact Sh.rowsT h
theorem fNe_nilR {S : Ss} {rs : Rows} (h : SOk (rnames rs)) : fNe S (.d (.lst (rs.map eRow))) (.d (.lst [])) = some (.d (.bl (!rs.isEmpty))) := by
  rw [fNe_sh (Sh.rowsL h) (Sh.lst (n := 0) (ds := []) (by simp))]
  cases rs <;> rfl
theorem fNe_fr {S : Ss} {p q : Rat} : fNe S (.d (fr p)) (.d (fr q)) = some (.d (.bl (decide (p ≠ q)))) := by
  rw [fNe_sh (Sh.fr p) (Sh.fr q), eqv_fr]
  by_cases h : p = q <;> simp [h]
/-- the rows of those who move, not at the front -/
def away (rs : Rows) (mv : List Str) : Rows := rs.filter fun r => decide (r.1 ∈ mv) && decide (r.2 ≠ 0)
def rest (rs : Rows) (mv : List Str) : Rows := rs.filter fun r => !decide (r.1 ∈ mv)
def stepD (w : W) (g : Rat) (rs : Rows) (s : Stp) : Option Rows :=
  if ((lotB w (rnames rs) s).isNone || decide ((rcOf w s.n : Rat) < g)) = true then none
  else if s.off then (if (away rs s.mv).isEmpty then some (rest rs s.mv) else none)
  else some (sortR (rs ++ zr s.mv))
def stD (g : Rat) : Option Rows → Dt
  | none => .non
  | some r => eSt g r
theorem isN_oD {S : Ss} (o : Option (List Str)) : fIsN S (.d (oD o)) (.d .non) = some (.d (.bl o.isNone)) := by cases o <;> rfl
theorem fr_lt (S : Ss) {w : W} (hw : w.Ok) (n : Str) {g : Rat} (hg : B 4000 g) : f_is_lesser [.d (fr (rcOf w n : Rat)), .d (fr g)] S = some (.d (.bl (decide ((rcOf w n : Rat) < g))), S) :=
  sp_is_lesser S ((nat_B (n := 5) (by have := rcOf_le hw n; simp; omega) (by decide)).mono (by decide)) hg
theorem away_sok {rs : Rows} {mv : List Str} (h : SOk (rnames rs)) : SOk (rnames (away rs mv)) := fun x hx => by
  obtain ⟨r, hr, rfl⟩ := List.mem_map.mp hx
  exact h _ (List.mem_map.mpr ⟨r, (List.mem_filter.mp hr).1, rfl⟩)
theorem zr_names (mv : List Str) : rnames (zr mv) = mv := zero_names mv
theorem rn_app (a b : Rows) : rnames (a ++ b) = rnames a ++ rnames b := List.map_append
theorem on_nd {w : W} {rs : Rows} {s : Stp} (hn : (rnames rs).Nodup) (hm : s.mv.Nodup) (ho : s.off = false) (hb : (lotB w (rnames rs) s).isNone = false) : (rnames (rs ++ zr s.mv)).Nodup := by
  rw [rn_app, zr_names, List.nodup_append]
  refine ⟨hn, hm, fun a ha b hb2 e => ?_⟩
  subst e
  unfold lotB at hb
  split at hb
  · rename_i hh
    rw [ho] at hh
    have hmem : a ∈ s.mv.filter fun x => decide (x ∈ rnames rs) != false := List.mem_filter.mpr ⟨hb2, by simp [ha]⟩
    rw [List.isEmpty_iff] at hh
    rw [hh] at hmem
    exact absurd hmem (by simp)
  · cases hb
theorem fTup_rows {S : Ss} (rs : Rows) : fTup true S [.d (.lst (rs.map eRow))] = some (.d (rowsD rs)) := tup_rows rs S
theorem sp_stepped (S : Ss) {w : W} {s : Stp} {g : Rat} {d : Dt} {rs : Rows} (hw : Made w) (h : TOk w s) (hg : B 4000 g) (hd : SD d rs) (hk : SOk (rnames rs)) (hn : (rnames rs).Nodup) (hl : rs.length ≤ 900) : f_stepped [.d (eW w), .d (.tup [fr g, d]), .d (eStp s)] S = some (.d (stD g (stepD w g rs s)), S) := by
  have hm := h.mv_ok hw
  have hnl : (rnames rs).length ≤ 900 := by simpa [rnames] using hl
  have e1 := sp_lot_behind S (lot := rnames rs) hw h hk hnl
  have e2 := fr_lt S hw.ok s.n hg
  have g0 : fIx S (.d (.tup [fr g, d])) (.d (.int 0)) = some (.d (fr g)) := rfl
  have g1 : fIx S (.d (.tup [fr g, d])) (.d (.int 1)) = some (.d d) := rfl
  have et : qqOr (cTst (cBin fIsN (cCall f_lot_behind (cCons (cVar 0) (cCons (cVar 3) (cCons (cVar 2) cNil)))) (cK .non))) (cTst (cCall f_is_lesser (cCons (cCall f_reach_of (cCons (cVar 0) (cCons (cVar 2) cNil))) (cCons (cBin fIx (cVar 1) (cK (.int 0))) cNil))))
      [some (.d (eW w)), some (.d (.tup [fr g, d])), some (.d (eStp s)), some (.d (names (rnames rs))), some (.d (.lst (s.mv.map .str))), none, none] S = some (((lotB w (rnames rs) s).isNone || decide ((rcOf w s.n : Rat) < g)), S) :=
    qq_orB (e_tst (e_bin (e_call (e_cons (e_var rfl) (e_cons (e_var rfl) (e_cons (e_var rfl) e_nil))) e1) (e_K _) (isN_oD _))) fun _ => e_tst (e_call (e_cons (e_call (e_cons (e_var rfl) (e_cons (e_var rfl) e_nil)) (sp_reach_of S hw h)) (e_cons (e_bin (e_var rfl) (e_K _) g0) e_nil)) e2)
  have eon : cTst (cBin fEq (cBin fIx (cVar 2) (cK (.int 0))) (cK (.str sOn))) [some (.d (eW w)), some (.d (.tup [fr g, d])), some (.d (eStp s)), some (.d (names (rnames rs))), some (.d (.lst (s.mv.map .str))), none, none] S = some (!s.off, S) := e_tst (e_bin (e_bin (e_var rfl) (e_K _) stp_zero) (e_K _) (is_on s))
  have hc1 := compN_map (vs := [5]) (g := gNm 5) (c := cTup (cCons (cVar 5) (cCons (cK (.tup [.int 0, .int 1])) cNil))) (en := [some (.d (eW w)), some (.d (.tup [fr g, d])), some (.d (eStp s)), some (.d (names (rnames rs))), some (.d (.lst (s.mv.map .str))), none, none]) (S := S) Dt.str (fun n => eRow (n, (0 : Rat))) s.mv (fun n _ => ⟨_, rfl, rfl⟩)
  have hz : s.mv.map (fun n => eRow (n, (0 : Rat))) = (zr s.mv).map eRow := by simp [zr, Function.comp_def]
  rw [hz] at hc1
  have hc2 := compN_filter (vs := [6]) (g := gNm 6) (t := qqAnd (cTst (cBin fIn (cBin fIx (cVar 6) (cK (.int 0))) (cVar 4))) (cTst (cBin fNe (cBin fIx (cVar 6) (cK (.int 1))) (cK (.tup [.int 0, .int 1]))))) (c := cVar 6) (en := [some (.d (eW w)), some (.d (.tup [fr g, d])), some (.d (eStp s)), some (.d (names (rnames rs))), some (.d (.lst (s.mv.map .str))), none, none]) (S := S) eRow eRow (fun r => decide (r.1 ∈ s.mv) && decide (r.2 ≠ 0)) rs (fun r hr =>
    ⟨[some (.d (eW w)), some (.d (.tup [fr g, d])), some (.d (eStp s)), some (.d (names (rnames rs))), some (.d (.lst (s.mv.map .str))), none, some (.d (eRow r))], rfl,
      qq_andB (e_tst (e_bin (e_bin (e_var rfl) (e_K _) (show fIx S _ _ = some (.d (.str r.1)) from rfl)) (e_var rfl) (fIn_lst (hk _ (List.mem_map.mpr ⟨r, hr, rfl⟩)) hm))) fun _ => e_tst (e_bin (e_bin (e_var rfl) (e_K _) (show fIx S _ _ = some (.d (fr r.2)) from rfl)) (e_K _) (fNe_fr (q := 0))), fun _ => e_var rfl⟩)
  have hc3 := compN_filter (vs := [6]) (g := gNm 6) (t := cTst (cBin fNotIn (cBin fIx (cVar 6) (cK (.int 0))) (cVar 4))) (c := cVar 6) (en := [some (.d (eW w)), some (.d (.tup [fr g, d])), some (.d (eStp s)), some (.d (names (rnames rs))), some (.d (.lst (s.mv.map .str))), none, none]) (S := S) eRow eRow (fun r => !decide (r.1 ∈ s.mv)) rs (fun r hr =>
    ⟨[some (.d (eW w)), some (.d (.tup [fr g, d])), some (.d (eStp s)), some (.d (names (rnames rs))), some (.d (.lst (s.mv.map .str))), none, some (.d (eRow r))], rfl,
      e_tst (e_bin (e_bin (e_var rfl) (e_K _) (show fIx S _ _ = some (.d (.str r.1)) from rfl)) (e_var rfl) (fNotIn_lst (hk _ (List.mem_map.mpr ⟨r, hr, rfl⟩)) hm)), fun _ => e_var rfl⟩)
  refine run_ret (en := [some (.d (eW w)), some (.d (.tup [fr g, d])), some (.d (eStp s)), some (.d (names (rnames rs))), some (.d (.lst (s.mv.map .str))), none, none]) (S' := S) ?_ (List.take_length)
  show sCons _ _ _ S = _
  refine e_seqR (en1 := [some (.d (eW w)), some (.d (.tup [fr g, d])), some (.d (eStp s)), some (.d (names (rnames rs))), some (.d (.lst (s.mv.map .str))), none, none]) (S1 := S) ?_ ?_
  · unfold sAsg
    rw [e_tup (e_cons (e_call (e_cons (e_var rfl) e_nil) (sp_aboard' S hd)) (e_cons (e_call (e_cons (e_var rfl) e_nil) (sp_movers S hw h)) e_nil)) rfl (by simp)]
    rfl
  · unfold stepD
    cases hb : ((lotB w (rnames rs) s).isNone || decide ((rcOf w s.n : Rat) < g)) with
    | true =>
      rw [hb] at et
      exact e_retC ((e_ifT et).trans (e_rets (e_K _)))
    | false =>
      rw [hb] at et
      have hbn : (lotB w (rnames rs) s).isNone = false := by
        cases hx : (lotB w (rnames rs) s).isNone with
        | false => rfl
        | true => rw [hx] at hb; cases hb
      refine e_seqR ((e_ifF et).trans e_snil) ?_
      cases ho : s.off with
      | false =>
        rw [ho] at eon
        obtain ⟨d', a1, a2⟩ := add_rows (S := S) (z := zr s.mv) hd (by have := mv_len s; simp [zr]; omega)
        have hnd := on_nd hn (h.mv_nd hw) ho hbn
        exact e_retC ((e_ifT eon).trans (e_rets (e_tup (e_cons (e_bin (e_var rfl) (e_K _) g0) (e_cons (e_app (e_cons (e_app (e_cons (e_bin (e_bin (e_var rfl) (e_K _) g1) (e_app (e_cons (e_comp (e_iter (e_var rfl) rfl) hc1) e_nil) (fTup_rows _)) a1) e_nil) (fSortR_rows a2 hnd)) e_nil) (fTup_rows _)) e_nil)) rfl (by simp))))
      | true =>
        rw [ho] at eon
        refine e_seqR ((e_ifF eon).trans e_snil) ?_
        have et2 := e_tst (e_bin (e_comp (e_iter (e_bin (e_var (i := 1) rfl) (e_K (.int 1)) g1) hd.items) hc2) (show cLst cNil _ S = some (.d (.lst []), S) from rfl) (fNe_nilR (away_sok (mv := s.mv) hk)))
        change _ = some (!(away rs s.mv).isEmpty, S) at et2
        cases ha : (away rs s.mv).isEmpty with
        | false =>
          rw [ha] at et2
          exact e_retC ((e_ifT et2).trans (e_rets (e_K _)))
        | true =>
          rw [ha] at et2
          exact e_seqR ((e_ifF et2).trans e_snil) (e_rets (e_tup (e_cons (e_bin (e_var rfl) (e_K _) g0) (e_cons (e_app (e_cons (e_comp (e_iter (e_bin (e_var rfl) (e_K _) g1) hd.items) hc3) e_nil) (fTup_rows _)) e_nil)) rfl (by simp)))
end OA
namespace OA
open PySem PySem.Spec PyProof.Rows L2
/-! ### all steps, as the law tells them -/
def oneSteps (w : W) (off : Bool) (o : One) : List Stp := ⟨off, o.nm, sNo⟩ :: ((w.loads.filter fun l => decide (l.2 ≤ o.ar)).map fun l => ⟨off, o.nm, l.1⟩)
def stepsL (w : W) : List Stp := w.folk.flatMap (oneSteps w true) ++ w.folk.flatMap (oneSteps w false)
theorem stepsL_ok {w : W} {s : Stp} (h : s ∈ stepsL w) : TOk w s := by
  have key : ∀ off, s ∈ w.folk.flatMap (oneSteps w off) → TOk w s := fun off h => by
    obtain ⟨o, ho, h2⟩ := List.mem_flatMap.mp h
    have hn : o.nm ∈ folk w := List.mem_map.mpr ⟨o, ho, rfl⟩
    rcases List.mem_cons.mp h2 with rfl | h2
    · exact ⟨hn, .inl rfl⟩
    · obtain ⟨l, hl, rfl⟩ := List.mem_map.mp h2
      exact ⟨hn, .inr (List.mem_map.mpr ⟨l, (List.mem_filter.mp hl).1, rfl⟩)⟩
  rcases List.mem_append.mp h with h | h
  · exact key _ h
  · exact key _ h
theorem e_appendS {S : Ss} {en : En} {co c : Cd} {ds : List Dt} {x : Dt} (h1 : co en (S ++ [.lst ds]) = some (.c S.length, S ++ [.lst ds])) (h2 : c en (S ++ [.lst ds]) = some (.d x, S ++ [.lst ds])) (hl : ds.length < 1000) :
    cAppend co c en (S ++ [.lst ds]) = some (.d .non, S ++ [.lst (ds ++ [x])]) := by
  unfold cAppend
  simp [h1, h2, hl]
abbrev wayS (off : Bool) : Dt := .str (if off then sOff else sOn)
theorem ls_loads (S : Ss) (w : W) (off : Bool) (o : One) : ∀ (ls : List (Str × Nat)) (done : List Stp) (x y : Option R), done.length + ls.length ≤ 900 → ∃ x' y',
    forN (gTp (gCons' (gNm 7) (gCons' (gNm 8) gNil'))) (sCons (sIf (cTst (cBin fLe (cVar 8) (cVar 6))) (sCons (sExpr (cAppend (cVar 1) (cTup (cCons (cVar 2) (cCons (cVar 3) (cCons (cVar 7) cNil)))))) sNil) sNil) sNil) (ls.map eLoad)
      [some (.d (eW w)), some (.c S.length), some (.d (wayS off)), some (.d (.str o.nm)), some (.d (.int (o.hv : Int))), some (.d (.int (o.rc : Int))), some (.d (.int (o.ar : Int))), x, y] (S ++ [.lst (done.map eStp)])
      = some (.nx, [some (.d (eW w)), some (.c S.length), some (.d (wayS off)), some (.d (.str o.nm)), some (.d (.int (o.hv : Int))), some (.d (.int (o.rc : Int))), some (.d (.int (o.ar : Int))), x', y'], S ++ [.lst ((done ++ (ls.filter fun l : Str × Nat => decide (l.2 ≤ o.ar)).map fun l : Str × Nat => Stp.mk off o.nm l.1).map eStp)])
  | [], done, x, y, _ => ⟨x, y, by simp [forN]⟩
  | l :: ls, done, x, y, hl => by
    rw [List.length_cons] at hl
    have et : cTst (cBin fLe (cVar 8) (cVar 6)) [some (.d (eW w)), some (.c S.length), some (.d (wayS off)), some (.d (.str o.nm)), some (.d (.int (o.hv : Int))), some (.d (.int (o.rc : Int))), some (.d (.int (o.ar : Int))), some (.d (.str l.1)), some (.d (.int (l.2 : Int)))] (S ++ [.lst (done.map eStp)]) = some (decide ((l.2 : Int) ≤ (o.ar : Int)), S ++ [.lst (done.map eStp)]) := e_tst (e_bin (e_var rfl) (e_var rfl) fLe_int)
    by_cases h : l.2 ≤ o.ar
    · have h' : (l.2 : Int) ≤ (o.ar : Int) := by omega
      rw [decide_eq_true h'] at et
      have ea := e_appendS (S := S) (en := [some (.d (eW w)), some (.c S.length), some (.d (wayS off)), some (.d (.str o.nm)), some (.d (.int (o.hv : Int))), some (.d (.int (o.rc : Int))), some (.d (.int (o.ar : Int))), some (.d (.str l.1)), some (.d (.int (l.2 : Int)))]) (ds := done.map eStp) (co := cVar 1) (c := cTup (cCons (cVar 2) (cCons (cVar 3) (cCons (cVar 7) cNil)))) (x := eStp ⟨off, o.nm, l.1⟩) (e_var rfl) (e_tup (e_cons (e_var rfl) (e_cons (e_var rfl) (e_cons (e_var rfl) e_nil))) rfl (by simp)) (by simp; omega)
      obtain ⟨x', y', e⟩ := ls_loads S w off o ls (done ++ [⟨off, o.nm, l.1⟩]) (some (.d (.str l.1))) (some (.d (.int (l.2 : Int)))) (by simp; omega)
      refine ⟨x', y', ?_⟩
      have e2 : (l :: ls).filter (fun l => decide (l.2 ≤ o.ar)) = l :: ls.filter (fun l => decide (l.2 ≤ o.ar)) := by simp [h]
      rw [e2, List.map_cons, List.map_cons]
      rw [List.append_assoc, List.singleton_append] at e
      rw [← e]
      refine e_for1 rfl ?_
      refine e_seqR ((e_ifT et).trans (e_seqR (e_expr ea) e_snil)) ?_
      simp
    · have h' : ¬ (l.2 : Int) ≤ (o.ar : Int) := by omega
      rw [decide_eq_false h'] at et
      obtain ⟨x', y', e⟩ := ls_loads S w off o ls done (some (.d (.str l.1))) (some (.d (.int (l.2 : Int)))) (by omega)
      refine ⟨x', y', ?_⟩
      have e2 : (l :: ls).filter (fun l => decide (l.2 ≤ o.ar)) = ls.filter (fun l => decide (l.2 ≤ o.ar)) := by simp [h]
      rw [e2, List.map_cons, ← e]
      refine e_for1 rfl ?_
      exact e_seqR ((e_ifF et).trans e_snil) e_snil
def c_ls : CdS := (sCons (sExpr (cAppend (cVar 1) (cTup (cCons (cVar 2) (cCons (cVar 3) (cCons (cK (.str (Str.ofString ""))) cNil)))))) (sCons (sFor (cIter (cBin fIx (cVar 0) (cK (.int 2)))) (gTp (gCons' (gNm 7) (gCons' (gNm 8) gNil'))) (sCons (sIf (cTst (cBin fLe (cVar 8) (cVar 6))) (sCons (sExpr (cAppend (cVar 1) (cTup (cCons (cVar 2) (cCons (cVar 3) (cCons (cVar 7) cNil)))))) sNil) sNil) sNil)) sNil))
theorem ls_folk (S : Ss) (w : W) (h2 : w.loads.length ≤ 2) (off : Bool) : ∀ (os : List One) (done : List Stp) (a b c d x y : Option R), done.length + 3 * os.length ≤ 800 → ∃ a' b' c' d' x' y',
    forN (gTp (gCons' (gNm 3) (gCons' (gNm 4) (gCons' (gNm 5) (gCons' (gNm 6) gNil'))))) c_ls (os.map eOne) [some (.d (eW w)), some (.c S.length), some (.d (wayS off)), a, b, c, d, x, y] (S ++ [.lst (done.map eStp)])
      = some (.nx, [some (.d (eW w)), some (.c S.length), some (.d (wayS off)), a', b', c', d', x', y'], S ++ [.lst ((done ++ os.flatMap (oneSteps w off)).map eStp)])
  | [], done, a, b, c, d, x, y, _ => ⟨a, b, c, d, x, y, by simp [forN]⟩
  | o :: os, done, a, b, c, d, x, y, hl => by
    rw [List.length_cons] at hl
    have hf := List.length_filter_le (fun l : Str × Nat => decide (l.2 ≤ o.ar)) w.loads
    have ea := e_appendS (S := S) (en := [some (.d (eW w)), some (.c S.length), some (.d (wayS off)), some (.d (.str o.nm)), some (.d (.int (o.hv : Int))), some (.d (.int (o.rc : Int))), some (.d (.int (o.ar : Int))), x, y]) (ds := done.map eStp) (co := cVar 1) (c := cTup (cCons (cVar 2) (cCons (cVar 3) (cCons (cK (.str (Str.ofString ""))) cNil)))) (x := eStp ⟨off, o.nm, sNo⟩) (e_var rfl) (e_tup (e_cons (e_var rfl) (e_cons (e_var rfl) (e_cons (e_K _) e_nil))) rfl (by simp)) (by simp; omega)
    obtain ⟨x1, y1, e1⟩ := ls_loads S w off o w.loads (done ++ [⟨off, o.nm, sNo⟩]) x y (by simp; omega)
    obtain ⟨a', b', c', d', x', y', e2⟩ := ls_folk S w h2 off os (done ++ oneSteps w off o) (some (.d (.str o.nm))) (some (.d (.int (o.hv : Int)))) (some (.d (.int (o.rc : Int)))) (some (.d (.int (o.ar : Int)))) x1 y1 (by simp [oneSteps]; omega)
    refine ⟨a', b', c', d', x', y', ?_⟩
    rw [List.append_assoc] at e1 e2
    rw [List.flatMap_cons, List.map_cons, ← e2]
    refine e_for1 rfl ?_
    unfold c_ls
    refine e_seqR (e_expr ea) ?_
    have ea' : done.map eStp ++ [eStp ⟨off, o.nm, sNo⟩] = (done ++ [Stp.mk off o.nm sNo]).map eStp := by simp
    rw [ea']
    refine e_seqR (Eq.trans (e_sfor (e_iter (e_bin (e_var rfl) (e_K _) (w_two w _)) rfl)) e1) ?_
    simp [oneSteps]
theorem sp_l_steps (S : Ss) {w : W} (hw : w.Ok) : f_l_steps [.d (eW w)] S = some (.d (.lst ((stepsL w).map eStp)), S) := by
  have hf := hw.nf
  obtain ⟨a1, b1, c1, d1, x1, y1, e1⟩ := ls_folk S w hw.nl true w.folk [] none none none none none none (by simp; omega)
  obtain ⟨a2, b2, c2, d2, x2, y2, e2⟩ := ls_folk S w hw.nl false w.folk (w.folk.flatMap (oneSteps w true)) a1 b1 c1 d1 x1 y1 (by
    have : (w.folk.flatMap (oneSteps w true)).length ≤ 3 * w.folk.length := by
      induction w.folk with
      | nil => simp
      | cons o os ih =>
        rw [List.flatMap_cons, List.length_append, List.length_cons]
        have := List.length_filter_le (fun l : Str × Nat => decide (l.2 ≤ o.ar)) w.loads
        have := hw.nl
        simp [oneSteps] at *
        omega
    omega)
  have ef : ∀ off a b c d x y T U, forN (gTp (gCons' (gNm 3) (gCons' (gNm 4) (gCons' (gNm 5) (gCons' (gNm 6) gNil'))))) c_ls (w.folk.map eOne) [some (.d (eW w)), some (.c S.length), some (.d (wayS off)), a, b, c, d, x, y] T = U →
      sCons (sFor (cIter (cBin fIx (cVar 0) (cK (.int 1)))) (gTp (gCons' (gNm 3) (gCons' (gNm 4) (gCons' (gNm 5) (gCons' (gNm 6) gNil'))))) c_ls) sNil [some (.d (eW w)), some (.c S.length), some (.d (wayS off)), a, b, c, d, x, y] T = U.bind fun p => match p.1 with | .nx => sNil p.2.1 p.2.2 | _ => some p := by
    intro off a b c d x y T U h
    unfold sCons
    rw [e_sfor (e_iter (e_bin (e_var rfl) (e_K _) (w_one w _)) rfl), h] <;> rfl
  have l1 := ef true none none none none none none _ _ e1
  have l2 := ef false a1 b1 c1 d1 x1 y1 _ _ e2
  unfold f_l_steps runF
  show (sCons _ _ _ S).bind _ = _
  rw [e_seqR (e_set (show cNewL cNil _ S = some (.c S.length, S ++ [.lst []]) from rfl)) (z := some (.ret (.d (.lst ((stepsL w).map eStp))), [some (.d (eW w)), some (.c S.length), some (.d (wayS false)), a2, b2, c2, d2, x2, y2], S ++ [.gone])) ?_]
  · simp [finish]
  · refine e_seqR (Eq.trans (e_sfor (e_iter (show cLst _ _ _ = some (.d (.lst [wayS true, wayS false]), _) from rfl) rfl)) (Eq.trans (e_for1 rfl l1) (Eq.trans (e_for1 rfl l2) e_for0))) ?_
    refine e_rets ?_
    unfold cFrz
    rw [e_var rfl]
    simp [SO.val, stepsL]
end OA
namespace OA
open PySem PySem.Spec PyProof.Rows L2
/-! ### what codes do, from behind -/
theorem conj_T {P Q : Prop} (h1 : P) : (true = true → P) ∧ (true = false → Q) := ⟨fun _ => h1, (fun h => Bool.noConfusion h)⟩
theorem conj_F {P Q : Prop} (h1 : Q) : (false = true → P) ∧ (false = false → Q) := ⟨(fun h => Bool.noConfusion h), fun _ => h1⟩
theorem conj_T' {P Q : Prop} (h1 : Q) : (true = false → P) ∧ (true = true → Q) := ⟨(fun h => Bool.noConfusion h), fun _ => h1⟩
theorem conj_F' {P Q : Prop} (h1 : P) : (false = false → P) ∧ (false = true → Q) := ⟨fun _ => h1, (fun h => Bool.noConfusion h)⟩
theorem conj_nF {P Q : Prop} (h1 : P) : ((!false) = true → P) ∧ ((!false) = false → Q) := conj_T h1
theorem conj_nT {P Q : Prop} (h1 : Q) : ((!true) = true → P) ∧ ((!true) = false → Q) := conj_F h1
theorem conj_nF' {P Q : Prop} (h1 : Q) : ((!false) = false → P) ∧ ((!false) = true → Q) := conj_T' h1
theorem conj_nT' {P Q : Prop} (h1 : P) : ((!true) = false → P) ∧ ((!true) = true → Q) := conj_F' h1
theorem dats_cs {x : Dt} {rs : List R} {ds : List Dt} (h : dats rs = some ds) : dats (.d x :: rs) = some (x :: ds) := by rw [dats_cons, h]; rfl
theorem conj_tf {b : Bool} {P Q : Prop} (h1 : b = true → P) (h2 : b = false → Q) : (b = true → P) ∧ (b = false → Q) := ⟨h1, h2⟩
theorem conj_ft {b : Bool} {P Q : Prop} (h1 : b = false → P) (h2 : b = true → Q) : (b = false → P) ∧ (b = true → Q) := ⟨h1, h2⟩
def WE (c : Cd) (en : En) (S : Ss) (Q : R → Ss → Prop) : Prop := ∃ r S', c en S = some (r, S') ∧ Q r S'
def WL (c : CdL) (en : En) (S : Ss) (Q : List R → Ss → Prop) : Prop := ∃ r S', c en S = some (r, S') ∧ Q r S'
def WT (c : CdB) (en : En) (S : Ss) (Q : Bool → Ss → Prop) : Prop := ∃ r S', c en S = some (r, S') ∧ Q r S'
def WI (c : CdI) (en : En) (S : Ss) (Q : List Dt → Ss → Prop) : Prop := ∃ r S', c en S = some (r, S') ∧ Q r S'
def WO (c : CdO) (en : En) (S : Ss) (Q : Option Int → Ss → Prop) : Prop := ∃ r S', c en S = some (r, S') ∧ Q r S'
def WS (c : CdS) (en : En) (S : Ss) (Q : Fl → En → Ss → Prop) : Prop := ∃ fl en' S', c en S = some (fl, en', S') ∧ Q fl en' S'
def WF (f : Fn) (rs : List R) (S : Ss) (Q : R → Ss → Prop) : Prop := ∃ r S', f rs S = some (r, S') ∧ Q r S'
section
variable {en : En} {S : Ss} {c ca cb cc co : Cd} {cl : CdL} {t ta tb : CdB} {c1 c2 : CdS} {ci : CdI} {Q : R → Ss → Prop} {QS : Fl → En → Ss → Prop} {QT : Bool → Ss → Prop} {QL : List R → Ss → Prop} {QI : List Dt → Ss → Prop}
theorem we_of {r T} (h : c en S = some (r, T)) (q : Q r T) : WE c en S Q := ⟨_, _, h, q⟩
theorem wf_of {f : Fn} {rs : List R} {r T} (h : f rs S = some (r, T)) (q : Q r T) : WF f rs S Q := ⟨_, _, h, q⟩
theorem wf_eq {f : Fn} {rs : List R} {x : R} {T : Ss} (h : WF f rs S fun r S' => r = x ∧ S' = T) : f rs S = some (x, T) := by
  obtain ⟨r, S', e, rfl, rfl⟩ := h
  exact e
theorem we_eq {x : R} {T : Ss} (h : WE c en S fun r S' => r = x ∧ S' = T) : c en S = some (x, T) := by
  obtain ⟨r, S', e, rfl, rfl⟩ := h
  exact e
theorem ws_eq {fl : Fl} {en2 : En} {T : Ss} (h : WS c1 en S fun a b d => a = fl ∧ b = en2 ∧ d = T) : c1 en S = some (fl, en2, T) := by
  obtain ⟨r, e, S', h, rfl, rfl, rfl⟩ := h
  exact h
theorem ws_mono {Q' : Fl → En → Ss → Prop} (h : WS c1 en S QS) (k : ∀ a b d, QS a b d → Q' a b d) : WS c1 en S Q' := by
  obtain ⟨r, e, S', h, q⟩ := h
  exact ⟨r, e, S', h, k _ _ _ q⟩
theorem we_K {d : Dt} (q : Q (.d d) S) : WE (cK d) en S Q := ⟨_, _, rfl, q⟩
theorem we_var {i : Nat} {r : R} (h : en[i]? = some (some r)) (q : Q r S) : WE (cVar i) en S Q := ⟨_, _, e_var h, q⟩
theorem we_bin {f : F2} (h : WE ca en S fun a S1 => WE cb en S1 fun b S2 => ∃ z, f S2 a b = some z ∧ Q z S2) : WE (cBin f ca cb) en S Q := by
  obtain ⟨a, S1, e1, b, S2, e2, z, e3, q⟩ := h
  exact ⟨_, _, e_bin e1 e2 e3, q⟩
theorem wl_nil (q : QL [] S) : WL cNil en S QL := ⟨_, _, rfl, q⟩
theorem wl_cons (h : WE c en S fun a S1 => WL cl en S1 fun as S2 => QL (a :: as) S2) : WL (cCons c cl) en S QL := by
  obtain ⟨a, S1, e1, b, S2, e2, q⟩ := h
  exact ⟨_, _, e_cons e1 e2, q⟩
theorem we_tup (h : WL cl en S fun rs S1 => ∃ ds, dats rs = some ds ∧ ds.length ≤ 1000 ∧ Q (.d (.tup ds)) S1) : WE (cTup cl) en S Q := by
  obtain ⟨rs, S1, e1, ds, e2, e3, q⟩ := h
  exact ⟨_, _, e_tup e1 e2 e3, q⟩
theorem we_lst (h : WL cl en S fun rs S1 => ∃ ds, dats rs = some ds ∧ ds.length ≤ 1000 ∧ Q (.d (.lst ds)) S1) : WE (cLst cl) en S Q := by
  obtain ⟨rs, S1, e1, ds, e2, e3, q⟩ := h
  refine ⟨_, _, ?_, q⟩
  unfold cLst; simp [e1, e2, e3]
theorem we_app {f : FL} (h : WL cl en S fun rs S1 => ∃ z, f S1 rs = some z ∧ Q z S1) : WE (cApp f cl) en S Q := by
  obtain ⟨rs, S1, e1, z, e2, q⟩ := h
  exact ⟨_, _, e_app e1 e2, q⟩
theorem we_call {f : Fn} (h : WL cl en S fun rs S1 => WF f rs S1 Q) : WE (cCall f cl) en S Q := by
  obtain ⟨rs, S1, e1, z, S2, e2, q⟩ := h
  exact ⟨_, _, e_call e1 e2, q⟩
theorem we_if (h : WT t en S fun b S1 => (b = true → WE ca en S1 Q) ∧ (b = false → WE cb en S1 Q)) : WE (cIf t ca cb) en S Q := by
  obtain ⟨b, S1, e1, h1, h2⟩ := h
  cases b with
  | true => obtain ⟨r, S2, e2, q⟩ := h1 rfl; exact ⟨r, S2, e_ifxT e1 e2, q⟩
  | false => obtain ⟨r, S2, e2, q⟩ := h2 rfl; exact ⟨r, S2, e_ifxF e1 e2, q⟩
theorem we_not (h : WE c en S fun r S1 => ∃ b, r = .d (.bl b) ∧ Q (.d (.bl !b)) S1) : WE (cNot c) en S Q := by
  obtain ⟨r, S1, e1, b, rfl, q⟩ := h
  exact ⟨_, _, by unfold cNot; simp [e1], q⟩
theorem we_and (h : WE ca en S fun r S1 => ∃ b, r = .d (.bl b) ∧ (b = true → WE cb en S1 Q) ∧ (b = false → Q (.d (.bl false)) S1)) : WE (cAnd ca cb) en S Q := by
  obtain ⟨r, S1, e1, b, rfl, h1, h2⟩ := h
  cases b with
  | true => obtain ⟨r, S2, e2, q⟩ := h1 rfl; exact ⟨r, S2, by unfold cAnd; simp [e1, e2], q⟩
  | false => exact ⟨_, _, by unfold cAnd; simp [e1], h2 rfl⟩
theorem we_or (h : WE ca en S fun r S1 => ∃ b, r = .d (.bl b) ∧ (b = false → WE cb en S1 Q) ∧ (b = true → Q (.d (.bl true)) S1)) : WE (cOr ca cb) en S Q := by
  obtain ⟨r, S1, e1, b, rfl, h1, h2⟩ := h
  cases b with
  | false => obtain ⟨r, S2, e2, q⟩ := h1 rfl; exact ⟨r, S2, by unfold cOr; simp [e1, e2], q⟩
  | true => exact ⟨_, _, by unfold cOr; simp [e1], h2 rfl⟩
theorem we_chain {f f' : F2} (h : WE ca en S fun a S1 => WE cb en S1 fun b S2 => ∃ z, f S2 a b = some z ∧ ∃ k, z = .d (.bl k) ∧ (k = true → WE cc en S2 fun d S3 => ∃ z, f' S3 b d = some z ∧ Q z S3) ∧ (k = false → Q (.d (.bl false)) S2)) : WE (cChain f f' ca cb cc) en S Q := by
  obtain ⟨a, S1, e1, b, S2, e2, z, e3, k, rfl, h1, h2⟩ := h
  cases k with
  | true => obtain ⟨d, S3, e4, z, e5, q⟩ := h1 rfl; exact ⟨z, S3, by unfold cChain; simp [e1, e2, e3, e4, e5], q⟩
  | false => exact ⟨_, _, by unfold cChain; simp [e1, e2, e3], h2 rfl⟩
theorem wi_range1 (h : WE c en S fun r S1 => ∃ n : Nat, r = .d (.int (n : Int)) ∧ n < 1000 ∧ QI ((List.range n).map fun i : Nat => Dt.int (0 + (i : Int))) S1) : WI (cRange1 c) en S QI := by
  obtain ⟨r, S1, e1, n, rfl, hn, q⟩ := h
  refine ⟨_, _, ?_, q⟩
  unfold cRange1
  rw [e1]
  simp only [Option.bind_some]
  rw [if_pos (by omega), Int.toNat_natCast]
theorem wt_tst (h : WE c en S fun r S1 => ∃ b, r = .d (.bl b) ∧ QT b S1) : WT (cTst c) en S QT := by
  obtain ⟨r, S1, e1, b, rfl, q⟩ := h
  exact ⟨_, _, e_tst e1, q⟩
theorem wt_and (h : WT ta en S fun b S1 => (b = true → WT tb en S1 QT) ∧ (b = false → QT false S1)) : WT (qqAnd ta tb) en S QT := by
  obtain ⟨b, S1, e1, h1, h2⟩ := h
  cases b with
  | true => obtain ⟨r, S2, e2, q⟩ := h1 rfl; exact ⟨r, S2, by unfold qqAnd; simp [e1, e2], q⟩
  | false => exact ⟨_, _, by unfold qqAnd; simp [e1], h2 rfl⟩
theorem wt_or (h : WT ta en S fun b S1 => (b = false → WT tb en S1 QT) ∧ (b = true → QT true S1)) : WT (qqOr ta tb) en S QT := by
  obtain ⟨b, S1, e1, h1, h2⟩ := h
  cases b with
  | false => obtain ⟨r, S2, e2, q⟩ := h1 rfl; exact ⟨r, S2, by unfold qqOr; simp [e1, e2], q⟩
  | true => exact ⟨_, _, by unfold qqOr; simp [e1], h2 rfl⟩
theorem wt_not (h : WT ta en S fun b S1 => QT (!b) S1) : WT (qqNot ta) en S QT := by
  obtain ⟨b, S1, e1, q⟩ := h
  exact ⟨_, _, by unfold qqNot; simp [e1], q⟩
theorem wo_no {QO : Option Int → Ss → Prop} (q : QO none S) : WO noPart en S QO := ⟨_, _, rfl, q⟩
theorem wo_part {QO : Option Int → Ss → Prop} (h : WE c en S fun r S1 => ∃ i, r = .d (.int i) ∧ QO (some i) S1) : WO (part c) en S QO := by
  obtain ⟨r, S1, e1, i, rfl, q⟩ := h
  exact ⟨_, _, by unfold part; simp [e1], q⟩
theorem we_sl {lo hi : CdO} (h : WE c en S fun r S1 => WO lo en S1 fun l S2 => WO hi en S2 fun u S3 => ∃ d, get S3 r = some d ∧ ∃ z, slV d l u = some z ∧ Q (.d z) S3) : WE (cSl c lo hi) en S Q := by
  obtain ⟨r, S1, e1, l, S2, e2, u, S3, e3, d, e4, z, e5, q⟩ := h
  exact ⟨_, _, by unfold cSl; simp [e1, e2, e3, e4, e5], q⟩
theorem we_isi {T : String} (h : WE c en S fun r S1 => ∃ x, r = .d x ∧ ∃ t, tyR x = some t ∧ ∃ b, kitB t T = some b ∧ Q (.d (.bl b)) S1) : WE (cIsi T c) en S Q := by
  obtain ⟨r, S1, e1, x, rfl, t, e2, b, e3, q⟩ := h
  exact ⟨_, _, by unfold cIsi; simp [e1, e2, e3], q⟩
theorem we_newL (h : WL cl en S fun rs S1 => ∃ ds, dats rs = some ds ∧ ds.length ≤ 1000 ∧ Q (.c S1.length) (S1 ++ [.lst ds])) : WE (cNewL cl) en S Q := by
  obtain ⟨rs, S1, e1, ds, e2, e3, q⟩ := h
  refine ⟨_, _, ?_, q⟩
  unfold cNewL; simp [e1, e2, e3]
theorem we_newL0b {D X : Ss} {p : Nat × Nat} (q : Q (.c (D.length + 1 + X.length)) (sb D p (X ++ [.lst []]))) : WE (cNewL cNil) en (sb D p X) Q := by
  refine ⟨_, _, ?_, q⟩
  unfold cNewL
  simp [sb_len, sb_push]
theorem we_appendT {S0 : Ss} {ds : List Dt} (h : WE co en (S0 ++ [.lst ds]) fun r S1 => r = .c S0.length ∧ S1 = S0 ++ [.lst ds] ∧ WE c en (S0 ++ [.lst ds]) fun x S2 => ∃ d, x = .d d ∧ S2 = S0 ++ [.lst ds] ∧ ds.length < 1000 ∧ Q (.d .non) (S0 ++ [.lst (ds ++ [d])])) : WE (cAppend co c) en (S0 ++ [.lst ds]) Q := by
  obtain ⟨r, S1, e1, rfl, rfl, x, S2, e2, d, rfl, rfl, e3, q⟩ := h
  exact ⟨_, _, e_appendS e1 e2 e3, q⟩
theorem wi_iter (h : WE c en S fun r S1 => ∃ x, r = .d x ∧ ∃ ds, itemsOf x = some ds ∧ QI ds S1) : WI (cIter c) en S QI := by
  obtain ⟨r, S1, e1, x, rfl, ds, e2, q⟩ := h
  exact ⟨_, _, by unfold cIter; simp [e1, e2], q⟩
/-- a comprehension of what is read without a change -/
theorem we_compF {vs : List Nat} {g : CdG} {α : Type} (enc f : α → Dt) (p : α → Bool) (xs : List α) (h : WI ci en S fun ds S1 => ds = xs.map enc ∧ (∀ x ∈ xs, ∃ en1, g (.d (enc x)) (wipeE en vs) = some en1 ∧ WT t en1 S1 (fun b S2 => b = p x ∧ S2 = S1) ∧ (p x = true → WE c en1 S1 fun r S2 => r = .d (f x) ∧ S2 = S1)) ∧ Q (.d (.lst ((xs.filter p).map f))) S1) :
    WE (cComp vs ci g t c) en S Q := by
  obtain ⟨ds, S1, e1, rfl, h2, q⟩ := h
  refine ⟨_, _, e_compS e1 (compN_filter enc f p xs fun x hx => ?_), q⟩
  obtain ⟨en1, e2, ⟨b, S2, e3, rfl, rfl⟩, h3⟩ := h2 x hx
  exact ⟨en1, e2, e3, fun hp => we_eq (h3 hp)⟩
theorem we_compM {vs : List Nat} {g : CdG} {α : Type} (enc f : α → Dt) (xs : List α) (h : WI ci en S fun ds S1 => ds = xs.map enc ∧ (∀ x ∈ xs, ∃ en1, g (.d (enc x)) (wipeE en vs) = some en1 ∧ WE c en1 S1 fun r S2 => r = .d (f x) ∧ S2 = S1) ∧ Q (.d (.lst (xs.map f))) S1) :
    WE (cComp vs ci g kYes c) en S Q := by
  obtain ⟨ds, S1, e1, rfl, h2, q⟩ := h
  refine ⟨_, _, e_compS e1 (compN_map enc f xs fun x hx => ?_), q⟩
  obtain ⟨en1, e2, h3⟩ := h2 x hx
  exact ⟨en1, e2, we_eq h3⟩
theorem we_compCF {vs : List Nat} {g : CdG} {α : Type} (enc f : α → Dt) (p : α → Bool) (xs : List α) (h : WI ci en S fun ds S1 => ds = xs.map enc ∧ (∀ x ∈ xs, ∃ en1, g (.d (enc x)) (wipeE en vs) = some en1 ∧ WT t en1 S1 (fun b S2 => b = p x ∧ S2 = S1) ∧ (p x = true → WE c en1 S1 fun r S2 => r = .d (f x) ∧ S2 = S1)) ∧ Q (.c S1.length) (S1 ++ [.lst ((xs.filter p).map f)])) :
    WE (cCompC vs ci g t c) en S Q := by
  obtain ⟨ds, S1, e1, rfl, h2, q⟩ := h
  have hc := compN_filter (vs := vs) (g := g) (t := t) (c := c) (en := en) (S := S1) enc f p xs fun x hx => by
    obtain ⟨en1, e2, ⟨b, S2, e3, rfl, rfl⟩, h3⟩ := h2 x hx
    exact ⟨en1, e2, e3, fun hp => we_eq (h3 hp)⟩
  refine ⟨_, _, ?_, q⟩
  unfold cCompC; simp [e1, hc]
/-- behind a statement -/
def seqK (fl : Fl) (c2 : CdS) (en1 : En) (S1 : Ss) (Q : Fl → En → Ss → Prop) : Prop := match fl with
  | .nx => WS c2 en1 S1 Q
  | fl => Q fl en1 S1
theorem ws_nil (q : QS .nx en S) : WS sNil en S QS := ⟨_, _, _, rfl, q⟩
theorem ws_seq (h : WS c1 en S fun fl en1 S1 => seqK fl c2 en1 S1 QS) : WS (sCons c1 c2) en S QS := by
  obtain ⟨fl, en1, S1, e1, h⟩ := h
  cases fl with
  | nx => obtain ⟨fl2, en2, S2, e2, q⟩ := h; exact ⟨fl2, en2, S2, e_seqR e1 e2, q⟩
  | ct => exact ⟨_, _, _, by unfold sCons; simp [e1], h⟩
  | bk => exact ⟨_, _, _, by unfold sCons; simp [e1], h⟩
  | ret r => exact ⟨_, _, _, by unfold sCons; simp [e1], h⟩
theorem seqK_nx (h : WS c2 en S QS) : seqK .nx c2 en S QS := h
theorem seqK_ret {r : R} (h : QS (.ret r) en S) : seqK (.ret r) c2 en S QS := h
theorem ws_set {i : Nat} (h : WE c en S fun r S1 => QS .nx (en.set i (some r)) S1) : WS (sSet i c) en S QS := by
  obtain ⟨r, S1, e1, q⟩ := h
  exact ⟨_, _, _, e_set e1, q⟩
theorem ws_expr (h : WE c en S fun _ S1 => QS .nx en S1) : WS (sExpr c) en S QS := by
  obtain ⟨r, S1, e1, q⟩ := h
  exact ⟨_, _, _, e_expr e1, q⟩
theorem ws_ret (h : WE c en S fun r S1 => QS (.ret r) en S1) : WS (sRet c) en S QS := by
  obtain ⟨r, S1, e1, q⟩ := h
  exact ⟨_, _, _, e_ret e1, q⟩
theorem ws_par {i j : Nat} (h : WE ca en S fun a S1 => WE cb en S1 fun b S2 => QS .nx ((en.set i (some a)).set j (some b)) S2) : WS (sPar i j ca cb) en S QS := by
  obtain ⟨a, S1, e1, b, S2, e2, q⟩ := h
  exact ⟨_, _, _, by unfold sPar; simp [e1, e2], q⟩
theorem ws_asg {g : CdG} (h : WE c en S fun r S1 => ∃ en1, g r en = some en1 ∧ QS .nx en1 S1) : WS (sAsg g c) en S QS := by
  obtain ⟨r, S1, e1, en1, e2, q⟩ := h
  exact ⟨_, _, _, by unfold sAsg; simp [e1, e2], q⟩
theorem ws_if (h : WT t en S fun b S1 => (b = true → WS c1 en S1 QS) ∧ (b = false → WS c2 en S1 QS)) : WS (sIf t c1 c2) en S QS := by
  obtain ⟨b, S1, e1, h1, h2⟩ := h
  cases b with
  | true => obtain ⟨r, en2, S2, e2, q⟩ := h1 rfl; exact ⟨r, en2, S2, (e_ifT e1).trans e2, q⟩
  | false => obtain ⟨r, en2, S2, e2, q⟩ := h2 rfl; exact ⟨r, en2, S2, (e_ifF e1).trans e2, q⟩
theorem we_frz (h : WE c en S fun r S1 => ∃ k, r = .c k ∧ ∃ ds, S1[k]? = some (.lst ds) ∧ Q (.d (.lst ds)) (S1.set k .gone)) : WE (cFrz c) en S Q := by
  obtain ⟨r, S1, e1, k, rfl, ds, e2, q⟩ := h
  exact ⟨_, _, by unfold cFrz; simp [e1, e2, SO.val], q⟩
/-- a loop, by what holds ahead of each turn -/
def WN (g : CdG) (b : CdS) (ds : List Dt) (en : En) (S : Ss) (Q : Fl → En → Ss → Prop) : Prop := ∃ fl en' S', forN g b ds en S = some (fl, en', S') ∧ Q fl en' S'
theorem ws_for {g : CdG} (h : WI ci en S fun ds S1 => WN g c1 ds en S1 QS) : WS (sFor ci g c1) en S QS := by
  obtain ⟨ds, S1, e1, fl, en2, S2, e2, q⟩ := h
  exact ⟨fl, en2, S2, (e_sfor e1).trans e2, q⟩
theorem wn_nil {g : CdG} (q : QS .nx en S) : WN g c1 [] en S QS := ⟨_, _, _, rfl, q⟩
theorem wn_cons {g : CdG} {d : Dt} {ds : List Dt} {en1 : En} (h : g (.d d) en = some en1) (q : WS c1 en1 S fun fl en2 S2 => match fl with | .nx => WN g c1 ds en2 S2 QS | .ct => WN g c1 ds en2 S2 QS | .bk => QS .nx en2 S2 | .ret r => QS (.ret r) en2 S2) : WN g c1 (d :: ds) en S QS := by
  obtain ⟨fl, en2, S2, e, q⟩ := q
  cases fl with
  | nx => obtain ⟨fl3, en3, S3, e3, q⟩ := q; exact ⟨fl3, en3, S3, by unfold forN; simp [h, e, e3], q⟩
  | ct => obtain ⟨fl3, en3, S3, e3, q⟩ := q; exact ⟨fl3, en3, S3, by unfold forN; simp [h, e, e3], q⟩
  | bk => exact ⟨_, _, _, by unfold forN; simp [h, e], q⟩
  | ret r => exact ⟨_, _, _, by unfold forN; simp [h, e], q⟩
/-- the loop's rule: I says what holds with the items left -/
theorem wn_inv {g : CdG} {α : Type} (enc : α → Dt) (I : List α → En → Ss → Prop) (hQ : ∀ en S, I [] en S → QS .nx en S)
    (hI : ∀ x xs en S, I (x :: xs) en S → ∃ en1, g (.d (enc x)) en = some en1 ∧ WS c1 en1 S fun fl en2 S2 => match fl with | .nx => I xs en2 S2 | .ct => I xs en2 S2 | .bk => QS .nx en2 S2 | .ret r => QS (.ret r) en2 S2) :
    ∀ (xs : List α) (en : En) (S : Ss), I xs en S → WN g c1 (xs.map enc) en S QS
  | [], en, S, h => wn_nil (hQ _ _ h)
  | x :: xs, en, S, h => by
    obtain ⟨en1, e1, w⟩ := hI x xs en S h
    refine wn_cons e1 (ws_mono w fun fl en2 S2 q => ?_)
    cases fl with
    | nx => exact wn_inv enc I hQ hI xs _ _ q
    | ct => exact wn_inv enc I hQ hI xs _ _ q
    | bk => exact q
    | ret r => exact q
/-- a def run -/
theorem wf_run {N : Nat} {rs : List R} (h : WS c1 (rs.map some ++ List.replicate (N - rs.length) none) S fun fl _ S' => ∃ x, fl = .ret (.d x) ∧ Q (.d x) (S'.take S.length)) : WF (runF N false c1) rs S Q := by
  obtain ⟨fl, en2, S2, e, x, rfl, q⟩ := h
  exact ⟨_, _, by unfold runF; simp [e, finish], q⟩
/-- the same, of what changes nothing -/
theorem wf_run0 {N : Nat} {rs : List R} {x : Dt} (h : WS c1 (rs.map some ++ List.replicate (N - rs.length) none) S fun fl _ S' => fl = .ret (.d x) ∧ S' = S) : runF N false c1 rs S = some (.d x, S) := by
  obtain ⟨fl, en2, S2, e, rfl, rfl⟩ := h
  unfold runF; simp [e, finish]
theorem wf_r0 {N : Nat} {rs : List R} {x : Dt} {en0 : En} (he : rs.map some ++ List.replicate (N - rs.length) none = en0) (h : WS c1 en0 S fun fl _ S' => fl = .ret (.d x) ∧ S' = S) : runF N false c1 rs S = some (.d x, S) := wf_run0 (by rw [he]; exact h)
theorem wf_r {N : Nat} {rs : List R} {en0 : En} (he : rs.map some ++ List.replicate (N - rs.length) none = en0) (h : WS c1 en0 S fun fl _ S' => ∃ x, fl = .ret (.d x) ∧ Q (.d x) (S'.take S.length)) : WF (runF N false c1) rs S Q := wf_run (by rw [he]; exact h)
end
theorem sp_times1 (S : Ss) {q : Rat} {a : Nat} (hq : B 4000 q) (ha : a < 2 ^ 4000) : f_times [.d (fr q), .d (.int (a : Int)), .d (.int 1)] S = some (.d (fr (q * (a : Nat))), S) := by
  have e := sp_times S (q := q) (a := (a : Int)) (b := 1) hq (nb ha) (lt4 (n := 1) (by decide) (by decide)) (by decide)
  rw [term_eq] at e
  exact e
theorem sp_over (S : Ss) {q : Rat} {b : Nat} (hq : B 4000 q) (hb : b < 2 ^ 4000) (h0 : 0 < b) : f_times [.d (fr q), .d (.int 1), .d (.int (b : Int))] S = some (.d (fr (q / (b : Nat))), S) := by
  have e := sp_times S (q := q) (a := 1) (b := b) hq (lt4 (n := 1) (by decide) (by decide)) hb h0
  rw [one_by] at e
  exact e
end OA
namespace OA
open PySem PySem.Spec PyProof.Rows L2
/-! ### greater fractions -/
theorem fEq_fr {S : Ss} {p q : Rat} : fEq S (.d (fr p)) (.d (fr q)) = some (.d (.bl (decide (p = q)))) := by
  rw [fEq_sh (Sh.fr p) (Sh.fr q), eqv_fr]
/-! ### unseen weights: the law's equation -/
end OA
namespace OA
open PySem PySem.Spec PyProof.Rows L2
local macro_rules | `(tactic| subst_eqs) => `(tactic| first | refine wf_r0 (by simp only [List.map_cons, List.map_nil, List.length_cons, List.length_nil, List.replicate, List.cons_append, List.nil_append, Nat.reduceAdd, Nat.reduceSub]; rfl) ?_ | refine wf_r (by simp only [List.map_cons, List.map_nil, List.length_cons, List.length_nil, List.replicate, List.cons_append, List.nil_append, Nat.reduceAdd, Nat.reduceSub]; rfl) ?_)
local macro_rules | `(tactic| clean_wf) => `(tactic| try dsimp only [List.set_cons_zero, List.set_cons_succ])
local macro_rules | `(tactic| array_mem_dec) => `(tactic| first | with_reducible assumption | with_reducible exact st_zero | with_reducible exact st_one | with_reducible exact stp_zero | with_reducible exact stp_one | with_reducible exact fr_top | with_reducible exact fr_bot | with_reducible exact fAdd_int | with_reducible exact fSub_int | with_reducible exact fLt_int | with_reducible exact fGt_int | with_reducible exact fLe_int | with_reducible exact fGe_int | with_reducible exact fEq_int | with_reducible exact is_off _ | with_reducible exact is_on _ | with_reducible exact w_zero _ _ | with_reducible exact w_one _ _ | with_reducible exact w_two _ _ | with_reducible exact names_items _ | with_reducible exact rowsD_items _ | with_reducible exact fEq_fr | with_reducible exact fNe_fr | exact rfl)
local macro_rules | `(tactic| array_get_dec) => `(tactic| first | with_reducible apply we_K | ((with_reducible apply we_var); exact rfl) | with_reducible apply we_bin | with_reducible apply we_call | with_reducible apply wl_cons | with_reducible apply wl_nil | with_reducible apply ws_seq | with_reducible apply ws_set | ((with_reducible apply seqK_nx); clean_wf) | with_reducible apply seqK_ret | with_reducible apply ws_ret | with_reducible apply ws_if | with_reducible apply wt_tst | with_reducible apply ws_nil | with_reducible apply we_tup | with_reducible apply we_app | with_reducible apply we_if | with_reducible apply wt_and | with_reducible apply wt_or | with_reducible apply wt_not | with_reducible apply we_and | with_reducible apply we_or | with_reducible apply we_not | with_reducible apply ws_par | with_reducible apply ws_asg | with_reducible apply ws_expr | with_reducible apply ws_for | with_reducible apply we_lst | with_reducible apply wi_iter | with_reducible apply we_sl | with_reducible apply wo_no | with_reducible apply wo_part | with_reducible apply we_newL0b | with_reducible apply we_newL | with_reducible apply we_isi | with_reducible apply we_chain | ((with_reducible apply wf_of); focus (with_reducible assumption)) | with_reducible refine ⟨_, (by repeat (first | with_reducible exact dats_nil | with_reducible apply dats_cs)), by simp, ?_⟩ | with_reducible refine ⟨_, (by with_reducible assumption), ?_⟩ | with_reducible refine ⟨_, rfl, ?_⟩ | with_reducible refine ⟨_, (by array_mem_dec), ?_⟩ | ((with_reducible apply we_of); focus (with_reducible assumption)))
local macro_rules | `(tactic| sizeOf_list_dec) => `(tactic| repeat' (first | array_get_dec | with_reducible apply conj_T | with_reducible apply conj_F | with_reducible apply conj_T' | with_reducible apply conj_F' | with_reducible apply conj_nT | with_reducible apply conj_nF | with_reducible apply conj_nT' | with_reducible apply conj_nF' | (with_reducible apply conj_tf <;> intro _) | (with_reducible apply conj_ft <;> intro _)))
theorem sp_lesser (S : Ss) {p q : Rat} (hp : B 4000 p) (hq : B 4000 q) : f_lesser [.d (fr p), .d (fr q)] S = some (.d (fr (if p < q then p else q)), S) := by
  have e := sp_is_lesser S hp hq
  subst_eqs
  unfold c_lesser
  sizeOf_list_dec <;> simp_all
/-- names on board -/
structure LotOk (w : W) (lot : List Str) : Prop where
  mem : ∀ n ∈ lot, n ∈ w.names
  len : lot.length ≤ 6
  nd : lot.Nodup
theorem LotOk.sok {w : W} {lot : List Str} (h : LotOk w lot) (hw : Made w) : SOk lot := fun x hx => hw.sok x (h.mem x hx)
theorem weight_perm (w : W) {a b : List Str} (h : a.Perm b) : weight w a = weight w b := (h.map (wt w)).sum_nat
theorem weight_le_of (w : W) : ∀ (mv lot : List Str), mv.Nodup → (∀ x ∈ mv, x ∈ lot) → weight w mv ≤ weight w lot
  | [], lot, _, _ => Nat.zero_le _
  | x :: mv, lot, hn, hs => by
    have hx := hs x List.mem_cons_self
    rw [List.nodup_cons] at hn
    have hp := weight_perm w (List.perm_cons_erase hx)
    have ih := weight_le_of w mv (lot.erase x) hn.2 fun y hy => (List.mem_erase_of_ne (fun z : y = x => hn.1 (by rw [← z]; exact hy))).mpr (hs y (List.mem_cons_of_mem _ hy))
    rw [hp]
    show wt w x + weight w mv ≤ wt w x + weight w (lot.erase x)
    omega
theorem lotB_off {w : W} {lot : List Str} {s : Stp} (h : (lotB w lot s).isNone = false) (ho : s.off = true) : ∀ x ∈ s.mv, x ∈ lot := fun x hx => by
  unfold lotB at h
  split at h
  · rename_i he
    rw [List.isEmpty_iff] at he
    by_cases hl : x ∈ lot
    · exact hl
    · have : x ∈ s.mv.filter fun x => decide (x ∈ lot) != s.off := List.mem_filter.mpr ⟨hx, by rw [ho]; simp [hl]⟩
      rw [he] at this
      exact absurd this (by simp)
  · cases h
theorem mv_weight_le {w : W} (hw : w.Ok) (s : Stp) : weight w s.mv ≤ 120 := by
  have := weight_le hw s.mv
  have := mv_len s
  omega
theorem lot_weight_le {w : W} (hw : w.Ok) {lot : List Str} (h : LotOk w lot) : weight w lot ≤ 360 := by
  have := weight_le hw lot
  have := h.len
  omega
/-- the least gap for a step, as the program reckons it -/
def nearP (w : W) (lot : List Str) (F : Rat) (s : Stp) : Rat := if s.off then F - mkRat ((w.lg : Int) * ((weight w lot : Int) - (weight w s.mv : Int))) (whole w lot) else least w lot F
theorem lgw_lt {w : W} (hw : w.Ok) {lot : List Str} (h : LotOk w lot) (s : Stp) : ((w.lg : Int) * ((weight w lot : Int) - (weight w s.mv : Int))).natAbs < 2 ^ 19 := by
  have h1 := mv_weight_le hw s
  have h2 := lot_weight_le hw h
  exact wide_lt (a := 9) (b := 10) (by have := hw.lg; simp; omega) (by simp; omega)
theorem sp_nearest (S : Ss) {w : W} {s : Stp} {lot : List Str} {F : Rat} (hw : Made w) (h : TOk w s) (hl : LotOk w lot) (hF : B 3700 F) :
    f_nearest_for [.d (eW w), .d (names lot), .d (fr F), .d (eStp s)] S = some (.d (fr (nearP w lot F s)), S) := by
  have e1 := sp_least_by S hw.ok (names_items lot) hl.mem hl.len hl.nd hF (by decide)
  have e2 := sp_weight_of S w hw.ok _ lot (names_items lot) hl.mem
  have e3 := sp_movers S hw h
  have e4 := sp_weight_of S w hw.ok (.lst (s.mv.map .str)) s.mv rfl h.mv_names
  have e5 := sp_whole_of S w hw.ok _ lot (names_items lot) hl.mem
  have hwh := whole_le hw.ok hl.len
  have h1 := mv_weight_le hw.ok s
  have h2 := lot_weight_le hw.ok hl
  have e6 := fMul_ok (S := S) (i := (w.lg : Int)) (j := (weight w lot : Int) - (weight w s.mv : Int)) (a := 9) (b := 10) (by have := hw.ok.lg; simp; omega) (by simp; omega) (by decide) (by decide) (by decide)
  have e7 := sp_lowest S ((w.lg : Int) * ((weight w lot : Int) - (weight w s.mv : Int))) (whole w lot) (whole_pos hw.ok lot) (Nat.lt_of_lt_of_le hwh (Nat.pow_le_pow_right (by decide) (by decide)))
  have hB : B 19 (mkRat ((w.lg : Int) * ((weight w lot : Int) - (weight w s.mv : Int))) (whole w lot)) := B_mk (lgw_lt hw.ok hl s) (Nat.lt_of_lt_of_le hwh (Nat.pow_le_pow_right (by decide) (by decide))) (by decide)
  have e8 := sp_less S (hF.mono (m := 4000) (by decide)) (hB.mono (m := 4000) (by decide))
  subst_eqs
  unfold c_nearest_for
  sizeOf_list_dec <;> (unfold nearP; simp_all)
theorem least_B {w : W} (hw : w.Ok) {lot : List Str} (hl : LotOk w lot) {F : Rat} {n : Nat} (hF : B n F) : B (n + 113) (least w lot F) := by
  have := behind_B hw hF (back_ok hw hl.mem hl.len hl.nd) (by decide)
  unfold least atl
  split
  · exact B_zero (by omega)
  · exact this.mono (by omega)
theorem nearP_B {w : W} (hw : w.Ok) {lot : List Str} (hl : LotOk w lot) {F : Rat} {n : Nat} (hF : B n F) (s : Stp) : B (n + 113) (nearP w lot F s) := by
  have hwh := whole_le hw hl.len
  have hB : B 19 (mkRat ((w.lg : Int) * ((weight w lot : Int) - (weight w s.mv : Int))) (whole w lot)) := B_mk (lgw_lt hw hl s) (Nat.lt_of_lt_of_le hwh (Nat.pow_le_pow_right (by decide) (by decide))) (by decide)
  unfold nearP
  split
  · exact (B_sub hF hB).mono (by omega)
  · exact least_B hw hl hF
def minR (p q : Rat) : Rat := if p < q then p else q
/-- the gap at which a step is best -/
def bestG (w : W) (lot : List Str) (F : Rat) (s : Stp) : Option Rat :=
  if ((lotB w lot s).isNone || decide ((rcOf w s.n : Rat) < nearP w lot F s)) = true then none else some (if s.off then minR (rcOf w s.n : Rat) F else nearP w lot F s)
def oF : Option Rat → Dt
  | none => .non
  | some q => fr q
theorem rc_B {w : W} (hw : w.Ok) (n : Str) : B 5 (rcOf w n : Rat) := nat_B (n := 5) (by have := rcOf_le hw n; simp; omega) (by decide)
theorem sp_best_gap (S : Ss) {w : W} {s : Stp} {lot : List Str} {F : Rat} (hw : Made w) (h : TOk w s) (hl : LotOk w lot) (hF : B 3700 F) :
    f_best_gap [.d (eW w), .d (names lot), .d (fr F), .d (eStp s)] S = some (.d (oF (bestG w lot F s)), S) := by
  have e1 := sp_nearest S hw h hl hF
  have e2 := sp_lot_behind S (lot := lot) hw h (hl.sok hw) (by have := hl.len; omega)
  have e3 := sp_reach_of S hw h
  have e4 := sp_is_lesser S ((rc_B hw.ok s.n).mono (m := 4000) (by decide)) ((nearP_B hw.ok hl hF s).mono (m := 4000) (by decide))
  have e5 := sp_lesser S ((rc_B hw.ok s.n).mono (m := 4000) (by decide)) (hF.mono (m := 4000) (by decide))
  have e6 := isN_oD (S := S) (lotB w lot s)
  have eo := is_on (S := S) s
  subst_eqs
  unfold c_best_gap bestG
  cases hb : lotB w lot s with
  | none =>
    simp only [hb, Option.isNone_none, Option.isNone_some] at e2 e6
    sizeOf_list_dec
    exact ⟨rfl, rfl⟩
  | some l =>
    simp only [hb, Option.isNone_none, Option.isNone_some] at e2 e6
    by_cases hlt : (rcOf w s.n : Rat) < nearP w lot F s
    · rw [decide_eq_true hlt] at e4
      rw [decide_eq_true hlt]
      sizeOf_list_dec
      exact ⟨rfl, rfl⟩
    · rw [decide_eq_false hlt] at e4
      rw [decide_eq_false hlt]
      cases ho : s.off with
      | true =>
        simp only [ho, Bool.not_true, Bool.not_false] at eo
        sizeOf_list_dec
        exact ⟨rfl, rfl⟩
      | false =>
        simp only [ho, Bool.not_true, Bool.not_false] at eo
        sizeOf_list_dec
        exact ⟨rfl, rfl⟩
theorem bestG_some {w : W} {lot : List Str} {F : Rat} {s : Stp} {g : Rat} (h : bestG w lot F s = some g) : (lotB w lot s).isNone = false ∧ ¬ (rcOf w s.n : Rat) < nearP w lot F s ∧ g = if s.off then minR (rcOf w s.n : Rat) F else nearP w lot F s := by
  unfold bestG at h
  split at h
  · cases h
  · rename_i hh
    rw [Bool.or_eq_true, not_or] at hh
    refine ⟨Bool.eq_false_iff.mpr hh.1, by simpa using hh.2, by simpa using h.symm⟩
theorem minR_B {n m k : Nat} {p q : Rat} (hp : B n p) (hq : B m q) (h1 : n ≤ k) (h2 : m ≤ k) : B k (minR p q) := by
  unfold minR
  split
  · exact hp.mono h1
  · exact hq.mono h2
theorem bestG_B {w : W} (hw : w.Ok) {lot : List Str} (hl : LotOk w lot) {F : Rat} {n : Nat} (hF : B n F) {s : Stp} {g : Rat} (h : bestG w lot F s = some g) : B (n + 113) g := by
  obtain ⟨_, _, rfl⟩ := bestG_some h
  split
  · exact minR_B (rc_B hw s.n) hF (by omega) (by omega)
  · exact nearP_B hw hl hF s
/-- the least front gap behind a step -/
def bestF (w : W) (lot : List Str) (F : Rat) (s : Stp) : Option Rat :=
  (bestG w lot F s).map fun g => if s.off then (F * (whole w lot : Nat) - g * (weight w s.mv : Nat)) / ((whole w lot - weight w s.mv : Nat) : Rat) else (F * (whole w lot : Nat) + g * (weight w s.mv : Nat)) / ((whole w lot + weight w s.mv : Nat) : Rat)
theorem isN_oF {S : Ss} (o : Option Rat) : fIsN S (.d (oF o)) (.d .non) = some (.d (.bl o.isNone)) := by cases o <;> rfl
theorem notN_oF {S : Ss} (o : Option Rat) : fNotN S (.d (oF o)) (.d .non) = some (.d (.bl o.isSome)) := by cases o <;> rfl
theorem off_whole {w : W} {lot : List Str} {s : Stp} (hw : Made w) (h : TOk w s) (hb : (lotB w lot s).isNone = false) (ho : s.off = true) : weight w s.mv + w.rh ≤ whole w lot := by
  have := weight_le_of w s.mv lot (h.mv_nd hw) (lotB_off hb ho)
  unfold whole
  omega
theorem sp_best_from (S : Ss) {w : W} {s : Stp} {lot : List Str} {F : Rat} (hw : Made w) (h : TOk w s) (hl : LotOk w lot) (hF : B 1900 F) :
    f_best_from [.d (eW w), .d (names lot), .d (fr F), .d (eStp s)] S = some (.d (oF (bestF w lot F s)), S) := by
  have e1 := sp_best_gap S hw h hl (hF.mono (by decide))
  have e2 := isN_oF (S := S) (bestG w lot F s)
  subst_eqs
  unfold c_best_from
  cases hg : bestG w lot F s with
  | none =>
    simp only [hg, oF, Option.isNone_none, Option.isNone_some] at e1 e2
    unfold bestF
    rw [hg]
    sizeOf_list_dec
    exact ⟨rfl, rfl⟩
  | some g =>
    simp only [hg, oF, Option.isNone_none, Option.isNone_some] at e1 e2
    have hgB := bestG_B hw.ok hl hF hg
    obtain ⟨hb, _, _⟩ := bestG_some hg
    have hwh := whole_le hw.ok hl.len
    have hmv := mv_weight_le hw.ok s
    have hwp := whole_pos hw.ok lot
    have e3 := sp_whole_of S w hw.ok _ lot (names_items lot) hl.mem
    have e4 := sp_movers S hw h
    have e5 := sp_weight_of S w hw.ok (.lst (s.mv.map .str)) s.mv rfl h.mv_names
    have e6 := sp_times1 S (q := F) (a := whole w lot) (hF.mono (by decide)) (lt4 hwh (by decide))
    have e7 := sp_times1 S (q := g) (a := weight w s.mv) (hgB.mono (by decide)) (lt4 (n := 8) (by simp; omega) (by decide))
    have b6 : B 1909 (F * (whole w lot : Nat)) := by
      rw [← term_eq, ← by_eq]
      exact B_by (k := 9) hF (nb hwh) (by decide) (by decide) (by decide)
    have b7 : B 2021 (g * (weight w s.mv : Nat)) := by
      rw [← term_eq, ← by_eq]
      exact B_by (k := 8) hgB (by simp; omega) (by decide) (by decide) (by decide)
    cases ho : s.off with
    | false =>
      have e8 := sp_plus S (b6.mono (m := 4000) (by decide)) (b7.mono (m := 4000) (by decide))
      have e9 := sp_over S (b := whole w lot + weight w s.mv) ((B_add b6 b7).mono (m := 4000) (by decide)) (lt4 (n := 10) (by simp at hwh ⊢; omega) (by decide)) (by omega)
      rw [Int.natCast_add] at e9
      have eo := is_on (S := S) s
      simp only [ho, Bool.not_true, Bool.not_false] at eo
      unfold bestF
      rw [hg, ho]
      sizeOf_list_dec
      exact ⟨rfl, rfl⟩
    | true =>
      have hle := off_whole hw h hb ho
      have hrh := hw.ok.rh0
      have e8 := sp_less S (b6.mono (m := 4000) (by decide)) (b7.mono (m := 4000) (by decide))
      have e9 := sp_over S (b := whole w lot - weight w s.mv) ((B_sub b6 b7).mono (m := 4000) (by decide)) (lt4 (n := 10) (by simp at hwh ⊢; omega) (by decide)) (by omega)
      rw [Int.natCast_sub (by omega)] at e9
      have eo := is_on (S := S) s
      simp only [ho, Bool.not_true, Bool.not_false] at eo
      unfold bestF
      rw [hg, ho]
      sizeOf_list_dec
      exact ⟨rfl, rfl⟩
end OA
namespace OA
open PySem PySem.Spec PyProof.Rows L2
local macro_rules | `(tactic| subst_eqs) => `(tactic| first | refine wf_r0 (by simp only [List.map_cons, List.map_nil, List.length_cons, List.length_nil, List.replicate, List.cons_append, List.nil_append, Nat.reduceAdd, Nat.reduceSub]; rfl) ?_ | refine wf_r (by simp only [List.map_cons, List.map_nil, List.length_cons, List.length_nil, List.replicate, List.cons_append, List.nil_append, Nat.reduceAdd, Nat.reduceSub]; rfl) ?_)
local macro_rules | `(tactic| clean_wf) => `(tactic| try dsimp only [List.set_cons_zero, List.set_cons_succ])
local macro_rules | `(tactic| array_mem_dec) => `(tactic| first | with_reducible assumption | with_reducible exact st_zero | with_reducible exact st_one | with_reducible exact stp_zero | with_reducible exact stp_one | with_reducible exact fr_top | with_reducible exact fr_bot | with_reducible exact fAdd_int | with_reducible exact fSub_int | with_reducible exact fLt_int | with_reducible exact fGt_int | with_reducible exact fLe_int | with_reducible exact fGe_int | with_reducible exact fEq_int | with_reducible exact is_off _ | with_reducible exact is_on _ | with_reducible exact w_zero _ _ | with_reducible exact w_one _ _ | with_reducible exact w_two _ _ | with_reducible exact names_items _ | with_reducible exact rowsD_items _ | with_reducible exact fEq_fr | with_reducible exact fNe_fr | exact rfl)
local macro_rules | `(tactic| array_get_dec) => `(tactic| first | with_reducible apply we_K | ((with_reducible apply we_var); exact rfl) | with_reducible apply we_bin | with_reducible apply we_call | with_reducible apply wl_cons | with_reducible apply wl_nil | with_reducible apply ws_seq | with_reducible apply ws_set | ((with_reducible apply seqK_nx); clean_wf) | with_reducible apply seqK_ret | with_reducible apply ws_ret | with_reducible apply ws_if | with_reducible apply wt_tst | with_reducible apply ws_nil | with_reducible apply we_tup | with_reducible apply we_app | with_reducible apply we_if | with_reducible apply wt_and | with_reducible apply wt_or | with_reducible apply wt_not | with_reducible apply we_and | with_reducible apply we_or | with_reducible apply we_not | with_reducible apply ws_par | with_reducible apply ws_asg | with_reducible apply ws_expr | with_reducible apply ws_for | with_reducible apply we_lst | with_reducible apply wi_iter | with_reducible apply we_sl | with_reducible apply wo_no | with_reducible apply wo_part | with_reducible apply we_newL0b | with_reducible apply we_newL | with_reducible apply we_isi | with_reducible apply we_chain | ((with_reducible apply wf_of); focus (with_reducible assumption)) | with_reducible refine ⟨_, (by repeat (first | with_reducible exact dats_nil | with_reducible apply dats_cs)), by simp, ?_⟩ | with_reducible refine ⟨_, (by with_reducible assumption), ?_⟩ | with_reducible refine ⟨_, rfl, ?_⟩ | with_reducible refine ⟨_, (by array_mem_dec), ?_⟩ | ((with_reducible apply we_of); focus (with_reducible assumption)))
local macro_rules | `(tactic| sizeOf_list_dec) => `(tactic| repeat' (first | array_get_dec | with_reducible apply conj_T | with_reducible apply conj_F | with_reducible apply conj_T' | with_reducible apply conj_F' | with_reducible apply conj_nT | with_reducible apply conj_nF | with_reducible apply conj_nT' | with_reducible apply conj_nF' | (with_reducible apply conj_tf <;> intro _) | (with_reducible apply conj_ft <;> intro _)))
/-! ### is_step, all_steps -/
theorem fNe_int {S : Ss} {i j : Int} : fNe S (.d (.int i)) (.d (.int j)) = some (.d (.bl (!decide (i = j)))) := by
  have e : PyData.eqv (.int i) (.int j) = decide (i = j) := eqv_int i j
  unfold fNe
  simp only [g_d, Dt.py, e]
  rfl
theorem one_eq {w : W} (hw : w.Ok) {a b : One} (ha : a ∈ w.folk) (hb : b ∈ w.folk) (e : a.nm = b.nm) : a = b := by
  have hnd := hw.nd
  unfold W.names W.all at hnd
  rw [List.map_append, List.nodup_append] at hnd
  have h1 : (w.folk.map One.nm).Nodup := by simpa [Function.comp_def] using hnd.1
  exact nodup_map_inj h1 ha hb e
where
  nodup_map_inj {l : List One} (h : (l.map One.nm).Nodup) {a b : One} (ha : a ∈ l) (hb : b ∈ l) (e : a.nm = b.nm) : a = b := by
    induction l with
    | nil => simp at ha
    | cons x l ih =>
      rw [List.map_cons, List.nodup_cons] at h
      rcases List.mem_cons.mp ha with h1 | h1
      · rcases List.mem_cons.mp hb with h2 | h2
        · rw [h1, h2]
        · exact absurd (List.mem_map.mpr ⟨b, h2, by rw [← e, h1]⟩) h.1
      · rcases List.mem_cons.mp hb with h2 | h2
        · exact absurd (List.mem_map.mpr ⟨a, h1, by rw [e, h2]⟩) h.1
        · exact ih h.2 h1 h2
theorem wt_of {w : W} (hw : w.Ok) {p : Str × Nat} (hp : p ∈ w.all) : wt w p.1 = p.2 := by
  have key : ∀ l : List (Str × Nat), (l.map (·.1)).Nodup → p ∈ l → l.lookup p.1 = some p.2 := by
    intro l
    induction l with
    | nil => intro _ h; simp at h
    | cons x l ih =>
      intro hn h
      rw [List.map_cons, List.nodup_cons] at hn
      rw [List.lookup_cons]
      rcases List.mem_cons.mp h with rfl | h
      · simp
      · have : ¬ p.1 = x.1 := fun z => hn.1 (by rw [← z]; exact List.mem_map.mpr ⟨p, h, rfl⟩)
        rw [beq_eq_false_iff_ne.mpr this]
        exact ih hn.2 h
  unfold wt
  rw [key w.all hw.nd hp]
  rfl
theorem load_all {w : W} {p : Str × Nat} (hp : p ∈ w.loads) : p ∈ w.all := List.mem_append_right _ hp
def loadNs (w : W) : List Str := w.loads.map Prod.fst
theorem sp_loads_of (S : Ss) (w : W) : f_loads_of [.d (eW w)] S = some (.d (.lst ((loadNs w).map .str)), S) := by
  subst_eqs
  unfold c_loads_of
  sizeOf_list_dec
  refine we_compM eLoad (fun l => .str l.1) w.loads ?_
  sizeOf_list_dec
  refine ⟨rfl, fun x hx => ⟨_, rfl, ?_⟩, ?_⟩
  · sizeOf_list_dec
    exact ⟨rfl, rfl⟩
  · sizeOf_list_dec
    simp [loadNs, Function.comp_def]
/-- a step's load is none, or no heavier than their arm -/
def okL (w : W) (o : One) (l : Str) : Bool := decide (l = sNo) || decide (wt w l ≤ o.ar)
theorem fNotIn_tup {S : Ss} {x : Str} {xs : List Str} (hx : PyData.strOk x = true) (h : SOk xs) : fNotIn S (.d (.str x)) (.d (.tup (xs.map .str))) = some (.d (.bl (!decide (x ∈ xs)))) := by
  have h1 := (Sh.str hx).ok
  have h2 := h.tup.ok
  unfold fNotIn isIn
  simp only [g_d]
  rw [if_pos ⟨h1, h2⟩, any_strs]
  rfl
theorem fNotIn_way {S : Ss} (s : Stp) : fNotIn S (.d (.str s.way)) (.d (.tup [.str sOff, .str sOn])) = some (.d (.bl false)) := by
  have e := fNotIn_tup (S := S) (x := s.way) (xs := [sOff, sOn]) (way_ok s) (fun x hx => by
    rcases List.mem_cons.mp hx with rfl | hx
    · exact off_ok
    · rw [List.mem_singleton.mp hx]; exact on_ok)
  have hm : s.way ∈ [sOff, sOn] := by unfold Stp.way; cases s.off <;> simp
  rw [decide_eq_true hm] at e
  exact e
theorem fAll_true {S : Ss} {α : Type} (xs : List α) : fAll S [.d (.lst (xs.map fun _ => .bl true))] = some (.d (.bl true)) := by
  have : ∀ xs : List α, boolsOf (xs.map fun _ => Dt.bl true) = some (xs.map fun _ => true) := by
    intro xs
    induction xs with
    | nil => rfl
    | cons x xs ih => rw [List.map_cons, boolsOf, ih]; rfl
  unfold fAll fL1
  simp only [g_d, this]
  simp
theorem hv_ix {S : Ss} (w : W) {n : Str} (h : n ∈ w.names) : fIx S (.d (.dK (hvD w))) (.d (.str n)) = some (.d (.int (wt w n : Int))) := by
  unfold fIx; simp [hv_look w h]
theorem stp_two {S : Ss} {s : Stp} : fIx S (.d (eStp s)) (.d (.int 2)) = some (.d (.str s.l)) := rfl
theorem len_stp {S : Ss} {s : Stp} : fLen S [.d (eStp s)] = some (.d (.int 3)) := rfl
theorem sp_is_step (S : Ss) {w : W} {s : Stp} {o : One} (hw : Made w) (h : TOk w s) (ho : o ∈ w.folk) (hn : s.n = o.nm) : f_is_step [.d (eW w), .d (eStp s)] S = some (.d (.bl (okL w o s.l)), S) := by
  have hnk := h.n_ok hw
  have hlk := h.l_ok hw
  have e1 := sp_folk_of S w
  have e2 := sp_loads_of S w
  have e3 := sp_heavies S w hw.ok
  obtain ⟨o', r, ho', e4', _, e5⟩ := find_one h.n
  have : o' = o := one_eq hw.ok ho' ho (e5.trans hn)
  subst this
  have e4 := sp_one_of S hw hnk e4'
  have e6 := fNotIn_lst (S := S) hnk hw.folk_ok
  rw [decide_eq_true h.n] at e6
  have e7 := fEq_str (S := S) hlk no_ok
  have hls : SOk (loadNs w) := fun x hx => hw.sok x (load_names hx)
  have e8 := fIn_lst (S := S) hlk hls
  have e9 : fNotIn S (.d (.str s.way)) (.d (.tup [.str sOff, .str sOn])) = some (.d (.bl false)) := fNotIn_way s
  have e10 : fIx S (.d (eOne o')) (.d (.int 3)) = some (.d (.int (o'.ar : Int))) := rfl
  have e11 := stp_two (S := S) (s := s)
  have e12 := fNe_int (S := S) (i := 3) (j := 3)
  rw [show (!decide ((3 : Int) = 3)) = false from rfl] at e12
  have e13 := len_stp (S := S) (s := s)
  simp only [Bool.not_true] at e6
  subst_eqs
  unfold c_is_step
  sizeOf_list_dec
  refine we_compM Dt.str (fun _ => .bl true) [s.way, s.n, s.l] ?_
  sizeOf_list_dec
  refine ⟨rfl, fun x hx => ⟨_, rfl, ?_⟩, ?_⟩
  · sizeOf_list_dec
    exact ⟨rfl, rfl⟩
  · have e14 := fAll_true (S := S) [s.way, s.n, s.l]
    sizeOf_list_dec
    · rename_i hA hB
      have hl2 := of_decide_eq_true hB
      have e15 := hv_ix (S := S) w (load_names hl2)
      sizeOf_list_dec
      refine ⟨?_, rfl⟩
      unfold okL
      rw [hA]
      simp
    · rename_i hA hB
      rcases h.l with e | e
      · exact absurd e (of_decide_eq_false hA)
      · exact absurd e (of_decide_eq_false hB)
    · rename_i hA
      refine ⟨?_, rfl⟩
      unfold okL
      rw [hA]
      rfl
theorem add_strs {S : Ss} (x : Str) (xs : List Str) (h : xs.length ≤ 900) : fAdd S (.d (.lst [.str x])) (.d (.lst (xs.map .str))) = some (.d (.lst ((x :: xs).map .str))) := by
  have := add_lsts (S := S) (xs := [x]) (ys := xs) (by simp; omega)
  simpa using this
def mkS (off : Bool) (o : One) (l : Str) : Stp := ⟨off, o.nm, l⟩
theorem oneSteps_eq {w : W} (hw : Made w) (off : Bool) (o : One) : oneSteps w off o = ((sNo :: loadNs w).filter (okL w o)).map (mkS off o) := by
  unfold oneSteps
  have h0 : okL w o sNo = true := by unfold okL; simp
  rw [List.filter_cons_of_pos h0, List.map_cons]
  congr 1
  unfold loadNs
  rw [List.filter_map, List.map_map]
  have hf : w.loads.filter (okL w o ∘ Prod.fst) = w.loads.filter fun l => decide (l.2 ≤ o.ar) := List.filter_congr fun p hp => by
    show okL w o p.1 = _
    unfold okL
    rw [wt_of hw.ok (load_all hp), decide_eq_false (hw.ne (load_names (List.mem_map.mpr ⟨p, hp, rfl⟩)))]
    rfl
  rw [hf]
  rfl
theorem sp_all_steps (S : Ss) {w : W} (hw : Made w) : f_all_steps [.d (eW w)] S = some (.d (.lst ((stepsL w).map eStp)), S) := by
  have hnf := hw.ok.nf
  have hnl := hw.ok.nl
  -- the loads
  have h1 : ∀ (off : Bool) (o : One) (ho : o ∈ w.folk) (T : List Stp) (x : Option R) (ls : List Str) (hls : ∀ l ∈ ls, l = sNo ∨ l ∈ loadNs w) (done : List Stp), done.length + ls.length ≤ 900 → done ++ (ls.filter (okL w o)).map (mkS off o) = T →
      WN (gNm 4) (sCons (sIf (cTst (cCall f_is_step (cCons (cVar 0) (cCons (cTup (cCons (cVar 2) (cCons (cVar 3) (cCons (cVar 4) cNil)))) cNil)))) (sCons (sExpr (cAppend (cVar 1) (cTup (cCons (cVar 2) (cCons (cVar 3) (cCons (cVar 4) cNil)))))) sNil) sNil) sNil) (ls.map .str)
        [some (.d (eW w)), some (.c S.length), some (.d (.str (if off = true then sOff else sOn))), some (.d (.str o.nm)), x] (S ++ [.lst (done.map eStp)]) fun fl en S' => fl = .nx ∧ (∃ y, en = [some (.d (eW w)), some (.c S.length), some (.d (.str (if off = true then sOff else sOn))), some (.d (.str o.nm)), y]) ∧ S' = S ++ [.lst (T.map eStp)] := by
    intro off o ho T x ls hls done hl hT
    refine wn_inv Dt.str (fun ls en S' => (∀ l ∈ ls, l = sNo ∨ l ∈ loadNs w) ∧ ∃ done x, done.length + ls.length ≤ 900 ∧ done ++ (ls.filter (okL w o)).map (mkS off o) = T ∧ en = [some (.d (eW w)), some (.c S.length), some (.d (.str (if off = true then sOff else sOn))), some (.d (.str o.nm)), x] ∧ S' = S ++ [.lst (done.map eStp)])
      ?_ ?_ ls _ _ ⟨hls, done, x, hl, hT, rfl, rfl⟩
    · rintro en S' ⟨_, done, x, _, hT, rfl, rfl⟩
      simp only [List.filter_nil, List.map_nil, List.append_nil] at hT
      subst hT
      exact ⟨rfl, ⟨_, rfl⟩, rfl⟩
    · rintro l ls en S' ⟨hls, done, x, hl, hT, rfl, rfl⟩
      refine ⟨_, rfl, ?_⟩
      clean_wf
      have e1 : f_is_step [.d (eW w), .d (.tup [.str (if off = true then sOff else sOn), .str o.nm, .str l])] (S ++ [.lst (done.map eStp)]) = some (.d (.bl (okL w o l)), S ++ [.lst (done.map eStp)]) := by
        have hT : TOk w (mkS off o l) := ⟨List.mem_map.mpr ⟨o, ho, rfl⟩, hls l List.mem_cons_self⟩
        have e := sp_is_step (S ++ [.lst (done.map eStp)]) hw hT ho rfl
        simp only [eStp, Stp.way, mkS] at e
        exact e
      rw [List.length_cons] at hl
      sizeOf_list_dec
      · rename_i hA
        refine we_appendT ?_
        sizeOf_list_dec
        refine ⟨rfl, rfl, ?_⟩
        sizeOf_list_dec
        refine ⟨rfl, by simp; omega, ?_⟩
        sizeOf_list_dec
        refine ⟨fun l hl => hls l (List.mem_cons_of_mem _ hl), done ++ [mkS off o l], _, by simp; omega, ?_, rfl, ?_⟩
        · rw [List.filter_cons_of_pos hA, List.map_cons] at hT
          rw [← hT]
          simp
        · simp [eStp, mkS, Stp.way]
      · rename_i hA
        refine ⟨fun l hl => hls l (List.mem_cons_of_mem _ hl), done, _, by omega, ?_, rfl, rfl⟩
        rw [List.filter_cons_of_neg (by rw [hA]; simp)] at hT
        exact hT
  -- the folk
  have h2 : ∀ (off : Bool) (T : List Stp) (x y : Option R) (os : List One) (hos : ∀ o ∈ os, o ∈ w.folk) (done : List Stp), done.length + 3 * os.length ≤ 800 → done ++ os.flatMap (oneSteps w off) = T →
      WN (gNm 3) (sCons (sFor (cIter (cBin fAdd (cLst (cCons (cK (.str (Str.ofString ""))) cNil)) (cCall f_loads_of (cCons (cVar 0) cNil)))) (gNm 4) (sCons (sIf (cTst (cCall f_is_step (cCons (cVar 0) (cCons (cTup (cCons (cVar 2) (cCons (cVar 3) (cCons (cVar 4) cNil)))) cNil)))) (sCons (sExpr (cAppend (cVar 1) (cTup (cCons (cVar 2) (cCons (cVar 3) (cCons (cVar 4) cNil)))))) sNil) sNil) sNil)) sNil) ((os.map One.nm).map .str)
        [some (.d (eW w)), some (.c S.length), some (.d (wayS off)), x, y] (S ++ [.lst (done.map eStp)]) fun fl en S' => fl = .nx ∧ (∃ x y, en = [some (.d (eW w)), some (.c S.length), some (.d (wayS off)), x, y]) ∧ S' = S ++ [.lst (T.map eStp)] := by
    intro off T x y os hos done hl hT
    rw [List.map_map]
    refine wn_inv (Dt.str ∘ One.nm) (fun os en S' => (∀ o ∈ os, o ∈ w.folk) ∧ ∃ done x y, done.length + 3 * os.length ≤ 800 ∧ done ++ os.flatMap (oneSteps w off) = T ∧ en = [some (.d (eW w)), some (.c S.length), some (.d (wayS off)), x, y] ∧ S' = S ++ [.lst (done.map eStp)])
      ?_ ?_ os _ _ ⟨hos, done, x, y, hl, hT, rfl, rfl⟩
    · rintro en S' ⟨_, done, x, y, _, hT, rfl, rfl⟩
      simp only [List.flatMap_nil, List.append_nil] at hT
      subst hT
      exact ⟨rfl, ⟨_, _, rfl⟩, rfl⟩
    · rintro o os en S' ⟨hos, done, x, y, hl, hT, rfl, rfl⟩
      refine ⟨_, rfl, ?_⟩
      clean_wf
      rw [List.length_cons] at hl
      have e1 := sp_loads_of (S ++ [.lst (done.map eStp)]) w
      have e2 := add_strs (S := S ++ [.lst (done.map eStp)]) sNo (loadNs w) (by simp [loadNs]; omega)
      sizeOf_list_dec
      have hone : (oneSteps w off o).length ≤ 3 := by
        have := List.length_filter_le (fun l : Str × Nat => decide (l.2 ≤ o.ar)) w.loads
        simp [oneSteps]; omega
      obtain ⟨fl, en2, S2, e3, rfl, ⟨y2, rfl⟩, rfl⟩ := h1 off o (hos o List.mem_cons_self) (done ++ oneSteps w off o) y (sNo :: loadNs w) (fun l hl => by
        rcases List.mem_cons.mp hl with rfl | hl
        · exact .inl rfl
        · exact .inr hl) done (by simp [loadNs]; omega) (by rw [oneSteps_eq hw])
      refine ⟨_, _, _, e3, ?_⟩
      sizeOf_list_dec
      refine ⟨fun o ho => hos o (List.mem_cons_of_mem _ ho), done ++ oneSteps w off o, _, _, by simp; omega, ?_, rfl, rfl⟩
      rw [← hT, List.flatMap_cons, List.append_assoc]
  have hlen : ∀ off, (w.folk.flatMap (oneSteps w off)).length ≤ 3 * w.folk.length := by
    intro off
    induction w.folk with
    | nil => simp
    | cons o os ih =>
      rw [List.flatMap_cons, List.length_append, List.length_cons]
      have := List.length_filter_le (fun l : Str × Nat => decide (l.2 ≤ o.ar)) w.loads
      simp [oneSteps] at *
      omega
  obtain ⟨fl, en1, S1, e1, rfl, ⟨x1, y1, rfl⟩, rfl⟩ := h2 true (w.folk.flatMap (oneSteps w true)) none none w.folk (fun _ h => h) [] (by simp; omega) rfl
  obtain ⟨fl, en2, S2, e2, rfl, ⟨x2, y2, rfl⟩, rfl⟩ := h2 false (stepsL w) x1 y1 w.folk (fun _ h => h) (w.folk.flatMap (oneSteps w true)) (by have := hlen true; omega) rfl
  have e3 : ∀ S, f_folk_of [.d (eW w)] S = some (.d (.lst ((w.folk.map One.nm).map .str)), S) := fun S => sp_folk_of S w
  refine wf_eq ?_
  subst_eqs
  unfold c_all_steps
  sizeOf_list_dec
  refine wn_cons rfl ?_
  clean_wf
  sizeOf_list_dec
  refine wf_of (e3 _) ?_
  sizeOf_list_dec
  refine ⟨_, _, _, e1, ?_⟩
  sizeOf_list_dec
  refine wn_cons rfl ?_
  clean_wf
  sizeOf_list_dec
  refine wf_of (e3 _) ?_
  sizeOf_list_dec
  refine ⟨_, _, _, e2, ?_⟩
  sizeOf_list_dec
  refine wn_nil ?_
  sizeOf_list_dec
  refine we_frz ?_
  sizeOf_list_dec
  refine ⟨_, (by simp; rfl), ?_⟩
  sizeOf_list_dec
  refine ⟨rfl, ?_⟩
  simp
theorem ROk.lot {w : W} {n : Nat} {rs : Rows} (h : ROk w n rs) : LotOk w (rnames rs) := ⟨h.nms, by simpa [rnames] using h.len, h.nd⟩
/-- steps that can be taken -/
def canS (w : W) (lot : List Str) (F : Rat) : List Stp := (stepsL w).filter fun s => (bestG w lot F s).isSome
end OA
namespace OA
open PySem PySem.Spec PyProof.Rows L2
local macro_rules | `(tactic| subst_eqs) => `(tactic| first | refine wf_r0 (by simp only [List.map_cons, List.map_nil, List.length_cons, List.length_nil, List.replicate, List.cons_append, List.nil_append, Nat.reduceAdd, Nat.reduceSub]; rfl) ?_ | refine wf_r (by simp only [List.map_cons, List.map_nil, List.length_cons, List.length_nil, List.replicate, List.cons_append, List.nil_append, Nat.reduceAdd, Nat.reduceSub]; rfl) ?_)
local macro_rules | `(tactic| clean_wf) => `(tactic| try dsimp only [List.set_cons_zero, List.set_cons_succ])
local macro_rules | `(tactic| array_mem_dec) => `(tactic| first | with_reducible assumption | with_reducible exact st_zero | with_reducible exact st_one | with_reducible exact stp_zero | with_reducible exact stp_one | with_reducible exact fr_top | with_reducible exact fr_bot | with_reducible exact fAdd_int | with_reducible exact fSub_int | with_reducible exact fLt_int | with_reducible exact fGt_int | with_reducible exact fLe_int | with_reducible exact fGe_int | with_reducible exact fEq_int | with_reducible exact is_off _ | with_reducible exact is_on _ | with_reducible exact w_zero _ _ | with_reducible exact w_one _ _ | with_reducible exact w_two _ _ | with_reducible exact names_items _ | with_reducible exact rowsD_items _ | with_reducible exact fEq_fr | with_reducible exact fNe_fr | exact rfl)
local macro_rules | `(tactic| array_get_dec) => `(tactic| first | with_reducible apply we_K | ((with_reducible apply we_var); exact rfl) | with_reducible apply we_bin | with_reducible apply we_call | with_reducible apply wl_cons | with_reducible apply wl_nil | with_reducible apply ws_seq | with_reducible apply ws_set | ((with_reducible apply seqK_nx); clean_wf) | with_reducible apply seqK_ret | with_reducible apply ws_ret | with_reducible apply ws_if | with_reducible apply wt_tst | with_reducible apply ws_nil | with_reducible apply we_tup | with_reducible apply we_app | with_reducible apply we_if | with_reducible apply wt_and | with_reducible apply wt_or | with_reducible apply wt_not | with_reducible apply we_and | with_reducible apply we_or | with_reducible apply we_not | with_reducible apply ws_par | with_reducible apply ws_asg | with_reducible apply ws_expr | with_reducible apply ws_for | with_reducible apply we_lst | with_reducible apply wi_iter | with_reducible apply we_sl | with_reducible apply wo_no | with_reducible apply wo_part | with_reducible apply we_newL0b | with_reducible apply we_newL | with_reducible apply we_isi | with_reducible apply we_chain | ((with_reducible apply wf_of); focus (with_reducible assumption)) | with_reducible refine ⟨_, (by repeat (first | with_reducible exact dats_nil | with_reducible apply dats_cs)), by simp, ?_⟩ | with_reducible refine ⟨_, (by with_reducible assumption), ?_⟩ | with_reducible refine ⟨_, rfl, ?_⟩ | with_reducible refine ⟨_, (by array_mem_dec), ?_⟩ | ((with_reducible apply we_of); focus (with_reducible assumption)))
local macro_rules | `(tactic| sizeOf_list_dec) => `(tactic| repeat' (first | array_get_dec | with_reducible apply conj_T | with_reducible apply conj_F | with_reducible apply conj_T' | with_reducible apply conj_F' | with_reducible apply conj_nT | with_reducible apply conj_nF | with_reducible apply conj_nT' | with_reducible apply conj_nF' | (with_reducible apply conj_tf <;> intro _) | (with_reducible apply conj_ft <;> intro _)))
/-! ### rows that are best -/
def stillP (lot : List Str) (s : Stp) : List Str := lot.filter fun n => !s.off || !decide (n ∈ s.mv)
def placeP (w : W) (lot : List Str) (F : Rat) (s : Stp) (g : Rat) : Rat := if 0 < weight w (stillP lot s) then (F - g) * (whole w lot : Nat) / (weight w (stillP lot s) : Nat) else 0
def rowsB (w : W) (lot : List Str) (F : Rat) (s : Stp) (g : Rat) : Rows := lot.map fun n => (n, if n ∈ stillP lot s then placeP w lot F s g else 0)
theorem rowsB_names (w : W) (lot : List Str) (F : Rat) (s : Stp) (g : Rat) : rnames (rowsB w lot F s g) = lot := by simp [rnames, rowsB, Function.comp_def]
theorem sp_rows_by (S : Ss) {w : W} {s : Stp} {lot : List Str} {F g : Rat} (hw : Made w) (h : TOk w s) (hl : LotOk w lot) (hF : B 1900 F) (hg : B 1990 g) :
    f_rows_by [.d (eW w), .d (names lot), .d (fr F), .d (eStp s), .d (fr g)] S = some (.d (rowsD (rowsB w lot F s g)), S) := by
  have hlk := hl.sok hw
  have hsm : ∀ n ∈ stillP lot s, n ∈ w.names := fun n hn => hl.mem n (List.mem_filter.mp hn).1
  have hsk : SOk (stillP lot s) := fun n hn => hlk n (List.mem_filter.mp hn).1
  have e1 := sp_movers S hw h
  have e2 := sp_weight_of S w hw.ok (.lst ((stillP lot s).map .str)) (stillP lot s) rfl hsm
  have e3 := sp_less S (hF.mono (m := 4000) (by decide)) (hg.mono (m := 4000) (by decide))
  have e4 := sp_whole_of S w hw.ok _ lot (names_items lot) hl.mem
  have hwh := whole_le hw.ok hl.len
  have hwt : weight w (stillP lot s) ≤ 360 := by
    have h1 := weight_le hw.ok (stillP lot s)
    have h2 := List.length_filter_le (fun n => !s.off || !decide (n ∈ s.mv)) lot
    have h3 := hl.len
    unfold stillP at h1 ⊢
    omega
  have eo := is_on (S := S) s
  subst_eqs
  unfold c_rows_by
  array_get_dec
  array_get_dec
  refine we_compF Dt.str Dt.str (fun n => !s.off || !decide (n ∈ s.mv)) lot ?_
  sizeOf_list_dec
  refine ⟨rfl, fun n hn => ⟨_, rfl, ?_, fun _ => ?_⟩, ?_⟩
  · have e5 := fNotIn_lst (S := S) (hlk n hn) (h.mv_ok hw)
    sizeOf_list_dec
    · rename_i ho
      rw [ho]
      exact ⟨rfl, rfl⟩
    · rename_i ho
      rw [ho]
      exact ⟨rfl, rfl⟩
  · sizeOf_list_dec
    exact ⟨rfl, rfl⟩
  · have fin : ∀ z : Dt, z = fr (placeP w lot F s g) → cComp [8] (cIter (cVar 1)) (gNm 8) kYes (cTup (cCons (cVar 8) (cCons (cIf (cTst (cBin fIn (cVar 8) (cVar 5))) (cVar 7) (cK (.tup [.int 0, .int 1]))) cNil)))
        [some (.d (eW w)), some (.d (names lot)), some (.d (fr F)), some (.d (eStp s)), some (.d (fr g)), some (.d (.lst ((stillP lot s).map .str))), some (.d (.int (weight w (stillP lot s) : Int))), some (.d z), none] S = some (.d (.lst ((rowsB w lot F s g).map eRow)), S) := by
      rintro z rfl
      refine we_eq ?_
      refine we_compM Dt.str (fun n => eRow (n, if n ∈ stillP lot s then placeP w lot F s g else 0)) lot ?_
      sizeOf_list_dec
      refine ⟨rfl, fun n hn => ⟨_, rfl, ?_⟩, ?_⟩
      · have e7 := fIn_lst (S := S) (hlk n hn) hsk
        sizeOf_list_dec
        · rename_i hm
          rw [if_pos (of_decide_eq_true hm)]
          exact ⟨rfl, rfl⟩
        · rename_i hm
          rw [if_neg (of_decide_eq_false hm)]
          exact ⟨rfl, rfl⟩
      · have e8 : (lot.map fun n => eRow (n, if n ∈ stillP lot s then placeP w lot F s g else 0)) = (rowsB w lot F s g).map eRow := by simp [rowsB, Function.comp_def]
        rw [e8]
        exact ⟨rfl, rfl⟩
    have e9 := fTup_rows (S := S) (rowsB w lot F s g)
    change seqK .nx _ [some (.d (eW w)), some (.d (names lot)), some (.d (fr F)), some (.d (eStp s)), some (.d (fr g)), some (.d (.lst ((stillP lot s).map .str))), none, none, none] S _
    sizeOf_list_dec
    · rename_i hpos
      have hpos := of_decide_eq_true hpos
      have e6 := sp_times S (q := F - g) (a := (whole w lot : Int)) (b := weight w (stillP lot s)) ((B_sub hF hg).mono (by decide)) (lt4 (nb hwh) (by decide)) (lt4 (n := 9) (by simp; omega) (by decide)) (by omega)
      have hp : ((whole w lot : Int) : Rat) = ((whole w lot : Nat) : Rat) := rfl
      rw [hp] at e6
      have hpl : placeP w lot F s g = (F - g) * (whole w lot : Nat) / (weight w (stillP lot s) : Nat) := by unfold placeP; rw [if_pos (by omega)]
      rw [← hpl] at e6
      have f2 := fin _ rfl
      sizeOf_list_dec
      exact ⟨rfl, rfl⟩
    · rename_i hpos
      have hpos := of_decide_eq_false hpos
      have hpl : placeP w lot F s g = 0 := by unfold placeP; rw [if_neg (by omega)]
      have f2 := fin (.tup [.int 0, .int 1]) (by rw [hpl]; rfl)
      sizeOf_list_dec
      exact ⟨rfl, rfl⟩
/-! ### what is told to be a standing -/
end OA
namespace OA
open PySem PySem.Spec PyProof.Rows L2
local macro_rules | `(tactic| subst_eqs) => `(tactic| first | refine wf_r0 (by simp only [List.map_cons, List.map_nil, List.length_cons, List.length_nil, List.replicate, List.cons_append, List.nil_append, Nat.reduceAdd, Nat.reduceSub]; rfl) ?_ | refine wf_r (by simp only [List.map_cons, List.map_nil, List.length_cons, List.length_nil, List.replicate, List.cons_append, List.nil_append, Nat.reduceAdd, Nat.reduceSub]; rfl) ?_)
local macro_rules | `(tactic| clean_wf) => `(tactic| try dsimp only [List.set_cons_zero, List.set_cons_succ])
local macro_rules | `(tactic| array_mem_dec) => `(tactic| first | with_reducible assumption | with_reducible exact st_zero | with_reducible exact st_one | with_reducible exact stp_zero | with_reducible exact stp_one | with_reducible exact fr_top | with_reducible exact fr_bot | with_reducible exact fAdd_int | with_reducible exact fSub_int | with_reducible exact fLt_int | with_reducible exact fGt_int | with_reducible exact fLe_int | with_reducible exact fGe_int | with_reducible exact fEq_int | with_reducible exact is_off _ | with_reducible exact is_on _ | with_reducible exact w_zero _ _ | with_reducible exact w_one _ _ | with_reducible exact w_two _ _ | with_reducible exact names_items _ | with_reducible exact rowsD_items _ | with_reducible exact fEq_fr | with_reducible exact fNe_fr | exact rfl)
local macro_rules | `(tactic| array_get_dec) => `(tactic| first | with_reducible apply we_K | ((with_reducible apply we_var); exact rfl) | with_reducible apply we_bin | with_reducible apply we_call | with_reducible apply wl_cons | with_reducible apply wl_nil | with_reducible apply ws_seq | with_reducible apply ws_set | ((with_reducible apply seqK_nx); clean_wf) | with_reducible apply seqK_ret | with_reducible apply ws_ret | with_reducible apply ws_if | with_reducible apply wt_tst | with_reducible apply ws_nil | with_reducible apply we_tup | with_reducible apply we_app | with_reducible apply we_if | with_reducible apply wt_and | with_reducible apply wt_or | with_reducible apply wt_not | with_reducible apply we_and | with_reducible apply we_or | with_reducible apply we_not | with_reducible apply ws_par | with_reducible apply ws_asg | with_reducible apply ws_expr | with_reducible apply ws_for | with_reducible apply we_lst | with_reducible apply wi_iter | with_reducible apply we_sl | with_reducible apply wo_no | with_reducible apply wo_part | with_reducible apply we_newL0b | with_reducible apply we_newL | with_reducible apply we_isi | with_reducible apply we_chain | ((with_reducible apply wf_of); focus (with_reducible assumption)) | with_reducible refine ⟨_, (by repeat (first | with_reducible exact dats_nil | with_reducible apply dats_cs)), by simp, ?_⟩ | with_reducible refine ⟨_, (by with_reducible assumption), ?_⟩ | with_reducible refine ⟨_, rfl, ?_⟩ | with_reducible refine ⟨_, (by array_mem_dec), ?_⟩ | ((with_reducible apply we_of); focus (with_reducible assumption)))
local macro_rules | `(tactic| sizeOf_list_dec) => `(tactic| repeat' (first | array_get_dec | with_reducible apply conj_T | with_reducible apply conj_F | with_reducible apply conj_T' | with_reducible apply conj_F' | with_reducible apply conj_nT | with_reducible apply conj_nF | with_reducible apply conj_nT' | with_reducible apply conj_nF' | (with_reducible apply conj_tf <;> intro _) | (with_reducible apply conj_ft <;> intro _)))
/-! ### names, rows, standings, as the program reads them -/
end OA
namespace OA
open PySem PySem.Spec PyProof.Rows L2
local macro_rules | `(tactic| subst_eqs) => `(tactic| first | refine wf_r0 (by simp only [List.map_cons, List.map_nil, List.length_cons, List.length_nil, List.replicate, List.cons_append, List.nil_append, Nat.reduceAdd, Nat.reduceSub]; rfl) ?_ | refine wf_r (by simp only [List.map_cons, List.map_nil, List.length_cons, List.length_nil, List.replicate, List.cons_append, List.nil_append, Nat.reduceAdd, Nat.reduceSub]; rfl) ?_)
local macro_rules | `(tactic| clean_wf) => `(tactic| try dsimp only [List.set_cons_zero, List.set_cons_succ])
local macro_rules | `(tactic| array_mem_dec) => `(tactic| first | with_reducible assumption | with_reducible exact st_zero | with_reducible exact st_one | with_reducible exact stp_zero | with_reducible exact stp_one | with_reducible exact fr_top | with_reducible exact fr_bot | with_reducible exact fAdd_int | with_reducible exact fSub_int | with_reducible exact fLt_int | with_reducible exact fGt_int | with_reducible exact fLe_int | with_reducible exact fGe_int | with_reducible exact fEq_int | with_reducible exact is_off _ | with_reducible exact is_on _ | with_reducible exact w_zero _ _ | with_reducible exact w_one _ _ | with_reducible exact w_two _ _ | with_reducible exact names_items _ | with_reducible exact rowsD_items _ | with_reducible exact fEq_fr | with_reducible exact fNe_fr | exact rfl)
local macro_rules | `(tactic| array_get_dec) => `(tactic| first | with_reducible apply we_K | ((with_reducible apply we_var); exact rfl) | with_reducible apply we_bin | with_reducible apply we_call | with_reducible apply wl_cons | with_reducible apply wl_nil | with_reducible apply ws_seq | with_reducible apply ws_set | ((with_reducible apply seqK_nx); clean_wf) | with_reducible apply seqK_ret | with_reducible apply ws_ret | with_reducible apply ws_if | with_reducible apply wt_tst | with_reducible apply ws_nil | with_reducible apply we_tup | with_reducible apply we_app | with_reducible apply we_if | with_reducible apply wt_and | with_reducible apply wt_or | with_reducible apply wt_not | with_reducible apply we_and | with_reducible apply we_or | with_reducible apply we_not | with_reducible apply ws_par | with_reducible apply ws_asg | with_reducible apply ws_expr | with_reducible apply ws_for | with_reducible apply we_lst | with_reducible apply wi_iter | with_reducible apply we_sl | with_reducible apply wo_no | with_reducible apply wo_part | with_reducible apply we_newL0b | with_reducible apply we_newL | with_reducible apply we_isi | with_reducible apply we_chain | ((with_reducible apply wf_of); focus (with_reducible assumption)) | with_reducible refine ⟨_, (by repeat (first | with_reducible exact dats_nil | with_reducible apply dats_cs)), by simp, ?_⟩ | with_reducible refine ⟨_, (by with_reducible assumption), ?_⟩ | with_reducible refine ⟨_, rfl, ?_⟩ | with_reducible refine ⟨_, (by array_mem_dec), ?_⟩ | ((with_reducible apply we_of); focus (with_reducible assumption)))
local macro_rules | `(tactic| sizeOf_list_dec) => `(tactic| repeat' (first | array_get_dec | with_reducible apply conj_T | with_reducible apply conj_F | with_reducible apply conj_T' | with_reducible apply conj_F' | with_reducible apply conj_nT | with_reducible apply conj_nF | with_reducible apply conj_nT' | with_reducible apply conj_nF' | (with_reducible apply conj_tf <;> intro _) | (with_reducible apply conj_ft <;> intro _)))
/-! ### the law's own best gaps -/
theorem sl_stp {s : Stp} : slV (eStp s) (some 1) none = some (names [s.n, s.l]) := rfl
theorem mv_mem {w : W} {s : Stp} (hw : Made w) {n : Str} (hn : n ∈ w.names) : (n ∈ [s.n, s.l]) ↔ n ∈ s.mv := by
  unfold Stp.mv
  rw [List.mem_filter]
  exact ⟨fun h => ⟨h, decide_eq_true (hw.ne hn)⟩, fun h => h.1⟩
theorem nl_ok {w : W} {s : Stp} (hw : Made w) (h : TOk w s) : SOk [s.n, s.l] := fun x hx => by
  rcases List.mem_cons.mp hx with rfl | hx
  · exact h.n_ok hw
  · rw [List.mem_singleton.mp hx]; exact h.l_ok hw
def nearL (w : W) (lot : List Str) (F : Rat) (s : Stp) : Rat := atl (F - mkRat ((w.lg : Int) * (weight w (stillP lot s) : Int)) (whole w lot))
theorem still_w {w : W} (hw : w.Ok) {lot : List Str} (hl : LotOk w lot) (s : Stp) : weight w (stillP lot s) ≤ 360 := by
  have h1 := weight_le hw (stillP lot s)
  have h2 := List.length_filter_le (fun n => !s.off || !decide (n ∈ s.mv)) lot
  have h3 := hl.len
  unfold stillP at h1 ⊢
  omega
theorem still_mem {w : W} {lot : List Str} (hl : LotOk w lot) (s : Stp) : ∀ n ∈ stillP lot s, n ∈ w.names := fun n hn => hl.mem n (List.mem_filter.mp hn).1
theorem nearM_B {w : W} (hw : w.Ok) {lot : List Str} (hl : LotOk w lot) (s : Stp) : B 19 (mkRat ((w.lg : Int) * (weight w (stillP lot s) : Int)) (whole w lot)) := by
  have h2 := still_w hw hl s
  have hwh := whole_le hw hl.len
  have hlg := hw.lg
  exact B_mk (wide_lt (a := 9) (b := 10) (by simp; omega) (by simp; omega)) (Nat.lt_of_lt_of_le hwh (Nat.pow_le_pow_right (by decide) (by decide))) (by decide)
theorem sp_l_nearest (S : Ss) {w : W} {s : Stp} {lot : List Str} {F : Rat} (hw : Made w) (h : TOk w s) (hl : LotOk w lot) (hF : B 3700 F) :
    f_l_nearest [.d (eW w), .d (names lot), .d (fr F), .d (eStp s)] S = some (.d (fr (nearL w lot F s)), S) := by
  have hlk := hl.sok hw
  have hnl := nl_ok hw h
  have hsw := still_w hw.ok hl s
  have hwh := whole_le hw.ok hl.len
  have hlg := hw.ok.lg
  have e0 : slV (eStp s) (some 1) none = some (names [s.n, s.l]) := sl_stp
  have e1 := sp_l_weight S w hw.ok (.lst ((stillP lot s).map .str)) (stillP lot s) rfl (still_mem hl s)
  have e2 := sp_l_weight S w hw.ok (names lot) lot (names_items lot) hl.mem
  have e3 := fMul_ok (S := S) (i := (w.lg : Int)) (j := (weight w (stillP lot s) : Int)) (a := 9) (b := 10) (by simp; omega) (by simp; omega) (by decide) (by decide) (by decide)
  have e4 := sp_lowest S ((w.lg : Int) * (weight w (stillP lot s) : Int)) (whole w lot) (whole_pos hw.ok lot) (Nat.lt_of_lt_of_le hwh (Nat.pow_le_pow_right (by decide) (by decide)))
  have hB := nearM_B hw.ok hl s
  have e5 := sp_less S (hF.mono (m := 4000) (by decide)) (hB.mono (m := 4000) (by decide))
  have e6 := sp_is_lesser S ((B_sub hF hB).mono (m := 4000) (by decide)) (B_zero (n := 4000) (by decide))
  rw [← l_lowest_eq] at e4
  rw [← l_minus_eq] at e5
  rw [← l_less_eq, fr_zero] at e6
  have e7 : fAdd S (.d (.int (w.rh : Int))) (.d (.int (weight w lot : Int))) = some (.d (.int (whole w lot : Int))) := by
    rw [fAdd_int]; unfold whole; simp
  have e8 : fIx S (.d (.tup [.int (w.lg : Int), .int (w.rh : Int)])) (.d (.int 1)) = some (.d (.int (w.rh : Int))) := rfl
  have eo := is_on (S := S) s
  subst_eqs
  unfold c_l_nearest
  array_get_dec
  array_get_dec
  refine we_compF Dt.str Dt.str (fun n => !s.off || !decide (n ∈ s.mv)) lot ?_
  sizeOf_list_dec
  refine ⟨rfl, fun n hn => ⟨_, rfl, ?_, fun _ => ?_⟩, ?_⟩
  · have f1 := fNotIn_tup (S := S) (hlk n hn) hnl
    rw [show decide (n ∈ [s.n, s.l]) = decide (n ∈ s.mv) from decide_eq_decide.mpr (mv_mem hw (hl.mem n hn))] at f1
    change fNotIn S (.d (.str n)) (.d (names [s.n, s.l])) = _ at f1
    sizeOf_list_dec
    · rename_i ho
      rw [ho]
      exact ⟨rfl, rfl⟩
    · rename_i ho
      rw [ho]
      exact ⟨rfl, rfl⟩
  · sizeOf_list_dec
    exact ⟨rfl, rfl⟩
  · change seqK .nx _ [some (.d (eW w)), some (.d (names lot)), some (.d (fr F)), some (.d (eStp s)), some (.d (.lst ((stillP lot s).map .str))), none, none, none] S _
    sizeOf_list_dec
    · rename_i hx
      unfold nearL atl
      rw [if_pos (of_decide_eq_true hx)]
      exact ⟨rfl, rfl⟩
    · rename_i hx
      unfold nearL atl
      rw [if_neg (of_decide_eq_false hx)]
      exact ⟨rfl, rfl⟩
/-- the front gap behind a step at a gap -/
def behG (w : W) (lot : List Str) (F : Rat) (s : Stp) (g : Rat) : Rat := if s.off then (F * (whole w lot : Nat) - g * (weight w s.mv : Nat)) / ((whole w lot - weight w s.mv : Nat) : Rat) else (F * (whole w lot : Nat) + g * (weight w s.mv : Nat)) / ((whole w lot + weight w s.mv : Nat) : Rat)
theorem over_low (S : Ss) {q : Rat} {n b : Nat} (hq : B n q) (h0 : 0 < b) (hb : b < 2 ^ 10) (hn : n ≤ 3900) : f_l_lowest [.d (.int q.num), .d (.int ((q.den : Int) * (b : Int)))] S = some (.d (fr (q / (b : Nat))), S) := by
  have hlow := sp_lowest S q.num (q.den * b) (Nat.mul_pos q.den_pos h0) (by
    refine Nat.lt_of_lt_of_le (m := 2 ^ n * 2 ^ 10) (Nat.mul_lt_mul'' hq.2 hb) ?_
    rw [← Nat.pow_add]
    exact Nat.pow_le_pow_right (by decide) (by omega))
  have hq2 : mkRat q.num (q.den * b) = q / (b : Nat) := by
    have := by_eq q 1 b
    rw [one_by] at this
    rw [← this]
    unfold by'
    rw [Int.mul_one]
  rw [hq2, Int.natCast_mul] at hlow
  rw [l_lowest_eq]
  exact hlow
theorem sp_l_timesN (S : Ss) {q : Rat} {a : Nat} (hq : B 4000 q) (ha : a < 2 ^ 4000) : f_l_times [.d (fr q), .d (.int (a : Int))] S = some (.d (fr (q * (a : Nat))), S) := sp_l_times S (a := (a : Int)) hq (nb ha)
theorem cast_neg (m : Nat) : ((0 - (m : Int) : Int) : Rat) = -((m : Nat) : Rat) := by
  rw [Int.zero_sub, Rat.intCast_neg]
  rfl
theorem sp_l_behind (S : Ss) {w : W} {s : Stp} {lot : List Str} {F g : Rat} (hw : Made w) (h : TOk w s) (hl : LotOk w lot) (hF : B 1800 F) (hg : B 1990 g) (hb : (lotB w lot s).isNone = false) :
    f_l_behind [.d (eW w), .d (names lot), .d (fr F), .d (eStp s), .d (fr g)] S = some (.d (fr (behG w lot F s g)), S) := by
  have hwh := whole_le hw.ok hl.len
  have hmv := mv_weight_le hw.ok s
  have e0 := e_movers (S := S) (k := 9) (i := 3) (en := [some (.d (eW w)), some (.d (names lot)), some (.d (fr F)), some (.d (eStp s)), some (.d (fr g)), none, none, none, none, none]) hw h (by simp) (by decide) rfl
  have e1 := sp_l_weight S w hw.ok (.lst (s.mv.map .str)) s.mv rfl h.mv_names
  have e2 := sp_l_weight S w hw.ok (names lot) lot (names_items lot) hl.mem
  have e7 : fAdd S (.d (.int (w.rh : Int))) (.d (.int (weight w lot : Int))) = some (.d (.int (whole w lot : Int))) := by
    rw [fAdd_int]; unfold whole; simp
  have e8 : fIx S (.d (.tup [.int (w.lg : Int), .int (w.rh : Int)])) (.d (.int 1)) = some (.d (.int (w.rh : Int))) := rfl
  have eo := is_on (S := S) s
  have e3 := sp_l_timesN S (q := F) (a := whole w lot) (hF.mono (by decide)) (lt4 hwh (by decide))
  have b6 : B 1809 (F * (whole w lot : Nat)) := by
    rw [← term_eq, ← by_eq]
    exact B_by (k := 9) hF (nb hwh) (by decide) (by decide) (by decide)
  have b7 : B 2000 (g * (weight w s.mv : Nat)) := by
    rw [← term_eq, ← by_eq]
    exact B_by (k := 8) hg (by simp; omega) (by decide) (by decide) (by decide)
  cases ho : s.off with
  | false =>
    simp only [ho, Bool.not_false] at eo
    have e4 := sp_l_timesN S (q := g) (a := weight w s.mv) (hg.mono (by decide)) (lt4 (n := 8) (by simp; omega) (by decide))
    have e5 := sp_plus S (b6.mono (m := 4000) (by decide)) (b7.mono (m := 4000) (by decide))
    rw [← l_plus_eq] at e5
    have hB := B_add b6 b7
    have e9 : fAdd S (.d (.int (whole w lot : Int))) (.d (.int (weight w s.mv : Int))) = some (.d (.int ((whole w lot + weight w s.mv : Nat) : Int))) := by rw [fAdd_int, Int.natCast_add]
    have e10 := fMul_ok (S := S) (i := ((F * (whole w lot : Nat) + g * (weight w s.mv : Nat)).den : Int)) (j := ((whole w lot + weight w s.mv : Nat) : Int)) (a := 3810) (b := 10) hB.d (nb (by simp at hwh ⊢; omega)) (by decide) (by decide) (by decide)
    have e11 := over_low S (b := whole w lot + weight w s.mv) hB (by have := whole_pos hw.ok lot; omega) (by simp at hwh ⊢; omega) (by decide)
    unfold behG
    rw [ho]
    subst_eqs
    unfold c_l_behind
    sizeOf_list_dec
    exact ⟨rfl, rfl⟩
  | true =>
    simp only [ho, Bool.not_true] at eo
    have hle := off_whole hw h hb ho
    have hrh := hw.ok.rh0
    have e4 := sp_l_times S (q := g) (a := 0 - (weight w s.mv : Int)) (hg.mono (by decide)) (lt4 (n := 8) (by simp; omega) (by decide))
    have hv : g * ((0 - (weight w s.mv : Int) : Int) : Rat) = -(g * (weight w s.mv : Nat)) := by rw [cast_neg, Rat.mul_neg]
    rw [hv] at e4
    have b8 : B 2000 (-(g * (weight w s.mv : Nat))) := by
      unfold B at b7 ⊢
      rw [Rat.neg_num, Rat.neg_den, Int.natAbs_neg]
      exact b7
    have e5 := sp_plus S (b6.mono (m := 4000) (by decide)) (b8.mono (m := 4000) (by decide))
    rw [← l_plus_eq, ← Rat.sub_eq_add_neg] at e5
    have hB := B_sub b6 b7
    have e9 : fAdd S (.d (.int (whole w lot : Int))) (.d (.int (0 - (weight w s.mv : Int)))) = some (.d (.int ((whole w lot - weight w s.mv : Nat) : Int))) := by
      rw [fAdd_int]
      congr 3
      omega
    have e10 := fMul_ok (S := S) (i := ((F * (whole w lot : Nat) - g * (weight w s.mv : Nat)).den : Int)) (j := ((whole w lot - weight w s.mv : Nat) : Int)) (a := 3810) (b := 10) hB.d (nb (by simp at hwh ⊢; omega)) (by decide) (by decide) (by decide)
    have e11 := over_low S (b := whole w lot - weight w s.mv) hB (by omega) (by simp at hwh ⊢; omega) (by decide)
    unfold behG
    rw [ho]
    subst_eqs
    unfold c_l_behind
    sizeOf_list_dec
    exact ⟨rfl, rfl⟩
/-! ### the law's best is the program's -/
theorem still_eq {w : W} {lot : List Str} {s : Stp} (hw : Made w) (h : TOk w s) (hl : LotOk w lot) (hb : (lotB w lot s).isNone = false) : (weight w (stillP lot s) : Int) = if s.off then (weight w lot : Int) - (weight w s.mv : Int) else (weight w lot : Int) := by
  cases ho : s.off with
  | false =>
    have : stillP lot s = lot := by
      unfold stillP
      rw [ho]
      simp
    rw [this]
    rfl
  | true =>
    have hsub := lotB_off hb ho
    have hp : (stillP lot s ++ s.mv).Perm lot := by
      have h1 : (lot.filter (fun n => !decide (n ∈ s.mv)) ++ lot.filter (fun n => !!decide (n ∈ s.mv))).Perm lot := List.filter_append_perm _ lot
      have h2 : (lot.filter (fun n => !!decide (n ∈ s.mv))).Perm s.mv := by
        refine (List.perm_ext_iff_of_nodup (hl.nd.sublist List.filter_sublist) (h.mv_nd hw)).mpr fun x => ?_
        rw [List.mem_filter]
        simp only [Bool.not_not, decide_eq_true_eq]
        exact ⟨fun z => z.2, fun z => ⟨hsub x z, z⟩⟩
      unfold stillP
      rw [ho]
      simp only [Bool.not_true, Bool.false_or]
      exact (List.Perm.append_left _ h2.symm).trans h1
    have := weight_perm w hp
    unfold weight at this ⊢
    rw [List.map_append, List.sum_append] at this
    simp only [if_true]
    omega
theorem drive_backW (w : W) : ∀ lot : List Str, drive w (back w lot) = (w.lg : Rat) * (weight w lot : Nat)
  | [] => by
    show (0 : Rat) = (w.lg : Rat) * ((0 : Nat) : Rat)
    rw [show ((0 : Nat) : Rat) = 0 from rfl, Rat.mul_zero]
  | n :: lot => by
    have ih := drive_backW w lot
    show (w.lg : Rat) * (wt w n : Nat) + drive w (back w lot) = _
    rw [ih]
    have : weight w (n :: lot) = wt w n + weight w lot := rfl
    rw [this, Rat.natCast_add]
    grind
theorem mkRat_lg (a b c : Nat) (hc : 0 < c) : mkRat ((a : Int) * (b : Int)) c = (a : Rat) * (b : Rat) / (c : Rat) := by
  rw [Rat.mkRat_eq_div, Rat.intCast_mul]
  rfl
theorem near_eq {w : W} {lot : List Str} {s : Stp} {F : Rat} (hw : Made w) (h : TOk w s) (hl : LotOk w lot) (hb : (lotB w lot s).isNone = false) : nearL w lot F s = atl (nearP w lot F s) := by
  have hs := still_eq hw h hl hb
  unfold nearL nearP
  rw [hs]
  cases ho : s.off with
  | true => rfl
  | false =>
    simp only [Bool.false_eq_true, if_false]
    have : F - mkRat ((w.lg : Int) * (weight w lot : Int)) (whole w lot) = behind w F (back w lot) := by
      unfold behind pull
      rw [drive_backW, back_names, mkRat_lg _ _ _ (whole_pos hw.ok lot)]
    rw [this]
    unfold least
    unfold atl
    split
    · split <;> first | rfl | grind
    · rfl
theorem rc_lt_atl {w : W} {n : Str} {x : Rat} : (rcOf w n : Rat) < atl x ↔ (rcOf w n : Rat) < x := by
  have := natR_nonneg (rcOf w n)
  unfold atl
  split <;> grind
/-- what the law tells of a step: the lot and the least front gap behind it -/
def bestD (w : W) (lot : List Str) (F : Rat) (s : Stp) : Dt := match bestF w lot F s with
  | none => .non
  | some q => .tup [names (lotF lot s), fr q]
theorem l_least_eq : f_l_least = f_lesser := rfl
theorem lotB_some {w : W} {lot : List Str} {s : Stp} (h : (lotB w lot s).isNone = false) : lotB w lot s = some (lotF lot s) := by
  unfold lotB at h ⊢
  split
  · split
    · rfl
    · rename_i h1 h2; rw [if_pos h1, if_neg h2] at h; cases h
  · rename_i h1; rw [if_neg h1] at h; cases h
theorem bestF_eq {w : W} {lot : List Str} {F : Rat} {s : Stp} : bestF w lot F s = (bestG w lot F s).map (behG w lot F s) := rfl
theorem nearL_B {w : W} (hw : w.Ok) {lot : List Str} (hl : LotOk w lot) {F : Rat} {n : Nat} (hF : B n F) (s : Stp) : B (n + 20) (nearL w lot F s) := by
  have := B_sub hF (nearM_B hw hl s)
  unfold nearL atl
  split
  · exact B_zero (by omega)
  · exact this.mono (by omega)
theorem near_on {w : W} {lot : List Str} {s : Stp} {F : Rat} (ho : s.off = false) : atl (nearP w lot F s) = nearP w lot F s := by
  unfold nearP
  rw [ho]
  simp only [Bool.false_eq_true, if_false]
  unfold least atl
  split
  · split <;> first | rfl | grind
  · rfl
theorem sp_l_best (S : Ss) {w : W} {s : Stp} {lot : List Str} {F : Rat} (hw : Made w) (h : TOk w s) (hl : LotOk w lot) (hF : B 1800 F) :
    f_l_best [.d (eW w), .d (names lot), .d (fr F), .d (eStp s)] S = some (.d (bestD w lot F s), S) := by
  have e1 := sp_l_after S (lot := lot) hw h (hl.sok hw) (by have := hl.len; omega)
  have e2 := sp_l_nearest S hw h hl (hF.mono (by decide))
  have e3 := sp_l_reach S hw h
  have e4 := sp_is_lesser S ((rc_B hw.ok s.n).mono (m := 4000) (by decide)) ((nearL_B hw.ok hl hF s).mono (m := 4000) (by decide))
  have e5 := sp_lesser S ((rc_B hw.ok s.n).mono (m := 4000) (by decide)) (hF.mono (m := 4000) (by decide))
  have e6 := isN_oD (S := S) (lotB w lot s)
  rw [← l_less_eq] at e4
  rw [← l_least_eq] at e5
  have eo := is_on (S := S) s
  unfold bestD bestF
  cases hb : (lotB w lot s).isNone with
  | true =>
    rw [hb] at e6
    have hg : bestG w lot F s = none := by unfold bestG; rw [hb]; rfl
    rw [hg]
    subst_eqs
    unfold c_l_best
    sizeOf_list_dec
    exact ⟨rfl, rfl⟩
  | false =>
    rw [hb] at e6
    rw [near_eq hw h hl hb] at e2 e4
    by_cases hlt : (rcOf w s.n : Rat) < nearP w lot F s
    · rw [decide_eq_true (rc_lt_atl.mpr hlt)] at e4
      have hg : bestG w lot F s = none := by unfold bestG; rw [decide_eq_true hlt, Bool.or_true]; rfl
      rw [hg]
      subst_eqs
      unfold c_l_best
      sizeOf_list_dec
      exact ⟨rfl, rfl⟩
    · rw [decide_eq_false (fun z => hlt (rc_lt_atl.mp z))] at e4
      have hg : bestG w lot F s = some (if s.off then minR (rcOf w s.n : Rat) F else nearP w lot F s) := by unfold bestG; rw [decide_eq_false hlt, hb]; rfl
      have hgB := bestG_B hw.ok hl hF hg
      have e7 := sp_l_behind S hw h hl hF (hgB.mono (by decide)) hb
      rw [lotB_some hb] at e1 e6
      change _ = some (R.d (names (lotF lot s)), S) at e1
      change fIsN S (R.d (names (lotF lot s))) _ = some (R.d (.bl false)) at e6
      rw [hg]
      cases ho : s.off with
      | true =>
        simp only [ho, if_true] at e7
        unfold behG minR at e7
        simp only [ho, Bool.not_true] at eo
        subst_eqs
        unfold c_l_best
        sizeOf_list_dec
        unfold minR
        rw [ho]
        exact ⟨rfl, rfl⟩
      | false =>
        rw [near_on ho] at e2 e4
        simp only [ho, Bool.false_eq_true, if_false] at e7
        unfold behG at e7
        simp only [ho, Bool.not_false] at eo
        subst_eqs
        unfold c_l_best
        sizeOf_list_dec
        rw [ho]
        exact ⟨rfl, rfl⟩
end OA
namespace OA
open PySem PySem.Spec PyProof.Rows L2
local macro_rules | `(tactic| subst_eqs) => `(tactic| first | refine wf_r0 (by simp only [List.map_cons, List.map_nil, List.length_cons, List.length_nil, List.replicate, List.cons_append, List.nil_append, Nat.reduceAdd, Nat.reduceSub]; rfl) ?_ | refine wf_r (by simp only [List.map_cons, List.map_nil, List.length_cons, List.length_nil, List.replicate, List.cons_append, List.nil_append, Nat.reduceAdd, Nat.reduceSub]; rfl) ?_)
local macro_rules | `(tactic| clean_wf) => `(tactic| try dsimp only [List.set_cons_zero, List.set_cons_succ])
local macro_rules | `(tactic| array_mem_dec) => `(tactic| first | with_reducible assumption | with_reducible exact st_zero | with_reducible exact st_one | with_reducible exact stp_zero | with_reducible exact stp_one | with_reducible exact fr_top | with_reducible exact fr_bot | with_reducible exact fAdd_int | with_reducible exact fSub_int | with_reducible exact fLt_int | with_reducible exact fGt_int | with_reducible exact fLe_int | with_reducible exact fGe_int | with_reducible exact fEq_int | with_reducible exact is_off _ | with_reducible exact is_on _ | with_reducible exact w_zero _ _ | with_reducible exact w_one _ _ | with_reducible exact w_two _ _ | with_reducible exact names_items _ | with_reducible exact rowsD_items _ | with_reducible exact fEq_fr | with_reducible exact fNe_fr | exact rfl)
local macro_rules | `(tactic| array_get_dec) => `(tactic| first | with_reducible apply we_K | ((with_reducible apply we_var); exact rfl) | with_reducible apply we_bin | with_reducible apply we_call | with_reducible apply wl_cons | with_reducible apply wl_nil | with_reducible apply ws_seq | with_reducible apply ws_set | ((with_reducible apply seqK_nx); clean_wf) | with_reducible apply seqK_ret | with_reducible apply ws_ret | with_reducible apply ws_if | with_reducible apply wt_tst | with_reducible apply ws_nil | with_reducible apply we_tup | with_reducible apply we_app | with_reducible apply we_if | with_reducible apply wt_and | with_reducible apply wt_or | with_reducible apply wt_not | with_reducible apply we_and | with_reducible apply we_or | with_reducible apply we_not | with_reducible apply ws_par | with_reducible apply ws_asg | with_reducible apply ws_expr | with_reducible apply ws_for | with_reducible apply we_lst | with_reducible apply wi_iter | with_reducible apply we_sl | with_reducible apply wo_no | with_reducible apply wo_part | with_reducible apply we_newL0b | with_reducible apply we_newL | with_reducible apply we_isi | with_reducible apply we_chain | ((with_reducible apply wf_of); focus (with_reducible assumption)) | with_reducible refine ⟨_, (by repeat (first | with_reducible exact dats_nil | with_reducible apply dats_cs)), by simp, ?_⟩ | with_reducible refine ⟨_, (by with_reducible assumption), ?_⟩ | with_reducible refine ⟨_, rfl, ?_⟩ | with_reducible refine ⟨_, (by array_mem_dec), ?_⟩ | ((with_reducible apply we_of); focus (with_reducible assumption)))
local macro_rules | `(tactic| sizeOf_list_dec) => `(tactic| repeat' (first | array_get_dec | with_reducible apply conj_T | with_reducible apply conj_F | with_reducible apply conj_T' | with_reducible apply conj_F' | with_reducible apply conj_nT | with_reducible apply conj_nF | with_reducible apply conj_nT' | with_reducible apply conj_nF' | (with_reducible apply conj_tf <;> intro _) | (with_reducible apply conj_ft <;> intro _)))
/-! ### none is better: what can be said of rows -/
theorem natR_pos {n : Nat} (h : 0 < n) : (0 : Rat) < (n : Rat) := by
  have : ((0 : Int) : Rat) < ((n : Int) : Rat) := Rat.intCast_lt_intCast.mpr (by omega)
  exact this
theorem le_div {a b c : Rat} (hc : 0 < c) : a ≤ b / c ↔ a * c ≤ b := by
  rw [← Rat.not_lt, ← Rat.not_lt, Rat.div_lt_iff hc]
theorem div_le {a b c : Rat} (hc : 0 < c) : b / c ≤ a ↔ b ≤ a * c := by
  constructor
  · intro h
    have := Rat.mul_le_mul_of_nonneg_right h (Rat.le_of_lt hc)
    rwa [Rat.div_mul_cancel (by grind)] at this
  · intro h
    have := div_le_div hc h
    rwa [Rat.mul_div_cancel (by grind)] at this
theorem eq_div {a b c : Rat} (hc : 0 < c) : a = b / c ↔ a * c = b := by
  constructor
  · intro h
    rw [h, Rat.div_mul_cancel (by grind)]
  · intro h
    rw [← h, Rat.mul_div_cancel (by grind)]
theorem drive_app (w : W) : ∀ a b : Rows, drive w (a ++ b) = drive w a + drive w b
  | [], b => by show drive w b = 0 + drive w b; grind
  | r :: a, b => by
    show r.2 * (wt w r.1 : Nat) + drive w (a ++ b) = (r.2 * (wt w r.1 : Nat) + drive w a) + drive w b
    rw [drive_app w a b]; grind
theorem drive_perm (w : W) {a b : Rows} (h : a.Perm b) : drive w a = drive w b := by
  induction h with
  | nil => rfl
  | cons x _ ih => show x.2 * (wt w x.1 : Nat) + _ = x.2 * (wt w x.1 : Nat) + _; rw [ih]
  | swap x y l =>
    show y.2 * (wt w y.1 : Nat) + (x.2 * (wt w x.1 : Nat) + drive w l) = x.2 * (wt w x.1 : Nat) + (y.2 * (wt w y.1 : Nat) + drive w l)
    grind
  | trans _ _ h1 h2 => exact h1.trans h2
theorem drive_rest (w : W) (mv : List Str) : ∀ rs : Rows, (∀ r ∈ rs, r.1 ∈ mv → r.2 = 0) → drive w (rest rs mv) = drive w rs
  | [], _ => rfl
  | r :: rs, h => by
    have ih := drive_rest w mv rs fun x hx => h x (List.mem_cons_of_mem _ hx)
    unfold rest at ih ⊢
    by_cases hm : r.1 ∈ mv
    · rw [List.filter_cons_of_neg (by simp [hm]), ih]
      show drive w rs = r.2 * (wt w r.1 : Nat) + drive w rs
      rw [h r List.mem_cons_self hm]; grind
    · rw [List.filter_cons_of_pos (by simp [hm])]
      show r.2 * (wt w r.1 : Nat) + drive w (rs.filter _) = r.2 * (wt w r.1 : Nat) + drive w rs
      rw [ih]
theorem rest_names (mv : List Str) (rs : Rows) : rnames (rest rs mv) = (rnames rs).filter fun x => !decide (x ∈ mv) := by
  unfold rest rnames
  rw [List.filter_map]
  rfl
theorem sortR_perm (rs : Rows) : (sortR rs).Perm rs := isortK_perm _ rs
theorem drive_zr (w : W) (mv : List Str) : drive w (zr mv) = 0 := drive_zero w mv
theorem whole_filter {w : W} {lot : List Str} {s : Stp} (hw : Made w) (h : TOk w s) (hl : LotOk w lot) (hb : (lotB w lot s).isNone = false) (ho : s.off = true) : whole w (lot.filter fun x => !decide (x ∈ s.mv)) = whole w lot - weight w s.mv := by
  have h1 := still_eq hw h hl hb
  have h2 : stillP lot s = lot.filter fun x => !decide (x ∈ s.mv) := by
    unfold stillP; rw [ho]; simp
  rw [h2, ho] at h1
  simp only [if_true] at h1
  unfold whole
  omega
theorem whole_on {w : W} {lot : List Str} {s : Stp} (rs : Rows) (hn : rnames rs = lot) : whole w (rnames (sortR (rs ++ zr s.mv))) = whole w lot + weight w s.mv := by
  have hp : (rnames (sortR (rs ++ zr s.mv))).Perm (lot ++ s.mv) := by
    have := (sortR_perm (rs ++ zr s.mv)).map (·.1)
    have e : (rs ++ zr s.mv).map (·.1) = lot ++ s.mv := by
      rw [List.map_append]
      show rnames rs ++ rnames (zr s.mv) = _
      rw [hn, zr_names]
    rw [e] at this
    exact this
  unfold whole
  rw [weight_perm w hp]
  unfold weight
  rw [List.map_append, List.sum_append]
  omega
/-- the front gap behind a step at a gap, whatever the rows are -/
theorem front_behG {w : W} {s : Stp} {x F : Rat} {rs rs' : Rows} (hw : Made w) (h : TOk w s) (hl : LotOk w (rnames rs)) (hx : x = behind w F rs) (hs : stepD w x rs s = some rs') : front w x rs' = behG w (rnames rs) F s x := by
  have hW := wholeR_pos hw.ok (rnames rs)
  have hd : drive w rs = (F - x) * (whole w (rnames rs) : Nat) := by
    rw [hx]
    unfold behind pull
    have : F - (F - drive w rs / (whole w (rnames rs) : Nat)) = drive w rs / (whole w (rnames rs) : Nat) := by grind
    rw [this, Rat.div_mul_cancel (by grind)]
  unfold stepD at hs
  split at hs
  · cases hs
  · rename_i hc
    rw [Bool.or_eq_true, not_or] at hc
    have hb : (lotB w (rnames rs) s).isNone = false := Bool.eq_false_iff.mpr hc.1
    unfold front behG pull
    cases ho : s.off with
    | true =>
      rw [ho] at hs
      simp only [if_true] at hs ⊢
      split at hs
      · rename_i ha
        cases hs
        have hz : ∀ r ∈ rs, r.1 ∈ s.mv → r.2 = 0 := fun r hr hm => by
          by_cases h0 : r.2 = 0
          · exact h0
          · have : r ∈ away rs s.mv := List.mem_filter.mpr ⟨hr, by simp [hm, h0]⟩
            rw [List.isEmpty_iff] at ha
            rw [ha] at this
            exact absurd this (by simp)
        rw [drive_rest w s.mv rs hz, rest_names, whole_filter hw h hl hb ho, hd]
        have hle := off_whole hw h hb ho
        have hrh := hw.ok.rh0
        have hp : (0 : Rat) < ((whole w (rnames rs) - weight w s.mv : Nat) : Rat) := natR_pos (by omega)
        rw [eq_div hp, Rat.add_mul, Rat.div_mul_cancel (by grind)]
        have hc : ((whole w (rnames rs) - weight w s.mv : Nat) : Rat) = (whole w (rnames rs) : Nat) - (weight w s.mv : Nat) := by
          have := Rat.natCast_add (whole w (rnames rs) - weight w s.mv) (weight w s.mv)
          rw [Nat.sub_add_cancel (by omega)] at this
          grind
        rw [hc]
        grind
      · cases hs
    | false =>
      rw [ho] at hs
      simp only [Bool.false_eq_true, if_false] at hs ⊢
      cases hs
      rw [whole_on rs rfl, drive_perm w (sortR_perm _), drive_app, drive_zr, hd]
      have hp : (0 : Rat) < ((whole w (rnames rs) + weight w s.mv : Nat) : Rat) := natR_pos (by have := whole_pos hw.ok (rnames rs); omega)
      rw [eq_div hp, Rat.add_mul, Rat.div_mul_cancel (by grind), Rat.natCast_add]
      grind
end OA
namespace OA
open PySem PySem.Spec PyProof.Rows L2
local macro_rules | `(tactic| subst_eqs) => `(tactic| first | refine wf_r0 (by simp only [List.map_cons, List.map_nil, List.length_cons, List.length_nil, List.replicate, List.cons_append, List.nil_append, Nat.reduceAdd, Nat.reduceSub]; rfl) ?_ | refine wf_r (by simp only [List.map_cons, List.map_nil, List.length_cons, List.length_nil, List.replicate, List.cons_append, List.nil_append, Nat.reduceAdd, Nat.reduceSub]; rfl) ?_)
local macro_rules | `(tactic| clean_wf) => `(tactic| try dsimp only [List.set_cons_zero, List.set_cons_succ])
local macro_rules | `(tactic| array_mem_dec) => `(tactic| first | with_reducible assumption | with_reducible exact st_zero | with_reducible exact st_one | with_reducible exact stp_zero | with_reducible exact stp_one | with_reducible exact fr_top | with_reducible exact fr_bot | with_reducible exact fAdd_int | with_reducible exact fSub_int | with_reducible exact fLt_int | with_reducible exact fGt_int | with_reducible exact fLe_int | with_reducible exact fGe_int | with_reducible exact fEq_int | with_reducible exact is_off _ | with_reducible exact is_on _ | with_reducible exact w_zero _ _ | with_reducible exact w_one _ _ | with_reducible exact w_two _ _ | with_reducible exact names_items _ | with_reducible exact rowsD_items _ | with_reducible exact fEq_fr | with_reducible exact fNe_fr | exact rfl)
local macro_rules | `(tactic| array_get_dec) => `(tactic| first | with_reducible apply we_K | ((with_reducible apply we_var); exact rfl) | with_reducible apply we_bin | with_reducible apply we_call | with_reducible apply wl_cons | with_reducible apply wl_nil | with_reducible apply ws_seq | with_reducible apply ws_set | ((with_reducible apply seqK_nx); clean_wf) | with_reducible apply seqK_ret | with_reducible apply ws_ret | with_reducible apply ws_if | with_reducible apply wt_tst | with_reducible apply ws_nil | with_reducible apply we_tup | with_reducible apply we_app | with_reducible apply we_if | with_reducible apply wt_and | with_reducible apply wt_or | with_reducible apply wt_not | with_reducible apply we_and | with_reducible apply we_or | with_reducible apply we_not | with_reducible apply ws_par | with_reducible apply ws_asg | with_reducible apply ws_expr | with_reducible apply ws_for | with_reducible apply we_lst | with_reducible apply wi_iter | with_reducible apply we_sl | with_reducible apply wo_no | with_reducible apply wo_part | with_reducible apply we_newL0b | with_reducible apply we_newL | with_reducible apply we_isi | with_reducible apply we_chain | ((with_reducible apply wf_of); focus (with_reducible assumption)) | with_reducible refine ⟨_, (by repeat (first | with_reducible exact dats_nil | with_reducible apply dats_cs)), by simp, ?_⟩ | with_reducible refine ⟨_, (by with_reducible assumption), ?_⟩ | with_reducible refine ⟨_, rfl, ?_⟩ | with_reducible refine ⟨_, (by array_mem_dec), ?_⟩ | ((with_reducible apply we_of); focus (with_reducible assumption)))
local macro_rules | `(tactic| sizeOf_list_dec) => `(tactic| repeat' (first | array_get_dec | with_reducible apply conj_T | with_reducible apply conj_F | with_reducible apply conj_T' | with_reducible apply conj_F' | with_reducible apply conj_nT | with_reducible apply conj_nF | with_reducible apply conj_nT' | with_reducible apply conj_nF' | (with_reducible apply conj_tf <;> intro _) | (with_reducible apply conj_ft <;> intro _)))
/-- the least gap, whatever the step -/
def raw (w : W) (lot : List Str) (F : Rat) (s : Stp) : Rat := F - (w.lg : Rat) * (weight w (stillP lot s) : Nat) / (whole w lot : Nat)
theorem raw_eq {w : W} {lot : List Str} {s : Stp} {F : Rat} (hw : Made w) (h : TOk w s) (hl : LotOk w lot) (hb : (lotB w lot s).isNone = false) : nearP w lot F s = if s.off then raw w lot F s else atl (raw w lot F s) := by
  have hs := still_eq hw h hl hb
  unfold nearP
  cases ho : s.off with
  | true =>
    rw [ho] at hs
    simp only [if_true] at hs ⊢
    rw [← hs, mkRat_lg _ _ _ (whole_pos hw.ok lot)]
    rfl
  | false =>
    simp only [Bool.false_eq_true, if_false]
    unfold least
    congr 1
    have hst : stillP lot s = lot := by unfold stillP; rw [ho]; simp
    unfold behind pull raw
    rw [drive_backW, back_names, hst]
theorem raw_le {w : W} (hw : w.Ok) (lot : List Str) (F : Rat) (s : Stp) : raw w lot F s ≤ F := by
  have h1 : (0 : Rat) ≤ (w.lg : Rat) * (weight w (stillP lot s) : Nat) := Rat.mul_nonneg (natR_nonneg _) (natR_nonneg _)
  have h2 := (le_div (a := 0) (wholeR_pos hw lot)).mpr (by rw [Rat.zero_mul]; exact h1)
  unfold raw
  grind
theorem near_ge {w : W} {lot : List Str} {s : Stp} {F : Rat} (hw : Made w) (h : TOk w s) (hl : LotOk w lot) (hb : (lotB w lot s).isNone = false) : raw w lot F s ≤ nearP w lot F s := by
  rw [raw_eq hw h hl hb]
  unfold atl
  split
  · exact Rat.le_refl
  · split <;> grind
theorem near_le {w : W} {lot : List Str} {s : Stp} {F : Rat} (hw : Made w) (h : TOk w s) (hl : LotOk w lot) (hF : 0 ≤ F) (hb : (lotB w lot s).isNone = false) : nearP w lot F s ≤ F := by
  have := raw_le hw.ok lot F s
  rw [raw_eq hw h hl hb]
  unfold atl
  split
  · exact this
  · split <;> grind
/-- what is so of a gap at which a step is best -/
structure GOk (w : W) (lot : List Str) (F : Rat) (s : Stp) (g : Rat) : Prop where
  raw : raw w lot F s ≤ g
  rc : g ≤ (rcOf w s.n : Rat)
  le : g ≤ F
  g0 : 0 ≤ g
theorem bestG_ok {w : W} {lot : List Str} {s : Stp} {F g : Rat} (hw : Made w) (h : TOk w s) (hl : LotOk w lot) (hF : 0 ≤ F) (hg : bestG w lot F s = some g) : (lotB w lot s).isNone = false ∧ GOk w lot F s g := by
  obtain ⟨hb, hlt, e⟩ := bestG_some hg
  have h1 := near_ge (F := F) hw h hl hb
  have h2 := near_le hw h hl hF hb
  have h3 := Rat.not_lt.mp hlt
  have h4 := natR_nonneg (rcOf w s.n)
  refine ⟨hb, ?_⟩
  cases ho : s.off with
  | true =>
    rw [ho] at e
    simp only [if_true] at e
    unfold minR at e
    subst e
    split <;> constructor <;> grind
  | false =>
    rw [ho] at e
    simp only [Bool.false_eq_true, if_false] at e
    have h5 : 0 ≤ nearP w lot F s := by
      rw [raw_eq hw h hl hb, ho]
      simp only [Bool.false_eq_true, if_false]
      unfold atl
      split <;> grind
    subst e
    exact ⟨h1, h3, h2, h5⟩
/-- a gap that is good for a step can't be bettered -/
theorem behG_best {w : W} {lot : List Str} {s : Stp} {F x : Rat} (hw : Made w) (h : TOk w s) (hl : LotOk w lot) (hF : 0 ≤ F) (hb : (lotB w lot s).isNone = false) (hx : GOk w lot F s x) : ∃ q, bestF w lot F s = some q ∧ q ≤ behG w lot F s x := by
  have hn : ¬ (rcOf w s.n : Rat) < nearP w lot F s := by
    have h1 := hx.raw
    have h2 := hx.rc
    have h3 := natR_nonneg (rcOf w s.n)
    rw [raw_eq hw h hl hb]
    unfold atl
    split
    · grind
    · split <;> grind
  have hg : bestG w lot F s = some (if s.off then minR (rcOf w s.n : Rat) F else nearP w lot F s) := by unfold bestG; rw [decide_eq_false hn, hb]; rfl
  refine ⟨_, by rw [bestF_eq, hg]; rfl, ?_⟩
  have hm := natR_nonneg (weight w s.mv)
  unfold behG
  cases ho : s.off with
  | true =>
    simp only [if_true]
    have hle := off_whole hw h hb ho
    have hrh := hw.ok.rh0
    have hp : (0 : Rat) < ((whole w lot - weight w s.mv : Nat) : Rat) := natR_pos (by omega)
    refine div_le_div hp ?_
    have : x ≤ minR (rcOf w s.n : Rat) F := by
      have h1 := hx.rc
      have h2 := hx.le
      unfold minR
      split <;> grind
    have := Rat.mul_le_mul_of_nonneg_right this hm
    grind
  | false =>
    simp only [Bool.false_eq_true, if_false]
    have hp : (0 : Rat) < ((whole w lot + weight w s.mv : Nat) : Rat) := natR_pos (by have := whole_pos hw.ok lot; omega)
    refine div_le_div hp ?_
    have : nearP w lot F s ≤ x := by
      have h1 := hx.raw
      have h2 := hx.g0
      rw [raw_eq hw h hl hb, ho]
      simp only [Bool.false_eq_true, if_false]
      unfold atl
      split <;> grind
    have := Rat.mul_le_mul_of_nonneg_right this hm
    grind
theorem stepD_some {w : W} {x : Rat} {rs rs' : Rows} {s : Stp} (hs : stepD w x rs s = some rs') : (lotB w (rnames rs) s).isNone = false ∧ x ≤ (rcOf w s.n : Rat) ∧ (s.off = true → ∀ r ∈ rs, r.1 ∈ s.mv → r.2 = 0) ∧ rs' = (if s.off then rest rs s.mv else sortR (rs ++ zr s.mv)) := by
  unfold stepD at hs
  split at hs
  · cases hs
  · rename_i hc
    rw [Bool.or_eq_true, not_or] at hc
    refine ⟨Bool.eq_false_iff.mpr hc.1, Rat.not_lt.mp (by simpa using hc.2), fun ho r hr hm => ?_, ?_⟩
    · rw [ho] at hs
      simp only [if_true] at hs
      split at hs
      · rename_i ha
        by_cases h0 : r.2 = 0
        · exact h0
        · have : r ∈ away rs s.mv := List.mem_filter.mpr ⟨hr, by simp [hm, h0]⟩
          rw [List.isEmpty_iff] at ha
          rw [ha] at this
          exact absurd this (by simp)
      · cases hs
    · cases ho : s.off with
      | true =>
        rw [ho] at hs
        simp only [if_true] at hs ⊢
        split at hs
        · cases hs; rfl
        · cases hs
      | false =>
        rw [ho] at hs
        simp only [Bool.false_eq_true, if_false] at hs ⊢
        cases hs; rfl
theorem drive_if (w : W) (P : Str → Bool) (p : Rat) : ∀ lot : List Str, drive w (lot.map fun n => (n, if P n then p else 0)) = p * (weight w (lot.filter P) : Nat)
  | [] => by
    show (0 : Rat) = p * ((0 : Nat) : Rat)
    rw [show ((0 : Nat) : Rat) = 0 from rfl, Rat.mul_zero]
  | n :: lot => by
    have ih := drive_if w P p lot
    show (if P n then p else 0) * (wt w n : Nat) + drive w (lot.map fun n => (n, if P n then p else 0)) = _
    rw [ih]
    cases hP : P n with
    | true =>
      rw [List.filter_cons_of_pos hP]
      have : weight w (n :: lot.filter P) = wt w n + weight w (lot.filter P) := rfl
      rw [this, Rat.natCast_add]
      simp only [if_true]
      grind
    | false =>
      rw [List.filter_cons_of_neg (by rw [hP]; simp)]
      simp only [Bool.false_eq_true, if_false]
      grind
theorem rowsB_if (w : W) (lot : List Str) (F : Rat) (s : Stp) (g : Rat) : rowsB w lot F s g = lot.map fun n => (n, if (!s.off || !decide (n ∈ s.mv)) then placeP w lot F s g else 0) := by
  unfold rowsB
  refine List.map_congr_left fun n hn => ?_
  have : (n ∈ stillP lot s) ↔ (!s.off || !decide (n ∈ s.mv)) = true := by
    unfold stillP
    rw [List.mem_filter]
    exact ⟨fun z => z.2, fun z => ⟨hn, z⟩⟩
  by_cases hm : n ∈ stillP lot s
  · rw [if_pos hm, if_pos (this.mp hm)]
  · rw [if_neg hm, if_neg (fun z => hm (this.mpr z))]
theorem drive_rowsB {w : W} {lot : List Str} {s : Stp} {F g : Rat} (hw : w.Ok) (hg : GOk w lot F s g) : drive w (rowsB w lot F s g) = (F - g) * (whole w lot : Nat) := by
  have hW := wholeR_pos hw lot
  rw [rowsB_if, drive_if]
  change placeP w lot F s g * (weight w (stillP lot s) : Nat) = _
  unfold placeP
  split
  · rename_i hp
    have := natR_pos hp
    rw [Rat.div_mul_cancel (by grind)]
  · rename_i hp
    have h0 : weight w (stillP lot s) = 0 := by omega
    have h1 := hg.raw
    have h2 := hg.le
    unfold raw at h1
    rw [h0] at h1 ⊢
    rw [show ((0 : Nat) : Rat) = 0 from rfl, Rat.mul_zero, Rat.div_def, Rat.zero_mul] at h1
    have : F - g = 0 := by grind
    rw [this, Rat.zero_mul, Rat.zero_mul]
theorem place_in' {w : W} {lot : List Str} {s : Stp} {F g : Rat} (hw : w.Ok) (hg : GOk w lot F s g) : In w (placeP w lot F s g) := by
  have hW := wholeR_pos hw lot
  have hle := hg.le
  have hr := hg.raw
  unfold placeP
  split
  · rename_i hp
    have hb := natR_pos hp
    refine ⟨(le_div hb).mpr ?_, (div_le hb).mpr ?_⟩
    · rw [Rat.zero_mul]
      exact Rat.mul_nonneg (by grind) (Rat.le_of_lt hW)
    · have h1 : (F - g) ≤ (w.lg : Rat) * (weight w (stillP lot s) : Nat) / (whole w lot : Nat) := by unfold raw at hr; grind
      exact (le_div hW).mp h1
  · exact ⟨Rat.le_refl, natR_nonneg _⟩
theorem rowsB_in {w : W} {lot : List Str} {s : Stp} {F g : Rat} (hw : w.Ok) (hg : GOk w lot F s g) : ∀ r ∈ rowsB w lot F s g, In w r.2 := fun r hr => by
  obtain ⟨n, _, rfl⟩ := List.mem_map.mp hr
  dsimp only
  split
  · exact place_in' hw hg
  · exact ⟨Rat.le_refl, natR_nonneg _⟩
theorem rowsB_behind {w : W} {lot : List Str} {s : Stp} {F g : Rat} (hw : w.Ok) (hg : GOk w lot F s g) : behind w F (rowsB w lot F s g) = g := by
  have hW := wholeR_pos hw lot
  unfold behind pull
  rw [drive_rowsB hw hg, rowsB_names, Rat.mul_div_cancel (by grind)]
  grind
theorem stepD_rowsB {w : W} {lot : List Str} {s : Stp} {F g : Rat} (hb : (lotB w lot s).isNone = false) (hg : GOk w lot F s g) : ∃ rs', stepD w g (rowsB w lot F s g) s = some rs' := by
  have hn : ¬ (rcOf w s.n : Rat) < g := Rat.not_lt.mpr hg.rc
  unfold stepD
  rw [rowsB_names, hb, decide_eq_false hn]
  simp only [Bool.or_false, Bool.false_eq_true, if_false]
  cases ho : s.off with
  | false => exact ⟨_, rfl⟩
  | true =>
    have ha : (away (rowsB w lot F s g) s.mv).isEmpty = true := by
      rw [List.isEmpty_iff]
      unfold away
      rw [List.filter_eq_nil_iff]
      intro r hr
      rw [rowsB_if] at hr
      obtain ⟨n, _, rfl⟩ := List.mem_map.mp hr
      by_cases hm : n ∈ s.mv <;> simp [hm, ho]
    rw [ha]
    exact ⟨_, rfl⟩
end OA
namespace OA
open PySem PySem.Spec PyProof.Rows L2
local macro_rules | `(tactic| subst_eqs) => `(tactic| first | refine wf_r0 (by simp only [List.map_cons, List.map_nil, List.length_cons, List.length_nil, List.replicate, List.cons_append, List.nil_append, Nat.reduceAdd, Nat.reduceSub]; rfl) ?_ | refine wf_r (by simp only [List.map_cons, List.map_nil, List.length_cons, List.length_nil, List.replicate, List.cons_append, List.nil_append, Nat.reduceAdd, Nat.reduceSub]; rfl) ?_)
local macro_rules | `(tactic| clean_wf) => `(tactic| try dsimp only [List.set_cons_zero, List.set_cons_succ])
local macro_rules | `(tactic| array_mem_dec) => `(tactic| first | with_reducible assumption | with_reducible exact st_zero | with_reducible exact st_one | with_reducible exact stp_zero | with_reducible exact stp_one | with_reducible exact fr_top | with_reducible exact fr_bot | with_reducible exact fAdd_int | with_reducible exact fSub_int | with_reducible exact fLt_int | with_reducible exact fGt_int | with_reducible exact fLe_int | with_reducible exact fGe_int | with_reducible exact fEq_int | with_reducible exact is_off _ | with_reducible exact is_on _ | with_reducible exact w_zero _ _ | with_reducible exact w_one _ _ | with_reducible exact w_two _ _ | with_reducible exact names_items _ | with_reducible exact rowsD_items _ | with_reducible exact fEq_fr | with_reducible exact fNe_fr | exact rfl)
local macro_rules | `(tactic| array_get_dec) => `(tactic| first | with_reducible apply we_K | ((with_reducible apply we_var); exact rfl) | with_reducible apply we_bin | with_reducible apply we_call | with_reducible apply wl_cons | with_reducible apply wl_nil | with_reducible apply ws_seq | with_reducible apply ws_set | ((with_reducible apply seqK_nx); clean_wf) | with_reducible apply seqK_ret | with_reducible apply ws_ret | with_reducible apply ws_if | with_reducible apply wt_tst | with_reducible apply ws_nil | with_reducible apply we_tup | with_reducible apply we_app | with_reducible apply we_if | with_reducible apply wt_and | with_reducible apply wt_or | with_reducible apply wt_not | with_reducible apply we_and | with_reducible apply we_or | with_reducible apply we_not | with_reducible apply ws_par | with_reducible apply ws_asg | with_reducible apply ws_expr | with_reducible apply ws_for | with_reducible apply we_lst | with_reducible apply wi_iter | with_reducible apply we_sl | with_reducible apply wo_no | with_reducible apply wo_part | with_reducible apply we_newL0b | with_reducible apply we_newL | with_reducible apply we_isi | with_reducible apply we_chain | ((with_reducible apply wf_of); focus (with_reducible assumption)) | with_reducible refine ⟨_, (by repeat (first | with_reducible exact dats_nil | with_reducible apply dats_cs)), by simp, ?_⟩ | with_reducible refine ⟨_, (by with_reducible assumption), ?_⟩ | with_reducible refine ⟨_, rfl, ?_⟩ | with_reducible refine ⟨_, (by array_mem_dec), ?_⟩ | ((with_reducible apply we_of); focus (with_reducible assumption)))
local macro_rules | `(tactic| sizeOf_list_dec) => `(tactic| repeat' (first | array_get_dec | with_reducible apply conj_T | with_reducible apply conj_F | with_reducible apply conj_T' | with_reducible apply conj_F' | with_reducible apply conj_nT | with_reducible apply conj_nF | with_reducible apply conj_nT' | with_reducible apply conj_nF' | (with_reducible apply conj_tf <;> intro _) | (with_reducible apply conj_ft <;> intro _)))
/-! ### what is whole, so many times -/
/-- q is whole when taken D times -/
def IntD (D : Nat) (q : Rat) : Prop := ∃ z : Int, q * (D : Rat) = (z : Rat)
def Q4 (q : Rat) : Prop := IntD 4 q
theorem IntD.add {D : Nat} {p q : Rat} (hp : IntD D p) (hq : IntD D q) : IntD D (p + q) := by
  obtain ⟨a, ha⟩ := hp; obtain ⟨b, hb⟩ := hq
  exact ⟨a + b, by rw [Rat.add_mul, ha, hb, Rat.intCast_add]⟩
theorem IntD.sub {D : Nat} {p q : Rat} (hp : IntD D p) (hq : IntD D q) : IntD D (p - q) := by
  obtain ⟨a, ha⟩ := hp; obtain ⟨b, hb⟩ := hq
  exact ⟨a - b, by rw [Rat.sub_eq_add_neg, Rat.add_mul, Rat.neg_mul, ha, hb, ← Rat.sub_eq_add_neg, Rat.intCast_sub]⟩
theorem IntD.up {D : Nat} {q : Rat} (h : IntD D q) (m : Nat) : IntD (D * m) q := by
  obtain ⟨a, ha⟩ := h
  refine ⟨a * (m : Int), ?_⟩
  rw [Rat.natCast_mul, ← Rat.mul_assoc, ha, Rat.intCast_mul]
  rfl
theorem IntD.dvd {D E : Nat} {q : Rat} (h : IntD D q) (hd : D ∣ E) : IntD E q := by
  obtain ⟨m, rfl⟩ := hd
  exact h.up m
theorem IntD.mulN {D : Nat} {q : Rat} (h : IntD D q) (m : Nat) : IntD D (q * (m : Nat)) := by
  obtain ⟨a, ha⟩ := h
  refine ⟨a * (m : Int), ?_⟩
  rw [Rat.mul_assoc, Rat.mul_comm (m : Rat), ← Rat.mul_assoc, ha, Rat.intCast_mul]
  rfl
theorem IntD.over {D : Nat} {q : Rat} (h : IntD D q) {m : Nat} (hm : 0 < m) : IntD (D * m) (q / (m : Nat)) := by
  obtain ⟨a, ha⟩ := h
  have : ((m : Nat) : Rat) ≠ 0 := by
    intro z
    have h2 : ((m : Int) : Rat) = ((0 : Int) : Rat) := z
    have := Rat.intCast_inj.mp h2
    omega
  refine ⟨a, ?_⟩
  rw [Rat.natCast_mul, ← ha]
  grind
theorem IntD.nat (n : Nat) {D : Nat} : IntD D (n : Rat) := ⟨(n : Int) * (D : Int), by rw [Rat.intCast_mul]; rfl⟩
theorem IntD.zero {D : Nat} : IntD D 0 := ⟨0, by rw [Rat.zero_mul]; rfl⟩
theorem IntD.den {D : Nat} {q : Rat} (h : IntD D q) (hD : 0 < D) : q.den ∣ D := by
  obtain ⟨a, ha⟩ := h
  have hq : q = mkRat a D := by
    rw [Rat.mkRat_eq_div, ← ha]
    have : ((D : Nat) : Rat) ≠ 0 := by
      intro z
      have h2 : ((D : Int) : Rat) = ((0 : Int) : Rat) := z
      have := Rat.intCast_inj.mp h2
      omega
    rw [Rat.mul_div_cancel this]
  rw [hq, Rat.den_mkRat, if_neg (by omega)]
  exact Nat.div_dvd_of_dvd (Nat.gcd_dvd_left _ _)
theorem abs_num {q : Rat} {m : Nat} (h1 : q ≤ (m : Nat)) (h2 : -((m : Nat) : Rat) ≤ q) : q.num.natAbs ≤ m * q.den := by
  have hd : (0 : Rat) < ((q.den : Nat) : Rat) := by
    have : ((0 : Int) : Rat) < ((q.den : Int) : Rat) := Rat.intCast_lt_intCast.mpr (by have := q.den_pos; omega)
    exact this
  have e : (q.num : Rat) = q * (q.den : Nat) := by
    have e0 : (q.num : Rat) / ((q.den : Nat) : Rat) = q := by rw [← Rat.mkRat_eq_div, Rat.mkRat_self]
    have e1 : (q.num : Rat) / ((q.den : Nat) : Rat) * (q.den : Nat) = q.num := Rat.div_mul_cancel (by grind)
    rw [e0] at e1
    exact e1.symm
  have a1 : (q.num : Rat) ≤ (((m * q.den : Nat) : Int) : Rat) := by
    rw [e]
    have := Rat.mul_le_mul_of_nonneg_right h1 (Rat.le_of_lt hd)
    have e2 : (((m * q.den : Nat) : Int) : Rat) = (m : Rat) * (q.den : Nat) := by rw [Int.natCast_mul, Rat.intCast_mul]; rfl
    rw [e2]; exact this
  have a2 : (((-(m * q.den : Nat) : Int)) : Rat) ≤ (q.num : Rat) := by
    rw [e]
    have := Rat.mul_le_mul_of_nonneg_right h2 (Rat.le_of_lt hd)
    have e2 : (((-(m * q.den : Nat) : Int)) : Rat) = -((m : Nat) : Rat) * (q.den : Nat) := by rw [Rat.intCast_neg, Int.natCast_mul, Rat.intCast_mul, Rat.neg_mul]; rfl
    rw [e2]; exact this
  have b1 := Rat.intCast_le_intCast.mp a1
  have b2 := Rat.intCast_le_intCast.mp a2
  omega
theorem IntD.B {D n m k : Nat} {q : Rat} (h : IntD D q) (hD : 0 < D) (hn : D < 2 ^ n) (h1 : q ≤ (m : Nat)) (h2 : -((m : Nat) : Rat) ≤ q) (hm : m ≤ 2 ^ k) : B (n + k) q := by
  have hd := Nat.le_of_dvd hD (h.den hD)
  have ha := abs_num h1 h2
  refine ⟨?_, ?_⟩
  · refine Nat.lt_of_le_of_lt ha ?_
    rw [Nat.pow_add, Nat.mul_comm]
    refine Nat.lt_of_le_of_lt (Nat.mul_le_mul hd hm) ?_
    exact Nat.mul_lt_mul_of_pos_right hn (Nat.two_pow_pos k)
  · exact Nat.lt_of_lt_of_le (Nat.lt_of_le_of_lt hd hn) (Nat.pow_le_pow_right (by decide) (by omega))
theorem half_int (r : Nat) : IntD 2 (mkRat (r : Int) 2) := ⟨(r : Int), by rw [Rat.mkRat_eq_div]; exact Rat.div_mul_cancel (by decide)⟩
theorem half_le {r : Nat} (h : r ≤ 1060) : mkRat (r : Int) 2 ≤ ((531 : Nat) : Rat) := by
  rw [Rat.mkRat_eq_div]
  have h1 : ((r : Int) : Rat) ≤ (((1060 : Nat) : Int) : Rat) := Rat.intCast_le_intCast.mpr (by omega)
  have h2 : (((1060 : Nat) : Int) : Rat) = 1060 := rfl
  have h3 : ((531 : Nat) : Rat) = 531 := rfl
  have h4 : ((2 : Nat) : Rat) = 2 := rfl
  rw [h3, h4]
  grind
theorem Q4.B {w : W} (hw : w.Ok) {q : Rat} (h : Q4 q) (hi : In w q) : B 11 q := by
  have hl : (w.lg : Rat) ≤ ((500 : Nat) : Rat) := by
    have : ((w.lg : Int) : Rat) ≤ ((500 : Int) : Rat) := Rat.intCast_le_intCast.mpr (by have := hw.lg; omega)
    exact this
  have hd := Nat.le_of_dvd (by decide) (IntD.den h (by decide))
  have ha := abs_num (q := q) (m := 500) (Rat.le_trans hi.2 hl) (by have := hi.1; have h3 : ((500 : Nat) : Rat) = 500 := rfl; rw [h3]; grind)
  have hm : 500 * q.den ≤ 500 * 4 := Nat.mul_le_mul_left _ hd
  refine ⟨?_, ?_⟩
  · have : (2 : Nat) ^ 11 = 2048 := by decide
    omega
  · have : (2 : Nat) ^ 11 = 2048 := by decide
    omega
/-- a standing as the laws make it, also at an edge -/
structure NOkay (w : W) (g : Rat) (rs : Rows) : Prop where
  g0 : 0 ≤ g
  gm : g ≤ ((531 : Nat) : Rat)
  gD : ∃ D : Nat, 0 < D ∧ D < 2 ^ 14 ∧ IntD D g
  lot : LOk w (rnames rs)
  rows : ∀ r ∈ rs, In w r.2 ∧ Q4 r.2
theorem sp_place4 (D X : Ss) (p : Nat × Nat) (hp : okp p) (w : W) (h : w.Ok) : ∃ q z, okp z ∧ In w q ∧ Q4 q ∧ f_l_place [.c D.length, .d (eW w)] (sb D p X) = some (.d (fr q), sb D z X) := by
  obtain ⟨x, z, hx, hz, e⟩ := sp_of D X p hp [.int 0, .int 0, .int 1, .int 2, .int 3, .int 4] (by simp) (by decide)
  obtain ⟨k, hk, rfl⟩ : ∃ k : Nat, k ≤ 4 ∧ x = .int (k : Int) := by
    simp at hx
    rcases hx with rfl | rfl | rfl | rfl | rfl
    · exact ⟨0, by decide, rfl⟩
    · exact ⟨1, by decide, rfl⟩
    · exact ⟨2, by decide, rfl⟩
    · exact ⟨3, by decide, rfl⟩
    · exact ⟨4, by decide, rfl⟩
  have hl := h.lg
  have hlk : w.lg * k < 2 ^ 11 := by
    have := Nat.mul_le_mul hl hk
    simp; omega
  refine ⟨_, z, hz, place_in w k hk, ⟨(w.lg : Int) * (k : Int), by rw [Rat.mkRat_eq_div]; exact Rat.div_mul_cancel (by decide)⟩, ?_⟩
  refine run_bag0 (en := [some (.c D.length), some (.d (eW w))]) ?_
  have hm := fMul_s (S := sb D z X) (i := w.lg) (j := k) (by simp; omega) (by simp; omega)
  rw [Int.natCast_mul] at hm
  have hlow := sp_lowest (sb D z X) ((w.lg : Int) * (k : Int)) 4 (by decide) (m8 (by decide))
  show sCons _ _ _ _ = _
  exact e_rets (e_call (e_cons (e_bin (e_bin (e_bin (e_var rfl) (e_K (.int 0)) rfl) (e_K (.int 0)) rfl) (e_call (e_cons (e_var rfl) (e_cons (show cLst _ _ _ = some (.d (.lst [.int 0, .int 0, .int 1, .int 2, .int 3, .int 4]), _) from rfl) e_nil)) e) hm) (e_cons (e_K (.int 4)) e_nil)) hlow)
theorem rows_loop4 (D X : Ss) (w : W) (h : w.Ok) (d : Dt) (u : Option R) : ∀ (lot : List Str) (p : Nat × Nat), okp p → ∃ (rs : Rows) (q : Nat × Nat), okp q ∧ rnames rs = lot ∧ (∀ r ∈ rs, In w r.2 ∧ Q4 r.2) ∧
    compN [3] (gNm 3) kYes (cTup (cCons (cVar 3) (cCons (cCall f_l_place (cCons (cVar 0) (cCons (cVar 1) cNil))) cNil))) (lot.map .str) [some (.c D.length), some (.d (eW w)), some (.d d), u] (sb D p X) = some (rs.map eRow, sb D q X)
  | [], p, hp => ⟨[], p, hp, rfl, by simp, rfl⟩
  | n :: lot, p, hp => by
    obtain ⟨x, z, hz, hi, hb, e⟩ := sp_place4 D X p hp w h
    obtain ⟨rs, q, hq, h1, h2, e2⟩ := rows_loop4 D X w h d u lot z hz
    refine ⟨(n, x) :: rs, q, hq, by rw [← h1]; rfl, ?_, ?_⟩
    · intro r hr
      rcases List.mem_cons.mp hr with rfl | hr
      · exact ⟨hi, hb⟩
      · exact h2 r hr
    · have et : cTup (cCons (cVar 3) (cCons (cCall f_l_place (cCons (cVar 0) (cCons (cVar 1) cNil))) cNil)) [some (.c D.length), some (.d (eW w)), some (.d d), some (.d (.str n))] (sb D p X) = some (.d (eRow (n, x)), sb D z X) :=
        e_tup (e_cons (e_var rfl) (e_cons (e_call (e_cons (e_var rfl) (e_cons (e_var rfl) e_nil)) e) e_nil)) rfl (by simp)
      rw [List.map_cons]
      unfold compN
      simp [gNm, wipeE, kYes, et, e2]
theorem sp_rows4 (D X : Ss) (p : Nat × Nat) (hp : okp p) (w : W) (h : w.Ok) (d : Dt) (lot : List Str) (hd : itemsOf d = some (lot.map .str)) : ∃ (rs : Rows) (q : Nat × Nat), okp q ∧ rnames rs = lot ∧ (∀ r ∈ rs, In w r.2 ∧ Q4 r.2) ∧
    f_l_rows [.c D.length, .d (eW w), .d d] (sb D p X) = some (.d (rowsD rs), sb D q X) := by
  obtain ⟨rs, q, hq, h1, h2, e⟩ := rows_loop4 D X w h d none lot p hp
  refine ⟨rs, q, hq, h1, h2, ?_⟩
  refine run_bag0 (en := [some (.c D.length), some (.d (eW w)), some (.d d), none]) ?_
  show sCons _ _ _ _ = _
  exact e_rets (e_app (e_cons (e_compS (e_iter (e_var rfl) hd) e) e_nil) (tup_rows rs _))
theorem sp_standing4 (D X : Ss) (p : Nat × Nat) (hp : okp p) (w : W) (h : Made w) : ∃ (g : Rat) (rs : Rows) (q : Nat × Nat), okp q ∧ NOkay w g rs ∧ f_l_standing [.c D.length, .d (eW w)] (sb D p X) = some (.d (eSt g rs), sb D q X) := by
  have hlg := h.ok.lg
  obtain ⟨r1, q1, hq1, hr1, e1⟩ := sp_take D X p hp 3 (by decide) (m8 (by decide))
  have hw : ∃ wide : Nat, wide ≤ 500 ∧ fIx (sb D q1 X) (.d (.lst [.int 4, .int (w.lg : Int), .int 60])) (.d (.int (r1 : Int))) = some (.d (.int (wide : Int))) := by
    rw [fIx_lst (by simpa using hr1)]
    match r1, hr1 with
    | 0, _ => exact ⟨4, by decide, rfl⟩
    | 1, _ => exact ⟨w.lg, hlg, rfl⟩
    | 2, _ => exact ⟨60, by decide, rfl⟩
  obtain ⟨wide, hwide, ew⟩ := hw
  obtain ⟨r2, q2, hq2, hr2, e2⟩ := sp_take D X q1 hq1 (2 * wide + 1) (by omega) (m8 (by omega))
  obtain ⟨lot, q3, hq3, hl, e3⟩ := sp_lot D X q2 hq2 w h
  obtain ⟨rs, q4, hq4, hn, hrs, e4⟩ := sp_rows4 D X q3 hq3 w h.ok (names lot) lot rfl
  refine ⟨mkRat (r2 : Int) 2, rs, q4, hq4, ⟨mkRat_nonneg' (by decide), half_le (by omega), ⟨2, by decide, by decide, half_int _⟩, by rw [hn]; exact hl, hrs⟩, ?_⟩
  refine run_bag0 (en := [some (.c D.length), some (.d (eW w)), some (.d (.int (wide : Int))), some (.d (fr (mkRat (r2 : Int) 2)))]) ?_
  have hm := fMul_s (S := sb D q1 X) (i := 2) (j := wide) (by decide) (by omega)
  have hlow := sp_lowest (sb D q2 X) (r2 : Int) 2 (by decide) (m8 (by decide))
  show sCons _ _ _ _ = _
  refine e_seqR (e_set (e_bin (show cLst _ _ _ = some (.d (.lst [.int 4, .int (w.lg : Int), .int 60]), _) from rfl) (e_call (e_cons (e_var rfl) (e_cons (e_K _) e_nil)) e1) ew)) ?_
  refine e_seqR (e_set (e_call (e_cons (e_call (e_cons (e_var rfl) (e_cons (e_bin (e_bin (e_K (.int 2)) (e_var rfl) hm) (e_K (.int 1)) (show fAdd _ _ _ = some (.d (.int ((2 * wide + 1 : Nat) : Int))) from rfl)) e_nil)) e2) (e_cons (e_K (.int 2)) e_nil)) hlow)) ?_
  exact e_rets (e_tup (e_cons (e_var rfl) (e_cons (e_call (e_cons (e_var rfl) (e_cons (e_var rfl) (e_cons (e_call (e_cons (e_var rfl) (e_cons (e_var rfl) e_nil)) e3) e_nil))) e4) e_nil)) rfl (by simp))
end OA
namespace OA
open PySem PySem.Spec PyProof.Rows L2
local macro_rules | `(tactic| subst_eqs) => `(tactic| first | refine wf_r0 (by simp only [List.map_cons, List.map_nil, List.length_cons, List.length_nil, List.replicate, List.cons_append, List.nil_append, Nat.reduceAdd, Nat.reduceSub]; rfl) ?_ | refine wf_r (by simp only [List.map_cons, List.map_nil, List.length_cons, List.length_nil, List.replicate, List.cons_append, List.nil_append, Nat.reduceAdd, Nat.reduceSub]; rfl) ?_)
local macro_rules | `(tactic| clean_wf) => `(tactic| try dsimp only [List.set_cons_zero, List.set_cons_succ])
local macro_rules | `(tactic| array_mem_dec) => `(tactic| first | with_reducible assumption | with_reducible exact st_zero | with_reducible exact st_one | with_reducible exact stp_zero | with_reducible exact stp_one | with_reducible exact fr_top | with_reducible exact fr_bot | with_reducible exact fAdd_int | with_reducible exact fSub_int | with_reducible exact fLt_int | with_reducible exact fGt_int | with_reducible exact fLe_int | with_reducible exact fGe_int | with_reducible exact fEq_int | with_reducible exact is_off _ | with_reducible exact is_on _ | with_reducible exact w_zero _ _ | with_reducible exact w_one _ _ | with_reducible exact w_two _ _ | with_reducible exact names_items _ | with_reducible exact rowsD_items _ | with_reducible exact fEq_fr | with_reducible exact fNe_fr | exact rfl)
local macro_rules | `(tactic| array_get_dec) => `(tactic| first | with_reducible apply we_K | ((with_reducible apply we_var); exact rfl) | with_reducible apply we_bin | with_reducible apply we_call | with_reducible apply wl_cons | with_reducible apply wl_nil | with_reducible apply ws_seq | with_reducible apply ws_set | ((with_reducible apply seqK_nx); clean_wf) | with_reducible apply seqK_ret | with_reducible apply ws_ret | with_reducible apply ws_if | with_reducible apply wt_tst | with_reducible apply ws_nil | with_reducible apply we_tup | with_reducible apply we_app | with_reducible apply we_if | with_reducible apply wt_and | with_reducible apply wt_or | with_reducible apply wt_not | with_reducible apply we_and | with_reducible apply we_or | with_reducible apply we_not | with_reducible apply ws_par | with_reducible apply ws_asg | with_reducible apply ws_expr | with_reducible apply ws_for | with_reducible apply we_lst | with_reducible apply wi_iter | with_reducible apply we_sl | with_reducible apply wo_no | with_reducible apply wo_part | with_reducible apply we_newL0b | with_reducible apply we_newL | with_reducible apply we_isi | with_reducible apply we_chain | ((with_reducible apply wf_of); focus (with_reducible assumption)) | with_reducible refine ⟨_, (by repeat (first | with_reducible exact dats_nil | with_reducible apply dats_cs)), by simp, ?_⟩ | with_reducible refine ⟨_, (by with_reducible assumption), ?_⟩ | with_reducible refine ⟨_, rfl, ?_⟩ | with_reducible refine ⟨_, (by array_mem_dec), ?_⟩ | ((with_reducible apply we_of); focus (with_reducible assumption)))
local macro_rules | `(tactic| sizeOf_list_dec) => `(tactic| repeat' (first | array_get_dec | with_reducible apply conj_T | with_reducible apply conj_F | with_reducible apply conj_T' | with_reducible apply conj_F' | with_reducible apply conj_nT | with_reducible apply conj_nF | with_reducible apply conj_nT' | with_reducible apply conj_nF' | (with_reducible apply conj_tf <;> intro _) | (with_reducible apply conj_ft <;> intro _)))
/-! ### drawing, from behind -/
section
variable {Q : R → Ss → Prop} {D X : Ss} {p : Nat × Nat}
theorem wf_take {m : Nat} (hp : okp p) (hm : 0 < m) (hz : m < 2 ^ 64) (k : ∀ r q, okp q → r < m → Q (.d (.int (r : Int))) (sb D q X)) : WF f_l_take [.c D.length, .d (.int (m : Int))] (sb D p X) Q := by
  obtain ⟨r, q, hq, hr, e⟩ := sp_take D X p hp m hm (m8 hz)
  exact ⟨_, _, e, k r q hq hr⟩
theorem wf_of' {xs : List Dt} (hp : okp p) (hx : xs ≠ []) (hl : xs.length < 2 ^ 64) (k : ∀ x q, x ∈ xs → okp q → Q (.d x) (sb D q X)) : WF f_l_of [.c D.length, .d (.lst xs)] (sb D p X) Q := by
  obtain ⟨x, q, hx, hq, e⟩ := sp_of D X p hp xs hx hl
  exact ⟨_, _, e, k x q hx hq⟩
theorem wf_standing {w : W} (hp : okp p) (h : Made w) (k : ∀ g rs q, okp q → NOkay w g rs → Q (.d (eSt g rs)) (sb D q X)) : WF f_l_standing [.c D.length, .d (eW w)] (sb D p X) Q := by
  obtain ⟨g, rs, q, hq, hs, e⟩ := sp_standing4 D X p hp w h
  exact ⟨_, _, e, k g rs q hq hs⟩
theorem wf_world {mo ml : Nat} (hp : okp p) (h1 : 1 ≤ mo) (h2 : mo ≤ 4) (h3 : ml ≤ 2) (k : ∀ w q, okp q → Made w → Q (.d (eW w)) (sb D q X)) : WF f_l_world [.c D.length, .d (.int (mo : Int)), .d (.int (ml : Int))] (sb D p X) Q := by
  obtain ⟨w, q, hq, hw, e⟩ := sp_world D X p hp mo ml h1 h2 h3
  exact ⟨_, _, e, k w q hq hw⟩
theorem wf_bag {ns : List Int} {k : Nat} (hk : k < 2 ^ 20) (h : ∀ p, okp p → Q (.c D.length) (sb D p [])) : WF f_l_bag [.s ns, .d (.int (k : Int))] D Q := by
  obtain ⟨p, hp, e⟩ := sp_bag D ns k hk
  exact ⟨_, _, e, h p hp⟩
/-- a def run beside a bag -/
theorem wf_rb {N : Nat} {rs : List R} {c1 : CdS} {en0 : En} (he : rs.map some ++ List.replicate (N - rs.length) none = en0) (h : WS c1 en0 (sb D p X) fun fl _ S' => ∃ x q Y, fl = .ret (.d x) ∧ S' = sb D q (X ++ Y) ∧ Q (.d x) (sb D q X)) : WF (runF N false c1) rs (sb D p X) Q :=
  wf_r he (ws_mono h fun fl en S' ⟨x, q, Y, e1, e2, hq⟩ => ⟨x, e1, by rw [e2, sb_take]; exact hq⟩)
end
theorem NOkay.gB {w : W} {g : Rat} {rs : Rows} (h : NOkay w g rs) : B 40 g := by
  obtain ⟨D, h0, h1, h2⟩ := h.gD
  have h3 := h.g0
  have h4 : ((531 : Nat) : Rat) = 531 := rfl
  exact (h2.B (k := 10) h0 h1 h.gm (by rw [h4]; grind) (by decide)).mono (by decide)
theorem q4_rok {w : W} {rs : Rows} (hw : w.Ok) (h : LOk w (rnames rs)) (hr : ∀ r ∈ rs, In w r.2 ∧ Q4 r.2) : ROk w 11 rs :=
  ⟨fun r hr => h.mem _ (List.mem_map.mpr ⟨r, hr, rfl⟩), fun r h => (hr r h).2.B hw (hr r h).1, by have := h.len hw; simpa [rnames] using this, h.nd hw⟩
theorem NOkay.rok {w : W} {g : Rat} {rs : Rows} (h : NOkay w g rs) (hw : w.Ok) : ROk w 11 rs := q4_rok hw h.lot h.rows
theorem fNe_nilT {S : Ss} {xs : List Str} (h : SOk xs) : fNe S (.d (names xs)) (.d (.tup [])) = some (.d (.bl (!xs.isEmpty))) := by
  have hz : Sh 1 (.tup []) := Sh.tup (n := 0) (by simp)
  rw [fNe_sh (show Sh 1 (names xs) from h.tup) hz]
  cases xs <;> rfl
theorem zr_ok {w : W} {lot : List Str} (h : LOk w lot) : NOkay w 0 (zr lot) := ⟨Rat.le_refl, natR_nonneg _, ⟨1, by decide, by decide, IntD.zero⟩, by rw [zr_names]; exact h, fun r hr => by
  obtain ⟨n, _, rfl⟩ := List.mem_map.mp hr
  exact ⟨⟨Rat.le_refl, natR_nonneg _⟩, IntD.zero⟩⟩
theorem half_is : Dt.tup [.int 1, .int 2] = fr (mkRat 1 2) := rfl
theorem wf_near {Q : R → Ss → Prop} {D X : Ss} {p : Nat × Nat} {w : W} (hp : okp p) (hw : Made w) (k : ∀ g rs q, okp q → NOkay w g rs → Q (.d (eSt g rs)) (sb D q X)) : WF f_l_near_standing [.c D.length, .d (eW w)] (sb D p X) Q := by
  refine wf_rb (by simp only [List.map_cons, List.map_nil, List.length_cons, List.length_nil, List.replicate, List.cons_append, List.nil_append, Nat.reduceAdd, Nat.reduceSub]; rfl) ?_
  unfold c_l_near_standing
  sizeOf_list_dec
  refine wf_standing hp hw fun g st q hq hs => ?_
  have e1 : f_l_aboard [.d (eSt g st)] (sb D q X) = some (.d (names (rnames st)), sb D q X) := by rw [l_aboard_eq]; exact sp_aboard_of _ g st
  have hlot := hs.lot
  have hl : LotOk w (rnames st) := (hs.rok hw.ok).lot
  have hsk := hl.sok hw
  have e2 := fNe_nilT (S := sb D q X) hsk
  sizeOf_list_dec
  · refine wf_take (m := 2) hq (by decide) (by decide) fun r z hz _ => ?_
    sizeOf_list_dec
    · have e3 := sp_l_steps (sb D z X) hw.ok
      sizeOf_list_dec
      refine wf_of' hz (by
        intro hc
        have : stepsL w = [] := List.map_eq_nil_iff.mp hc
        unfold stepsL at this
        cases hf : w.folk with
        | nil => exact absurd hf hw.fne
        | cons o os => rw [hf] at this; simp [oneSteps] at this) (by
        have : (stepsL w).length ≤ 24 := by
          have h1 : ∀ off, (w.folk.flatMap (oneSteps w off)).length ≤ 3 * w.folk.length := by
            intro off
            have hnl := hw.ok.nl
            induction w.folk with
            | nil => simp
            | cons o os ih =>
              rw [List.flatMap_cons, List.length_append, List.length_cons]
              have := List.length_filter_le (fun l : Str × Nat => decide (l.2 ≤ o.ar)) w.loads
              simp [oneSteps] at *
              omega
          have := hw.ok.nf
          have := h1 true
          have := h1 false
          unfold stepsL
          rw [List.length_append]
          omega
        rw [List.length_map]; omega) fun x z2 hx hz2 => ?_
      obtain ⟨s, hs', rfl⟩ := List.mem_map.mp hx
      have hT := stepsL_ok hs'
      have hwh := whole_le hw.ok hl.len
      have hlg := hw.ok.lg
      have hsm : ∀ n ∈ (rnames st).filter (fun n => !decide (n ∈ s.mv)), n ∈ w.names := fun n hn => hl.mem n (List.mem_filter.mp hn).1
      have hsw : weight w ((rnames st).filter fun n => !decide (n ∈ s.mv)) ≤ 360 := by
        have h1 := weight_le hw.ok ((rnames st).filter fun n => !decide (n ∈ s.mv))
        have h2 := List.length_filter_le (fun n => !decide (n ∈ s.mv)) (rnames st)
        have h3 := hl.len
        omega
      obtain ⟨edge, hedge⟩ : ∃ x : Rat, x = (rcOf w s.n : Rat) + mkRat ((w.lg : Int) * (weight w ((rnames st).filter fun n => !decide (n ∈ s.mv)) : Int)) (whole w (rnames st)) := ⟨_, rfl⟩
      have hmB : B 19 (mkRat ((w.lg : Int) * (weight w ((rnames st).filter fun n => !decide (n ∈ s.mv)) : Int)) (whole w (rnames st))) := B_mk (wide_lt (a := 9) (b := 10) (by simp; omega) (by simp; omega)) (Nat.lt_of_lt_of_le hwh (Nat.pow_le_pow_right (by decide) (by decide))) (by decide)
      have heB : B 25 edge := by rw [hedge]; exact B_add (rc_B hw.ok s.n) hmB
      have he0 : 0 ≤ edge := by
        rw [hedge]
        refine Rat.add_nonneg (natR_nonneg _) ?_
        rw [← Int.natCast_mul]
        exact mkRat_nonneg' (by have := whole_pos hw.ok (rnames st); omega)
      have f0 : slV (eStp s) (some 1) none = some (names [s.n, s.l]) := sl_stp
      have f1 := sp_l_weight (sb D z2 X) w hw.ok (.lst (((rnames st).filter fun n => !decide (n ∈ s.mv)).map .str)) _ rfl hsm
      have f2 := sp_l_weight (sb D z2 X) w hw.ok (names (rnames st)) (rnames st) (names_items _) hl.mem
      have f3 : fAdd (sb D z2 X) (.d (.int (w.rh : Int))) (.d (.int (weight w (rnames st) : Int))) = some (.d (.int (whole w (rnames st) : Int))) := by
        rw [fAdd_int]; unfold whole; simp
      have f4 : fIx (sb D z2 X) (.d (.tup [.int (w.lg : Int), .int (w.rh : Int)])) (.d (.int 1)) = some (.d (.int (w.rh : Int))) := rfl
      have f5 := fMul_ok (S := sb D z2 X) (i := (w.lg : Int)) (j := (weight w ((rnames st).filter fun n => !decide (n ∈ s.mv)) : Int)) (a := 9) (b := 10) (by simp; omega) (by simp; omega) (by decide) (by decide) (by decide)
      have f6 := sp_lowest (sb D z2 X) ((w.lg : Int) * (weight w ((rnames st).filter fun n => !decide (n ∈ s.mv)) : Int)) (whole w (rnames st)) (whole_pos hw.ok _) (Nat.lt_of_lt_of_le hwh (Nat.pow_le_pow_right (by decide) (by decide)))
      have f7 := sp_l_reach (sb D z2 X) hw hT
      have f8 := sp_plus (sb D z2 X) ((rc_B hw.ok s.n).mono (m := 4000) (by decide)) (hmB.mono (m := 4000) (by decide))
      rw [← hedge] at f8
      have f9 := sp_plus (sb D z2 X) (heB.mono (m := 4000) (by decide)) ((B_mk (n := 3) (a := 1) (b := 2) (by decide) (by decide) (by decide)).mono (m := 4000) (by decide))
      have hm1 := fMul_ok (S := sb D z2 X) (i := edge.num) (j := 9) (a := 25) (b := 4) heB.1 (by decide) (by decide) (by decide) (by decide)
      have hm2 := fMul_ok (S := sb D z2 X) (i := (edge.den : Int)) (j := 10) (a := 25) (b := 4) heB.d (by decide) (by decide) (by decide) (by decide)
      have f10 := sp_lowest (sb D z2 X) (edge.num * 9) (edge.den * 10) (by have := edge.den_pos; omega) (Nat.lt_of_lt_of_le (m := 2 ^ 25 * 10) (Nat.mul_lt_mul_of_pos_right heB.2 (by decide)) (by rw [show (2 : Nat) ^ 8999 = 2 ^ 29 * 2 ^ 8970 from by rw [← Nat.pow_add]]; exact Nat.le_trans (by decide : 2 ^ 25 * 10 ≤ 2 ^ 29) (Nat.le_mul_of_pos_right _ (Nat.two_pow_pos _))))
      rw [Int.natCast_mul] at f10
      change f_lowest [.d (.int (edge.num * 9)), .d (.int ((edge.den : Int) * 10))] _ = _ at f10
      rw [← half_is] at f9
      rw [← l_lowest_eq] at f6 f10
      rw [← l_plus_eq] at f8 f9
      have hq9 : mkRat (edge.num * 9) (edge.den * 10) = by' edge 9 10 := rfl
      rw [hq9] at f10
      have h9B : B 29 (by' edge 9 10) := B_by (k := 4) heB (by decide) (by decide) (by decide) (by decide)
      have h90 : 0 ≤ by' edge 9 10 := by
        rw [by_eq]
        have : ((9 : Int) : Rat) = 9 := rfl
        have : ((10 : Nat) : Rat) = 10 := rfl
        grind
      have hh0 : (0 : Rat) ≤ mkRat 1 2 := mkRat_nonneg' (a := 1) (by decide)
      array_get_dec
      array_get_dec
      array_get_dec
      refine we_compF Dt.str Dt.str (fun n => !decide (n ∈ s.mv)) (rnames st) ?_
      sizeOf_list_dec
      refine ⟨rfl, fun n hn => ⟨_, rfl, ?_, fun _ => ?_⟩, ?_⟩
      · have g1 := fNotIn_tup (S := sb D z2 X) (hsk n hn) (nl_ok hw hT)
        rw [show decide (n ∈ [s.n, s.l]) = decide (n ∈ s.mv) from decide_eq_decide.mpr (mv_mem hw (hl.mem n hn))] at g1
        change fNotIn (sb D z2 X) (.d (.str n)) (.d (names [s.n, s.l])) = _ at g1
        sizeOf_list_dec
        exact ⟨rfl, rfl⟩
      · sizeOf_list_dec
        exact ⟨rfl, rfl⟩
      · sizeOf_list_dec
        refine wf_of' hz2 (by simp) (by simp) fun x z3 hx hz3 => ?_
        have hwp := whole_pos hw.ok (rnames st)
        have hsl : weight w ((rnames st).filter fun n => !decide (n ∈ s.mv)) ≤ weight w (rnames st) := weight_le_of w _ _ (hl.nd.sublist List.filter_sublist) fun x hx => (List.mem_filter.mp hx).1
        have hmr : mkRat ((w.lg : Int) * (weight w ((rnames st).filter fun n => !decide (n ∈ s.mv)) : Int)) (whole w (rnames st)) = ((w.lg * weight w ((rnames st).filter fun n => !decide (n ∈ s.mv)) : Nat) : Rat) / (whole w (rnames st) : Nat) := by
          rw [mkRat_lg _ _ _ hwp, Rat.natCast_mul]
        have heD : IntD (whole w (rnames st)) edge := by
          rw [hedge, hmr]
          refine (IntD.nat _).add ?_
          have := (IntD.nat (D := 1) (w.lg * weight w ((rnames st).filter fun n => !decide (n ∈ s.mv)))).over hwp
          rwa [Nat.one_mul] at this
        have hem : edge ≤ 530 := by
          have h1 : mkRat ((w.lg : Int) * (weight w ((rnames st).filter fun n => !decide (n ∈ s.mv)) : Int)) (whole w (rnames st)) ≤ ((500 : Nat) : Rat) := by
            rw [hmr, div_le (natR_pos hwp), ← Rat.natCast_mul]
            have : ((w.lg * weight w ((rnames st).filter fun n => !decide (n ∈ s.mv)) : Nat) : Int) ≤ ((500 * whole w (rnames st) : Nat) : Int) := by
              have := Nat.mul_le_mul hlg (show weight w ((rnames st).filter fun n => !decide (n ∈ s.mv)) ≤ whole w (rnames st) by unfold whole; omega)
              omega
            exact Rat.intCast_le_intCast.mpr this
          have h2 : (rcOf w s.n : Rat) ≤ ((30 : Nat) : Rat) := by
            have : ((rcOf w s.n : Int) : Rat) ≤ ((30 : Int) : Rat) := Rat.intCast_le_intCast.mpr (by have := rcOf_le hw.ok s.n; omega)
            exact this
          have h3 : ((500 : Nat) : Rat) = 500 := rfl
          have h4 : ((30 : Nat) : Rat) = 30 := rfl
          rw [hedge]
          grind
        have h431 : ((531 : Nat) : Rat) = 531 := rfl
        have hhalf : mkRat 1 2 = (1 : Rat) / 2 := by rw [Rat.mkRat_eq_div]; rfl
        obtain ⟨g', rfl, hg0, hgm, hgD⟩ : ∃ g' : Rat, x = fr g' ∧ 0 ≤ g' ∧ g' ≤ ((531 : Nat) : Rat) ∧ ∃ D : Nat, 0 < D ∧ D < 2 ^ 14 ∧ IntD D g' := by
          have hwh' : whole w (rnames st) < 512 := hwh
          simp only [List.mem_cons, List.not_mem_nil, or_false] at hx
          rcases hx with rfl | rfl | rfl | rfl
          · exact ⟨_, rfl, he0, by rw [h431]; grind, _, hwp, by omega, heD⟩
          · exact ⟨_, rfl, he0, by rw [h431]; grind, _, hwp, by omega, heD⟩
          · refine ⟨_, rfl, Rat.add_nonneg he0 hh0, by rw [h431, hhalf]; grind, whole w (rnames st) * 2, by omega, by omega, (heD.up 2).add ?_⟩
            rw [Nat.mul_comm]
            exact (half_int 1).up _
          · refine ⟨_, rfl, h90, ?_, whole w (rnames st) * 10, by omega, by omega, ?_⟩
            · rw [by_eq, h431]
              have : ((9 : Int) : Rat) = 9 := rfl
              have : ((10 : Nat) : Rat) = 10 := rfl
              grind
            · rw [by_eq]
              exact (heD.mulN 9).over (by decide)
        sizeOf_list_dec
        refine we_compM Dt.str (fun n => eRow (n, (0 : Rat))) (rnames st) ?_
        sizeOf_list_dec
        refine ⟨rfl, fun n hn => ⟨_, rfl, ?_⟩, ?_⟩
        · sizeOf_list_dec
          exact ⟨rfl, rfl⟩
        · have hzr : (rnames st).map (fun n => eRow (n, (0 : Rat))) = (zr (rnames st)).map eRow := by simp [zr, Function.comp_def]
          rw [hzr]
          have g2 := fTup_rows (S := sb D z3 X) (zr (rnames st))
          sizeOf_list_dec
          exact ⟨_, _, [], rfl, by rw [List.append_nil], k g' (zr (rnames st)) z3 hz3 ⟨hg0, hgm, hgD, (zr_ok hlot).lot, (zr_ok hlot).rows⟩⟩
    · rename_i hx
      refine ⟨_, _, [], rfl, by rw [List.append_nil], k _ _ _ hz hs⟩
  · exact ⟨_, _, [], rfl, by rw [List.append_nil], k _ _ _ hq hs⟩
/-! ### the front gap behind a walk and a step, by the program -/
theorem nodup_len : ∀ (a b : List Str), a.Nodup → (∀ x ∈ a, x ∈ b) → a.length ≤ b.length
  | [], b, _, _ => Nat.zero_le _
  | x :: a, b, hn, hs => by
    have hx := hs x List.mem_cons_self
    rw [List.nodup_cons] at hn
    have ih := nodup_len a (b.erase x) hn.2 fun y hy => (List.mem_erase_of_ne (fun z : y = x => hn.1 (by rw [← z]; exact hy))).mpr (hs y (List.mem_cons_of_mem _ hy))
    have := (List.perm_cons_erase hx).length_eq
    simp only [List.length_cons] at this ⊢
    omega
theorem stepD_rok {w : W} {x : Rat} {rs rs' : Rows} {s : Stp} {n : Nat} (hw : Made w) (h : TOk w s) (hr : ROk w n rs) (h0 : 0 < n) (hs : stepD w x rs s = some rs') : ROk w n rs' := by
  obtain ⟨hb, _, _, e⟩ := stepD_some hs
  cases ho : s.off with
  | true =>
    rw [ho] at e
    simp only [if_true] at e
    subst e
    refine ⟨fun r hr' => hr.nm r (List.mem_filter.mp hr').1, fun r hr' => hr.pl r (List.mem_filter.mp hr').1, Nat.le_trans (List.length_filter_le _ _) hr.len, ?_⟩
    rw [rest_names]
    exact hr.nd.sublist List.filter_sublist
  | false =>
    rw [ho] at e
    simp only [Bool.false_eq_true, if_false] at e
    subst e
    have hp := sortR_perm (rs ++ zr s.mv)
    have hnd := on_nd hr.nd (h.mv_nd hw) ho hb
    have hmem : ∀ r ∈ sortR (rs ++ zr s.mv), r ∈ rs ∨ r ∈ zr s.mv := fun r hr' => List.mem_append.mp (hp.subset hr')
    have hnm : ∀ r ∈ sortR (rs ++ zr s.mv), r.1 ∈ w.names := fun r hr' => by
      rcases hmem r hr' with h1 | h1
      · exact hr.nm r h1
      · obtain ⟨m, hm, rfl⟩ := List.mem_map.mp h1
        exact h.mv_names m hm
    have hnd2 : (rnames (sortR (rs ++ zr s.mv))).Nodup := (hp.map Prod.fst).nodup_iff.mpr hnd
    refine ⟨hnm, fun r hr' => ?_, ?_, hnd2⟩
    · rcases hmem r hr' with h1 | h1
      · exact hr.pl r h1
      · obtain ⟨m, _, rfl⟩ := List.mem_map.mp h1
        exact B_zero h0
    · have h1 := nodup_len _ _ hnd2 (fun x hx => by
        obtain ⟨r, hr', rfl⟩ := List.mem_map.mp hx
        exact hnm r hr')
      have h2 := names_len hw.ok
      simp only [rnames, List.length_map] at h1
      omega
end OA
namespace OA
open PySem PySem.Spec PyProof.Rows L2
local macro_rules | `(tactic| subst_eqs) => `(tactic| first | refine wf_r0 (by simp only [List.map_cons, List.map_nil, List.length_cons, List.length_nil, List.replicate, List.cons_append, List.nil_append, Nat.reduceAdd, Nat.reduceSub]; rfl) ?_ | refine wf_r (by simp only [List.map_cons, List.map_nil, List.length_cons, List.length_nil, List.replicate, List.cons_append, List.nil_append, Nat.reduceAdd, Nat.reduceSub]; rfl) ?_)
local macro_rules | `(tactic| clean_wf) => `(tactic| try dsimp only [List.set_cons_zero, List.set_cons_succ])
local macro_rules | `(tactic| array_mem_dec) => `(tactic| first | with_reducible assumption | with_reducible exact st_zero | with_reducible exact st_one | with_reducible exact stp_zero | with_reducible exact stp_one | with_reducible exact fr_top | with_reducible exact fr_bot | with_reducible exact fAdd_int | with_reducible exact fSub_int | with_reducible exact fLt_int | with_reducible exact fGt_int | with_reducible exact fLe_int | with_reducible exact fGe_int | with_reducible exact fEq_int | with_reducible exact is_off _ | with_reducible exact is_on _ | with_reducible exact w_zero _ _ | with_reducible exact w_one _ _ | with_reducible exact w_two _ _ | with_reducible exact names_items _ | with_reducible exact rowsD_items _ | with_reducible exact fEq_fr | with_reducible exact fNe_fr | exact rfl)
local macro_rules | `(tactic| array_get_dec) => `(tactic| first | with_reducible apply we_K | ((with_reducible apply we_var); exact rfl) | with_reducible apply we_bin | with_reducible apply we_call | with_reducible apply wl_cons | with_reducible apply wl_nil | with_reducible apply ws_seq | with_reducible apply ws_set | ((with_reducible apply seqK_nx); clean_wf) | with_reducible apply seqK_ret | with_reducible apply ws_ret | with_reducible apply ws_if | with_reducible apply wt_tst | with_reducible apply ws_nil | with_reducible apply we_tup | with_reducible apply we_app | with_reducible apply we_if | with_reducible apply wt_and | with_reducible apply wt_or | with_reducible apply wt_not | with_reducible apply we_and | with_reducible apply we_or | with_reducible apply we_not | with_reducible apply ws_par | with_reducible apply ws_asg | with_reducible apply ws_expr | with_reducible apply ws_for | with_reducible apply we_lst | with_reducible apply wi_iter | with_reducible apply we_sl | with_reducible apply wo_no | with_reducible apply wo_part | with_reducible apply we_newL0b | with_reducible apply we_newL | with_reducible apply we_isi | with_reducible apply we_chain | ((with_reducible apply wf_of); focus (with_reducible assumption)) | with_reducible refine ⟨_, (by repeat (first | with_reducible exact dats_nil | with_reducible apply dats_cs)), by simp, ?_⟩ | with_reducible refine ⟨_, (by with_reducible assumption), ?_⟩ | with_reducible refine ⟨_, rfl, ?_⟩ | with_reducible refine ⟨_, (by array_mem_dec), ?_⟩ | ((with_reducible apply we_of); focus (with_reducible assumption)))
local macro_rules | `(tactic| sizeOf_list_dec) => `(tactic| repeat' (first | array_get_dec | with_reducible apply conj_T | with_reducible apply conj_F | with_reducible apply conj_T' | with_reducible apply conj_F' | with_reducible apply conj_nT | with_reducible apply conj_nF | with_reducible apply conj_nT' | with_reducible apply conj_nF' | (with_reducible apply conj_tf <;> intro _) | (with_reducible apply conj_ft <;> intro _)))
/-! ### how fine fronts and gaps are -/
theorem drive_D {w : W} {D : Nat} : ∀ rs : Rows, (∀ r ∈ rs, IntD D r.2) → IntD D (drive w rs)
  | [], _ => IntD.zero
  | r :: rs, h => ((h r List.mem_cons_self).mulN _).add (drive_D rs fun x hx => h x (List.mem_cons_of_mem _ hx))
theorem drive_le {w : W} (rs : Rows) (h : ∀ r ∈ rs, r.2 ≤ (w.lg : Rat)) : drive w rs ≤ (w.lg : Rat) * (weight w (rnames rs) : Nat) := by
  have := drive_back w rs h
  rwa [drive_backW] at this
theorem natR_le {a b : Nat} (h : a ≤ b) : (a : Rat) ≤ (b : Rat) := by
  have : ((a : Int) : Rat) ≤ ((b : Int) : Rat) := Rat.intCast_le_intCast.mpr (by omega)
  exact this
theorem pull_le {w : W} (hw : w.Ok) (rs : Rows) (h : ∀ r ∈ rs, r.2 ≤ (w.lg : Rat)) : pull w rs ≤ (w.lg : Rat) := by
  have h1 := drive_le rs h
  have h2 : ((weight w (rnames rs) : Nat) : Rat) ≤ ((whole w (rnames rs) : Nat) : Rat) := natR_le (by unfold whole; omega)
  have h3 := Rat.mul_le_mul_of_nonneg_left h2 (natR_nonneg w.lg)
  unfold pull
  rw [div_le (wholeR_pos hw _)]
  exact Rat.le_trans h1 h3
theorem lgR {w : W} (hw : w.Ok) : (w.lg : Rat) ≤ 500 := natR_le hw.lg
theorem pull_D {w : W} (hw : w.Ok) {D : Nat} (rs : Rows) (h : ∀ r ∈ rs, IntD D r.2) : IntD (D * whole w (rnames rs)) (pull w rs) := (drive_D rs h).over (whole_pos hw _)
theorem NOkay.front {w : W} {g : Rat} {rs : Rows} (h : NOkay w g rs) (hw : w.Ok) : 0 ≤ front w g rs ∧ front w g rs ≤ 1031 ∧ ∃ D : Nat, 0 < D ∧ D < 2 ^ 25 ∧ IntD D (front w g rs) := by
  obtain ⟨D, h0, h1, h2⟩ := h.gD
  have h3 := pull_le hw rs fun r hr => (h.rows r hr).1.2
  have h4 := lgR hw
  have h5 := h.gm
  have h6 : ((531 : Nat) : Rat) = 531 := rfl
  have hwp := whole_pos hw (rnames rs)
  have hwh := whole_le hw (lot := rnames rs) (h.rok hw).lot.len
  unfold OA.front
  refine ⟨Rat.add_nonneg h.g0 (pull_nonneg hw fun r hr => (h.rows r hr).1.1), by grind, D * (4 * whole w (rnames rs)), Nat.mul_pos h0 (by omega), ?_, (h2.up _).add ((pull_D hw rs fun r hr => (h.rows r hr).2).dvd (Nat.dvd_mul_left _ _))⟩
  have := Nat.mul_lt_mul'' h1 (show 4 * whole w (rnames rs) < 2 ^ 11 by simp at hwh ⊢; omega)
  rwa [← Nat.pow_add] at this
theorem raw_D {w : W} (hw : w.Ok) {lot : List Str} {s : Stp} {F : Rat} {D : Nat} (hF : IntD D F) : IntD (D * whole w lot) (raw w lot F s) := by
  unfold raw
  refine (hF.up _).sub ?_
  have := (IntD.nat (D := 1) (w.lg * weight w (stillP lot s))).over (whole_pos hw lot)
  rw [Nat.one_mul, Rat.natCast_mul] at this
  exact this.dvd (Nat.dvd_mul_left _ _)
theorem bestG_D {w : W} {lot : List Str} {s : Stp} {F g : Rat} {D : Nat} (hw : Made w) (h : TOk w s) (hl : LotOk w lot) (hF : IntD D F) (hg : bestG w lot F s = some g) : IntD (D * whole w lot) g := by
  obtain ⟨hb, _, e⟩ := bestG_some hg
  rw [raw_eq hw h hl hb] at e
  subst e
  split
  · unfold minR
    split
    · exact IntD.nat _
    · exact hF.up _
  · unfold atl
    split
    · exact IntD.zero
    · exact raw_D hw.ok hF
theorem behG_D {w : W} {lot : List Str} {s : Stp} {F g : Rat} {D : Nat} (hw : Made w) (h : TOk w s) (hb : (lotB w lot s).isNone = false) (hF : IntD D F) (hg : IntD D g) : IntD (D * (if s.off then whole w lot - weight w s.mv else whole w lot + weight w s.mv)) (behG w lot F s g) := by
  unfold behG
  cases ho : s.off with
  | true =>
    have := off_whole hw h hb ho
    have := hw.ok.rh0
    simp only [if_true]
    exact ((hF.mulN _).sub (hg.mulN _)).over (by omega)
  | false =>
    have := whole_pos hw.ok lot
    simp only [Bool.false_eq_true, if_false]
    exact ((hF.mulN _).add (hg.mulN _)).over (by omega)
theorem place_D {w : W} {lot : List Str} {s : Stp} {F g : Rat} {D : Nat} (hF : IntD D F) (hg : IntD D g) : IntD (D * (weight w (stillP lot s) + 1)) (placeP w lot F s g) ∨ (0 < weight w (stillP lot s) ∧ IntD (D * weight w (stillP lot s)) (placeP w lot F s g)) := by
  unfold placeP
  split
  · rename_i h
    exact .inr ⟨h, ((hF.sub hg).mulN _).over h⟩
  · exact .inl IntD.zero
/-- told rows are fine -/
theorem rowsB_rok' {w : W} {lot : List Str} {s : Stp} {F g : Rat} {D a : Nat} (hw : w.Ok) (hl : LotOk w lot) (hg : GOk w lot F s g) (h0 : 0 < D) (hD : D < 2 ^ a) (hF : IntD D F) (hgD : IntD D g) : ROk w (a + 18) (rowsB w lot F s g) := by
  refine ⟨fun r hr => by obtain ⟨m, hm, rfl⟩ := List.mem_map.mp hr; exact hl.mem m hm, fun r hr => ?_, by simpa [rowsB] using hl.len, by rw [rowsB_names]; exact hl.nd⟩
  obtain ⟨m, _, rfl⟩ := List.mem_map.mp hr
  dsimp only
  split
  · have hi := place_in' hw hg
    have h4 := lgR hw
    have h6 : ((500 : Nat) : Rat) = 500 := rfl
    have hst := still_w hw hl s
    have key : ∀ k : Nat, 0 < k → k ≤ 361 → IntD (D * k) (placeP w lot F s g) → B (a + 18) (placeP w lot F s g) := fun k hk hk2 hi2 => by
      refine (hi2.B (n := a + 9) (k := 9) (m := 500) (Nat.mul_pos h0 hk) ?_ (by rw [h6]; exact Rat.le_trans hi.2 h4) (by rw [h6]; have := hi.1; grind) (by decide)).mono (by omega)
      have := Nat.mul_lt_mul'' hD (show k < 2 ^ 9 by simp; omega)
      rwa [← Nat.pow_add] at this
    rcases place_D (w := w) (lot := lot) (s := s) hF hgD with h | ⟨hp, h⟩
    · exact key _ (by omega) (by omega) h
    · exact key _ hp (by omega) h
  · exact B_zero (by omega)
end OA
namespace OA
open PySem PySem.Spec PyProof.Rows L2
local macro_rules | `(tactic| subst_eqs) => `(tactic| first | refine wf_r0 (by simp only [List.map_cons, List.map_nil, List.length_cons, List.length_nil, List.replicate, List.cons_append, List.nil_append, Nat.reduceAdd, Nat.reduceSub]; rfl) ?_ | refine wf_r (by simp only [List.map_cons, List.map_nil, List.length_cons, List.length_nil, List.replicate, List.cons_append, List.nil_append, Nat.reduceAdd, Nat.reduceSub]; rfl) ?_)
local macro_rules | `(tactic| clean_wf) => `(tactic| try dsimp only [List.set_cons_zero, List.set_cons_succ])
local macro_rules | `(tactic| array_mem_dec) => `(tactic| first | with_reducible assumption | with_reducible exact st_zero | with_reducible exact st_one | with_reducible exact stp_zero | with_reducible exact stp_one | with_reducible exact fr_top | with_reducible exact fr_bot | with_reducible exact fAdd_int | with_reducible exact fSub_int | with_reducible exact fLt_int | with_reducible exact fGt_int | with_reducible exact fLe_int | with_reducible exact fGe_int | with_reducible exact fEq_int | with_reducible exact is_off _ | with_reducible exact is_on _ | with_reducible exact w_zero _ _ | with_reducible exact w_one _ _ | with_reducible exact w_two _ _ | with_reducible exact names_items _ | with_reducible exact rowsD_items _ | with_reducible exact fEq_fr | with_reducible exact fNe_fr | exact rfl)
local macro_rules | `(tactic| array_get_dec) => `(tactic| first | with_reducible apply we_K | ((with_reducible apply we_var); exact rfl) | with_reducible apply we_bin | with_reducible apply we_call | with_reducible apply wl_cons | with_reducible apply wl_nil | with_reducible apply ws_seq | with_reducible apply ws_set | ((with_reducible apply seqK_nx); clean_wf) | with_reducible apply seqK_ret | with_reducible apply ws_ret | with_reducible apply ws_if | with_reducible apply wt_tst | with_reducible apply ws_nil | with_reducible apply we_tup | with_reducible apply we_app | with_reducible apply we_if | with_reducible apply wt_and | with_reducible apply wt_or | with_reducible apply wt_not | with_reducible apply we_and | with_reducible apply we_or | with_reducible apply we_not | with_reducible apply ws_par | with_reducible apply ws_asg | with_reducible apply ws_expr | with_reducible apply ws_for | with_reducible apply we_lst | with_reducible apply wi_iter | with_reducible apply we_sl | with_reducible apply wo_no | with_reducible apply wo_part | with_reducible apply we_newL0b | with_reducible apply we_newL | with_reducible apply we_isi | with_reducible apply we_chain | ((with_reducible apply wf_of); focus (with_reducible assumption)) | with_reducible refine ⟨_, (by repeat (first | with_reducible exact dats_nil | with_reducible apply dats_cs)), by simp, ?_⟩ | with_reducible refine ⟨_, (by with_reducible assumption), ?_⟩ | with_reducible refine ⟨_, rfl, ?_⟩ | with_reducible refine ⟨_, (by array_mem_dec), ?_⟩ | ((with_reducible apply we_of); focus (with_reducible assumption)))
local macro_rules | `(tactic| sizeOf_list_dec) => `(tactic| repeat' (first | array_get_dec | with_reducible apply conj_T | with_reducible apply conj_F | with_reducible apply conj_T' | with_reducible apply conj_F' | with_reducible apply conj_nT | with_reducible apply conj_nF | with_reducible apply conj_nT' | with_reducible apply conj_nF' | (with_reducible apply conj_tf <;> intro _) | (with_reducible apply conj_ft <;> intro _)))
/-! ### the frame of the laws -/
theorem fMin_int' {S : Ss} {i j : Int} : fMin2 S [.d (.int i), .d (.int j)] = some (.d (.int (if j < i then j else i))) := rfl
/-- for k in range(1 + min(len(script), N)) -/
theorem ws_law {body : CdS} {N M : Nat} {ns : List Int} {t : En} {D : Ss} {Q : Fl → En → Ss → Prop} (hN : N ≤ 63) (ht : t.length = M + 1)
    (hb : ∀ (k : Nat) (t : En) (D : Ss), k < 100 → t.length = M → WS body (some (.s ns) :: some (.d (.int (k : Int))) :: t) D fun fl en' _ => fl = .nx ∧ ∃ t', t'.length = M + 1 ∧ en' = some (.s ns) :: t')
    (q : ∀ t' D', t'.length = M + 1 → Q .nx (some (.s ns) :: t') D') :
    WS (sFor (cRange1 (cBin fAdd (cK (.int 1)) (cApp fMin2 (cCons (cApp fLen (cCons (cVar 0) cNil)) (cCons (cK (.int (N : Int))) cNil))))) (gNm 1) body) (some (.s ns) :: t) D Q := by
  have hj : ∃ j : Nat, j < 100 ∧ (1 + (if (N : Int) < (ns.length : Int) then (N : Int) else (ns.length : Int))) = (j : Int) := by
    split
    · exact ⟨1 + N, by omega, by omega⟩
    · exact ⟨1 + ns.length, by omega, by omega⟩
  obtain ⟨j, hj1, hj2⟩ := hj
  have e1 : fLen D [.s ns] = some (.d (.int (ns.length : Int))) := rfl
  have e2 := fMin_int' (S := D) (i := (ns.length : Int)) (j := (N : Int))
  have e3 : fAdd D (.d (.int 1)) (.d (.int (if (N : Int) < (ns.length : Int) then (N : Int) else (ns.length : Int)))) = some (.d (.int (j : Int))) := by rw [fAdd_int, hj2]
  refine ws_for (wi_range1 ?_)
  sizeOf_list_dec
  refine ⟨by omega, ?_⟩
  refine wn_inv (fun i : Nat => Dt.int (0 + (i : Int))) (fun rest en _ => (∀ k ∈ rest, k < 100) ∧ ∃ t', t'.length = M + 1 ∧ en = some (.s ns) :: t') ?_ ?_ (List.range j) _ _ ⟨fun k hk => Nat.lt_trans (List.mem_range.mp hk) hj1, t, ht, rfl⟩
  · rintro en S ⟨_, t', ht', rfl⟩
    exact q t' S ht'
  · rintro k rest en S ⟨hk, t', ht', rfl⟩
    cases t' with
    | nil => simp at ht'
    | cons a t' =>
      refine ⟨_, rfl, ?_⟩
      rw [Int.zero_add]
      refine ws_mono (hb k t' S (hk k List.mem_cons_self) (by simpa using ht')) ?_
      rintro fl en2 S2 ⟨rfl, t2, h2, rfl⟩
      exact ⟨fun i hi => hk i (List.mem_cons_of_mem _ hi), t2, h2, rfl⟩
end OA
namespace OA
open PySem PySem.Spec PyProof.Rows L2
local macro_rules | `(tactic| subst_eqs) => `(tactic| first | refine wf_r0 (by simp only [List.map_cons, List.map_nil, List.length_cons, List.length_nil, List.replicate, List.cons_append, List.nil_append, Nat.reduceAdd, Nat.reduceSub]; rfl) ?_ | refine wf_r (by simp only [List.map_cons, List.map_nil, List.length_cons, List.length_nil, List.replicate, List.cons_append, List.nil_append, Nat.reduceAdd, Nat.reduceSub]; rfl) ?_)
local macro_rules | `(tactic| clean_wf) => `(tactic| try dsimp only [List.set_cons_zero, List.set_cons_succ])
local macro_rules | `(tactic| array_mem_dec) => `(tactic| first | with_reducible assumption | with_reducible exact st_zero | with_reducible exact st_one | with_reducible exact stp_zero | with_reducible exact stp_one | with_reducible exact fr_top | with_reducible exact fr_bot | with_reducible exact fAdd_int | with_reducible exact fSub_int | with_reducible exact fLt_int | with_reducible exact fGt_int | with_reducible exact fLe_int | with_reducible exact fGe_int | with_reducible exact fEq_int | with_reducible exact is_off _ | with_reducible exact is_on _ | with_reducible exact w_zero _ _ | with_reducible exact w_one _ _ | with_reducible exact w_two _ _ | with_reducible exact names_items _ | with_reducible exact rowsD_items _ | with_reducible exact fEq_fr | with_reducible exact fNe_fr | exact rfl)
local macro_rules | `(tactic| array_get_dec) => `(tactic| first | with_reducible apply we_K | ((with_reducible apply we_var); exact rfl) | with_reducible apply we_bin | with_reducible apply we_call | with_reducible apply wl_cons | with_reducible apply wl_nil | with_reducible apply ws_seq | with_reducible apply ws_set | ((with_reducible apply seqK_nx); clean_wf) | with_reducible apply seqK_ret | with_reducible apply ws_ret | with_reducible apply ws_if | with_reducible apply wt_tst | with_reducible apply ws_nil | with_reducible apply we_tup | with_reducible apply we_app | with_reducible apply we_if | with_reducible apply wt_and | with_reducible apply wt_or | with_reducible apply wt_not | with_reducible apply we_and | with_reducible apply we_or | with_reducible apply we_not | with_reducible apply ws_par | with_reducible apply ws_asg | with_reducible apply ws_expr | with_reducible apply ws_for | with_reducible apply we_lst | with_reducible apply wi_iter | with_reducible apply we_sl | with_reducible apply wo_no | with_reducible apply wo_part | with_reducible apply we_newL0b | with_reducible apply we_newL | with_reducible apply we_isi | with_reducible apply we_chain | ((with_reducible apply wf_of); focus (with_reducible assumption)) | with_reducible refine ⟨_, (by repeat (first | with_reducible exact dats_nil | with_reducible apply dats_cs)), by simp, ?_⟩ | with_reducible refine ⟨_, (by with_reducible assumption), ?_⟩ | with_reducible refine ⟨_, rfl, ?_⟩ | with_reducible refine ⟨_, (by array_mem_dec), ?_⟩ | ((with_reducible apply we_of); focus (with_reducible assumption)))
local macro_rules | `(tactic| sizeOf_list_dec) => `(tactic| repeat' (first | array_get_dec | with_reducible apply conj_T | with_reducible apply conj_F | with_reducible apply conj_T' | with_reducible apply conj_F' | with_reducible apply conj_nT | with_reducible apply conj_nF | with_reducible apply conj_nT' | with_reducible apply conj_nF' | (with_reducible apply conj_tf <;> intro _) | (with_reducible apply conj_ft <;> intro _)))
/-! ### dicts by lots -/
section
variable {α : Type}
def dicT (f : α → Dt) (ps : List (List Str × α)) : List (Dt × Dt) := ps.map fun p => (names p.1, f p.2)
def putL (ps : List (List Str × α)) (k : List Str) (a : α) : List (List Str × α) := if (ps.lookup k).isSome then ps.map (fun p => if p.1 = k then (p.1, a) else p) else ps ++ [(k, a)]
theorem keyT_names (k : List Str) : keyT (names k) = some k := strsOf_map k
theorem look_dicT (f : α → Dt) (k : List Str) : ∀ ps : List (List Str × α), lookT (dicT f ps) k = (ps.lookup k).map f
  | [] => rfl
  | (j, v) :: ps => by
    have ih := look_dicT f k ps
    simp only [dicT, List.map_cons, lookT, keyT_names, List.lookup_cons, Option.some.injEq] at ih ⊢
    by_cases e : j = k
    · subst e; simp
    · have e' : (k == j) = false := beq_eq_false_iff_ne.mpr fun z => e z.symm
      rw [if_neg e, e']
      exact ih
theorem put_dicT (f : α → Dt) (ps : List (List Str × α)) (k : List Str) (a : α) : putTD (dicT f ps) k (f a) = dicT f (putL ps k a) := by
  unfold putTD putL
  rw [look_dicT, Option.isSome_map]
  split
  · unfold dicT
    rw [List.map_map, List.map_map]
    refine List.map_congr_left fun p _ => ?_
    simp only [Function.comp, keyT_names, Option.some.injEq]
    split <;> rfl
  · simp [dicT, names]
theorem look_none {ps : List (List Str × α)} {k : List Str} : ps.lookup k = none ↔ k ∉ ps.map (·.1) := by
  rw [List.lookup_eq_none_iff]
  constructor
  · intro h hm
    obtain ⟨p, hp, rfl⟩ := List.mem_map.mp hm
    simpa using h p hp
  · intro h p hp
    exact bne_iff_ne.mpr fun z => h (List.mem_map.mpr ⟨p, hp, z.symm⟩)
theorem putL_keys (ps : List (List Str × α)) (k : List Str) (a : α) (h : (ps.map (·.1)).Nodup) : ((putL ps k a).map (·.1)).Nodup := by
  unfold putL
  split
  · rw [List.map_map]
    have : ((fun p : List Str × α => p.1) ∘ fun p => if p.1 = k then (p.1, a) else p) = fun p => p.1 := by
      funext p
      simp only [Function.comp]
      split <;> rfl
    rw [this]
    exact h
  · rename_i hs
    have hn : ps.lookup k = none := by
      cases e : ps.lookup k with
      | none => rfl
      | some v => rw [e] at hs; exact absurd rfl hs
    rw [List.map_append, List.nodup_append]
    exact ⟨h, by simp, fun x hx y hy e => by
      have hy' : y = k := by simpa using hy
      rw [e, hy'] at hx
      exact look_none.mp hn hx⟩
theorem putL_mem {ps : List (List Str × α)} {k : List Str} {a : α} {p : List Str × α} (h : p ∈ putL ps k a) : p ∈ ps ∨ p = (k, a) := by
  unfold putL at h
  split at h
  · obtain ⟨q, hq, e⟩ := List.mem_map.mp h
    split at e
    · rename_i hk
      right
      rw [← e, hk]
    · left
      rw [← e]; exact hq
  · rcases List.mem_append.mp h with h | h
    · exact .inl h
    · exact .inr (by simpa using h)
/-- put where new or less -/
def stepE (gap : α → Rat) (ps : List (List Str × α)) (k : List Str) (a : α) : List (List Str × α) := match ps.lookup k with
  | none => putL ps k a
  | some b => if gap a < gap b then putL ps k a else ps
end
/-! the same, seen with less -/
end OA
namespace OA
open PySem PySem.Spec PyProof.Rows L2
local macro_rules | `(tactic| subst_eqs) => `(tactic| first | refine wf_r0 (by simp only [List.map_cons, List.map_nil, List.length_cons, List.length_nil, List.replicate, List.cons_append, List.nil_append, Nat.reduceAdd, Nat.reduceSub]; rfl) ?_ | refine wf_r (by simp only [List.map_cons, List.map_nil, List.length_cons, List.length_nil, List.replicate, List.cons_append, List.nil_append, Nat.reduceAdd, Nat.reduceSub]; rfl) ?_)
local macro_rules | `(tactic| clean_wf) => `(tactic| try dsimp only [List.set_cons_zero, List.set_cons_succ])
local macro_rules | `(tactic| array_mem_dec) => `(tactic| first | with_reducible assumption | with_reducible exact st_zero | with_reducible exact st_one | with_reducible exact stp_zero | with_reducible exact stp_one | with_reducible exact fr_top | with_reducible exact fr_bot | with_reducible exact fAdd_int | with_reducible exact fSub_int | with_reducible exact fLt_int | with_reducible exact fGt_int | with_reducible exact fLe_int | with_reducible exact fGe_int | with_reducible exact fEq_int | with_reducible exact is_off _ | with_reducible exact is_on _ | with_reducible exact w_zero _ _ | with_reducible exact w_one _ _ | with_reducible exact w_two _ _ | with_reducible exact names_items _ | with_reducible exact rowsD_items _ | with_reducible exact fEq_fr | with_reducible exact fNe_fr | exact rfl)
local macro_rules | `(tactic| array_get_dec) => `(tactic| first | with_reducible apply we_K | ((with_reducible apply we_var); exact rfl) | with_reducible apply we_bin | with_reducible apply we_call | with_reducible apply wl_cons | with_reducible apply wl_nil | with_reducible apply ws_seq | with_reducible apply ws_set | ((with_reducible apply seqK_nx); clean_wf) | with_reducible apply seqK_ret | with_reducible apply ws_ret | with_reducible apply ws_if | with_reducible apply wt_tst | with_reducible apply ws_nil | with_reducible apply we_tup | with_reducible apply we_app | with_reducible apply we_if | with_reducible apply wt_and | with_reducible apply wt_or | with_reducible apply wt_not | with_reducible apply we_and | with_reducible apply we_or | with_reducible apply we_not | with_reducible apply ws_par | with_reducible apply ws_asg | with_reducible apply ws_expr | with_reducible apply ws_for | with_reducible apply we_lst | with_reducible apply wi_iter | with_reducible apply we_sl | with_reducible apply wo_no | with_reducible apply wo_part | with_reducible apply we_newL0b | with_reducible apply we_newL | with_reducible apply we_isi | with_reducible apply we_chain | ((with_reducible apply wf_of); focus (with_reducible assumption)) | with_reducible refine ⟨_, (by repeat (first | with_reducible exact dats_nil | with_reducible apply dats_cs)), by simp, ?_⟩ | with_reducible refine ⟨_, (by with_reducible assumption), ?_⟩ | with_reducible refine ⟨_, rfl, ?_⟩ | with_reducible refine ⟨_, (by array_mem_dec), ?_⟩ | ((with_reducible apply we_of); focus (with_reducible assumption)))
local macro_rules | `(tactic| sizeOf_list_dec) => `(tactic| repeat' (first | array_get_dec | with_reducible apply conj_T | with_reducible apply conj_F | with_reducible apply conj_T' | with_reducible apply conj_F' | with_reducible apply conj_nT | with_reducible apply conj_nF | with_reducible apply conj_nT' | with_reducible apply conj_nF' | (with_reducible apply conj_tf <;> intro _) | (with_reducible apply conj_ft <;> intro _)))
/-! ### more rules -/
section
variable {en : En} {S : Ss} {c : Cd} {c1 : CdS} {Q : R → Ss → Prop} {QS : Fl → En → Ss → Prop} {co ci : Cd}
theorem we_frzT (h : WE c en S fun r S1 => ∃ k, r = .c k ∧ ∃ ds, S1[k]? = some (.dT ds) ∧ Q (.d (.dT ds)) (S1.set k .gone)) : WE (cFrz c) en S Q := by
  obtain ⟨r, S1, e1, k, rfl, ds, e2, q⟩ := h
  exact ⟨_, _, by unfold cFrz; simp [e1, e2, SO.val], q⟩
/-- d[k] = e at the newest cell -/
theorem ws_putT {S0 : Ss} {ds : List (Dt × Dt)} (h : WE c en (S0 ++ [.dT ds]) fun x S1 => ∃ d, x = .d d ∧ S1 = S0 ++ [.dT ds] ∧ WE co en (S0 ++ [.dT ds]) fun y S2 => y = .c S0.length ∧ S2 = S0 ++ [.dT ds] ∧ WE ci en (S0 ++ [.dT ds]) fun z S3 => S3 = S0 ++ [.dT ds] ∧
    ∃ k, z = .d (names k) ∧ ds.length < 1000 ∧ QS .nx en (S0 ++ [.dT (putTD ds k d)])) : WS (sPutT c co ci) en (S0 ++ [.dT ds]) QS := by
  obtain ⟨x, S1, e1, d, rfl, rfl, y, S2, e2, rfl, rfl, z, S3, e3, rfl, k, rfl, hl, q⟩ := h
  refine ⟨_, _, _, ?_, q⟩
  have hk : keyT (names k) = some k := strsOf_map k
  unfold sPutT
  simp [e1, e2, e3, hl, hk]
/-- a new dict with one tuple as its key -/
theorem we_dispT {ck cv : Cd} (h : WE ck en (S ++ [.dT []]) fun x S1 => S1 = S ++ [.dT []] ∧ ∃ k, x = .d (names k) ∧ WE cv en (S ++ [.dT []]) fun y S2 => S2 = S ++ [.dT []] ∧ ∃ d, y = .d d ∧ Q (.c S.length) (S ++ [.dT [(names k, d)]])) : WE (cDispT ck cv) en S Q := by
  obtain ⟨x, S1, e1, rfl, k, rfl, y, S2, e2, rfl, d, rfl, q⟩ := h
  have hk : keyT (names k) = some k := strsOf_map k
  refine ⟨_, _, ?_, q⟩
  unfold cDispT
  simp [e1, e2, hk]
  rfl
end
theorem fIx_cT {S0 : Ss} {ds : List (Dt × Dt)} {k : List Str} {v : Dt} (h : lookT ds k = some v) : fIx (S0 ++ [.dT ds]) (.c S0.length) (.d (names k)) = some (.d v) := by
  have hg : get (S0 ++ [.dT ds]) (.c S0.length) = some (.dT ds) := by simp [get, SO.val]
  unfold fIx
  simp only [names, g_d, hg]
  rw [strsOf_map]
  simp [h]
theorem fNotIn_cT {S0 : Ss} {ds : List (Dt × Dt)} {k : List Str} : fNotIn (S0 ++ [.dT ds]) (.d (names k)) (.c S0.length) = some (.d (.bl (!(lookT ds k).isSome))) := by
  have hg : get (S0 ++ [.dT ds]) (.c S0.length) = some (.dT ds) := by simp [get, SO.val]
  have hk : keyT (.tup (k.map .str)) = some k := strsOf_map k
  unfold fNotIn isIn
  simp only [names, g_d, hg, hk]
  rfl
/-! ### all lots -/
def enumF (l : List Str) (acc : List (List Str)) : List (List Str) := l.foldl (fun f n => f ++ f.map (· ++ [n])) acc
theorem enumF_cons (n : Str) (l : List Str) (acc : List (List Str)) : enumF (n :: l) acc = enumF l (acc ++ acc.map (· ++ [n])) := rfl
theorem enumF_mem : ∀ (l : List Str) (acc : List (List Str)) (x : List Str), x ∈ enumF l acc ↔ ∃ a ∈ acc, ∃ t, t.Sublist l ∧ x = a ++ t
  | [], acc, x => by
    constructor
    · intro h; exact ⟨x, h, [], .slnil, by simp⟩
    · rintro ⟨a, ha, t, ht, rfl⟩
      rw [List.sublist_nil.mp ht, List.append_nil]; exact ha
  | n :: l, acc, x => by
    rw [enumF_cons, enumF_mem l]
    constructor
    · rintro ⟨a, ha, t, ht, rfl⟩
      rcases List.mem_append.mp ha with ha | ha
      · exact ⟨a, ha, t, ht.cons n, rfl⟩
      · obtain ⟨b, hb, rfl⟩ := List.mem_map.mp ha
        exact ⟨b, hb, n :: t, ht.cons_cons n, by simp⟩
    · rintro ⟨a, ha, t, ht, rfl⟩
      cases ht with
      | cons _ h => exact ⟨a, List.mem_append_left _ ha, t, h, rfl⟩
      | cons_cons _ h => exact ⟨a ++ [n], List.mem_append_right _ (List.mem_map.mpr ⟨a, ha, rfl⟩), _, h, by simp⟩
theorem enumF_len : ∀ (l : List Str) (acc : List (List Str)), (enumF l acc).length = acc.length * 2 ^ l.length
  | [], acc => by simp [enumF]
  | n :: l, acc => by
    rw [enumF_cons, enumF_len l, List.length_append, List.length_map, List.length_cons, Nat.pow_succ]
    rw [← Nat.mul_two, Nat.mul_assoc, Nat.mul_comm 2]
def lotsW (w : W) : List (List Str) := enumF (isortS w.names) [[]]
theorem lotsW_mem {w : W} {x : List Str} : x ∈ lotsW w ↔ x.Sublist (isortS w.names) := by
  unfold lotsW
  rw [enumF_mem]
  constructor
  · rintro ⟨a, ha, t, ht, rfl⟩
    rw [List.mem_singleton.mp ha]
    exact ht
  · intro h
    exact ⟨[], by simp, x, h, rfl⟩
theorem sorted_nd {w : W} (hw : w.Ok) : (isortS w.names).Nodup := (isortS_perm w.names).nodup_iff.mpr hw.nd
theorem sorted_len {w : W} (hw : w.Ok) : (isortS w.names).length ≤ 6 := by rw [(isortS_perm w.names).length_eq]; exact names_len hw
theorem lotsW_len {w : W} (hw : w.Ok) : (lotsW w).length ≤ 64 := by
  unfold lotsW
  rw [enumF_len]
  have := Nat.pow_le_pow_right (n := 2) (by decide) (sorted_len hw)
  simpa using this
theorem nodup_lenG {α : Type} [DecidableEq α] : ∀ (a b : List α), a.Nodup → (∀ x ∈ a, x ∈ b) → a.length ≤ b.length
  | [], b, _, _ => Nat.zero_le _
  | x :: a, b, hn, hs => by
    have hx := hs x List.mem_cons_self
    rw [List.nodup_cons] at hn
    have ih := nodup_lenG a (b.erase x) hn.2 fun y hy => (List.mem_erase_of_ne (fun z : y = x => hn.1 (by rw [← z]; exact hy))).mpr (hs y (List.mem_cons_of_mem _ hy))
    have := (List.perm_cons_erase hx).length_eq
    simp only [List.length_cons] at this ⊢
    omega
theorem sub_of_sorted : ∀ (b a : List Str), b.Pairwise (fun x y => leS x y = true) → a.Pairwise (fun x y => leS x y = true) → b.Nodup → a.Nodup → (∀ x ∈ a, x ∈ b) → a.Sublist b
  | [], a, _, _, _, _, h => by
    cases a with
    | nil => exact .slnil
    | cons x a => exact absurd (h x List.mem_cons_self) (by simp)
  | y :: b, [], _, _, _, _, _ => List.nil_sublist _
  | y :: b, x :: a, hb, ha, nb, na, h => by
    rw [List.pairwise_cons] at hb ha
    rw [List.nodup_cons] at nb na
    by_cases e : x = y
    · subst e
      refine .cons_cons x (sub_of_sorted b a hb.2 ha.2 nb.2 na.2 fun z hz => ?_)
      rcases List.mem_cons.mp (h z (List.mem_cons_of_mem _ hz)) with rfl | h1
      · exact absurd hz na.1
      · exact h1
    · refine .cons y (sub_of_sorted b (x :: a) hb.2 (List.pairwise_cons.mpr ha) nb.2 (List.nodup_cons.mpr na) fun z hz => ?_)
      rcases List.mem_cons.mp (h z hz) with rfl | h1
      · exfalso
        rcases List.mem_cons.mp hz with h2 | h2
        · exact e h2.symm
        · have h3 := ha.1 z h2
          rcases List.mem_cons.mp (h x List.mem_cons_self) with h4 | h4
          · exact e h4
          · exact e (leS_anti h3 (hb.1 x h4))
      · exact h1
/-! ### fronts by steps -/
structure EOk (w : W) (t : Nat) (lot : List Str) (q : Rat) : Prop where
  lot : LOk w lot
  q0 : 0 ≤ q
  qm : q ≤ ((1031 * 2 ^ (9 * t) : Nat) : Rat)
  D : ∃ D : Nat, 0 < D ∧ D < 2 ^ (25 + 19 * t) ∧ IntD D q
theorem LOk.ok {w : W} {lot : List Str} (h : LOk w lot) (hw : w.Ok) : LotOk w lot := ⟨h.mem, h.len hw, h.nd hw⟩
theorem EOk.B {w : W} {t : Nat} {lot : List Str} {q : Rat} (h : EOk w t lot q) : B (36 + 28 * t) q := by
  obtain ⟨D, h0, h1, h2⟩ := h.D
  have h3 := h.q0
  refine (h2.B (k := 11 + 9 * t) h0 h1 h.qm ?_ ?_).mono (by omega)
  · have := natR_nonneg (1031 * 2 ^ (9 * t))
    grind
  · rw [Nat.pow_add]
    exact Nat.mul_le_mul_right _ (by decide)
theorem lotF_sub {w : W} {lot : List Str} {s : Stp} (hw : Made w) (h : TOk w s) (hl : LOk w lot) (hb : (lotB w lot s).isNone = false) : LOk w (lotF lot s) := by
  refine ⟨?_, ?_⟩
  · unfold lotF
    cases ho : s.off with
    | true => exact List.filter_sublist.trans hl.sub
    | false =>
      simp only [Bool.false_eq_true, if_false]
      have hnd : (lot ++ s.mv).Nodup := by
        have hz : rnames (zr lot) = lot := zr_names lot
        have := on_nd (rs := zr lot) (by rw [hz]; exact hl.nd hw.ok) (h.mv_nd hw) ho (by rw [hz]; exact hb)
        rwa [rn_app, zr_names, zr_names] at this
      refine sub_of_sorted _ _ (isortS_sorted _) (isortS_sorted _) (sorted_nd hw.ok) ((isortS_perm _).nodup_iff.mpr hnd) fun x hx => ?_
      refine (isortS_perm w.names).symm.subset ?_
      rcases List.mem_append.mp ((isortS_perm _).subset hx) with h1 | h1
      · exact hl.mem x h1
      · exact h.mv_names x h1
  · have := lotB_some hb
    unfold lotB at this
    split at this
    · split at this
      · assumption
      · cases this
    · cases this
theorem bestF_ok {w : W} {t : Nat} {lot : List Str} {q q' : Rat} {s : Stp} (hw : Made w) (h : TOk w s) (he : EOk w t lot q) (hb : bestF w lot q s = some q') : EOk w (t + 1) (lotF lot s) q' := by
  rw [bestF_eq] at hb
  obtain ⟨g, hg, rfl⟩ := Option.map_eq_some_iff.mp hb
  have hl := he.lot.ok hw.ok
  obtain ⟨hbn, hG⟩ := bestG_ok hw h hl he.q0 hg
  obtain ⟨D, h0, h1, h2⟩ := he.D
  have hgD := bestG_D hw h hl h2 hg
  have hwh := whole_le hw.ok hl.len
  have hmv := mv_weight_le hw.ok s
  have hwp := whole_pos hw.ok lot
  have q0 := he.q0
  have g0 := hG.g0
  have gle := hG.le
  have hD := behG_D hw h hbn (h2.up (whole w lot)) hgD
  have hm := natR_nonneg (weight w s.mv)
  have hqW := Rat.mul_nonneg q0 (natR_nonneg (whole w lot))
  have hgm := Rat.mul_nonneg g0 hm
  have hgm2 := Rat.mul_le_mul_of_nonneg_right gle hm
  have hup : q * ((whole w lot : Nat) : Rat) ≤ ((1031 * 2 ^ (9 * (t + 1)) : Nat) : Rat) := by
    have e : 1031 * 2 ^ (9 * (t + 1)) = 1031 * 2 ^ (9 * t) * 2 ^ 9 := by rw [Nat.mul_succ, Nat.pow_add, Nat.mul_assoc]
    rw [e, Rat.natCast_mul]
    have a1 := Rat.mul_le_mul_of_nonneg_right he.qm (natR_nonneg (whole w lot))
    have a2 := Rat.mul_le_mul_of_nonneg_left (natR_le (Nat.le_of_lt hwh)) (natR_nonneg (1031 * 2 ^ (9 * t)))
    exact Rat.le_trans a1 a2
  refine ⟨lotF_sub hw h he.lot hbn, ?_, ?_, D * whole w lot * (if s.off then whole w lot - weight w s.mv else whole w lot + weight w s.mv), ?_, ?_, hD⟩
  · unfold behG
    cases ho : s.off with
    | true =>
      simp only [if_true]
      have hle := off_whole hw h hbn ho
      have hrh := hw.ok.rh0
      have hp : (0 : Rat) < ((whole w lot - weight w s.mv : Nat) : Rat) := natR_pos (by omega)
      rw [le_div hp, Rat.zero_mul]
      have hmw := Rat.mul_le_mul_of_nonneg_left (natR_le (show weight w s.mv ≤ whole w lot by omega)) q0
      grind
    | false =>
      simp only [Bool.false_eq_true, if_false]
      have hp : (0 : Rat) < ((whole w lot + weight w s.mv : Nat) : Rat) := natR_pos (by omega)
      rw [le_div hp, Rat.zero_mul]
      grind
  · refine Rat.le_trans ?_ hup
    unfold behG
    cases ho : s.off with
    | true =>
      simp only [if_true]
      have hle := off_whole hw h hbn ho
      have hrh := hw.ok.rh0
      have hp : (0 : Rat) < ((whole w lot - weight w s.mv : Nat) : Rat) := natR_pos (by omega)
      rw [div_le hp]
      have h5 : (1 : Rat) ≤ ((whole w lot - weight w s.mv : Nat) : Rat) := natR_le (a := 1) (by omega)
      have := Rat.mul_le_mul_of_nonneg_left h5 hqW
      grind
    | false =>
      simp only [Bool.false_eq_true, if_false]
      have hp : (0 : Rat) < ((whole w lot + weight w s.mv : Nat) : Rat) := natR_pos (by omega)
      rw [div_le hp]
      have h5 : (1 : Rat) ≤ ((whole w lot : Nat) : Rat) := natR_le (a := 1) (by omega)
      have h6 := Rat.mul_le_mul_of_nonneg_left h5 hqW
      have h7 := Rat.mul_le_mul_of_nonneg_left h5 (Rat.mul_nonneg q0 hm)
      rw [Rat.natCast_add]
      grind
  · cases ho : s.off with
    | true =>
      simp only [if_true]
      have hle := off_whole hw h hbn ho
      have hrh := hw.ok.rh0
      exact Nat.mul_pos (Nat.mul_pos h0 hwp) (by omega)
    | false =>
      simp only [Bool.false_eq_true, if_false]
      exact Nat.mul_pos (Nat.mul_pos h0 hwp) (by omega)
  · have h8 : (if s.off then whole w lot - weight w s.mv else whole w lot + weight w s.mv) < 2 ^ 10 := by
      have hwh' : whole w lot < 512 := hwh
      have : (2 : Nat) ^ 10 = 1024 := by decide
      split <;> omega
    have := Nat.mul_lt_mul'' (Nat.mul_lt_mul'' h1 hwh) h8
    rw [← Nat.pow_add, ← Nat.pow_add] at this
    have e : 25 + 19 * t + 9 + 10 = 25 + 19 * (t + 1) := by omega
    rwa [e] at this
end OA
namespace OA
open PySem PySem.Spec PyProof.Rows L2
local macro_rules | `(tactic| subst_eqs) => `(tactic| first | refine wf_r0 (by simp only [List.map_cons, List.map_nil, List.length_cons, List.length_nil, List.replicate, List.cons_append, List.nil_append, Nat.reduceAdd, Nat.reduceSub]; rfl) ?_ | refine wf_r (by simp only [List.map_cons, List.map_nil, List.length_cons, List.length_nil, List.replicate, List.cons_append, List.nil_append, Nat.reduceAdd, Nat.reduceSub]; rfl) ?_)
local macro_rules | `(tactic| clean_wf) => `(tactic| try dsimp only [List.set_cons_zero, List.set_cons_succ])
local macro_rules | `(tactic| array_mem_dec) => `(tactic| first | with_reducible assumption | with_reducible exact st_zero | with_reducible exact st_one | with_reducible exact stp_zero | with_reducible exact stp_one | with_reducible exact fr_top | with_reducible exact fr_bot | with_reducible exact fAdd_int | with_reducible exact fSub_int | with_reducible exact fLt_int | with_reducible exact fGt_int | with_reducible exact fLe_int | with_reducible exact fGe_int | with_reducible exact fEq_int | with_reducible exact is_off _ | with_reducible exact is_on _ | with_reducible exact w_zero _ _ | with_reducible exact w_one _ _ | with_reducible exact w_two _ _ | with_reducible exact names_items _ | with_reducible exact rowsD_items _ | with_reducible exact fEq_fr | with_reducible exact fNe_fr | exact rfl)
local macro_rules | `(tactic| array_get_dec) => `(tactic| first | with_reducible apply we_K | ((with_reducible apply we_var); exact rfl) | with_reducible apply we_bin | with_reducible apply we_call | with_reducible apply wl_cons | with_reducible apply wl_nil | with_reducible apply ws_seq | with_reducible apply ws_set | ((with_reducible apply seqK_nx); clean_wf) | with_reducible apply seqK_ret | with_reducible apply ws_ret | with_reducible apply ws_if | with_reducible apply wt_tst | with_reducible apply ws_nil | with_reducible apply we_tup | with_reducible apply we_app | with_reducible apply we_if | with_reducible apply wt_and | with_reducible apply wt_or | with_reducible apply wt_not | with_reducible apply we_and | with_reducible apply we_or | with_reducible apply we_not | with_reducible apply ws_par | with_reducible apply ws_asg | with_reducible apply ws_expr | with_reducible apply ws_for | with_reducible apply we_lst | with_reducible apply wi_iter | with_reducible apply we_sl | with_reducible apply wo_no | with_reducible apply wo_part | with_reducible apply we_newL0b | with_reducible apply we_newL | with_reducible apply we_isi | with_reducible apply we_chain | ((with_reducible apply wf_of); focus (with_reducible assumption)) | with_reducible refine ⟨_, (by repeat (first | with_reducible exact dats_nil | with_reducible apply dats_cs)), by simp, ?_⟩ | with_reducible refine ⟨_, (by with_reducible assumption), ?_⟩ | with_reducible refine ⟨_, rfl, ?_⟩ | with_reducible refine ⟨_, (by array_mem_dec), ?_⟩ | ((with_reducible apply we_of); focus (with_reducible assumption)))
local macro_rules | `(tactic| sizeOf_list_dec) => `(tactic| repeat' (first | array_get_dec | with_reducible apply conj_T | with_reducible apply conj_F | with_reducible apply conj_T' | with_reducible apply conj_F' | with_reducible apply conj_nT | with_reducible apply conj_nF | with_reducible apply conj_nT' | with_reducible apply conj_nF' | (with_reducible apply conj_tf <;> intro _) | (with_reducible apply conj_ft <;> intro _)))
/-! ### one step more -/
theorem lookup_mem {α : Type} {k : List Str} {a : α} : ∀ {ps : List (List Str × α)}, ps.lookup k = some a → (k, a) ∈ ps
  | [], h => by cases h
  | (j, b) :: ps, h => by
    rw [List.lookup_cons] at h
    by_cases e : k = j
    · subst e
      simp only [beq_self_eq_true] at h
      cases h
      exact List.mem_cons_self
    · rw [beq_eq_false_iff_ne.mpr e] at h
      exact List.mem_cons_of_mem _ (lookup_mem h)
theorem look_self_of {α : Type} : ∀ (ps : List (List Str × α)), (ps.map (·.1)).Nodup → ∀ p ∈ ps, ps.lookup p.1 = some p.2
  | [], _, p, hp => by simp at hp
  | q :: ps, hn, p, hp => by
    rw [List.map_cons, List.nodup_cons] at hn
    rw [List.lookup_cons]
    rcases List.mem_cons.mp hp with rfl | hp
    · simp
    · have : ¬ p.1 = q.1 := fun z => hn.1 (by rw [← z]; exact List.mem_map.mpr ⟨p, hp, rfl⟩)
      rw [beq_eq_false_iff_ne.mpr this]
      exact look_self_of ps hn.2 p hp
end OA
namespace OA
open PySem PySem.Spec PyProof.Rows L2
local macro_rules | `(tactic| subst_eqs) => `(tactic| first | refine wf_r0 (by simp only [List.map_cons, List.map_nil, List.length_cons, List.length_nil, List.replicate, List.cons_append, List.nil_append, Nat.reduceAdd, Nat.reduceSub]; rfl) ?_ | refine wf_r (by simp only [List.map_cons, List.map_nil, List.length_cons, List.length_nil, List.replicate, List.cons_append, List.nil_append, Nat.reduceAdd, Nat.reduceSub]; rfl) ?_)
local macro_rules | `(tactic| clean_wf) => `(tactic| try dsimp only [List.set_cons_zero, List.set_cons_succ])
local macro_rules | `(tactic| array_mem_dec) => `(tactic| first | with_reducible assumption | with_reducible exact st_zero | with_reducible exact st_one | with_reducible exact stp_zero | with_reducible exact stp_one | with_reducible exact fr_top | with_reducible exact fr_bot | with_reducible exact fAdd_int | with_reducible exact fSub_int | with_reducible exact fLt_int | with_reducible exact fGt_int | with_reducible exact fLe_int | with_reducible exact fGe_int | with_reducible exact fEq_int | with_reducible exact is_off _ | with_reducible exact is_on _ | with_reducible exact w_zero _ _ | with_reducible exact w_one _ _ | with_reducible exact w_two _ _ | with_reducible exact names_items _ | with_reducible exact rowsD_items _ | with_reducible exact fEq_fr | with_reducible exact fNe_fr | exact rfl)
local macro_rules | `(tactic| array_get_dec) => `(tactic| first | with_reducible apply we_K | ((with_reducible apply we_var); exact rfl) | with_reducible apply we_bin | with_reducible apply we_call | with_reducible apply wl_cons | with_reducible apply wl_nil | with_reducible apply ws_seq | with_reducible apply ws_set | ((with_reducible apply seqK_nx); clean_wf) | with_reducible apply seqK_ret | with_reducible apply ws_ret | with_reducible apply ws_if | with_reducible apply wt_tst | with_reducible apply ws_nil | with_reducible apply we_tup | with_reducible apply we_app | with_reducible apply we_if | with_reducible apply wt_and | with_reducible apply wt_or | with_reducible apply wt_not | with_reducible apply we_and | with_reducible apply we_or | with_reducible apply we_not | with_reducible apply ws_par | with_reducible apply ws_asg | with_reducible apply ws_expr | with_reducible apply ws_for | with_reducible apply we_lst | with_reducible apply wi_iter | with_reducible apply we_sl | with_reducible apply wo_no | with_reducible apply wo_part | with_reducible apply we_newL0b | with_reducible apply we_newL | with_reducible apply we_isi | with_reducible apply we_chain | ((with_reducible apply wf_of); focus (with_reducible assumption)) | with_reducible refine ⟨_, (by repeat (first | with_reducible exact dats_nil | with_reducible apply dats_cs)), by simp, ?_⟩ | with_reducible refine ⟨_, (by with_reducible assumption), ?_⟩ | with_reducible refine ⟨_, rfl, ?_⟩ | with_reducible refine ⟨_, (by array_mem_dec), ?_⟩ | ((with_reducible apply we_of); focus (with_reducible assumption)))
local macro_rules | `(tactic| sizeOf_list_dec) => `(tactic| repeat' (first | array_get_dec | with_reducible apply conj_T | with_reducible apply conj_F | with_reducible apply conj_T' | with_reducible apply conj_F' | with_reducible apply conj_nT | with_reducible apply conj_nF | with_reducible apply conj_nT' | with_reducible apply conj_nF' | (with_reducible apply conj_tf <;> intro _) | (with_reducible apply conj_ft <;> intro _)))
/-! ### fewest steps -/
theorem nokay_eok {w : W} {g : Rat} {rs : Rows} (hw : Made w) (hn : NOkay w g rs) : EOk w 0 (rnames rs) (front w g rs) := by
  obtain ⟨f0, f1, D, d0, d1, d2⟩ := hn.front hw.ok
  exact ⟨hn.lot, f0, by simpa using f1, D, d0, by simpa using d1, d2⟩
/-- the law's own -/
theorem fNe_emp {S : Ss} {xs : List (List Str)} (h : ∀ x ∈ xs, SOk x) : fNe S (.d (.lst (xs.map names))) (.d (.lst [])) = some (.d (.bl (!xs.isEmpty))) := by
  have h1 : Sh 2 (.lst (xs.map names)) := Sh.lst fun d hd => by
    obtain ⟨x, hx, rfl⟩ := List.mem_map.mp hd
    exact (h x hx).tup
  rw [fNe_sh h1 (Sh.lst (n := 0) (ds := []) (by simp))]
  cases xs <;> rfl
end OA
namespace OA
open PySem PySem.Spec PyProof.Rows L2
local macro_rules | `(tactic| subst_eqs) => `(tactic| first | refine wf_r0 (by simp only [List.map_cons, List.map_nil, List.length_cons, List.length_nil, List.replicate, List.cons_append, List.nil_append, Nat.reduceAdd, Nat.reduceSub]; rfl) ?_ | refine wf_r (by simp only [List.map_cons, List.map_nil, List.length_cons, List.length_nil, List.replicate, List.cons_append, List.nil_append, Nat.reduceAdd, Nat.reduceSub]; rfl) ?_)
local macro_rules | `(tactic| clean_wf) => `(tactic| try dsimp only [List.set_cons_zero, List.set_cons_succ])
local macro_rules | `(tactic| array_mem_dec) => `(tactic| first | with_reducible assumption | with_reducible exact st_zero | with_reducible exact st_one | with_reducible exact stp_zero | with_reducible exact stp_one | with_reducible exact fr_top | with_reducible exact fr_bot | with_reducible exact fAdd_int | with_reducible exact fSub_int | with_reducible exact fLt_int | with_reducible exact fGt_int | with_reducible exact fLe_int | with_reducible exact fGe_int | with_reducible exact fEq_int | with_reducible exact is_off _ | with_reducible exact is_on _ | with_reducible exact w_zero _ _ | with_reducible exact w_one _ _ | with_reducible exact w_two _ _ | with_reducible exact names_items _ | with_reducible exact rowsD_items _ | with_reducible exact fEq_fr | with_reducible exact fNe_fr | exact rfl)
local macro_rules | `(tactic| array_get_dec) => `(tactic| first | with_reducible apply we_K | ((with_reducible apply we_var); exact rfl) | with_reducible apply we_bin | with_reducible apply we_call | with_reducible apply wl_cons | with_reducible apply wl_nil | with_reducible apply ws_seq | with_reducible apply ws_set | ((with_reducible apply seqK_nx); clean_wf) | with_reducible apply seqK_ret | with_reducible apply ws_ret | with_reducible apply ws_if | with_reducible apply wt_tst | with_reducible apply ws_nil | with_reducible apply we_tup | with_reducible apply we_app | with_reducible apply we_if | with_reducible apply wt_and | with_reducible apply wt_or | with_reducible apply wt_not | with_reducible apply we_and | with_reducible apply we_or | with_reducible apply we_not | with_reducible apply ws_par | with_reducible apply ws_asg | with_reducible apply ws_expr | with_reducible apply ws_for | with_reducible apply we_lst | with_reducible apply wi_iter | with_reducible apply we_sl | with_reducible apply wo_no | with_reducible apply wo_part | with_reducible apply we_newL0b | with_reducible apply we_newL | with_reducible apply we_isi | with_reducible apply we_chain | ((with_reducible apply wf_of); focus (with_reducible assumption)) | with_reducible refine ⟨_, (by repeat (first | with_reducible exact dats_nil | with_reducible apply dats_cs)), by simp, ?_⟩ | with_reducible refine ⟨_, (by with_reducible assumption), ?_⟩ | with_reducible refine ⟨_, rfl, ?_⟩ | with_reducible refine ⟨_, (by array_mem_dec), ?_⟩ | ((with_reducible apply we_of); focus (with_reducible assumption)))
local macro_rules | `(tactic| sizeOf_list_dec) => `(tactic| repeat' (first | array_get_dec | with_reducible apply conj_T | with_reducible apply conj_F | with_reducible apply conj_T' | with_reducible apply conj_F' | with_reducible apply conj_nT | with_reducible apply conj_nF | with_reducible apply conj_nT' | with_reducible apply conj_nF' | (with_reducible apply conj_tf <;> intro _) | (with_reducible apply conj_ft <;> intro _)))
/-! ### small worlds, all lots, helpers -/
end OA
namespace OA
open PySem PySem.Spec PyProof.Rows L2
local macro_rules | `(tactic| subst_eqs) => `(tactic| first | refine wf_r0 (by simp only [List.map_cons, List.map_nil, List.length_cons, List.length_nil, List.replicate, List.cons_append, List.nil_append, Nat.reduceAdd, Nat.reduceSub]; rfl) ?_ | refine wf_r (by simp only [List.map_cons, List.map_nil, List.length_cons, List.length_nil, List.replicate, List.cons_append, List.nil_append, Nat.reduceAdd, Nat.reduceSub]; rfl) ?_)
local macro_rules | `(tactic| clean_wf) => `(tactic| try dsimp only [List.set_cons_zero, List.set_cons_succ])
local macro_rules | `(tactic| array_mem_dec) => `(tactic| first | with_reducible assumption | with_reducible exact st_zero | with_reducible exact st_one | with_reducible exact stp_zero | with_reducible exact stp_one | with_reducible exact fr_top | with_reducible exact fr_bot | with_reducible exact fAdd_int | with_reducible exact fSub_int | with_reducible exact fLt_int | with_reducible exact fGt_int | with_reducible exact fLe_int | with_reducible exact fGe_int | with_reducible exact fEq_int | with_reducible exact is_off _ | with_reducible exact is_on _ | with_reducible exact w_zero _ _ | with_reducible exact w_one _ _ | with_reducible exact w_two _ _ | with_reducible exact names_items _ | with_reducible exact rowsD_items _ | with_reducible exact fEq_fr | with_reducible exact fNe_fr | exact rfl)
local macro_rules | `(tactic| array_get_dec) => `(tactic| first | with_reducible apply we_K | ((with_reducible apply we_var); exact rfl) | with_reducible apply we_bin | with_reducible apply we_call | with_reducible apply wl_cons | with_reducible apply wl_nil | with_reducible apply ws_seq | with_reducible apply ws_set | ((with_reducible apply seqK_nx); clean_wf) | with_reducible apply seqK_ret | with_reducible apply ws_ret | with_reducible apply ws_if | with_reducible apply wt_tst | with_reducible apply ws_nil | with_reducible apply we_tup | with_reducible apply we_app | with_reducible apply we_if | with_reducible apply wt_and | with_reducible apply wt_or | with_reducible apply wt_not | with_reducible apply we_and | with_reducible apply we_or | with_reducible apply we_not | with_reducible apply ws_par | with_reducible apply ws_asg | with_reducible apply ws_expr | with_reducible apply ws_for | with_reducible apply we_lst | with_reducible apply wi_iter | with_reducible apply we_sl | with_reducible apply wo_no | with_reducible apply wo_part | with_reducible apply we_newL0b | with_reducible apply we_newL | with_reducible apply we_isi | with_reducible apply we_chain | ((with_reducible apply wf_of); focus (with_reducible assumption)) | with_reducible refine ⟨_, (by repeat (first | with_reducible exact dats_nil | with_reducible apply dats_cs)), by simp, ?_⟩ | with_reducible refine ⟨_, (by with_reducible assumption), ?_⟩ | with_reducible refine ⟨_, rfl, ?_⟩ | with_reducible refine ⟨_, (by array_mem_dec), ?_⟩ | ((with_reducible apply we_of); focus (with_reducible assumption)))
local macro_rules | `(tactic| sizeOf_list_dec) => `(tactic| repeat' (first | array_get_dec | with_reducible apply conj_T | with_reducible apply conj_F | with_reducible apply conj_T' | with_reducible apply conj_F' | with_reducible apply conj_nT | with_reducible apply conj_nF | with_reducible apply conj_nT' | with_reducible apply conj_nF' | (with_reducible apply conj_tf <;> intro _) | (with_reducible apply conj_ft <;> intro _)))
/-! ### parts of the laws -/
theorem en9 {t : En} (h : t.length = 9) : ∃ a b c d e f g h i, t = [a, b, c, d, e, f, g, h, i] := by
  match t, h with
  | [a, b, c, d, e, f, g, h, i], _ => exact ⟨a, b, c, d, e, f, g, h, i, rfl⟩
end OA
namespace OA
open PySem PySem.Spec PyProof.Rows L2
local macro_rules | `(tactic| subst_eqs) => `(tactic| first | refine wf_r0 (by simp only [List.map_cons, List.map_nil, List.length_cons, List.length_nil, List.replicate, List.cons_append, List.nil_append, Nat.reduceAdd, Nat.reduceSub]; rfl) ?_ | refine wf_r (by simp only [List.map_cons, List.map_nil, List.length_cons, List.length_nil, List.replicate, List.cons_append, List.nil_append, Nat.reduceAdd, Nat.reduceSub]; rfl) ?_)
local macro_rules | `(tactic| clean_wf) => `(tactic| try dsimp only [List.set_cons_zero, List.set_cons_succ])
local macro_rules | `(tactic| array_mem_dec) => `(tactic| first | with_reducible assumption | with_reducible exact st_zero | with_reducible exact st_one | with_reducible exact stp_zero | with_reducible exact stp_one | with_reducible exact fr_top | with_reducible exact fr_bot | with_reducible exact fAdd_int | with_reducible exact fSub_int | with_reducible exact fLt_int | with_reducible exact fGt_int | with_reducible exact fLe_int | with_reducible exact fGe_int | with_reducible exact fEq_int | with_reducible exact is_off _ | with_reducible exact is_on _ | with_reducible exact w_zero _ _ | with_reducible exact w_one _ _ | with_reducible exact w_two _ _ | with_reducible exact names_items _ | with_reducible exact rowsD_items _ | with_reducible exact fEq_fr | with_reducible exact fNe_fr | exact rfl)
local macro_rules | `(tactic| array_get_dec) => `(tactic| first | with_reducible apply we_K | ((with_reducible apply we_var); exact rfl) | with_reducible apply we_bin | with_reducible apply we_call | with_reducible apply wl_cons | with_reducible apply wl_nil | with_reducible apply ws_seq | with_reducible apply ws_set | ((with_reducible apply seqK_nx); clean_wf) | with_reducible apply seqK_ret | with_reducible apply ws_ret | with_reducible apply ws_if | with_reducible apply wt_tst | with_reducible apply ws_nil | with_reducible apply we_tup | with_reducible apply we_app | with_reducible apply we_if | with_reducible apply wt_and | with_reducible apply wt_or | with_reducible apply wt_not | with_reducible apply we_and | with_reducible apply we_or | with_reducible apply we_not | with_reducible apply ws_par | with_reducible apply ws_asg | with_reducible apply ws_expr | with_reducible apply ws_for | with_reducible apply we_lst | with_reducible apply wi_iter | with_reducible apply we_sl | with_reducible apply wo_no | with_reducible apply wo_part | with_reducible apply we_newL0b | with_reducible apply we_newL | with_reducible apply we_isi | with_reducible apply we_chain | ((with_reducible apply wf_of); focus (with_reducible assumption)) | with_reducible refine ⟨_, (by repeat (first | with_reducible exact dats_nil | with_reducible apply dats_cs)), by simp, ?_⟩ | with_reducible refine ⟨_, (by with_reducible assumption), ?_⟩ | with_reducible refine ⟨_, rfl, ?_⟩ | with_reducible refine ⟨_, (by array_mem_dec), ?_⟩ | ((with_reducible apply we_of); focus (with_reducible assumption)))
local macro_rules | `(tactic| sizeOf_list_dec) => `(tactic| repeat' (first | array_get_dec | with_reducible apply conj_T | with_reducible apply conj_F | with_reducible apply conj_T' | with_reducible apply conj_F' | with_reducible apply conj_nT | with_reducible apply conj_nF | with_reducible apply conj_nT' | with_reducible apply conj_nF' | (with_reducible apply conj_tf <;> intro _) | (with_reducible apply conj_ft <;> intro _)))
/-! ### ways -/
theorem insK_S (x : Str × Rat) : ∀ l : Rows, (insK (fun r : Str × Rat => r.1) x l).map (·.1) = insS x.1 (l.map (·.1))
  | [] => rfl
  | y :: r => by
    rw [insK, List.map_cons, insS]
    split
    · rfl
    · rw [List.map_cons, insK_S x r]
theorem sortR_S : ∀ l : Rows, rnames (sortR l) = isortS (rnames l)
  | [] => rfl
  | x :: r => by
    show (insK (fun r : Str × Rat => r.1) x (sortR r)).map (·.1) = insS x.1 (isortS (rnames r))
    rw [insK_S, ← sortR_S r]
    rfl
theorem stepD_names {w : W} {x : Rat} {rs rs' : Rows} {s : Stp} (hs : stepD w x rs s = some rs') : rnames rs' = lotF (rnames rs) s := by
  obtain ⟨_, _, _, e⟩ := stepD_some hs
  unfold lotF
  cases ho : s.off with
  | true =>
    rw [ho] at e
    simp only [if_true] at e ⊢
    rw [e, rest_names]
  | false =>
    rw [ho] at e
    simp only [Bool.false_eq_true, if_false] at e ⊢
    have hz : rnames (rs ++ zr s.mv) = rnames rs ++ s.mv := by
      show (rs ++ zr s.mv).map (·.1) = _
      rw [List.map_append]
      show rnames rs ++ rnames (zr s.mv) = _
      rw [zr_names]
    rw [e, sortR_S, hz]
def runP (w : W) : List Str → Rat → List Stp → Option (List Str × Rat)
  | lot, F, [] => some (lot, F)
  | lot, F, s :: ss => match bestF w lot F s with
    | none => none
    | some q => runP w (lotF lot s) q ss
theorem runP_snoc {w : W} : ∀ {lot : List Str} {F : Rat} {ss : List Stp} {l2 : List Str} {F2 q : Rat} {s : Stp}, runP w lot F ss = some (l2, F2) → bestF w l2 F2 s = some q → runP w lot F (ss ++ [s]) = some (lotF l2 s, q)
  | lot, F, [], l2, F2, q, s, h, hb => by
    cases h
    show (match bestF w lot F s with
      | none => none
      | some q => some (lotF lot s, q)) = _
    rw [hb]
  | lot, F, r :: ss, l2, F2, q, s, h, hb => by
    unfold runP at h
    show (match bestF w lot F r with
      | none => none
      | some q => runP w (lotF lot r) q (ss ++ [s])) = _
    cases hr : bestF w lot F r with
    | none => rw [hr] at h; cases h
    | some q' =>
      rw [hr] at h
      exact runP_snoc h hb
/-- what stands behind a step of a way -/
theorem way_step {w : W} {g : Rat} {rs : Rows} {s : Stp} {x : Rat} {t : Nat} (hw : Made w) (h : TOk w s) (ht : t ≤ 11) (hE : EOk w t (rnames rs) (front w g rs)) (hx : bestG w (rnames rs) (front w g rs) s = some x) :
    ∃ rs', stepD w x (rowsB w (rnames rs) (front w g rs) s x) s = some rs' ∧ rnames rs' = lotF (rnames rs) s ∧ front w x rs' = behG w (rnames rs) (front w g rs) s x ∧ behind w (front w g rs) (rowsB w (rnames rs) (front w g rs) s x) = x ∧ ¬ x < 0 ∧ B 460 x ∧ ROk w 261 rs' ∧ ROk w 261 (rowsB w (rnames rs) (front w g rs) s x) ∧ (∀ r ∈ rowsB w (rnames rs) (front w g rs) s x, In w r.2) := by
  have hl := hE.lot.ok hw.ok
  obtain ⟨hb, hg⟩ := bestG_ok hw h hl hE.q0 hx
  have e1 := rowsB_behind hw.ok hg
  obtain ⟨rs', e2⟩ := stepD_rowsB hb hg
  have hln : rnames (rowsB w (rnames rs) (front w g rs) s x) = rnames rs := rowsB_names _ _ _ _ _
  have e3 := front_behG (F := front w g rs) hw h (rs := rowsB w (rnames rs) (front w g rs) s x) (by rw [hln]; exact hl) e1.symm e2
  rw [hln] at e3
  have e4 := stepD_names e2
  rw [hln] at e4
  obtain ⟨D, h0, h1, h2⟩ := hE.D
  have hgD := bestG_D hw h hl h2 hx
  have hwh := whole_le hw.ok hl.len
  have hrk : ROk w 261 (rowsB w (rnames rs) (front w g rs) s x) := by
    refine (rowsB_rok' (a := 25 + 19 * t + 9) hw.ok hl hg (Nat.mul_pos h0 (whole_pos hw.ok (rnames rs))) ?_ (h2.up _) hgD).mono (by omega)
    have := Nat.mul_lt_mul'' h1 hwh
    rwa [← Nat.pow_add] at this
  exact ⟨rs', e2, e4, e3, e1, Rat.not_lt.mpr hg.g0, (bestG_B hw.ok hl hE.B hx).mono (by omega), stepD_rok hw h hrk (by decide) e2, hrk, rowsB_in hw.ok hg⟩
end OA
namespace OA
open PySem PySem.Spec PyProof.Rows L2
local macro_rules | `(tactic| subst_eqs) => `(tactic| first | refine wf_r0 (by simp only [List.map_cons, List.map_nil, List.length_cons, List.length_nil, List.replicate, List.cons_append, List.nil_append, Nat.reduceAdd, Nat.reduceSub]; rfl) ?_ | refine wf_r (by simp only [List.map_cons, List.map_nil, List.length_cons, List.length_nil, List.replicate, List.cons_append, List.nil_append, Nat.reduceAdd, Nat.reduceSub]; rfl) ?_)
local macro_rules | `(tactic| clean_wf) => `(tactic| try dsimp only [List.set_cons_zero, List.set_cons_succ])
local macro_rules | `(tactic| array_mem_dec) => `(tactic| first | with_reducible assumption | with_reducible exact st_zero | with_reducible exact st_one | with_reducible exact stp_zero | with_reducible exact stp_one | with_reducible exact fr_top | with_reducible exact fr_bot | with_reducible exact fAdd_int | with_reducible exact fSub_int | with_reducible exact fLt_int | with_reducible exact fGt_int | with_reducible exact fLe_int | with_reducible exact fGe_int | with_reducible exact fEq_int | with_reducible exact is_off _ | with_reducible exact is_on _ | with_reducible exact w_zero _ _ | with_reducible exact w_one _ _ | with_reducible exact w_two _ _ | with_reducible exact names_items _ | with_reducible exact rowsD_items _ | with_reducible exact fEq_fr | with_reducible exact fNe_fr | exact rfl)
local macro_rules | `(tactic| array_get_dec) => `(tactic| first | with_reducible apply we_K | ((with_reducible apply we_var); exact rfl) | with_reducible apply we_bin | with_reducible apply we_call | with_reducible apply wl_cons | with_reducible apply wl_nil | with_reducible apply ws_seq | with_reducible apply ws_set | ((with_reducible apply seqK_nx); clean_wf) | with_reducible apply seqK_ret | with_reducible apply ws_ret | with_reducible apply ws_if | with_reducible apply wt_tst | with_reducible apply ws_nil | with_reducible apply we_tup | with_reducible apply we_app | with_reducible apply we_if | with_reducible apply wt_and | with_reducible apply wt_or | with_reducible apply wt_not | with_reducible apply we_and | with_reducible apply we_or | with_reducible apply we_not | with_reducible apply ws_par | with_reducible apply ws_asg | with_reducible apply ws_expr | with_reducible apply ws_for | with_reducible apply we_lst | with_reducible apply wi_iter | with_reducible apply we_sl | with_reducible apply wo_no | with_reducible apply wo_part | with_reducible apply we_newL0b | with_reducible apply we_newL | with_reducible apply we_isi | with_reducible apply we_chain | ((with_reducible apply wf_of); focus (with_reducible assumption)) | with_reducible refine ⟨_, (by repeat (first | with_reducible exact dats_nil | with_reducible apply dats_cs)), by simp, ?_⟩ | with_reducible refine ⟨_, (by with_reducible assumption), ?_⟩ | with_reducible refine ⟨_, rfl, ?_⟩ | with_reducible refine ⟨_, (by array_mem_dec), ?_⟩ | ((with_reducible apply we_of); focus (with_reducible assumption)))
local macro_rules | `(tactic| sizeOf_list_dec) => `(tactic| repeat' (first | array_get_dec | with_reducible apply conj_T | with_reducible apply conj_F | with_reducible apply conj_T' | with_reducible apply conj_F' | with_reducible apply conj_nT | with_reducible apply conj_nF | with_reducible apply conj_nT' | with_reducible apply conj_nF' | (with_reducible apply conj_tf <;> intro _) | (with_reducible apply conj_ft <;> intro _)))
/-! ### steps told back: what is reckoned -/
theorem mv_pos {w : W} (hw : Made w) {s : Stp} (h : TOk w s) : 0 < weight w s.mv := by
  have h1 : s.n ∈ s.mv := by
    unfold Stp.mv
    exact List.mem_filter.mpr ⟨List.mem_cons_self, decide_eq_true (hw.ne (folk_names h.n))⟩
  have h2 := wt_pos hw.ok (folk_names h.n)
  have h3 := weight_le_of w [s.n] s.mv (by simp) (fun x hx => by rw [List.mem_singleton.mp hx]; exact h1)
  have h4 : weight w [s.n] = wt w s.n := by unfold weight; simp
  omega
/-! ### the step between two standings, as the program finds it -/
end OA
namespace OA
open PySem PySem.Spec PyProof.Rows L2
local macro_rules | `(tactic| subst_eqs) => `(tactic| first | refine wf_r0 (by simp only [List.map_cons, List.map_nil, List.length_cons, List.length_nil, List.replicate, List.cons_append, List.nil_append, Nat.reduceAdd, Nat.reduceSub]; rfl) ?_ | refine wf_r (by simp only [List.map_cons, List.map_nil, List.length_cons, List.length_nil, List.replicate, List.cons_append, List.nil_append, Nat.reduceAdd, Nat.reduceSub]; rfl) ?_)
local macro_rules | `(tactic| clean_wf) => `(tactic| try dsimp only [List.set_cons_zero, List.set_cons_succ])
local macro_rules | `(tactic| array_mem_dec) => `(tactic| first | with_reducible assumption | with_reducible exact st_zero | with_reducible exact st_one | with_reducible exact stp_zero | with_reducible exact stp_one | with_reducible exact fr_top | with_reducible exact fr_bot | with_reducible exact fAdd_int | with_reducible exact fSub_int | with_reducible exact fLt_int | with_reducible exact fGt_int | with_reducible exact fLe_int | with_reducible exact fGe_int | with_reducible exact fEq_int | with_reducible exact is_off _ | with_reducible exact is_on _ | with_reducible exact w_zero _ _ | with_reducible exact w_one _ _ | with_reducible exact w_two _ _ | with_reducible exact names_items _ | with_reducible exact rowsD_items _ | with_reducible exact fEq_fr | with_reducible exact fNe_fr | exact rfl)
local macro_rules | `(tactic| array_get_dec) => `(tactic| first | with_reducible apply we_K | ((with_reducible apply we_var); exact rfl) | with_reducible apply we_bin | with_reducible apply we_call | with_reducible apply wl_cons | with_reducible apply wl_nil | with_reducible apply ws_seq | with_reducible apply ws_set | ((with_reducible apply seqK_nx); clean_wf) | with_reducible apply seqK_ret | with_reducible apply ws_ret | with_reducible apply ws_if | with_reducible apply wt_tst | with_reducible apply ws_nil | with_reducible apply we_tup | with_reducible apply we_app | with_reducible apply we_if | with_reducible apply wt_and | with_reducible apply wt_or | with_reducible apply wt_not | with_reducible apply we_and | with_reducible apply we_or | with_reducible apply we_not | with_reducible apply ws_par | with_reducible apply ws_asg | with_reducible apply ws_expr | with_reducible apply ws_for | with_reducible apply we_lst | with_reducible apply wi_iter | with_reducible apply we_sl | with_reducible apply wo_no | with_reducible apply wo_part | with_reducible apply we_newL0b | with_reducible apply we_newL | with_reducible apply we_isi | with_reducible apply we_chain | ((with_reducible apply wf_of); focus (with_reducible assumption)) | with_reducible refine ⟨_, (by repeat (first | with_reducible exact dats_nil | with_reducible apply dats_cs)), by simp, ?_⟩ | with_reducible refine ⟨_, (by with_reducible assumption), ?_⟩ | with_reducible refine ⟨_, rfl, ?_⟩ | with_reducible refine ⟨_, (by array_mem_dec), ?_⟩ | ((with_reducible apply we_of); focus (with_reducible assumption)))
local macro_rules | `(tactic| sizeOf_list_dec) => `(tactic| repeat' (first | array_get_dec | with_reducible apply conj_T | with_reducible apply conj_F | with_reducible apply conj_T' | with_reducible apply conj_F' | with_reducible apply conj_nT | with_reducible apply conj_nF | with_reducible apply conj_nT' | with_reducible apply conj_nF' | (with_reducible apply conj_tf <;> intro _) | (with_reducible apply conj_ft <;> intro _)))
/-! ### steps told back: the law's own way is the same -/
end OA
namespace OA
open PySem PySem.Spec PyProof.Rows L2
local macro_rules | `(tactic| subst_eqs) => `(tactic| first | refine wf_r0 (by simp only [List.map_cons, List.map_nil, List.length_cons, List.length_nil, List.replicate, List.cons_append, List.nil_append, Nat.reduceAdd, Nat.reduceSub]; rfl) ?_ | refine wf_r (by simp only [List.map_cons, List.map_nil, List.length_cons, List.length_nil, List.replicate, List.cons_append, List.nil_append, Nat.reduceAdd, Nat.reduceSub]; rfl) ?_)
local macro_rules | `(tactic| clean_wf) => `(tactic| try dsimp only [List.set_cons_zero, List.set_cons_succ])
local macro_rules | `(tactic| array_mem_dec) => `(tactic| first | with_reducible assumption | with_reducible exact st_zero | with_reducible exact st_one | with_reducible exact stp_zero | with_reducible exact stp_one | with_reducible exact fr_top | with_reducible exact fr_bot | with_reducible exact fAdd_int | with_reducible exact fSub_int | with_reducible exact fLt_int | with_reducible exact fGt_int | with_reducible exact fLe_int | with_reducible exact fGe_int | with_reducible exact fEq_int | with_reducible exact is_off _ | with_reducible exact is_on _ | with_reducible exact w_zero _ _ | with_reducible exact w_one _ _ | with_reducible exact w_two _ _ | with_reducible exact names_items _ | with_reducible exact rowsD_items _ | with_reducible exact fEq_fr | with_reducible exact fNe_fr | exact rfl)
local macro_rules | `(tactic| array_get_dec) => `(tactic| first | with_reducible apply we_K | ((with_reducible apply we_var); exact rfl) | with_reducible apply we_bin | with_reducible apply we_call | with_reducible apply wl_cons | with_reducible apply wl_nil | with_reducible apply ws_seq | with_reducible apply ws_set | ((with_reducible apply seqK_nx); clean_wf) | with_reducible apply seqK_ret | with_reducible apply ws_ret | with_reducible apply ws_if | with_reducible apply wt_tst | with_reducible apply ws_nil | with_reducible apply we_tup | with_reducible apply we_app | with_reducible apply we_if | with_reducible apply wt_and | with_reducible apply wt_or | with_reducible apply wt_not | with_reducible apply we_and | with_reducible apply we_or | with_reducible apply we_not | with_reducible apply ws_par | with_reducible apply ws_asg | with_reducible apply ws_expr | with_reducible apply ws_for | with_reducible apply we_lst | with_reducible apply wi_iter | with_reducible apply we_sl | with_reducible apply wo_no | with_reducible apply wo_part | with_reducible apply we_newL0b | with_reducible apply we_newL | with_reducible apply we_isi | with_reducible apply we_chain | ((with_reducible apply wf_of); focus (with_reducible assumption)) | with_reducible refine ⟨_, (by repeat (first | with_reducible exact dats_nil | with_reducible apply dats_cs)), by simp, ?_⟩ | with_reducible refine ⟨_, (by with_reducible assumption), ?_⟩ | with_reducible refine ⟨_, rfl, ?_⟩ | with_reducible refine ⟨_, (by array_mem_dec), ?_⟩ | ((with_reducible apply we_of); focus (with_reducible assumption)))
local macro_rules | `(tactic| sizeOf_list_dec) => `(tactic| repeat' (first | array_get_dec | with_reducible apply conj_T | with_reducible apply conj_F | with_reducible apply conj_T' | with_reducible apply conj_F' | with_reducible apply conj_nT | with_reducible apply conj_nF | with_reducible apply conj_nT' | with_reducible apply conj_nF' | (with_reducible apply conj_tf <;> intro _) | (with_reducible apply conj_ft <;> intro _)))
/-! ### steps told back: one step, walks, draws -/
theorem mv_of {s : Stp} {w : W} (hw : Made w) (h : TOk w s) : s.mv = s.n :: (if s.l = sNo then [] else [s.l]) := by
  unfold Stp.mv
  have h1 : s.n ≠ sNo := hw.ne (folk_names h.n)
  by_cases h2 : s.l = sNo
  · rw [if_pos h2]
    simp [h1, h2]
  · rw [if_neg h2]
    simp [h1, h2]
theorem lotF_mem {w : W} {lot : List Str} {s : Stp} (x : Str) : x ∈ lotF lot s ↔ if s.off then x ∈ lot ∧ ¬ x ∈ s.mv else x ∈ lot ∨ x ∈ s.mv := by
  unfold lotF
  cases s.off with
  | true => simp
  | false =>
    simp only [Bool.false_eq_true, if_false]
    rw [(isortS_perm _).mem_iff, List.mem_append]
theorem lotB_on {w : W} {lot : List Str} {s : Stp} (h : (lotB w lot s).isNone = false) (ho : s.off = false) : ∀ x ∈ s.mv, ¬ x ∈ lot := fun x hx hl => by
  unfold lotB at h
  split at h
  · rename_i he
    rw [List.isEmpty_iff] at he
    have : x ∈ s.mv.filter fun x => decide (x ∈ lot) != s.off := List.mem_filter.mpr ⟨hx, by rw [ho]; simp [hl]⟩
    rw [he] at this
    exact absurd this (by simp)
  · cases h
theorem lotB_ne {w : W} {lot : List Str} {s : Stp} (hw : Made w) (hs : TOk w s) : ¬ lotB w lot s = some lot := fun h1 => by
  have n1 : (lotB w lot s).isNone = false := by rw [h1]; rfl
  have e1 := lotB_some n1
  rw [h1] at e1
  have e3 : lot = lotF lot s := by injection e1
  have p1 : s.n ∈ s.mv := by rw [mv_of hw hs]; exact List.mem_cons_self
  have hm := lotF_mem (w := w) (lot := lot) (s := s) s.n
  rw [← e3] at hm
  cases ho : s.off with
  | true =>
    rw [ho] at hm
    exact (hm.mp (lotB_off n1 ho _ p1)).2 p1
  | false =>
    rw [ho] at hm
    exact lotB_on n1 ho _ p1 (hm.mpr (.inr p1))
/-- a standing behind few steps -/
structure StT (w : W) (t : Nat) (g : Rat) (rs : Rows) : Prop where
  e : EOk w t (rnames rs) (front w g rs)
  gB : B 500 g
  rk : ROk w 80 rs
theorem NOkay.st {w : W} {g : Rat} {rs : Rows} (hw : Made w) (hn : NOkay w g rs) : StT w 0 g rs := by
  obtain ⟨f0, f1, D, d0, d1, d2⟩ := hn.front hw.ok
  exact ⟨⟨hn.lot, f0, by simpa using f1, D, d0, by simpa using d1, d2⟩, hn.gB.mono (by decide), (hn.rok hw.ok).mono (by decide)⟩
theorem canS_mem {w : W} {lot : List Str} {F : Rat} {s : Stp} (h : s ∈ canS w lot F) : s ∈ stepsL w ∧ ∃ x, bestG w lot F s = some x := by
  obtain ⟨h1, h2⟩ := List.mem_filter.mp h
  refine ⟨h1, ?_⟩
  exact Option.isSome_iff_exists.mp h2
end OA
namespace OA
open PySem PySem.Spec PyProof.Rows L2
local macro_rules | `(tactic| subst_eqs) => `(tactic| first | refine wf_r0 (by simp only [List.map_cons, List.map_nil, List.length_cons, List.length_nil, List.replicate, List.cons_append, List.nil_append, Nat.reduceAdd, Nat.reduceSub]; rfl) ?_ | refine wf_r (by simp only [List.map_cons, List.map_nil, List.length_cons, List.length_nil, List.replicate, List.cons_append, List.nil_append, Nat.reduceAdd, Nat.reduceSub]; rfl) ?_)
local macro_rules | `(tactic| clean_wf) => `(tactic| try dsimp only [List.set_cons_zero, List.set_cons_succ])
local macro_rules | `(tactic| array_mem_dec) => `(tactic| first | with_reducible assumption | with_reducible exact st_zero | with_reducible exact st_one | with_reducible exact stp_zero | with_reducible exact stp_one | with_reducible exact fr_top | with_reducible exact fr_bot | with_reducible exact fAdd_int | with_reducible exact fSub_int | with_reducible exact fLt_int | with_reducible exact fGt_int | with_reducible exact fLe_int | with_reducible exact fGe_int | with_reducible exact fEq_int | with_reducible exact is_off _ | with_reducible exact is_on _ | with_reducible exact w_zero _ _ | with_reducible exact w_one _ _ | with_reducible exact w_two _ _ | with_reducible exact names_items _ | with_reducible exact rowsD_items _ | with_reducible exact fEq_fr | with_reducible exact fNe_fr | exact rfl)
local macro_rules | `(tactic| array_get_dec) => `(tactic| first | with_reducible apply we_K | ((with_reducible apply we_var); exact rfl) | with_reducible apply we_bin | with_reducible apply we_call | with_reducible apply wl_cons | with_reducible apply wl_nil | with_reducible apply ws_seq | with_reducible apply ws_set | ((with_reducible apply seqK_nx); clean_wf) | with_reducible apply seqK_ret | with_reducible apply ws_ret | with_reducible apply ws_if | with_reducible apply wt_tst | with_reducible apply ws_nil | with_reducible apply we_tup | with_reducible apply we_app | with_reducible apply we_if | with_reducible apply wt_and | with_reducible apply wt_or | with_reducible apply wt_not | with_reducible apply we_and | with_reducible apply we_or | with_reducible apply we_not | with_reducible apply ws_par | with_reducible apply ws_asg | with_reducible apply ws_expr | with_reducible apply ws_for | with_reducible apply we_lst | with_reducible apply wi_iter | with_reducible apply we_sl | with_reducible apply wo_no | with_reducible apply wo_part | with_reducible apply we_newL0b | with_reducible apply we_newL | with_reducible apply we_isi | with_reducible apply we_chain | ((with_reducible apply wf_of); focus (with_reducible assumption)) | with_reducible refine ⟨_, (by repeat (first | with_reducible exact dats_nil | with_reducible apply dats_cs)), by simp, ?_⟩ | with_reducible refine ⟨_, (by with_reducible assumption), ?_⟩ | with_reducible refine ⟨_, rfl, ?_⟩ | with_reducible refine ⟨_, (by array_mem_dec), ?_⟩ | ((with_reducible apply we_of); focus (with_reducible assumption)))
local macro_rules | `(tactic| sizeOf_list_dec) => `(tactic| repeat' (first | array_get_dec | with_reducible apply conj_T | with_reducible apply conj_F | with_reducible apply conj_T' | with_reducible apply conj_F' | with_reducible apply conj_nT | with_reducible apply conj_nF | with_reducible apply conj_nT' | with_reducible apply conj_nF' | (with_reducible apply conj_tf <;> intro _) | (with_reducible apply conj_ft <;> intro _)))
/-! ### less is never worse -/
theorem bestF_mono {w : W} {lot : List Str} {s : Stp} {F1 F2 q2 : Rat} (hw : Made w) (h : TOk w s) (hl : LotOk w lot) (h0 : 0 ≤ F1) (hle : F1 ≤ F2) (hb : bestF w lot F2 s = some q2) : ∃ q1, bestF w lot F1 s = some q1 ∧ q1 ≤ q2 := by
  rw [bestF_eq] at hb
  obtain ⟨x2, hx, rfl⟩ := Option.map_eq_some_iff.mp hb
  obtain ⟨hbn, hg⟩ := bestG_ok hw h hl (Rat.le_trans h0 hle) hx
  have hraw : raw w lot F1 s ≤ raw w lot F2 s := by unfold raw; grind
  have hr1 := raw_le hw.ok lot F1 s
  have g1 := hg.raw
  have g2 := hg.rc
  have g3 := hg.le
  have g4 := hg.g0
  obtain ⟨x1, hx1, k1, k2, k3⟩ : ∃ x1 : Rat, (x1 = x2 ∧ x2 ≤ F1 ∨ x1 = F1 ∧ F1 ≤ x2) ∧ x1 ≤ x2 ∧ x1 ≤ F1 ∧ 0 ≤ x1 := by
    by_cases hc : x2 ≤ F1
    · exact ⟨x2, .inl ⟨rfl, hc⟩, Rat.le_refl, hc, g4⟩
    · have := Rat.le_of_lt (Rat.not_le.mp hc)
      exact ⟨F1, .inr ⟨rfl, this⟩, this, Rat.le_refl, h0⟩
  have hG : GOk w lot F1 s x1 := by
    refine ⟨?_, Rat.le_trans k1 g2, k2, k3⟩
    rcases hx1 with ⟨rfl, _⟩ | ⟨rfl, _⟩
    · exact Rat.le_trans hraw g1
    · exact hr1
  obtain ⟨q1, e1, e2⟩ := behG_best hw h hl h0 hbn hG
  refine ⟨q1, e1, Rat.le_trans e2 ?_⟩
  have hm := natR_nonneg (weight w s.mv)
  have hW := natR_nonneg (whole w lot)
  unfold behG
  cases ho : s.off with
  | true =>
    have hlew := off_whole hw h hbn ho
    have hrh := hw.ok.rh0
    have hk : (0 : Rat) < ((whole w lot - weight w s.mv : Nat) : Rat) := natR_pos (by omega)
    have hks : ((whole w lot - weight w s.mv : Nat) : Rat) = (whole w lot : Nat) - (weight w s.mv : Nat) := by
      have : (whole w lot : Nat) = (whole w lot - weight w s.mv) + weight w s.mv := by omega
      have h3 : ((whole w lot : Nat) : Rat) = (((whole w lot - weight w s.mv) + weight w s.mv : Nat) : Rat) := congrArg _ this
      rw [Rat.natCast_add] at h3
      grind
    simp only [if_true]
    refine div_le_div hk ?_
    rcases hx1 with ⟨rfl, _⟩ | ⟨rfl, h5⟩
    · have := Rat.mul_le_mul_of_nonneg_right hle hW
      grind
    · have a1 := Rat.mul_le_mul_of_nonneg_right (show x1 ≤ F2 from hle) (Rat.le_of_lt hk)
      have a2 := Rat.mul_le_mul_of_nonneg_right g3 hm
      rw [hks] at a1
      grind
  | false =>
    have hk : (0 : Rat) < ((whole w lot + weight w s.mv : Nat) : Rat) := natR_pos (by have := whole_pos hw.ok lot; omega)
    simp only [Bool.false_eq_true, if_false]
    refine div_le_div hk ?_
    have a1 := Rat.mul_le_mul_of_nonneg_right hle hW
    have a2 := Rat.mul_le_mul_of_nonneg_right k1 hm
    grind
/-! ### what is found is as good as any way -/
section
variable {α : Type}
theorem look_map_put (k j : List Str) (a : α) : ∀ ps : List (List Str × α), (ps.lookup k).isSome → (ps.map fun p => if p.1 = k then (p.1, a) else p).lookup j = if j = k then some a else ps.lookup j
  | [], h => by cases h
  | (i, v) :: ps, h => by
    rw [List.map_cons, List.lookup_cons]
    rw [List.lookup_cons] at h
    by_cases e : i = k
    · subst e
      simp only [if_true, List.lookup_cons]
      by_cases e2 : j = i
      · subst e2; simp
      · rw [beq_eq_false_iff_ne.mpr e2, if_neg e2]
        dsimp only
        by_cases hs : (ps.lookup i).isSome
        · rw [look_map_put i j a ps hs, if_neg e2]
        · have : (ps.map fun p => if p.1 = i then (p.1, a) else p) = ps := by
            have hn : ps.lookup i = none := by
              cases e : ps.lookup i with
              | none => rfl
              | some v => rw [e] at hs; exact absurd rfl hs
            have hni := look_none.mp hn
            refine (List.map_congr_left fun p hp => ?_).trans (List.map_id ps)
            rw [if_neg fun z => hni (List.mem_map.mpr ⟨p, hp, z⟩)]
            rfl
          rw [this]
    · have e' : ¬ k = i := fun z => e z.symm
      rw [beq_eq_false_iff_ne.mpr e'] at h
      rw [if_neg e]
      dsimp only at h ⊢
      rw [List.lookup_cons]
      by_cases e2 : j = i
      · subst e2
        rw [if_neg e]
        simp
      · rw [beq_eq_false_iff_ne.mpr e2]
        exact look_map_put k j a ps h
theorem look_put (ps : List (List Str × α)) (k j : List Str) (a : α) : (putL ps k a).lookup j = if j = k then some a else ps.lookup j := by
  unfold putL
  split
  · rename_i h
    exact look_map_put k j a ps h
  · rename_i h
    rw [List.lookup_append, List.lookup_cons]
    by_cases e : j = k
    · subst e
      have hn : ps.lookup j = none := by
        cases e : ps.lookup j with
        | none => rfl
        | some v => rw [e] at h; exact absurd rfl h
      rw [hn]
      simp
    · rw [if_neg e, beq_eq_false_iff_ne.mpr e]
      simp
variable {gap : α → Rat}
/-- a lot is there, with a gap no more than one -/
def Has (gap : α → Rat) (ps : List (List Str × α)) (k : List Str) (f : Rat) : Prop := ∃ a, ps.lookup k = some a ∧ gap a ≤ f
theorem Has.step {ps : List (List Str × α)} {k j : List Str} {f : Rat} {a : α} (h : Has gap ps k f) : Has gap (stepE gap ps j a) k f := by
  obtain ⟨b, e, hb⟩ := h
  unfold stepE
  split
  · rename_i hn
    refine ⟨b, ?_, hb⟩
    rw [look_put, if_neg (fun z => by rw [z, hn] at e; cases e), e]
  · rename_i c hc
    split
    · rename_i hlt
      by_cases z : k = j
      · subst z
        rw [e] at hc; cases hc
        exact ⟨a, by rw [look_put, if_pos rfl], by grind⟩
      · exact ⟨b, by rw [look_put, if_neg z, e], hb⟩
    · exact ⟨b, e, hb⟩
variable {w : W} {mk : α → Stp → Rat → α}
end
/-- entries that are fine -/
def EE (w : W) (p : List Str × Rat) : Prop := ∃ t, EOk w t p.1 p.2
theorem EE.ok {w : W} {p : List Str × Rat} (hw : Made w) (h : EE w p) : LotOk w p.1 ∧ 0 ≤ id p.2 := by
  obtain ⟨t, h⟩ := h
  exact ⟨h.lot.ok hw.ok, h.q0⟩
theorem runP_app {w : W} : ∀ (a b : List Stp) (lot : List Str) (F : Rat), runP w lot F (a ++ b) = (runP w lot F a).bind fun p => runP w p.1 p.2 b
  | [], b, lot, F => rfl
  | s :: a, b, lot, F => by
    show (match bestF w lot F s with
      | none => none
      | some q => runP w (lotF lot s) q (a ++ b)) = (match bestF w lot F s with
      | none => none
      | some q => runP w (lotF lot s) q a).bind _
    cases bestF w lot F s with
    | none => rfl
    | some q => exact runP_app a b _ _
end OA
namespace OA
open PySem PySem.Spec PyProof.Rows L2
local macro_rules | `(tactic| subst_eqs) => `(tactic| first | refine wf_r0 (by simp only [List.map_cons, List.map_nil, List.length_cons, List.length_nil, List.replicate, List.cons_append, List.nil_append, Nat.reduceAdd, Nat.reduceSub]; rfl) ?_ | refine wf_r (by simp only [List.map_cons, List.map_nil, List.length_cons, List.length_nil, List.replicate, List.cons_append, List.nil_append, Nat.reduceAdd, Nat.reduceSub]; rfl) ?_)
local macro_rules | `(tactic| clean_wf) => `(tactic| try dsimp only [List.set_cons_zero, List.set_cons_succ])
local macro_rules | `(tactic| array_mem_dec) => `(tactic| first | with_reducible assumption | with_reducible exact st_zero | with_reducible exact st_one | with_reducible exact stp_zero | with_reducible exact stp_one | with_reducible exact fr_top | with_reducible exact fr_bot | with_reducible exact fAdd_int | with_reducible exact fSub_int | with_reducible exact fLt_int | with_reducible exact fGt_int | with_reducible exact fLe_int | with_reducible exact fGe_int | with_reducible exact fEq_int | with_reducible exact is_off _ | with_reducible exact is_on _ | with_reducible exact w_zero _ _ | with_reducible exact w_one _ _ | with_reducible exact w_two _ _ | with_reducible exact names_items _ | with_reducible exact rowsD_items _ | with_reducible exact fEq_fr | with_reducible exact fNe_fr | exact rfl)
local macro_rules | `(tactic| array_get_dec) => `(tactic| first | with_reducible apply we_K | ((with_reducible apply we_var); exact rfl) | with_reducible apply we_bin | with_reducible apply we_call | with_reducible apply wl_cons | with_reducible apply wl_nil | with_reducible apply ws_seq | with_reducible apply ws_set | ((with_reducible apply seqK_nx); clean_wf) | with_reducible apply seqK_ret | with_reducible apply ws_ret | with_reducible apply ws_if | with_reducible apply wt_tst | with_reducible apply ws_nil | with_reducible apply we_tup | with_reducible apply we_app | with_reducible apply we_if | with_reducible apply wt_and | with_reducible apply wt_or | with_reducible apply wt_not | with_reducible apply we_and | with_reducible apply we_or | with_reducible apply we_not | with_reducible apply ws_par | with_reducible apply ws_asg | with_reducible apply ws_expr | with_reducible apply ws_for | with_reducible apply we_lst | with_reducible apply wi_iter | with_reducible apply we_sl | with_reducible apply wo_no | with_reducible apply wo_part | with_reducible apply we_newL0b | with_reducible apply we_newL | with_reducible apply we_isi | with_reducible apply we_chain | ((with_reducible apply wf_of); focus (with_reducible assumption)) | with_reducible refine ⟨_, (by repeat (first | with_reducible exact dats_nil | with_reducible apply dats_cs)), by simp, ?_⟩ | with_reducible refine ⟨_, (by with_reducible assumption), ?_⟩ | with_reducible refine ⟨_, rfl, ?_⟩ | with_reducible refine ⟨_, (by array_mem_dec), ?_⟩ | ((with_reducible apply we_of); focus (with_reducible assumption)))
local macro_rules | `(tactic| sizeOf_list_dec) => `(tactic| repeat' (first | array_get_dec | with_reducible apply conj_T | with_reducible apply conj_F | with_reducible apply conj_T' | with_reducible apply conj_F' | with_reducible apply conj_nT | with_reducible apply conj_nF | with_reducible apply conj_nT' | with_reducible apply conj_nF' | (with_reducible apply conj_tf <;> intro _) | (with_reducible apply conj_ft <;> intro _)))
/-! ### all lots that can be, tables -/
/-! ### dicts of rows of tables -/
end OA
namespace OA
open PySem PySem.Spec PyProof.Rows L2
local macro_rules | `(tactic| subst_eqs) => `(tactic| first | refine wf_r0 (by simp only [List.map_cons, List.map_nil, List.length_cons, List.length_nil, List.replicate, List.cons_append, List.nil_append, Nat.reduceAdd, Nat.reduceSub]; rfl) ?_ | refine wf_r (by simp only [List.map_cons, List.map_nil, List.length_cons, List.length_nil, List.replicate, List.cons_append, List.nil_append, Nat.reduceAdd, Nat.reduceSub]; rfl) ?_)
local macro_rules | `(tactic| clean_wf) => `(tactic| try dsimp only [List.set_cons_zero, List.set_cons_succ])
local macro_rules | `(tactic| array_mem_dec) => `(tactic| first | with_reducible assumption | with_reducible exact st_zero | with_reducible exact st_one | with_reducible exact stp_zero | with_reducible exact stp_one | with_reducible exact fr_top | with_reducible exact fr_bot | with_reducible exact fAdd_int | with_reducible exact fSub_int | with_reducible exact fLt_int | with_reducible exact fGt_int | with_reducible exact fLe_int | with_reducible exact fGe_int | with_reducible exact fEq_int | with_reducible exact is_off _ | with_reducible exact is_on _ | with_reducible exact w_zero _ _ | with_reducible exact w_one _ _ | with_reducible exact w_two _ _ | with_reducible exact names_items _ | with_reducible exact rowsD_items _ | with_reducible exact fEq_fr | with_reducible exact fNe_fr | exact rfl)
local macro_rules | `(tactic| array_get_dec) => `(tactic| first | with_reducible apply we_K | ((with_reducible apply we_var); exact rfl) | with_reducible apply we_bin | with_reducible apply we_call | with_reducible apply wl_cons | with_reducible apply wl_nil | with_reducible apply ws_seq | with_reducible apply ws_set | ((with_reducible apply seqK_nx); clean_wf) | with_reducible apply seqK_ret | with_reducible apply ws_ret | with_reducible apply ws_if | with_reducible apply wt_tst | with_reducible apply ws_nil | with_reducible apply we_tup | with_reducible apply we_app | with_reducible apply we_if | with_reducible apply wt_and | with_reducible apply wt_or | with_reducible apply wt_not | with_reducible apply we_and | with_reducible apply we_or | with_reducible apply we_not | with_reducible apply ws_par | with_reducible apply ws_asg | with_reducible apply ws_expr | with_reducible apply ws_for | with_reducible apply we_lst | with_reducible apply wi_iter | with_reducible apply we_sl | with_reducible apply wo_no | with_reducible apply wo_part | with_reducible apply we_newL0b | with_reducible apply we_newL | with_reducible apply we_isi | with_reducible apply we_chain | ((with_reducible apply wf_of); focus (with_reducible assumption)) | with_reducible refine ⟨_, (by repeat (first | with_reducible exact dats_nil | with_reducible apply dats_cs)), by simp, ?_⟩ | with_reducible refine ⟨_, (by with_reducible assumption), ?_⟩ | with_reducible refine ⟨_, rfl, ?_⟩ | with_reducible refine ⟨_, (by array_mem_dec), ?_⟩ | ((with_reducible apply we_of); focus (with_reducible assumption)))
local macro_rules | `(tactic| sizeOf_list_dec) => `(tactic| repeat' (first | array_get_dec | with_reducible apply conj_T | with_reducible apply conj_F | with_reducible apply conj_T' | with_reducible apply conj_F' | with_reducible apply conj_nT | with_reducible apply conj_nF | with_reducible apply conj_nT' | with_reducible apply conj_nF' | (with_reducible apply conj_tf <;> intro _) | (with_reducible apply conj_ft <;> intro _)))
/-! ### drawn ways -/
theorem sp_can_stepG (S : Ss) {w : W} {g : Rat} {rs : Rows} (hw : Made w) (hg : B 1000 g) (hr : ROk w 300 rs) (hF : B 1700 (front w g rs)) :
    f_can_step [.d (eW w), .d (eSt g rs)] S = some (.c S.length, S ++ [.lst ((canS w (rnames rs) (front w g rs)).map eStp)]) := by
  have e1 := sp_aboard_of S g rs
  have e2 := sp_front_of S hw.ok (hg.mono (by decide)) hr (by decide) (by decide)
  have e3 := sp_all_steps S hw
  refine run_new (en := [some (.d (eW w)), some (.d (eSt g rs)), some (.d (names (rnames rs))), some (.d (fr (front w g rs))), none]) ?_
  simp only [List.map_cons, List.map_nil, List.length_cons, List.length_nil, List.replicate, List.cons_append, List.nil_append, Nat.reduceAdd, Nat.reduceSub]
  refine ws_eq ?_
  unfold c_can_step
  sizeOf_list_dec
  clean_wf
  sizeOf_list_dec
  refine we_compCF eStp eStp (fun s => (bestG w (rnames rs) (front w g rs) s).isSome) (stepsL w) ?_
  sizeOf_list_dec
  refine ⟨rfl, fun s hs => ⟨_, rfl, ?_, fun _ => ?_⟩, ?_⟩
  · have hT := stepsL_ok hs
    have e4 := sp_best_gap S hw hT hr.lot (hF.mono (m := 3700) (by decide))
    have e5 := notN_oF (S := S) (bestG w (rnames rs) (front w g rs) s)
    sizeOf_list_dec
    exact ⟨rfl, rfl⟩
  · sizeOf_list_dec
    exact ⟨rfl, rfl⟩
  · sizeOf_list_dec
    exact ⟨rfl, rfl, rfl⟩
theorem sp_rows_forG (S : Ss) {w : W} {s : Stp} {g g' : Rat} {rs : Rows} (hw : Made w) (h : TOk w s) (hg : B 1000 g) (hr : ROk w 300 rs) (hF : B 1700 (front w g rs)) (hb : bestG w (rnames rs) (front w g rs) s = some g') :
    f_rows_for [.d (eW w), .d (eSt g rs), .d (eStp s)] S = some (.d (rowsD (rowsB w (rnames rs) (front w g rs) s g')), S) := by
  have e1 := sp_aboard_of S g rs
  have e2 := sp_front_of S hw.ok (hg.mono (by decide)) hr (by decide) (by decide)
  have e3 := sp_best_gap S hw h hr.lot (hF.mono (m := 3700) (by decide))
  rw [hb] at e3
  have e4 := isN_oF (S := S) (some g')
  simp only [Option.isNone_some, oF] at e3 e4
  have e5 := sp_rows_by S hw h hr.lot (hF.mono (m := 1900) (by decide)) ((bestG_B hw.ok hr.lot hF hb).mono (m := 1990) (by decide))
  subst_eqs
  unfold c_rows_for
  sizeOf_list_dec
  exact ⟨rfl, rfl⟩
theorem EOk.mono {w : W} {t u : Nat} {lot : List Str} {q : Rat} (h : EOk w t lot q) (htu : t ≤ u) : EOk w u lot q := by
  obtain ⟨D, h0, h1, h2⟩ := h.D
  refine ⟨h.lot, h.q0, Rat.le_trans h.qm (natR_le (Nat.mul_le_mul_left _ (Nat.pow_le_pow_right (by decide) (by omega)))), D, h0, Nat.lt_of_lt_of_le h1 (Nat.pow_le_pow_right (by decide) (by omega)), h2⟩
end OA
namespace OA
open PySem PySem.Spec PyProof.Rows L2
local macro_rules | `(tactic| subst_eqs) => `(tactic| first | refine wf_r0 (by simp only [List.map_cons, List.map_nil, List.length_cons, List.length_nil, List.replicate, List.cons_append, List.nil_append, Nat.reduceAdd, Nat.reduceSub]; rfl) ?_ | refine wf_r (by simp only [List.map_cons, List.map_nil, List.length_cons, List.length_nil, List.replicate, List.cons_append, List.nil_append, Nat.reduceAdd, Nat.reduceSub]; rfl) ?_)
local macro_rules | `(tactic| clean_wf) => `(tactic| try dsimp only [List.set_cons_zero, List.set_cons_succ])
local macro_rules | `(tactic| array_mem_dec) => `(tactic| first | with_reducible assumption | with_reducible exact st_zero | with_reducible exact st_one | with_reducible exact stp_zero | with_reducible exact stp_one | with_reducible exact fr_top | with_reducible exact fr_bot | with_reducible exact fAdd_int | with_reducible exact fSub_int | with_reducible exact fLt_int | with_reducible exact fGt_int | with_reducible exact fLe_int | with_reducible exact fGe_int | with_reducible exact fEq_int | with_reducible exact is_off _ | with_reducible exact is_on _ | with_reducible exact w_zero _ _ | with_reducible exact w_one _ _ | with_reducible exact w_two _ _ | with_reducible exact names_items _ | with_reducible exact rowsD_items _ | with_reducible exact fEq_fr | with_reducible exact fNe_fr | exact rfl)
local macro_rules | `(tactic| array_get_dec) => `(tactic| first | with_reducible apply we_K | ((with_reducible apply we_var); exact rfl) | with_reducible apply we_bin | with_reducible apply we_call | with_reducible apply wl_cons | with_reducible apply wl_nil | with_reducible apply ws_seq | with_reducible apply ws_set | ((with_reducible apply seqK_nx); clean_wf) | with_reducible apply seqK_ret | with_reducible apply ws_ret | with_reducible apply ws_if | with_reducible apply wt_tst | with_reducible apply ws_nil | with_reducible apply we_tup | with_reducible apply we_app | with_reducible apply we_if | with_reducible apply wt_and | with_reducible apply wt_or | with_reducible apply wt_not | with_reducible apply we_and | with_reducible apply we_or | with_reducible apply we_not | with_reducible apply ws_par | with_reducible apply ws_asg | with_reducible apply ws_expr | with_reducible apply ws_for | with_reducible apply we_lst | with_reducible apply wi_iter | with_reducible apply we_sl | with_reducible apply wo_no | with_reducible apply wo_part | with_reducible apply we_newL0b | with_reducible apply we_newL | with_reducible apply we_isi | with_reducible apply we_chain | ((with_reducible apply wf_of); focus (with_reducible assumption)) | with_reducible refine ⟨_, (by repeat (first | with_reducible exact dats_nil | with_reducible apply dats_cs)), by simp, ?_⟩ | with_reducible refine ⟨_, (by with_reducible assumption), ?_⟩ | with_reducible refine ⟨_, rfl, ?_⟩ | with_reducible refine ⟨_, (by array_mem_dec), ?_⟩ | ((with_reducible apply we_of); focus (with_reducible assumption)))
local macro_rules | `(tactic| sizeOf_list_dec) => `(tactic| repeat' (first | array_get_dec | with_reducible apply conj_T | with_reducible apply conj_F | with_reducible apply conj_T' | with_reducible apply conj_F' | with_reducible apply conj_nT | with_reducible apply conj_nF | with_reducible apply conj_nT' | with_reducible apply conj_nF' | (with_reducible apply conj_tf <;> intro _) | (with_reducible apply conj_ft <;> intro _)))
/-! ### closing: what the fronts can be -/
def othersL (lot : List Str) (s : Stp) : List Str := lot.filter fun n => !decide (n ∈ s.mv)
def folkIn (w : W) (l : List Str) : Bool := l.any fun n => decide (n ∈ folk w)
/-- a step that pulls the raft in -/
def slackB (w : W) (lot : List Str) (F : Rat) (s : Stp) : Bool := folkIn w (othersL lot s) && decide (nearP w lot F s < minR (rcOf w s.n : Rat) F)
theorem canLie_folk {w : W} {l : List Str} (h : canLie w l = true) (hf : folkIn w l = false) : l = [] := by
  unfold canLie at h
  unfold folkIn at hf
  have h1 : l.filter (fun n => decide (n ∈ folk w)) = [] := by
    rw [List.filter_eq_nil_iff]
    intro n hn
    have := List.any_eq_false.mp hf n hn
    exact this
  rw [h1] at h
  simpa using h
theorem behG_zero {w : W} {lot : List Str} {s : Stp} : behG w lot 0 s 0 = 0 := by
  unfold behG
  split <;> simp [Rat.div_def] <;> grind
/-- from a front of nought -/
theorem close_zero {w : W} {lot : List Str} {s : Stp} {x : Rat} (hw : Made w) (h : TOk w s) (hl : LotOk w lot) (hx : bestG w lot 0 s = some x) : behG w lot 0 s x = 0 := by
  obtain ⟨_, hg⟩ := bestG_ok hw h hl Rat.le_refl hx
  have h1 := hg.le
  have h2 := hg.g0
  have : x = 0 := Rat.le_antisymm h1 h2
  rw [this]
  exact behG_zero
theorem still_others {lot : List Str} {s : Stp} : stillP lot s = if s.off then othersL lot s else lot := by
  unfold stillP othersL
  cases s.off with
  | true => simp
  | false => simp
theorem others_on {w : W} {lot : List Str} {s : Stp} (hb : (lotB w lot s).isNone = false) (ho : s.off = false) : othersL lot s = lot := by
  unfold othersL
  rw [List.filter_eq_self]
  intro x hx
  have := lotB_on hb ho x
  simp
  exact fun hm => this hm hx
theorem lotF_off {lot : List Str} {s : Stp} (ho : s.off = true) : lotF lot s = othersL lot s := by
  unfold lotF othersL
  rw [ho]; rfl
theorem close_raw {w : W} {lot : List Str} {s : Stp} {F x : Rat} (hw : Made w) (h : TOk w s) (hl : LotOk w lot) (hF : 0 ≤ F) (hx : bestG w lot F s = some x) (hraw : raw w lot F s = F) : behG w lot F s x = F := by
  obtain ⟨hb, hg⟩ := bestG_ok hw h hl hF hx
  have h1 := hg.raw
  have h2 := hg.le
  have hxF : x = F := Rat.le_antisymm h2 (by rw [← hraw]; exact h1)
  rw [hxF]
  unfold behG
  cases ho : s.off with
  | true =>
    have hlew := off_whole hw h hb ho
    have hrh := hw.ok.rh0
    have hk : (0 : Rat) < ((whole w lot - weight w s.mv : Nat) : Rat) := natR_pos (by omega)
    have hks : ((whole w lot - weight w s.mv : Nat) : Rat) = (whole w lot : Nat) - (weight w s.mv : Nat) := by
      have : (whole w lot : Nat) = (whole w lot - weight w s.mv) + weight w s.mv := by omega
      have h3 : ((whole w lot : Nat) : Rat) = (((whole w lot - weight w s.mv) + weight w s.mv : Nat) : Rat) := congrArg _ this
      rw [Rat.natCast_add] at h3
      grind
    simp only [if_true]
    refine ((eq_div hk).mpr ?_).symm
    rw [hks]
    grind
  | false =>
    have hk : (0 : Rat) < ((whole w lot + weight w s.mv : Nat) : Rat) := natR_pos (by have := whole_pos hw.ok lot; omega)
    simp only [Bool.false_eq_true, if_false]
    refine ((eq_div hk).mpr ?_).symm
    rw [Rat.natCast_add]
    grind
/-- the gap of a best step where the others have nobody of the folk -/
theorem close_lone {w : W} {lot : List Str} {s : Stp} {F x : Rat} (hw : Made w) (h : TOk w s) (hlk : LOk w lot) (hF : 0 ≤ F) (hx : bestG w lot F s = some x) (hf : folkIn w (othersL lot s) = false) : behG w lot F s x = F := by
  have hl := hlk.ok hw.ok
  obtain ⟨hb, hg⟩ := bestG_ok hw h hl hF hx
  have hst : stillP lot s = [] := by
    rw [still_others]
    cases ho : s.off with
    | true =>
      simp only [if_true]
      refine canLie_folk ?_ hf
      rw [← lotF_off ho]
      have := lotB_some hb
      unfold lotB at this
      split at this
      · split at this
        · assumption
        · cases this
      · cases this
    | false =>
      simp only [Bool.false_eq_true, if_false]
      rw [others_on hb ho] at hf
      exact canLie_folk hlk.can hf
  have hraw : raw w lot F s = F := by
    unfold raw
    rw [hst]
    have : weight w ([] : List Str) = 0 := rfl
    rw [this, show ((0 : Nat) : Rat) = 0 from rfl, Rat.mul_zero, Rat.div_def, Rat.zero_mul]
    grind
  exact close_raw hw h hl hF hx hraw
theorem folk_weight {w : W} (hw : Made w) {l : List Str} (hm : ∀ n ∈ l, n ∈ w.names) (hf : folkIn w l = true) : 0 < weight w l := by
  unfold folkIn at hf
  obtain ⟨n, hn, _⟩ := List.any_eq_true.mp hf
  have h1 := wt_pos hw.ok (hm n hn)
  have h2 := weight_le_of w [n] l (by simp) (fun x hx => by rw [List.mem_singleton.mp hx]; exact hn)
  have h3 : weight w [n] = wt w n := by unfold weight; simp
  omega
/-- behind a tight step -/
def tightV (w : W) (lot : List Str) (s : Stp) : Rat := (rcOf w s.n : Rat) + (w.lg : Rat) * (weight w (stillP lot s) : Nat) / (whole w (lotF lot s) : Nat)
theorem whole_behind {w : W} {lot : List Str} {s : Stp} (hw : Made w) (h : TOk w s) (hl : LotOk w lot) (hb : (lotB w lot s).isNone = false) : whole w (lotF lot s) = if s.off then whole w lot - weight w s.mv else whole w lot + weight w s.mv := by
  cases ho : s.off with
  | true =>
    rw [lotF_off ho]
    simp only [if_true]
    exact whole_filter hw h hl hb ho
  | false =>
    have : lotF lot s = isortS (lot ++ s.mv) := by unfold lotF; rw [ho]; rfl
    rw [this]
    simp only [Bool.false_eq_true, if_false]
    unfold whole
    rw [weight_perm w (isortS_perm _)]
    unfold weight
    rw [List.map_append, List.sum_append]
    omega
theorem rcOf_pos {w : W} (hw : Made w) {s : Stp} (h : TOk w s) : 0 < rcOf w s.n := by
  obtain ⟨o, r, ho, _, e, _⟩ := find_one h.n
  rw [e]
  exact (hw.ok.rc o ho).1
theorem close_tight {w : W} {lot : List Str} {s : Stp} {F x : Rat} (hw : Made w) (h : TOk w s) (hlk : LOk w lot) (hF : 0 < F) (hx : bestG w lot F s = some x) (hf : folkIn w (othersL lot s) = true) (hs : slackB w lot F s = false) (hlg : 0 < w.lg) : behG w lot F s x = tightV w lot s := by
  have hl := hlk.ok hw.ok
  obtain ⟨hb, hg⟩ := bestG_ok hw h hl (Rat.le_of_lt hF) hx
  obtain ⟨_, hn, hxe⟩ := bestG_some hx
  have hn' := Rat.not_lt.mp hn
  have hns : ¬ nearP w lot F s < minR (rcOf w s.n : Rat) F := by
    unfold slackB at hs
    rw [hf, Bool.true_and] at hs
    exact of_decide_eq_false hs
  have hns' := Rat.not_lt.mp hns
  have hsf : folkIn w (stillP lot s) = true := by
    rw [still_others]
    cases ho : s.off with
    | true => simpa using hf
    | false =>
      rw [others_on hb ho] at hf
      simpa using hf
  have hwp := folk_weight hw (still_mem hl s) hsf
  have hW := wholeR_pos hw.ok lot
  have hlg0 : (0 : Rat) < (w.lg : Rat) := natR_pos hlg
  have hdrop : 0 < (w.lg : Rat) * (weight w (stillP lot s) : Nat) / (whole w lot : Nat) := by
    rw [Rat.div_def]
    exact Rat.mul_pos (Rat.mul_pos hlg0 (natR_pos hwp)) (Rat.inv_pos.mpr hW)
  have hraw : raw w lot F s < F := by unfold raw; grind
  have hrc : (0 : Rat) < (rcOf w s.n : Rat) := natR_pos (rcOf_pos hw h)
  have key : raw w lot F s = (rcOf w s.n : Rat) := by
    rw [raw_eq hw h hl hb] at hn' hns'
    unfold minR at hns'
    cases ho : s.off with
    | true =>
      rw [ho] at hn' hns'
      simp only [if_true] at hn' hns'
      split at hns' <;> grind
    | false =>
      rw [ho] at hn' hns'
      simp only [Bool.false_eq_true, if_false] at hn' hns'
      unfold atl at hn' hns'
      split at hns' <;> split at hn' <;> grind
  have hxr : x = (rcOf w s.n : Rat) := Rat.le_antisymm hg.rc (by rw [← key]; exact hg.raw)
  have hFe : F * (whole w lot : Nat) = (rcOf w s.n : Rat) * (whole w lot : Nat) + (w.lg : Rat) * (weight w (stillP lot s) : Nat) := by
    have e1 : F = (rcOf w s.n : Rat) + (w.lg : Rat) * (weight w (stillP lot s) : Nat) / (whole w lot : Nat) := by unfold raw at key; grind
    have e2 : (w.lg : Rat) * (weight w (stillP lot s) : Nat) / (whole w lot : Nat) * (whole w lot : Nat) = (w.lg : Rat) * (weight w (stillP lot s) : Nat) := Rat.div_mul_cancel (by grind)
    have e3 : F * (whole w lot : Nat) = ((rcOf w s.n : Rat) + (w.lg : Rat) * (weight w (stillP lot s) : Nat) / (whole w lot : Nat)) * (whole w lot : Nat) := by rw [← e1]
    rw [e3, Rat.add_mul, e2]
  unfold tightV
  rw [whole_behind hw h hl hb, hxr]
  unfold behG
  cases ho : s.off with
  | true =>
    have hlew := off_whole hw h hb ho
    have hrh := hw.ok.rh0
    have hk : (0 : Rat) < ((whole w lot - weight w s.mv : Nat) : Rat) := natR_pos (by omega)
    have hks : ((whole w lot - weight w s.mv : Nat) : Rat) = (whole w lot : Nat) - (weight w s.mv : Nat) := by
      have : (whole w lot : Nat) = (whole w lot - weight w s.mv) + weight w s.mv := by omega
      have h3 : ((whole w lot : Nat) : Rat) = (((whole w lot - weight w s.mv) + weight w s.mv : Nat) : Rat) := congrArg _ this
      rw [Rat.natCast_add] at h3
      grind
    simp only [if_true]
    have e2 : (w.lg : Rat) * (weight w (stillP lot s) : Nat) / ((whole w lot - weight w s.mv : Nat) : Rat) * ((whole w lot - weight w s.mv : Nat) : Rat) = (w.lg : Rat) * (weight w (stillP lot s) : Nat) := Rat.div_mul_cancel (by grind)
    refine ((eq_div hk).mpr ?_).symm
    rw [Rat.add_mul, e2, hks, hFe]
    grind
  | false =>
    have hk : (0 : Rat) < ((whole w lot + weight w s.mv : Nat) : Rat) := natR_pos (by have := whole_pos hw.ok lot; omega)
    simp only [Bool.false_eq_true, if_false]
    have e2 : (w.lg : Rat) * (weight w (stillP lot s) : Nat) / ((whole w lot + weight w s.mv : Nat) : Rat) * ((whole w lot + weight w s.mv : Nat) : Rat) = (w.lg : Rat) * (weight w (stillP lot s) : Nat) := Rat.div_mul_cancel (by grind)
    refine ((eq_div hk).mpr ?_).symm
    rw [Rat.add_mul, e2, Rat.natCast_add, hFe]
    grind
def valsL (w : W) (F0 : Rat) : List Rat := F0 :: 0 :: w.folk.flatMap fun o => (lotsW w).flatMap fun a => (lotsW w).map fun b => (o.rc : Rat) + (w.lg : Rat) * (weight w a : Nat) / (whole w b : Nat)
theorem flat_len {α β : Type} {n : Nat} (f : α → List β) (h : ∀ a, (f a).length ≤ n) : ∀ l : List α, (l.flatMap f).length ≤ l.length * n
  | [] => by simp
  | a :: l => by
    have := flat_len f h l
    have := h a
    rw [List.flatMap_cons, List.length_append, List.length_cons, Nat.succ_mul]
    omega
theorem valsL_len {w : W} (hw : w.Ok) (F0 : Rat) : (valsL w F0).length ≤ 16386 := by
  have hl := lotsW_len hw
  have hf := hw.nf
  have h1 : ∀ o : One, ((lotsW w).flatMap fun a => (lotsW w).map fun b => (o.rc : Rat) + (w.lg : Rat) * (weight w a : Nat) / (whole w b : Nat)).length ≤ 64 * 64 := fun o => by
    refine Nat.le_trans (flat_len (n := 64) _ (fun a => by rw [List.length_map]; exact hl) _) (Nat.mul_le_mul_right _ hl)
  have h2 := flat_len (n := 64 * 64) _ h1 w.folk
  have h3 : w.folk.length * (64 * 64) ≤ 4 * (64 * 64) := Nat.mul_le_mul_right _ hf
  unfold valsL
  rw [List.length_cons, List.length_cons]
  omega
theorem still_sub {w : W} {lot : List Str} {s : Stp} (h : LOk w lot) : stillP lot s ∈ lotsW w := lotsW_mem.mpr (List.Sublist.trans List.filter_sublist h.sub)
/-- a step that does not pull: its front is one of the values, and fine -/
theorem close_step {w : W} {lot : List Str} {s : Stp} {F F0 x : Rat} (hw : Made w) (h : TOk w s) (hE : EOk w 0 lot F) (hV : F ∈ valsL w F0) (hx : bestG w lot F s = some x) (hs : slackB w lot F s = false) : behG w lot F s x ∈ valsL w F0 ∧ EOk w 0 (lotF lot s) (behG w lot F s x) := by
  have hl := hE.lot.ok hw.ok
  have hbF : bestF w lot F s = some (behG w lot F s x) := by rw [bestF_eq, hx]; rfl
  have hE1 := bestF_ok hw h hE hbF
  obtain ⟨hb, hg⟩ := bestG_ok hw h hl hE.q0 hx
  have same : behG w lot F s x = F → behG w lot F s x ∈ valsL w F0 ∧ EOk w 0 (lotF lot s) (behG w lot F s x) := fun e => by
    rw [e]
    exact ⟨hV, hE1.lot, hE.q0, hE.qm, hE.D⟩
  by_cases h0 : F = 0
  · subst h0
    exact same (close_zero hw h hl hx)
  · have hF : 0 < F := by
      have := hE.q0
      have := Rat.lt_of_le_of_ne this (Ne.symm h0)
      exact this
    cases hf : folkIn w (othersL lot s) with
    | false => exact same (close_lone hw h hE.lot hE.q0 hx hf)
    | true =>
      by_cases hlg : 0 < w.lg
      · have e := close_tight hw h hE.lot hF hx hf hs hlg
        rw [e]
        obtain ⟨o, r, ho, _, er, _⟩ := find_one h.n
        have hWb := whole_pos hw.ok (lotF lot s)
        have hWl := whole_le hw.ok (hE1.lot.ok hw.ok).len
        have hle : weight w (stillP lot s) ≤ whole w (lotF lot s) := by
          have h1 := still_eq hw h hl hb
          rw [whole_behind hw h hl hb]
          unfold whole
          cases ho' : s.off with
          | true =>
            rw [ho'] at h1
            simp only [if_true] at h1 ⊢
            omega
          | false =>
            rw [ho'] at h1
            simp only [Bool.false_eq_true, if_false] at h1 ⊢
            omega
        refine ⟨?_, hE1.lot, ?_, ?_, whole w (lotF lot s), hWb, ?_, ?_⟩
        · unfold valsL tightV
          refine List.mem_cons_of_mem _ (List.mem_cons_of_mem _ (List.mem_flatMap.mpr ⟨o, ho, List.mem_flatMap.mpr ⟨stillP lot s, still_sub hE.lot, List.mem_map.mpr ⟨lotF lot s, lotsW_mem.mpr hE1.lot.sub, ?_⟩⟩⟩))
          rw [er]
        · unfold tightV
          refine Rat.add_nonneg (natR_nonneg _) ?_
          rw [le_div (wholeR_pos hw.ok _), Rat.zero_mul]
          exact Rat.mul_nonneg (natR_nonneg _) (natR_nonneg _)
        · unfold tightV
          have a1 : (w.lg : Rat) * (weight w (stillP lot s) : Nat) / (whole w (lotF lot s) : Nat) ≤ (w.lg : Rat) := by
            rw [div_le (wholeR_pos hw.ok _)]
            exact Rat.mul_le_mul_of_nonneg_left (natR_le hle) (natR_nonneg _)
          have a2 := lgR hw.ok
          have a3 : ((rcOf w s.n : Nat) : Rat) ≤ ((30 : Nat) : Rat) := natR_le (rcOf_le hw.ok s.n)
          have a4 : ((30 : Nat) : Rat) = 30 := rfl
          have a5 : ((1031 * 2 ^ (9 * 0) : Nat) : Rat) = 1031 := rfl
          rw [a5]
          rw [a4] at a3
          grind
        · exact Nat.lt_of_lt_of_le hWl (by decide)
        · unfold tightV
          refine (IntD.nat _).add ?_
          have := (IntD.nat (D := 1) (w.lg * weight w (stillP lot s))).over hWb
          rw [Nat.one_mul, Rat.natCast_mul] at this
          exact this
      · have hlg0 : w.lg = 0 := by omega
        refine same (close_raw hw h hl hE.q0 hx ?_)
        unfold raw
        rw [hlg0, show ((0 : Nat) : Rat) = 0 from rfl, Rat.zero_mul, Rat.div_def, Rat.zero_mul]
        grind
end OA
namespace OA
open PySem PySem.Spec PyProof.Rows L2
local macro_rules | `(tactic| subst_eqs) => `(tactic| first | refine wf_r0 (by simp only [List.map_cons, List.map_nil, List.length_cons, List.length_nil, List.replicate, List.cons_append, List.nil_append, Nat.reduceAdd, Nat.reduceSub]; rfl) ?_ | refine wf_r (by simp only [List.map_cons, List.map_nil, List.length_cons, List.length_nil, List.replicate, List.cons_append, List.nil_append, Nat.reduceAdd, Nat.reduceSub]; rfl) ?_)
local macro_rules | `(tactic| clean_wf) => `(tactic| try dsimp only [List.set_cons_zero, List.set_cons_succ])
local macro_rules | `(tactic| array_mem_dec) => `(tactic| first | with_reducible assumption | with_reducible exact st_zero | with_reducible exact st_one | with_reducible exact stp_zero | with_reducible exact stp_one | with_reducible exact fr_top | with_reducible exact fr_bot | with_reducible exact fAdd_int | with_reducible exact fSub_int | with_reducible exact fLt_int | with_reducible exact fGt_int | with_reducible exact fLe_int | with_reducible exact fGe_int | with_reducible exact fEq_int | with_reducible exact is_off _ | with_reducible exact is_on _ | with_reducible exact w_zero _ _ | with_reducible exact w_one _ _ | with_reducible exact w_two _ _ | with_reducible exact names_items _ | with_reducible exact rowsD_items _ | with_reducible exact fEq_fr | with_reducible exact fNe_fr | exact rfl)
local macro_rules | `(tactic| array_get_dec) => `(tactic| first | with_reducible apply we_K | ((with_reducible apply we_var); exact rfl) | with_reducible apply we_bin | with_reducible apply we_call | with_reducible apply wl_cons | with_reducible apply wl_nil | with_reducible apply ws_seq | with_reducible apply ws_set | ((with_reducible apply seqK_nx); clean_wf) | with_reducible apply seqK_ret | with_reducible apply ws_ret | with_reducible apply ws_if | with_reducible apply wt_tst | with_reducible apply ws_nil | with_reducible apply we_tup | with_reducible apply we_app | with_reducible apply we_if | with_reducible apply wt_and | with_reducible apply wt_or | with_reducible apply wt_not | with_reducible apply we_and | with_reducible apply we_or | with_reducible apply we_not | with_reducible apply ws_par | with_reducible apply ws_asg | with_reducible apply ws_expr | with_reducible apply ws_for | with_reducible apply we_lst | with_reducible apply wi_iter | with_reducible apply we_sl | with_reducible apply wo_no | with_reducible apply wo_part | with_reducible apply we_newL0b | with_reducible apply we_newL | with_reducible apply we_isi | with_reducible apply we_chain | ((with_reducible apply wf_of); focus (with_reducible assumption)) | with_reducible refine ⟨_, (by repeat (first | with_reducible exact dats_nil | with_reducible apply dats_cs)), by simp, ?_⟩ | with_reducible refine ⟨_, (by with_reducible assumption), ?_⟩ | with_reducible refine ⟨_, rfl, ?_⟩ | with_reducible refine ⟨_, (by array_mem_dec), ?_⟩ | ((with_reducible apply we_of); focus (with_reducible assumption)))
local macro_rules | `(tactic| sizeOf_list_dec) => `(tactic| repeat' (first | array_get_dec | with_reducible apply conj_T | with_reducible apply conj_F | with_reducible apply conj_T' | with_reducible apply conj_F' | with_reducible apply conj_nT | with_reducible apply conj_nF | with_reducible apply conj_nT' | with_reducible apply conj_nF' | (with_reducible apply conj_tf <;> intro _) | (with_reducible apply conj_ft <;> intro _)))
/-! ### closing: what pulls, as the program and the law reckon it -/
theorem folkIn_eq (w : W) (l : List Str) : folkIn w l = !(l.filter fun n => decide (n ∈ folk w)).isEmpty := by
  unfold folkIn
  induction l with
  | nil => rfl
  | cons x l ih =>
    rw [List.any_cons, ih, List.filter_cons]
    split
    · rename_i h; rw [h]; rfl
    · rename_i h; rw [Bool.eq_false_iff.mpr h]; rfl
theorem sp_has_folk (S : Ss) {w : W} (hw : Made w) {l : List Str} (hl : SOk l) : f_has_folk [.d (eW w), .d (names l)] S = some (.d (.bl (folkIn w l)), S) := by
  have e1 := sp_folk_of S w
  rw [folkIn_eq]
  refine wf_eq ?_
  subst_eqs
  unfold c_has_folk
  array_get_dec
  array_get_dec
  array_get_dec
  refine we_compF Dt.str Dt.str (fun n => decide (n ∈ folk w)) l ?_
  sizeOf_list_dec
  refine ⟨rfl, fun n hn => ⟨_, rfl, ?_, fun _ => ?_⟩, ?_⟩
  · have f1 := fIn_lst (S := S) (hl n hn) hw.folk_ok
    sizeOf_list_dec
    exact ⟨rfl, rfl⟩
  · sizeOf_list_dec
    exact ⟨rfl, rfl⟩
  · have f2 := fNe_nil (S := S) (xs := l.filter fun n => decide (n ∈ folk w)) (fun x hx => hl x (List.mem_filter.mp hx).1)
    sizeOf_list_dec
    exact ⟨rfl, by simp⟩
theorem sp_pulls_by (S : Ss) {w : W} {s : Stp} {lot : List Str} {F : Rat} (hw : Made w) (h : TOk w s) (hl : LotOk w lot) (hF : B 1900 F) :
    f_pulls_by [.d (eW w), .d (names lot), .d (fr F), .d (eStp s)] S = some (.d (.bl (slackB w lot F s)), S) := by
  have hlk := hl.sok hw
  have hmk := h.mv_ok hw
  have e1 := sp_movers S hw h
  have e2 := sp_nearest S hw h hl (hF.mono (m := 3700) (by decide))
  have e3 := sp_reach_of S hw h
  have e4 := sp_lesser S ((rc_B hw.ok s.n).mono (m := 4000) (by decide)) (hF.mono (m := 4000) (by decide))
  change f_lesser _ _ = some (R.d (fr (minR (rcOf w s.n : Rat) F)), _) at e4
  have e5 := sp_is_lesser S ((nearP_B hw.ok hl hF s).mono (m := 4000) (by decide)) ((minR_B (k := 1900) (rc_B hw.ok s.n) hF (by decide) (by decide)).mono (m := 4000) (by decide))
  have e6 := sp_has_folk S hw (l := othersL lot s) (fun x hx => hlk x (List.mem_filter.mp hx).1)
  have e7 : fTup false S [.d (.lst ((lot.filter fun n => !decide (n ∈ s.mv)).map .str))] = some (.d (names (othersL lot s))) := rfl
  unfold slackB
  refine wf_eq ?_
  subst_eqs
  unfold c_pulls_by
  repeat' (first | refine we_compF Dt.str Dt.str (fun n => !decide (n ∈ s.mv)) lot ?_ | array_get_dec)
  refine ⟨rfl, fun n hn => ⟨_, rfl, ?_, fun _ => ?_⟩, ?_⟩
  · have f1 := fNotIn_lst (S := S) (hlk n hn) hmk
    sizeOf_list_dec
    exact ⟨rfl, rfl⟩
  · sizeOf_list_dec
    exact ⟨rfl, rfl⟩
  · cases hf : folkIn w (othersL lot s) with
    | false =>
      rw [hf] at e6
      sizeOf_list_dec
      exact ⟨rfl, by simp⟩
    | true =>
      rw [hf] at e6
      sizeOf_list_dec
      exact ⟨rfl, by simp⟩
/-- slack as the law has it: the nearest gap not below nought -/
def slackL (w : W) (lot : List Str) (F : Rat) (s : Stp) : Bool := ((bestF w lot F s).isSome && folkIn w (othersL lot s)) && (decide (nearL w lot F s < (rcOf w s.n : Rat)) && decide (nearL w lot F s < F))
end OA
namespace OA
open PySem PySem.Spec PyProof.Rows L2
local macro_rules | `(tactic| subst_eqs) => `(tactic| first | refine wf_r0 (by simp only [List.map_cons, List.map_nil, List.length_cons, List.length_nil, List.replicate, List.cons_append, List.nil_append, Nat.reduceAdd, Nat.reduceSub]; rfl) ?_ | refine wf_r (by simp only [List.map_cons, List.map_nil, List.length_cons, List.length_nil, List.replicate, List.cons_append, List.nil_append, Nat.reduceAdd, Nat.reduceSub]; rfl) ?_)
local macro_rules | `(tactic| clean_wf) => `(tactic| try dsimp only [List.set_cons_zero, List.set_cons_succ])
local macro_rules | `(tactic| array_mem_dec) => `(tactic| first | with_reducible assumption | with_reducible exact st_zero | with_reducible exact st_one | with_reducible exact stp_zero | with_reducible exact stp_one | with_reducible exact fr_top | with_reducible exact fr_bot | with_reducible exact fAdd_int | with_reducible exact fSub_int | with_reducible exact fLt_int | with_reducible exact fGt_int | with_reducible exact fLe_int | with_reducible exact fGe_int | with_reducible exact fEq_int | with_reducible exact is_off _ | with_reducible exact is_on _ | with_reducible exact w_zero _ _ | with_reducible exact w_one _ _ | with_reducible exact w_two _ _ | with_reducible exact names_items _ | with_reducible exact rowsD_items _ | with_reducible exact fEq_fr | with_reducible exact fNe_fr | exact rfl)
local macro_rules | `(tactic| array_get_dec) => `(tactic| first | with_reducible apply we_K | ((with_reducible apply we_var); exact rfl) | with_reducible apply we_bin | with_reducible apply we_call | with_reducible apply wl_cons | with_reducible apply wl_nil | with_reducible apply ws_seq | with_reducible apply ws_set | ((with_reducible apply seqK_nx); clean_wf) | with_reducible apply seqK_ret | with_reducible apply ws_ret | with_reducible apply ws_if | with_reducible apply wt_tst | with_reducible apply ws_nil | with_reducible apply we_tup | with_reducible apply we_app | with_reducible apply we_if | with_reducible apply wt_and | with_reducible apply wt_or | with_reducible apply wt_not | with_reducible apply we_and | with_reducible apply we_or | with_reducible apply we_not | with_reducible apply ws_par | with_reducible apply ws_asg | with_reducible apply ws_expr | with_reducible apply ws_for | with_reducible apply we_lst | with_reducible apply wi_iter | with_reducible apply we_sl | with_reducible apply wo_no | with_reducible apply wo_part | with_reducible apply we_newL0b | with_reducible apply we_newL | with_reducible apply we_isi | with_reducible apply we_chain | ((with_reducible apply wf_of); focus (with_reducible assumption)) | with_reducible refine ⟨_, (by repeat (first | with_reducible exact dats_nil | with_reducible apply dats_cs)), by simp, ?_⟩ | with_reducible refine ⟨_, (by with_reducible assumption), ?_⟩ | with_reducible refine ⟨_, rfl, ?_⟩ | with_reducible refine ⟨_, (by array_mem_dec), ?_⟩ | ((with_reducible apply we_of); focus (with_reducible assumption)))
local macro_rules | `(tactic| sizeOf_list_dec) => `(tactic| repeat' (first | array_get_dec | with_reducible apply conj_T | with_reducible apply conj_F | with_reducible apply conj_T' | with_reducible apply conj_F' | with_reducible apply conj_nT | with_reducible apply conj_nF | with_reducible apply conj_nT' | with_reducible apply conj_nF' | (with_reducible apply conj_tf <;> intro _) | (with_reducible apply conj_ft <;> intro _)))
/-! ### closing: what is found at last -/
theorem div_pos' {a b : Rat} (hb : 0 < b) (ha : 0 < a) : 0 < a / b := Rat.not_le.mp fun h => by
  rw [div_le hb, Rat.zero_mul] at h
  exact Rat.not_le.mpr ha h
theorem bestF_pos {w : W} {lot : List Str} {s : Stp} {F q : Rat} (hw : Made w) (h : TOk w s) (hl : LotOk w lot) (hF : 0 < F) (hb : bestF w lot F s = some q) : 0 < q := by
  rw [bestF_eq] at hb
  obtain ⟨x, hx, rfl⟩ := Option.map_eq_some_iff.mp hb
  obtain ⟨hbn, hg⟩ := bestG_ok hw h hl (Rat.le_of_lt hF) hx
  have g3 := hg.le
  have g4 := hg.g0
  have hm := natR_nonneg (weight w s.mv)
  unfold behG
  cases ho : s.off with
  | true =>
    have hlew := off_whole hw h hbn ho
    have hrh := hw.ok.rh0
    have hk : (0 : Rat) < ((whole w lot - weight w s.mv : Nat) : Rat) := natR_pos (by omega)
    have hks : ((whole w lot - weight w s.mv : Nat) : Rat) = (whole w lot : Nat) - (weight w s.mv : Nat) := by
      have : (whole w lot : Nat) = (whole w lot - weight w s.mv) + weight w s.mv := by omega
      have h3 : ((whole w lot : Nat) : Rat) = (((whole w lot - weight w s.mv) + weight w s.mv : Nat) : Rat) := congrArg _ this
      rw [Rat.natCast_add] at h3
      grind
    simp only [if_true]
    refine div_pos' hk ?_
    have a1 := Rat.mul_pos hF hk
    rw [hks] at a1
    have a2 := Rat.mul_le_mul_of_nonneg_right g3 hm
    grind
  | false =>
    have hk : (0 : Rat) < ((whole w lot + weight w s.mv : Nat) : Rat) := natR_pos (by have := whole_pos hw.ok lot; omega)
    simp only [Bool.false_eq_true, if_false]
    refine div_pos' hk ?_
    have a1 := Rat.mul_pos hF (natR_pos (whole_pos hw.ok lot))
    have a2 := Rat.mul_nonneg g4 hm
    grind
theorem bestF_zero {w : W} {lot : List Str} {s : Stp} {q : Rat} (hw : Made w) (h : TOk w s) (hl : LotOk w lot) (hb : bestF w lot 0 s = some q) : q = 0 := by
  rw [bestF_eq] at hb
  obtain ⟨x, hx, rfl⟩ := Option.map_eq_some_iff.mp hb
  exact close_zero hw h hl hx
theorem bestF_lotB {w : W} {lot : List Str} {s : Stp} {F q : Rat} (hb : bestF w lot F s = some q) : (lotB w lot s).isNone = false := by
  unfold bestF bestG at hb
  cases h : (lotB w lot s).isNone with
  | false => rfl
  | true => rw [h] at hb; cases hb
theorem lt_minR {x a b : Rat} : x < minR a b ↔ x < a ∧ x < b := by
  unfold minR
  split <;> constructor <;> intro h <;> grind
theorem slack_mono {w : W} {lot : List Str} {s : Stp} {F1 F2 : Rat} (hw : Made w) (h : TOk w s) (hl : LotOk w lot) (h0 : 0 < F1) (hle : F1 ≤ F2) (hbn : (lotB w lot s).isNone = false) (hs : slackB w lot F2 s = true) : slackB w lot F1 s = true := by
  unfold slackB at *
  rw [Bool.and_eq_true, decide_eq_true_eq, lt_minR] at *
  refine ⟨hs.1, ?_⟩
  have h2 := hs.2
  rw [raw_eq hw h hl hbn] at h2 ⊢
  have hrc : (0 : Rat) < (rcOf w s.n : Rat) := natR_pos (rcOf_pos hw h)
  unfold raw atl at *
  cases ho : s.off with
  | true =>
    rw [ho] at h2
    simp only [if_true] at h2 ⊢
    constructor <;> grind
  | false =>
    rw [ho] at h2
    simp only [Bool.false_eq_true, if_false] at h2 ⊢
    split at h2 <;> split <;> constructor <;> grind
theorem runP_cons {w : W} {l : List Str} {F : Rat} {s : Stp} {ss : List Stp} {p : List Str × Rat} (h : runP w l F (s :: ss) = some p) : ∃ q, bestF w l F s = some q ∧ runP w (lotF l s) q ss = some p := by
  unfold runP at h
  cases hb : bestF w l F s with
  | none => rw [hb] at h; cases h
  | some q => rw [hb] at h; exact ⟨q, rfl, h⟩
theorem run_lot {w : W} (hw : Made w) : ∀ (ss : List Stp) (l : List Str) (F : Rat) (p : List Str × Rat), (∀ s ∈ ss, TOk w s) → LOk w l → 0 ≤ F → runP w l F ss = some p → LOk w p.1 ∧ 0 ≤ p.2 ∧ (0 < F → 0 < p.2) ∧ (F = 0 → p.2 = 0)
  | [], l, F, p, _, h1, h2, h => by cases h; exact ⟨h1, h2, id, id⟩
  | s :: ss, l, F, p, hs, h1, h2, h => by
    obtain ⟨q, hb, hr⟩ := runP_cons h
    have ht := hs s List.mem_cons_self
    have hlk := h1.ok hw.ok
    have hL := lotF_sub hw ht h1 (bestF_lotB hb)
    have hq0 : 0 ≤ q := by
      rcases Rat.le_iff_lt_or_eq.mp h2 with h3 | h3
      · exact Rat.le_of_lt (bestF_pos hw ht hlk h3 hb)
      · rw [← h3] at hb
        rw [bestF_zero hw ht hlk hb]
        exact Rat.le_refl
    obtain ⟨a1, a2, a3, a4⟩ := run_lot hw ss _ _ p (fun s hs' => hs s (List.mem_cons_of_mem _ hs')) hL hq0 hr
    exact ⟨a1, a2, fun h => a3 (bestF_pos hw ht hlk h hb), fun h => a4 (by subst h; exact bestF_zero hw ht hlk hb)⟩
/-- a table that a closing ends with; sl says which steps pull -/
structure Tab (w : W) (sl : List Str → Rat → Stp → Bool) (l0 : List Str) (F0 : Rat) (acc : List (List Str × Rat)) : Prop where
  nd : (acc.map (·.1)).Nodup
  run : ∀ p ∈ acc, ∃ ss, (∀ s ∈ ss, s ∈ stepsL w) ∧ runP w l0 F0 ss = some p
  e : ∀ p ∈ acc, EOk w 0 p.1 p.2
  st : Has id acc l0 F0
  cl : ∀ p ∈ acc, ∀ s ∈ stepsL w, ∀ q, bestF w p.1 p.2 s = some q → Has id acc (lotF p.1 s) q ∧ sl p.1 p.2 s = false
/-- a way to a step that pulls -/
def Evid (w : W) (sl : List Str → Rat → Stp → Bool) (l0 : List Str) (F0 : Rat) : Prop := ∃ ss l F s q, (∀ s ∈ ss, s ∈ stepsL w) ∧ runP w l0 F0 ss = some (l, F) ∧ s ∈ stepsL w ∧ bestF w l F s = some q ∧ sl l F s = true
def oT : Option (List (List Str × Rat)) → Dt
  | none => .non
  | some acc => .dT (dicT fr acc)
def Clo (w : W) (sl : List Str → Rat → Stp → Bool) (l0 : List Str) (F0 : Rat) : Option (List (List Str × Rat)) → Prop
  | none => Evid w sl l0 F0
  | some acc => Tab w sl l0 F0 acc
theorem Has.up {ps : List (List Str × Rat)} {k : List Str} {f g : Rat} (h : Has id ps k f) (hle : f ≤ g) : Has id ps k g := by
  obtain ⟨a, e, ha⟩ := h
  exact ⟨a, e, Rat.le_trans ha hle⟩
section
variable {w : W} {sl sl2 : List Str → Rat → Stp → Bool} {l0 : List Str} {F0 : Rat} {acc acc2 : List (List Str × Rat)}
theorem Tab.has (hw : Made w) (T : Tab w sl l0 F0 acc) : ∀ (ss : List Stp) (l : List Str) (F : Rat) (p : List Str × Rat), (∀ s ∈ ss, s ∈ stepsL w) → Has id acc l F → runP w l F ss = some p → Has id acc p.1 p.2
  | [], l, F, p, _, hH, h => by cases h; exact hH
  | s :: ss, l, F, p, hs, hH, h => by
    obtain ⟨q, hb, hr⟩ := runP_cons h
    obtain ⟨a, ea, ha⟩ := hH
    have hm := lookup_mem ea
    have he := T.e _ hm
    have hs1 := hs s List.mem_cons_self
    obtain ⟨q1, e1, e2⟩ := bestF_mono hw (stepsL_ok hs1) (he.lot.ok hw.ok) he.q0 ha hb
    exact Tab.has hw T ss _ _ p (fun s hs' => hs s (List.mem_cons_of_mem _ hs')) ((T.cl _ hm s hs1 q1 e1).1.up e2) hr
theorem Tab.le (hw : Made w) (T : Tab w sl l0 F0 acc) (T2 : Tab w sl2 l0 F0 acc2) {l : List Str} {F : Rat} (h : acc.lookup l = some F) : Has id acc2 l F := by
  obtain ⟨ss, h1, h2⟩ := T.run _ (lookup_mem h)
  exact T2.has hw ss l0 F0 _ h1 T2.st h2
/-- a table and a way to a step that pulls can't be together -/
theorem Tab.noEvid (hw : Made w) (h0 : LOk w l0) (hF : 0 ≤ F0) (T : Tab w slB l0 F0 acc) (hsl : slB = slackB w) (E : Evid w slB l0 F0) : False := by
  subst hsl
  obtain ⟨ss, l, F, s, q, hss, hr, hs, hb, hsl⟩ := E
  obtain ⟨a, ea, ha⟩ := T.has hw ss l0 F0 _ hss T.st hr
  have hm := lookup_mem ea
  obtain ⟨ss', hss', hr'⟩ := T.run _ hm
  have ht := stepsL_ok hs
  obtain ⟨b1, b2, b3, b4⟩ := run_lot hw ss l0 F0 _ (fun s hs => stepsL_ok (hss s hs)) h0 hF hr
  obtain ⟨c1, c2, c3, c4⟩ := run_lot hw ss' l0 F0 _ (fun s hs => stepsL_ok (hss' s hs)) h0 hF hr'
  dsimp only at b1 b2 b3 b4 c1 c2 c3 c4 ha
  obtain ⟨q1, e1, e2⟩ := bestF_mono hw ht (b1.ok hw.ok) c2 ha hb
  have h1 := (T.cl _ hm s hs q1 e1).2
  dsimp only at h1
  have h2 : slackB w l a s = true := by
    rcases Rat.le_iff_lt_or_eq.mp hF with h3 | h3
    · exact slack_mono hw ht (b1.ok hw.ok) (c3 h3) ha (bestF_lotB hb) hsl
    · rw [c4 h3.symm, ← b4 h3.symm]
      exact hsl
  rw [h2] at h1
  cases h1
end
/-! ### the law's own slack -/
theorem slackL_pos {w : W} {lot : List Str} {s : Stp} {F : Rat} (hw : Made w) (h : TOk w s) (hl : LotOk w lot) (hF : 0 < F) {q : Rat} (hb : bestF w lot F s = some q) : slackL w lot F s = slackB w lot F s := by
  unfold slackL slackB
  rw [hb, near_eq hw h hl (bestF_lotB hb)]
  have hrc : (0 : Rat) < (rcOf w s.n : Rat) := natR_pos (rcOf_pos hw h)
  have hat : ∀ x c : Rat, 0 < c → (atl x < c ↔ x < c) := fun x c hc => by
    unfold atl
    split <;> constructor <;> intro h <;> grind
  simp only [Option.isSome_some, Bool.true_and]
  congr 1
  rw [← Bool.decide_and]
  refine decide_eq_decide.mpr ?_
  rw [lt_minR, hat _ _ hrc, hat _ _ hF]
theorem slackL_some {w : W} {lot : List Str} {s : Stp} {F : Rat} (h : slackL w lot F s = true) : ∃ q, bestF w lot F s = some q := by
  unfold slackL at h
  cases hb : bestF w lot F s with
  | none => rw [hb] at h; simp at h
  | some q => exact ⟨q, rfl⟩
end OA
namespace OA
open PySem PySem.Spec PyProof.Rows L2
local macro_rules | `(tactic| subst_eqs) => `(tactic| first | refine wf_r0 (by simp only [List.map_cons, List.map_nil, List.length_cons, List.length_nil, List.replicate, List.cons_append, List.nil_append, Nat.reduceAdd, Nat.reduceSub]; rfl) ?_ | refine wf_r (by simp only [List.map_cons, List.map_nil, List.length_cons, List.length_nil, List.replicate, List.cons_append, List.nil_append, Nat.reduceAdd, Nat.reduceSub]; rfl) ?_)
local macro_rules | `(tactic| clean_wf) => `(tactic| try dsimp only [List.set_cons_zero, List.set_cons_succ])
local macro_rules | `(tactic| array_mem_dec) => `(tactic| first | with_reducible assumption | with_reducible exact st_zero | with_reducible exact st_one | with_reducible exact stp_zero | with_reducible exact stp_one | with_reducible exact fr_top | with_reducible exact fr_bot | with_reducible exact fAdd_int | with_reducible exact fSub_int | with_reducible exact fLt_int | with_reducible exact fGt_int | with_reducible exact fLe_int | with_reducible exact fGe_int | with_reducible exact fEq_int | with_reducible exact is_off _ | with_reducible exact is_on _ | with_reducible exact w_zero _ _ | with_reducible exact w_one _ _ | with_reducible exact w_two _ _ | with_reducible exact names_items _ | with_reducible exact rowsD_items _ | with_reducible exact fEq_fr | with_reducible exact fNe_fr | exact rfl)
local macro_rules | `(tactic| array_get_dec) => `(tactic| first | with_reducible apply we_K | ((with_reducible apply we_var); exact rfl) | with_reducible apply we_bin | with_reducible apply we_call | with_reducible apply wl_cons | with_reducible apply wl_nil | with_reducible apply ws_seq | with_reducible apply ws_set | ((with_reducible apply seqK_nx); clean_wf) | with_reducible apply seqK_ret | with_reducible apply ws_ret | with_reducible apply ws_if | with_reducible apply wt_tst | with_reducible apply ws_nil | with_reducible apply we_tup | with_reducible apply we_app | with_reducible apply we_if | with_reducible apply wt_and | with_reducible apply wt_or | with_reducible apply wt_not | with_reducible apply we_and | with_reducible apply we_or | with_reducible apply we_not | with_reducible apply ws_par | with_reducible apply ws_asg | with_reducible apply ws_expr | with_reducible apply ws_for | with_reducible apply we_lst | with_reducible apply wi_iter | with_reducible apply we_sl | with_reducible apply wo_no | with_reducible apply wo_part | with_reducible apply we_newL0b | with_reducible apply we_newL | with_reducible apply we_isi | with_reducible apply we_chain | ((with_reducible apply wf_of); focus (with_reducible assumption)) | with_reducible refine ⟨_, (by repeat (first | with_reducible exact dats_nil | with_reducible apply dats_cs)), by simp, ?_⟩ | with_reducible refine ⟨_, (by with_reducible assumption), ?_⟩ | with_reducible refine ⟨_, rfl, ?_⟩ | with_reducible refine ⟨_, (by array_mem_dec), ?_⟩ | ((with_reducible apply we_of); focus (with_reducible assumption)))
local macro_rules | `(tactic| sizeOf_list_dec) => `(tactic| repeat' (first | array_get_dec | with_reducible apply conj_T | with_reducible apply conj_F | with_reducible apply conj_T' | with_reducible apply conj_F' | with_reducible apply conj_nT | with_reducible apply conj_nF | with_reducible apply conj_nT' | with_reducible apply conj_nF' | (with_reducible apply conj_tf <;> intro _) | (with_reducible apply conj_ft <;> intro _)))
/-! ### closing: from a front of nought every load that is not stuck can be moved -/
theorem subl_ext {S : List Str} : ∀ {a b : List Str}, a.Sublist S → b.Sublist S → S.Nodup → (∀ x, x ∈ a ↔ x ∈ b) → a = b := by
  induction S with
  | nil => intro a b h1 h2 _ _; rw [List.sublist_nil.mp h1, List.sublist_nil.mp h2]
  | cons y S ih =>
    intro a b h1 h2 hn hm
    rw [List.nodup_cons] at hn
    have no : ∀ {c : List Str}, c.Sublist S → y ∉ c := fun h hy => hn.1 (h.subset hy)
    cases h1 with
    | cons _ h1 =>
      cases h2 with
      | cons _ h2 => exact ih h1 h2 hn.2 hm
      | cons_cons _ h2 => exact absurd ((hm y).mpr List.mem_cons_self) (no h1)
    | cons_cons _ h1 =>
      cases h2 with
      | cons _ h2 => exact absurd ((hm y).mp List.mem_cons_self) (no h2)
      | cons_cons _ h2 =>
        congr 1
        refine ih h1 h2 hn.2 fun x => ?_
        have h3 := hm x
        rw [List.mem_cons, List.mem_cons] at h3
        constructor
        · intro hx
          rcases h3.mp (.inr hx) with rfl | h
          · exact absurd hx (no h1)
          · exact h
        · intro hx
          rcases h3.mpr (.inr hx) with rfl | h
          · exact absurd hx (no h2)
          · exact h
theorem lok_ext {w : W} (hw : w.Ok) {a b : List Str} (ha : LOk w a) (hb : LOk w b) (h : ∀ x, x ∈ a ↔ x ∈ b) : a = b := subl_ext ha.sub hb.sub (sorted_nd hw) h
theorem canLie_mem {w : W} {l : List Str} {n : Str} (h1 : n ∈ l) (h2 : n ∈ folk w) : canLie w l = true := by
  unfold canLie
  have : l.filter (fun n => decide (n ∈ folk w)) ≠ [] := fun h => by
    have := List.filter_eq_nil_iff.mp h n h1
    exact this (decide_eq_true h2)
  cases h : l.filter (fun n => decide (n ∈ folk w)) with
  | nil => exact absurd h this
  | cons x y => rfl
theorem canLie_nil {w : W} : canLie w [] = true := rfl
/-- what can be reached with no front gap -/
def Rch (w : W) (l l' : List Str) : Prop := LOk w l' ∧ ∃ ss, (∀ s ∈ ss, s ∈ stepsL w) ∧ runP w l 0 ss = some (l', 0)
theorem Rch.refl {w : W} {l : List Str} (h : LOk w l) : Rch w l l := ⟨h, [], by simp, rfl⟩
theorem Rch.trans {w : W} {a b c : List Str} (h1 : Rch w a b) (h2 : Rch w b c) : Rch w a c := by
  obtain ⟨_, s1, k1, r1⟩ := h1
  obtain ⟨hc, s2, k2, r2⟩ := h2
  refine ⟨hc, s1 ++ s2, fun s hs => (List.mem_append.mp hs).elim (k1 s) (k2 s), ?_⟩
  rw [runP_app, r1]
  exact r2
theorem Rch.step {w : W} (hw : Made w) {l : List Str} {s : Stp} (hl : LOk w l) (hs : s ∈ stepsL w) (hb : (lotB w l s).isNone = false) : Rch w l (lotF l s) := by
  have ht := stepsL_ok hs
  have hlk := hl.ok hw.ok
  have hle := near_le (F := 0) hw ht hlk Rat.le_refl hb
  have hrc := natR_nonneg (rcOf w s.n)
  have hg : ∃ x, bestG w l 0 s = some x := by
    unfold bestG
    rw [hb, decide_eq_false (Rat.not_lt.mpr (Rat.le_trans hle hrc))]
    exact ⟨_, rfl⟩
  obtain ⟨x, hx⟩ := hg
  refine ⟨lotF_sub hw ht hl hb, [s], by simpa using hs, ?_⟩
  unfold runP
  rw [bestF_eq, hx]
  show some (lotF l s, behG w l 0 s x) = _
  rw [close_zero hw ht hlk hx]
theorem stepsL_one {w : W} {o : One} (ho : o ∈ w.folk) (off : Bool) : (⟨off, o.nm, sNo⟩ : Stp) ∈ stepsL w := by
  unfold stepsL oneSteps
  cases off with
  | true => exact List.mem_append.mpr (.inl (List.mem_flatMap.mpr ⟨o, ho, List.mem_cons_self⟩))
  | false => exact List.mem_append.mpr (.inr (List.mem_flatMap.mpr ⟨o, ho, List.mem_cons_self⟩))
theorem stepsL_two {w : W} {o : One} {b : Str × Nat} (ho : o ∈ w.folk) (hb : b ∈ w.loads) (h : b.2 ≤ o.ar) (off : Bool) : (⟨off, o.nm, b.1⟩ : Stp) ∈ stepsL w := by
  unfold stepsL oneSteps
  have h1 : (⟨off, o.nm, b.1⟩ : Stp) ∈ (w.loads.filter fun l => decide (l.2 ≤ o.ar)).map fun l => (⟨off, o.nm, l.1⟩ : Stp) :=
    List.mem_map.mpr ⟨b, List.mem_filter.mpr ⟨hb, decide_eq_true h⟩, rfl⟩
  cases off with
  | true => exact List.mem_append.mpr (.inl (List.mem_flatMap.mpr ⟨o, ho, List.mem_cons_of_mem _ h1⟩))
  | false => exact List.mem_append.mpr (.inr (List.mem_flatMap.mpr ⟨o, ho, List.mem_cons_of_mem _ h1⟩))
theorem stepsL_inv {w : W} {s : Stp} (h : s ∈ stepsL w) : ∃ o ∈ w.folk, o.nm = s.n ∧ (s.l = sNo ∨ ∃ b ∈ w.loads, b.1 = s.l ∧ b.2 ≤ o.ar) := by
  have key : ∀ off, s ∈ w.folk.flatMap (oneSteps w off) → ∃ o ∈ w.folk, o.nm = s.n ∧ (s.l = sNo ∨ ∃ b ∈ w.loads, b.1 = s.l ∧ b.2 ≤ o.ar) := fun off h => by
    obtain ⟨o, ho, h1⟩ := List.mem_flatMap.mp h
    refine ⟨o, ho, ?_⟩
    rcases List.mem_cons.mp h1 with rfl | h1
    · exact ⟨rfl, .inl rfl⟩
    · obtain ⟨b, hb, rfl⟩ := List.mem_map.mp h1
      obtain ⟨b1, b2⟩ := List.mem_filter.mp hb
      exact ⟨rfl, .inr ⟨b, b1, rfl, of_decide_eq_true b2⟩⟩
  rcases List.mem_append.mp h with h | h
  · exact key _ h
  · exact key _ h
/-- a step off, and on, by what is moved -/
theorem lotB_yes {w : W} {l : List Str} {s : Stp} (h1 : ∀ x ∈ s.mv, (x ∈ l ↔ s.off = true)) (h2 : canLie w (lotF l s) = true) : (lotB w l s).isNone = false := by
  unfold lotB
  have : (s.mv.filter fun x => decide (x ∈ l) != s.off) = [] := by
    rw [List.filter_eq_nil_iff]
    intro x hx
    have := h1 x hx
    cases ho : s.off with
    | true => rw [ho] at this; simp [this]
    | false => rw [ho] at this; simp [this]
  rw [this]
  simp [h2]
end OA
namespace OA
open PySem PySem.Spec PyProof.Rows L2
local macro_rules | `(tactic| subst_eqs) => `(tactic| first | refine wf_r0 (by simp only [List.map_cons, List.map_nil, List.length_cons, List.length_nil, List.replicate, List.cons_append, List.nil_append, Nat.reduceAdd, Nat.reduceSub]; rfl) ?_ | refine wf_r (by simp only [List.map_cons, List.map_nil, List.length_cons, List.length_nil, List.replicate, List.cons_append, List.nil_append, Nat.reduceAdd, Nat.reduceSub]; rfl) ?_)
local macro_rules | `(tactic| clean_wf) => `(tactic| try dsimp only [List.set_cons_zero, List.set_cons_succ])
local macro_rules | `(tactic| array_mem_dec) => `(tactic| first | with_reducible assumption | with_reducible exact st_zero | with_reducible exact st_one | with_reducible exact stp_zero | with_reducible exact stp_one | with_reducible exact fr_top | with_reducible exact fr_bot | with_reducible exact fAdd_int | with_reducible exact fSub_int | with_reducible exact fLt_int | with_reducible exact fGt_int | with_reducible exact fLe_int | with_reducible exact fGe_int | with_reducible exact fEq_int | with_reducible exact is_off _ | with_reducible exact is_on _ | with_reducible exact w_zero _ _ | with_reducible exact w_one _ _ | with_reducible exact w_two _ _ | with_reducible exact names_items _ | with_reducible exact rowsD_items _ | with_reducible exact fEq_fr | with_reducible exact fNe_fr | exact rfl)
local macro_rules | `(tactic| array_get_dec) => `(tactic| first | with_reducible apply we_K | ((with_reducible apply we_var); exact rfl) | with_reducible apply we_bin | with_reducible apply we_call | with_reducible apply wl_cons | with_reducible apply wl_nil | with_reducible apply ws_seq | with_reducible apply ws_set | ((with_reducible apply seqK_nx); clean_wf) | with_reducible apply seqK_ret | with_reducible apply ws_ret | with_reducible apply ws_if | with_reducible apply wt_tst | with_reducible apply ws_nil | with_reducible apply we_tup | with_reducible apply we_app | with_reducible apply we_if | with_reducible apply wt_and | with_reducible apply wt_or | with_reducible apply wt_not | with_reducible apply we_and | with_reducible apply we_or | with_reducible apply we_not | with_reducible apply ws_par | with_reducible apply ws_asg | with_reducible apply ws_expr | with_reducible apply ws_for | with_reducible apply we_lst | with_reducible apply wi_iter | with_reducible apply we_sl | with_reducible apply wo_no | with_reducible apply wo_part | with_reducible apply we_newL0b | with_reducible apply we_newL | with_reducible apply we_isi | with_reducible apply we_chain | ((with_reducible apply wf_of); focus (with_reducible assumption)) | with_reducible refine ⟨_, (by repeat (first | with_reducible exact dats_nil | with_reducible apply dats_cs)), by simp, ?_⟩ | with_reducible refine ⟨_, (by with_reducible assumption), ?_⟩ | with_reducible refine ⟨_, rfl, ?_⟩ | with_reducible refine ⟨_, (by array_mem_dec), ?_⟩ | ((with_reducible apply we_of); focus (with_reducible assumption)))
local macro_rules | `(tactic| sizeOf_list_dec) => `(tactic| repeat' (first | array_get_dec | with_reducible apply conj_T | with_reducible apply conj_F | with_reducible apply conj_T' | with_reducible apply conj_F' | with_reducible apply conj_nT | with_reducible apply conj_nF | with_reducible apply conj_nT' | with_reducible apply conj_nF' | (with_reducible apply conj_tf <;> intro _) | (with_reducible apply conj_ft <;> intro _)))
/-! ### closing: why it ends -/
theorem sum_lt {α : Type} {f g : α → Nat} : ∀ ls : List α, (∀ x ∈ ls, f x ≤ g x) → (∃ x ∈ ls, f x < g x) → (ls.map f).sum < (ls.map g).sum
  | [], _, h => by obtain ⟨x, hx, _⟩ := h; cases hx
  | y :: ls, h1, h2 => by
    rw [List.map_cons, List.map_cons, List.sum_cons, List.sum_cons]
    have hy := h1 y List.mem_cons_self
    have hr : ∀ ls : List α, (∀ x ∈ ls, f x ≤ g x) → (ls.map f).sum ≤ (ls.map g).sum := by
      intro ls
      induction ls with
      | nil => intro _; exact Nat.le_refl _
      | cons z ls ih =>
        intro h
        rw [List.map_cons, List.map_cons, List.sum_cons, List.sum_cons]
        have := h z List.mem_cons_self
        have := ih fun x hx => h x (List.mem_cons_of_mem _ hx)
        omega
    have h3 := hr ls fun x hx => h1 x (List.mem_cons_of_mem _ hx)
    obtain ⟨x, hx, hl⟩ := h2
    rcases List.mem_cons.mp hx with rfl | hx
    · omega
    · have := sum_lt ls (fun x hx => h1 x (List.mem_cons_of_mem _ hx)) ⟨x, hx, hl⟩
      omega
theorem filt_lt {q v : Rat} (h : q < v) : ∀ V : List Rat, (V.filter fun u => decide (u < q)).length ≤ (V.filter fun u => decide (u < v)).length ∧ (q ∈ V → (V.filter fun u => decide (u < q)).length < (V.filter fun u => decide (u < v)).length)
  | [] => ⟨Nat.le_refl _, fun h => by cases h⟩
  | u :: V => by
    obtain ⟨h1, h2⟩ := filt_lt h V
    rw [List.filter_cons, List.filter_cons]
    by_cases a : u < q
    · have b : u < v := by grind
      rw [decide_eq_true a, decide_eq_true b]
      simp only [if_true, List.length_cons]
      refine ⟨by omega, fun hm => ?_⟩
      rcases List.mem_cons.mp hm with rfl | hm
      · exact absurd a (Rat.lt_irrefl)
      · have := h2 hm; omega
    · rw [decide_eq_false a]
      by_cases b : u < v
      · rw [decide_eq_true b]
        simp only [if_true, List.length_cons, Bool.false_eq_true, if_false]
        exact ⟨by omega, fun _ => by omega⟩
      · rw [decide_eq_false b]
        simp only [Bool.false_eq_true, if_false]
        refine ⟨h1, fun hm => ?_⟩
        rcases List.mem_cons.mp hm with rfl | hm
        · exact absurd h b
        · exact h2 hm
/-- how many values are below -/
def rk (V : List Rat) : Option Rat → Nat
  | none => V.length + 1
  | some v => (V.filter fun u => decide (u < v)).length
def mu (V : List Rat) (ls : List (List Str)) (acc : List (List Str × Rat)) : Nat := (ls.map fun l => rk V (acc.lookup l)).sum
theorem mu_le (V : List Rat) (acc : List (List Str × Rat)) : ∀ ls : List (List Str), mu V ls acc ≤ ls.length * (V.length + 1)
  | [] => Nat.zero_le _
  | l :: ls => by
    have ih := mu_le V acc ls
    have h : rk V (acc.lookup l) ≤ V.length + 1 := by
      cases acc.lookup l with
      | none => exact Nat.le_refl _
      | some v => exact Nat.le_succ_of_le (List.length_filter_le _ _)
    unfold mu at *
    rw [List.map_cons, List.sum_cons, List.length_cons, Nat.succ_mul]
    omega
theorem mu_put {V : List Rat} {ls : List (List Str)} {acc : List (List Str × Rat)} {l : List Str} {q : Rat} (hl : l ∈ ls) (hq : q ∈ V) (h : ∀ b, acc.lookup l = some b → q < b) : mu V ls (putL acc l q) < mu V ls acc := by
  have h0 : rk V (some q) < rk V (acc.lookup l) := by
    cases e : acc.lookup l with
    | none => exact Nat.lt_succ_of_le (List.length_filter_le _ _)
    | some b => exact (filt_lt (h b e) V).2 hq
  refine sum_lt ls (fun x _ => ?_) ⟨l, hl, ?_⟩
  · rw [look_put]
    split
    · rename_i e; subst e; exact Nat.le_of_lt h0
    · exact Nat.le_refl _
  · rw [look_put, if_pos rfl]
    exact h0
/-- what holds of the fronts while a closing goes on -/
structure CI (w : W) (l0 : List Str) (F0 : Rat) (acc : List (List Str × Rat)) : Prop where
  nd : (acc.map (·.1)).Nodup
  run : ∀ p ∈ acc, ∃ ss, (∀ s ∈ ss, s ∈ stepsL w) ∧ runP w l0 F0 ss = some p
  e : ∀ p ∈ acc, EOk w 0 p.1 p.2
  v : ∀ p ∈ acc, p.2 ∈ valsL w F0
  st : Has id acc l0 F0
theorem eok_zero {w : W} {l : List Str} (h : LOk w l) : EOk w 0 l 0 := ⟨h, Rat.le_refl, by decide, 1, by decide, by decide, IntD.zero⟩
theorem close_any {w : W} {lot : List Str} {s : Stp} {F F0 q : Rat} (hw : Made w) (h : TOk w s) (hE : EOk w 0 lot F) (hV : F ∈ valsL w F0) (hb : bestF w lot F s = some q) (hs : slackB w lot F s = false ∨ F = 0) : q ∈ valsL w F0 ∧ EOk w 0 (lotF lot s) q := by
  have hl := hE.lot.ok hw.ok
  rcases hs with hs | rfl
  · rw [bestF_eq] at hb
    obtain ⟨x, hx, rfl⟩ := Option.map_eq_some_iff.mp hb
    exact close_step hw h hE hV hx hs
  · rw [bestF_zero hw h hl hb]
    exact ⟨List.mem_cons_of_mem _ List.mem_cons_self, eok_zero (lotF_sub hw h hE.lot (bestF_lotB hb))⟩
section
variable {w : W} {l0 : List Str} {F0 : Rat} {acc : List (List Str × Rat)}
theorem CI.start (h : EOk w 0 l0 F0) : CI w l0 F0 [(l0, F0)] := ⟨by simp, fun p hp => by rw [List.mem_singleton] at hp; subst hp; exact ⟨[], by simp, rfl⟩, fun p hp => by rw [List.mem_singleton] at hp; subst hp; exact h, fun p hp => by rw [List.mem_singleton] at hp; subst hp; exact List.mem_cons_self, ⟨F0, by simp, Rat.le_refl⟩⟩
theorem CI.len (hw : Made w) (h : CI w l0 F0 acc) : acc.length ≤ 64 := by
  have h3 : (acc.map (·.1)).length ≤ (lotsW w).length := nodup_lenG _ _ h.nd fun x hx => by
    obtain ⟨p, hp, rfl⟩ := List.mem_map.mp hx
    exact lotsW_mem.mpr (h.e p hp).lot.sub
  have := lotsW_len hw.ok
  rw [List.length_map] at h3
  omega
theorem CI.mu_lt (hw : Made w) : mu (valsL w F0) (lotsW w) acc < 1999999 := by
  have h1 := mu_le (valsL w F0) acc (lotsW w)
  have h2 := valsL_len hw.ok F0
  have h3 := lotsW_len hw.ok
  have := Nat.mul_le_mul h3 (show (valsL w F0).length + 1 ≤ 16387 by omega)
  omega
theorem CI.put (hw : Made w) (h : CI w l0 F0 acc) {l : List Str} {F q : Rat} {s : Stp} (hm : acc.lookup l = some F) (hs : s ∈ stepsL w) (hb : bestF w l F s = some q) (hsl : slackB w l F s = false ∨ F = 0) (hlt : ∀ b, acc.lookup (lotF l s) = some b → q < b) :
    CI w l0 F0 (putL acc (lotF l s) q) ∧ mu (valsL w F0) (lotsW w) (putL acc (lotF l s) q) < mu (valsL w F0) (lotsW w) acc ∧ Has id (putL acc (lotF l s) q) (lotF l s) q := by
  have hmem := lookup_mem hm
  have he := h.e _ hmem
  have ht := stepsL_ok hs
  obtain ⟨k1, k2⟩ := close_any hw ht he (h.v _ hmem) hb hsl
  obtain ⟨ss, r1, r2⟩ := h.run _ hmem
  have hst : stepE id acc (lotF l s) q = putL acc (lotF l s) q := by
    unfold stepE
    cases hc : acc.lookup (lotF l s) with
    | none => rfl
    | some b => exact if_pos (hlt b hc)
  refine ⟨⟨putL_keys _ _ _ h.nd, fun p hp => ?_, fun p hp => ?_, fun p hp => ?_, ?_⟩, mu_put (lotsW_mem.mpr k2.lot.sub) k1 hlt, ⟨q, by rw [look_put, if_pos rfl], Rat.le_refl⟩⟩
  · rcases putL_mem hp with hp | rfl
    · exact h.run p hp
    · exact ⟨ss ++ [s], fun t ht => (List.mem_append.mp ht).elim (r1 t) (fun ht => by rw [List.mem_singleton] at ht; subst ht; exact hs), runP_snoc r2 hb⟩
  · rcases putL_mem hp with hp | rfl
    · exact h.e p hp
    · exact k2
  · rcases putL_mem hp with hp | rfl
    · exact h.v p hp
    · exact k1
  · rw [← hst]
    exact h.st.step
end
theorem lotF_ne {w : W} {lot : List Str} {s : Stp} (hw : Made w) (h : TOk w s) (hb : (lotB w lot s).isNone = false) : lotF lot s ≠ lot := fun e => lotB_ne (w := w) (lot := lot) hw h (by rw [lotB_some hb, e])
/-- a while, by a measure -/
theorem ws_whileM {t : CdB} {b : CdS} {Q : Fl → En → Ss → Prop} (I : Nat → En → Ss → Prop)
    (hI : ∀ m en S, I m en S → WT t en S fun k S1 => (k = false → Q .nx en S1) ∧ (k = true → WS b en S1 fun fl en2 S2 => match fl with | .nx => ∃ m', m' < m ∧ I m' en2 S2 | .ct => ∃ m', m' < m ∧ I m' en2 S2 | .bk => Q .nx en2 S2 | .ret r => Q (.ret r) en2 S2)) :
    ∀ n m en S, m < n → I m en S → WS (whileN n t b) en S Q
  | 0, m, en, S, h, _ => absurd h (Nat.not_lt_zero _)
  | n + 1, m, en, S, h, hi => by
    obtain ⟨k, S1, e1, h1, h2⟩ := hI m en S hi
    cases k with
    | false => exact ⟨.nx, en, S1, by unfold whileN; simp [e1], h1 rfl⟩
    | true =>
      obtain ⟨fl, en2, S2, e2, q⟩ := h2 rfl
      have go : ∀ m', m' < m → I m' en2 S2 → WS (whileN n t b) en2 S2 Q := fun m' hm hi => ws_whileM I hI n m' en2 S2 (by omega) hi
      cases fl with
      | nx =>
        obtain ⟨m', hm, hi⟩ := q
        obtain ⟨fl3, en3, S3, e3, q3⟩ := go m' hm hi
        exact ⟨fl3, en3, S3, by unfold whileN; simp [e1, e2, e3], q3⟩
      | ct =>
        obtain ⟨m', hm, hi⟩ := q
        obtain ⟨fl3, en3, S3, e3, q3⟩ := go m' hm hi
        exact ⟨fl3, en3, S3, by unfold whileN; simp [e1, e2, e3], q3⟩
      | bk => exact ⟨_, _, _, by unfold whileN; simp [e1, e2], q⟩
      | ret r => exact ⟨_, _, _, by unfold whileN; simp [e1, e2], q⟩
end OA
namespace OA
open PySem PySem.Spec PyProof.Rows L2
local macro_rules | `(tactic| subst_eqs) => `(tactic| first | refine wf_r0 (by simp only [List.map_cons, List.map_nil, List.length_cons, List.length_nil, List.replicate, List.cons_append, List.nil_append, Nat.reduceAdd, Nat.reduceSub]; rfl) ?_ | refine wf_r (by simp only [List.map_cons, List.map_nil, List.length_cons, List.length_nil, List.replicate, List.cons_append, List.nil_append, Nat.reduceAdd, Nat.reduceSub]; rfl) ?_)
local macro_rules | `(tactic| clean_wf) => `(tactic| try dsimp only [List.set_cons_zero, List.set_cons_succ])
local macro_rules | `(tactic| array_mem_dec) => `(tactic| first | with_reducible assumption | with_reducible exact st_zero | with_reducible exact st_one | with_reducible exact stp_zero | with_reducible exact stp_one | with_reducible exact fr_top | with_reducible exact fr_bot | with_reducible exact fAdd_int | with_reducible exact fSub_int | with_reducible exact fLt_int | with_reducible exact fGt_int | with_reducible exact fLe_int | with_reducible exact fGe_int | with_reducible exact fEq_int | with_reducible exact is_off _ | with_reducible exact is_on _ | with_reducible exact w_zero _ _ | with_reducible exact w_one _ _ | with_reducible exact w_two _ _ | with_reducible exact names_items _ | with_reducible exact rowsD_items _ | with_reducible exact fEq_fr | with_reducible exact fNe_fr | exact rfl)
local macro_rules | `(tactic| array_get_dec) => `(tactic| first | with_reducible apply we_K | ((with_reducible apply we_var); exact rfl) | with_reducible apply we_bin | with_reducible apply we_call | with_reducible apply wl_cons | with_reducible apply wl_nil | with_reducible apply ws_seq | with_reducible apply ws_set | ((with_reducible apply seqK_nx); clean_wf) | with_reducible apply seqK_ret | with_reducible apply ws_ret | with_reducible apply ws_if | with_reducible apply wt_tst | with_reducible apply ws_nil | with_reducible apply we_tup | with_reducible apply we_app | with_reducible apply we_if | with_reducible apply wt_and | with_reducible apply wt_or | with_reducible apply wt_not | with_reducible apply we_and | with_reducible apply we_or | with_reducible apply we_not | with_reducible apply ws_par | with_reducible apply ws_asg | with_reducible apply ws_expr | with_reducible apply ws_for | with_reducible apply we_lst | with_reducible apply wi_iter | with_reducible apply we_sl | with_reducible apply wo_no | with_reducible apply wo_part | with_reducible apply we_newL0b | with_reducible apply we_newL | with_reducible apply we_isi | with_reducible apply we_chain | ((with_reducible apply wf_of); focus (with_reducible assumption)) | with_reducible refine ⟨_, (by repeat (first | with_reducible exact dats_nil | with_reducible apply dats_cs)), by simp, ?_⟩ | with_reducible refine ⟨_, (by with_reducible assumption), ?_⟩ | with_reducible refine ⟨_, rfl, ?_⟩ | with_reducible refine ⟨_, (by array_mem_dec), ?_⟩ | ((with_reducible apply we_of); focus (with_reducible assumption)))
local macro_rules | `(tactic| sizeOf_list_dec) => `(tactic| repeat' (first | array_get_dec | with_reducible apply conj_T | with_reducible apply conj_F | with_reducible apply conj_T' | with_reducible apply conj_F' | with_reducible apply conj_nT | with_reducible apply conj_nF | with_reducible apply conj_nT' | with_reducible apply conj_nF' | (with_reducible apply conj_tf <;> intro _) | (with_reducible apply conj_ft <;> intro _)))
/-! ### closing, as the program does it -/
theorem we_frzT' {en : En} {S S0 : Ss} {i : Nat} {ds : List (Dt × Dt)} {Q : R → Ss → Prop} (h : en[i]? = some (some (.c S0.length))) (hS : S = S0 ++ [.dT ds]) (q : Q (.d (.dT ds)) (S0 ++ [.gone])) : WE (cFrz (cVar i)) en S Q := by
  subst hS
  refine we_frzT (we_var h ⟨_, rfl, ds, by simp, ?_⟩)
  simpa using q
/-- what is asked of a lot's steps -/
def GoodP (w : W) (acc : List (List Str × Rat)) (p : List Str × Rat) (s : Stp) : Prop := ∀ q, bestF w p.1 p.2 s = some q → Has id acc (lotF p.1 s) q ∧ slackB w p.1 p.2 s = false
def enC (w : W) (g : Rat) (rs : Rows) (n : Nat) (ch : Bool) (x4 x5 x6 x7 : Option R) : En := [some (.d (eW w)), some (.d (eSt g rs)), some (.c n), some (.d (.bl ch)), x4, x5, x6, x7]
/-- the turn of one step of one lot -/
def c_cl1 : CdS := (sCons (sSet 6 (cCall f_best_from (cCons (cVar 0) (cCons (cVar 4) (cCons (cBin fIx (cVar 2) (cVar 4)) (cCons (cVar 5) cNil)))))) (sCons (sIf (cTst (cBin fNotN (cVar 6) (cK .non))) (sCons (sIf (cTst (cCall f_pulls_by (cCons (cVar 0) (cCons (cVar 4) (cCons (cBin fIx (cVar 2) (cVar 4)) (cCons (cVar 5) cNil)))))) (sCons (sRet (cK .non)) sNil) sNil) (sCons (sSet 7 (cCall f_lot_behind (cCons (cVar 0) (cCons (cVar 4) (cCons (cVar 5) cNil))))) (sCons (sIf (qqOr (cTst (cBin fNotIn (cVar 7) (cVar 2))) (cTst (cCall f_is_lesser (cCons (cVar 6) (cCons (cBin fIx (cVar 2) (cVar 7)) cNil))))) (sCons (sPutT (cVar 6) (cVar 2) (cVar 7)) (sCons (sSet 3 (cK (.bl true))) sNil)) sNil) sNil))) sNil) sNil))
theorem ws_cl1 (S : Ss) {w : W} (hw : Made w) {l0 : List Str} {F0 : Rat} {acc : List (List Str × Rat)} (hC : CI w l0 F0 acc) {g : Rat} {rs : Rows} {l : List Str} {F : Rat} (hm : acc.lookup l = some F) {s : Stp} (hs : s ∈ stepsL w) (ch : Bool) (x6 x7 : Option R)
    {Q : Fl → En → Ss → Prop} (hret : Evid w (slackB w) l0 F0 → ∀ en2, Q (.ret (.d .non)) en2 (S ++ [.dT (dicT fr acc)]))
    (hsame : (∀ q, bestF w l F s = some q → Has id acc (lotF l s) q ∧ slackB w l F s = false) → ∀ x6 x7, Q .nx (enC w g rs S.length ch (some (.d (names l))) (some (.d (eStp s))) x6 x7) (S ++ [.dT (dicT fr acc)]))
    (hput : ∀ q, bestF w l F s = some q → CI w l0 F0 (putL acc (lotF l s) q) → mu (valsL w F0) (lotsW w) (putL acc (lotF l s) q) < mu (valsL w F0) (lotsW w) acc → ∀ x6 x7, Q .nx (enC w g rs S.length true (some (.d (names l))) (some (.d (eStp s))) x6 x7) (S ++ [.dT (dicT fr (putL acc (lotF l s) q))])) :
    WS c_cl1 (enC w g rs S.length ch (some (.d (names l))) (some (.d (eStp s))) x6 x7) (S ++ [.dT (dicT fr acc)]) Q := by
  have hTs := stepsL_ok hs
  have hmem := lookup_mem hm
  have he := hC.e _ hmem
  have hlot := he.lot.ok hw.ok
  have hqB := he.B
  dsimp only at he hlot hqB
  have e0 := fIx_cT (S0 := S) (ds := dicT fr acc) (k := l) (v := fr F) (by rw [look_dicT, hm]; rfl)
  have e1 := sp_best_from (S ++ [.dT (dicT fr acc)]) hw hTs hlot (hqB.mono (m := 1900) (by omega))
  have e2 := notN_oF (S := S ++ [.dT (dicT fr acc)]) (bestF w l F s)
  have e3 := sp_pulls_by (S ++ [.dT (dicT fr acc)]) hw hTs hlot (hqB.mono (m := 1900) (by omega))
  unfold c_cl1 enC
  cases hb : bestF w l F s with
  | none =>
    rw [hb] at e1 e2
    simp only [Option.isSome_none, oF] at e1 e2
    sizeOf_list_dec
    exact hsame (fun q h => by rw [hb] at h; cases h) _ _
  | some q =>
    rw [hb] at e1 e2
    simp only [Option.isSome_some, oF] at e1 e2
    have hbn := bestF_lotB hb
    cases hsl : slackB w l F s with
    | true =>
      rw [hsl] at e3
      obtain ⟨ss, r1, r2⟩ := hC.run _ hmem
      have E : Evid w (slackB w) l0 F0 := ⟨ss, l, F, s, q, r1, r2, hs, hb, hsl⟩
      sizeOf_list_dec
      exact hret E _
    | false =>
      rw [hsl] at e3
      have e4 := sp_lot_behind (S ++ [.dT (dicT fr acc)]) (lot := l) hw hTs (hlot.sok hw) (by have := hlot.len; omega)
      rw [lotB_some hbn] at e4
      change f_lot_behind _ _ = some (R.d (names (lotF l s)), _) at e4
      have e5 := fNotIn_cT (S0 := S) (ds := dicT fr acc) (k := lotF l s)
      rw [look_dicT, Option.isSome_map] at e5
      have hl64 := hC.len hw
      have put : ∀ x : Prop, WS (sPutT (cVar 6) (cVar 2) (cVar 7)) [some (.d (eW w)), some (.d (eSt g rs)), some (.c S.length), some (.d (.bl ch)), some (.d (names l)), some (.d (eStp s)), some (.d (fr q)), some (.d (names (lotF l s)))] (S ++ [.dT (dicT fr acc)]) fun fl en S' => fl = .nx ∧ en = [some (.d (eW w)), some (.d (eSt g rs)), some (.c S.length), some (.d (.bl ch)), some (.d (names l)), some (.d (eStp s)), some (.d (fr q)), some (.d (names (lotF l s)))] ∧ S' = S ++ [.dT (dicT fr (putL acc (lotF l s) q))] := by
        intro _
        have hpd := put_dicT fr acc (lotF l s) q
        refine ws_putT ?_
        sizeOf_list_dec
        refine ⟨rfl, ?_⟩
        sizeOf_list_dec
        refine ⟨rfl, rfl, ?_⟩
        sizeOf_list_dec
        refine ⟨rfl, _, rfl, by simp [dicT]; omega, rfl, rfl, ?_⟩
        rw [← hpd]
      cases hlk : acc.lookup (lotF l s) with
      | none =>
        rw [hlk] at e5
        simp only [Option.isSome_none, Bool.not_false] at e5
        obtain ⟨p1, p2, p3⟩ := hC.put hw hm hs hb (.inl hsl) (fun b h => by rw [hlk] at h; cases h)
        sizeOf_list_dec
        refine ws_mono (put True) ?_
        rintro fl en2 S2 ⟨rfl, rfl, rfl⟩
        sizeOf_list_dec
        exact hput q hb p1 p2 _ _
      | some b =>
        rw [hlk] at e5
        simp only [Option.isSome_some, Bool.not_true] at e5
        have e6 := fIx_cT (S0 := S) (ds := dicT fr acc) (k := lotF l s) (v := fr b) (by rw [look_dicT, hlk]; rfl)
        have hbm : (lotF l s, b) ∈ acc := lookup_mem hlk
        have hbB := (hC.e _ hbm).B
        have hqB2 : B 600 q := (bestF_ok hw hTs he hb).B.mono (by decide)
        have e8 := sp_is_lesser (S ++ [.dT (dicT fr acc)]) (p := q) (q := b) (hqB2.mono (m := 4000) (by omega)) (hbB.mono (m := 4000) (by omega))
        by_cases hlt : q < b
        · rw [decide_eq_true hlt] at e8
          obtain ⟨p1, p2, p3⟩ := hC.put hw hm hs hb (.inl hsl) (fun c h => by rw [hlk] at h; cases h; exact hlt)
          sizeOf_list_dec
          refine ws_mono (put True) ?_
          rintro fl en2 S2 ⟨rfl, rfl, rfl⟩
          sizeOf_list_dec
          exact hput q hb p1 p2 _ _
        · rw [decide_eq_false hlt] at e8
          sizeOf_list_dec
          exact hsame (fun q' h => by
            cases hb.symm.trans h
            exact ⟨⟨b, hlk, Rat.not_lt.mp hlt⟩, hsl⟩) _ _
theorem lookup_putL_ne {acc : List (List Str × Rat)} {k l : List Str} {q : Rat} (h : l ≠ k) : (putL acc k q).lookup l = acc.lookup l := by rw [look_put, if_neg h]
/-- all steps of one lot -/
theorem wn_cl1 (S : Ss) {w : W} (hw : Made w) {l0 : List Str} {F0 : Rat} {g : Rat} {rs : Rows} {l : List Str} {F : Rat} {acc0 : List (List Str × Rat)} {Q : Fl → En → Ss → Prop}
    (hret : Evid w (slackB w) l0 F0 → ∀ en2 S2, (∃ acc, S2 = S ++ [.dT (dicT fr acc)]) → Q (.ret (.d .non)) en2 S2)
    (acc1 : List (List Str × Rat)) (ch1 : Bool)
    (hend : ∀ acc ch x5 x6 x7, CI w l0 F0 acc → acc.lookup l = some F → (∀ p ∈ acc0, ∃ a, acc.lookup p.1 = some a) → (ch = false → ch1 = false ∧ acc = acc0 ∧ ∀ s ∈ stepsL w, GoodP w acc0 (l, F) s) → (ch = true → mu (valsL w F0) (lotsW w) acc < mu (valsL w F0) (lotsW w) acc0) →
      Q .nx (enC w g rs S.length ch (some (.d (names l))) x5 x6 x7) (S ++ [.dT (dicT fr acc)]))
    (y5 y6 y7 : Option R) (i1 : CI w l0 F0 acc1) (i2 : acc1.lookup l = some F) (i3 : ∀ p ∈ acc0, ∃ a, acc1.lookup p.1 = some a) (i4 : ch1 = false → acc1 = acc0) (i5 : ch1 = true → mu (valsL w F0) (lotsW w) acc1 < mu (valsL w F0) (lotsW w) acc0) :
    WN (gNm 5) c_cl1 ((stepsL w).map eStp) (enC w g rs S.length ch1 (some (.d (names l))) y5 y6 y7) (S ++ [.dT (dicT fr acc1)]) Q := by
  refine wn_inv eStp (fun ss en S' => (∀ s ∈ ss, s ∈ stepsL w) ∧ ∃ acc ch x5 x6 x7, CI w l0 F0 acc ∧ acc.lookup l = some F ∧ (∀ p ∈ acc0, ∃ a, acc.lookup p.1 = some a) ∧ (ch = false → ch1 = false ∧ acc = acc0 ∧ ∀ s ∈ stepsL w, s ∈ ss ∨ GoodP w acc0 (l, F) s) ∧ (ch = true → mu (valsL w F0) (lotsW w) acc < mu (valsL w F0) (lotsW w) acc0) ∧
    en = enC w g rs S.length ch (some (.d (names l))) x5 x6 x7 ∧ S' = S ++ [.dT (dicT fr acc)]) ?_ ?_ (stepsL w) _ _ ⟨fun _ h => h, acc1, ch1, y5, y6, y7, i1, i2, i3, fun h => ⟨h, i4 h, fun s hs => .inl hs⟩, i5, rfl, rfl⟩
  · rintro en S' ⟨_, acc, ch, x5, x6, x7, h1, h2, h3, h4, h5, rfl, rfl⟩
    refine hend acc ch x5 x6 x7 h1 h2 h3 (fun hc => ⟨(h4 hc).1, (h4 hc).2.1, fun s hs => ((h4 hc).2.2 s hs).resolve_left (by simp)⟩) h5
  · rintro s ss en S' ⟨hss, acc, ch, x5, x6, x7, h1, h2, h3, h4, h5, rfl, rfl⟩
    have hs := hss s List.mem_cons_self
    have hr : ∀ t ∈ ss, t ∈ stepsL w := fun t ht => hss t (List.mem_cons_of_mem _ ht)
    refine ⟨enC w g rs S.length ch (some (.d (names l))) (some (.d (eStp s))) x6 x7, rfl, ?_⟩
    refine ws_cl1 S hw h1 h2 hs ch x6 x7 (fun E en2 => hret E en2 _ ⟨acc, rfl⟩) (fun hg x6 x7 => ?_) (fun q hb p1 p2 x6 x7 => ?_)
    · refine ⟨hr, acc, ch, _, x6, x7, h1, h2, h3, fun hc => ?_, h5, rfl, rfl⟩
      obtain ⟨k0, k1, k2⟩ := h4 hc
      refine ⟨k0, k1, fun t ht => ?_⟩
      rcases k2 t ht with k3 | k3
      · rcases List.mem_cons.mp k3 with rfl | k3
        · right
          intro q hq
          rw [← k1]
          exact hg q hq
        · exact .inl k3
      · exact .inr k3
    · have hne := lotF_ne hw (stepsL_ok hs) (bestF_lotB hb)
      refine ⟨hr, _, true, _, x6, x7, p1, by rw [lookup_putL_ne (Ne.symm hne)]; exact h2, fun p hp => ?_, fun hc => Bool.noConfusion hc, fun _ => ?_, rfl, rfl⟩
      · obtain ⟨a, ha⟩ := h3 p hp
        by_cases e : p.1 = lotF l s
        · exact ⟨q, by rw [look_put, if_pos e]⟩
        · exact ⟨a, by rw [lookup_putL_ne e]; exact ha⟩
      · cases ch with
        | false => rw [← (h4 rfl).2.1]; exact p2
        | true => exact Nat.lt_trans p2 (h5 rfl)
/-- one pass -/
def c_cl2 : CdS := (sCons (sSet 3 (cK (.bl false))) (sCons (sFor (cIter (cApp fListD (cCons (cVar 2) cNil))) (gNm 4) (sCons (sFor (cIter (cCall f_all_steps (cCons (cVar 0) cNil))) (gNm 5) c_cl1) sNil)) sNil))
theorem fListD_c {S : Ss} {acc : List (List Str × Rat)} : fListD (S ++ [.dT (dicT fr acc)]) [.c S.length] = some (.d (.lst (acc.map fun p => names p.1))) := by
  unfold fListD
  have : get (S ++ [.dT (dicT fr acc)]) (.c S.length) = some (.dT (dicT fr acc)) := by simp [get, SO.val]
  simp only [this]
  simp [dicT, Function.comp_def]
theorem items_lst {ds : List Dt} : itemsOf (.lst ds) = some ds := rfl
theorem ws_cl2 (S : Ss) {w : W} (hw : Made w) {l0 : List Str} {F0 : Rat} {g : Rat} {rs : Rows} {acc : List (List Str × Rat)} (hC : CI w l0 F0 acc) (x4 x5 x6 x7 : Option R) {Q : Fl → En → Ss → Prop}
    (hret : Evid w (slackB w) l0 F0 → ∀ en2 S2, (∃ acc, S2 = S ++ [.dT (dicT fr acc)]) → Q (.ret (.d .non)) en2 S2)
    (hend : Tab w (slackB w) l0 F0 acc → ∀ x4 x5 x6 x7, Q .nx (enC w g rs S.length false x4 x5 x6 x7) (S ++ [.dT (dicT fr acc)]))
    (hmore : ∀ acc2, CI w l0 F0 acc2 → mu (valsL w F0) (lotsW w) acc2 < mu (valsL w F0) (lotsW w) acc → ∀ x4 x5 x6 x7, Q .nx (enC w g rs S.length true x4 x5 x6 x7) (S ++ [.dT (dicT fr acc2)])) :
    WS c_cl2 (enC w g rs S.length true x4 x5 x6 x7) (S ++ [.dT (dicT fr acc)]) Q := by
  have e1 := fListD_c (S := S) (acc := acc)
  have hlk := look_self_of acc hC.nd
  unfold c_cl2 enC
  sizeOf_list_dec
  refine wn_inv (fun p : List Str × Rat => names p.1) (fun rest en S' => (∀ p ∈ rest, p ∈ acc) ∧ ∃ acc2 ch x4 x5 x6 x7, CI w l0 F0 acc2 ∧ (∀ p ∈ acc, ∃ a, acc2.lookup p.1 = some a) ∧ (ch = false → acc2 = acc ∧ ∀ p ∈ acc, p ∈ rest ∨ ∀ s ∈ stepsL w, GoodP w acc p s) ∧ (ch = true → mu (valsL w F0) (lotsW w) acc2 < mu (valsL w F0) (lotsW w) acc) ∧
    en = enC w g rs S.length ch x4 x5 x6 x7 ∧ S' = S ++ [.dT (dicT fr acc2)]) ?_ ?_ acc _ _ ⟨fun _ h => h, acc, false, x4, x5, x6, x7, hC, fun p hp => ⟨_, hlk p hp⟩, fun _ => ⟨rfl, fun p hp => .inl hp⟩, fun h => Bool.noConfusion h, rfl, rfl⟩
  · rintro en S' ⟨_, acc2, ch, x4, x5, x6, x7, h1, h2, h3, h4, rfl, rfl⟩
    unfold seqK
    refine ws_nil ?_
    cases ch with
    | false =>
      obtain ⟨k1, k2⟩ := h3 rfl
      subst k1
      exact hend ⟨hC.nd, hC.run, hC.e, hC.st, fun p hp s hs q hq => ((k2 p hp).resolve_left (by simp)) s hs q hq⟩ _ _ _ _
    | true => exact hmore acc2 h1 (h4 rfl) _ _ _ _
  · rintro p rest en S' ⟨hm, acc2, ch, x4, x5, x6, x7, h1, h2, h3, h4, rfl, rfl⟩
    refine ⟨enC w g rs S.length ch (some (.d (names p.1))) x5 x6 x7, rfl, ?_⟩
    have e2 := sp_all_steps (S ++ [.dT (dicT fr acc2)]) hw
    have hp := hm p List.mem_cons_self
    have hr : ∀ p ∈ rest, p ∈ acc := fun q hq => hm q (List.mem_cons_of_mem _ hq)
    obtain ⟨a, ha⟩ := h2 p hp
    refine ws_seq (ws_for (wi_iter (we_call (wl_cons (we_var (r := .d (eW w)) rfl (wl_nil (wf_of e2 ⟨_, rfl, _, items_lst, ?_⟩)))))))
    refine wn_cl1 (l := p.1) (F := a) (acc0 := acc) (g := g) (rs := rs) S hw ?_ acc2 ch ?_ x5 x6 x7 h1 ha h2 (fun hc => (h3 hc).1) h4
    · exact fun E en2 S2 h => hret E en2 S2 h
    · intro acc3 ch3 x5 x6 x7 j1 j2 j3 j4 j5
      refine seqK_nx (ws_nil ?_)
      refine ⟨hr, acc3, ch3, _, _, _, _, j1, j3, fun hc => ?_, j5, rfl, rfl⟩
      obtain ⟨k0, k1, k2⟩ := j4 hc
      obtain ⟨k3, k4⟩ := h3 k0
      refine ⟨k1, fun q hq => ?_⟩
      rcases k4 q hq with k5 | k5
      · rcases List.mem_cons.mp k5 with rfl | k5
        · right
          rw [k3] at ha
          have hqa := hlk q hq
          rw [ha] at hqa
          cases hqa
          exact k2
        · exact .inl k5
      · exact .inr k5
theorem wf_closed (S : Ss) {w : W} (hw : Made w) {g : Rat} {rs : Rows} {n : Nat} (hE : EOk w 0 (rnames rs) (front w g rs)) (hg : B 3900 g) (hr : ROk w n rs) (h0 : 0 < n) (hn : n ≤ 500) :
    WF f_closed [.d (eW w), .d (eSt g rs)] S fun r S' => ∃ o, r = .d (oT o) ∧ S' = S ∧ Clo w (slackB w) (rnames rs) (front w g rs) o := by
  have e1 := sp_aboard_of (S ++ [.dT []]) g rs
  have e2 := sp_front_of (S ++ [.dT []]) hw.ok hg hr h0 hn
  subst_eqs
  unfold c_closed
  refine ws_seq (ws_set (we_dispT ?_))
  sizeOf_list_dec
  refine ⟨rfl, _, rfl, ?_⟩
  sizeOf_list_dec
  refine ⟨rfl, _, rfl, ?_⟩
  sizeOf_list_dec
  refine ws_whileM (fun m en S' => ∃ acc ch x4 x5 x6 x7, CI w (rnames rs) (front w g rs) acc ∧ (ch = true → m = mu (valsL w (front w g rs)) (lotsW w) acc + 1) ∧ (ch = false → m = 0 ∧ Tab w (slackB w) (rnames rs) (front w g rs) acc) ∧ en = enC w g rs S.length ch x4 x5 x6 x7 ∧ S' = S ++ [.dT (dicT fr acc)]) ?_ 2000000 (mu (valsL w (front w g rs)) (lotsW w) [(rnames rs, front w g rs)] + 1) _ _ ?_ ⟨[(rnames rs, front w g rs)], true, none, none, none, none, CI.start hE, fun _ => rfl, fun h => Bool.noConfusion h, rfl, rfl⟩
  · rintro m en S' ⟨acc, ch, x4, x5, x6, x7, h1, h2, h3, rfl, rfl⟩
    refine wt_tst (we_var (r := .d (.bl ch)) rfl ⟨ch, rfl, fun hc => ?_, fun hc => ?_⟩)
    · obtain ⟨_, hT⟩ := h3 hc
      unfold enC
      refine seqK_nx (ws_seq (ws_ret (we_frzT' (S0 := S) rfl rfl ?_)))
      refine seqK_ret ⟨_, rfl, some acc, rfl, by simp, hT⟩
    · subst hc
      have hm := h2 rfl
      show WS c_cl2 _ _ _
      refine ws_cl2 S hw h1 x4 x5 x6 x7 ?_ ?_ ?_
      · rintro E en2 S2 ⟨acc2, rfl⟩
        refine seqK_ret ⟨_, rfl, none, rfl, by simp, E⟩
      · intro hT y4 y5 y6 y7
        exact ⟨0, by omega, acc, false, y4, y5, y6, y7, h1, fun h => Bool.noConfusion h, fun _ => ⟨rfl, hT⟩, rfl, rfl⟩
      · intro acc2 k1 k2 y4 y5 y6 y7
        exact ⟨_, by omega, acc2, true, y4, y5, y6, y7, k1, fun _ => rfl, fun h => Bool.noConfusion h, rfl, rfl⟩
  · have := CI.mu_lt (w := w) (F0 := front w g rs) (acc := [(rnames rs, front w g rs)]) hw
    omega
end OA
namespace OA
open PySem PySem.Spec PyProof.Rows L2
local macro_rules | `(tactic| subst_eqs) => `(tactic| first | refine wf_r0 (by simp only [List.map_cons, List.map_nil, List.length_cons, List.length_nil, List.replicate, List.cons_append, List.nil_append, Nat.reduceAdd, Nat.reduceSub]; rfl) ?_ | refine wf_r (by simp only [List.map_cons, List.map_nil, List.length_cons, List.length_nil, List.replicate, List.cons_append, List.nil_append, Nat.reduceAdd, Nat.reduceSub]; rfl) ?_)
local macro_rules | `(tactic| clean_wf) => `(tactic| try dsimp only [List.set_cons_zero, List.set_cons_succ])
local macro_rules | `(tactic| array_mem_dec) => `(tactic| first | with_reducible assumption | with_reducible exact st_zero | with_reducible exact st_one | with_reducible exact stp_zero | with_reducible exact stp_one | with_reducible exact fr_top | with_reducible exact fr_bot | with_reducible exact fAdd_int | with_reducible exact fSub_int | with_reducible exact fLt_int | with_reducible exact fGt_int | with_reducible exact fLe_int | with_reducible exact fGe_int | with_reducible exact fEq_int | with_reducible exact is_off _ | with_reducible exact is_on _ | with_reducible exact w_zero _ _ | with_reducible exact w_one _ _ | with_reducible exact w_two _ _ | with_reducible exact names_items _ | with_reducible exact rowsD_items _ | with_reducible exact fEq_fr | with_reducible exact fNe_fr | exact rfl)
local macro_rules | `(tactic| array_get_dec) => `(tactic| first | with_reducible apply we_K | ((with_reducible apply we_var); exact rfl) | with_reducible apply we_bin | with_reducible apply we_call | with_reducible apply wl_cons | with_reducible apply wl_nil | with_reducible apply ws_seq | with_reducible apply ws_set | ((with_reducible apply seqK_nx); clean_wf) | with_reducible apply seqK_ret | with_reducible apply ws_ret | with_reducible apply ws_if | with_reducible apply wt_tst | with_reducible apply ws_nil | with_reducible apply we_tup | with_reducible apply we_app | with_reducible apply we_if | with_reducible apply wt_and | with_reducible apply wt_or | with_reducible apply wt_not | with_reducible apply we_and | with_reducible apply we_or | with_reducible apply we_not | with_reducible apply ws_par | with_reducible apply ws_asg | with_reducible apply ws_expr | with_reducible apply ws_for | with_reducible apply we_lst | with_reducible apply wi_iter | with_reducible apply we_sl | with_reducible apply wo_no | with_reducible apply wo_part | with_reducible apply we_newL0b | with_reducible apply we_newL | with_reducible apply we_isi | with_reducible apply we_chain | ((with_reducible apply wf_of); focus (with_reducible assumption)) | with_reducible refine ⟨_, (by repeat (first | with_reducible exact dats_nil | with_reducible apply dats_cs)), by simp, ?_⟩ | with_reducible refine ⟨_, (by with_reducible assumption), ?_⟩ | with_reducible refine ⟨_, rfl, ?_⟩ | with_reducible refine ⟨_, (by array_mem_dec), ?_⟩ | ((with_reducible apply we_of); focus (with_reducible assumption)))
local macro_rules | `(tactic| sizeOf_list_dec) => `(tactic| repeat' (first | array_get_dec | with_reducible apply conj_T | with_reducible apply conj_F | with_reducible apply conj_T' | with_reducible apply conj_F' | with_reducible apply conj_nT | with_reducible apply conj_nF | with_reducible apply conj_nT' | with_reducible apply conj_nF' | (with_reducible apply conj_tf <;> intro _) | (with_reducible apply conj_ft <;> intro _)))
/-! ### closing, as the law does it -/
theorem sp_l_has_folk (S : Ss) {w : W} (hw : Made w) {d : Dt} {l : List Str} (hd : itemsOf d = some (l.map .str)) (hl : SOk l) : f_l_has_folk [.d (eW w), .d d] S = some (.d (.bl (folkIn w l)), S) := by
  have e1 := sp_folk S w
  rw [folkIn_eq]
  refine wf_eq ?_
  subst_eqs
  unfold c_l_has_folk
  array_get_dec
  array_get_dec
  array_get_dec
  refine we_compF Dt.str Dt.str (fun n => decide (n ∈ folk w)) l ?_
  sizeOf_list_dec
  refine ⟨rfl, fun n hn => ⟨_, rfl, ?_, fun _ => ?_⟩, ?_⟩
  · have f1 := fIn_lst (S := S) (hl n hn) hw.folk_ok
    sizeOf_list_dec
    exact ⟨rfl, rfl⟩
  · sizeOf_list_dec
    exact ⟨rfl, rfl⟩
  · have f2 := fNe_nil (S := S) (xs := l.filter fun n => decide (n ∈ folk w)) (fun x hx => hl x (List.mem_filter.mp hx).1)
    sizeOf_list_dec
    exact ⟨rfl, by simp⟩
theorem isN_bestD {S : Ss} {w : W} {lot : List Str} {F : Rat} {s : Stp} : fIsN S (.d (bestD w lot F s)) (.d .non) = some (.d (.bl (bestF w lot F s).isNone)) := by
  unfold bestD
  cases bestF w lot F s <;> rfl
theorem sp_l_slack (S : Ss) {w : W} {s : Stp} {lot : List Str} {F : Rat} (hw : Made w) (h : TOk w s) (hl : LotOk w lot) (hF : B 1800 F) :
    f_l_slack [.d (eW w), .d (names lot), .d (fr F), .d (eStp s)] S = some (.d (.bl (slackL w lot F s)), S) := by
  have hlk := hl.sok hw
  have hnl := nl_ok hw h
  have e0 : slV (eStp s) (some 1) none = some (names [s.n, s.l]) := sl_stp
  have e1 := sp_l_best S hw h hl hF
  have e2 := sp_l_nearest S hw h hl (hF.mono (m := 3700) (by decide))
  have e3 := sp_l_reach S hw h
  have hnB := nearL_B hw.ok hl hF s
  have e5 := sp_is_lesser S (hnB.mono (m := 4000) (by decide)) ((rc_B hw.ok s.n).mono (m := 4000) (by decide))
  have e6 := sp_is_lesser S (hnB.mono (m := 4000) (by decide)) (hF.mono (m := 4000) (by decide))
  rw [← l_less_eq] at e5 e6
  have e7 := sp_l_has_folk S hw (d := .lst ((othersL lot s).map .str)) (l := othersL lot s) rfl (fun x hx => hlk x (List.mem_filter.mp hx).1)
  have e8 := isN_bestD (S := S) (w := w) (lot := lot) (F := F) (s := s)
  unfold slackL
  refine wf_eq ?_
  subst_eqs
  unfold c_l_slack
  repeat' (first | refine we_compF Dt.str Dt.str (fun n => !decide (n ∈ s.mv)) lot ?_ | array_get_dec)
  refine ⟨rfl, fun n hn => ⟨_, rfl, ?_, fun _ => ?_⟩, ?_⟩
  · have f1 := fNotIn_tup (S := S) (hlk n hn) hnl
    rw [show decide (n ∈ [s.n, s.l]) = decide (n ∈ s.mv) from decide_eq_decide.mpr (mv_mem hw (hl.mem n hn))] at f1
    change fNotIn S (.d (.str n)) (.d (names [s.n, s.l])) = _ at f1
    sizeOf_list_dec
    exact ⟨rfl, rfl⟩
  · sizeOf_list_dec
    exact ⟨rfl, rfl⟩
  · change WS _ [_, _, _, _, some (R.d (.lst ((othersL lot s).map .str))), _, _] _ _
    cases hb : bestF w lot F s with
    | none =>
      rw [hb] at e8
      simp only [Option.isNone_none] at e8
      sizeOf_list_dec
      exact ⟨rfl, by simp⟩
    | some q =>
      rw [hb] at e8
      simp only [Option.isNone_some] at e8
      cases hf : folkIn w (othersL lot s) with
      | false =>
        rw [hf] at e7
        sizeOf_list_dec
        exact ⟨rfl, by simp⟩
      | true =>
        rw [hf] at e7
        sizeOf_list_dec
        · rename_i h1
          rw [h1]
          exact ⟨rfl, by simp⟩
        · rename_i h1
          rw [h1]
          exact ⟨rfl, by simp⟩
/-! two cells -/
/-- what is asked of a lot's steps, as the law has it -/
def GoodL (w : W) (acc : List (List Str × Rat)) (p : List Str × Rat) (s : Stp) : Prop := ∀ q, bestF w p.1 p.2 s = some q → Has id acc (lotF p.1 s) q ∧ slackL w p.1 p.2 s = false
theorem GoodL.put {w : W} {acc : List (List Str × Rat)} {p : List Str × Rat} {s : Stp} {k : List Str} {q : Rat} (h : GoodL w acc p s) (hlt : ∀ b, acc.lookup k = some b → q < b) : GoodL w (putL acc k q) p s := fun q' hq => by
  obtain ⟨a, b⟩ := h q' hq
  refine ⟨?_, b⟩
  have hst : stepE id acc k q = putL acc k q := by
    unfold stepE
    cases hc : acc.lookup k with
    | none => rfl
    | some b => exact if_pos (hlt b hc)
  rw [← hst]
  exact a.step
end OA
namespace OA
open PySem PySem.Spec PyProof.Rows L2
local macro_rules | `(tactic| subst_eqs) => `(tactic| first | refine wf_r0 (by simp only [List.map_cons, List.map_nil, List.length_cons, List.length_nil, List.replicate, List.cons_append, List.nil_append, Nat.reduceAdd, Nat.reduceSub]; rfl) ?_ | refine wf_r (by simp only [List.map_cons, List.map_nil, List.length_cons, List.length_nil, List.replicate, List.cons_append, List.nil_append, Nat.reduceAdd, Nat.reduceSub]; rfl) ?_)
local macro_rules | `(tactic| clean_wf) => `(tactic| try dsimp only [List.set_cons_zero, List.set_cons_succ])
local macro_rules | `(tactic| array_mem_dec) => `(tactic| first | with_reducible assumption | with_reducible exact st_zero | with_reducible exact st_one | with_reducible exact stp_zero | with_reducible exact stp_one | with_reducible exact fr_top | with_reducible exact fr_bot | with_reducible exact fAdd_int | with_reducible exact fSub_int | with_reducible exact fLt_int | with_reducible exact fGt_int | with_reducible exact fLe_int | with_reducible exact fGe_int | with_reducible exact fEq_int | with_reducible exact is_off _ | with_reducible exact is_on _ | with_reducible exact w_zero _ _ | with_reducible exact w_one _ _ | with_reducible exact w_two _ _ | with_reducible exact names_items _ | with_reducible exact rowsD_items _ | with_reducible exact fEq_fr | with_reducible exact fNe_fr | exact rfl)
local macro_rules | `(tactic| array_get_dec) => `(tactic| first | with_reducible apply we_K | ((with_reducible apply we_var); exact rfl) | with_reducible apply we_bin | with_reducible apply we_call | with_reducible apply wl_cons | with_reducible apply wl_nil | with_reducible apply ws_seq | with_reducible apply ws_set | ((with_reducible apply seqK_nx); clean_wf) | with_reducible apply seqK_ret | with_reducible apply ws_ret | with_reducible apply ws_if | with_reducible apply wt_tst | with_reducible apply ws_nil | with_reducible apply we_tup | with_reducible apply we_app | with_reducible apply we_if | with_reducible apply wt_and | with_reducible apply wt_or | with_reducible apply wt_not | with_reducible apply we_and | with_reducible apply we_or | with_reducible apply we_not | with_reducible apply ws_par | with_reducible apply ws_asg | with_reducible apply ws_expr | with_reducible apply ws_for | with_reducible apply we_lst | with_reducible apply wi_iter | with_reducible apply we_sl | with_reducible apply wo_no | with_reducible apply wo_part | with_reducible apply we_newL0b | with_reducible apply we_newL | with_reducible apply we_isi | with_reducible apply we_chain | ((with_reducible apply wf_of); focus (with_reducible assumption)) | with_reducible refine ⟨_, (by repeat (first | with_reducible exact dats_nil | with_reducible apply dats_cs)), by simp, ?_⟩ | with_reducible refine ⟨_, (by with_reducible assumption), ?_⟩ | with_reducible refine ⟨_, rfl, ?_⟩ | with_reducible refine ⟨_, (by array_mem_dec), ?_⟩ | ((with_reducible apply we_of); focus (with_reducible assumption)))
local macro_rules | `(tactic| sizeOf_list_dec) => `(tactic| repeat' (first | array_get_dec | with_reducible apply conj_T | with_reducible apply conj_F | with_reducible apply conj_T' | with_reducible apply conj_F' | with_reducible apply conj_nT | with_reducible apply conj_nF | with_reducible apply conj_nT' | with_reducible apply conj_nF' | (with_reducible apply conj_tf <;> intro _) | (with_reducible apply conj_ft <;> intro _)))
/-! ### what can ever be on board, told -/
end OA
namespace OA
open PySem PySem.Spec PyProof.Rows L2
local macro_rules | `(tactic| subst_eqs) => `(tactic| first | refine wf_r0 (by simp only [List.map_cons, List.map_nil, List.length_cons, List.length_nil, List.replicate, List.cons_append, List.nil_append, Nat.reduceAdd, Nat.reduceSub]; rfl) ?_ | refine wf_r (by simp only [List.map_cons, List.map_nil, List.length_cons, List.length_nil, List.replicate, List.cons_append, List.nil_append, Nat.reduceAdd, Nat.reduceSub]; rfl) ?_)
local macro_rules | `(tactic| clean_wf) => `(tactic| try dsimp only [List.set_cons_zero, List.set_cons_succ])
local macro_rules | `(tactic| array_mem_dec) => `(tactic| first | with_reducible assumption | with_reducible exact st_zero | with_reducible exact st_one | with_reducible exact stp_zero | with_reducible exact stp_one | with_reducible exact fr_top | with_reducible exact fr_bot | with_reducible exact fAdd_int | with_reducible exact fSub_int | with_reducible exact fLt_int | with_reducible exact fGt_int | with_reducible exact fLe_int | with_reducible exact fGe_int | with_reducible exact fEq_int | with_reducible exact is_off _ | with_reducible exact is_on _ | with_reducible exact w_zero _ _ | with_reducible exact w_one _ _ | with_reducible exact w_two _ _ | with_reducible exact names_items _ | with_reducible exact rowsD_items _ | with_reducible exact fEq_fr | with_reducible exact fNe_fr | exact rfl)
local macro_rules | `(tactic| array_get_dec) => `(tactic| first | with_reducible apply we_K | ((with_reducible apply we_var); exact rfl) | with_reducible apply we_bin | with_reducible apply we_call | with_reducible apply wl_cons | with_reducible apply wl_nil | with_reducible apply ws_seq | with_reducible apply ws_set | ((with_reducible apply seqK_nx); clean_wf) | with_reducible apply seqK_ret | with_reducible apply ws_ret | with_reducible apply ws_if | with_reducible apply wt_tst | with_reducible apply ws_nil | with_reducible apply we_tup | with_reducible apply we_app | with_reducible apply we_if | with_reducible apply wt_and | with_reducible apply wt_or | with_reducible apply wt_not | with_reducible apply we_and | with_reducible apply we_or | with_reducible apply we_not | with_reducible apply ws_par | with_reducible apply ws_asg | with_reducible apply ws_expr | with_reducible apply ws_for | with_reducible apply we_lst | with_reducible apply wi_iter | with_reducible apply we_sl | with_reducible apply wo_no | with_reducible apply wo_part | with_reducible apply we_newL0b | with_reducible apply we_newL | with_reducible apply we_isi | with_reducible apply we_chain | ((with_reducible apply wf_of); focus (with_reducible assumption)) | with_reducible refine ⟨_, (by repeat (first | with_reducible exact dats_nil | with_reducible apply dats_cs)), by simp, ?_⟩ | with_reducible refine ⟨_, (by with_reducible assumption), ?_⟩ | with_reducible refine ⟨_, rfl, ?_⟩ | with_reducible refine ⟨_, (by array_mem_dec), ?_⟩ | ((with_reducible apply we_of); focus (with_reducible assumption)))
local macro_rules | `(tactic| sizeOf_list_dec) => `(tactic| repeat' (first | array_get_dec | with_reducible apply conj_T | with_reducible apply conj_F | with_reducible apply conj_T' | with_reducible apply conj_F' | with_reducible apply conj_nT | with_reducible apply conj_nF | with_reducible apply conj_nT' | with_reducible apply conj_nF' | (with_reducible apply conj_tf <;> intro _) | (with_reducible apply conj_ft <;> intro _)))
theorem isN_oT {S : Ss} (o : Option (List (List Str × Rat))) : fIsN S (.d (oT o)) (.d .non) = some (.d (.bl o.isNone)) := by cases o <;> rfl
/-- a closed table's standing: what is asked of it -/
structure CK (w : W) (g : Rat) (rs : Rows) : Prop where
  e : EOk w 0 (rnames rs) (front w g rs)
  g : B 3900 g
  r : ROk w 250 rs
theorem NOkay.ck {w : W} {g : Rat} {rs : Rows} (hw : Made w) (h : NOkay w g rs) : CK w g rs := ⟨nokay_eok hw h, h.gB.mono (by decide), (h.rok hw.ok).mono (by decide)⟩
section
variable (S : Ss) {w : W} (hw : Made w) {g : Rat} {rs : Rows} (hk : CK w g rs)
include hw hk
theorem wf_clo : WF f_closed [.d (eW w), .d (eSt g rs)] S fun r S' => ∃ o, r = .d (oT o) ∧ S' = S ∧ Clo w (slackB w) (rnames rs) (front w g rs) o := wf_closed S hw hk.e hk.g hk.r (by decide) (by decide)
theorem wf_pulls : WF f_pulls [.d (eW w), .d (eSt g rs)] S fun r S' => ∃ o : Option (List (List Str × Rat)), r = .d (.bl (o.isNone || decide (front w g rs = 0))) ∧ S' = S ∧ Clo w (slackB w) (rnames rs) (front w g rs) o := by
  obtain ⟨r, S1, e1, o, rfl, rfl, hC⟩ := wf_clo S hw hk
  have e2 := isN_oT (S := S1) o
  have e3 := sp_front_of S1 hw.ok hk.g hk.r (by decide) (by decide)
  have e4 := fEq_fr (S := S1) (p := front w g rs) (q := 0)
  rw [← k_nought] at e4
  subst_eqs
  unfold c_pulls
  cases o with
  | none =>
    simp only [Option.isNone_none] at e2
    sizeOf_list_dec
    exact ⟨none, rfl, by simp, hC⟩
  | some acc =>
    simp only [Option.isNone_some] at e2
    sizeOf_list_dec
    exact ⟨some acc, by simp, by simp, hC⟩
end
end OA
namespace OA
open PySem PySem.Spec PyProof.Rows L2
local macro_rules | `(tactic| subst_eqs) => `(tactic| first | refine wf_r0 (by simp only [List.map_cons, List.map_nil, List.length_cons, List.length_nil, List.replicate, List.cons_append, List.nil_append, Nat.reduceAdd, Nat.reduceSub]; rfl) ?_ | refine wf_r (by simp only [List.map_cons, List.map_nil, List.length_cons, List.length_nil, List.replicate, List.cons_append, List.nil_append, Nat.reduceAdd, Nat.reduceSub]; rfl) ?_)
local macro_rules | `(tactic| clean_wf) => `(tactic| try dsimp only [List.set_cons_zero, List.set_cons_succ])
local macro_rules | `(tactic| array_mem_dec) => `(tactic| first | with_reducible assumption | with_reducible exact st_zero | with_reducible exact st_one | with_reducible exact stp_zero | with_reducible exact stp_one | with_reducible exact fr_top | with_reducible exact fr_bot | with_reducible exact fAdd_int | with_reducible exact fSub_int | with_reducible exact fLt_int | with_reducible exact fGt_int | with_reducible exact fLe_int | with_reducible exact fGe_int | with_reducible exact fEq_int | with_reducible exact is_off _ | with_reducible exact is_on _ | with_reducible exact w_zero _ _ | with_reducible exact w_one _ _ | with_reducible exact w_two _ _ | with_reducible exact names_items _ | with_reducible exact rowsD_items _ | with_reducible exact fEq_fr | with_reducible exact fNe_fr | exact rfl)
local macro_rules | `(tactic| array_get_dec) => `(tactic| first | with_reducible apply we_K | ((with_reducible apply we_var); exact rfl) | with_reducible apply we_bin | with_reducible apply we_call | with_reducible apply wl_cons | with_reducible apply wl_nil | with_reducible apply ws_seq | with_reducible apply ws_set | ((with_reducible apply seqK_nx); clean_wf) | with_reducible apply seqK_ret | with_reducible apply ws_ret | with_reducible apply ws_if | with_reducible apply wt_tst | with_reducible apply ws_nil | with_reducible apply we_tup | with_reducible apply we_app | with_reducible apply we_if | with_reducible apply wt_and | with_reducible apply wt_or | with_reducible apply wt_not | with_reducible apply we_and | with_reducible apply we_or | with_reducible apply we_not | with_reducible apply ws_par | with_reducible apply ws_asg | with_reducible apply ws_expr | with_reducible apply ws_for | with_reducible apply we_lst | with_reducible apply wi_iter | with_reducible apply we_sl | with_reducible apply wo_no | with_reducible apply wo_part | with_reducible apply we_newL0b | with_reducible apply we_newL | with_reducible apply we_isi | with_reducible apply we_chain | ((with_reducible apply wf_of); focus (with_reducible assumption)) | with_reducible refine ⟨_, (by repeat (first | with_reducible exact dats_nil | with_reducible apply dats_cs)), by simp, ?_⟩ | with_reducible refine ⟨_, (by with_reducible assumption), ?_⟩ | with_reducible refine ⟨_, rfl, ?_⟩ | with_reducible refine ⟨_, (by array_mem_dec), ?_⟩ | ((with_reducible apply we_of); focus (with_reducible assumption)))
local macro_rules | `(tactic| sizeOf_list_dec) => `(tactic| repeat' (first | array_get_dec | with_reducible apply conj_T | with_reducible apply conj_F | with_reducible apply conj_T' | with_reducible apply conj_F' | with_reducible apply conj_nT | with_reducible apply conj_nF | with_reducible apply conj_nT' | with_reducible apply conj_nF' | (with_reducible apply conj_tf <;> intro _) | (with_reducible apply conj_ft <;> intro _)))
/-! ### what can ever be on board, as the law has it -/
/-! ### both find the same -/
end OA
namespace OA
open PySem PySem.Spec PyProof.Rows L2
local macro_rules | `(tactic| subst_eqs) => `(tactic| first | refine wf_r0 (by simp only [List.map_cons, List.map_nil, List.length_cons, List.length_nil, List.replicate, List.cons_append, List.nil_append, Nat.reduceAdd, Nat.reduceSub]; rfl) ?_ | refine wf_r (by simp only [List.map_cons, List.map_nil, List.length_cons, List.length_nil, List.replicate, List.cons_append, List.nil_append, Nat.reduceAdd, Nat.reduceSub]; rfl) ?_)
local macro_rules | `(tactic| clean_wf) => `(tactic| try dsimp only [List.set_cons_zero, List.set_cons_succ])
local macro_rules | `(tactic| array_mem_dec) => `(tactic| first | with_reducible assumption | with_reducible exact st_zero | with_reducible exact st_one | with_reducible exact stp_zero | with_reducible exact stp_one | with_reducible exact fr_top | with_reducible exact fr_bot | with_reducible exact fAdd_int | with_reducible exact fSub_int | with_reducible exact fLt_int | with_reducible exact fGt_int | with_reducible exact fLe_int | with_reducible exact fGe_int | with_reducible exact fEq_int | with_reducible exact is_off _ | with_reducible exact is_on _ | with_reducible exact w_zero _ _ | with_reducible exact w_one _ _ | with_reducible exact w_two _ _ | with_reducible exact names_items _ | with_reducible exact rowsD_items _ | with_reducible exact fEq_fr | with_reducible exact fNe_fr | exact rfl)
local macro_rules | `(tactic| array_get_dec) => `(tactic| first | with_reducible apply we_K | ((with_reducible apply we_var); exact rfl) | with_reducible apply we_bin | with_reducible apply we_call | with_reducible apply wl_cons | with_reducible apply wl_nil | with_reducible apply ws_seq | with_reducible apply ws_set | ((with_reducible apply seqK_nx); clean_wf) | with_reducible apply seqK_ret | with_reducible apply ws_ret | with_reducible apply ws_if | with_reducible apply wt_tst | with_reducible apply ws_nil | with_reducible apply we_tup | with_reducible apply we_app | with_reducible apply we_if | with_reducible apply wt_and | with_reducible apply wt_or | with_reducible apply wt_not | with_reducible apply we_and | with_reducible apply we_or | with_reducible apply we_not | with_reducible apply ws_par | with_reducible apply ws_asg | with_reducible apply ws_expr | with_reducible apply ws_for | with_reducible apply we_lst | with_reducible apply wi_iter | with_reducible apply we_sl | with_reducible apply wo_no | with_reducible apply wo_part | with_reducible apply we_newL0b | with_reducible apply we_newL | with_reducible apply we_isi | with_reducible apply we_chain | ((with_reducible apply wf_of); focus (with_reducible assumption)) | with_reducible refine ⟨_, (by repeat (first | with_reducible exact dats_nil | with_reducible apply dats_cs)), by simp, ?_⟩ | with_reducible refine ⟨_, (by with_reducible assumption), ?_⟩ | with_reducible refine ⟨_, rfl, ?_⟩ | with_reducible refine ⟨_, (by array_mem_dec), ?_⟩ | ((with_reducible apply we_of); focus (with_reducible assumption)))
local macro_rules | `(tactic| sizeOf_list_dec) => `(tactic| repeat' (first | array_get_dec | with_reducible apply conj_T | with_reducible apply conj_F | with_reducible apply conj_T' | with_reducible apply conj_F' | with_reducible apply conj_nT | with_reducible apply conj_nF | with_reducible apply conj_nT' | with_reducible apply conj_nF' | (with_reducible apply conj_tf <;> intro _) | (with_reducible apply conj_ft <;> intro _)))
/-! ### a table that is closed, of one's own -/
structure Cld (w : W) (l0 : List Str) (F0 : Rat) (acc : List (List Str × Rat)) : Prop where
  e : ∀ p ∈ acc, LOk w p.1 ∧ 0 ≤ p.2 ∧ (0 < F0 → 0 < p.2) ∧ (F0 = 0 → p.2 = 0)
  st : Has id acc l0 F0
  cl : ∀ p ∈ acc, ∀ s ∈ stepsL w, ∀ q, bestF w p.1 p.2 s = some q → Has id acc (lotF p.1 s) q ∧ slackB w p.1 p.2 s = false
section
variable {w : W} {l0 : List Str} {F0 : Rat} {acc : List (List Str × Rat)}
theorem Cld.has (hw : Made w) (T : Cld w l0 F0 acc) : ∀ (ss : List Stp) (l : List Str) (F : Rat) (p : List Str × Rat), (∀ s ∈ ss, s ∈ stepsL w) → Has id acc l F → runP w l F ss = some p → Has id acc p.1 p.2
  | [], l, F, p, _, hH, h => by cases h; exact hH
  | s :: ss, l, F, p, hs, hH, h => by
    obtain ⟨q, hb, hr⟩ := runP_cons h
    obtain ⟨a, ea, ha⟩ := hH
    have hm := lookup_mem ea
    have he := T.e _ hm
    have hs1 := hs s List.mem_cons_self
    obtain ⟨q1, e1, e2⟩ := bestF_mono hw (stepsL_ok hs1) (he.1.ok hw.ok) he.2.1 ha hb
    exact Cld.has hw T ss _ _ p (fun s hs' => hs s (List.mem_cons_of_mem _ hs')) ((T.cl _ hm s hs1 q1 e1).1.up e2) hr
end
def lokB (w : W) (l : List Str) : Bool := l.isSublist (isortS w.names) && canLie w l
theorem lokB_ok {w : W} {l : List Str} (h : lokB w l = true) : LOk w l := by
  unfold lokB at h
  rw [Bool.and_eq_true] at h
  exact ⟨List.isSublist_iff_sublist.mp h.1, h.2⟩
/-! worlds as written -/
def madeB (w : W) : Bool := decide (w.lg ≤ 500) && (decide (1 ≤ w.rh) && (decide (w.rh ≤ 100) && (w.all.all (fun p => decide (1 ≤ p.2) && decide (p.2 ≤ 60)) && (w.folk.all (fun o => decide (1 ≤ o.rc) && decide (o.rc ≤ 30)) && (w.folk.all (fun o => decide (o.ar ≤ 60)) && (decide (w.folk.length ≤ 4) && (decide (w.loads.length ≤ 2) &&
  (decide w.names.Nodup && (!w.folk.isEmpty && w.names.all goodN)))))))))
theorem madeB_ok {w : W} (h : madeB w = true) : Made w := by
  unfold madeB at h
  simp only [Bool.and_eq_true, decide_eq_true_eq, List.all_eq_true] at h
  obtain ⟨h1, h2, h3, h4, h5, h6, h7, h8, h9, h10, h11⟩ := h
  exact ⟨⟨h1, h2, h3, h4, h5, h6, h7, h8, h9⟩, (fun e => by rw [e] at h10; cases h10), h11⟩
theorem q4_zero : Q4 0 := IntD.zero
theorem in_zero (w : W) : In w 0 := ⟨Rat.le_refl, natR_nonneg _⟩
/-- all at the front -/
theorem nokay_zr {w : W} {lot : List Str} {g : Rat} (h : lokB w lot = true) (h0 : 0 ≤ g) (h1 : g ≤ ((531 : Nat) : Rat)) {D : Nat} (h2 : 0 < D) (h3 : D < 2 ^ 14) (h4 : IntD D g) : NOkay w g (zr lot) := by
  refine ⟨h0, h1, ⟨D, h2, h3, h4⟩, by rw [zr_names]; exact lokB_ok h, fun r hr => ?_⟩
  obtain ⟨n, _, rfl⟩ := List.mem_map.mp hr
  exact ⟨in_zero w, q4_zero⟩
theorem front_zr {w : W} {lot : List Str} {g : Rat} : front w g (zr lot) = g := by
  unfold front pull
  rw [drive_zr, Rat.div_def, Rat.zero_mul, Rat.add_zero]
end OA
namespace OA
open PySem PySem.Spec PyProof.Rows L2
local macro_rules | `(tactic| subst_eqs) => `(tactic| first | refine wf_r0 (by simp only [List.map_cons, List.map_nil, List.length_cons, List.length_nil, List.replicate, List.cons_append, List.nil_append, Nat.reduceAdd, Nat.reduceSub]; rfl) ?_ | refine wf_r (by simp only [List.map_cons, List.map_nil, List.length_cons, List.length_nil, List.replicate, List.cons_append, List.nil_append, Nat.reduceAdd, Nat.reduceSub]; rfl) ?_)
local macro_rules | `(tactic| clean_wf) => `(tactic| try dsimp only [List.set_cons_zero, List.set_cons_succ])
local macro_rules | `(tactic| array_mem_dec) => `(tactic| first | with_reducible assumption | with_reducible exact st_zero | with_reducible exact st_one | with_reducible exact stp_zero | with_reducible exact stp_one | with_reducible exact fr_top | with_reducible exact fr_bot | with_reducible exact fAdd_int | with_reducible exact fSub_int | with_reducible exact fLt_int | with_reducible exact fGt_int | with_reducible exact fLe_int | with_reducible exact fGe_int | with_reducible exact fEq_int | with_reducible exact is_off _ | with_reducible exact is_on _ | with_reducible exact w_zero _ _ | with_reducible exact w_one _ _ | with_reducible exact w_two _ _ | with_reducible exact names_items _ | with_reducible exact rowsD_items _ | with_reducible exact fEq_fr | with_reducible exact fNe_fr | exact rfl)
local macro_rules | `(tactic| array_get_dec) => `(tactic| first | with_reducible apply we_K | ((with_reducible apply we_var); exact rfl) | with_reducible apply we_bin | with_reducible apply we_call | with_reducible apply wl_cons | with_reducible apply wl_nil | with_reducible apply ws_seq | with_reducible apply ws_set | ((with_reducible apply seqK_nx); clean_wf) | with_reducible apply seqK_ret | with_reducible apply ws_ret | with_reducible apply ws_if | with_reducible apply wt_tst | with_reducible apply ws_nil | with_reducible apply we_tup | with_reducible apply we_app | with_reducible apply we_if | with_reducible apply wt_and | with_reducible apply wt_or | with_reducible apply wt_not | with_reducible apply we_and | with_reducible apply we_or | with_reducible apply we_not | with_reducible apply ws_par | with_reducible apply ws_asg | with_reducible apply ws_expr | with_reducible apply ws_for | with_reducible apply we_lst | with_reducible apply wi_iter | with_reducible apply we_sl | with_reducible apply wo_no | with_reducible apply wo_part | with_reducible apply we_newL0b | with_reducible apply we_newL | with_reducible apply we_isi | with_reducible apply we_chain | ((with_reducible apply wf_of); focus (with_reducible assumption)) | with_reducible refine ⟨_, (by repeat (first | with_reducible exact dats_nil | with_reducible apply dats_cs)), by simp, ?_⟩ | with_reducible refine ⟨_, (by with_reducible assumption), ?_⟩ | with_reducible refine ⟨_, rfl, ?_⟩ | with_reducible refine ⟨_, (by array_mem_dec), ?_⟩ | ((with_reducible apply we_of); focus (with_reducible assumption)))
local macro_rules | `(tactic| sizeOf_list_dec) => `(tactic| repeat' (first | array_get_dec | with_reducible apply conj_T | with_reducible apply conj_F | with_reducible apply conj_T' | with_reducible apply conj_F' | with_reducible apply conj_nT | with_reducible apply conj_nF | with_reducible apply conj_nT' | with_reducible apply conj_nF' | (with_reducible apply conj_tf <;> intro _) | (with_reducible apply conj_ft <;> intro _)))
/-! ### the raft's number -/
end OA
namespace OA
open PySem PySem.Spec PyProof.Rows L2
local macro_rules | `(tactic| subst_eqs) => `(tactic| first | refine wf_r0 (by simp only [List.map_cons, List.map_nil, List.length_cons, List.length_nil, List.replicate, List.cons_append, List.nil_append, Nat.reduceAdd, Nat.reduceSub]; rfl) ?_ | refine wf_r (by simp only [List.map_cons, List.map_nil, List.length_cons, List.length_nil, List.replicate, List.cons_append, List.nil_append, Nat.reduceAdd, Nat.reduceSub]; rfl) ?_)
local macro_rules | `(tactic| clean_wf) => `(tactic| try dsimp only [List.set_cons_zero, List.set_cons_succ])
local macro_rules | `(tactic| array_mem_dec) => `(tactic| first | with_reducible assumption | with_reducible exact st_zero | with_reducible exact st_one | with_reducible exact stp_zero | with_reducible exact stp_one | with_reducible exact fr_top | with_reducible exact fr_bot | with_reducible exact fAdd_int | with_reducible exact fSub_int | with_reducible exact fLt_int | with_reducible exact fGt_int | with_reducible exact fLe_int | with_reducible exact fGe_int | with_reducible exact fEq_int | with_reducible exact is_off _ | with_reducible exact is_on _ | with_reducible exact w_zero _ _ | with_reducible exact w_one _ _ | with_reducible exact w_two _ _ | with_reducible exact names_items _ | with_reducible exact rowsD_items _ | with_reducible exact fEq_fr | with_reducible exact fNe_fr | exact rfl)
local macro_rules | `(tactic| array_get_dec) => `(tactic| first | with_reducible apply we_K | ((with_reducible apply we_var); exact rfl) | with_reducible apply we_bin | with_reducible apply we_call | with_reducible apply wl_cons | with_reducible apply wl_nil | with_reducible apply ws_seq | with_reducible apply ws_set | ((with_reducible apply seqK_nx); clean_wf) | with_reducible apply seqK_ret | with_reducible apply ws_ret | with_reducible apply ws_if | with_reducible apply wt_tst | with_reducible apply ws_nil | with_reducible apply we_tup | with_reducible apply we_app | with_reducible apply we_if | with_reducible apply wt_and | with_reducible apply wt_or | with_reducible apply wt_not | with_reducible apply we_and | with_reducible apply we_or | with_reducible apply we_not | with_reducible apply ws_par | with_reducible apply ws_asg | with_reducible apply ws_expr | with_reducible apply ws_for | with_reducible apply we_lst | with_reducible apply wi_iter | with_reducible apply we_sl | with_reducible apply wo_no | with_reducible apply wo_part | with_reducible apply we_newL0b | with_reducible apply we_newL | with_reducible apply we_isi | with_reducible apply we_chain | ((with_reducible apply wf_of); focus (with_reducible assumption)) | with_reducible refine ⟨_, (by repeat (first | with_reducible exact dats_nil | with_reducible apply dats_cs)), by simp, ?_⟩ | with_reducible refine ⟨_, (by with_reducible assumption), ?_⟩ | with_reducible refine ⟨_, rfl, ?_⟩ | with_reducible refine ⟨_, (by array_mem_dec), ?_⟩ | ((with_reducible apply we_of); focus (with_reducible assumption)))
local macro_rules | `(tactic| sizeOf_list_dec) => `(tactic| repeat' (first | array_get_dec | with_reducible apply conj_T | with_reducible apply conj_F | with_reducible apply conj_T' | with_reducible apply conj_F' | with_reducible apply conj_nT | with_reducible apply conj_nF | with_reducible apply conj_nT' | with_reducible apply conj_nF' | (with_reducible apply conj_tf <;> intro _) | (with_reducible apply conj_ft <;> intro _)))
/-! ### a step by the told rows -/
theorem sp_taken (f : Fn) (hf : f = runF 4 false (sCons (sSet 3 (cCall f_rows_for (cCons (cVar 0) (cCons (cVar 1) (cCons (cVar 2) cNil))))) (sCons (sRet (cCall f_stepped (cCons (cVar 0) (cCons (cTup (cCons (cCall f_gap_behind (cCons (cVar 0) (cCons (cVar 1) (cCons (cVar 3) cNil)))) (cCons (cVar 3) cNil))) (cCons (cVar 2) cNil))))) sNil)))
    (S : Ss) {w : W} {g : Rat} {rs : Rows} {s : Stp} {q : Rat} {t : Nat} (hw : Made w) (h : TOk w s) (ht : t ≤ 11) (hE : EOk w t (rnames rs) (front w g rs)) (hg : B 500 g) (hr : ROk w 261 rs) (hq : bestF w (rnames rs) (front w g rs) s = some q) :
    ∃ g' rs', f [.d (eW w), .d (eSt g rs), .d (eStp s)] S = some (.d (eSt g' rs'), S) ∧ rnames rs' = lotF (rnames rs) s ∧ front w g' rs' = q ∧ B 500 g' ∧ ROk w 261 rs' ∧ EOk w (t + 1) (rnames rs') (front w g' rs') := by
  subst hf
  rw [bestF_eq] at hq
  obtain ⟨x, hx, rfl⟩ := Option.map_eq_some_iff.mp hq
  obtain ⟨rs', k1, k2, k3, k4, k5, k6, k7, k8, k9⟩ := way_step hw h ht hE hx
  have hFB : B 350 (front w g rs) := hE.B.mono (by omega)
  have e1 := sp_rows_forG S hw h (hg.mono (m := 1000) (by decide)) (hr.mono (m := 300) (by decide)) (hFB.mono (m := 1700) (by decide)) hx
  have e2 := sp_gap_behind S hw.ok (d := rowsD (rowsB w (rnames rs) (front w g rs) s x)) (rowsD_items _) hg hr k8 (by decide) (by decide)
  rw [k4, show nn x = fr x from if_neg k5] at e2
  have hnm : rnames (rowsB w (rnames rs) (front w g rs) s x) = rnames rs := rowsB_names _ _ _ _ _
  have hlot := hE.lot.ok hw.ok
  have e3 := sp_stepped S hw h (g := x) (d := rowsD (rowsB w (rnames rs) (front w g rs) s x)) (k6.mono (m := 4000) (by decide)) (SD.rows _) (by rw [hnm]; exact hlot.sok hw) (by rw [hnm]; exact hlot.nd) (by
    have := congrArg List.length hnm
    rw [rnames, List.length_map] at this
    have := hlot.len
    omega)
  rw [k1] at e3
  change f_stepped _ _ = some (.d (eSt x rs'), S) at e3
  refine ⟨x, rs', ?_, k2, k3, k6.mono (by decide), k7, ?_⟩
  · refine wf_eq ?_
    subst_eqs
    sizeOf_list_dec
    exact ⟨rfl, by simp⟩
  · rw [k2, k3]
    exact bestF_ok hw h hE (by rw [bestF_eq, hx]; rfl)
theorem l_taken_eq : f_l_taken_best = runF 4 false (sCons (sSet 3 (cCall f_rows_for (cCons (cVar 0) (cCons (cVar 1) (cCons (cVar 2) cNil))))) (sCons (sRet (cCall f_stepped (cCons (cVar 0) (cCons (cTup (cCons (cCall f_gap_behind (cCons (cVar 0) (cCons (cVar 1) (cCons (cVar 3) cNil)))) (cCons (cVar 3) cNil))) (cCons (cVar 2) cNil))))) sNil)) := rfl
/-! ### steps among steps -/
def stpL (s : Stp) : List Str := [s.way, s.n, s.l]
/-! ### all step off, where the front is near -/
end OA
namespace OA
open PySem PySem.Spec PyProof.Rows L2
local macro_rules | `(tactic| subst_eqs) => `(tactic| first | refine wf_r0 (by simp only [List.map_cons, List.map_nil, List.length_cons, List.length_nil, List.replicate, List.cons_append, List.nil_append, Nat.reduceAdd, Nat.reduceSub]; rfl) ?_ | refine wf_r (by simp only [List.map_cons, List.map_nil, List.length_cons, List.length_nil, List.replicate, List.cons_append, List.nil_append, Nat.reduceAdd, Nat.reduceSub]; rfl) ?_)
local macro_rules | `(tactic| clean_wf) => `(tactic| try dsimp only [List.set_cons_zero, List.set_cons_succ])
local macro_rules | `(tactic| array_mem_dec) => `(tactic| first | with_reducible assumption | with_reducible exact st_zero | with_reducible exact st_one | with_reducible exact stp_zero | with_reducible exact stp_one | with_reducible exact fr_top | with_reducible exact fr_bot | with_reducible exact fAdd_int | with_reducible exact fSub_int | with_reducible exact fLt_int | with_reducible exact fGt_int | with_reducible exact fLe_int | with_reducible exact fGe_int | with_reducible exact fEq_int | with_reducible exact is_off _ | with_reducible exact is_on _ | with_reducible exact w_zero _ _ | with_reducible exact w_one _ _ | with_reducible exact w_two _ _ | with_reducible exact names_items _ | with_reducible exact rowsD_items _ | with_reducible exact fEq_fr | with_reducible exact fNe_fr | exact rfl)
local macro_rules | `(tactic| array_get_dec) => `(tactic| first | with_reducible apply we_K | ((with_reducible apply we_var); exact rfl) | with_reducible apply we_bin | with_reducible apply we_call | with_reducible apply wl_cons | with_reducible apply wl_nil | with_reducible apply ws_seq | with_reducible apply ws_set | ((with_reducible apply seqK_nx); clean_wf) | with_reducible apply seqK_ret | with_reducible apply ws_ret | with_reducible apply ws_if | with_reducible apply wt_tst | with_reducible apply ws_nil | with_reducible apply we_tup | with_reducible apply we_app | with_reducible apply we_if | with_reducible apply wt_and | with_reducible apply wt_or | with_reducible apply wt_not | with_reducible apply we_and | with_reducible apply we_or | with_reducible apply we_not | with_reducible apply ws_par | with_reducible apply ws_asg | with_reducible apply ws_expr | with_reducible apply ws_for | with_reducible apply we_lst | with_reducible apply wi_iter | with_reducible apply we_sl | with_reducible apply wo_no | with_reducible apply wo_part | with_reducible apply we_newL0b | with_reducible apply we_newL | with_reducible apply we_isi | with_reducible apply we_chain | ((with_reducible apply wf_of); focus (with_reducible assumption)) | with_reducible refine ⟨_, (by repeat (first | with_reducible exact dats_nil | with_reducible apply dats_cs)), by simp, ?_⟩ | with_reducible refine ⟨_, (by with_reducible assumption), ?_⟩ | with_reducible refine ⟨_, rfl, ?_⟩ | with_reducible refine ⟨_, (by array_mem_dec), ?_⟩ | ((with_reducible apply we_of); focus (with_reducible assumption)))
local macro_rules | `(tactic| sizeOf_list_dec) => `(tactic| repeat' (first | array_get_dec | with_reducible apply conj_T | with_reducible apply conj_F | with_reducible apply conj_T' | with_reducible apply conj_F' | with_reducible apply conj_nT | with_reducible apply conj_nF | with_reducible apply conj_nT' | with_reducible apply conj_nF' | (with_reducible apply conj_tf <;> intro _) | (with_reducible apply conj_ft <;> intro _)))
/-! ### a world that is better off -/
structure LeW (w v : W) : Prop where
  all : v.all = w.all
  fo : folk v = folk w
  lo : v.loads = w.loads
  rh : v.rh = w.rh
  lg : w.lg ≤ v.lg
  rc : ∀ n ∈ folk w, rcOf w n ≤ rcOf v n
  ar : ∀ o ∈ w.folk, ∃ p ∈ v.folk, p.nm = o.nm ∧ o.ar ≤ p.ar
theorem bestF_nn {w : W} (hw : Made w) {l : List Str} {F q : Rat} {s : Stp} (ht : TOk w s) (hl : LotOk w l) (hF : 0 ≤ F) (hq : bestF w l F s = some q) : 0 ≤ q := by
  rcases Rat.le_iff_lt_or_eq.mp hF with h | h
  · exact Rat.le_of_lt (bestF_pos hw ht hl h hq)
  · rw [← h] at hq
    rw [bestF_zero hw ht hl hq]
    exact Rat.le_refl
section
variable {w v : W} (L : LeW w v)
include L
theorem LeW.names : v.names = w.names := by unfold W.names; rw [L.all]
theorem LeW.wt (n : Str) : OA.wt v n = OA.wt w n := by unfold OA.wt; rw [L.all]
theorem LeW.weight (l : List Str) : OA.weight v l = OA.weight w l := by
  unfold OA.weight
  exact congrArg _ (List.map_congr_left fun n _ => L.wt n)
theorem LeW.whole (l : List Str) : OA.whole v l = OA.whole w l := by unfold OA.whole; rw [L.rh, L.weight]
theorem LeW.can (l : List Str) : canLie v l = canLie w l := by unfold canLie; rw [L.fo]
theorem LeW.lotB (l : List Str) (s : Stp) : OA.lotB v l s = OA.lotB w l s := by unfold OA.lotB; rw [L.can]
theorem LeW.lotok {l : List Str} (h : LotOk w l) : LotOk v l := ⟨fun n hn => by rw [L.names]; exact h.mem n hn, h.len, h.nd⟩
theorem LeW.step {s : Stp} (h : s ∈ stepsL w) : s ∈ stepsL v := by
  obtain ⟨o, ho, e1, e2⟩ := stepsL_inv h
  obtain ⟨p, hp, p1, p2⟩ := L.ar o ho
  rcases e2 with e2 | ⟨b, hb, b1, b2⟩
  · have := stepsL_one hp s.off
    rwa [p1, e1, ← e2] at this
  · have := stepsL_two hp (by rw [L.lo]; exact hb) (Nat.le_trans b2 p2) s.off
    rwa [p1, e1, b1] at this
theorem LeW.beh (l : List Str) (F : Rat) (s : Stp) (x : Rat) : behG v l F s x = behG w l F s x := by unfold behG; rw [L.whole, L.weight]
theorem LeW.raw (hw : Made w) (l : List Str) (F : Rat) (s : Stp) : OA.raw v l F s ≤ OA.raw w l F s := by
  unfold OA.raw
  rw [L.whole, L.weight]
  have h1 := Rat.mul_le_mul_of_nonneg_right (natR_le L.lg) (natR_nonneg (OA.weight w (stillP l s)))
  have h2 := div_le_div (wholeR_pos hw.ok l) h1
  grind
theorem LeW.best (hw : Made w) (hv : Made v) {l : List Str} {F q : Rat} {s : Stp} (hs : s ∈ stepsL w) (hl : LotOk w l) (hF : 0 ≤ F) (hq : bestF w l F s = some q) : ∃ q2, bestF v l F s = some q2 ∧ q2 ≤ q := by
  have ht := stepsL_ok hs
  rw [bestF_eq] at hq
  obtain ⟨x, hx, rfl⟩ := Option.map_eq_some_iff.mp hq
  obtain ⟨hb, hg⟩ := bestG_ok hw ht hl hF hx
  have hG : GOk v l F s x := ⟨Rat.le_trans (L.raw hw l F s) hg.raw, Rat.le_trans hg.rc (natR_le (L.rc _ ht.n)), hg.le, hg.g0⟩
  obtain ⟨q2, e1, e2⟩ := behG_best hv (stepsL_ok (L.step hs)) (L.lotok hl) hF (by rw [L.lotB]; exact hb) hG
  exact ⟨q2, e1, by rw [← L.beh]; exact e2⟩
theorem LeW.best2 (hw : Made w) (hv : Made v) {l : List Str} {F F2 q : Rat} {s : Stp} (hs : s ∈ stepsL w) (hl : LotOk w l) (h0 : 0 ≤ F2) (hle : F2 ≤ F) (hq : bestF w l F s = some q) : ∃ q2, bestF v l F2 s = some q2 ∧ q2 ≤ q := by
  obtain ⟨q1, e1, e2⟩ := bestF_mono hw (stepsL_ok hs) hl h0 hle hq
  obtain ⟨q2, e3, e4⟩ := L.best hw hv hs hl h0 e1
  exact ⟨q2, e3, Rat.le_trans e4 e2⟩
theorem LeW.run (hw : Made w) (hv : Made v) : ∀ (ss : List Stp) (l : List Str) (F F2 : Rat) (p : List Str × Rat), (∀ s ∈ ss, s ∈ stepsL w) → LOk w l → 0 ≤ F2 → F2 ≤ F → runP w l F ss = some p → ∃ q, runP v l F2 ss = some (p.1, q) ∧ q ≤ p.2
  | [], l, F, F2, p, _, _, _, hle, h => by cases h; exact ⟨F2, rfl, hle⟩
  | s :: ss, l, F, F2, p, hs, hl, h0, hle, h => by
    obtain ⟨q, hb, hr⟩ := runP_cons h
    have hs1 := hs s List.mem_cons_self
    have ht := stepsL_ok hs1
    obtain ⟨q2, e1, e2⟩ := L.best2 hw hv hs1 (hl.ok hw.ok) h0 hle hb
    have hq0 := bestF_nn hv (stepsL_ok (L.step hs1)) (L.lotok (hl.ok hw.ok)) h0 e1
    obtain ⟨q3, e3, e4⟩ := LeW.run hw hv ss _ _ _ p (fun s hs' => hs s (List.mem_cons_of_mem _ hs')) (lotF_sub hw ht hl (bestF_lotB hb)) hq0 e2 hr
    refine ⟨q3, ?_, e4⟩
    unfold runP
    rw [e1]
    exact e3
theorem LeW.front (g : Rat) (rs : Rows) : OA.front v g rs = OA.front w g rs := by
  have hd : ∀ rs : Rows, drive v rs = drive w rs := by
    intro rs
    induction rs with
    | nil => rfl
    | cons r rs ih => unfold drive; rw [ih, L.wt]
  unfold OA.front pull
  rw [hd, L.whole]
end
end OA
namespace OA
open PySem PySem.Spec PyProof.Rows L2
local macro_rules | `(tactic| subst_eqs) => `(tactic| first | refine wf_r0 (by simp only [List.map_cons, List.map_nil, List.length_cons, List.length_nil, List.replicate, List.cons_append, List.nil_append, Nat.reduceAdd, Nat.reduceSub]; rfl) ?_ | refine wf_r (by simp only [List.map_cons, List.map_nil, List.length_cons, List.length_nil, List.replicate, List.cons_append, List.nil_append, Nat.reduceAdd, Nat.reduceSub]; rfl) ?_)
local macro_rules | `(tactic| clean_wf) => `(tactic| try dsimp only [List.set_cons_zero, List.set_cons_succ])
local macro_rules | `(tactic| array_mem_dec) => `(tactic| first | with_reducible assumption | with_reducible exact st_zero | with_reducible exact st_one | with_reducible exact stp_zero | with_reducible exact stp_one | with_reducible exact fr_top | with_reducible exact fr_bot | with_reducible exact fAdd_int | with_reducible exact fSub_int | with_reducible exact fLt_int | with_reducible exact fGt_int | with_reducible exact fLe_int | with_reducible exact fGe_int | with_reducible exact fEq_int | with_reducible exact is_off _ | with_reducible exact is_on _ | with_reducible exact w_zero _ _ | with_reducible exact w_one _ _ | with_reducible exact w_two _ _ | with_reducible exact names_items _ | with_reducible exact rowsD_items _ | with_reducible exact fEq_fr | with_reducible exact fNe_fr | exact rfl)
local macro_rules | `(tactic| array_get_dec) => `(tactic| first | with_reducible apply we_K | ((with_reducible apply we_var); exact rfl) | with_reducible apply we_bin | with_reducible apply we_call | with_reducible apply wl_cons | with_reducible apply wl_nil | with_reducible apply ws_seq | with_reducible apply ws_set | ((with_reducible apply seqK_nx); clean_wf) | with_reducible apply seqK_ret | with_reducible apply ws_ret | with_reducible apply ws_if | with_reducible apply wt_tst | with_reducible apply ws_nil | with_reducible apply we_tup | with_reducible apply we_app | with_reducible apply we_if | with_reducible apply wt_and | with_reducible apply wt_or | with_reducible apply wt_not | with_reducible apply we_and | with_reducible apply we_or | with_reducible apply we_not | with_reducible apply ws_par | with_reducible apply ws_asg | with_reducible apply ws_expr | with_reducible apply ws_for | with_reducible apply we_lst | with_reducible apply wi_iter | with_reducible apply we_sl | with_reducible apply wo_no | with_reducible apply wo_part | with_reducible apply we_newL0b | with_reducible apply we_newL | with_reducible apply we_isi | with_reducible apply we_chain | ((with_reducible apply wf_of); focus (with_reducible assumption)) | with_reducible refine ⟨_, (by repeat (first | with_reducible exact dats_nil | with_reducible apply dats_cs)), by simp, ?_⟩ | with_reducible refine ⟨_, (by with_reducible assumption), ?_⟩ | with_reducible refine ⟨_, rfl, ?_⟩ | with_reducible refine ⟨_, (by array_mem_dec), ?_⟩ | ((with_reducible apply we_of); focus (with_reducible assumption)))
local macro_rules | `(tactic| sizeOf_list_dec) => `(tactic| repeat' (first | array_get_dec | with_reducible apply conj_T | with_reducible apply conj_F | with_reducible apply conj_T' | with_reducible apply conj_F' | with_reducible apply conj_nT | with_reducible apply conj_nF | with_reducible apply conj_nT' | with_reducible apply conj_nF' | (with_reducible apply conj_tf <;> intro _) | (with_reducible apply conj_ft <;> intro _)))
/-! ### a step that pulls, and its contrary -/
def con (s : Stp) : Stp := ⟨!s.off, s.n, s.l⟩
theorem con_mv (s : Stp) : (con s).mv = s.mv := rfl
theorem con_tok {w : W} {s : Stp} (h : TOk w s) : TOk w (con s) := ⟨h.n, h.l⟩
theorem con_rc (w : W) (s : Stp) : rcOf w (con s).n = rcOf w s.n := rfl
theorem con_step {w : W} {s : Stp} (h : s ∈ stepsL w) : con s ∈ stepsL w := by
  obtain ⟨o, ho, e1, e2⟩ := stepsL_inv h
  rcases e2 with e2 | ⟨b, hb, b1, b2⟩
  · have := stepsL_one ho (!s.off)
    rwa [e1, ← e2] at this
  · have := stepsL_two ho hb b2 (!s.off)
    rwa [e1, b1] at this
theorem canLie_ext {w : W} {a b : List Str} (h : ∀ x, x ∈ a ↔ x ∈ b) (hb : canLie w b = true) : canLie w a = true := by
  cases hf : folkIn w b with
  | false =>
    have hn := canLie_folk hb hf
    have : a = [] := List.eq_nil_iff_forall_not_mem.mpr fun x hx => by
      have := (h x).mp hx
      rw [hn] at this
      cases this
    rw [this]
    exact canLie_nil
  | true =>
    obtain ⟨n, h1, h2⟩ := List.any_eq_true.mp hf
    exact canLie_mem ((h n).mpr h1) (of_decide_eq_true h2)
theorem lotB_mem {w : W} {l : List Str} {s : Stp} (h : (lotB w l s).isNone = false) : ∀ x ∈ s.mv, (x ∈ l ↔ s.off = true) := fun x hx => by
  unfold lotB at h
  split at h
  · rename_i he
    have := List.filter_eq_nil_iff.mp (List.isEmpty_iff.mp he) x hx
    cases ho : s.off <;> rw [ho] at this <;> simpa using this
  · cases h
section
variable {w : W} (hw : Made w) {l : List Str} {s : Stp} (hl : LOk w l) (hs : s ∈ stepsL w) (hb : (lotB w l s).isNone = false)
include hw hl hs hb
theorem con_mem (x : Str) : x ∈ lotF (lotF l s) (con s) ↔ x ∈ l := by
  have hm := lotB_mem hb x
  rw [lotF_mem (w := w), lotF_mem (w := w), con_mv]
  unfold con
  by_cases h : x ∈ s.mv
  · have := hm h
    cases ho : s.off <;> rw [ho] at this <;> simp [h] at this ⊢ <;> exact this
  · cases ho : s.off <;> simp [h]
theorem con_lotB : (lotB w (lotF l s) (con s)).isNone = false := by
  refine lotB_yes (fun x hx => ?_) (canLie_ext (con_mem hw hl hs hb) hl.can)
  rw [con_mv] at hx
  have hm := lotB_mem hb x hx
  rw [lotF_mem (w := w)]
  unfold con
  cases ho : s.off <;> rw [ho] at hm <;> simp [hx] at hm ⊢
theorem con_lot : lotF (lotF l s) (con s) = l := by
  have h1 := lotF_sub hw (stepsL_ok hs) hl hb
  have h2 := lotF_sub hw (con_tok (stepsL_ok hs)) h1 (con_lotB hw hl hs hb)
  exact lok_ext hw.ok h2 hl (con_mem hw hl hs hb)
end
/-! ### weights -/
theorem weight_off {w : W} (hw : Made w) {l : List Str} {s : Stp} (hl : LOk w l) (hs : s ∈ stepsL w) (hb : (lotB w l s).isNone = false) (ho : s.off = true) : weight w (lotF l s) + weight w s.mv = weight w l ∧ stillP l s = lotF l s := by
  have h1 := still_eq hw (stepsL_ok hs) (hl.ok hw.ok) hb
  have h2 : stillP l s = lotF l s := by
    unfold stillP lotF
    rw [ho]
    simp
  rw [ho, h2] at h1
  simp only [if_true] at h1
  exact ⟨by omega, h2⟩
theorem stillP_on {l : List Str} {s : Stp} (ho : s.off = false) : stillP l s = l := by
  unfold stillP
  rw [ho]
  simp
theorem weight_on {w : W} (hw : Made w) {l : List Str} {s : Stp} (hl : LOk w l) (hs : s ∈ stepsL w) (hb : (lotB w l s).isNone = false) (ho : s.off = false) : weight w (lotF l s) = weight w l + weight w s.mv := by
  have h1 := lotF_sub hw (stepsL_ok hs) hl hb
  have h2 := weight_off hw h1 (con_step hs) (con_lotB hw hl hs hb) (by unfold con; rw [ho]; rfl)
  rw [con_lot hw hl hs hb, con_mv] at h2
  omega
/-! ### the front behind a step -/
theorem best_off {w : W} (hw : Made w) {l : List Str} {s : Stp} {F q : Rat} (hl : LOk w l) (hs : s ∈ stepsL w) (ho : s.off = true) (hq : bestF w l F s = some q) :
    q * ((whole w (lotF l s) : Nat) : Rat) = F * ((whole w (lotF l s) : Nat) + (weight w s.mv : Nat)) - minR (rcOf w s.n : Rat) F * (weight w s.mv : Nat) := by
  have hb := bestF_lotB hq
  obtain ⟨h1, _⟩ := weight_off hw hl hs hb ho
  have h2 : whole w l = whole w (lotF l s) + weight w s.mv := by unfold whole; omega
  have h3 : whole w l - weight w s.mv = whole w (lotF l s) := by omega
  have h4 := wholeR_pos hw.ok (lotF l s)
  rw [bestF_eq] at hq
  obtain ⟨x, hx, rfl⟩ := Option.map_eq_some_iff.mp hq
  have hx2 : x = minR (rcOf w s.n : Rat) F := by
    unfold bestG at hx
    split at hx
    · cases hx
    · simpa [ho] using hx.symm
  subst hx2
  unfold behG
  rw [ho]
  simp only [if_true]
  rw [h3, Rat.div_mul_cancel (by grind), h2, Rat.natCast_add]
theorem best_on {w : W} (hw : Made w) {l : List Str} {s : Stp} {F q : Rat} (hl : LOk w l) (hs : s ∈ stepsL w) (ho : s.off = false) (hq : bestF w l F s = some q) :
    q * ((whole w l : Nat) + (weight w s.mv : Nat) : Rat) = F * (whole w l : Nat) + atl (raw w l F s) * (weight w s.mv : Nat) := by
  have hb := bestF_lotB hq
  have h4 := wholeR_pos hw.ok l
  rw [bestF_eq] at hq
  obtain ⟨x, hx, rfl⟩ := Option.map_eq_some_iff.mp hq
  have hx2 : x = atl (raw w l F s) := by
    unfold bestG at hx
    split at hx
    · cases hx
    · rw [ho, raw_eq hw (stepsL_ok hs) (hl.ok hw.ok) hb, ho] at hx
      simpa using hx.symm
  subst hx2
  unfold behG
  rw [ho]
  simp only [Bool.false_eq_true, if_false]
  have hm := natR_nonneg (weight w s.mv)
  rw [Rat.natCast_add, Rat.div_mul_cancel (by grind)]
theorem best_ex {w : W} (hw : Made w) {l : List Str} {s : Stp} {F : Rat} (hl : LOk w l) (hs : s ∈ stepsL w) (hb : (lotB w l s).isNone = false) (hr : raw w l F s ≤ (rcOf w s.n : Rat)) : ∃ q, bestF w l F s = some q := by
  have hrc := natR_nonneg (rcOf w s.n)
  have h : nearP w l F s ≤ (rcOf w s.n : Rat) := by
    rw [raw_eq hw (stepsL_ok hs) (hl.ok hw.ok) hb]
    unfold atl
    split
    · exact hr
    · split
      · exact hrc
      · exact hr
  rw [bestF_eq]
  unfold bestG
  rw [hb, decide_eq_false (Rat.not_lt.mpr h)]
  exact ⟨_, rfl⟩
theorem atl_lt {a b : Rat} (h0 : 0 < b) : atl a < b ↔ a < b := by
  unfold atl
  split <;> constructor <;> intro h <;> grind
theorem atl_mono {a b : Rat} (h : a ≤ b) : atl a ≤ atl b := by
  unfold atl
  split <;> split <;> grind
theorem atl_ge (a : Rat) : a ≤ atl a ∧ 0 ≤ atl a := by
  unfold atl
  split <;> constructor <;> grind
theorem mul_lt {a b c : Rat} (hc : 0 < c) : a * c < b * c ↔ a < b := by
  constructor
  · intro h
    refine Rat.not_le.mp fun h2 => ?_
    have := Rat.mul_le_mul_of_nonneg_right h2 (Rat.le_of_lt hc)
    grind
  · intro h
    exact Rat.mul_lt_mul_of_pos_right h hc
theorem mul_le {a b c : Rat} (hc : 0 < c) : a * c ≤ b * c ↔ a ≤ b := by
  rw [← Rat.not_lt, ← Rat.not_lt, mul_lt hc]
/-- raw times the whole -/
theorem raw_mul {w : W} (hw : Made w) (l : List Str) (F : Rat) (s : Stp) : raw w l F s * (whole w l : Nat) = F * (whole w l : Nat) - (w.lg : Rat) * (weight w (stillP l s) : Nat) := by
  have h4 := wholeR_pos hw.ok l
  unfold raw
  have : (w.lg : Rat) * (weight w (stillP l s) : Nat) / (whole w l : Nat) * (whole w l : Nat) = (w.lg : Rat) * (weight w (stillP l s) : Nat) := Rat.div_mul_cancel (by grind)
  grind
def Rnd (w : W) (l : List Str) (s : Stp) (F q2 : Rat) : Prop := ∃ q1, bestF w l F s = some q1 ∧ bestF w (lotF l s) q1 (con s) = some q2
theorem off_rnd {w : W} (hw : Made w) {l : List Str} {s : Stp} {F q2 : Rat} (hl : LOk w l) (hs : s ∈ stepsL w) (ho : s.off = true) (h : Rnd w l s F q2) :
    ∃ ρ, ρ * ((whole w (lotF l s) : Nat) : Rat) = F * ((whole w (lotF l s) : Nat) + (weight w s.mv : Nat)) - minR (rcOf w s.n : Rat) F * (weight w s.mv : Nat) - (w.lg : Rat) * (weight w (lotF l s) : Nat) ∧
      (F - q2) * ((whole w (lotF l s) : Nat) + (weight w s.mv : Nat)) = (minR (rcOf w s.n : Rat) F - atl ρ) * (weight w s.mv : Nat) := by
  obtain ⟨q1, h1, h2⟩ := h
  have hb := bestF_lotB h1
  have hl2 := lotF_sub hw (stepsL_ok hs) hl hb
  have e1 := best_off hw hl hs ho h1
  have ho2 : (con s).off = false := by unfold con; rw [ho]; rfl
  have e2 := best_on hw hl2 (con_step hs) ho2 h2
  have e3 := raw_mul hw (lotF l s) q1 (con s)
  rw [stillP_on ho2] at e3
  rw [con_mv] at e2
  refine ⟨raw w (lotF l s) q1 (con s), ?_, ?_⟩
  · rw [e3, e1]
  · grind
/-- round by round the front falls no less each time, while more than the reach -/
theorem off_drop {w : W} (hw : Made w) {l : List Str} {s : Stp} {F1 F2 a b : Rat} (hl : LOk w l) (hs : s ∈ stepsL w) (ho : s.off = true) (hle : F2 ≤ F1) (hr : (rcOf w s.n : Rat) < F2) (h1 : Rnd w l s F1 a) (h2 : Rnd w l s F2 b) : F1 - a ≤ F2 - b := by
  obtain ⟨ρ1, e1, e2⟩ := off_rnd hw hl hs ho h1
  obtain ⟨ρ2, e3, e4⟩ := off_rnd hw hl hs ho h2
  have hm1 : minR (rcOf w s.n : Rat) F1 = (rcOf w s.n : Rat) := by unfold minR; rw [if_pos (by grind)]
  have hm2 : minR (rcOf w s.n : Rat) F2 = (rcOf w s.n : Rat) := by unfold minR; rw [if_pos hr]
  rw [hm1] at e1 e2
  rw [hm2] at e3 e4
  have hV := wholeR_pos hw.ok (lotF l s)
  have hm : (0 : Rat) < (weight w s.mv : Nat) := natR_pos (mv_pos hw (stepsL_ok hs))
  generalize ((whole w (lotF l s) : Nat) : Rat) = V at *
  generalize ((weight w s.mv : Nat) : Rat) = m at *
  generalize (rcOf w s.n : Rat) = r at *
  generalize (w.lg : Rat) * (weight w (lotF l s) : Nat) = C at *
  have hU : 0 < V + m := by grind
  have k1 : F2 * (V + m) ≤ F1 * (V + m) := Rat.mul_le_mul_of_nonneg_right hle (Rat.le_of_lt hU)
  have k2 : ρ2 ≤ ρ1 := (mul_le hV).mp (by grind)
  have k3 := atl_mono k2
  have k4 : (r - atl ρ1) * m ≤ (r - atl ρ2) * m := Rat.mul_le_mul_of_nonneg_right (by grind) (Rat.le_of_lt hm)
  exact (mul_le hU).mp (by grind)
/-- a round of a step that pulls -/
theorem slack_round {w : W} (hw : Made w) {l : List Str} {s : Stp} {F : Rat} (hl : LOk w l) (hs : s ∈ stepsL w) (hF : 0 < F) (hsl : slackL w l F s = true) :
    ∃ q1 q2, bestF w l F s = some q1 ∧ bestF w (lotF l s) q1 (con s) = some q2 ∧ q2 < F ∧ 0 ≤ q2 ∧ (0 < q2 → slackL w l q2 s = true) := by
  obtain ⟨q1, h1⟩ := slackL_some hsl
  have hb := bestF_lotB h1
  have ht := stepsL_ok hs
  have hlk := hl.ok hw.ok
  have hl2 := lotF_sub hw ht hl hb
  have hsB := hsl
  rw [slackL_pos hw ht hlk hF h1] at hsB
  have hsB2 := hsB
  unfold slackB at hsB2
  rw [Bool.and_eq_true, decide_eq_true_eq, lt_minR, raw_eq hw ht hlk hb] at hsB2
  have hq1 := bestF_nn hw ht hlk (Rat.le_of_lt hF) h1
  have hb2 := con_lotB hw hl hs hb
  have hrc : (0 : Rat) < (rcOf w s.n : Rat) := natR_pos (rcOf_pos hw ht)
  have hm : (0 : Rat) < (weight w s.mv : Nat) := natR_pos (mv_pos hw ht)
  have key : raw w (lotF l s) q1 (con s) ≤ (rcOf w s.n : Rat) ∧ (∀ q2, bestF w (lotF l s) q1 (con s) = some q2 → q2 < F) := by
    cases ho : s.off with
    | true =>
      have ho2 : (con s).off = false := by unfold con; rw [ho]; rfl
      have e1 := best_off hw hl hs ho h1
      have e3 := raw_mul hw (lotF l s) q1 (con s)
      rw [stillP_on ho2] at e3
      have e4 := raw_mul hw l F s
      obtain ⟨w1, w2⟩ := weight_off hw hl hs hb ho
      have w3 : whole w l = whole w (lotF l s) + weight w s.mv := by unfold whole; omega
      rw [w2, w3, Rat.natCast_add] at e4
      rw [ho] at hsB2
      simp only [if_true] at hsB2
      have hx := lt_minR.mpr hsB2.2
      have hx0 : 0 < minR (rcOf w s.n : Rat) F := lt_minR.mpr ⟨hrc, hF⟩
      have hxr : minR (rcOf w s.n : Rat) F ≤ (rcOf w s.n : Rat) := by unfold minR; split <;> grind
      have hV := wholeR_pos hw.ok (lotF l s)
      have hraw : raw w (lotF l s) q1 (con s) < minR (rcOf w s.n : Rat) F := by
        generalize raw w (lotF l s) q1 (con s) = ρ at *
        generalize raw w l F s = σ at *
        generalize minR (rcOf w s.n : Rat) F = x at *
        generalize ((whole w (lotF l s) : Nat) : Rat) = V at *
        generalize ((weight w s.mv : Nat) : Rat) = m at *
        have k1 : σ * (V + m) < x * (V + m) := (mul_lt (by grind)).mpr hx
        exact (mul_lt hV).mp (by grind)
      refine ⟨by grind, fun q2 h2 => ?_⟩
      have e2 := best_on hw hl2 (con_step hs) ho2 h2
      rw [con_mv] at e2
      have ha := (atl_lt hx0).mpr hraw
      generalize atl (raw w (lotF l s) q1 (con s)) = y at *
      generalize minR (rcOf w s.n : Rat) F = x at *
      generalize ((whole w (lotF l s) : Nat) : Rat) = V at *
      generalize ((weight w s.mv : Nat) : Rat) = m at *
      have k1 : y * m < x * m := (mul_lt hm).mpr ha
      exact (mul_lt (c := V + m) (by grind)).mp (by grind)
    | false =>
      have ho2 : (con s).off = true := by unfold con; rw [ho]; rfl
      have e1 := best_on hw hl hs ho h1
      have w1 := weight_on hw hl hs hb ho
      have hlc := con_lot hw hl hs hb
      have e3 := raw_mul hw (lotF l s) q1 (con s)
      obtain ⟨_, w2⟩ := weight_off hw hl2 (con_step hs) hb2 ho2
      have e4 := raw_mul hw l F s
      rw [stillP_on ho] at e4
      rw [w2, hlc] at e3
      have w3 : whole w (lotF l s) = whole w l + weight w s.mv := by unfold whole; omega
      rw [w3, Rat.natCast_add] at e3
      rw [ho] at hsB2
      simp only [Bool.false_eq_true, if_false] at hsB2
      obtain ⟨g1, g2⟩ := atl_ge (raw w l F s)
      have hV := wholeR_pos hw.ok l
      have hx1 : atl (raw w l F s) < q1 := by
        generalize atl (raw w l F s) = x at *
        generalize ((whole w l : Nat) : Rat) = V at *
        generalize ((weight w s.mv : Nat) : Rat) = m at *
        have k1 : x * V < F * V := (mul_lt hV).mpr hsB2.2.2
        exact (mul_lt (c := V + m) (by grind)).mp (by grind)
      refine ⟨?_, fun q2 h2 => ?_⟩
      · have hraw : raw w (lotF l s) q1 (con s) ≤ atl (raw w l F s) := by
          generalize raw w (lotF l s) q1 (con s) = ρ at *
          generalize atl (raw w l F s) = x at *
          generalize raw w l F s = σ at *
          generalize ((whole w l : Nat) : Rat) = V at *
          generalize ((weight w s.mv : Nat) : Rat) = m at *
          have k1 : σ * V ≤ x * V := Rat.mul_le_mul_of_nonneg_right g1 (Rat.le_of_lt hV)
          exact (mul_le (c := V + m) (by grind)).mp (by grind)
        grind
      · have e2 := best_off hw hl2 (con_step hs) ho2 h2
        rw [con_mv, hlc, con_rc] at e2
        have hx2 : atl (raw w l F s) < minR (rcOf w s.n : Rat) q1 := lt_minR.mpr ⟨hsB2.2.1, hx1⟩
        generalize minR (rcOf w s.n : Rat) q1 = y at *
        generalize atl (raw w l F s) = x at *
        generalize ((whole w l : Nat) : Rat) = V at *
        generalize ((weight w s.mv : Nat) : Rat) = m at *
        have k1 : x * m < y * m := (mul_lt hm).mpr hx2
        exact (mul_lt hV).mp (by grind)
  obtain ⟨q2, h2⟩ := best_ex hw hl2 (con_step hs) hb2 key.1
  have hlt := key.2 q2 h2
  have h0 := bestF_nn hw (con_tok ht) (hl2.ok hw.ok) hq1 h2
  refine ⟨q1, q2, h1, h2, hlt, h0, fun hp => ?_⟩
  obtain ⟨q3, h3, _⟩ := bestF_mono hw ht hlk h0 (Rat.le_of_lt hlt) h1
  rw [slackL_pos hw ht hlk hp h3]
  exact slack_mono hw ht hlk hp (Rat.le_of_lt hlt) hb hsB
end OA
namespace OA
open PySem PySem.Spec PyProof.Rows L2
local macro_rules | `(tactic| subst_eqs) => `(tactic| first | refine wf_r0 (by simp only [List.map_cons, List.map_nil, List.length_cons, List.length_nil, List.replicate, List.cons_append, List.nil_append, Nat.reduceAdd, Nat.reduceSub]; rfl) ?_ | refine wf_r (by simp only [List.map_cons, List.map_nil, List.length_cons, List.length_nil, List.replicate, List.cons_append, List.nil_append, Nat.reduceAdd, Nat.reduceSub]; rfl) ?_)
local macro_rules | `(tactic| clean_wf) => `(tactic| try dsimp only [List.set_cons_zero, List.set_cons_succ])
local macro_rules | `(tactic| array_mem_dec) => `(tactic| first | with_reducible assumption | with_reducible exact st_zero | with_reducible exact st_one | with_reducible exact stp_zero | with_reducible exact stp_one | with_reducible exact fr_top | with_reducible exact fr_bot | with_reducible exact fAdd_int | with_reducible exact fSub_int | with_reducible exact fLt_int | with_reducible exact fGt_int | with_reducible exact fLe_int | with_reducible exact fGe_int | with_reducible exact fEq_int | with_reducible exact is_off _ | with_reducible exact is_on _ | with_reducible exact w_zero _ _ | with_reducible exact w_one _ _ | with_reducible exact w_two _ _ | with_reducible exact names_items _ | with_reducible exact rowsD_items _ | with_reducible exact fEq_fr | with_reducible exact fNe_fr | exact rfl)
local macro_rules | `(tactic| array_get_dec) => `(tactic| first | with_reducible apply we_K | ((with_reducible apply we_var); exact rfl) | with_reducible apply we_bin | with_reducible apply we_call | with_reducible apply wl_cons | with_reducible apply wl_nil | with_reducible apply ws_seq | with_reducible apply ws_set | ((with_reducible apply seqK_nx); clean_wf) | with_reducible apply seqK_ret | with_reducible apply ws_ret | with_reducible apply ws_if | with_reducible apply wt_tst | with_reducible apply ws_nil | with_reducible apply we_tup | with_reducible apply we_app | with_reducible apply we_if | with_reducible apply wt_and | with_reducible apply wt_or | with_reducible apply wt_not | with_reducible apply we_and | with_reducible apply we_or | with_reducible apply we_not | with_reducible apply ws_par | with_reducible apply ws_asg | with_reducible apply ws_expr | with_reducible apply ws_for | with_reducible apply we_lst | with_reducible apply wi_iter | with_reducible apply we_sl | with_reducible apply wo_no | with_reducible apply wo_part | with_reducible apply we_newL0b | with_reducible apply we_newL | with_reducible apply we_isi | with_reducible apply we_chain | ((with_reducible apply wf_of); focus (with_reducible assumption)) | with_reducible refine ⟨_, (by repeat (first | with_reducible exact dats_nil | with_reducible apply dats_cs)), by simp, ?_⟩ | with_reducible refine ⟨_, (by with_reducible assumption), ?_⟩ | with_reducible refine ⟨_, rfl, ?_⟩ | with_reducible refine ⟨_, (by array_mem_dec), ?_⟩ | ((with_reducible apply we_of); focus (with_reducible assumption)))
local macro_rules | `(tactic| sizeOf_list_dec) => `(tactic| repeat' (first | array_get_dec | with_reducible apply conj_T | with_reducible apply conj_F | with_reducible apply conj_T' | with_reducible apply conj_F' | with_reducible apply conj_nT | with_reducible apply conj_nF | with_reducible apply conj_nT' | with_reducible apply conj_nF' | (with_reducible apply conj_tf <;> intro _) | (with_reducible apply conj_ft <;> intro _)))
theorem we_neg {en : En} {S : Ss} {c : Cd} {Q : R → Ss → Prop} (h : WE c en S fun r S1 => ∃ i, r = .d (.int i) ∧ Q (.d (.int (-i))) S1) : WE (cNeg c) en S Q := by
  obtain ⟨r, S1, e1, i, rfl, q⟩ := h
  exact ⟨_, _, by unfold cNeg; simp [e1], q⟩
theorem sp_contrary (S : Ss) (s : Stp) : f_l_contrary [.d (eStp s)] S = some (.d (eStp (con s)), S) := by
  have e1 := is_off (S := S) s
  refine wf_eq ?_
  unfold f_l_contrary
  refine wf_r (en0 := [some (.d (eStp s))]) rfl ?_
  unfold c_l_contrary
  cases ho : s.off with
  | true =>
    rw [ho] at e1
    have hw2 : eStp (con s) = .tup (.str (Str.ofString "on") :: [.str s.n, .str s.l]) := by unfold eStp con Stp.way; rw [ho]; rfl
    sizeOf_list_dec
    exact ⟨congrArg R.d hw2.symm, by simp⟩
  | false =>
    rw [ho] at e1
    have hw2 : eStp (con s) = .tup (.str (Str.ofString "off") :: [.str s.n, .str s.l]) := by unfold eStp con Stp.way; rw [ho]; rfl
    sizeOf_list_dec
    exact ⟨congrArg R.d hw2.symm, by simp⟩
theorem sp_round (S : Ss) {w : W} {g : Rat} {rs : Rows} {s : Stp} {q1 q2 : Rat} {t : Nat} (hw : Made w) (h : TOk w s) (ht : t ≤ 10) (hE : EOk w t (rnames rs) (front w g rs)) (hg : B 500 g) (hr : ROk w 261 rs)
    (h1 : bestF w (rnames rs) (front w g rs) s = some q1) (h2 : bestF w (lotF (rnames rs) s) q1 (con s) = some q2) :
    ∃ g' rs', f_l_round [.d (eW w), .d (eSt g rs), .d (eStp s)] S = some (.d (eSt g' rs'), S) ∧ rnames rs' = lotF (lotF (rnames rs) s) (con s) ∧ front w g' rs' = q2 ∧ B 500 g' ∧ ROk w 261 rs' ∧ EOk w (t + 2) (rnames rs') (front w g' rs') := by
  obtain ⟨ga, ra, a1, a2, a3, a4, a5, a6⟩ := sp_taken f_l_taken_best l_taken_eq S hw h (by omega) hE hg hr h1
  have h2' : bestF w (rnames ra) (front w ga ra) (con s) = some q2 := by rw [a2, a3]; exact h2
  obtain ⟨gb, rb, b1, b2, b3, b4, b5, b6⟩ := sp_taken f_l_taken_best l_taken_eq S hw (con_tok h) (by omega) a6 a4 a5 h2'
  have e1 := sp_contrary S s
  refine ⟨gb, rb, ?_, by rw [b2, a2], b3, b4, b5, b6⟩
  refine wf_eq ?_
  unfold f_l_round
  refine wf_r (en0 := [some (.d (eW w)), some (.d (eSt g rs)), some (.d (eStp s))]) rfl ?_
  unfold c_l_round
  sizeOf_list_dec
  exact ⟨rfl, by simp⟩
theorem fIx_l1 {S : Ss} {xs : List Dt} {d : Dt} : fIx (S ++ [.lst (xs ++ [d])]) (.c S.length) (.d (.int (-1))) = some (.d d) := by
  unfold fIx
  simp [get, SO.val, L2.atI, L2.ixN]
  rw [if_pos (by omega), show (-1 + ((xs.length : Int) + 1)).toNat = xs.length by omega]
  simp
theorem fIx_l2 {S : Ss} {xs : List Dt} {d e : Dt} : fIx (S ++ [.lst (xs ++ [d, e])]) (.c S.length) (.d (.int (-2))) = some (.d d) := by
  unfold fIx
  simp [get, SO.val, L2.atI, L2.ixN]
  rw [if_pos (by omega), show (-2 + ((xs.length : Int) + 2)).toNat = xs.length by omega]
  simp
theorem fIx_l3 {S : Ss} {xs : List Dt} {d e f : Dt} : fIx (S ++ [.lst (xs ++ [d, e, f])]) (.c S.length) (.d (.int (-3))) = some (.d d) := by
  unfold fIx
  simp [get, SO.val, L2.atI, L2.ixN]
  rw [if_pos (by omega), show (-3 + ((xs.length : Int) + 3)).toNat = xs.length by omega]
  simp
theorem drop4 {k x : Nat} {xs : List Nat} (h : (List.range 4).drop k = x :: xs) : x = k ∧ k < 4 ∧ xs = (List.range 4).drop (k + 1) := by
  have hk : k < 4 := by
    refine Nat.lt_of_not_le fun h2 => ?_
    rw [List.drop_of_length_le (by simpa using h2)] at h
    cases h
  match k, hk with
  | 0, _ => cases h; exact ⟨rfl, by decide, rfl⟩
  | 1, _ => cases h; exact ⟨rfl, by decide, rfl⟩
  | 2, _ => cases h; exact ⟨rfl, by decide, rfl⟩
  | 3, _ => cases h; exact ⟨rfl, by decide, rfl⟩
theorem fr_inj {p q : Rat} (h : fr p = fr q) : p = q := by
  unfold fr at h
  injection h with h
  injection h with h1 h2
  injection h2 with h2 _
  injection h1 with h1
  injection h2 with h2
  exact Rat.ext h1 (by exact Int.ofNat.inj h2)
local macro_rules | `(tactic| array_get_dec) => `(tactic| with_reducible apply we_neg)
def enF (w : W) (g : Rat) (rs : Rows) (s : Stp) (n : Nat) (x4 x5 x6 : Option R) : En := [some (.d (eW w)), some (.d (eSt g rs)), some (.d (eStp s)), some (.c n), x4, x5, x6]
theorem sp_falls (S : Ss) {w : W} {g : Rat} {rs : Rows} {s : Stp} {t : Nat} (hw : Made w) (hs : s ∈ stepsL w) (ht : t ≤ 3) (hE : EOk w t (rnames rs) (front w g rs)) (hg : B 500 g) (hr : ROk w 261 rs)
    (hsl : slackL w (rnames rs) (front w g rs) s = true) : f_l_falls [.d (eW w), .d (eSt g rs), .d (eStp s)] S = some (.d (.bl true), S) := by
  have hts := stepsL_ok hs
  have hl := hE.lot
  obtain ⟨l, hle⟩ : ∃ l, l = rnames rs := ⟨_, rfl⟩
  have hgap : ∀ (S : Ss) (g : Rat) (rs : Rows), B 500 g → ROk w 261 rs → f_gaps [.d (eW w), .d (eSt g rs)] S = some (.d (.tup [fr (least w (rnames rs) (front w g rs)), fr (front w g rs)]), S) := fun S g rs hg hr => sp_gaps S hw.ok hg hr (by decide) (by decide)
  have e1 := hgap S g rs hg hr
  refine wf_eq ?_
  unfold f_l_falls
  refine wf_r (en0 := [some (.d (eW w)), some (.d (eSt g rs)), some (.d (eStp s)), none, none, none, none]) rfl ?_
  unfold c_l_falls
  sizeOf_list_dec
  refine wi_range1 (we_K ⟨4, rfl, by decide, ?_⟩)
  refine wn_inv (fun i : Nat => Dt.int (0 + (i : Int))) (fun rest en S' => ∃ k, rest = (List.range 4).drop k ∧ ∃ g rs pre x4 x5 x6, en = enF w g rs s S.length x4 x5 x6 ∧ S' = S ++ [.lst (pre ++ [fr (front w g rs)])] ∧ pre.length ≤ k ∧ rnames rs = l ∧ B 500 g ∧ ROk w 261 rs ∧ EOk w (t + 2 * k) (rnames rs) (front w g rs) ∧
    (0 < front w g rs → slackL w l (front w g rs) s = true) ∧ (0 < k → ∃ pre' F', pre = pre' ++ [fr F'] ∧ Rnd w l s F' (front w g rs) ∧ front w g rs ≤ F') ∧ (∀ p ∈ pre, ∃ q, p = fr q ∧ B 400 q)) ?_ ?_ (List.range 4) _ _ ⟨0, rfl, g, rs, [], none, none, none, rfl, rfl, Nat.le_refl _, hle.symm, hg, hr, hE, fun _ => by rw [hle]; exact hsl, fun h => absurd h (by decide), by simp⟩
  · rintro en S' ⟨k, _, g, rs, pre, x4, x5, x6, rfl, rfl, _⟩
    unfold enF
    sizeOf_list_dec
    exact ⟨rfl, by simp⟩
  · rintro x rest en S' ⟨k, hrest, g, rs, pre, x4, x5, x6, rfl, rfl, hlen, hnm, hg, hr, hE, hsl, hprev, hpB⟩
    obtain ⟨rfl, hk4, hrest2⟩ := drop4 hrest.symm
    refine ⟨_, rfl, ?_⟩
    clean_wf
    have f1 := fIx_l1 (S := S) (xs := pre) (d := fr (front w g rs))
    have e6 := fEq_fr (S := S ++ [.lst (pre ++ [fr (front w g rs)])]) (p := front w g rs) (q := 0)
    rw [← k_nought] at e6
    by_cases hF0 : front w g rs = 0
    · rw [decide_eq_true hF0] at e6
      sizeOf_list_dec
      exact ⟨rfl, by simp⟩
    · rw [decide_eq_false hF0] at e6
      have hFp : 0 < front w g rs := by
        have := hE.q0
        grind
      obtain ⟨q1, q2, h1, h2, hlt, h0, hnext⟩ := slack_round hw (l := l) (s := s) (F := front w g rs) (by rw [← hnm]; exact hE.lot) hs hFp (hsl hFp)
      have hlotc := con_lot hw (l := l) (s := s) (by rw [← hnm]; exact hE.lot) hs (bestF_lotB h1)
      have hl0 : LOk w l := by rw [← hnm]; exact hE.lot
      obtain ⟨g', rs', r1, r2, r3, r4, r5, r6⟩ := sp_round (S ++ [.lst (pre ++ [fr (front w g rs)])]) hw hts (t := t + 2 * x) (by omega) hE hg hr (by rw [hnm]; exact h1) (by rw [hnm]; exact h2)
      rw [hnm, hlotc] at r2
      have e7 := hgap (S ++ [.lst (pre ++ [fr (front w g rs)])]) g' rs' r4 r5
      rw [r3] at e7
      have hB1 := hE.B
      have hB2 : B (36 + 28 * (t + 2 * x + 2)) q2 := by have := r6.B; rwa [r3] at this
      generalize hFg : front w g rs = F at *
      have g1 : fIx (S ++ [.lst (pre ++ [fr F] ++ [fr q2])]) (.c S.length) (.d (.int (-1))) = some (.d (fr q2)) := fIx_l1
      have g2 : fIx (S ++ [.lst (pre ++ [fr F] ++ [fr q2])]) (.c S.length) (.d (.int (-2))) = some (.d (fr F)) := by rw [List.append_assoc]; exact fIx_l2
      have g3 := sp_is_lesser (S ++ [.lst (pre ++ [fr F] ++ [fr q2])]) (p := q2) (q := F) (hB2.mono (by omega)) (hB1.mono (by omega))
      rw [decide_eq_true hlt, ← l_less_eq] at g3
      have g4 : fGt (S ++ [.lst (pre ++ [fr F] ++ [fr q2])]) (.d (.int (0 + (x : Int)))) (.d (.int 0)) = some (.d (.bl (decide (0 < x)))) := by
        rw [fGt_int]
        exact congrArg (fun x => some (R.d (.bl x))) (decide_eq_decide.mpr (by omega))
      have g5 := is_off (S := S ++ [.lst (pre ++ [fr F] ++ [fr q2])]) s
      have g6 := sp_l_reach (S ++ [.lst (pre ++ [fr F] ++ [fr q2])]) hw hts
      have g7 := sp_is_lesser (S ++ [.lst (pre ++ [fr F] ++ [fr q2])]) (p := (rcOf w s.n : Rat)) (q := q2) ((rc_B hw.ok s.n).mono (by decide)) (hB2.mono (by omega))
      rw [← l_less_eq] at g7
      have fin : ∀ x5 x6, ∃ g rs pre' y4 y5 y6, enF w g' rs' s S.length (some (R.d (.int (0 + (x : Int))))) x5 x6 = enF w g rs s S.length y4 y5 y6 ∧ S ++ [SO.lst (pre ++ [fr F] ++ [fr q2])] = S ++ [.lst (pre' ++ [fr (front w g rs)])] ∧ pre'.length ≤ x + 1 ∧ rnames rs = l ∧ B 500 g ∧ ROk w 261 rs ∧ EOk w (t + 2 * (x + 1)) (rnames rs) (front w g rs) ∧
          (0 < front w g rs → slackL w l (front w g rs) s = true) ∧ (0 < x + 1 → ∃ pre'' F', pre' = pre'' ++ [fr F'] ∧ Rnd w l s F' (front w g rs) ∧ front w g rs ≤ F') ∧ (∀ p ∈ pre', ∃ q, p = fr q ∧ B 400 q) := fun x5 x6 => by
        refine ⟨g', rs', pre ++ [fr F], _, _, _, rfl, by rw [r3], by simp; omega, r2, r4, r5, ?_, ?_, ?_, fun p hp => ?_⟩
        · have := r6
          rwa [show t + 2 * x + 2 = t + 2 * (x + 1) by omega] at this
        · rw [r3]; exact hnext
        · intro _
          rw [r3]
          exact ⟨pre, F, rfl, ⟨q1, h1, h2⟩, Rat.le_of_lt hlt⟩
        · rcases List.mem_append.mp hp with hp | hp
          · exact hpB p hp
          · rw [List.mem_singleton] at hp
            exact ⟨F, hp, hB1.mono (by omega)⟩
      unfold enF at *
      cases hk0 : decide (0 < x) with
      | false =>
        rw [hk0] at g4
        sizeOf_list_dec
        refine we_appendT (we_var rfl ⟨rfl, rfl, ?_⟩)
        sizeOf_list_dec
        refine ⟨rfl, by simp; omega, ?_⟩
        sizeOf_list_dec
        exact fin x5 x6
      | true =>
        rw [hk0] at g4
        cases ho : s.off with
        | false =>
          rw [ho] at g5
          sizeOf_list_dec
          refine we_appendT (we_var rfl ⟨rfl, rfl, ?_⟩)
          sizeOf_list_dec
          refine ⟨rfl, by simp; omega, ?_⟩
          sizeOf_list_dec
          exact fin x5 x6
        | true =>
          rw [ho] at g5
          cases hr7 : decide ((rcOf w s.n : Rat) < q2) with
          | false =>
            rw [hr7] at g7
            sizeOf_list_dec
            refine we_appendT (we_var rfl ⟨rfl, rfl, ?_⟩)
            sizeOf_list_dec
            refine ⟨rfl, by simp; omega, ?_⟩
            sizeOf_list_dec
            exact fin x5 x6
          | true =>
            rw [hr7] at g7
            obtain ⟨pre2, F', rfl, hR, hFF⟩ := hprev (of_decide_eq_true hk0)
            have g8 : fIx (S ++ [.lst (pre2 ++ [fr F'] ++ [fr F] ++ [fr q2])]) (.c S.length) (.d (.int (-3))) = some (.d (fr F')) := by
              rw [List.append_assoc, List.append_assoc]; exact fIx_l3
            have hd := off_drop hw hl0 hs ho hFF (by have := of_decide_eq_true hr7; grind) hR ⟨q1, h1, h2⟩
            have hBp : B 400 F' := by
              obtain ⟨q, e, hq⟩ := hpB (fr F') (by simp)
              rwa [fr_inj e]
            have g9 := sp_less (S ++ [.lst (pre2 ++ [fr F'] ++ [fr F] ++ [fr q2])]) (p := F) (q := q2) (hB1.mono (by omega)) (hB2.mono (by omega))
            have g10 := sp_less (S ++ [.lst (pre2 ++ [fr F'] ++ [fr F] ++ [fr q2])]) (p := F') (q := F) (hBp.mono (by decide)) (hB1.mono (by omega))
            rw [← l_minus_eq] at g9 g10
            have g11 := sp_is_lesser (S ++ [.lst (pre2 ++ [fr F'] ++ [fr F] ++ [fr q2])]) (p := F - q2) (q := F' - F) ((B_sub hB1 hB2).mono (by omega)) ((B_sub hBp hB1).mono (by omega))
            rw [decide_eq_false (Rat.not_lt.mpr hd), ← l_less_eq] at g11
            sizeOf_list_dec
            refine we_appendT (we_var rfl ⟨rfl, rfl, ?_⟩)
            sizeOf_list_dec
            refine ⟨rfl, by simp at hlen ⊢; omega, ?_⟩
            sizeOf_list_dec
            exact fin _ _
end OA
namespace OA
open PySem PySem.Spec PyProof.Rows L2
local macro_rules | `(tactic| subst_eqs) => `(tactic| first | refine wf_r0 (by simp only [List.map_cons, List.map_nil, List.length_cons, List.length_nil, List.replicate, List.cons_append, List.nil_append, Nat.reduceAdd, Nat.reduceSub]; rfl) ?_ | refine wf_r (by simp only [List.map_cons, List.map_nil, List.length_cons, List.length_nil, List.replicate, List.cons_append, List.nil_append, Nat.reduceAdd, Nat.reduceSub]; rfl) ?_)
local macro_rules | `(tactic| clean_wf) => `(tactic| try dsimp only [List.set_cons_zero, List.set_cons_succ])
local macro_rules | `(tactic| array_mem_dec) => `(tactic| first | with_reducible assumption | with_reducible exact st_zero | with_reducible exact st_one | with_reducible exact stp_zero | with_reducible exact stp_one | with_reducible exact fr_top | with_reducible exact fr_bot | with_reducible exact fAdd_int | with_reducible exact fSub_int | with_reducible exact fLt_int | with_reducible exact fGt_int | with_reducible exact fLe_int | with_reducible exact fGe_int | with_reducible exact fEq_int | with_reducible exact is_off _ | with_reducible exact is_on _ | with_reducible exact w_zero _ _ | with_reducible exact w_one _ _ | with_reducible exact w_two _ _ | with_reducible exact names_items _ | with_reducible exact rowsD_items _ | with_reducible exact fEq_fr | with_reducible exact fNe_fr | exact rfl)
local macro_rules | `(tactic| array_get_dec) => `(tactic| first | with_reducible apply we_K | ((with_reducible apply we_var); exact rfl) | with_reducible apply we_bin | with_reducible apply we_call | with_reducible apply wl_cons | with_reducible apply wl_nil | with_reducible apply ws_seq | with_reducible apply ws_set | ((with_reducible apply seqK_nx); clean_wf) | with_reducible apply seqK_ret | with_reducible apply ws_ret | with_reducible apply ws_if | with_reducible apply wt_tst | with_reducible apply ws_nil | with_reducible apply we_tup | with_reducible apply we_app | with_reducible apply we_if | with_reducible apply wt_and | with_reducible apply wt_or | with_reducible apply wt_not | with_reducible apply we_and | with_reducible apply we_or | with_reducible apply we_not | with_reducible apply ws_par | with_reducible apply ws_asg | with_reducible apply ws_expr | with_reducible apply ws_for | with_reducible apply we_lst | with_reducible apply wi_iter | with_reducible apply we_sl | with_reducible apply wo_no | with_reducible apply wo_part | with_reducible apply we_newL0b | with_reducible apply we_newL | with_reducible apply we_isi | with_reducible apply we_chain | ((with_reducible apply wf_of); focus (with_reducible assumption)) | with_reducible refine ⟨_, (by repeat (first | with_reducible exact dats_nil | with_reducible apply dats_cs)), by simp, ?_⟩ | with_reducible refine ⟨_, (by with_reducible assumption), ?_⟩ | with_reducible refine ⟨_, rfl, ?_⟩ | with_reducible refine ⟨_, (by array_mem_dec), ?_⟩ | ((with_reducible apply we_of); focus (with_reducible assumption)))
local macro_rules | `(tactic| sizeOf_list_dec) => `(tactic| repeat' (first | array_get_dec | with_reducible apply conj_T | with_reducible apply conj_F | with_reducible apply conj_T' | with_reducible apply conj_F' | with_reducible apply conj_nT | with_reducible apply conj_nF | with_reducible apply conj_nT' | with_reducible apply conj_nF' | (with_reducible apply conj_tf <;> intro _) | (with_reducible apply conj_ft <;> intro _)))
theorem steps_lenX {w : W} (hw : w.Ok) : (stepsL w).length ≤ 24 := by
  have h1 : ∀ off, (w.folk.flatMap (oneSteps w off)).length ≤ 3 * w.folk.length := by
    intro off
    have hnl := hw.nl
    induction w.folk with
    | nil => simp
    | cons o os ih =>
      rw [List.flatMap_cons, List.length_append, List.length_cons]
      have := List.length_filter_le (fun l : Str × Nat => decide (l.2 ≤ o.ar)) w.loads
      simp [oneSteps] at *
      omega
  have := hw.nf
  have := h1 true
  have := h1 false
  unfold stepsL
  rw [List.length_append]
  omega
theorem en10 {t : En} (h : t.length = 10) : ∃ a b c d e f g h i j, t = [a, b, c, d, e, f, g, h, i, j] := by
  match t, h with
  | [a, b, c, d, e, f, g, h, i, j], _ => exact ⟨a, b, c, d, e, f, g, h, i, j, rfl⟩
theorem told_of {w : W} (hw : Made w) {l0 : List Str} {F0 : Rat} (h0 : LOk w l0) (hF : 0 ≤ F0) {o : Option (List (List Str × Rat))} (hC : Clo w (slackB w) l0 F0 o) {ss : List Stp} {l : List Str} {F : Rat} {s : Stp} (hss : ∀ s ∈ ss, s ∈ stepsL w) (hr : runP w l0 F0 ss = some (l, F)) (hs : s ∈ stepsL w) (hsl : slackL w l F s = true) : (o.isNone || decide (F0 = 0)) = true := by
  by_cases hz : F0 = 0
  · rw [decide_eq_true hz, Bool.or_true]
  · have hp : 0 < F0 := by grind
    obtain ⟨b1, b2, b3, _⟩ := run_lot hw ss l0 F0 _ (fun s hs => stepsL_ok (hss s hs)) h0 hF hr
    obtain ⟨q, hq⟩ := slackL_some hsl
    have hE : Evid w (slackB w) l0 F0 := ⟨ss, l, F, s, q, hss, hr, hs, hq, by rw [← slackL_pos hw (stepsL_ok hs) (b1.ok hw.ok) (b3 hp) hq]; exact hsl⟩
    cases o with
    | none => rfl
    | some acc => exact (Tab.noEvid hw h0 hF hC rfl hE).elim
theorem wf_exF {α : Type} {f : Fn} {rs : List R} {S : Ss} {P : α → R} {C : α → Prop} (h : WF f rs S fun r S' => ∃ o, r = P o ∧ S' = S ∧ C o) : ∃ o, f rs S = some (P o, S) ∧ C o := by
  obtain ⟨r, S1, e, o, rfl, rfl, c⟩ := h
  exact ⟨o, e, c⟩
theorem fNe_steps {S : Ss} {w : W} (hw : Made w) {xs : List Stp} (h : ∀ t ∈ xs, TOk w t) : fNe S (.d (.lst (xs.map eStp))) (.d (.lst [])) = some (.d (.bl (!xs.isEmpty))) := by
  have e := fNe_emp (S := S) (xs := xs.map stpL) fun x hx => by
    obtain ⟨t, ht, rfl⟩ := List.mem_map.mp hx
    intro y hy
    simp only [stpL, List.mem_cons, List.not_mem_nil, or_false] at hy
    rcases hy with rfl | rfl | rfl
    · exact way_ok t
    · exact (h t ht).n_ok hw
    · exact (h t ht).l_ok hw
  rw [List.map_map] at e
  rw [show (xs.map stpL).isEmpty = xs.isEmpty by cases xs <;> rfl] at e
  exact e
def y1W : W := ⟨1, 1, [⟨Str.ofString "ann", 1, 1, 10⟩], []⟩
def y1L : List Str := [Str.ofString "ann"]
theorem y1_w : eW y1W = .tup [.tup [.int 1, .int 1], .tup [.tup [.str (Str.ofString "ann"), .int 1, .int 1, .int 10]], .tup []] := by rfl
theorem y1_s : eSt (mkRat 0 1) (zr y1L) = .tup [.tup [.int 0, .int 1], .tup [.tup [.str (Str.ofString "ann"), .tup [.int 0, .int 1]]]] := by rfl
theorem y1_made : Made y1W := madeB_ok (by decide +kernel)
theorem y1_ok : NOkay y1W (mkRat 0 1) (zr y1L) := nokay_zr (D := 1) (by decide +kernel) (by decide +kernel) (by decide +kernel) (by decide) (by decide) ⟨0, by decide +kernel⟩
theorem y1_pulls (S : Ss) : f_pulls [.d (.tup [.tup [.int 1, .int 1], .tup [.tup [.str (Str.ofString "ann"), .int 1, .int 1, .int 10]], .tup []]), .d (.tup [.tup [.int 0, .int 1], .tup [.tup [.str (Str.ofString "ann"), .tup [.int 0, .int 1]]]])] S = some (.d (.bl true), S) := by
  rw [← y1_w, ← y1_s]
  obtain ⟨o, e, _⟩ := wf_exF (wf_pulls S y1_made (y1_ok.ck y1_made))
  rw [front_zr, decide_eq_true (show mkRat 0 1 = 0 by decide +kernel), Bool.or_true] at e
  exact e
def c_in11 : CdS := (sCons (sSet 7 (cFrz (cCall f_can_step (cCons (cVar 3) (cCons (cVar 4) cNil))))) (sCons (sPar 8 9 (cBin fIx (cCall f_gaps (cCons (cVar 3) (cCons (cVar 4) cNil))) (cK (.int 1))) (cCall f_l_aboard (cCons (cVar 4) cNil))) (sCons (sFor (cIter (cVar 7)) (gNm 10) (sCons (sIf (cTst (cCall f_l_slack (cCons (cVar 3) (cCons (cVar 9) (cCons (cVar 8) (cCons (cVar 10) cNil)))))) (sCons (sIf (qqOr (qqNot (cTst (cVar 5))) (qqNot (cTst (cCall f_l_falls (cCons (cVar 3) (cCons (cVar 4) (cCons (cVar 10) cNil))))))) (sCons (sRet (cK (.bl false))) sNil) sNil) sNil) sNil) sNil)) (sCons (sIf (cTst (cBin fNe (cVar 7) (cLst cNil))) (sCons (sSet 4 (cCall f_l_taken_best (cCons (cVar 3) (cCons (cVar 4) (cCons (cCall f_l_of (cCons (cVar 2) (cCons (cVar 7) cNil))) cNil))))) sNil) sNil) sNil))))
def en11 (ns : List Int) (k : Nat) (D : Ss) (w : W) (g : Rat) (rs : Rows) (told : Bool) (x6 x7 x8 x9 x10 : Option R) : En := [some (.s ns), some (.d (.int (k : Int))), some (.c D.length), some (.d (eW w)), some (.d (eSt g rs)), some (.d (.bl told)), x6, x7, x8, x9, x10]
structure St11 (w : W) (l0 : List Str) (F0 : Rat) (t : Nat) (g : Rat) (rs : Rows) : Prop where
  E : EOk w t (rnames rs) (front w g rs)
  hg : B 500 g
  hr : ROk w 261 rs
  run : ∃ ss, (∀ s ∈ ss, s ∈ stepsL w) ∧ runP w l0 F0 ss = some (rnames rs, front w g rs)
theorem ws_in11 {w : W} (hw : Made w) {l0 : List Str} {F0 : Rat} (h0 : LOk w l0) (hF0 : 0 ≤ F0) {o : Option (List (List Str × Rat))} (hC : Clo w (slackB w) l0 F0 o) {told : Bool} (htd : (o.isNone || decide (F0 = 0)) = told) {t : Nat} (ht : t ≤ 3) {g : Rat} {rs : Rows} (hS : St11 w l0 F0 t g rs) {D X : Ss} {p : Nat × Nat} (hp : okp p) (ns : List Int) (k : Nat) (x6 x7 x8 x9 x10 : Option R) :
    WS c_in11 (en11 ns k D w g rs told x6 x7 x8 x9 x10) (sb D p X) fun fl en S' => fl = .nx ∧ ∃ g rs X q x7 x8 x9 x10, St11 w l0 F0 (t + 1) g rs ∧ okp q ∧ S' = sb D q X ∧ en = en11 ns k D w g rs told x6 x7 x8 x9 x10 := by
  have hFB := hS.E.B
  have e1 := sp_can_stepG (sb D p X) hw (hS.hg.mono (by decide)) (hS.hr.mono (by decide)) (hFB.mono (by omega))
  unfold c_in11 en11
  refine ws_seq (ws_set (we_frz (we_call (wl_cons (we_var (r := .d (eW w)) rfl (wl_cons (we_var (r := .d (eSt g rs)) rfl (wl_nil (wf_of e1 ⟨_, rfl, (canS w (rnames rs) (front w g rs)).map eStp, by simp, ?_⟩))))))))) 
  have hst : (sb D p X ++ [SO.lst ((canS w (rnames rs) (front w g rs)).map eStp)]).set (sb D p X).length .gone = sb D p (X ++ [.gone]) := by
    rw [← sb_push]; simp
  rw [hst]
  clear e1 hst
  generalize X ++ [SO.gone] = X2
  have e2 := sp_gaps (sb D p X2) hw.ok hS.hg hS.hr (by decide) (by decide)
  have e3 : f_l_aboard [.d (eSt g rs)] (sb D p X2) = some (.d (names (rnames rs)), sb D p X2) := by rw [l_aboard_eq]; exact sp_aboard_of _ g rs
  have hcan : ∀ s ∈ canS w (rnames rs) (front w g rs), s ∈ stepsL w ∧ ∃ q, bestF w (rnames rs) (front w g rs) s = some q := fun s hs => by
    obtain ⟨h1, x, hx⟩ := canS_mem hs
    exact ⟨h1, behG w (rnames rs) (front w g rs) s x, by rw [bestF_eq, hx]; rfl⟩
  have e4 := fNe_steps (S := sb D p X2) hw (xs := canS w (rnames rs) (front w g rs)) fun t ht => stepsL_ok (hcan t ht).1
  have hlen : ((canS w (rnames rs) (front w g rs)).map eStp).length < 2 ^ 64 := by
    rw [List.length_map]
    exact Nat.lt_of_le_of_lt (List.length_filter_le _ _) (Nat.lt_of_le_of_lt (steps_lenX hw.ok) (by decide))
  generalize canS w (rnames rs) (front w g rs) = cs at *
  have loop : WN (gNm 10) (sCons (sIf (cTst (cCall f_l_slack (cCons (cVar 3) (cCons (cVar 9) (cCons (cVar 8) (cCons (cVar 10) cNil)))))) (sCons (sIf (qqOr (qqNot (cTst (cVar 5))) (qqNot (cTst (cCall f_l_falls (cCons (cVar 3) (cCons (cVar 4) (cCons (cVar 10) cNil))))))) (sCons (sRet (cK (.bl false))) sNil) sNil) sNil) sNil) sNil) (cs.map eStp)
      (en11 ns k D w g rs told x6 (some (.d (.lst (cs.map eStp)))) (some (.d (fr (front w g rs)))) (some (.d (names (rnames rs)))) x10) (sb D p X2) fun fl en S' => fl = .nx ∧ S' = sb D p X2 ∧ ∃ x10, en = en11 ns k D w g rs told x6 (some (.d (.lst (cs.map eStp)))) (some (.d (fr (front w g rs)))) (some (.d (names (rnames rs)))) x10 := by
    refine wn_inv eStp (fun rest en S' => (∀ s ∈ rest, s ∈ cs) ∧ S' = sb D p X2 ∧ ∃ x10, en = en11 ns k D w g rs told x6 (some (.d (.lst (cs.map eStp)))) (some (.d (fr (front w g rs)))) (some (.d (names (rnames rs)))) x10) ?_ ?_ cs _ _ ⟨fun _ h => h, rfl, _, rfl⟩
    · rintro en S' ⟨_, rfl, y10, rfl⟩
      exact ⟨rfl, rfl, _, rfl⟩
    · rintro s rest en S' ⟨hm, rfl, y10, rfl⟩
      refine ⟨_, rfl, ?_⟩
      unfold en11
      clean_wf
      obtain ⟨hs, q, hq⟩ := hcan s (hm s List.mem_cons_self)
      have f1 := sp_l_slack (sb D p X2) hw (stepsL_ok hs) (hS.E.lot.ok hw.ok) (F := front w g rs) (hFB.mono (by omega))
      cases hsl : slackL w (rnames rs) (front w g rs) s with
      | false =>
        rw [hsl] at f1
        sizeOf_list_dec
        exact ⟨fun m hm' => hm m (List.mem_cons_of_mem _ hm'), rfl, _, rfl⟩
      | true =>
        rw [hsl] at f1
        have f2 := sp_falls (sb D p X2) hw hs ht hS.E hS.hg hS.hr hsl
        obtain ⟨ss, r1, r2⟩ := hS.run
        have f3 := told_of hw h0 hF0 hC r1 r2 hs hsl
        rw [htd] at f3
        subst f3
        sizeOf_list_dec
        exact ⟨fun m hm' => hm m (List.mem_cons_of_mem _ hm'), rfl, _, rfl⟩
  obtain ⟨fl, en, S', ew, rfl, rfl, y10, rfl⟩ := loop
  have hES : EOk w (t + 1) (rnames rs) (front w g rs) := ⟨hS.E.lot, hS.E.q0, Rat.le_trans hS.E.qm (natR_le (Nat.mul_le_mul_left _ (Nat.pow_le_pow_right (by decide) (by omega)))), by
    obtain ⟨d, d1, d2, d3⟩ := hS.E.D
    exact ⟨d, d1, Nat.lt_of_lt_of_le d2 (Nat.pow_le_pow_right (by decide) (by omega)), d3⟩⟩
  cases hcs : cs.isEmpty with
  | true =>
    rw [hcs] at e4
    sizeOf_list_dec
    refine ⟨_, _, _, ew, ?_⟩
    unfold en11
    simp only [Bool.not_true] at e4
    sizeOf_list_dec
    exact ⟨rfl, g, rs, X2, p, _, _, _, _, ⟨hES, hS.hg, hS.hr, hS.run⟩, hp, rfl, rfl⟩
  | false =>
    rw [hcs] at e4
    sizeOf_list_dec
    refine ⟨_, _, _, ew, ?_⟩
    unfold en11
    simp only [Bool.not_false] at e4
    sizeOf_list_dec
    refine wf_of' hp (fun h => by
      have := List.map_eq_nil_iff.mp h
      rw [this] at hcs
      cases hcs) hlen fun x q hx hq => ?_
    obtain ⟨s, hs, rfl⟩ := List.mem_map.mp hx
    obtain ⟨h1, b, h2⟩ := hcan s hs
    obtain ⟨g', rs', r1, r2, r3, r4, r5, r6⟩ := sp_taken f_l_taken_best l_taken_eq (sb D q X2) hw (stepsL_ok h1) (by omega) hS.E hS.hg hS.hr h2
    obtain ⟨ss, s1, s2⟩ := hS.run
    sizeOf_list_dec
    refine ⟨rfl, g', rs', X2, q, _, _, _, _, ⟨r6, r4, r5, ss ++ [s], fun u hu => ?_, ?_⟩, hq, rfl, rfl⟩
    · rcases List.mem_append.mp hu with hu | hu
      · exact s1 u hu
      · rw [List.mem_singleton] at hu
        rw [hu]; exact h1
    · rw [r2, r3]
      exact runP_snoc s2 h2
theorem law_true_k11 (ns : List Int) (h : ns.length ≤ 63) : ∃ S', f_law_k11 [.s ns] [] = some (.d (.bl true), S') := by
  have main : WS c_law_k11 (some (.s ns) :: List.replicate 10 none) [] fun fl _ _ => fl = .ret (.d (.bl true)) := by
    unfold c_law_k11
    refine ws_seq ?_
    refine ws_law (M := 9) (by decide) rfl (fun k t D hk ht => ?_) fun t D ht => ?_
    · obtain ⟨a2, a3, a4, a5, a6, a7, a8, a9, a10, rfl⟩ := en9 ht
      sizeOf_list_dec
      refine wf_bag (by omega) fun p hp => ?_
      sizeOf_list_dec
      refine wf_world hp (by decide) (by decide) (by decide) fun w p2 hp2 hw => ?_
      sizeOf_list_dec
      refine wf_near hp2 hw fun g st q hq hn => ?_
      have hk := hn.ck hw
      have h0 := hk.e.lot
      have hF := hk.e.q0
      have hB : B 500 g := hn.gB.mono (by decide)
      have hR : ROk w 261 st := (hn.rok hw.ok).mono (by decide)
      obtain ⟨o, e1, hC⟩ := wf_exF (wf_pulls (sb D q []) hw hk)
      have e2 := sp_gaps (sb D q []) hw.ok hB hR (by decide) (by decide)
      have e3 := fEq_fr (S := sb D q []) (p := front w g st) (q := 0)
      rw [← k_nought] at e3
      obtain ⟨told, htd⟩ : ∃ told, (o.isNone || decide (front w g st = 0)) = told := ⟨_, rfl⟩
      have loop : ∀ x6 x7 x8 x9 x10, WN (gNm 6) c_in11 ((List.range 4).map fun i : Nat => Dt.int (0 + (i : Int))) (en11 ns k D w g st told x6 x7 x8 x9 x10) (sb D q []) fun fl en' _ => fl = .nx ∧ ∃ t', t'.length = 9 + 1 ∧ en' = some (.s ns) :: t' := by
        intro x6 x7 x8 x9 x10
        refine wn_inv (fun i : Nat => Dt.int (0 + (i : Int))) (fun rest en S' => ∃ j, rest = (List.range 4).drop j ∧ ∃ g' rs X q x6 x7 x8 x9 x10, St11 w (rnames st) (front w g st) j g' rs ∧ okp q ∧ S' = sb D q X ∧ en = en11 ns k D w g' rs told x6 x7 x8 x9 x10) ?_ ?_ (List.range 4) _ _ ⟨0, rfl, g, st, [], q, _, _, _, _, _, ⟨hk.e, hB, hR, [], by simp, rfl⟩, hq, rfl, rfl⟩
        · rintro en S' ⟨j, _, g', rs, X, q, x6, x7, x8, x9, x10, _, _, rfl, rfl⟩
          exact ⟨rfl, _, rfl, rfl⟩
        · rintro x rest en S' ⟨j, hrest, g', rs, X, q, x6, x7, x8, x9, x10, hS, hq, rfl, rfl⟩
          obtain ⟨rfl, hk4, hrest2⟩ := drop4 hrest.symm
          refine ⟨_, rfl, ws_mono (ws_in11 hw h0 hF hC htd (by omega) hS hq ns k (some (.d (.int (0 + (x : Int))))) x7 x8 x9 x10) ?_⟩
          rintro fl en S' ⟨rfl, g2, rs2, X2, q2, y7, y8, y9, y10, hS2, hq2, rfl, rfl⟩
          exact ⟨x + 1, hrest2, g2, rs2, X2, q2, _, _, _, _, _, hS2, hq2, rfl, rfl⟩
      by_cases hF0 : front w g st = 0
      · have ht2 : told = true := by rw [← htd, decide_eq_true hF0, Bool.or_true]
        rw [htd, ht2] at e1
        rw [decide_eq_true hF0] at e3
        rw [ht2] at loop
        sizeOf_list_dec
        refine wi_range1 (we_K ⟨4, rfl, by decide, ?_⟩)
        obtain ⟨fl, en, S', ew, rfl, t', h1, h2⟩ := loop a6 a7 a8 a9 a10
        exact ⟨_, _, _, ew, seqK_nx (ws_nil ⟨rfl, t', h1, h2⟩)⟩
      · rw [decide_eq_false hF0] at e3
        rw [htd] at e1
        sizeOf_list_dec
        refine wi_range1 (we_K ⟨4, rfl, by decide, ?_⟩)
        obtain ⟨fl, en, S', ew, rfl, t', h1, h2⟩ := loop a6 a7 a8 a9 a10
        exact ⟨_, _, _, ew, seqK_nx (ws_nil ⟨rfl, t', h1, h2⟩)⟩
    · obtain ⟨a1, a2, a3, a4, a5, a6, a7, a8, a9, a10, rfl⟩ := en10 ht
      have e1 := y1_pulls D
      have i1 : fIsB false D (.d (.bl true)) (.d (.bl true)) = some (.d (.bl true)) := rfl
      sizeOf_list_dec
      rfl
  obtain ⟨fl, en, S2, e, rfl⟩ := main
  exact ⟨S2.take 0, by unfold f_law_k11 runF; simp only [List.map_cons, List.map_nil, List.length_cons, List.length_nil, List.cons_append, List.nil_append]; rw [e]; rfl⟩
end OA
namespace OA
open PySem PySem.Spec PyProof.Rows L2
/-! ### the text -/
def topS (i : Nat) : Stmt := PySem.Challenge.pw_offandon_k11_whole_one_off_all_off.main.body.getD i (.Pass ⟨0, 0, 0, 0⟩)
abbrev s_lowest : Stmt := topS 2
abbrev s_plus : Stmt := topS 3
abbrev s_less : Stmt := topS 4
abbrev s_times : Stmt := topS 5
abbrev s_is_lesser : Stmt := topS 6
abbrev s_lesser : Stmt := topS 7
abbrev s_folk_of : Stmt := topS 8
abbrev s_loads_of : Stmt := topS 9
abbrev s_heavies : Stmt := topS 10
abbrev s_can_be_aboard : Stmt := topS 11
abbrev s_aboard_of : Stmt := topS 12
abbrev s_weight_of : Stmt := topS 13
abbrev s_whole_of : Stmt := topS 14
abbrev s_drive_of : Stmt := topS 16
abbrev s_front_of : Stmt := topS 17
abbrev s_gap_by : Stmt := topS 18
abbrev s_gap_behind : Stmt := topS 19
abbrev s_all_back : Stmt := topS 20
abbrev s_least_by : Stmt := topS 21
abbrev s_gaps : Stmt := topS 22
abbrev s_is_step : Stmt := topS 26
abbrev s_one_of : Stmt := topS 27
abbrev s_all_steps : Stmt := topS 28
abbrev s_movers : Stmt := topS 29
abbrev s_lot_behind : Stmt := topS 30
abbrev s_reach_of : Stmt := topS 31
abbrev s_nearest_for : Stmt := topS 32
abbrev s_best_gap : Stmt := topS 33
abbrev s_best_from : Stmt := topS 34
abbrev s_stepped : Stmt := topS 35
abbrev s_can_step : Stmt := topS 36
abbrev s_rows_by : Stmt := topS 37
abbrev s_rows_for : Stmt := topS 38
abbrev s_has_folk : Stmt := topS 40
abbrev s_pulls_by : Stmt := topS 41
abbrev s_closed : Stmt := topS 42
abbrev s_pulls : Stmt := topS 43
abbrev s_l_bag : Stmt := topS 45
abbrev s_l_take : Stmt := topS 46
abbrev s_l_of : Stmt := topS 47
abbrev s_l_lowest : Stmt := topS 48
abbrev s_l_plus : Stmt := topS 49
abbrev s_l_minus : Stmt := topS 50
abbrev s_l_times : Stmt := topS 51
abbrev s_l_less : Stmt := topS 52
abbrev s_l_least : Stmt := topS 53
abbrev s_l_world : Stmt := topS 54
abbrev s_l_names : Stmt := topS 55
abbrev s_l_folk : Stmt := topS 56
abbrev s_l_can_lie : Stmt := topS 57
abbrev s_l_place : Stmt := topS 58
abbrev s_l_rows : Stmt := topS 59
abbrev s_l_lot : Stmt := topS 60
abbrev s_l_standing : Stmt := topS 61
abbrev s_l_weight : Stmt := topS 62
abbrev s_l_aboard : Stmt := topS 63
abbrev s_l_steps : Stmt := topS 64
abbrev s_l_after : Stmt := topS 65
abbrev s_l_reach : Stmt := topS 66
abbrev s_l_nearest : Stmt := topS 67
abbrev s_l_behind : Stmt := topS 68
abbrev s_l_best : Stmt := topS 69
abbrev s_l_near_standing : Stmt := topS 70
abbrev s_l_has_folk : Stmt := topS 71
abbrev s_l_slack : Stmt := topS 72
abbrev s_l_contrary : Stmt := topS 73
abbrev s_l_taken_best : Stmt := topS 74
abbrev s_l_round : Stmt := topS 75
abbrev s_l_falls : Stmt := topS 76
abbrev s_law_k11 : Stmt := topS 77
theorem sc_lowest : FnScope ["top", "bottom", "one", "other"] ["top", "bottom"] (defScope s_lowest) := ⟨rfl, rfl, rfl, by decide +kernel, rfl, by decide +kernel, by decide +kernel⟩
theorem sc_plus : FnScope ["one", "other"] ["one", "other"] (defScope s_plus) := ⟨rfl, rfl, rfl, by decide +kernel, rfl, by decide +kernel, by decide +kernel⟩
theorem sc_less : FnScope ["one", "other"] ["one", "other"] (defScope s_less) := ⟨rfl, rfl, rfl, by decide +kernel, rfl, by decide +kernel, by decide +kernel⟩
theorem sc_times : FnScope ["one", "top", "bottom"] ["one", "top", "bottom"] (defScope s_times) := ⟨rfl, rfl, rfl, by decide +kernel, rfl, by decide +kernel, by decide +kernel⟩
theorem sc_is_lesser : FnScope ["one", "other"] ["one", "other"] (defScope s_is_lesser) := ⟨rfl, rfl, rfl, by decide +kernel, rfl, by decide +kernel, by decide +kernel⟩
theorem sc_lesser : FnScope ["one", "other"] ["one", "other"] (defScope s_lesser) := ⟨rfl, rfl, rfl, by decide +kernel, rfl, by decide +kernel, by decide +kernel⟩
theorem sc_folk_of : FnScope ["world", "one"] ["world"] (defScope s_folk_of) := ⟨rfl, rfl, rfl, by decide +kernel, rfl, by decide +kernel, by decide +kernel⟩
theorem sc_loads_of : FnScope ["world", "one"] ["world"] (defScope s_loads_of) := ⟨rfl, rfl, rfl, by decide +kernel, rfl, by decide +kernel, by decide +kernel⟩
theorem sc_heavies : FnScope ["world", "one"] ["world"] (defScope s_heavies) := ⟨rfl, rfl, rfl, by decide +kernel, rfl, by decide +kernel, by decide +kernel⟩
theorem sc_can_be_aboard : FnScope ["world", "lot", "folk", "name"] ["world", "lot"] (defScope s_can_be_aboard) := ⟨rfl, rfl, rfl, by decide +kernel, rfl, by decide +kernel, by decide +kernel⟩
theorem sc_aboard_of : FnScope ["standing", "row"] ["standing"] (defScope s_aboard_of) := ⟨rfl, rfl, rfl, by decide +kernel, rfl, by decide +kernel, by decide +kernel⟩
theorem sc_weight_of : FnScope ["world", "lot", "known", "name"] ["world", "lot"] (defScope s_weight_of) := ⟨rfl, rfl, rfl, by decide +kernel, rfl, by decide +kernel, by decide +kernel⟩
theorem sc_whole_of : FnScope ["world", "lot"] ["world", "lot"] (defScope s_whole_of) := ⟨rfl, rfl, rfl, by decide +kernel, rfl, by decide +kernel, by decide +kernel⟩
theorem sc_drive_of : FnScope ["world", "rows", "known", "total", "name", "place"] ["world", "rows"] (defScope s_drive_of) := ⟨rfl, rfl, rfl, by decide +kernel, rfl, by decide +kernel, by decide +kernel⟩
theorem sc_front_of : FnScope ["world", "standing"] ["world", "standing"] (defScope s_front_of) := ⟨rfl, rfl, rfl, by decide +kernel, rfl, by decide +kernel, by decide +kernel⟩
theorem sc_gap_by : FnScope ["world", "front", "rows", "whole", "row"] ["world", "front", "rows"] (defScope s_gap_by) := ⟨rfl, rfl, rfl, by decide +kernel, rfl, by decide +kernel, by decide +kernel⟩
theorem sc_gap_behind : FnScope ["world", "standing", "rows", "found"] ["world", "standing", "rows"] (defScope s_gap_behind) := ⟨rfl, rfl, rfl, by decide +kernel, rfl, by decide +kernel, by decide +kernel⟩
theorem sc_all_back : FnScope ["world", "lot", "name"] ["world", "lot"] (defScope s_all_back) := ⟨rfl, rfl, rfl, by decide +kernel, rfl, by decide +kernel, by decide +kernel⟩
theorem sc_least_by : FnScope ["world", "lot", "front", "found"] ["world", "lot", "front"] (defScope s_least_by) := ⟨rfl, rfl, rfl, by decide +kernel, rfl, by decide +kernel, by decide +kernel⟩
theorem sc_gaps : FnScope ["world", "standing", "front"] ["world", "standing"] (defScope s_gaps) := ⟨rfl, rfl, rfl, by decide +kernel, rfl, by decide +kernel, by decide +kernel⟩
theorem sc_is_step : FnScope ["world", "thing", "part"] ["world", "thing"] (defScope s_is_step) := ⟨rfl, rfl, rfl, by decide +kernel, rfl, by decide +kernel, by decide +kernel⟩
theorem sc_one_of : FnScope ["world", "name", "one"] ["world", "name"] (defScope s_one_of) := ⟨rfl, rfl, rfl, by decide +kernel, rfl, by decide +kernel, by decide +kernel⟩
theorem sc_all_steps : FnScope ["world", "found", "way", "name", "load"] ["world"] (defScope s_all_steps) := ⟨rfl, rfl, rfl, by decide +kernel, rfl, by decide +kernel, by decide +kernel⟩
theorem sc_movers : FnScope ["step", "name"] ["step"] (defScope s_movers) := ⟨rfl, rfl, rfl, by decide +kernel, rfl, by decide +kernel, by decide +kernel⟩
theorem sc_lot_behind : FnScope ["world", "lot", "step", "moved", "found", "name"] ["world", "lot", "step"] (defScope s_lot_behind) := ⟨rfl, rfl, rfl, by decide +kernel, rfl, by decide +kernel, by decide +kernel⟩
theorem sc_reach_of : FnScope ["world", "step"] ["world", "step"] (defScope s_reach_of) := ⟨rfl, rfl, rfl, by decide +kernel, rfl, by decide +kernel, by decide +kernel⟩
theorem sc_nearest_for : FnScope ["world", "lot", "front", "step", "others"] ["world", "lot", "front", "step"] (defScope s_nearest_for) := ⟨rfl, rfl, rfl, by decide +kernel, rfl, by decide +kernel, by decide +kernel⟩
theorem sc_best_gap : FnScope ["world", "lot", "front", "step", "nearest"] ["world", "lot", "front", "step"] (defScope s_best_gap) := ⟨rfl, rfl, rfl, by decide +kernel, rfl, by decide +kernel, by decide +kernel⟩
theorem sc_best_from : FnScope ["world", "lot", "front", "step", "gap", "whole", "moved"] ["world", "lot", "front", "step"] (defScope s_best_from) := ⟨rfl, rfl, rfl, by decide +kernel, rfl, by decide +kernel, by decide +kernel⟩
theorem sc_stepped : FnScope ["world", "standing", "step", "lot", "moved", "name", "row"] ["world", "standing", "step"] (defScope s_stepped) := ⟨rfl, rfl, rfl, by decide +kernel, rfl, by decide +kernel, by decide +kernel⟩
theorem sc_can_step : FnScope ["world", "standing", "lot", "front", "step"] ["world", "standing"] (defScope s_can_step) := ⟨rfl, rfl, rfl, by decide +kernel, rfl, by decide +kernel, by decide +kernel⟩
theorem sc_rows_by : FnScope ["world", "lot", "front", "step", "gap", "still", "back", "place", "name"] ["world", "lot", "front", "step", "gap"] (defScope s_rows_by) := ⟨rfl, rfl, rfl, by decide +kernel, rfl, by decide +kernel, by decide +kernel⟩
theorem sc_rows_for : FnScope ["world", "standing", "step", "lot", "front", "gap"] ["world", "standing", "step"] (defScope s_rows_for) := ⟨rfl, rfl, rfl, by decide +kernel, rfl, by decide +kernel, by decide +kernel⟩
theorem sc_has_folk : FnScope ["world", "lot", "name"] ["world", "lot"] (defScope s_has_folk) := ⟨rfl, rfl, rfl, by decide +kernel, rfl, by decide +kernel, by decide +kernel⟩
theorem sc_pulls_by : FnScope ["world", "lot", "front", "step", "others", "name"] ["world", "lot", "front", "step"] (defScope s_pulls_by) := ⟨rfl, rfl, rfl, by decide +kernel, rfl, by decide +kernel, by decide +kernel⟩
theorem sc_closed : FnScope ["world", "standing", "found", "changed", "lot", "step", "gap", "behind"] ["world", "standing"] (defScope s_closed) := ⟨rfl, rfl, rfl, by decide +kernel, rfl, by decide +kernel, by decide +kernel⟩
theorem sc_pulls : FnScope ["world", "standing"] ["world", "standing"] (defScope s_pulls) := ⟨rfl, rfl, rfl, by decide +kernel, rfl, by decide +kernel, by decide +kernel⟩
theorem sc_l_bag : FnScope ["script", "k", "cell"] ["script", "k"] (defScope s_l_bag) := ⟨rfl, rfl, rfl, by decide +kernel, rfl, by decide +kernel, by decide +kernel⟩
theorem sc_l_take : FnScope ["bag", "many", "found"] ["bag", "many"] (defScope s_l_take) := ⟨rfl, rfl, rfl, by decide +kernel, rfl, by decide +kernel, by decide +kernel⟩
theorem sc_l_of : FnScope ["bag", "some"] ["bag", "some"] (defScope s_l_of) := ⟨rfl, rfl, rfl, by decide +kernel, rfl, by decide +kernel, by decide +kernel⟩
theorem sc_l_lowest : FnScope ["top", "bottom", "one", "other"] ["top", "bottom"] (defScope s_l_lowest) := ⟨rfl, rfl, rfl, by decide +kernel, rfl, by decide +kernel, by decide +kernel⟩
theorem sc_l_plus : FnScope ["one", "other"] ["one", "other"] (defScope s_l_plus) := ⟨rfl, rfl, rfl, by decide +kernel, rfl, by decide +kernel, by decide +kernel⟩
theorem sc_l_minus : FnScope ["one", "other"] ["one", "other"] (defScope s_l_minus) := ⟨rfl, rfl, rfl, by decide +kernel, rfl, by decide +kernel, by decide +kernel⟩
theorem sc_l_times : FnScope ["part", "by"] ["part", "by"] (defScope s_l_times) := ⟨rfl, rfl, rfl, by decide +kernel, rfl, by decide +kernel, by decide +kernel⟩
theorem sc_l_less : FnScope ["one", "other"] ["one", "other"] (defScope s_l_less) := ⟨rfl, rfl, rfl, by decide +kernel, rfl, by decide +kernel, by decide +kernel⟩
theorem sc_l_least : FnScope ["one", "other"] ["one", "other"] (defScope s_l_least) := ⟨rfl, rfl, rfl, by decide +kernel, rfl, by decide +kernel, by decide +kernel⟩
theorem sc_l_world : FnScope ["bag", "most", "most_loads", "raft", "reach", "alike", "folk", "name", "own", "heavy", "loads"] ["bag", "most", "most_loads"] (defScope s_l_world) := ⟨rfl, rfl, rfl, by decide +kernel, rfl, by decide +kernel, by decide +kernel⟩
theorem sc_l_names : FnScope ["world", "one"] ["world"] (defScope s_l_names) := ⟨rfl, rfl, rfl, by decide +kernel, rfl, by decide +kernel, by decide +kernel⟩
theorem sc_l_folk : FnScope ["world", "one"] ["world"] (defScope s_l_folk) := ⟨rfl, rfl, rfl, by decide +kernel, rfl, by decide +kernel, by decide +kernel⟩
theorem sc_l_can_lie : FnScope ["world", "lot", "folk", "name"] ["world", "lot"] (defScope s_l_can_lie) := ⟨rfl, rfl, rfl, by decide +kernel, rfl, by decide +kernel, by decide +kernel⟩
theorem sc_l_place : FnScope ["bag", "world"] ["bag", "world"] (defScope s_l_place) := ⟨rfl, rfl, rfl, by decide +kernel, rfl, by decide +kernel, by decide +kernel⟩
theorem sc_l_rows : FnScope ["bag", "world", "lot", "name"] ["bag", "world", "lot"] (defScope s_l_rows) := ⟨rfl, rfl, rfl, by decide +kernel, rfl, by decide +kernel, by decide +kernel⟩
theorem sc_l_lot : FnScope ["bag", "world", "found", "name"] ["bag", "world"] (defScope s_l_lot) := ⟨rfl, rfl, rfl, by decide +kernel, rfl, by decide +kernel, by decide +kernel⟩
theorem sc_l_standing : FnScope ["bag", "world", "wide", "gap"] ["bag", "world"] (defScope s_l_standing) := ⟨rfl, rfl, rfl, by decide +kernel, rfl, by decide +kernel, by decide +kernel⟩
theorem sc_l_weight : FnScope ["world", "lot", "known", "one", "name"] ["world", "lot"] (defScope s_l_weight) := ⟨rfl, rfl, rfl, by decide +kernel, rfl, by decide +kernel, by decide +kernel⟩
theorem sc_l_aboard : FnScope ["standing", "row"] ["standing"] (defScope s_l_aboard) := ⟨rfl, rfl, rfl, by decide +kernel, rfl, by decide +kernel, by decide +kernel⟩
theorem sc_l_steps : FnScope ["world", "found", "way", "name", "heavy", "reach", "arm", "load", "weight"] ["world"] (defScope s_l_steps) := ⟨rfl, rfl, rfl, by decide +kernel, rfl, by decide +kernel, by decide +kernel⟩
theorem sc_l_after : FnScope ["world", "lot", "step", "moved", "there", "later", "name"] ["world", "lot", "step"] (defScope s_l_after) := ⟨rfl, rfl, rfl, by decide +kernel, rfl, by decide +kernel, by decide +kernel⟩
theorem sc_l_reach : FnScope ["world", "step", "one"] ["world", "step"] (defScope s_l_reach) := ⟨rfl, rfl, rfl, by decide +kernel, rfl, by decide +kernel, by decide +kernel⟩
theorem sc_l_nearest : FnScope ["world", "lot", "front", "step", "still", "whole", "near", "name"] ["world", "lot", "front", "step"] (defScope s_l_nearest) := ⟨rfl, rfl, rfl, by decide +kernel, rfl, by decide +kernel, by decide +kernel⟩
theorem sc_l_behind : FnScope ["world", "lot", "front", "step", "gap", "moved", "whole", "more", "total", "name"] ["world", "lot", "front", "step", "gap"] (defScope s_l_behind) := ⟨rfl, rfl, rfl, by decide +kernel, rfl, by decide +kernel, by decide +kernel⟩
theorem sc_l_best : FnScope ["world", "lot", "front", "step", "later", "near", "reach", "gap"] ["world", "lot", "front", "step"] (defScope s_l_best) := ⟨rfl, rfl, rfl, by decide +kernel, rfl, by decide +kernel, by decide +kernel⟩
theorem sc_l_near_standing : FnScope ["bag", "world", "standing", "lot", "step", "still", "whole", "edge", "name"] ["bag", "world"] (defScope s_l_near_standing) := ⟨rfl, rfl, rfl, by decide +kernel, rfl, by decide +kernel, by decide +kernel⟩
theorem sc_l_has_folk : FnScope ["world", "lot", "name"] ["world", "lot"] (defScope s_l_has_folk) := ⟨rfl, rfl, rfl, by decide +kernel, rfl, by decide +kernel, by decide +kernel⟩
theorem sc_l_slack : FnScope ["world", "lot", "front", "step", "others", "near", "name"] ["world", "lot", "front", "step"] (defScope s_l_slack) := ⟨rfl, rfl, rfl, by decide +kernel, rfl, by decide +kernel, by decide +kernel⟩
theorem sc_l_contrary : FnScope ["step"] ["step"] (defScope s_l_contrary) := ⟨rfl, rfl, rfl, by decide +kernel, rfl, by decide +kernel, by decide +kernel⟩
theorem sc_l_taken_best : FnScope ["world", "standing", "step", "rows"] ["world", "standing", "step"] (defScope s_l_taken_best) := ⟨rfl, rfl, rfl, by decide +kernel, rfl, by decide +kernel, by decide +kernel⟩
theorem sc_l_round : FnScope ["world", "standing", "step"] ["world", "standing", "step"] (defScope s_l_round) := ⟨rfl, rfl, rfl, by decide +kernel, rfl, by decide +kernel, by decide +kernel⟩
theorem sc_l_falls : FnScope ["world", "standing", "step", "fronts", "turn", "last", "ahead"] ["world", "standing", "step"] (defScope s_l_falls) := ⟨rfl, rfl, rfl, by decide +kernel, rfl, by decide +kernel, by decide +kernel⟩
theorem sc_law_k11 : FnScope ["script", "k", "bag", "world", "here", "told", "turn", "some", "front", "lot", "step"] ["script"] (defScope s_law_k11) := ⟨rfl, rfl, rfl, by decide +kernel, rfl, by decide +kernel, by decide +kernel⟩
set_option maxHeartbeats 0 in
structure Tx (K : PySem.W.Frag) (mg : Str → Option Value) where
  a_lowest : Addr
  fd_lowest : FuncData
  F_lowest : Fun K "lowest" "lowest" s_lowest a_lowest fd_lowest
  m_lowest : mg "lowest" = some (.ref a_lowest)
  b_lowest : Binds K fd_lowest ["top", "bottom"] []
  a_plus : Addr
  fd_plus : FuncData
  F_plus : Fun K "plus" "plus" s_plus a_plus fd_plus
  m_plus : mg "plus" = some (.ref a_plus)
  b_plus : Binds K fd_plus ["one", "other"] []
  a_less : Addr
  fd_less : FuncData
  F_less : Fun K "less" "less" s_less a_less fd_less
  m_less : mg "less" = some (.ref a_less)
  b_less : Binds K fd_less ["one", "other"] []
  a_times : Addr
  fd_times : FuncData
  F_times : Fun K "times" "times" s_times a_times fd_times
  m_times : mg "times" = some (.ref a_times)
  b_times : Binds K fd_times ["one", "top", "bottom"] []
  a_is_lesser : Addr
  fd_is_lesser : FuncData
  F_is_lesser : Fun K "is_lesser" "is_lesser" s_is_lesser a_is_lesser fd_is_lesser
  m_is_lesser : mg "is_lesser" = some (.ref a_is_lesser)
  b_is_lesser : Binds K fd_is_lesser ["one", "other"] []
  a_lesser : Addr
  fd_lesser : FuncData
  F_lesser : Fun K "lesser" "lesser" s_lesser a_lesser fd_lesser
  m_lesser : mg "lesser" = some (.ref a_lesser)
  b_lesser : Binds K fd_lesser ["one", "other"] []
  a_folk_of : Addr
  fd_folk_of : FuncData
  F_folk_of : Fun K "folk_of" "folk_of" s_folk_of a_folk_of fd_folk_of
  m_folk_of : mg "folk_of" = some (.ref a_folk_of)
  b_folk_of : Binds K fd_folk_of ["world"] []
  a_loads_of : Addr
  fd_loads_of : FuncData
  F_loads_of : Fun K "loads_of" "loads_of" s_loads_of a_loads_of fd_loads_of
  m_loads_of : mg "loads_of" = some (.ref a_loads_of)
  b_loads_of : Binds K fd_loads_of ["world"] []
  a_heavies : Addr
  fd_heavies : FuncData
  F_heavies : Fun K "heavies" "heavies" s_heavies a_heavies fd_heavies
  m_heavies : mg "heavies" = some (.ref a_heavies)
  b_heavies : Binds K fd_heavies ["world"] []
  a_can_be_aboard : Addr
  fd_can_be_aboard : FuncData
  F_can_be_aboard : Fun K "can_be_aboard" "can_be_aboard" s_can_be_aboard a_can_be_aboard fd_can_be_aboard
  m_can_be_aboard : mg "can_be_aboard" = some (.ref a_can_be_aboard)
  b_can_be_aboard : Binds K fd_can_be_aboard ["world", "lot"] []
  a_aboard_of : Addr
  fd_aboard_of : FuncData
  F_aboard_of : Fun K "aboard_of" "aboard_of" s_aboard_of a_aboard_of fd_aboard_of
  m_aboard_of : mg "aboard_of" = some (.ref a_aboard_of)
  b_aboard_of : Binds K fd_aboard_of ["standing"] []
  a_weight_of : Addr
  fd_weight_of : FuncData
  F_weight_of : Fun K "weight_of" "weight_of" s_weight_of a_weight_of fd_weight_of
  m_weight_of : mg "weight_of" = some (.ref a_weight_of)
  b_weight_of : Binds K fd_weight_of ["world", "lot"] []
  a_whole_of : Addr
  fd_whole_of : FuncData
  F_whole_of : Fun K "whole_of" "whole_of" s_whole_of a_whole_of fd_whole_of
  m_whole_of : mg "whole_of" = some (.ref a_whole_of)
  b_whole_of : Binds K fd_whole_of ["world", "lot"] []
  a_drive_of : Addr
  fd_drive_of : FuncData
  F_drive_of : Fun K "drive_of" "drive_of" s_drive_of a_drive_of fd_drive_of
  m_drive_of : mg "drive_of" = some (.ref a_drive_of)
  b_drive_of : Binds K fd_drive_of ["world", "rows"] []
  a_front_of : Addr
  fd_front_of : FuncData
  F_front_of : Fun K "front_of" "front_of" s_front_of a_front_of fd_front_of
  m_front_of : mg "front_of" = some (.ref a_front_of)
  b_front_of : Binds K fd_front_of ["world", "standing"] []
  a_gap_by : Addr
  fd_gap_by : FuncData
  F_gap_by : Fun K "gap_by" "gap_by" s_gap_by a_gap_by fd_gap_by
  m_gap_by : mg "gap_by" = some (.ref a_gap_by)
  b_gap_by : Binds K fd_gap_by ["world", "front", "rows"] []
  a_gap_behind : Addr
  fd_gap_behind : FuncData
  F_gap_behind : Fun K "gap_behind" "gap_behind" s_gap_behind a_gap_behind fd_gap_behind
  m_gap_behind : mg "gap_behind" = some (.ref a_gap_behind)
  b_gap_behind : Binds K fd_gap_behind ["world", "standing", "rows"] []
  a_all_back : Addr
  fd_all_back : FuncData
  F_all_back : Fun K "all_back" "all_back" s_all_back a_all_back fd_all_back
  m_all_back : mg "all_back" = some (.ref a_all_back)
  b_all_back : Binds K fd_all_back ["world", "lot"] []
  a_least_by : Addr
  fd_least_by : FuncData
  F_least_by : Fun K "least_by" "least_by" s_least_by a_least_by fd_least_by
  m_least_by : mg "least_by" = some (.ref a_least_by)
  b_least_by : Binds K fd_least_by ["world", "lot", "front"] []
  a_gaps : Addr
  fd_gaps : FuncData
  F_gaps : Fun K "gaps" "gaps" s_gaps a_gaps fd_gaps
  m_gaps : mg "gaps" = some (.ref a_gaps)
  b_gaps : Binds K fd_gaps ["world", "standing"] []
  a_is_step : Addr
  fd_is_step : FuncData
  F_is_step : Fun K "is_step" "is_step" s_is_step a_is_step fd_is_step
  m_is_step : mg "is_step" = some (.ref a_is_step)
  b_is_step : Binds K fd_is_step ["world", "thing"] []
  a_one_of : Addr
  fd_one_of : FuncData
  F_one_of : Fun K "one_of" "one_of" s_one_of a_one_of fd_one_of
  m_one_of : mg "one_of" = some (.ref a_one_of)
  b_one_of : Binds K fd_one_of ["world", "name"] []
  a_all_steps : Addr
  fd_all_steps : FuncData
  F_all_steps : Fun K "all_steps" "all_steps" s_all_steps a_all_steps fd_all_steps
  m_all_steps : mg "all_steps" = some (.ref a_all_steps)
  b_all_steps : Binds K fd_all_steps ["world"] []
  a_movers : Addr
  fd_movers : FuncData
  F_movers : Fun K "movers" "movers" s_movers a_movers fd_movers
  m_movers : mg "movers" = some (.ref a_movers)
  b_movers : Binds K fd_movers ["step"] []
  a_lot_behind : Addr
  fd_lot_behind : FuncData
  F_lot_behind : Fun K "lot_behind" "lot_behind" s_lot_behind a_lot_behind fd_lot_behind
  m_lot_behind : mg "lot_behind" = some (.ref a_lot_behind)
  b_lot_behind : Binds K fd_lot_behind ["world", "lot", "step"] []
  a_reach_of : Addr
  fd_reach_of : FuncData
  F_reach_of : Fun K "reach_of" "reach_of" s_reach_of a_reach_of fd_reach_of
  m_reach_of : mg "reach_of" = some (.ref a_reach_of)
  b_reach_of : Binds K fd_reach_of ["world", "step"] []
  a_nearest_for : Addr
  fd_nearest_for : FuncData
  F_nearest_for : Fun K "nearest_for" "nearest_for" s_nearest_for a_nearest_for fd_nearest_for
  m_nearest_for : mg "nearest_for" = some (.ref a_nearest_for)
  b_nearest_for : Binds K fd_nearest_for ["world", "lot", "front", "step"] []
  a_best_gap : Addr
  fd_best_gap : FuncData
  F_best_gap : Fun K "best_gap" "best_gap" s_best_gap a_best_gap fd_best_gap
  m_best_gap : mg "best_gap" = some (.ref a_best_gap)
  b_best_gap : Binds K fd_best_gap ["world", "lot", "front", "step"] []
  a_best_from : Addr
  fd_best_from : FuncData
  F_best_from : Fun K "best_from" "best_from" s_best_from a_best_from fd_best_from
  m_best_from : mg "best_from" = some (.ref a_best_from)
  b_best_from : Binds K fd_best_from ["world", "lot", "front", "step"] []
  a_stepped : Addr
  fd_stepped : FuncData
  F_stepped : Fun K "stepped" "stepped" s_stepped a_stepped fd_stepped
  m_stepped : mg "stepped" = some (.ref a_stepped)
  b_stepped : Binds K fd_stepped ["world", "standing", "step"] []
  a_can_step : Addr
  fd_can_step : FuncData
  F_can_step : Fun K "can_step" "can_step" s_can_step a_can_step fd_can_step
  m_can_step : mg "can_step" = some (.ref a_can_step)
  b_can_step : Binds K fd_can_step ["world", "standing"] []
  a_rows_by : Addr
  fd_rows_by : FuncData
  F_rows_by : Fun K "rows_by" "rows_by" s_rows_by a_rows_by fd_rows_by
  m_rows_by : mg "rows_by" = some (.ref a_rows_by)
  b_rows_by : Binds K fd_rows_by ["world", "lot", "front", "step", "gap"] []
  a_rows_for : Addr
  fd_rows_for : FuncData
  F_rows_for : Fun K "rows_for" "rows_for" s_rows_for a_rows_for fd_rows_for
  m_rows_for : mg "rows_for" = some (.ref a_rows_for)
  b_rows_for : Binds K fd_rows_for ["world", "standing", "step"] []
  a_has_folk : Addr
  fd_has_folk : FuncData
  F_has_folk : Fun K "has_folk" "has_folk" s_has_folk a_has_folk fd_has_folk
  m_has_folk : mg "has_folk" = some (.ref a_has_folk)
  b_has_folk : Binds K fd_has_folk ["world", "lot"] []
  a_pulls_by : Addr
  fd_pulls_by : FuncData
  F_pulls_by : Fun K "pulls_by" "pulls_by" s_pulls_by a_pulls_by fd_pulls_by
  m_pulls_by : mg "pulls_by" = some (.ref a_pulls_by)
  b_pulls_by : Binds K fd_pulls_by ["world", "lot", "front", "step"] []
  a_closed : Addr
  fd_closed : FuncData
  F_closed : Fun K "closed" "closed" s_closed a_closed fd_closed
  m_closed : mg "closed" = some (.ref a_closed)
  b_closed : Binds K fd_closed ["world", "standing"] []
  a_pulls : Addr
  fd_pulls : FuncData
  F_pulls : Fun K "pulls" "pulls" s_pulls a_pulls fd_pulls
  m_pulls : mg "pulls" = some (.ref a_pulls)
  b_pulls : Binds K fd_pulls ["world", "standing"] []
  a_l_bag : Addr
  fd_l_bag : FuncData
  F_l_bag : Fun K "_law_bag" "_law_bag" s_l_bag a_l_bag fd_l_bag
  m_l_bag : mg "_law_bag" = some (.ref a_l_bag)
  b_l_bag : Binds K fd_l_bag ["script", "k"] []
  a_l_take : Addr
  fd_l_take : FuncData
  F_l_take : Fun K "_law_take" "_law_take" s_l_take a_l_take fd_l_take
  m_l_take : mg "_law_take" = some (.ref a_l_take)
  b_l_take : Binds K fd_l_take ["bag", "many"] []
  a_l_of : Addr
  fd_l_of : FuncData
  F_l_of : Fun K "_law_of" "_law_of" s_l_of a_l_of fd_l_of
  m_l_of : mg "_law_of" = some (.ref a_l_of)
  b_l_of : Binds K fd_l_of ["bag", "some"] []
  a_l_lowest : Addr
  fd_l_lowest : FuncData
  F_l_lowest : Fun K "_law_lowest" "_law_lowest" s_l_lowest a_l_lowest fd_l_lowest
  m_l_lowest : mg "_law_lowest" = some (.ref a_l_lowest)
  b_l_lowest : Binds K fd_l_lowest ["top", "bottom"] []
  a_l_plus : Addr
  fd_l_plus : FuncData
  F_l_plus : Fun K "_law_plus" "_law_plus" s_l_plus a_l_plus fd_l_plus
  m_l_plus : mg "_law_plus" = some (.ref a_l_plus)
  b_l_plus : Binds K fd_l_plus ["one", "other"] []
  a_l_minus : Addr
  fd_l_minus : FuncData
  F_l_minus : Fun K "_law_minus" "_law_minus" s_l_minus a_l_minus fd_l_minus
  m_l_minus : mg "_law_minus" = some (.ref a_l_minus)
  b_l_minus : Binds K fd_l_minus ["one", "other"] []
  a_l_times : Addr
  fd_l_times : FuncData
  F_l_times : Fun K "_law_times" "_law_times" s_l_times a_l_times fd_l_times
  m_l_times : mg "_law_times" = some (.ref a_l_times)
  b_l_times : Binds K fd_l_times ["part", "by"] []
  a_l_less : Addr
  fd_l_less : FuncData
  F_l_less : Fun K "_law_less" "_law_less" s_l_less a_l_less fd_l_less
  m_l_less : mg "_law_less" = some (.ref a_l_less)
  b_l_less : Binds K fd_l_less ["one", "other"] []
  a_l_least : Addr
  fd_l_least : FuncData
  F_l_least : Fun K "_law_least" "_law_least" s_l_least a_l_least fd_l_least
  m_l_least : mg "_law_least" = some (.ref a_l_least)
  b_l_least : Binds K fd_l_least ["one", "other"] []
  a_l_world : Addr
  fd_l_world : FuncData
  F_l_world : Fun K "_law_world" "_law_world" s_l_world a_l_world fd_l_world
  m_l_world : mg "_law_world" = some (.ref a_l_world)
  b_l_world : Binds K fd_l_world ["bag", "most", "most_loads"] []
  a_l_names : Addr
  fd_l_names : FuncData
  F_l_names : Fun K "_law_names" "_law_names" s_l_names a_l_names fd_l_names
  m_l_names : mg "_law_names" = some (.ref a_l_names)
  b_l_names : Binds K fd_l_names ["world"] []
  a_l_folk : Addr
  fd_l_folk : FuncData
  F_l_folk : Fun K "_law_folk" "_law_folk" s_l_folk a_l_folk fd_l_folk
  m_l_folk : mg "_law_folk" = some (.ref a_l_folk)
  b_l_folk : Binds K fd_l_folk ["world"] []
  a_l_can_lie : Addr
  fd_l_can_lie : FuncData
  F_l_can_lie : Fun K "_law_can_lie" "_law_can_lie" s_l_can_lie a_l_can_lie fd_l_can_lie
  m_l_can_lie : mg "_law_can_lie" = some (.ref a_l_can_lie)
  b_l_can_lie : Binds K fd_l_can_lie ["world", "lot"] []
  a_l_place : Addr
  fd_l_place : FuncData
  F_l_place : Fun K "_law_place" "_law_place" s_l_place a_l_place fd_l_place
  m_l_place : mg "_law_place" = some (.ref a_l_place)
  b_l_place : Binds K fd_l_place ["bag", "world"] []
  a_l_rows : Addr
  fd_l_rows : FuncData
  F_l_rows : Fun K "_law_rows" "_law_rows" s_l_rows a_l_rows fd_l_rows
  m_l_rows : mg "_law_rows" = some (.ref a_l_rows)
  b_l_rows : Binds K fd_l_rows ["bag", "world", "lot"] []
  a_l_lot : Addr
  fd_l_lot : FuncData
  F_l_lot : Fun K "_law_lot" "_law_lot" s_l_lot a_l_lot fd_l_lot
  m_l_lot : mg "_law_lot" = some (.ref a_l_lot)
  b_l_lot : Binds K fd_l_lot ["bag", "world"] []
  a_l_standing : Addr
  fd_l_standing : FuncData
  F_l_standing : Fun K "_law_standing" "_law_standing" s_l_standing a_l_standing fd_l_standing
  m_l_standing : mg "_law_standing" = some (.ref a_l_standing)
  b_l_standing : Binds K fd_l_standing ["bag", "world"] []
  a_l_weight : Addr
  fd_l_weight : FuncData
  F_l_weight : Fun K "_law_weight" "_law_weight" s_l_weight a_l_weight fd_l_weight
  m_l_weight : mg "_law_weight" = some (.ref a_l_weight)
  b_l_weight : Binds K fd_l_weight ["world", "lot"] []
  a_l_aboard : Addr
  fd_l_aboard : FuncData
  F_l_aboard : Fun K "_law_aboard" "_law_aboard" s_l_aboard a_l_aboard fd_l_aboard
  m_l_aboard : mg "_law_aboard" = some (.ref a_l_aboard)
  b_l_aboard : Binds K fd_l_aboard ["standing"] []
  a_l_steps : Addr
  fd_l_steps : FuncData
  F_l_steps : Fun K "_law_steps" "_law_steps" s_l_steps a_l_steps fd_l_steps
  m_l_steps : mg "_law_steps" = some (.ref a_l_steps)
  b_l_steps : Binds K fd_l_steps ["world"] []
  a_l_after : Addr
  fd_l_after : FuncData
  F_l_after : Fun K "_law_after" "_law_after" s_l_after a_l_after fd_l_after
  m_l_after : mg "_law_after" = some (.ref a_l_after)
  b_l_after : Binds K fd_l_after ["world", "lot", "step"] []
  a_l_reach : Addr
  fd_l_reach : FuncData
  F_l_reach : Fun K "_law_reach" "_law_reach" s_l_reach a_l_reach fd_l_reach
  m_l_reach : mg "_law_reach" = some (.ref a_l_reach)
  b_l_reach : Binds K fd_l_reach ["world", "step"] []
  a_l_nearest : Addr
  fd_l_nearest : FuncData
  F_l_nearest : Fun K "_law_nearest" "_law_nearest" s_l_nearest a_l_nearest fd_l_nearest
  m_l_nearest : mg "_law_nearest" = some (.ref a_l_nearest)
  b_l_nearest : Binds K fd_l_nearest ["world", "lot", "front", "step"] []
  a_l_behind : Addr
  fd_l_behind : FuncData
  F_l_behind : Fun K "_law_behind" "_law_behind" s_l_behind a_l_behind fd_l_behind
  m_l_behind : mg "_law_behind" = some (.ref a_l_behind)
  b_l_behind : Binds K fd_l_behind ["world", "lot", "front", "step", "gap"] []
  a_l_best : Addr
  fd_l_best : FuncData
  F_l_best : Fun K "_law_best" "_law_best" s_l_best a_l_best fd_l_best
  m_l_best : mg "_law_best" = some (.ref a_l_best)
  b_l_best : Binds K fd_l_best ["world", "lot", "front", "step"] []
  a_l_near_standing : Addr
  fd_l_near_standing : FuncData
  F_l_near_standing : Fun K "_law_near_standing" "_law_near_standing" s_l_near_standing a_l_near_standing fd_l_near_standing
  m_l_near_standing : mg "_law_near_standing" = some (.ref a_l_near_standing)
  b_l_near_standing : Binds K fd_l_near_standing ["bag", "world"] []
  a_l_has_folk : Addr
  fd_l_has_folk : FuncData
  F_l_has_folk : Fun K "_law_has_folk" "_law_has_folk" s_l_has_folk a_l_has_folk fd_l_has_folk
  m_l_has_folk : mg "_law_has_folk" = some (.ref a_l_has_folk)
  b_l_has_folk : Binds K fd_l_has_folk ["world", "lot"] []
  a_l_slack : Addr
  fd_l_slack : FuncData
  F_l_slack : Fun K "_law_slack" "_law_slack" s_l_slack a_l_slack fd_l_slack
  m_l_slack : mg "_law_slack" = some (.ref a_l_slack)
  b_l_slack : Binds K fd_l_slack ["world", "lot", "front", "step"] []
  a_l_contrary : Addr
  fd_l_contrary : FuncData
  F_l_contrary : Fun K "_law_contrary" "_law_contrary" s_l_contrary a_l_contrary fd_l_contrary
  m_l_contrary : mg "_law_contrary" = some (.ref a_l_contrary)
  b_l_contrary : Binds K fd_l_contrary ["step"] []
  a_l_taken_best : Addr
  fd_l_taken_best : FuncData
  F_l_taken_best : Fun K "_law_taken_best" "_law_taken_best" s_l_taken_best a_l_taken_best fd_l_taken_best
  m_l_taken_best : mg "_law_taken_best" = some (.ref a_l_taken_best)
  b_l_taken_best : Binds K fd_l_taken_best ["world", "standing", "step"] []
  a_l_round : Addr
  fd_l_round : FuncData
  F_l_round : Fun K "_law_round" "_law_round" s_l_round a_l_round fd_l_round
  m_l_round : mg "_law_round" = some (.ref a_l_round)
  b_l_round : Binds K fd_l_round ["world", "standing", "step"] []
  a_l_falls : Addr
  fd_l_falls : FuncData
  F_l_falls : Fun K "_law_falls" "_law_falls" s_l_falls a_l_falls fd_l_falls
  m_l_falls : mg "_law_falls" = some (.ref a_l_falls)
  b_l_falls : Binds K fd_l_falls ["world", "standing", "step"] []
  a_law_k11 : Addr
  fd_law_k11 : FuncData
  F_law_k11 : Fun K "law" "law" s_law_k11 a_law_k11 fd_law_k11
  m_law_k11 : mg "law" = some (.ref a_law_k11)
  b_law_k11 : Binds K fd_law_k11 ["script"] []
  a_NOUGHT : Addr
  m_NOUGHT : mg "NOUGHT" = some (.ref a_NOUGHT)
  t_NOUGHT : ∀ H : Hp, SqT K H a_NOUGHT [.int 0, .int 1]
  k_OFF : Tok
  m_OFF : mg "OFF" = some (.str (Str.ofString "off") k_OFF)
  k_ON : Tok
  m_ON : mg "ON" = some (.str (Str.ofString "on") k_ON)
  m_abs : mg "abs" = none
  m_all : mg "all" = none
  m_dict : mg "dict" = none
  m_isinstance : mg "isinstance" = none
  m_len : mg "len" = none
  m_list : mg "list" = none
  m_min : mg "min" = none
  m_range : mg "range" = none
  m_sorted : mg "sorted" = none
  m_str : mg "str" = none
  m_sum : mg "sum" = none
  m_tuple : mg "tuple" = none
section
variable {P : Program} {w : World} {K : PySem.W.Frag} {mg : Str → Option Value} {base : Heap}
theorem ok_lowest (T : Tx K mg) : FnOk P w K mg base CX0 1 T.a_lowest T.fd_lowest ["top", "bottom"] (spF K 2 f_lowest) :=
  mkFn T.F_lowest sc_lowest false fun cdv A outer s H E hr =>
    have nd := sc_lowest.nd
    (zCons (zPar (i := 2) (j := 3) rfl nd rfl rfl (by decide) rfl rfl (oCons (oCallB call_abs ckAbs rfl T.m_abs (by decide +kernel) (oCons (oVar (pv 0)) oNil)) (oCons (oVar (pv 1)) oNil)) rfl)
      (zCons (zWhile 100000 PassesOwn.never (qCmp op_gt okGt (oVar (pv 3)) (oK pe_int (fun _ => .int _)) (nomark _)) (zCons (zPar (i := 2) (j := 3) rfl nd rfl rfl (by decide) rfl rfl (oCons (oVar (pv 3)) (oCons (oBin op_mod okMod (oVar (pv 2)) (oVar (pv 3))) oNil)) rfl)
      zNil))
      (zCons (zRet (oTup (oCons (oBin op_fdivW okDiv (oVar (pv 0)) (oVar (pv 2))) (oCons (oBin op_fdivW okDiv (oVar (pv 1)) (oVar (pv 2))) oNil))))
      zNil)))
theorem ok_plus (T : Tx K mg) : FnOk P w K mg base CX0 2 T.a_plus T.fd_plus ["one", "other"] (spF K 2 f_plus) :=
  mkFn T.F_plus sc_plus false fun cdv A outer s H E hr =>
    have nd := sc_plus.nd
    (zCons (zRet (oCall (ok_lowest T) (hr.mono (by decide)) rfl T.m_lowest T.F_lowest.kp T.b_lowest (oCons (oBin opAdd okAdd (oBin op_mulW okMul (oIx (ixAny hr) okIx (oVar (pv 0)) (oK pe_int (fun _ => .int _)) (fun _ _ => rfl)) (oIx (ixAny hr) okIx (oVar (pv 1)) (oK pe_int (fun _ => .int _)) (fun _ _ => rfl))) (oBin op_mulW okMul (oIx (ixAny hr) okIx (oVar (pv 1)) (oK pe_int (fun _ => .int _)) (fun _ _ => rfl)) (oIx (ixAny hr) okIx (oVar (pv 0)) (oK pe_int (fun _ => .int _)) (fun _ _ => rfl)))) (oCons (oBin op_mulW okMul (oIx (ixAny hr) okIx (oVar (pv 0)) (oK pe_int (fun _ => .int _)) (fun _ _ => rfl)) (oIx (ixAny hr) okIx (oVar (pv 1)) (oK pe_int (fun _ => .int _)) (fun _ _ => rfl))) oNil)) (len_cons (len_cons (fun _ _ _ _ h => len_nil h)))))
      zNil)
theorem ok_less (T : Tx K mg) : FnOk P w K mg base CX0 2 T.a_less T.fd_less ["one", "other"] (spF K 2 f_less) :=
  mkFn T.F_less sc_less false fun cdv A outer s H E hr =>
    have nd := sc_less.nd
    (zCons (zRet (oCall (ok_lowest T) (hr.mono (by decide)) rfl T.m_lowest T.F_lowest.kp T.b_lowest (oCons (oBin op_sub okSub (oBin op_mulW okMul (oIx (ixAny hr) okIx (oVar (pv 0)) (oK pe_int (fun _ => .int _)) (fun _ _ => rfl)) (oIx (ixAny hr) okIx (oVar (pv 1)) (oK pe_int (fun _ => .int _)) (fun _ _ => rfl))) (oBin op_mulW okMul (oIx (ixAny hr) okIx (oVar (pv 1)) (oK pe_int (fun _ => .int _)) (fun _ _ => rfl)) (oIx (ixAny hr) okIx (oVar (pv 0)) (oK pe_int (fun _ => .int _)) (fun _ _ => rfl)))) (oCons (oBin op_mulW okMul (oIx (ixAny hr) okIx (oVar (pv 0)) (oK pe_int (fun _ => .int _)) (fun _ _ => rfl)) (oIx (ixAny hr) okIx (oVar (pv 1)) (oK pe_int (fun _ => .int _)) (fun _ _ => rfl))) oNil)) (len_cons (len_cons (fun _ _ _ _ h => len_nil h)))))
      zNil)
theorem ok_times (T : Tx K mg) : FnOk P w K mg base CX0 2 T.a_times T.fd_times ["one", "top", "bottom"] (spF K 3 f_times) :=
  mkFn T.F_times sc_times false fun cdv A outer s H E hr =>
    have nd := sc_times.nd
    (zCons (zRet (oCall (ok_lowest T) (hr.mono (by decide)) rfl T.m_lowest T.F_lowest.kp T.b_lowest (oCons (oBin op_mulW okMul (oIx (ixAny hr) okIx (oVar (pv 0)) (oK pe_int (fun _ => .int _)) (fun _ _ => rfl)) (oVar (pv 1))) (oCons (oBin op_mulW okMul (oIx (ixAny hr) okIx (oVar (pv 0)) (oK pe_int (fun _ => .int _)) (fun _ _ => rfl)) (oVar (pv 2))) oNil)) (len_cons (len_cons (fun _ _ _ _ h => len_nil h)))))
      zNil)
theorem ok_is_lesser (T : Tx K mg) : FnOk P w K mg base CX0 1 T.a_is_lesser T.fd_is_lesser ["one", "other"] (spF K 2 f_is_lesser) :=
  mkFn T.F_is_lesser sc_is_lesser false fun cdv A outer s H E hr =>
    have nd := sc_is_lesser.nd
    (zCons (zRet (oCmp opLt okLt (oBin op_mulW okMul (oIx (ixAny hr) okIx (oVar (pv 0)) (oK pe_int (fun _ => .int _)) (fun _ _ => rfl)) (oIx (ixAny hr) okIx (oVar (pv 1)) (oK pe_int (fun _ => .int _)) (fun _ _ => rfl))) (oBin op_mulW okMul (oIx (ixAny hr) okIx (oVar (pv 1)) (oK pe_int (fun _ => .int _)) (fun _ _ => rfl)) (oIx (ixAny hr) okIx (oVar (pv 0)) (oK pe_int (fun _ => .int _)) (fun _ _ => rfl))) (nomark _)))
      zNil)
theorem ok_lesser (T : Tx K mg) : FnOk P w K mg base CX0 2 T.a_lesser T.fd_lesser ["one", "other"] (spF K 2 f_lesser) :=
  mkFn T.F_lesser sc_lesser false fun cdv A outer s H E hr =>
    have nd := sc_lesser.nd
    (zCons (zRet (oIf (qVal (oCall (ok_is_lesser T) (hr.mono (by decide)) rfl T.m_is_lesser T.F_is_lesser.kp T.b_is_lesser (oCons (oVar (pv 0)) (oCons (oVar (pv 1)) oNil)) (len_cons (len_cons (fun _ _ _ _ h => len_nil h))))) (oVar (pv 0)) (oVar (pv 1))))
      zNil)
theorem ok_folk_of (T : Tx K mg) : FnOk P w K mg base CX0 1 T.a_folk_of T.fd_folk_of ["world"] (spF K 1 f_folk_of) :=
  mkFn T.F_folk_of sc_folk_of false fun cdv A outer s H E hr =>
    have nd := sc_folk_of.nd
    (zCons (zRet (oComp (own := [("one", 1)]) [1] rfl (by decide) rfl nd (iSeq (oIx (ixAny hr) okIx (oVar (pv 0)) (oK pe_int (fun _ => .int _)) (fun _ _ => rfl))) (by kernel_rfl) (fun _ _ _ _ _ => (gNameOk (i := 1) nd rfl (by first | exact .inl rfl | exact .inr rfl))) (fun _ _ _ _ _ => tsNil) (fun _ _ _ _ _ => (oIx (ixAny hr) okIx (oVar (pv 1)) (oK pe_int (fun _ => .int _)) (fun _ _ => rfl)))))
      zNil)
theorem ok_loads_of (T : Tx K mg) : FnOk P w K mg base CX0 1 T.a_loads_of T.fd_loads_of ["world"] (spF K 1 f_loads_of) :=
  mkFn T.F_loads_of sc_loads_of false fun cdv A outer s H E hr =>
    have nd := sc_loads_of.nd
    (zCons (zRet (oComp (own := [("one", 1)]) [1] rfl (by decide) rfl nd (iSeq (oIx (ixAny hr) okIx (oVar (pv 0)) (oK pe_int (fun _ => .int _)) (fun _ _ => rfl))) (by kernel_rfl) (fun _ _ _ _ _ => (gNameOk (i := 1) nd rfl (by first | exact .inl rfl | exact .inr rfl))) (fun _ _ _ _ _ => tsNil) (fun _ _ _ _ _ => (oIx (ixAny hr) okIx (oVar (pv 1)) (oK pe_int (fun _ => .int _)) (fun _ _ => rfl)))))
      zNil)
theorem ok_heavies (T : Tx K mg) : FnOk P w K mg base CX0 1 T.a_heavies T.fd_heavies ["world"] (spF K 1 f_heavies) :=
  mkFn T.F_heavies sc_heavies false fun cdv A outer s H E hr =>
    have nd := sc_heavies.nd
    (zCons (zRet (oDictK rfl rfl T.m_dict (by decide +kernel) (oComp (own := [("one", 1)]) [1] rfl (by decide) rfl nd (iSeq (oBin opAdd okAdd (oIx (ixAny hr) okIx (oVar (pv 0)) (oK pe_int (fun _ => .int _)) (fun _ _ => rfl)) (oIx (ixAny hr) okIx (oVar (pv 0)) (oK pe_int (fun _ => .int _)) (fun _ _ => rfl)))) (by kernel_rfl) (fun _ _ _ _ _ => (gNameOk (i := 1) nd rfl (by first | exact .inl rfl | exact .inr rfl))) (fun _ _ _ _ _ => tsNil) (fun _ _ _ _ _ => (oTup (oCons (oIx (ixAny hr) okIx (oVar (pv 1)) (oK pe_int (fun _ => .int _)) (fun _ _ => rfl)) (oCons (oIx (ixAny hr) okIx (oVar (pv 1)) (oK pe_int (fun _ => .int _)) (fun _ _ => rfl)) oNil)))))))
      zNil)
theorem ok_can_be_aboard (T : Tx K mg) : FnOk P w K mg base CX0 2 T.a_can_be_aboard T.fd_can_be_aboard ["world", "lot"] (spF K 2 f_can_be_aboard) :=
  mkFn T.F_can_be_aboard sc_can_be_aboard false fun cdv A outer s H E hr =>
    have nd := sc_can_be_aboard.nd
    (zCons (zSetComp (i := 2) (own := [("name", 3)]) [3] rfl (by decide) rfl nd rfl rfl (sw_true rfl rfl rfl (by decide +kernel)) (iSeq (oVar (pv 1))) (by kernel_rfl) (fun _ _ _ _ _ => (gNameOk (i := 3) nd rfl (by first | exact .inl rfl | exact .inr rfl))) (fun _ _ _ _ _ => (tsOne (qCmp (opIn hr) okIn (oVar (pv 3)) (oCall (ok_folk_of T) (hr.mono (by decide)) rfl T.m_folk_of T.F_folk_of.kp T.b_folk_of (oCons (oVar (pv 0)) oNil) (len_cons (fun _ _ _ _ h => len_nil h))) (by with_unfolding_all rfl)))) (fun _ _ _ _ _ => (oVar (pv 3))))
      (zCons (zRet (oOr (oCmp (op_eqD hr.units) okEq (oCallB clLen ckLen rfl T.m_len (by decide +kernel) (oCons (oVar (pv 2)) oNil)) (oCallB clLen ckLen rfl T.m_len (by decide +kernel) (oCons (oVar (pv 1)) oNil)) (nomark _)) (oOne (oCmp (op_neD hr.units) okNe (oVar (pv 2)) (oLst oNil) (nomark _)))))
      zNil))
theorem ok_aboard_of (T : Tx K mg) : FnOk P w K mg base CX0 1 T.a_aboard_of T.fd_aboard_of ["standing"] (spF K 1 f_aboard_of) :=
  mkFn T.F_aboard_of sc_aboard_of false fun cdv A outer s H E hr =>
    have nd := sc_aboard_of.nd
    (zCons (zRet (oCallT clTup (ckTup false) rfl T.m_tuple (by decide +kernel) (oCons (oComp (own := [("row", 1)]) [1] rfl (by decide) rfl nd (iSeq (oIx (ixAny hr) okIx (oVar (pv 0)) (oK pe_int (fun _ => .int _)) (fun _ _ => rfl))) (by kernel_rfl) (fun _ _ _ _ _ => (gNameOk (i := 1) nd rfl (by first | exact .inl rfl | exact .inr rfl))) (fun _ _ _ _ _ => tsNil) (fun _ _ _ _ _ => (oIx (ixAny hr) okIx (oVar (pv 1)) (oK pe_int (fun _ => .int _)) (fun _ _ => rfl)))) oNil)))
      zNil)
theorem ok_weight_of (T : Tx K mg) : FnOk P w K mg base CX0 2 T.a_weight_of T.fd_weight_of ["world", "lot"] (spF K 2 f_weight_of) :=
  mkFn T.F_weight_of sc_weight_of false fun cdv A outer s H E hr =>
    have nd := sc_weight_of.nd
    (zCons (zSet (i := 2) nd rfl (by first | exact .inl rfl | exact .inr rfl) (oCall (ok_heavies T) (hr.mono (by decide)) rfl T.m_heavies T.F_heavies.kp T.b_heavies (oCons (oVar (pv 0)) oNil) (len_cons (fun _ _ _ _ h => len_nil h))))
      (zCons (zRet (oCallB (cr_sum rfl) ckSum rfl T.m_sum (by decide +kernel) (oCons (oComp (own := [("name", 3)]) [3] rfl (by decide) rfl nd (iSeq (oVar (pv 1))) (by kernel_rfl) (fun _ _ _ _ _ => (gNameOk (i := 3) nd rfl (by first | exact .inl rfl | exact .inr rfl))) (fun _ _ _ _ _ => tsNil) (fun _ _ _ _ _ => (oIx (ixAny hr) okIx (oVar (pv 2)) (oVar (pv 3)) (fun _ _ => rfl)))) oNil)))
      zNil))
theorem ok_whole_of (T : Tx K mg) : FnOk P w K mg base CX0 3 T.a_whole_of T.fd_whole_of ["world", "lot"] (spF K 2 f_whole_of) :=
  mkFn T.F_whole_of sc_whole_of false fun cdv A outer s H E hr =>
    have nd := sc_whole_of.nd
    (zCons (zRet (oBin opAdd okAdd (oIx (ixAny hr) okIx (oIx (ixAny hr) okIx (oVar (pv 0)) (oK pe_int (fun _ => .int _)) (fun _ _ => rfl)) (oK pe_int (fun _ => .int _)) (fun _ _ => rfl)) (oCall (ok_weight_of T) (hr.mono (by decide)) rfl T.m_weight_of T.F_weight_of.kp T.b_weight_of (oCons (oVar (pv 0)) (oCons (oVar (pv 1)) oNil)) (len_cons (len_cons (fun _ _ _ _ h => len_nil h))))))
      zNil)
theorem ok_drive_of (T : Tx K mg) : FnOk P w K mg base CX0 3 T.a_drive_of T.fd_drive_of ["world", "rows"] (spF K 2 f_drive_of) :=
  mkFn T.F_drive_of sc_drive_of false fun cdv A outer s H E hr =>
    have nd := sc_drive_of.nd
    (zCons (zSet (i := 2) nd rfl (by first | exact .inl rfl | exact .inr rfl) (oCall (ok_heavies T) (hr.mono (by decide)) rfl T.m_heavies T.F_heavies.kp T.b_heavies (oCons (oVar (pv 0)) oNil) (len_cons (fun _ _ _ _ h => len_nil h))))
      (zCons (zSet (i := 3) nd rfl (by first | exact .inl rfl | exact .inr rfl) (oK (pe_glob (v := .ref T.a_NOUGHT) rfl T.m_NOUGHT rfl) (fun _ => .kt T.t_NOUGHT)))
      (zCons (zFor PassesOwn.never rfl (iSeq (oVar (pv 1))) (gTuple rfl (gsCons (gNameOk (i := 4) nd rfl (by first | exact .inl rfl | exact .inr rfl)) (gsCons (gNameOk (i := 5) nd rfl (by first | exact .inl rfl | exact .inr rfl)) gsNil)) (glen1 (glen1 glen0))) (zCons (zSet (i := 3) nd rfl (by first | exact .inl rfl | exact .inr rfl) (oCall (ok_plus T) (hr.mono (by decide)) rfl T.m_plus T.F_plus.kp T.b_plus (oCons (oVar (pv 3)) (oCons (oCall (ok_times T) (hr.mono (by decide)) rfl T.m_times T.F_times.kp T.b_times (oCons (oVar (pv 5)) (oCons (oIx (ixAny hr) okIx (oVar (pv 2)) (oVar (pv 4)) (fun _ _ => rfl)) (oCons (oK pe_int (fun _ => .int _)) oNil))) (len_cons (len_cons (len_cons (fun _ _ _ _ h => len_nil h))))) oNil)) (len_cons (len_cons (fun _ _ _ _ h => len_nil h)))))
      zNil))
      (zCons (zRet (oVar (pv 3)))
      zNil))))
theorem ok_front_of (T : Tx K mg) : FnOk P w K mg base CX0 4 T.a_front_of T.fd_front_of ["world", "standing"] (spF K 2 f_front_of) :=
  mkFn T.F_front_of sc_front_of false fun cdv A outer s H E hr =>
    have nd := sc_front_of.nd
    (zCons (zRet (oCall (ok_plus T) (hr.mono (by decide)) rfl T.m_plus T.F_plus.kp T.b_plus (oCons (oIx (ixAny hr) okIx (oVar (pv 1)) (oK pe_int (fun _ => .int _)) (fun _ _ => rfl)) (oCons (oCall (ok_times T) (hr.mono (by decide)) rfl T.m_times T.F_times.kp T.b_times (oCons (oCall (ok_drive_of T) (hr.mono (by decide)) rfl T.m_drive_of T.F_drive_of.kp T.b_drive_of (oCons (oVar (pv 0)) (oCons (oIx (ixAny hr) okIx (oVar (pv 1)) (oK pe_int (fun _ => .int _)) (fun _ _ => rfl)) oNil)) (len_cons (len_cons (fun _ _ _ _ h => len_nil h)))) (oCons (oK pe_int (fun _ => .int _)) (oCons (oCall (ok_whole_of T) (hr.mono (by decide)) rfl T.m_whole_of T.F_whole_of.kp T.b_whole_of (oCons (oVar (pv 0)) (oCons (oCall (ok_aboard_of T) (hr.mono (by decide)) rfl T.m_aboard_of T.F_aboard_of.kp T.b_aboard_of (oCons (oVar (pv 1)) oNil) (len_cons (fun _ _ _ _ h => len_nil h))) oNil)) (len_cons (len_cons (fun _ _ _ _ h => len_nil h)))) oNil))) (len_cons (len_cons (len_cons (fun _ _ _ _ h => len_nil h))))) oNil)) (len_cons (len_cons (fun _ _ _ _ h => len_nil h)))))
      zNil)
theorem ok_gap_by (T : Tx K mg) : FnOk P w K mg base CX0 4 T.a_gap_by T.fd_gap_by ["world", "front", "rows"] (spF K 3 f_gap_by) :=
  mkFn T.F_gap_by sc_gap_by false fun cdv A outer s H E hr =>
    have nd := sc_gap_by.nd
    (zCons (zSet (i := 3) nd rfl (by first | exact .inl rfl | exact .inr rfl) (oCall (ok_whole_of T) (hr.mono (by decide)) rfl T.m_whole_of T.F_whole_of.kp T.b_whole_of (oCons (oVar (pv 0)) (oCons (oComp (own := [("row", 4)]) [4] rfl (by decide) rfl nd (iSeq (oVar (pv 2))) (by kernel_rfl) (fun _ _ _ _ _ => (gNameOk (i := 4) nd rfl (by first | exact .inl rfl | exact .inr rfl))) (fun _ _ _ _ _ => tsNil) (fun _ _ _ _ _ => (oIx (ixAny hr) okIx (oVar (pv 4)) (oK pe_int (fun _ => .int _)) (fun _ _ => rfl)))) oNil)) (len_cons (len_cons (fun _ _ _ _ h => len_nil h)))))
      (zCons (zRet (oCall (ok_less T) (hr.mono (by decide)) rfl T.m_less T.F_less.kp T.b_less (oCons (oVar (pv 1)) (oCons (oCall (ok_times T) (hr.mono (by decide)) rfl T.m_times T.F_times.kp T.b_times (oCons (oCall (ok_drive_of T) (hr.mono (by decide)) rfl T.m_drive_of T.F_drive_of.kp T.b_drive_of (oCons (oVar (pv 0)) (oCons (oVar (pv 2)) oNil)) (len_cons (len_cons (fun _ _ _ _ h => len_nil h)))) (oCons (oK pe_int (fun _ => .int _)) (oCons (oVar (pv 3)) oNil))) (len_cons (len_cons (len_cons (fun _ _ _ _ h => len_nil h))))) oNil)) (len_cons (len_cons (fun _ _ _ _ h => len_nil h)))))
      zNil))
theorem ok_gap_behind (T : Tx K mg) : FnOk P w K mg base CX0 5 T.a_gap_behind T.fd_gap_behind ["world", "standing", "rows"] (spF K 3 f_gap_behind) :=
  mkFn T.F_gap_behind sc_gap_behind false fun cdv A outer s H E hr =>
    have nd := sc_gap_behind.nd
    (zCons (zSet (i := 3) nd rfl (by first | exact .inl rfl | exact .inr rfl) (oCall (ok_gap_by T) (hr.mono (by decide)) rfl T.m_gap_by T.F_gap_by.kp T.b_gap_by (oCons (oVar (pv 0)) (oCons (oCall (ok_front_of T) (hr.mono (by decide)) rfl T.m_front_of T.F_front_of.kp T.b_front_of (oCons (oVar (pv 0)) (oCons (oVar (pv 1)) oNil)) (len_cons (len_cons (fun _ _ _ _ h => len_nil h)))) (oCons (oVar (pv 2)) oNil))) (len_cons (len_cons (len_cons (fun _ _ _ _ h => len_nil h))))))
      (zCons (zRet (oIf (qVal (oCall (ok_is_lesser T) (hr.mono (by decide)) rfl T.m_is_lesser T.F_is_lesser.kp T.b_is_lesser (oCons (oVar (pv 3)) (oCons (oK (pe_glob (v := .ref T.a_NOUGHT) rfl T.m_NOUGHT rfl) (fun _ => .kt T.t_NOUGHT)) oNil)) (len_cons (len_cons (fun _ _ _ _ h => len_nil h))))) (oK pe_non (fun _ => .non)) (oVar (pv 3))))
      zNil))
theorem ok_all_back (T : Tx K mg) : FnOk P w K mg base CX0 1 T.a_all_back T.fd_all_back ["world", "lot"] (spF K 2 f_all_back) :=
  mkFn T.F_all_back sc_all_back false fun cdv A outer s H E hr =>
    have nd := sc_all_back.nd
    (zCons (zRet (oCallT clTup (ckTup true) rfl T.m_tuple (by decide +kernel) (oCons (oComp (own := [("name", 2)]) [2] rfl (by decide) rfl nd (iSeq (oVar (pv 1))) (by kernel_rfl) (fun _ _ _ _ _ => (gNameOk (i := 2) nd rfl (by first | exact .inl rfl | exact .inr rfl))) (fun _ _ _ _ _ => tsNil) (fun _ _ _ _ _ => (oTup (oCons (oVar (pv 2)) (oCons (oTup (oCons (oIx (ixAny hr) okIx (oIx (ixAny hr) okIx (oVar (pv 0)) (oK pe_int (fun _ => .int _)) (fun _ _ => rfl)) (oK pe_int (fun _ => .int _)) (fun _ _ => rfl)) (oCons (oK pe_int (fun _ => .int _)) oNil))) oNil))))) oNil)))
      zNil)
theorem ok_least_by (T : Tx K mg) : FnOk P w K mg base CX0 5 T.a_least_by T.fd_least_by ["world", "lot", "front"] (spF K 3 f_least_by) :=
  mkFn T.F_least_by sc_least_by false fun cdv A outer s H E hr =>
    have nd := sc_least_by.nd
    (zCons (zSet (i := 3) nd rfl (by first | exact .inl rfl | exact .inr rfl) (oCall (ok_gap_by T) (hr.mono (by decide)) rfl T.m_gap_by T.F_gap_by.kp T.b_gap_by (oCons (oVar (pv 0)) (oCons (oVar (pv 2)) (oCons (oCall (ok_all_back T) (hr.mono (by decide)) rfl T.m_all_back T.F_all_back.kp T.b_all_back (oCons (oVar (pv 0)) (oCons (oVar (pv 1)) oNil)) (len_cons (len_cons (fun _ _ _ _ h => len_nil h)))) oNil))) (len_cons (len_cons (len_cons (fun _ _ _ _ h => len_nil h))))))
      (zCons (zRet (oIf (qVal (oCall (ok_is_lesser T) (hr.mono (by decide)) rfl T.m_is_lesser T.F_is_lesser.kp T.b_is_lesser (oCons (oVar (pv 3)) (oCons (oK (pe_glob (v := .ref T.a_NOUGHT) rfl T.m_NOUGHT rfl) (fun _ => .kt T.t_NOUGHT)) oNil)) (len_cons (len_cons (fun _ _ _ _ h => len_nil h))))) (oK (pe_glob (v := .ref T.a_NOUGHT) rfl T.m_NOUGHT rfl) (fun _ => .kt T.t_NOUGHT)) (oVar (pv 3))))
      zNil))
theorem ok_gaps (T : Tx K mg) : FnOk P w K mg base CX0 6 T.a_gaps T.fd_gaps ["world", "standing"] (spF K 2 f_gaps) :=
  mkFn T.F_gaps sc_gaps false fun cdv A outer s H E hr =>
    have nd := sc_gaps.nd
    (zCons (zSet (i := 2) nd rfl (by first | exact .inl rfl | exact .inr rfl) (oCall (ok_front_of T) (hr.mono (by decide)) rfl T.m_front_of T.F_front_of.kp T.b_front_of (oCons (oVar (pv 0)) (oCons (oVar (pv 1)) oNil)) (len_cons (len_cons (fun _ _ _ _ h => len_nil h)))))
      (zCons (zRet (oTup (oCons (oCall (ok_least_by T) (hr.mono (by decide)) rfl T.m_least_by T.F_least_by.kp T.b_least_by (oCons (oVar (pv 0)) (oCons (oCall (ok_aboard_of T) (hr.mono (by decide)) rfl T.m_aboard_of T.F_aboard_of.kp T.b_aboard_of (oCons (oVar (pv 1)) oNil) (len_cons (fun _ _ _ _ h => len_nil h))) (oCons (oVar (pv 2)) oNil))) (len_cons (len_cons (len_cons (fun _ _ _ _ h => len_nil h))))) (oCons (oVar (pv 2)) oNil))))
      zNil))
theorem ok_one_of (T : Tx K mg) : FnOk P w K mg base CX0 1 T.a_one_of T.fd_one_of ["world", "name"] (spF K 2 f_one_of) :=
  mkFn T.F_one_of sc_one_of false fun cdv A outer s H E hr =>
    have nd := sc_one_of.nd
    (zCons (zRet (oIx (ixAny hr) okIx (oComp (own := [("one", 2)]) [2] rfl (by decide) rfl nd (iSeq (oIx (ixAny hr) okIx (oVar (pv 0)) (oK pe_int (fun _ => .int _)) (fun _ _ => rfl))) (by kernel_rfl) (fun _ _ _ _ _ => (gNameOk (i := 2) nd rfl (by first | exact .inl rfl | exact .inr rfl))) (fun _ _ _ _ _ => (tsOne (qCmp (op_eqD hr.units) okEq (oIx (ixAny hr) okIx (oVar (pv 2)) (oK pe_int (fun _ => .int _)) (fun _ _ => rfl)) (oVar (pv 1)) (nomark _)))) (fun _ _ _ _ _ => (oVar (pv 2)))) (oK pe_int (fun _ => .int _)) (fun _ _ => rfl)))
      zNil)
theorem ok_is_step (T : Tx K mg) : FnOk P w K mg base CX0 2 T.a_is_step T.fd_is_step ["world", "thing"] (spF K 2 f_is_step) :=
  mkFn T.F_is_step sc_is_step false fun cdv A outer s H E hr =>
    have nd := sc_is_step.nd
    (zCons (zIf (L2.PW.pt (qOr (qNot (qVal (oIsi (T := "tuple") rfl T.m_isinstance (oVar (pv 1)) rfl T.m_tuple (by decide +kernel)))) (qOr (qCmp (op_neD hr.units) okNe (oCallB clLen ckLen rfl T.m_len (by decide +kernel) (oCons (oVar (pv 1)) oNil)) (oK pe_int (fun _ => .int _)) (nomark _)) (qOne2 (qNot (qVal (oCallB (cr_all rfl) ckAll rfl T.m_all (by decide +kernel) (oCons (oComp (own := [("part", 2)]) [2] rfl (by decide) rfl nd (iSeq (oVar (pv 1))) (by kernel_rfl) (fun _ _ _ _ _ => (gNameOk (i := 2) nd rfl (by first | exact .inl rfl | exact .inr rfl))) (fun _ _ _ _ _ => tsNil) (fun _ _ _ _ _ => (oIsi (T := "str") rfl T.m_isinstance (oVar (pv 2)) rfl T.m_str (by decide +kernel)))) oNil)))))))) (zCons (zRet (oK pe_bl (fun _ => .bl _)))
      zNil) zNil)
      (zCons (zIf (L2.PW.pt (qOr (qCmp (opNotIn hr) okNotIn (oIx (ixAny hr) okIx (oVar (pv 1)) (oK pe_int (fun _ => .int _)) (fun _ _ => rfl)) (oTup (oCons (oK (pe_glob (v := .str _) rfl T.m_OFF ⟨_, rfl⟩) (fun _ => .str _)) (oCons (oK (pe_glob (v := .str _) rfl T.m_ON ⟨_, rfl⟩) (fun _ => .str _)) oNil))) (by with_unfolding_all rfl)) (qOne2 (qCmp (opNotIn hr) okNotIn (oIx (ixAny hr) okIx (oVar (pv 1)) (oK pe_int (fun _ => .int _)) (fun _ _ => rfl)) (oCall (ok_folk_of T) (hr.mono (by decide)) rfl T.m_folk_of T.F_folk_of.kp T.b_folk_of (oCons (oVar (pv 0)) oNil) (len_cons (fun _ _ _ _ h => len_nil h))) (by with_unfolding_all rfl))))) (zCons (zRet (oK pe_bl (fun _ => .bl _)))
      zNil) zNil)
      (zCons (zRet (oOr (oCmp (op_eqD hr.units) okEq (oIx (ixAny hr) okIx (oVar (pv 1)) (oK pe_int (fun _ => .int _)) (fun _ _ => rfl)) (oK pe_str (fun _ => .str _)) (nomark _)) (oOne (oAnd (oCmp (opIn hr) okIn (oIx (ixAny hr) okIx (oVar (pv 1)) (oK pe_int (fun _ => .int _)) (fun _ _ => rfl)) (oCall (ok_loads_of T) (hr.mono (by decide)) rfl T.m_loads_of T.F_loads_of.kp T.b_loads_of (oCons (oVar (pv 0)) oNil) (len_cons (fun _ _ _ _ h => len_nil h))) (by with_unfolding_all rfl)) (oOne (oCmp op_le okLe (oIx (ixAny hr) okIx (oCall (ok_heavies T) (hr.mono (by decide)) rfl T.m_heavies T.F_heavies.kp T.b_heavies (oCons (oVar (pv 0)) oNil) (len_cons (fun _ _ _ _ h => len_nil h))) (oIx (ixAny hr) okIx (oVar (pv 1)) (oK pe_int (fun _ => .int _)) (fun _ _ => rfl)) (fun _ _ => rfl)) (oIx (ixAny hr) okIx (oCall (ok_one_of T) (hr.mono (by decide)) rfl T.m_one_of T.F_one_of.kp T.b_one_of (oCons (oVar (pv 0)) (oCons (oIx (ixAny hr) okIx (oVar (pv 1)) (oK pe_int (fun _ => .int _)) (fun _ _ => rfl)) oNil)) (len_cons (len_cons (fun _ _ _ _ h => len_nil h)))) (oK pe_int (fun _ => .int _)) (fun _ _ => rfl)) (nomark _)))))))
      zNil)))
theorem ok_all_steps (T : Tx K mg) : FnOk P w K mg base CX0 3 T.a_all_steps T.fd_all_steps ["world"] (spF K 1 f_all_steps) :=
  mkFn T.F_all_steps sc_all_steps false fun cdv A outer s H E hr =>
    have nd := sc_all_steps.nd
    (zCons (zSet (i := 1) nd rfl (by first | exact .inl rfl | exact .inr rfl) (oNewL oNil))
      (zCons (zFor PassesOwn.never rfl (iSeq (oTup (oCons (oK (pe_glob (v := .str _) rfl T.m_OFF ⟨_, rfl⟩) (fun _ => .str _)) (oCons (oK (pe_glob (v := .str _) rfl T.m_ON ⟨_, rfl⟩) (fun _ => .str _)) oNil)))) (gNameOk (i := 2) nd rfl (by first | exact .inl rfl | exact .inr rfl)) (zCons (zFor PassesOwn.never rfl (iSeq (oCall (ok_folk_of T) (hr.mono (by decide)) rfl T.m_folk_of T.F_folk_of.kp T.b_folk_of (oCons (oVar (pv 0)) oNil) (len_cons (fun _ _ _ _ h => len_nil h)))) (gNameOk (i := 3) nd rfl (by first | exact .inl rfl | exact .inr rfl)) (zCons (zFor PassesOwn.never rfl (iSeq (oBin opAdd okAdd (oLst (oCons (oK pe_str (fun _ => .str _)) oNil)) (oCall (ok_loads_of T) (hr.mono (by decide)) rfl T.m_loads_of T.F_loads_of.kp T.b_loads_of (oCons (oVar (pv 0)) oNil) (len_cons (fun _ _ _ _ h => len_nil h))))) (gNameOk (i := 4) nd rfl (by first | exact .inl rfl | exact .inr rfl)) (zCons (zIf (qVal (oCall (ok_is_step T) (hr.mono (by decide)) rfl T.m_is_step T.F_is_step.kp T.b_is_step (oCons (oVar (pv 0)) (oCons (oTup (oCons (oVar (pv 2)) (oCons (oVar (pv 3)) (oCons (oVar (pv 4)) oNil)))) oNil)) (len_cons (len_cons (fun _ _ _ _ h => len_nil h))))) (zCons (zExpr (oAppend (oVar (pv 1)) (oTup (oCons (oVar (pv 2)) (oCons (oVar (pv 3)) (oCons (oVar (pv 4)) oNil))))))
      zNil) zNil)
      zNil))
      zNil))
      zNil))
      (zCons (zRet (oFrz (oVar (pv 1))))
      zNil)))
theorem ok_movers (T : Tx K mg) : FnOk P w K mg base CX0 1 T.a_movers T.fd_movers ["step"] (spF K 1 f_movers) :=
  mkFn T.F_movers sc_movers false fun cdv A outer s H E hr =>
    have nd := sc_movers.nd
    (zCons (zRet (oComp (own := [("name", 1)]) [1] rfl (by decide) rfl nd (iSeq (oSl (oVar (pv 0)) (pSome (oK pe_int (fun _ => .int _))) pNone)) (by kernel_rfl) (fun _ _ _ _ _ => (gNameOk (i := 1) nd rfl (by first | exact .inl rfl | exact .inr rfl))) (fun _ _ _ _ _ => (tsOne (qCmp (op_neD hr.units) okNe (oVar (pv 1)) (oK pe_str (fun _ => .str _)) (nomark _)))) (fun _ _ _ _ _ => (oVar (pv 1)))))
      zNil)
theorem ok_lot_behind (T : Tx K mg) : FnOk P w K mg base CX0 3 T.a_lot_behind T.fd_lot_behind ["world", "lot", "step"] (spF K 3 f_lot_behind) :=
  mkFn T.F_lot_behind sc_lot_behind false fun cdv A outer s H E hr =>
    have nd := sc_lot_behind.nd
    (zCons (zSet (i := 3) nd rfl (by first | exact .inl rfl | exact .inr rfl) (oCall (ok_movers T) (hr.mono (by decide)) rfl T.m_movers T.F_movers.kp T.b_movers (oCons (oVar (pv 2)) oNil) (len_cons (fun _ _ _ _ h => len_nil h))))
      (zCons (zIf (qCmp (op_neD hr.units) okNe (oComp (own := [("name", 5)]) [5] rfl (by decide) rfl nd (iSeq (oVar (pv 3))) (by kernel_rfl) (fun _ _ _ _ _ => (gNameOk (i := 5) nd rfl (by first | exact .inl rfl | exact .inr rfl))) (fun _ _ _ _ _ => (tsOne (qCmp (op_neD hr.units) okNe (oCmp (opIn hr) okIn (oVar (pv 5)) (oVar (pv 1)) (by with_unfolding_all rfl)) (oCmp (op_eqD hr.units) okEq (oIx (ixAny hr) okIx (oVar (pv 2)) (oK pe_int (fun _ => .int _)) (fun _ _ => rfl)) (oK (pe_glob (v := .str _) rfl T.m_OFF ⟨_, rfl⟩) (fun _ => .str _)) (nomark _)) (nomark _)))) (fun _ _ _ _ _ => (oVar (pv 5)))) (oLst oNil) (nomark _)) (zCons (zRet (oK pe_non (fun _ => .non)))
      zNil) zNil)
      (zCons (zIf (qCmp (op_eqD hr.units) okEq (oIx (ixAny hr) okIx (oVar (pv 2)) (oK pe_int (fun _ => .int _)) (fun _ _ => rfl)) (oK (pe_glob (v := .str _) rfl T.m_OFF ⟨_, rfl⟩) (fun _ => .str _)) (nomark _)) (zCons (zSet (i := 4) nd rfl (by first | exact .inl rfl | exact .inr rfl) (oCallT clTup (ckTup false) rfl T.m_tuple (by decide +kernel) (oCons (oComp (own := [("name", 5)]) [5] rfl (by decide) rfl nd (iSeq (oVar (pv 1))) (by kernel_rfl) (fun _ _ _ _ _ => (gNameOk (i := 5) nd rfl (by first | exact .inl rfl | exact .inr rfl))) (fun _ _ _ _ _ => (tsOne (qCmp (opNotIn hr) okNotIn (oVar (pv 5)) (oVar (pv 3)) (by with_unfolding_all rfl)))) (fun _ _ _ _ _ => (oVar (pv 5)))) oNil)))
      zNil) (zCons (zSet (i := 4) nd rfl (by first | exact .inl rfl | exact .inr rfl) (oCallT clTup (ckTup false) rfl T.m_tuple (by decide +kernel) (oCons (oCallB cr_sortTx ckSortT rfl T.m_sorted (by decide +kernel) (oCons (oBin opAdd okAdd (oVar (pv 1)) (oCallT clTup (ckTup false) rfl T.m_tuple (by decide +kernel) (oCons (oVar (pv 3)) oNil))) oNil)) oNil)))
      zNil))
      (zCons (zRet (oIf (qVal (oCall (ok_can_be_aboard T) (hr.mono (by decide)) rfl T.m_can_be_aboard T.F_can_be_aboard.kp T.b_can_be_aboard (oCons (oVar (pv 0)) (oCons (oVar (pv 4)) oNil)) (len_cons (len_cons (fun _ _ _ _ h => len_nil h))))) (oVar (pv 4)) (oK pe_non (fun _ => .non))))
      zNil))))
theorem ok_reach_of (T : Tx K mg) : FnOk P w K mg base CX0 2 T.a_reach_of T.fd_reach_of ["world", "step"] (spF K 2 f_reach_of) :=
  mkFn T.F_reach_of sc_reach_of false fun cdv A outer s H E hr =>
    have nd := sc_reach_of.nd
    (zCons (zRet (oTup (oCons (oIx (ixAny hr) okIx (oCall (ok_one_of T) (hr.mono (by decide)) rfl T.m_one_of T.F_one_of.kp T.b_one_of (oCons (oVar (pv 0)) (oCons (oIx (ixAny hr) okIx (oVar (pv 1)) (oK pe_int (fun _ => .int _)) (fun _ _ => rfl)) oNil)) (len_cons (len_cons (fun _ _ _ _ h => len_nil h)))) (oK pe_int (fun _ => .int _)) (fun _ _ => rfl)) (oCons (oK pe_int (fun _ => .int _)) oNil))))
      zNil)
theorem ok_nearest_for (T : Tx K mg) : FnOk P w K mg base CX0 6 T.a_nearest_for T.fd_nearest_for ["world", "lot", "front", "step"] (spF K 4 f_nearest_for) :=
  mkFn T.F_nearest_for sc_nearest_for false fun cdv A outer s H E hr =>
    have nd := sc_nearest_for.nd
    (zCons (zIf (qCmp (op_eqD hr.units) okEq (oIx (ixAny hr) okIx (oVar (pv 3)) (oK pe_int (fun _ => .int _)) (fun _ _ => rfl)) (oK (pe_glob (v := .str _) rfl T.m_ON ⟨_, rfl⟩) (fun _ => .str _)) (nomark _)) (zCons (zRet (oCall (ok_least_by T) (hr.mono (by decide)) rfl T.m_least_by T.F_least_by.kp T.b_least_by (oCons (oVar (pv 0)) (oCons (oVar (pv 1)) (oCons (oVar (pv 2)) oNil))) (len_cons (len_cons (len_cons (fun _ _ _ _ h => len_nil h))))))
      zNil) zNil)
      (zCons (zSet (i := 4) nd rfl (by first | exact .inl rfl | exact .inr rfl) (oBin op_sub okSub (oCall (ok_weight_of T) (hr.mono (by decide)) rfl T.m_weight_of T.F_weight_of.kp T.b_weight_of (oCons (oVar (pv 0)) (oCons (oVar (pv 1)) oNil)) (len_cons (len_cons (fun _ _ _ _ h => len_nil h)))) (oCall (ok_weight_of T) (hr.mono (by decide)) rfl T.m_weight_of T.F_weight_of.kp T.b_weight_of (oCons (oVar (pv 0)) (oCons (oCall (ok_movers T) (hr.mono (by decide)) rfl T.m_movers T.F_movers.kp T.b_movers (oCons (oVar (pv 3)) oNil) (len_cons (fun _ _ _ _ h => len_nil h))) oNil)) (len_cons (len_cons (fun _ _ _ _ h => len_nil h))))))
      (zCons (zRet (oCall (ok_less T) (hr.mono (by decide)) rfl T.m_less T.F_less.kp T.b_less (oCons (oVar (pv 2)) (oCons (oCall (ok_lowest T) (hr.mono (by decide)) rfl T.m_lowest T.F_lowest.kp T.b_lowest (oCons (oBin op_mulW okMul (oIx (ixAny hr) okIx (oIx (ixAny hr) okIx (oVar (pv 0)) (oK pe_int (fun _ => .int _)) (fun _ _ => rfl)) (oK pe_int (fun _ => .int _)) (fun _ _ => rfl)) (oVar (pv 4))) (oCons (oCall (ok_whole_of T) (hr.mono (by decide)) rfl T.m_whole_of T.F_whole_of.kp T.b_whole_of (oCons (oVar (pv 0)) (oCons (oVar (pv 1)) oNil)) (len_cons (len_cons (fun _ _ _ _ h => len_nil h)))) oNil)) (len_cons (len_cons (fun _ _ _ _ h => len_nil h)))) oNil)) (len_cons (len_cons (fun _ _ _ _ h => len_nil h)))))
      zNil)))
theorem ok_best_gap (T : Tx K mg) : FnOk P w K mg base CX0 7 T.a_best_gap T.fd_best_gap ["world", "lot", "front", "step"] (spF K 4 f_best_gap) :=
  mkFn T.F_best_gap sc_best_gap false fun cdv A outer s H E hr =>
    have nd := sc_best_gap.nd
    (zCons (zSet (i := 4) nd rfl (by first | exact .inl rfl | exact .inr rfl) (oCall (ok_nearest_for T) (hr.mono (by decide)) rfl T.m_nearest_for T.F_nearest_for.kp T.b_nearest_for (oCons (oVar (pv 0)) (oCons (oVar (pv 1)) (oCons (oVar (pv 2)) (oCons (oVar (pv 3)) oNil)))) (len_cons (len_cons (len_cons (len_cons (fun _ _ _ _ h => len_nil h)))))))
      (zCons (zIf (L2.PW.pt (qOr (qCmp op_isN okIsN (oCall (ok_lot_behind T) (hr.mono (by decide)) rfl T.m_lot_behind T.F_lot_behind.kp T.b_lot_behind (oCons (oVar (pv 0)) (oCons (oVar (pv 1)) (oCons (oVar (pv 3)) oNil))) (len_cons (len_cons (len_cons (fun _ _ _ _ h => len_nil h))))) (oK pe_non (fun _ => .non)) (nomark _)) (qOne2 (qVal (oCall (ok_is_lesser T) (hr.mono (by decide)) rfl T.m_is_lesser T.F_is_lesser.kp T.b_is_lesser (oCons (oCall (ok_reach_of T) (hr.mono (by decide)) rfl T.m_reach_of T.F_reach_of.kp T.b_reach_of (oCons (oVar (pv 0)) (oCons (oVar (pv 3)) oNil)) (len_cons (len_cons (fun _ _ _ _ h => len_nil h)))) (oCons (oVar (pv 4)) oNil)) (len_cons (len_cons (fun _ _ _ _ h => len_nil h)))))))) (zCons (zRet (oK pe_non (fun _ => .non)))
      zNil) zNil)
      (zCons (zRet (oIf (qCmp (op_eqD hr.units) okEq (oIx (ixAny hr) okIx (oVar (pv 3)) (oK pe_int (fun _ => .int _)) (fun _ _ => rfl)) (oK (pe_glob (v := .str _) rfl T.m_ON ⟨_, rfl⟩) (fun _ => .str _)) (nomark _)) (oVar (pv 4)) (oCall (ok_lesser T) (hr.mono (by decide)) rfl T.m_lesser T.F_lesser.kp T.b_lesser (oCons (oCall (ok_reach_of T) (hr.mono (by decide)) rfl T.m_reach_of T.F_reach_of.kp T.b_reach_of (oCons (oVar (pv 0)) (oCons (oVar (pv 3)) oNil)) (len_cons (len_cons (fun _ _ _ _ h => len_nil h)))) (oCons (oVar (pv 2)) oNil)) (len_cons (len_cons (fun _ _ _ _ h => len_nil h))))))
      zNil)))
theorem ok_best_from (T : Tx K mg) : FnOk P w K mg base CX0 8 T.a_best_from T.fd_best_from ["world", "lot", "front", "step"] (spF K 4 f_best_from) :=
  mkFn T.F_best_from sc_best_from false fun cdv A outer s H E hr =>
    have nd := sc_best_from.nd
    (zCons (zSet (i := 4) nd rfl (by first | exact .inl rfl | exact .inr rfl) (oCall (ok_best_gap T) (hr.mono (by decide)) rfl T.m_best_gap T.F_best_gap.kp T.b_best_gap (oCons (oVar (pv 0)) (oCons (oVar (pv 1)) (oCons (oVar (pv 2)) (oCons (oVar (pv 3)) oNil)))) (len_cons (len_cons (len_cons (len_cons (fun _ _ _ _ h => len_nil h)))))))
      (zCons (zIf (qCmp op_isN okIsN (oVar (pv 4)) (oK pe_non (fun _ => .non)) (nomark _)) (zCons (zRet (oK pe_non (fun _ => .non)))
      zNil) zNil)
      (zCons (zPar (i := 5) (j := 6) rfl nd rfl rfl (by decide) rfl rfl (oCons (oCall (ok_whole_of T) (hr.mono (by decide)) rfl T.m_whole_of T.F_whole_of.kp T.b_whole_of (oCons (oVar (pv 0)) (oCons (oVar (pv 1)) oNil)) (len_cons (len_cons (fun _ _ _ _ h => len_nil h)))) (oCons (oCall (ok_weight_of T) (hr.mono (by decide)) rfl T.m_weight_of T.F_weight_of.kp T.b_weight_of (oCons (oVar (pv 0)) (oCons (oCall (ok_movers T) (hr.mono (by decide)) rfl T.m_movers T.F_movers.kp T.b_movers (oCons (oVar (pv 3)) oNil) (len_cons (fun _ _ _ _ h => len_nil h))) oNil)) (len_cons (len_cons (fun _ _ _ _ h => len_nil h)))) oNil)) rfl)
      (zCons (zIf (qCmp (op_eqD hr.units) okEq (oIx (ixAny hr) okIx (oVar (pv 3)) (oK pe_int (fun _ => .int _)) (fun _ _ => rfl)) (oK (pe_glob (v := .str _) rfl T.m_ON ⟨_, rfl⟩) (fun _ => .str _)) (nomark _)) (zCons (zRet (oCall (ok_times T) (hr.mono (by decide)) rfl T.m_times T.F_times.kp T.b_times (oCons (oCall (ok_plus T) (hr.mono (by decide)) rfl T.m_plus T.F_plus.kp T.b_plus (oCons (oCall (ok_times T) (hr.mono (by decide)) rfl T.m_times T.F_times.kp T.b_times (oCons (oVar (pv 2)) (oCons (oVar (pv 5)) (oCons (oK pe_int (fun _ => .int _)) oNil))) (len_cons (len_cons (len_cons (fun _ _ _ _ h => len_nil h))))) (oCons (oCall (ok_times T) (hr.mono (by decide)) rfl T.m_times T.F_times.kp T.b_times (oCons (oVar (pv 4)) (oCons (oVar (pv 6)) (oCons (oK pe_int (fun _ => .int _)) oNil))) (len_cons (len_cons (len_cons (fun _ _ _ _ h => len_nil h))))) oNil)) (len_cons (len_cons (fun _ _ _ _ h => len_nil h)))) (oCons (oK pe_int (fun _ => .int _)) (oCons (oBin opAdd okAdd (oVar (pv 5)) (oVar (pv 6))) oNil))) (len_cons (len_cons (len_cons (fun _ _ _ _ h => len_nil h))))))
      zNil) zNil)
      (zCons (zRet (oCall (ok_times T) (hr.mono (by decide)) rfl T.m_times T.F_times.kp T.b_times (oCons (oCall (ok_less T) (hr.mono (by decide)) rfl T.m_less T.F_less.kp T.b_less (oCons (oCall (ok_times T) (hr.mono (by decide)) rfl T.m_times T.F_times.kp T.b_times (oCons (oVar (pv 2)) (oCons (oVar (pv 5)) (oCons (oK pe_int (fun _ => .int _)) oNil))) (len_cons (len_cons (len_cons (fun _ _ _ _ h => len_nil h))))) (oCons (oCall (ok_times T) (hr.mono (by decide)) rfl T.m_times T.F_times.kp T.b_times (oCons (oVar (pv 4)) (oCons (oVar (pv 6)) (oCons (oK pe_int (fun _ => .int _)) oNil))) (len_cons (len_cons (len_cons (fun _ _ _ _ h => len_nil h))))) oNil)) (len_cons (len_cons (fun _ _ _ _ h => len_nil h)))) (oCons (oK pe_int (fun _ => .int _)) (oCons (oBin op_sub okSub (oVar (pv 5)) (oVar (pv 6))) oNil))) (len_cons (len_cons (len_cons (fun _ _ _ _ h => len_nil h))))))
      zNil)))))
theorem ok_stepped (T : Tx K mg) : FnOk P w K mg base CX0 4 T.a_stepped T.fd_stepped ["world", "standing", "step"] (spF K 3 f_stepped) :=
  mkFn T.F_stepped sc_stepped false fun cdv A outer s H E hr =>
    have nd := sc_stepped.nd
    (zCons (zAsg (oTup (oCons (oCall (ok_aboard_of T) (hr.mono (by decide)) rfl T.m_aboard_of T.F_aboard_of.kp T.b_aboard_of (oCons (oVar (pv 1)) oNil) (len_cons (fun _ _ _ _ h => len_nil h))) (oCons (oCall (ok_movers T) (hr.mono (by decide)) rfl T.m_movers T.F_movers.kp T.b_movers (oCons (oVar (pv 2)) oNil) (len_cons (fun _ _ _ _ h => len_nil h))) oNil))) (gTuple rfl (gsCons (gNameOk (i := 3) nd rfl (by first | exact .inl rfl | exact .inr rfl)) (gsCons (gNameOk (i := 4) nd rfl (by first | exact .inl rfl | exact .inr rfl)) gsNil)) (glen1 (glen1 glen0))))
      (zCons (zIf (L2.PW.pt (qOr (qCmp op_isN okIsN (oCall (ok_lot_behind T) (hr.mono (by decide)) rfl T.m_lot_behind T.F_lot_behind.kp T.b_lot_behind (oCons (oVar (pv 0)) (oCons (oVar (pv 3)) (oCons (oVar (pv 2)) oNil))) (len_cons (len_cons (len_cons (fun _ _ _ _ h => len_nil h))))) (oK pe_non (fun _ => .non)) (nomark _)) (qOne2 (qVal (oCall (ok_is_lesser T) (hr.mono (by decide)) rfl T.m_is_lesser T.F_is_lesser.kp T.b_is_lesser (oCons (oCall (ok_reach_of T) (hr.mono (by decide)) rfl T.m_reach_of T.F_reach_of.kp T.b_reach_of (oCons (oVar (pv 0)) (oCons (oVar (pv 2)) oNil)) (len_cons (len_cons (fun _ _ _ _ h => len_nil h)))) (oCons (oIx (ixAny hr) okIx (oVar (pv 1)) (oK pe_int (fun _ => .int _)) (fun _ _ => rfl)) oNil)) (len_cons (len_cons (fun _ _ _ _ h => len_nil h)))))))) (zCons (zRet (oK pe_non (fun _ => .non)))
      zNil) zNil)
      (zCons (zIf (qCmp (op_eqD hr.units) okEq (oIx (ixAny hr) okIx (oVar (pv 2)) (oK pe_int (fun _ => .int _)) (fun _ _ => rfl)) (oK (pe_glob (v := .str _) rfl T.m_ON ⟨_, rfl⟩) (fun _ => .str _)) (nomark _)) (zCons (zRet (oTup (oCons (oIx (ixAny hr) okIx (oVar (pv 1)) (oK pe_int (fun _ => .int _)) (fun _ _ => rfl)) (oCons (oCallT clTup (ckTup true) rfl T.m_tuple (by decide +kernel) (oCons (oCallB cr_sortRow ckSortR rfl T.m_sorted (by decide +kernel) (oCons (oBin opAdd okAdd (oIx (ixAny hr) okIx (oVar (pv 1)) (oK pe_int (fun _ => .int _)) (fun _ _ => rfl)) (oCallT clTup (ckTup true) rfl T.m_tuple (by decide +kernel) (oCons (oComp (own := [("name", 5)]) [5] rfl (by decide) rfl nd (iSeq (oVar (pv 4))) (by kernel_rfl) (fun _ _ _ _ _ => (gNameOk (i := 5) nd rfl (by first | exact .inl rfl | exact .inr rfl))) (fun _ _ _ _ _ => tsNil) (fun _ _ _ _ _ => (oTup (oCons (oVar (pv 5)) (oCons (oK (pe_glob (v := .ref T.a_NOUGHT) rfl T.m_NOUGHT rfl) (fun _ => .kt T.t_NOUGHT)) oNil))))) oNil))) oNil)) oNil)) oNil))))
      zNil) zNil)
      (zCons (zIf (qCmp (op_neD hr.units) okNe (oComp (own := [("row", 6)]) [6] rfl (by decide) rfl nd (iSeq (oIx (ixAny hr) okIx (oVar (pv 1)) (oK pe_int (fun _ => .int _)) (fun _ _ => rfl))) (by kernel_rfl) (fun _ _ _ _ _ => (gNameOk (i := 6) nd rfl (by first | exact .inl rfl | exact .inr rfl))) (fun _ _ _ _ _ => (tsOne (L2.PW.pt (qAnd (qCmp (opIn hr) okIn (oIx (ixAny hr) okIx (oVar (pv 6)) (oK pe_int (fun _ => .int _)) (fun _ _ => rfl)) (oVar (pv 4)) (by with_unfolding_all rfl)) (qOne1 (qCmp (op_neD hr.units) okNe (oIx (ixAny hr) okIx (oVar (pv 6)) (oK pe_int (fun _ => .int _)) (fun _ _ => rfl)) (oK (pe_glob (v := .ref T.a_NOUGHT) rfl T.m_NOUGHT rfl) (fun _ => .kt T.t_NOUGHT)) (nomark _))))))) (fun _ _ _ _ _ => (oVar (pv 6)))) (oLst oNil) (nomark _)) (zCons (zRet (oK pe_non (fun _ => .non)))
      zNil) zNil)
      (zCons (zRet (oTup (oCons (oIx (ixAny hr) okIx (oVar (pv 1)) (oK pe_int (fun _ => .int _)) (fun _ _ => rfl)) (oCons (oCallT clTup (ckTup true) rfl T.m_tuple (by decide +kernel) (oCons (oComp (own := [("row", 6)]) [6] rfl (by decide) rfl nd (iSeq (oIx (ixAny hr) okIx (oVar (pv 1)) (oK pe_int (fun _ => .int _)) (fun _ _ => rfl))) (by kernel_rfl) (fun _ _ _ _ _ => (gNameOk (i := 6) nd rfl (by first | exact .inl rfl | exact .inr rfl))) (fun _ _ _ _ _ => (tsOne (qCmp (opNotIn hr) okNotIn (oIx (ixAny hr) okIx (oVar (pv 6)) (oK pe_int (fun _ => .int _)) (fun _ _ => rfl)) (oVar (pv 4)) (by with_unfolding_all rfl)))) (fun _ _ _ _ _ => (oVar (pv 6)))) oNil)) oNil))))
      zNil)))))
theorem ok_can_step (T : Tx K mg) : FnOk P w K mg base CX0 8 T.a_can_step T.fd_can_step ["world", "standing"] (spF K 2 f_can_step) :=
  mkFn T.F_can_step sc_can_step true fun cdv A outer s H E hr =>
    have nd := sc_can_step.nd
    (zCons (zAsg (oTup (oCons (oCall (ok_aboard_of T) (hr.mono (by decide)) rfl T.m_aboard_of T.F_aboard_of.kp T.b_aboard_of (oCons (oVar (pv 1)) oNil) (len_cons (fun _ _ _ _ h => len_nil h))) (oCons (oCall (ok_front_of T) (hr.mono (by decide)) rfl T.m_front_of T.F_front_of.kp T.b_front_of (oCons (oVar (pv 0)) (oCons (oVar (pv 1)) oNil)) (len_cons (len_cons (fun _ _ _ _ h => len_nil h)))) oNil))) (gTuple rfl (gsCons (gNameOk (i := 2) nd rfl (by first | exact .inl rfl | exact .inr rfl)) (gsCons (gNameOk (i := 3) nd rfl (by first | exact .inl rfl | exact .inr rfl)) gsNil)) (glen1 (glen1 glen0))))
      (zCons (zRet (oCompC (own := [("step", 4)]) [4] rfl (by decide) rfl nd (iSeq (oCall (ok_all_steps T) (hr.mono (by decide)) rfl T.m_all_steps T.F_all_steps.kp T.b_all_steps (oCons (oVar (pv 0)) oNil) (len_cons (fun _ _ _ _ h => len_nil h)))) (by kernel_rfl) (fun _ _ _ _ _ => (gNameOk (i := 4) nd rfl (by first | exact .inl rfl | exact .inr rfl))) (fun _ _ _ _ _ => (tsOne (qCmp op_notN okNotN (oCall (ok_best_gap T) (hr.mono (by decide)) rfl T.m_best_gap T.F_best_gap.kp T.b_best_gap (oCons (oVar (pv 0)) (oCons (oVar (pv 2)) (oCons (oVar (pv 3)) (oCons (oVar (pv 4)) oNil)))) (len_cons (len_cons (len_cons (len_cons (fun _ _ _ _ h => len_nil h)))))) (oK pe_non (fun _ => .non)) (nomark _)))) (fun _ _ _ _ _ => (oVar (pv 4)))))
      zNil))
theorem ok_rows_by (T : Tx K mg) : FnOk P w K mg base CX0 4 T.a_rows_by T.fd_rows_by ["world", "lot", "front", "step", "gap"] (spF K 5 f_rows_by) :=
  mkFn T.F_rows_by sc_rows_by false fun cdv A outer s H E hr =>
    have nd := sc_rows_by.nd
    (zCons (zSet (i := 5) nd rfl (by first | exact .inl rfl | exact .inr rfl) (oComp (own := [("name", 8)]) [8] rfl (by decide) rfl nd (iSeq (oVar (pv 1))) (by kernel_rfl) (fun _ _ _ _ _ => (gNameOk (i := 8) nd rfl (by first | exact .inl rfl | exact .inr rfl))) (fun _ _ _ _ _ => (tsOne (L2.PW.pt (qOr (qCmp (op_eqD hr.units) okEq (oIx (ixAny hr) okIx (oVar (pv 3)) (oK pe_int (fun _ => .int _)) (fun _ _ => rfl)) (oK (pe_glob (v := .str _) rfl T.m_ON ⟨_, rfl⟩) (fun _ => .str _)) (nomark _)) (qOne2 (qCmp (opNotIn hr) okNotIn (oVar (pv 8)) (oCall (ok_movers T) (hr.mono (by decide)) rfl T.m_movers T.F_movers.kp T.b_movers (oCons (oVar (pv 3)) oNil) (len_cons (fun _ _ _ _ h => len_nil h))) (by with_unfolding_all rfl))))))) (fun _ _ _ _ _ => (oVar (pv 8)))))
      (zCons (zSet (i := 6) nd rfl (by first | exact .inl rfl | exact .inr rfl) (oCall (ok_weight_of T) (hr.mono (by decide)) rfl T.m_weight_of T.F_weight_of.kp T.b_weight_of (oCons (oVar (pv 0)) (oCons (oVar (pv 5)) oNil)) (len_cons (len_cons (fun _ _ _ _ h => len_nil h)))))
      (zCons (zSet (i := 7) nd rfl (by first | exact .inl rfl | exact .inr rfl) (oIf (qCmp op_gt okGt (oVar (pv 6)) (oK pe_int (fun _ => .int _)) (nomark _)) (oCall (ok_times T) (hr.mono (by decide)) rfl T.m_times T.F_times.kp T.b_times (oCons (oCall (ok_less T) (hr.mono (by decide)) rfl T.m_less T.F_less.kp T.b_less (oCons (oVar (pv 2)) (oCons (oVar (pv 4)) oNil)) (len_cons (len_cons (fun _ _ _ _ h => len_nil h)))) (oCons (oCall (ok_whole_of T) (hr.mono (by decide)) rfl T.m_whole_of T.F_whole_of.kp T.b_whole_of (oCons (oVar (pv 0)) (oCons (oVar (pv 1)) oNil)) (len_cons (len_cons (fun _ _ _ _ h => len_nil h)))) (oCons (oVar (pv 6)) oNil))) (len_cons (len_cons (len_cons (fun _ _ _ _ h => len_nil h))))) (oK (pe_glob (v := .ref T.a_NOUGHT) rfl T.m_NOUGHT rfl) (fun _ => .kt T.t_NOUGHT))))
      (zCons (zRet (oCallT clTup (ckTup true) rfl T.m_tuple (by decide +kernel) (oCons (oComp (own := [("name", 8)]) [8] rfl (by decide) rfl nd (iSeq (oVar (pv 1))) (by kernel_rfl) (fun _ _ _ _ _ => (gNameOk (i := 8) nd rfl (by first | exact .inl rfl | exact .inr rfl))) (fun _ _ _ _ _ => tsNil) (fun _ _ _ _ _ => (oTup (oCons (oVar (pv 8)) (oCons (oIf (qCmp (opIn hr) okIn (oVar (pv 8)) (oVar (pv 5)) (by with_unfolding_all rfl)) (oVar (pv 7)) (oK (pe_glob (v := .ref T.a_NOUGHT) rfl T.m_NOUGHT rfl) (fun _ => .kt T.t_NOUGHT))) oNil))))) oNil)))
      zNil))))
theorem ok_rows_for (T : Tx K mg) : FnOk P w K mg base CX0 8 T.a_rows_for T.fd_rows_for ["world", "standing", "step"] (spF K 3 f_rows_for) :=
  mkFn T.F_rows_for sc_rows_for false fun cdv A outer s H E hr =>
    have nd := sc_rows_for.nd
    (zCons (zPar (i := 3) (j := 4) rfl nd rfl rfl (by decide) rfl rfl (oCons (oCall (ok_aboard_of T) (hr.mono (by decide)) rfl T.m_aboard_of T.F_aboard_of.kp T.b_aboard_of (oCons (oVar (pv 1)) oNil) (len_cons (fun _ _ _ _ h => len_nil h))) (oCons (oCall (ok_front_of T) (hr.mono (by decide)) rfl T.m_front_of T.F_front_of.kp T.b_front_of (oCons (oVar (pv 0)) (oCons (oVar (pv 1)) oNil)) (len_cons (len_cons (fun _ _ _ _ h => len_nil h)))) oNil)) rfl)
      (zCons (zSet (i := 5) nd rfl (by first | exact .inl rfl | exact .inr rfl) (oCall (ok_best_gap T) (hr.mono (by decide)) rfl T.m_best_gap T.F_best_gap.kp T.b_best_gap (oCons (oVar (pv 0)) (oCons (oVar (pv 3)) (oCons (oVar (pv 4)) (oCons (oVar (pv 2)) oNil)))) (len_cons (len_cons (len_cons (len_cons (fun _ _ _ _ h => len_nil h)))))))
      (zCons (zRet (oIf (qCmp op_isN okIsN (oVar (pv 5)) (oK pe_non (fun _ => .non)) (nomark _)) (oK pe_non (fun _ => .non)) (oCall (ok_rows_by T) (hr.mono (by decide)) rfl T.m_rows_by T.F_rows_by.kp T.b_rows_by (oCons (oVar (pv 0)) (oCons (oVar (pv 3)) (oCons (oVar (pv 4)) (oCons (oVar (pv 2)) (oCons (oVar (pv 5)) oNil))))) (len_cons (len_cons (len_cons (len_cons (len_cons (fun _ _ _ _ h => len_nil h)))))))))
      zNil)))
theorem ok_has_folk (T : Tx K mg) : FnOk P w K mg base CX0 2 T.a_has_folk T.fd_has_folk ["world", "lot"] (spF K 2 f_has_folk) :=
  mkFn T.F_has_folk sc_has_folk false fun cdv A outer s H E hr =>
    have nd := sc_has_folk.nd
    (zCons (zRet (oCmp (op_neD hr.units) okNe (oComp (own := [("name", 2)]) [2] rfl (by decide) rfl nd (iSeq (oVar (pv 1))) (by kernel_rfl) (fun _ _ _ _ _ => (gNameOk (i := 2) nd rfl (by first | exact .inl rfl | exact .inr rfl))) (fun _ _ _ _ _ => (tsOne (qCmp (opIn hr) okIn (oVar (pv 2)) (oCall (ok_folk_of T) (hr.mono (by decide)) rfl T.m_folk_of T.F_folk_of.kp T.b_folk_of (oCons (oVar (pv 0)) oNil) (len_cons (fun _ _ _ _ h => len_nil h))) (by with_unfolding_all rfl)))) (fun _ _ _ _ _ => (oVar (pv 2)))) (oLst oNil) (nomark _)))
      zNil)
theorem ok_pulls_by (T : Tx K mg) : FnOk P w K mg base CX0 7 T.a_pulls_by T.fd_pulls_by ["world", "lot", "front", "step"] (spF K 4 f_pulls_by) :=
  mkFn T.F_pulls_by sc_pulls_by false fun cdv A outer s H E hr =>
    have nd := sc_pulls_by.nd
    (zCons (zSet (i := 4) nd rfl (by first | exact .inl rfl | exact .inr rfl) (oCallT clTup (ckTup false) rfl T.m_tuple (by decide +kernel) (oCons (oComp (own := [("name", 5)]) [5] rfl (by decide) rfl nd (iSeq (oVar (pv 1))) (by kernel_rfl) (fun _ _ _ _ _ => (gNameOk (i := 5) nd rfl (by first | exact .inl rfl | exact .inr rfl))) (fun _ _ _ _ _ => (tsOne (qCmp (opNotIn hr) okNotIn (oVar (pv 5)) (oCall (ok_movers T) (hr.mono (by decide)) rfl T.m_movers T.F_movers.kp T.b_movers (oCons (oVar (pv 3)) oNil) (len_cons (fun _ _ _ _ h => len_nil h))) (by with_unfolding_all rfl)))) (fun _ _ _ _ _ => (oVar (pv 5)))) oNil)))
      (zCons (zIf (qNot (qVal (oCall (ok_has_folk T) (hr.mono (by decide)) rfl T.m_has_folk T.F_has_folk.kp T.b_has_folk (oCons (oVar (pv 0)) (oCons (oVar (pv 4)) oNil)) (len_cons (len_cons (fun _ _ _ _ h => len_nil h)))))) (zCons (zRet (oK pe_bl (fun _ => .bl _)))
      zNil) zNil)
      (zCons (zRet (oCall (ok_is_lesser T) (hr.mono (by decide)) rfl T.m_is_lesser T.F_is_lesser.kp T.b_is_lesser (oCons (oCall (ok_nearest_for T) (hr.mono (by decide)) rfl T.m_nearest_for T.F_nearest_for.kp T.b_nearest_for (oCons (oVar (pv 0)) (oCons (oVar (pv 1)) (oCons (oVar (pv 2)) (oCons (oVar (pv 3)) oNil)))) (len_cons (len_cons (len_cons (len_cons (fun _ _ _ _ h => len_nil h)))))) (oCons (oCall (ok_lesser T) (hr.mono (by decide)) rfl T.m_lesser T.F_lesser.kp T.b_lesser (oCons (oCall (ok_reach_of T) (hr.mono (by decide)) rfl T.m_reach_of T.F_reach_of.kp T.b_reach_of (oCons (oVar (pv 0)) (oCons (oVar (pv 3)) oNil)) (len_cons (len_cons (fun _ _ _ _ h => len_nil h)))) (oCons (oVar (pv 2)) oNil)) (len_cons (len_cons (fun _ _ _ _ h => len_nil h)))) oNil)) (len_cons (len_cons (fun _ _ _ _ h => len_nil h)))))
      zNil)))
theorem ok_closed (T : Tx K mg) : FnOk P w K mg base CX0 9 T.a_closed T.fd_closed ["world", "standing"] (spF K 2 f_closed) :=
  mkFn T.F_closed sc_closed false fun cdv A outer s H E hr =>
    have nd := sc_closed.nd
    (zCons (zSet (i := 2) nd rfl (by first | exact .inl rfl | exact .inr rfl) (oDispT hr (oCall (ok_aboard_of T) (hr.mono (by decide)) rfl T.m_aboard_of T.F_aboard_of.kp T.b_aboard_of (oCons (oVar (pv 1)) oNil) (len_cons (fun _ _ _ _ h => len_nil h))) (oCall (ok_front_of T) (hr.mono (by decide)) rfl T.m_front_of T.F_front_of.kp T.b_front_of (oCons (oVar (pv 0)) (oCons (oVar (pv 1)) oNil)) (len_cons (len_cons (fun _ _ _ _ h => len_nil h))))))
      (zCons (zSet (i := 3) nd rfl (by first | exact .inl rfl | exact .inr rfl) (oK pe_bl (fun _ => .bl _)))
      (zCons (zWhile 2000000 PassesOwn.never (qVal (oVar (pv 3))) (zCons (zSet (i := 3) nd rfl (by first | exact .inl rfl | exact .inr rfl) (oK pe_bl (fun _ => .bl _)))
      (zCons (zFor PassesOwn.never rfl (iSeq (oCallT (clListD rfl) ckListD rfl T.m_list (by decide +kernel) (oCons (oVar (pv 2)) oNil))) (gNameOk (i := 4) nd rfl (by first | exact .inl rfl | exact .inr rfl)) (zCons (zFor PassesOwn.never rfl (iSeq (oCall (ok_all_steps T) (hr.mono (by decide)) rfl T.m_all_steps T.F_all_steps.kp T.b_all_steps (oCons (oVar (pv 0)) oNil) (len_cons (fun _ _ _ _ h => len_nil h)))) (gNameOk (i := 5) nd rfl (by first | exact .inl rfl | exact .inr rfl)) (zCons (zSet (i := 6) nd rfl (by first | exact .inl rfl | exact .inr rfl) (oCall (ok_best_from T) (hr.mono (by decide)) rfl T.m_best_from T.F_best_from.kp T.b_best_from (oCons (oVar (pv 0)) (oCons (oVar (pv 4)) (oCons (oIx (ixAny hr) okIx (oVar (pv 2)) (oVar (pv 4)) (fun _ _ => rfl)) (oCons (oVar (pv 5)) oNil)))) (len_cons (len_cons (len_cons (len_cons (fun _ _ _ _ h => len_nil h)))))))
      (zCons (zIf (qCmp op_notN okNotN (oVar (pv 6)) (oK pe_non (fun _ => .non)) (nomark _)) (zCons (zIf (qVal (oCall (ok_pulls_by T) (hr.mono (by decide)) rfl T.m_pulls_by T.F_pulls_by.kp T.b_pulls_by (oCons (oVar (pv 0)) (oCons (oVar (pv 4)) (oCons (oIx (ixAny hr) okIx (oVar (pv 2)) (oVar (pv 4)) (fun _ _ => rfl)) (oCons (oVar (pv 5)) oNil)))) (len_cons (len_cons (len_cons (len_cons (fun _ _ _ _ h => len_nil h))))))) (zCons (zRet (oK pe_non (fun _ => .non)))
      zNil) zNil)
      (zCons (zSet (i := 7) nd rfl (by first | exact .inl rfl | exact .inr rfl) (oCall (ok_lot_behind T) (hr.mono (by decide)) rfl T.m_lot_behind T.F_lot_behind.kp T.b_lot_behind (oCons (oVar (pv 0)) (oCons (oVar (pv 4)) (oCons (oVar (pv 5)) oNil))) (len_cons (len_cons (len_cons (fun _ _ _ _ h => len_nil h))))))
      (zCons (zIf (L2.PW.pt (qOr (qCmp (opNotIn hr) okNotIn (oVar (pv 7)) (oVar (pv 2)) (by with_unfolding_all rfl)) (qOne2 (qVal (oCall (ok_is_lesser T) (hr.mono (by decide)) rfl T.m_is_lesser T.F_is_lesser.kp T.b_is_lesser (oCons (oVar (pv 6)) (oCons (oIx (ixAny hr) okIx (oVar (pv 2)) (oVar (pv 7)) (fun _ _ => rfl)) oNil)) (len_cons (len_cons (fun _ _ _ _ h => len_nil h)))))))) (zCons (zPutT hr (oVar (pv 6)) (oVar (pv 2)) (oVar (pv 7)))
      (zCons (zSet (i := 3) nd rfl (by first | exact .inl rfl | exact .inr rfl) (oK pe_bl (fun _ => .bl _)))
      zNil)) zNil)
      zNil))) zNil)
      zNil)))
      zNil))
      zNil)))
      (zCons (zRet (oFrz (oVar (pv 2))))
      zNil))))
theorem ok_pulls (T : Tx K mg) : FnOk P w K mg base CX0 10 T.a_pulls T.fd_pulls ["world", "standing"] (spF K 2 f_pulls) :=
  mkFn T.F_pulls sc_pulls false fun cdv A outer s H E hr =>
    have nd := sc_pulls.nd
    (zCons (zRet (oOr (oCmp op_isN okIsN (oCall (ok_closed T) (hr.mono (by decide)) rfl T.m_closed T.F_closed.kp T.b_closed (oCons (oVar (pv 0)) (oCons (oVar (pv 1)) oNil)) (len_cons (len_cons (fun _ _ _ _ h => len_nil h)))) (oK pe_non (fun _ => .non)) (nomark _)) (oOne (oCmp (op_eqD hr.units) okEq (oCall (ok_front_of T) (hr.mono (by decide)) rfl T.m_front_of T.F_front_of.kp T.b_front_of (oCons (oVar (pv 0)) (oCons (oVar (pv 1)) oNil)) (len_cons (len_cons (fun _ _ _ _ h => len_nil h)))) (oK (pe_glob (v := .ref T.a_NOUGHT) rfl T.m_NOUGHT rfl) (fun _ => .kt T.t_NOUGHT)) (nomark _)))))
      zNil)
theorem ok_l_bag (T : Tx K mg) : FnOk P w K mg base CX0 1 T.a_l_bag T.fd_l_bag ["script", "k"] (spF K 2 f_l_bag) :=
  mkFn T.F_l_bag sc_l_bag true fun cdv A outer s H E hr =>
    have nd := sc_l_bag.nd
    (zCons (zSet (i := 2) nd rfl (by first | exact .inl rfl | exact .inr rfl) (oK pe_int (fun _ => .int _)))
      (zCons (zIf (qCmp opLt okLt (oVar (pv 1)) (oCallB clLen ckLen rfl T.m_len (by decide +kernel) (oCons (oVar (pv 0)) oNil)) (nomark _)) (zCons (zSet (i := 2) nd rfl (by first | exact .inl rfl | exact .inr rfl) (oCallB call_abs ckAbs rfl T.m_abs (by decide +kernel) (oCons (oIx (ixAny hr) okIx (oVar (pv 0)) (oVar (pv 1)) (fun _ _ => rfl)) oNil)))
      zNil) zNil)
      (zCons (zIf (qCmp opLt okLt (oVar (pv 2)) (oBin op_pow okPow (oK pe_int (fun _ => .int _)) (oK pe_int (fun _ => .int _))) (nomark _)) (zCons (zRet (oNewL (oCons (oK pe_int (fun _ => .int _)) (oCons (oBin opAdd okAdd (oK pe_int (fun _ => .int _)) (oBin op_mod okMod (oBin opAdd okAdd (oBin op_mulW okMul (oVar (pv 2)) (oK pe_int (fun _ => .int _))) (oBin op_mulW okMul (oK pe_int (fun _ => .int _)) (oVar (pv 1)))) (oK pe_int (fun _ => .int _)))) oNil))))
      zNil) zNil)
      (zCons (zRet (oNewL (oCons (oVar (pv 2)) (oCons (oBin opAdd okAdd (oK pe_int (fun _ => .int _)) (oBin op_mod okMod (oBin opAdd okAdd (oVar (pv 2)) (oVar (pv 1))) (oK pe_int (fun _ => .int _)))) oNil))))
      zNil))))
theorem ok_l_take (T : Tx K mg) : FnOk P w K mg base CX0 1 T.a_l_take T.fd_l_take ["bag", "many"] (spF K 2 f_l_take) :=
  mkFn T.F_l_take sc_l_take false fun cdv A outer s H E hr =>
    have nd := sc_l_take.nd
    (zCons (zIf (qCmp op_gt okGt (oIx (ixAny hr) okIx (oVar (pv 0)) (oK pe_int (fun _ => .int _)) (fun _ _ => rfl)) (oK pe_int (fun _ => .int _)) (nomark _)) (zCons (zSet (i := 2) nd rfl (by first | exact .inl rfl | exact .inr rfl) (oBin op_mod okMod (oIx (ixAny hr) okIx (oVar (pv 0)) (oK pe_int (fun _ => .int _)) (fun _ _ => rfl)) (oVar (pv 1))))
      (zCons (zPut (oBin op_fdivW okDiv (oIx (ixAny hr) okIx (oVar (pv 0)) (oK pe_int (fun _ => .int _)) (fun _ _ => rfl)) (oVar (pv 1))) (oVar (pv 0)) (oK pe_int (fun _ => .int _)))
      (zCons (zRet (oVar (pv 2)))
      zNil))) zNil)
      (zCons (zPut (oBin op_mod okMod (oBin op_mulW okMul (oIx (ixAny hr) okIx (oVar (pv 0)) (oK pe_int (fun _ => .int _)) (fun _ _ => rfl)) (oK pe_int (fun _ => .int _))) (oK pe_int (fun _ => .int _))) (oVar (pv 0)) (oK pe_int (fun _ => .int _)))
      (zCons (zRet (oBin op_mod okMod (oBin op_fdivW okDiv (oBin op_mod okMod (oBin op_mulW okMul (oIx (ixAny hr) okIx (oVar (pv 0)) (oK pe_int (fun _ => .int _)) (fun _ _ => rfl)) (oIx (ixAny hr) okIx (oVar (pv 0)) (oK pe_int (fun _ => .int _)) (fun _ _ => rfl))) (oK pe_int (fun _ => .int _))) (oK pe_int (fun _ => .int _))) (oVar (pv 1))))
      zNil)))
theorem ok_l_of (T : Tx K mg) : FnOk P w K mg base CX0 2 T.a_l_of T.fd_l_of ["bag", "some"] (spF K 2 f_l_of) :=
  mkFn T.F_l_of sc_l_of false fun cdv A outer s H E hr =>
    have nd := sc_l_of.nd
    (zCons (zRet (oIx (ixAny hr) okIx (oVar (pv 1)) (oCall (ok_l_take T) (hr.mono (by decide)) rfl T.m_l_take T.F_l_take.kp T.b_l_take (oCons (oVar (pv 0)) (oCons (oCallB clLen ckLen rfl T.m_len (by decide +kernel) (oCons (oVar (pv 1)) oNil)) oNil)) (len_cons (len_cons (fun _ _ _ _ h => len_nil h)))) (fun _ _ => rfl)))
      zNil)
theorem ok_l_lowest (T : Tx K mg) : FnOk P w K mg base CX0 1 T.a_l_lowest T.fd_l_lowest ["top", "bottom"] (spF K 2 f_l_lowest) :=
  mkFn T.F_l_lowest sc_l_lowest false fun cdv A outer s H E hr =>
    have nd := sc_l_lowest.nd
    (zCons (zPar (i := 2) (j := 3) rfl nd rfl rfl (by decide) rfl rfl (oCons (oCallB call_abs ckAbs rfl T.m_abs (by decide +kernel) (oCons (oVar (pv 0)) oNil)) (oCons (oVar (pv 1)) oNil)) rfl)
      (zCons (zWhile 100000 PassesOwn.never (qCmp op_gt okGt (oVar (pv 3)) (oK pe_int (fun _ => .int _)) (nomark _)) (zCons (zPar (i := 2) (j := 3) rfl nd rfl rfl (by decide) rfl rfl (oCons (oVar (pv 3)) (oCons (oBin op_mod okMod (oVar (pv 2)) (oVar (pv 3))) oNil)) rfl)
      zNil))
      (zCons (zRet (oTup (oCons (oBin op_fdivW okDiv (oVar (pv 0)) (oVar (pv 2))) (oCons (oBin op_fdivW okDiv (oVar (pv 1)) (oVar (pv 2))) oNil))))
      zNil)))
theorem ok_l_plus (T : Tx K mg) : FnOk P w K mg base CX0 2 T.a_l_plus T.fd_l_plus ["one", "other"] (spF K 2 f_l_plus) :=
  mkFn T.F_l_plus sc_l_plus false fun cdv A outer s H E hr =>
    have nd := sc_l_plus.nd
    (zCons (zRet (oCall (ok_l_lowest T) (hr.mono (by decide)) rfl T.m_l_lowest T.F_l_lowest.kp T.b_l_lowest (oCons (oBin opAdd okAdd (oBin op_mulW okMul (oIx (ixAny hr) okIx (oVar (pv 0)) (oK pe_int (fun _ => .int _)) (fun _ _ => rfl)) (oIx (ixAny hr) okIx (oVar (pv 1)) (oK pe_int (fun _ => .int _)) (fun _ _ => rfl))) (oBin op_mulW okMul (oIx (ixAny hr) okIx (oVar (pv 1)) (oK pe_int (fun _ => .int _)) (fun _ _ => rfl)) (oIx (ixAny hr) okIx (oVar (pv 0)) (oK pe_int (fun _ => .int _)) (fun _ _ => rfl)))) (oCons (oBin op_mulW okMul (oIx (ixAny hr) okIx (oVar (pv 0)) (oK pe_int (fun _ => .int _)) (fun _ _ => rfl)) (oIx (ixAny hr) okIx (oVar (pv 1)) (oK pe_int (fun _ => .int _)) (fun _ _ => rfl))) oNil)) (len_cons (len_cons (fun _ _ _ _ h => len_nil h)))))
      zNil)
theorem ok_l_minus (T : Tx K mg) : FnOk P w K mg base CX0 2 T.a_l_minus T.fd_l_minus ["one", "other"] (spF K 2 f_l_minus) :=
  mkFn T.F_l_minus sc_l_minus false fun cdv A outer s H E hr =>
    have nd := sc_l_minus.nd
    (zCons (zRet (oCall (ok_l_lowest T) (hr.mono (by decide)) rfl T.m_l_lowest T.F_l_lowest.kp T.b_l_lowest (oCons (oBin op_sub okSub (oBin op_mulW okMul (oIx (ixAny hr) okIx (oVar (pv 0)) (oK pe_int (fun _ => .int _)) (fun _ _ => rfl)) (oIx (ixAny hr) okIx (oVar (pv 1)) (oK pe_int (fun _ => .int _)) (fun _ _ => rfl))) (oBin op_mulW okMul (oIx (ixAny hr) okIx (oVar (pv 1)) (oK pe_int (fun _ => .int _)) (fun _ _ => rfl)) (oIx (ixAny hr) okIx (oVar (pv 0)) (oK pe_int (fun _ => .int _)) (fun _ _ => rfl)))) (oCons (oBin op_mulW okMul (oIx (ixAny hr) okIx (oVar (pv 0)) (oK pe_int (fun _ => .int _)) (fun _ _ => rfl)) (oIx (ixAny hr) okIx (oVar (pv 1)) (oK pe_int (fun _ => .int _)) (fun _ _ => rfl))) oNil)) (len_cons (len_cons (fun _ _ _ _ h => len_nil h)))))
      zNil)
theorem ok_l_times (T : Tx K mg) : FnOk P w K mg base CX0 2 T.a_l_times T.fd_l_times ["part", "by"] (spF K 2 f_l_times) :=
  mkFn T.F_l_times sc_l_times false fun cdv A outer s H E hr =>
    have nd := sc_l_times.nd
    (zCons (zRet (oCall (ok_l_lowest T) (hr.mono (by decide)) rfl T.m_l_lowest T.F_l_lowest.kp T.b_l_lowest (oCons (oBin op_mulW okMul (oIx (ixAny hr) okIx (oVar (pv 0)) (oK pe_int (fun _ => .int _)) (fun _ _ => rfl)) (oVar (pv 1))) (oCons (oIx (ixAny hr) okIx (oVar (pv 0)) (oK pe_int (fun _ => .int _)) (fun _ _ => rfl)) oNil)) (len_cons (len_cons (fun _ _ _ _ h => len_nil h)))))
      zNil)
theorem ok_l_less (T : Tx K mg) : FnOk P w K mg base CX0 1 T.a_l_less T.fd_l_less ["one", "other"] (spF K 2 f_l_less) :=
  mkFn T.F_l_less sc_l_less false fun cdv A outer s H E hr =>
    have nd := sc_l_less.nd
    (zCons (zRet (oCmp opLt okLt (oBin op_mulW okMul (oIx (ixAny hr) okIx (oVar (pv 0)) (oK pe_int (fun _ => .int _)) (fun _ _ => rfl)) (oIx (ixAny hr) okIx (oVar (pv 1)) (oK pe_int (fun _ => .int _)) (fun _ _ => rfl))) (oBin op_mulW okMul (oIx (ixAny hr) okIx (oVar (pv 1)) (oK pe_int (fun _ => .int _)) (fun _ _ => rfl)) (oIx (ixAny hr) okIx (oVar (pv 0)) (oK pe_int (fun _ => .int _)) (fun _ _ => rfl))) (nomark _)))
      zNil)
theorem ok_l_least (T : Tx K mg) : FnOk P w K mg base CX0 2 T.a_l_least T.fd_l_least ["one", "other"] (spF K 2 f_l_least) :=
  mkFn T.F_l_least sc_l_least false fun cdv A outer s H E hr =>
    have nd := sc_l_least.nd
    (zCons (zRet (oIf (qVal (oCall (ok_l_less T) (hr.mono (by decide)) rfl T.m_l_less T.F_l_less.kp T.b_l_less (oCons (oVar (pv 0)) (oCons (oVar (pv 1)) oNil)) (len_cons (len_cons (fun _ _ _ _ h => len_nil h))))) (oVar (pv 0)) (oVar (pv 1))))
      zNil)
theorem ok_l_world (T : Tx K mg) : FnOk P w K mg base CX0 2 T.a_l_world T.fd_l_world ["bag", "most", "most_loads"] (spF K 3 f_l_world) :=
  mkFn T.F_l_world sc_l_world false fun cdv A outer s H E hr =>
    have nd := sc_l_world.nd
    (zCons (zSet (i := 3) nd rfl (by first | exact .inl rfl | exact .inr rfl) (oTup (oCons (oBin opAdd okAdd (oK pe_int (fun _ => .int _)) (oCall (ok_l_take T) (hr.mono (by decide)) rfl T.m_l_take T.F_l_take.kp T.b_l_take (oCons (oVar (pv 0)) (oCons (oIx (ixAny hr) okIx (oLst (oCons (oK pe_int (fun _ => .int _)) (oCons (oK pe_int (fun _ => .int _)) (oCons (oK pe_int (fun _ => .int _)) oNil)))) (oCall (ok_l_take T) (hr.mono (by decide)) rfl T.m_l_take T.F_l_take.kp T.b_l_take (oCons (oVar (pv 0)) (oCons (oK pe_int (fun _ => .int _)) oNil)) (len_cons (len_cons (fun _ _ _ _ h => len_nil h)))) (fun _ _ => rfl)) oNil)) (len_cons (len_cons (fun _ _ _ _ h => len_nil h))))) (oCons (oBin opAdd okAdd (oK pe_int (fun _ => .int _)) (oCall (ok_l_take T) (hr.mono (by decide)) rfl T.m_l_take T.F_l_take.kp T.b_l_take (oCons (oVar (pv 0)) (oCons (oIx (ixAny hr) okIx (oLst (oCons (oK pe_int (fun _ => .int _)) (oCons (oK pe_int (fun _ => .int _)) oNil))) (oCall (ok_l_take T) (hr.mono (by decide)) rfl T.m_l_take T.F_l_take.kp T.b_l_take (oCons (oVar (pv 0)) (oCons (oK pe_int (fun _ => .int _)) oNil)) (len_cons (len_cons (fun _ _ _ _ h => len_nil h)))) (fun _ _ => rfl)) oNil)) (len_cons (len_cons (fun _ _ _ _ h => len_nil h))))) oNil))))
      (zCons (zSet (i := 4) nd rfl (by first | exact .inl rfl | exact .inr rfl) (oBin opAdd okAdd (oK pe_int (fun _ => .int _)) (oCall (ok_l_take T) (hr.mono (by decide)) rfl T.m_l_take T.F_l_take.kp T.b_l_take (oCons (oVar (pv 0)) (oCons (oIx (ixAny hr) okIx (oLst (oCons (oK pe_int (fun _ => .int _)) (oCons (oK pe_int (fun _ => .int _)) oNil))) (oCall (ok_l_take T) (hr.mono (by decide)) rfl T.m_l_take T.F_l_take.kp T.b_l_take (oCons (oVar (pv 0)) (oCons (oK pe_int (fun _ => .int _)) oNil)) (len_cons (len_cons (fun _ _ _ _ h => len_nil h)))) (fun _ _ => rfl)) oNil)) (len_cons (len_cons (fun _ _ _ _ h => len_nil h))))))
      (zCons (zSet (i := 5) nd rfl (by first | exact .inl rfl | exact .inr rfl) (oCmp (op_eqD hr.units) okEq (oCall (ok_l_take T) (hr.mono (by decide)) rfl T.m_l_take T.F_l_take.kp T.b_l_take (oCons (oVar (pv 0)) (oCons (oK pe_int (fun _ => .int _)) oNil)) (len_cons (len_cons (fun _ _ _ _ h => len_nil h)))) (oK pe_int (fun _ => .int _)) (nomark _)))
      (zCons (zSet (i := 6) nd rfl (by first | exact .inl rfl | exact .inr rfl) (oNewL oNil))
      (zCons (zFor PassesOwn.never rfl (iSeq (oSl (oLst (oCons (oK pe_str (fun _ => .str _)) (oCons (oK pe_str (fun _ => .str _)) (oCons (oK pe_str (fun _ => .str _)) (oCons (oK pe_str (fun _ => .str _)) oNil))))) pNone (pSome (oBin opAdd okAdd (oK pe_int (fun _ => .int _)) (oCall (ok_l_take T) (hr.mono (by decide)) rfl T.m_l_take T.F_l_take.kp T.b_l_take (oCons (oVar (pv 0)) (oCons (oVar (pv 1)) oNil)) (len_cons (len_cons (fun _ _ _ _ h => len_nil h)))))))) (gNameOk (i := 7) nd rfl (by first | exact .inl rfl | exact .inr rfl)) (zCons (zSet (i := 8) nd rfl (by first | exact .inl rfl | exact .inr rfl) (oIf (qVal (oVar (pv 5))) (oVar (pv 4)) (oBin opAdd okAdd (oK pe_int (fun _ => .int _)) (oCall (ok_l_take T) (hr.mono (by decide)) rfl T.m_l_take T.F_l_take.kp T.b_l_take (oCons (oVar (pv 0)) (oCons (oIx (ixAny hr) okIx (oLst (oCons (oK pe_int (fun _ => .int _)) (oCons (oK pe_int (fun _ => .int _)) oNil))) (oCall (ok_l_take T) (hr.mono (by decide)) rfl T.m_l_take T.F_l_take.kp T.b_l_take (oCons (oVar (pv 0)) (oCons (oK pe_int (fun _ => .int _)) oNil)) (len_cons (len_cons (fun _ _ _ _ h => len_nil h)))) (fun _ _ => rfl)) oNil)) (len_cons (len_cons (fun _ _ _ _ h => len_nil h)))))))
      (zCons (zSet (i := 9) nd rfl (by first | exact .inl rfl | exact .inr rfl) (oBin opAdd okAdd (oK pe_int (fun _ => .int _)) (oCall (ok_l_take T) (hr.mono (by decide)) rfl T.m_l_take T.F_l_take.kp T.b_l_take (oCons (oVar (pv 0)) (oCons (oIx (ixAny hr) okIx (oLst (oCons (oK pe_int (fun _ => .int _)) (oCons (oK pe_int (fun _ => .int _)) oNil))) (oCall (ok_l_take T) (hr.mono (by decide)) rfl T.m_l_take T.F_l_take.kp T.b_l_take (oCons (oVar (pv 0)) (oCons (oK pe_int (fun _ => .int _)) oNil)) (len_cons (len_cons (fun _ _ _ _ h => len_nil h)))) (fun _ _ => rfl)) oNil)) (len_cons (len_cons (fun _ _ _ _ h => len_nil h))))))
      (zCons (zExpr (oAppend (oVar (pv 6)) (oTup (oCons (oVar (pv 7)) (oCons (oVar (pv 9)) (oCons (oVar (pv 8)) (oCons (oCall (ok_l_take T) (hr.mono (by decide)) rfl T.m_l_take T.F_l_take.kp T.b_l_take (oCons (oVar (pv 0)) (oCons (oIx (ixAny hr) okIx (oLst (oCons (oK pe_int (fun _ => .int _)) (oCons (oK pe_int (fun _ => .int _)) (oCons (oK pe_int (fun _ => .int _)) oNil)))) (oCall (ok_l_take T) (hr.mono (by decide)) rfl T.m_l_take T.F_l_take.kp T.b_l_take (oCons (oVar (pv 0)) (oCons (oK pe_int (fun _ => .int _)) oNil)) (len_cons (len_cons (fun _ _ _ _ h => len_nil h)))) (fun _ _ => rfl)) oNil)) (len_cons (len_cons (fun _ _ _ _ h => len_nil h)))) oNil)))))))
      zNil))))
      (zCons (zSet (i := 10) nd rfl (by first | exact .inl rfl | exact .inr rfl) (oNewL oNil))
      (zCons (zFor PassesOwn.never rfl (iSeq (oSl (oLst (oCons (oK pe_str (fun _ => .str _)) (oCons (oK pe_str (fun _ => .str _)) oNil))) pNone (pSome (oCall (ok_l_take T) (hr.mono (by decide)) rfl T.m_l_take T.F_l_take.kp T.b_l_take (oCons (oVar (pv 0)) (oCons (oBin opAdd okAdd (oVar (pv 2)) (oK pe_int (fun _ => .int _))) oNil)) (len_cons (len_cons (fun _ _ _ _ h => len_nil h))))))) (gNameOk (i := 7) nd rfl (by first | exact .inl rfl | exact .inr rfl)) (zCons (zExpr (oAppend (oVar (pv 10)) (oTup (oCons (oVar (pv 7)) (oCons (oBin opAdd okAdd (oK pe_int (fun _ => .int _)) (oCall (ok_l_take T) (hr.mono (by decide)) rfl T.m_l_take T.F_l_take.kp T.b_l_take (oCons (oVar (pv 0)) (oCons (oIx (ixAny hr) okIx (oLst (oCons (oK pe_int (fun _ => .int _)) (oCons (oK pe_int (fun _ => .int _)) oNil))) (oCall (ok_l_take T) (hr.mono (by decide)) rfl T.m_l_take T.F_l_take.kp T.b_l_take (oCons (oVar (pv 0)) (oCons (oK pe_int (fun _ => .int _)) oNil)) (len_cons (len_cons (fun _ _ _ _ h => len_nil h)))) (fun _ _ => rfl)) oNil)) (len_cons (len_cons (fun _ _ _ _ h => len_nil h))))) oNil)))))
      zNil))
      (zCons (zFz (i := 10) (zFz (i := 6) (zRet (oTup (oCons (oVar (pv 3)) (oCons (oCallT clTup (ckTup false) rfl T.m_tuple (by decide +kernel) (oCons (oVar (pv 6)) oNil)) (oCons (oCallT clTup (ckTup false) rfl T.m_tuple (by decide +kernel) (oCons (oVar (pv 10)) oNil)) oNil)))))))
      zNil))))))))
theorem ok_l_names (T : Tx K mg) : FnOk P w K mg base CX0 1 T.a_l_names T.fd_l_names ["world"] (spF K 1 f_l_names) :=
  mkFn T.F_l_names sc_l_names false fun cdv A outer s H E hr =>
    have nd := sc_l_names.nd
    (zCons (zRet (oCallB cr_sortedS ckSortS rfl T.m_sorted (by decide +kernel) (oCons (oComp (own := [("one", 1)]) [1] rfl (by decide) rfl nd (iSeq (oBin opAdd okAdd (oIx (ixAny hr) okIx (oVar (pv 0)) (oK pe_int (fun _ => .int _)) (fun _ _ => rfl)) (oIx (ixAny hr) okIx (oVar (pv 0)) (oK pe_int (fun _ => .int _)) (fun _ _ => rfl)))) (by kernel_rfl) (fun _ _ _ _ _ => (gNameOk (i := 1) nd rfl (by first | exact .inl rfl | exact .inr rfl))) (fun _ _ _ _ _ => tsNil) (fun _ _ _ _ _ => (oIx (ixAny hr) okIx (oVar (pv 1)) (oK pe_int (fun _ => .int _)) (fun _ _ => rfl)))) oNil)))
      zNil)
theorem ok_l_folk (T : Tx K mg) : FnOk P w K mg base CX0 1 T.a_l_folk T.fd_l_folk ["world"] (spF K 1 f_l_folk) :=
  mkFn T.F_l_folk sc_l_folk false fun cdv A outer s H E hr =>
    have nd := sc_l_folk.nd
    (zCons (zRet (oComp (own := [("one", 1)]) [1] rfl (by decide) rfl nd (iSeq (oIx (ixAny hr) okIx (oVar (pv 0)) (oK pe_int (fun _ => .int _)) (fun _ _ => rfl))) (by kernel_rfl) (fun _ _ _ _ _ => (gNameOk (i := 1) nd rfl (by first | exact .inl rfl | exact .inr rfl))) (fun _ _ _ _ _ => tsNil) (fun _ _ _ _ _ => (oIx (ixAny hr) okIx (oVar (pv 1)) (oK pe_int (fun _ => .int _)) (fun _ _ => rfl)))))
      zNil)
theorem ok_l_can_lie (T : Tx K mg) : FnOk P w K mg base CX0 2 T.a_l_can_lie T.fd_l_can_lie ["world", "lot"] (spF K 2 f_l_can_lie) :=
  mkFn T.F_l_can_lie sc_l_can_lie false fun cdv A outer s H E hr =>
    have nd := sc_l_can_lie.nd
    (zCons (zSetComp (i := 2) (own := [("name", 3)]) [3] rfl (by decide) rfl nd rfl rfl (sw_true rfl rfl rfl (by decide +kernel)) (iSeq (oVar (pv 1))) (by kernel_rfl) (fun _ _ _ _ _ => (gNameOk (i := 3) nd rfl (by first | exact .inl rfl | exact .inr rfl))) (fun _ _ _ _ _ => (tsOne (qCmp (opIn hr) okIn (oVar (pv 3)) (oCall (ok_l_folk T) (hr.mono (by decide)) rfl T.m_l_folk T.F_l_folk.kp T.b_l_folk (oCons (oVar (pv 0)) oNil) (len_cons (fun _ _ _ _ h => len_nil h))) (by with_unfolding_all rfl)))) (fun _ _ _ _ _ => (oVar (pv 3))))
      (zCons (zRet (oOr (oCmp (op_neD hr.units) okNe (oVar (pv 2)) (oLst oNil) (nomark _)) (oOne (oCmp (op_eqD hr.units) okEq (oCallT call_list_of ckList rfl T.m_list (by decide +kernel) (oCons (oVar (pv 1)) oNil)) (oLst oNil) (nomark _)))))
      zNil))
theorem ok_l_place (T : Tx K mg) : FnOk P w K mg base CX0 3 T.a_l_place T.fd_l_place ["bag", "world"] (spF K 2 f_l_place) :=
  mkFn T.F_l_place sc_l_place false fun cdv A outer s H E hr =>
    have nd := sc_l_place.nd
    (zCons (zRet (oCall (ok_l_lowest T) (hr.mono (by decide)) rfl T.m_l_lowest T.F_l_lowest.kp T.b_l_lowest (oCons (oBin op_mulW okMul (oIx (ixAny hr) okIx (oIx (ixAny hr) okIx (oVar (pv 1)) (oK pe_int (fun _ => .int _)) (fun _ _ => rfl)) (oK pe_int (fun _ => .int _)) (fun _ _ => rfl)) (oCall (ok_l_of T) (hr.mono (by decide)) rfl T.m_l_of T.F_l_of.kp T.b_l_of (oCons (oVar (pv 0)) (oCons (oLst (oCons (oK pe_int (fun _ => .int _)) (oCons (oK pe_int (fun _ => .int _)) (oCons (oK pe_int (fun _ => .int _)) (oCons (oK pe_int (fun _ => .int _)) (oCons (oK pe_int (fun _ => .int _)) (oCons (oK pe_int (fun _ => .int _)) oNil))))))) oNil)) (len_cons (len_cons (fun _ _ _ _ h => len_nil h))))) (oCons (oK pe_int (fun _ => .int _)) oNil)) (len_cons (len_cons (fun _ _ _ _ h => len_nil h)))))
      zNil)
theorem ok_l_rows (T : Tx K mg) : FnOk P w K mg base CX0 4 T.a_l_rows T.fd_l_rows ["bag", "world", "lot"] (spF K 3 f_l_rows) :=
  mkFn T.F_l_rows sc_l_rows false fun cdv A outer s H E hr =>
    have nd := sc_l_rows.nd
    (zCons (zRet (oCallT clTup (ckTup true) rfl T.m_tuple (by decide +kernel) (oCons (oComp (own := [("name", 3)]) [3] rfl (by decide) rfl nd (iSeq (oVar (pv 2))) (by kernel_rfl) (fun _ _ _ _ _ => (gNameOk (i := 3) nd rfl (by first | exact .inl rfl | exact .inr rfl))) (fun _ _ _ _ _ => tsNil) (fun _ _ _ _ _ => (oTup (oCons (oVar (pv 3)) (oCons (oCall (ok_l_place T) (hr.mono (by decide)) rfl T.m_l_place T.F_l_place.kp T.b_l_place (oCons (oVar (pv 0)) (oCons (oVar (pv 1)) oNil)) (len_cons (len_cons (fun _ _ _ _ h => len_nil h)))) oNil))))) oNil)))
      zNil)
theorem ok_l_lot (T : Tx K mg) : FnOk P w K mg base CX0 3 T.a_l_lot T.fd_l_lot ["bag", "world"] (spF K 2 f_l_lot) :=
  mkFn T.F_l_lot sc_l_lot false fun cdv A outer s H E hr =>
    have nd := sc_l_lot.nd
    (zCons (zSet (i := 2) nd rfl (by first | exact .inl rfl | exact .inr rfl) (oNewL oNil))
      (zCons (zFor PassesOwn.never rfl (iSeq (oCall (ok_l_names T) (hr.mono (by decide)) rfl T.m_l_names T.F_l_names.kp T.b_l_names (oCons (oVar (pv 1)) oNil) (len_cons (fun _ _ _ _ h => len_nil h)))) (gNameOk (i := 3) nd rfl (by first | exact .inl rfl | exact .inr rfl)) (zCons (zIf (qCmp op_gt okGt (oCall (ok_l_take T) (hr.mono (by decide)) rfl T.m_l_take T.F_l_take.kp T.b_l_take (oCons (oVar (pv 0)) (oCons (oK pe_int (fun _ => .int _)) oNil)) (len_cons (len_cons (fun _ _ _ _ h => len_nil h)))) (oK pe_int (fun _ => .int _)) (nomark _)) (zCons (zExpr (oAppend (oVar (pv 2)) (oVar (pv 3))))
      zNil) zNil)
      zNil))
      (zCons (zFz (i := 2) (zRet (oIf (qVal (oCall (ok_l_can_lie T) (hr.mono (by decide)) rfl T.m_l_can_lie T.F_l_can_lie.kp T.b_l_can_lie (oCons (oVar (pv 1)) (oCons (oVar (pv 2)) oNil)) (len_cons (len_cons (fun _ _ _ _ h => len_nil h))))) (oCallT clTup (ckTup false) rfl T.m_tuple (by decide +kernel) (oCons (oVar (pv 2)) oNil)) (oCallT clTup (ckTup false) rfl T.m_tuple (by decide +kernel) (oCons (oCall (ok_l_names T) (hr.mono (by decide)) rfl T.m_l_names T.F_l_names.kp T.b_l_names (oCons (oVar (pv 1)) oNil) (len_cons (fun _ _ _ _ h => len_nil h))) oNil)))))
      zNil)))
theorem ok_l_standing (T : Tx K mg) : FnOk P w K mg base CX0 5 T.a_l_standing T.fd_l_standing ["bag", "world"] (spF K 2 f_l_standing) :=
  mkFn T.F_l_standing sc_l_standing false fun cdv A outer s H E hr =>
    have nd := sc_l_standing.nd
    (zCons (zSet (i := 2) nd rfl (by first | exact .inl rfl | exact .inr rfl) (oIx (ixAny hr) okIx (oLst (oCons (oK pe_int (fun _ => .int _)) (oCons (oIx (ixAny hr) okIx (oIx (ixAny hr) okIx (oVar (pv 1)) (oK pe_int (fun _ => .int _)) (fun _ _ => rfl)) (oK pe_int (fun _ => .int _)) (fun _ _ => rfl)) (oCons (oK pe_int (fun _ => .int _)) oNil)))) (oCall (ok_l_take T) (hr.mono (by decide)) rfl T.m_l_take T.F_l_take.kp T.b_l_take (oCons (oVar (pv 0)) (oCons (oK pe_int (fun _ => .int _)) oNil)) (len_cons (len_cons (fun _ _ _ _ h => len_nil h)))) (fun _ _ => rfl)))
      (zCons (zSet (i := 3) nd rfl (by first | exact .inl rfl | exact .inr rfl) (oCall (ok_l_lowest T) (hr.mono (by decide)) rfl T.m_l_lowest T.F_l_lowest.kp T.b_l_lowest (oCons (oCall (ok_l_take T) (hr.mono (by decide)) rfl T.m_l_take T.F_l_take.kp T.b_l_take (oCons (oVar (pv 0)) (oCons (oBin opAdd okAdd (oBin op_mulW okMul (oK pe_int (fun _ => .int _)) (oVar (pv 2))) (oK pe_int (fun _ => .int _))) oNil)) (len_cons (len_cons (fun _ _ _ _ h => len_nil h)))) (oCons (oK pe_int (fun _ => .int _)) oNil)) (len_cons (len_cons (fun _ _ _ _ h => len_nil h)))))
      (zCons (zRet (oTup (oCons (oVar (pv 3)) (oCons (oCall (ok_l_rows T) (hr.mono (by decide)) rfl T.m_l_rows T.F_l_rows.kp T.b_l_rows (oCons (oVar (pv 0)) (oCons (oVar (pv 1)) (oCons (oCall (ok_l_lot T) (hr.mono (by decide)) rfl T.m_l_lot T.F_l_lot.kp T.b_l_lot (oCons (oVar (pv 0)) (oCons (oVar (pv 1)) oNil)) (len_cons (len_cons (fun _ _ _ _ h => len_nil h)))) oNil))) (len_cons (len_cons (len_cons (fun _ _ _ _ h => len_nil h))))) oNil))))
      zNil)))
theorem ok_l_weight (T : Tx K mg) : FnOk P w K mg base CX0 1 T.a_l_weight T.fd_l_weight ["world", "lot"] (spF K 2 f_l_weight) :=
  mkFn T.F_l_weight sc_l_weight false fun cdv A outer s H E hr =>
    have nd := sc_l_weight.nd
    (zCons (zSet (i := 2) nd rfl (by first | exact .inl rfl | exact .inr rfl) (oDictK rfl rfl T.m_dict (by decide +kernel) (oComp (own := [("one", 3)]) [3] rfl (by decide) rfl nd (iSeq (oBin opAdd okAdd (oIx (ixAny hr) okIx (oVar (pv 0)) (oK pe_int (fun _ => .int _)) (fun _ _ => rfl)) (oIx (ixAny hr) okIx (oVar (pv 0)) (oK pe_int (fun _ => .int _)) (fun _ _ => rfl)))) (by kernel_rfl) (fun _ _ _ _ _ => (gNameOk (i := 3) nd rfl (by first | exact .inl rfl | exact .inr rfl))) (fun _ _ _ _ _ => tsNil) (fun _ _ _ _ _ => (oTup (oCons (oIx (ixAny hr) okIx (oVar (pv 3)) (oK pe_int (fun _ => .int _)) (fun _ _ => rfl)) (oCons (oIx (ixAny hr) okIx (oVar (pv 3)) (oK pe_int (fun _ => .int _)) (fun _ _ => rfl)) oNil)))))))
      (zCons (zRet (oCallB (cr_sum rfl) ckSum rfl T.m_sum (by decide +kernel) (oCons (oComp (own := [("name", 4)]) [4] rfl (by decide) rfl nd (iSeq (oVar (pv 1))) (by kernel_rfl) (fun _ _ _ _ _ => (gNameOk (i := 4) nd rfl (by first | exact .inl rfl | exact .inr rfl))) (fun _ _ _ _ _ => tsNil) (fun _ _ _ _ _ => (oIx (ixAny hr) okIx (oVar (pv 2)) (oVar (pv 4)) (fun _ _ => rfl)))) oNil)))
      zNil))
theorem ok_l_aboard (T : Tx K mg) : FnOk P w K mg base CX0 1 T.a_l_aboard T.fd_l_aboard ["standing"] (spF K 1 f_l_aboard) :=
  mkFn T.F_l_aboard sc_l_aboard false fun cdv A outer s H E hr =>
    have nd := sc_l_aboard.nd
    (zCons (zRet (oCallT clTup (ckTup false) rfl T.m_tuple (by decide +kernel) (oCons (oComp (own := [("row", 1)]) [1] rfl (by decide) rfl nd (iSeq (oIx (ixAny hr) okIx (oVar (pv 0)) (oK pe_int (fun _ => .int _)) (fun _ _ => rfl))) (by kernel_rfl) (fun _ _ _ _ _ => (gNameOk (i := 1) nd rfl (by first | exact .inl rfl | exact .inr rfl))) (fun _ _ _ _ _ => tsNil) (fun _ _ _ _ _ => (oIx (ixAny hr) okIx (oVar (pv 1)) (oK pe_int (fun _ => .int _)) (fun _ _ => rfl)))) oNil)))
      zNil)
theorem ok_l_steps (T : Tx K mg) : FnOk P w K mg base CX0 1 T.a_l_steps T.fd_l_steps ["world"] (spF K 1 f_l_steps) :=
  mkFn T.F_l_steps sc_l_steps false fun cdv A outer s H E hr =>
    have nd := sc_l_steps.nd
    (zCons (zSet (i := 1) nd rfl (by first | exact .inl rfl | exact .inr rfl) (oNewL oNil))
      (zCons (zFor PassesOwn.never rfl (iSeq (oLst (oCons (oK pe_str (fun _ => .str _)) (oCons (oK pe_str (fun _ => .str _)) oNil)))) (gNameOk (i := 2) nd rfl (by first | exact .inl rfl | exact .inr rfl)) (zCons (zFor PassesOwn.never rfl (iSeq (oIx (ixAny hr) okIx (oVar (pv 0)) (oK pe_int (fun _ => .int _)) (fun _ _ => rfl))) (gTuple rfl (gsCons (gNameOk (i := 3) nd rfl (by first | exact .inl rfl | exact .inr rfl)) (gsCons (gNameOk (i := 4) nd rfl (by first | exact .inl rfl | exact .inr rfl)) (gsCons (gNameOk (i := 5) nd rfl (by first | exact .inl rfl | exact .inr rfl)) (gsCons (gNameOk (i := 6) nd rfl (by first | exact .inl rfl | exact .inr rfl)) gsNil)))) (glen1 (glen1 (glen1 (glen1 glen0))))) (zCons (zExpr (oAppend (oVar (pv 1)) (oTup (oCons (oVar (pv 2)) (oCons (oVar (pv 3)) (oCons (oK pe_str (fun _ => .str _)) oNil))))))
      (zCons (zFor PassesOwn.never rfl (iSeq (oIx (ixAny hr) okIx (oVar (pv 0)) (oK pe_int (fun _ => .int _)) (fun _ _ => rfl))) (gTuple rfl (gsCons (gNameOk (i := 7) nd rfl (by first | exact .inl rfl | exact .inr rfl)) (gsCons (gNameOk (i := 8) nd rfl (by first | exact .inl rfl | exact .inr rfl)) gsNil)) (glen1 (glen1 glen0))) (zCons (zIf (qCmp op_le okLe (oVar (pv 8)) (oVar (pv 6)) (nomark _)) (zCons (zExpr (oAppend (oVar (pv 1)) (oTup (oCons (oVar (pv 2)) (oCons (oVar (pv 3)) (oCons (oVar (pv 7)) oNil))))))
      zNil) zNil)
      zNil))
      zNil)))
      zNil))
      (zCons (zRet (oFrz (oVar (pv 1))))
      zNil)))
theorem ok_l_after (T : Tx K mg) : FnOk P w K mg base CX0 3 T.a_l_after T.fd_l_after ["world", "lot", "step"] (spF K 3 f_l_after) :=
  mkFn T.F_l_after sc_l_after false fun cdv A outer s H E hr =>
    have nd := sc_l_after.nd
    (zCons (zSet (i := 3) nd rfl (by first | exact .inl rfl | exact .inr rfl) (oComp (own := [("name", 6)]) [6] rfl (by decide) rfl nd (iSeq (oSl (oVar (pv 2)) (pSome (oK pe_int (fun _ => .int _))) pNone)) (by kernel_rfl) (fun _ _ _ _ _ => (gNameOk (i := 6) nd rfl (by first | exact .inl rfl | exact .inr rfl))) (fun _ _ _ _ _ => (tsOne (qCmp (op_neD hr.units) okNe (oVar (pv 6)) (oK pe_str (fun _ => .str _)) (nomark _)))) (fun _ _ _ _ _ => (oVar (pv 6)))))
      (zCons (zSetComp (i := 4) (own := [("name", 6)]) [6] rfl (by decide) rfl nd rfl rfl (sw_true rfl rfl rfl (by decide +kernel)) (iSeq (oVar (pv 3))) (by kernel_rfl) (fun _ _ _ _ _ => (gNameOk (i := 6) nd rfl (by first | exact .inl rfl | exact .inr rfl))) (fun _ _ _ _ _ => (tsOne (qCmp (opIn hr) okIn (oVar (pv 6)) (oVar (pv 1)) (by with_unfolding_all rfl)))) (fun _ _ _ _ _ => (oVar (pv 6))))
      (zCons (zIf (L2.PW.pt (qOr (L2.PW.pt (qAnd (qCmp (op_eqD hr.units) okEq (oIx (ixAny hr) okIx (oVar (pv 2)) (oK pe_int (fun _ => .int _)) (fun _ _ => rfl)) (oK pe_str (fun _ => .str _)) (nomark _)) (qOne1 (qCmp opLt okLt (oCallB clLen ckLen rfl T.m_len (by decide +kernel) (oCons (oVar (pv 4)) oNil)) (oCallB clLen ckLen rfl T.m_len (by decide +kernel) (oCons (oVar (pv 3)) oNil)) (nomark _))))) (qOne2 (L2.PW.pt (qAnd (qCmp (op_eqD hr.units) okEq (oIx (ixAny hr) okIx (oVar (pv 2)) (oK pe_int (fun _ => .int _)) (fun _ _ => rfl)) (oK pe_str (fun _ => .str _)) (nomark _)) (qOne1 (qCmp (op_neD hr.units) okNe (oVar (pv 4)) (oLst oNil) (nomark _)))))))) (zCons (zRet (oK pe_non (fun _ => .non)))
      zNil) zNil)
      (zCons (zIf (qCmp (op_eqD hr.units) okEq (oIx (ixAny hr) okIx (oVar (pv 2)) (oK pe_int (fun _ => .int _)) (fun _ _ => rfl)) (oK pe_str (fun _ => .str _)) (nomark _)) (zCons (zSet (i := 5) nd rfl (by first | exact .inl rfl | exact .inr rfl) (oCallT clTup (ckTup false) rfl T.m_tuple (by decide +kernel) (oCons (oComp (own := [("name", 6)]) [6] rfl (by decide) rfl nd (iSeq (oVar (pv 1))) (by kernel_rfl) (fun _ _ _ _ _ => (gNameOk (i := 6) nd rfl (by first | exact .inl rfl | exact .inr rfl))) (fun _ _ _ _ _ => (tsOne (qCmp (opNotIn hr) okNotIn (oVar (pv 6)) (oVar (pv 3)) (by with_unfolding_all rfl)))) (fun _ _ _ _ _ => (oVar (pv 6)))) oNil)))
      zNil) (zCons (zSet (i := 5) nd rfl (by first | exact .inl rfl | exact .inr rfl) (oCallT clTup (ckTup false) rfl T.m_tuple (by decide +kernel) (oCons (oCallB cr_sortTx ckSortT rfl T.m_sorted (by decide +kernel) (oCons (oBin opAdd okAdd (oCallT call_list_of ckList rfl T.m_list (by decide +kernel) (oCons (oVar (pv 1)) oNil)) (oVar (pv 3))) oNil)) oNil)))
      zNil))
      (zCons (zRet (oIf (qVal (oCall (ok_l_can_lie T) (hr.mono (by decide)) rfl T.m_l_can_lie T.F_l_can_lie.kp T.b_l_can_lie (oCons (oVar (pv 0)) (oCons (oVar (pv 5)) oNil)) (len_cons (len_cons (fun _ _ _ _ h => len_nil h))))) (oVar (pv 5)) (oK pe_non (fun _ => .non))))
      zNil)))))
theorem ok_l_reach (T : Tx K mg) : FnOk P w K mg base CX0 1 T.a_l_reach T.fd_l_reach ["world", "step"] (spF K 2 f_l_reach) :=
  mkFn T.F_l_reach sc_l_reach false fun cdv A outer s H E hr =>
    have nd := sc_l_reach.nd
    (zCons (zRet (oTup (oCons (oIx (ixAny hr) okIx (oComp (own := [("one", 2)]) [2] rfl (by decide) rfl nd (iSeq (oIx (ixAny hr) okIx (oVar (pv 0)) (oK pe_int (fun _ => .int _)) (fun _ _ => rfl))) (by kernel_rfl) (fun _ _ _ _ _ => (gNameOk (i := 2) nd rfl (by first | exact .inl rfl | exact .inr rfl))) (fun _ _ _ _ _ => (tsOne (qCmp (op_eqD hr.units) okEq (oIx (ixAny hr) okIx (oVar (pv 2)) (oK pe_int (fun _ => .int _)) (fun _ _ => rfl)) (oIx (ixAny hr) okIx (oVar (pv 1)) (oK pe_int (fun _ => .int _)) (fun _ _ => rfl)) (nomark _)))) (fun _ _ _ _ _ => (oIx (ixAny hr) okIx (oVar (pv 2)) (oK pe_int (fun _ => .int _)) (fun _ _ => rfl)))) (oK pe_int (fun _ => .int _)) (fun _ _ => rfl)) (oCons (oK pe_int (fun _ => .int _)) oNil))))
      zNil)
theorem ok_l_nearest (T : Tx K mg) : FnOk P w K mg base CX0 3 T.a_l_nearest T.fd_l_nearest ["world", "lot", "front", "step"] (spF K 4 f_l_nearest) :=
  mkFn T.F_l_nearest sc_l_nearest false fun cdv A outer s H E hr =>
    have nd := sc_l_nearest.nd
    (zCons (zSetComp (i := 4) (own := [("name", 7)]) [7] rfl (by decide) rfl nd rfl rfl (sw_true rfl rfl rfl (by decide +kernel)) (iSeq (oVar (pv 1))) (by kernel_rfl) (fun _ _ _ _ _ => (gNameOk (i := 7) nd rfl (by first | exact .inl rfl | exact .inr rfl))) (fun _ _ _ _ _ => (tsOne (L2.PW.pt (qOr (qCmp (op_eqD hr.units) okEq (oIx (ixAny hr) okIx (oVar (pv 3)) (oK pe_int (fun _ => .int _)) (fun _ _ => rfl)) (oK pe_str (fun _ => .str _)) (nomark _)) (qOne2 (qCmp (opNotIn hr) okNotIn (oVar (pv 7)) (oSl (oVar (pv 3)) (pSome (oK pe_int (fun _ => .int _))) pNone) (by with_unfolding_all rfl))))))) (fun _ _ _ _ _ => (oVar (pv 7))))
      (zCons (zSet (i := 5) nd rfl (by first | exact .inl rfl | exact .inr rfl) (oBin opAdd okAdd (oIx (ixAny hr) okIx (oIx (ixAny hr) okIx (oVar (pv 0)) (oK pe_int (fun _ => .int _)) (fun _ _ => rfl)) (oK pe_int (fun _ => .int _)) (fun _ _ => rfl)) (oCall (ok_l_weight T) (hr.mono (by decide)) rfl T.m_l_weight T.F_l_weight.kp T.b_l_weight (oCons (oVar (pv 0)) (oCons (oVar (pv 1)) oNil)) (len_cons (len_cons (fun _ _ _ _ h => len_nil h))))))
      (zCons (zSet (i := 6) nd rfl (by first | exact .inl rfl | exact .inr rfl) (oCall (ok_l_minus T) (hr.mono (by decide)) rfl T.m_l_minus T.F_l_minus.kp T.b_l_minus (oCons (oVar (pv 2)) (oCons (oCall (ok_l_lowest T) (hr.mono (by decide)) rfl T.m_l_lowest T.F_l_lowest.kp T.b_l_lowest (oCons (oBin op_mulW okMul (oIx (ixAny hr) okIx (oIx (ixAny hr) okIx (oVar (pv 0)) (oK pe_int (fun _ => .int _)) (fun _ _ => rfl)) (oK pe_int (fun _ => .int _)) (fun _ _ => rfl)) (oCall (ok_l_weight T) (hr.mono (by decide)) rfl T.m_l_weight T.F_l_weight.kp T.b_l_weight (oCons (oVar (pv 0)) (oCons (oVar (pv 4)) oNil)) (len_cons (len_cons (fun _ _ _ _ h => len_nil h))))) (oCons (oVar (pv 5)) oNil)) (len_cons (len_cons (fun _ _ _ _ h => len_nil h)))) oNil)) (len_cons (len_cons (fun _ _ _ _ h => len_nil h)))))
      (zCons (zRet (oIf (qVal (oCall (ok_l_less T) (hr.mono (by decide)) rfl T.m_l_less T.F_l_less.kp T.b_l_less (oCons (oVar (pv 6)) (oCons (oTup (oCons (oK pe_int (fun _ => .int _)) (oCons (oK pe_int (fun _ => .int _)) oNil))) oNil)) (len_cons (len_cons (fun _ _ _ _ h => len_nil h))))) (oTup (oCons (oK pe_int (fun _ => .int _)) (oCons (oK pe_int (fun _ => .int _)) oNil))) (oVar (pv 6))))
      zNil))))
theorem ok_l_behind (T : Tx K mg) : FnOk P w K mg base CX0 3 T.a_l_behind T.fd_l_behind ["world", "lot", "front", "step", "gap"] (spF K 5 f_l_behind) :=
  mkFn T.F_l_behind sc_l_behind false fun cdv A outer s H E hr =>
    have nd := sc_l_behind.nd
    (zCons (zSet (i := 5) nd rfl (by first | exact .inl rfl | exact .inr rfl) (oCall (ok_l_weight T) (hr.mono (by decide)) rfl T.m_l_weight T.F_l_weight.kp T.b_l_weight (oCons (oVar (pv 0)) (oCons (oComp (own := [("name", 9)]) [9] rfl (by decide) rfl nd (iSeq (oSl (oVar (pv 3)) (pSome (oK pe_int (fun _ => .int _))) pNone)) (by kernel_rfl) (fun _ _ _ _ _ => (gNameOk (i := 9) nd rfl (by first | exact .inl rfl | exact .inr rfl))) (fun _ _ _ _ _ => (tsOne (qCmp (op_neD hr.units) okNe (oVar (pv 9)) (oK pe_str (fun _ => .str _)) (nomark _)))) (fun _ _ _ _ _ => (oVar (pv 9)))) oNil)) (len_cons (len_cons (fun _ _ _ _ h => len_nil h)))))
      (zCons (zSet (i := 6) nd rfl (by first | exact .inl rfl | exact .inr rfl) (oBin opAdd okAdd (oIx (ixAny hr) okIx (oIx (ixAny hr) okIx (oVar (pv 0)) (oK pe_int (fun _ => .int _)) (fun _ _ => rfl)) (oK pe_int (fun _ => .int _)) (fun _ _ => rfl)) (oCall (ok_l_weight T) (hr.mono (by decide)) rfl T.m_l_weight T.F_l_weight.kp T.b_l_weight (oCons (oVar (pv 0)) (oCons (oVar (pv 1)) oNil)) (len_cons (len_cons (fun _ _ _ _ h => len_nil h))))))
      (zCons (zSet (i := 7) nd rfl (by first | exact .inl rfl | exact .inr rfl) (oIf (qCmp (op_eqD hr.units) okEq (oIx (ixAny hr) okIx (oVar (pv 3)) (oK pe_int (fun _ => .int _)) (fun _ _ => rfl)) (oK pe_str (fun _ => .str _)) (nomark _)) (oVar (pv 5)) (oBin op_sub okSub (oK pe_int (fun _ => .int _)) (oVar (pv 5)))))
      (zCons (zSet (i := 8) nd rfl (by first | exact .inl rfl | exact .inr rfl) (oCall (ok_l_plus T) (hr.mono (by decide)) rfl T.m_l_plus T.F_l_plus.kp T.b_l_plus (oCons (oCall (ok_l_times T) (hr.mono (by decide)) rfl T.m_l_times T.F_l_times.kp T.b_l_times (oCons (oVar (pv 2)) (oCons (oVar (pv 6)) oNil)) (len_cons (len_cons (fun _ _ _ _ h => len_nil h)))) (oCons (oCall (ok_l_times T) (hr.mono (by decide)) rfl T.m_l_times T.F_l_times.kp T.b_l_times (oCons (oVar (pv 4)) (oCons (oVar (pv 7)) oNil)) (len_cons (len_cons (fun _ _ _ _ h => len_nil h)))) oNil)) (len_cons (len_cons (fun _ _ _ _ h => len_nil h)))))
      (zCons (zRet (oCall (ok_l_lowest T) (hr.mono (by decide)) rfl T.m_l_lowest T.F_l_lowest.kp T.b_l_lowest (oCons (oIx (ixAny hr) okIx (oVar (pv 8)) (oK pe_int (fun _ => .int _)) (fun _ _ => rfl)) (oCons (oBin op_mulW okMul (oIx (ixAny hr) okIx (oVar (pv 8)) (oK pe_int (fun _ => .int _)) (fun _ _ => rfl)) (oBin opAdd okAdd (oVar (pv 6)) (oVar (pv 7)))) oNil)) (len_cons (len_cons (fun _ _ _ _ h => len_nil h)))))
      zNil)))))
theorem ok_l_best (T : Tx K mg) : FnOk P w K mg base CX0 4 T.a_l_best T.fd_l_best ["world", "lot", "front", "step"] (spF K 4 f_l_best) :=
  mkFn T.F_l_best sc_l_best false fun cdv A outer s H E hr =>
    have nd := sc_l_best.nd
    (zCons (zSet (i := 4) nd rfl (by first | exact .inl rfl | exact .inr rfl) (oCall (ok_l_after T) (hr.mono (by decide)) rfl T.m_l_after T.F_l_after.kp T.b_l_after (oCons (oVar (pv 0)) (oCons (oVar (pv 1)) (oCons (oVar (pv 3)) oNil))) (len_cons (len_cons (len_cons (fun _ _ _ _ h => len_nil h))))))
      (zCons (zPar (i := 5) (j := 6) rfl nd rfl rfl (by decide) rfl rfl (oCons (oCall (ok_l_nearest T) (hr.mono (by decide)) rfl T.m_l_nearest T.F_l_nearest.kp T.b_l_nearest (oCons (oVar (pv 0)) (oCons (oVar (pv 1)) (oCons (oVar (pv 2)) (oCons (oVar (pv 3)) oNil)))) (len_cons (len_cons (len_cons (len_cons (fun _ _ _ _ h => len_nil h)))))) (oCons (oCall (ok_l_reach T) (hr.mono (by decide)) rfl T.m_l_reach T.F_l_reach.kp T.b_l_reach (oCons (oVar (pv 0)) (oCons (oVar (pv 3)) oNil)) (len_cons (len_cons (fun _ _ _ _ h => len_nil h)))) oNil)) rfl)
      (zCons (zIf (L2.PW.pt (qOr (qCmp op_isN okIsN (oVar (pv 4)) (oK pe_non (fun _ => .non)) (nomark _)) (qOne2 (qVal (oCall (ok_l_less T) (hr.mono (by decide)) rfl T.m_l_less T.F_l_less.kp T.b_l_less (oCons (oVar (pv 6)) (oCons (oVar (pv 5)) oNil)) (len_cons (len_cons (fun _ _ _ _ h => len_nil h)))))))) (zCons (zRet (oK pe_non (fun _ => .non)))
      zNil) zNil)
      (zCons (zSet (i := 7) nd rfl (by first | exact .inl rfl | exact .inr rfl) (oIf (qCmp (op_eqD hr.units) okEq (oIx (ixAny hr) okIx (oVar (pv 3)) (oK pe_int (fun _ => .int _)) (fun _ _ => rfl)) (oK pe_str (fun _ => .str _)) (nomark _)) (oVar (pv 5)) (oCall (ok_l_least T) (hr.mono (by decide)) rfl T.m_l_least T.F_l_least.kp T.b_l_least (oCons (oVar (pv 6)) (oCons (oVar (pv 2)) oNil)) (len_cons (len_cons (fun _ _ _ _ h => len_nil h))))))
      (zCons (zRet (oTup (oCons (oVar (pv 4)) (oCons (oCall (ok_l_behind T) (hr.mono (by decide)) rfl T.m_l_behind T.F_l_behind.kp T.b_l_behind (oCons (oVar (pv 0)) (oCons (oVar (pv 1)) (oCons (oVar (pv 2)) (oCons (oVar (pv 3)) (oCons (oVar (pv 7)) oNil))))) (len_cons (len_cons (len_cons (len_cons (len_cons (fun _ _ _ _ h => len_nil h))))))) oNil))))
      zNil)))))
theorem ok_l_near_standing (T : Tx K mg) : FnOk P w K mg base CX0 6 T.a_l_near_standing T.fd_l_near_standing ["bag", "world"] (spF K 2 f_l_near_standing) :=
  mkFn T.F_l_near_standing sc_l_near_standing false fun cdv A outer s H E hr =>
    have nd := sc_l_near_standing.nd
    (zCons (zSet (i := 2) nd rfl (by first | exact .inl rfl | exact .inr rfl) (oCall (ok_l_standing T) (hr.mono (by decide)) rfl T.m_l_standing T.F_l_standing.kp T.b_l_standing (oCons (oVar (pv 0)) (oCons (oVar (pv 1)) oNil)) (len_cons (len_cons (fun _ _ _ _ h => len_nil h)))))
      (zCons (zSet (i := 3) nd rfl (by first | exact .inl rfl | exact .inr rfl) (oCall (ok_l_aboard T) (hr.mono (by decide)) rfl T.m_l_aboard T.F_l_aboard.kp T.b_l_aboard (oCons (oVar (pv 2)) oNil) (len_cons (fun _ _ _ _ h => len_nil h))))
      (zCons (zIf (L2.PW.pt (qAnd (qCmp (op_neD hr.units) okNe (oVar (pv 3)) (oTup oNil) (nomark _)) (qOne1 (qCmp (op_eqD hr.units) okEq (oCall (ok_l_take T) (hr.mono (by decide)) rfl T.m_l_take T.F_l_take.kp T.b_l_take (oCons (oVar (pv 0)) (oCons (oK pe_int (fun _ => .int _)) oNil)) (len_cons (len_cons (fun _ _ _ _ h => len_nil h)))) (oK pe_int (fun _ => .int _)) (nomark _))))) (zCons (zSet (i := 4) nd rfl (by first | exact .inl rfl | exact .inr rfl) (oCall (ok_l_of T) (hr.mono (by decide)) rfl T.m_l_of T.F_l_of.kp T.b_l_of (oCons (oVar (pv 0)) (oCons (oCall (ok_l_steps T) (hr.mono (by decide)) rfl T.m_l_steps T.F_l_steps.kp T.b_l_steps (oCons (oVar (pv 1)) oNil) (len_cons (fun _ _ _ _ h => len_nil h))) oNil)) (len_cons (len_cons (fun _ _ _ _ h => len_nil h)))))
      (zCons (zSetComp (i := 5) (own := [("name", 8)]) [8] rfl (by decide) rfl nd rfl rfl (sw_true rfl rfl rfl (by decide +kernel)) (iSeq (oVar (pv 3))) (by kernel_rfl) (fun _ _ _ _ _ => (gNameOk (i := 8) nd rfl (by first | exact .inl rfl | exact .inr rfl))) (fun _ _ _ _ _ => (tsOne (qCmp (opNotIn hr) okNotIn (oVar (pv 8)) (oSl (oVar (pv 4)) (pSome (oK pe_int (fun _ => .int _))) pNone) (by with_unfolding_all rfl)))) (fun _ _ _ _ _ => (oVar (pv 8))))
      (zCons (zSet (i := 6) nd rfl (by first | exact .inl rfl | exact .inr rfl) (oBin opAdd okAdd (oIx (ixAny hr) okIx (oIx (ixAny hr) okIx (oVar (pv 1)) (oK pe_int (fun _ => .int _)) (fun _ _ => rfl)) (oK pe_int (fun _ => .int _)) (fun _ _ => rfl)) (oCall (ok_l_weight T) (hr.mono (by decide)) rfl T.m_l_weight T.F_l_weight.kp T.b_l_weight (oCons (oVar (pv 1)) (oCons (oVar (pv 3)) oNil)) (len_cons (len_cons (fun _ _ _ _ h => len_nil h))))))
      (zCons (zSet (i := 7) nd rfl (by first | exact .inl rfl | exact .inr rfl) (oCall (ok_l_plus T) (hr.mono (by decide)) rfl T.m_l_plus T.F_l_plus.kp T.b_l_plus (oCons (oCall (ok_l_reach T) (hr.mono (by decide)) rfl T.m_l_reach T.F_l_reach.kp T.b_l_reach (oCons (oVar (pv 1)) (oCons (oVar (pv 4)) oNil)) (len_cons (len_cons (fun _ _ _ _ h => len_nil h)))) (oCons (oCall (ok_l_lowest T) (hr.mono (by decide)) rfl T.m_l_lowest T.F_l_lowest.kp T.b_l_lowest (oCons (oBin op_mulW okMul (oIx (ixAny hr) okIx (oIx (ixAny hr) okIx (oVar (pv 1)) (oK pe_int (fun _ => .int _)) (fun _ _ => rfl)) (oK pe_int (fun _ => .int _)) (fun _ _ => rfl)) (oCall (ok_l_weight T) (hr.mono (by decide)) rfl T.m_l_weight T.F_l_weight.kp T.b_l_weight (oCons (oVar (pv 1)) (oCons (oVar (pv 5)) oNil)) (len_cons (len_cons (fun _ _ _ _ h => len_nil h))))) (oCons (oVar (pv 6)) oNil)) (len_cons (len_cons (fun _ _ _ _ h => len_nil h)))) oNil)) (len_cons (len_cons (fun _ _ _ _ h => len_nil h)))))
      (zCons (zSet (i := 7) nd rfl (by first | exact .inl rfl | exact .inr rfl) (oCall (ok_l_of T) (hr.mono (by decide)) rfl T.m_l_of T.F_l_of.kp T.b_l_of (oCons (oVar (pv 0)) (oCons (oLst (oCons (oVar (pv 7)) (oCons (oVar (pv 7)) (oCons (oCall (ok_l_plus T) (hr.mono (by decide)) rfl T.m_l_plus T.F_l_plus.kp T.b_l_plus (oCons (oVar (pv 7)) (oCons (oTup (oCons (oK pe_int (fun _ => .int _)) (oCons (oK pe_int (fun _ => .int _)) oNil))) oNil)) (len_cons (len_cons (fun _ _ _ _ h => len_nil h)))) (oCons (oCall (ok_l_lowest T) (hr.mono (by decide)) rfl T.m_l_lowest T.F_l_lowest.kp T.b_l_lowest (oCons (oBin op_mulW okMul (oIx (ixAny hr) okIx (oVar (pv 7)) (oK pe_int (fun _ => .int _)) (fun _ _ => rfl)) (oK pe_int (fun _ => .int _))) (oCons (oBin op_mulW okMul (oIx (ixAny hr) okIx (oVar (pv 7)) (oK pe_int (fun _ => .int _)) (fun _ _ => rfl)) (oK pe_int (fun _ => .int _))) oNil)) (len_cons (len_cons (fun _ _ _ _ h => len_nil h)))) oNil))))) oNil)) (len_cons (len_cons (fun _ _ _ _ h => len_nil h)))))
      (zCons (zRet (oTup (oCons (oVar (pv 7)) (oCons (oCallT clTup (ckTup true) rfl T.m_tuple (by decide +kernel) (oCons (oComp (own := [("name", 8)]) [8] rfl (by decide) rfl nd (iSeq (oVar (pv 3))) (by kernel_rfl) (fun _ _ _ _ _ => (gNameOk (i := 8) nd rfl (by first | exact .inl rfl | exact .inr rfl))) (fun _ _ _ _ _ => tsNil) (fun _ _ _ _ _ => (oTup (oCons (oVar (pv 8)) (oCons (oTup (oCons (oK pe_int (fun _ => .int _)) (oCons (oK pe_int (fun _ => .int _)) oNil))) oNil))))) oNil)) oNil))))
      zNil)))))) zNil)
      (zCons (zRet (oVar (pv 2)))
      zNil))))
theorem ok_l_has_folk (T : Tx K mg) : FnOk P w K mg base CX0 2 T.a_l_has_folk T.fd_l_has_folk ["world", "lot"] (spF K 2 f_l_has_folk) :=
  mkFn T.F_l_has_folk sc_l_has_folk false fun cdv A outer s H E hr =>
    have nd := sc_l_has_folk.nd
    (zCons (zRet (oCmp (op_neD hr.units) okNe (oComp (own := [("name", 2)]) [2] rfl (by decide) rfl nd (iSeq (oVar (pv 1))) (by kernel_rfl) (fun _ _ _ _ _ => (gNameOk (i := 2) nd rfl (by first | exact .inl rfl | exact .inr rfl))) (fun _ _ _ _ _ => (tsOne (qCmp (opIn hr) okIn (oVar (pv 2)) (oCall (ok_l_folk T) (hr.mono (by decide)) rfl T.m_l_folk T.F_l_folk.kp T.b_l_folk (oCons (oVar (pv 0)) oNil) (len_cons (fun _ _ _ _ h => len_nil h))) (by with_unfolding_all rfl)))) (fun _ _ _ _ _ => (oVar (pv 2)))) (oLst oNil) (nomark _)))
      zNil)
theorem ok_l_slack (T : Tx K mg) : FnOk P w K mg base CX0 5 T.a_l_slack T.fd_l_slack ["world", "lot", "front", "step"] (spF K 4 f_l_slack) :=
  mkFn T.F_l_slack sc_l_slack false fun cdv A outer s H E hr =>
    have nd := sc_l_slack.nd
    (zCons (zSetComp (i := 4) (own := [("name", 6)]) [6] rfl (by decide) rfl nd rfl rfl (sw_true rfl rfl rfl (by decide +kernel)) (iSeq (oVar (pv 1))) (by kernel_rfl) (fun _ _ _ _ _ => (gNameOk (i := 6) nd rfl (by first | exact .inl rfl | exact .inr rfl))) (fun _ _ _ _ _ => (tsOne (qCmp (opNotIn hr) okNotIn (oVar (pv 6)) (oSl (oVar (pv 3)) (pSome (oK pe_int (fun _ => .int _))) pNone) (by with_unfolding_all rfl)))) (fun _ _ _ _ _ => (oVar (pv 6))))
      (zCons (zIf (L2.PW.pt (qOr (qCmp op_isN okIsN (oCall (ok_l_best T) (hr.mono (by decide)) rfl T.m_l_best T.F_l_best.kp T.b_l_best (oCons (oVar (pv 0)) (oCons (oVar (pv 1)) (oCons (oVar (pv 2)) (oCons (oVar (pv 3)) oNil)))) (len_cons (len_cons (len_cons (len_cons (fun _ _ _ _ h => len_nil h)))))) (oK pe_non (fun _ => .non)) (nomark _)) (qOne2 (qNot (qVal (oCall (ok_l_has_folk T) (hr.mono (by decide)) rfl T.m_l_has_folk T.F_l_has_folk.kp T.b_l_has_folk (oCons (oVar (pv 0)) (oCons (oVar (pv 4)) oNil)) (len_cons (len_cons (fun _ _ _ _ h => len_nil h))))))))) (zCons (zRet (oK pe_bl (fun _ => .bl _)))
      zNil) zNil)
      (zCons (zSet (i := 5) nd rfl (by first | exact .inl rfl | exact .inr rfl) (oCall (ok_l_nearest T) (hr.mono (by decide)) rfl T.m_l_nearest T.F_l_nearest.kp T.b_l_nearest (oCons (oVar (pv 0)) (oCons (oVar (pv 1)) (oCons (oVar (pv 2)) (oCons (oVar (pv 3)) oNil)))) (len_cons (len_cons (len_cons (len_cons (fun _ _ _ _ h => len_nil h)))))))
      (zCons (zRet (oAnd (oCall (ok_l_less T) (hr.mono (by decide)) rfl T.m_l_less T.F_l_less.kp T.b_l_less (oCons (oVar (pv 5)) (oCons (oCall (ok_l_reach T) (hr.mono (by decide)) rfl T.m_l_reach T.F_l_reach.kp T.b_l_reach (oCons (oVar (pv 0)) (oCons (oVar (pv 3)) oNil)) (len_cons (len_cons (fun _ _ _ _ h => len_nil h)))) oNil)) (len_cons (len_cons (fun _ _ _ _ h => len_nil h)))) (oOne (oCall (ok_l_less T) (hr.mono (by decide)) rfl T.m_l_less T.F_l_less.kp T.b_l_less (oCons (oVar (pv 5)) (oCons (oVar (pv 2)) oNil)) (len_cons (len_cons (fun _ _ _ _ h => len_nil h)))))))
      zNil))))
theorem ok_l_contrary (T : Tx K mg) : FnOk P w K mg base CX0 1 T.a_l_contrary T.fd_l_contrary ["step"] (spF K 1 f_l_contrary) :=
  mkFn T.F_l_contrary sc_l_contrary false fun cdv A outer s H E hr =>
    have nd := sc_l_contrary.nd
    (zCons (zRet (oBin opAdd okAdd (oTup (oCons (oIf (qCmp (op_eqD hr.units) okEq (oIx (ixAny hr) okIx (oVar (pv 0)) (oK pe_int (fun _ => .int _)) (fun _ _ => rfl)) (oK pe_str (fun _ => .str _)) (nomark _)) (oK pe_str (fun _ => .str _)) (oK pe_str (fun _ => .str _))) oNil)) (oSl (oVar (pv 0)) (pSome (oK pe_int (fun _ => .int _))) pNone)))
      zNil)
theorem ok_l_taken_best (T : Tx K mg) : FnOk P w K mg base CX0 9 T.a_l_taken_best T.fd_l_taken_best ["world", "standing", "step"] (spF K 3 f_l_taken_best) :=
  mkFn T.F_l_taken_best sc_l_taken_best false fun cdv A outer s H E hr =>
    have nd := sc_l_taken_best.nd
    (zCons (zSet (i := 3) nd rfl (by first | exact .inl rfl | exact .inr rfl) (oCall (ok_rows_for T) (hr.mono (by decide)) rfl T.m_rows_for T.F_rows_for.kp T.b_rows_for (oCons (oVar (pv 0)) (oCons (oVar (pv 1)) (oCons (oVar (pv 2)) oNil))) (len_cons (len_cons (len_cons (fun _ _ _ _ h => len_nil h))))))
      (zCons (zRet (oCall (ok_stepped T) (hr.mono (by decide)) rfl T.m_stepped T.F_stepped.kp T.b_stepped (oCons (oVar (pv 0)) (oCons (oTup (oCons (oCall (ok_gap_behind T) (hr.mono (by decide)) rfl T.m_gap_behind T.F_gap_behind.kp T.b_gap_behind (oCons (oVar (pv 0)) (oCons (oVar (pv 1)) (oCons (oVar (pv 3)) oNil))) (len_cons (len_cons (len_cons (fun _ _ _ _ h => len_nil h))))) (oCons (oVar (pv 3)) oNil))) (oCons (oVar (pv 2)) oNil))) (len_cons (len_cons (len_cons (fun _ _ _ _ h => len_nil h))))))
      zNil))
theorem ok_l_round (T : Tx K mg) : FnOk P w K mg base CX0 10 T.a_l_round T.fd_l_round ["world", "standing", "step"] (spF K 3 f_l_round) :=
  mkFn T.F_l_round sc_l_round false fun cdv A outer s H E hr =>
    have nd := sc_l_round.nd
    (zCons (zRet (oCall (ok_l_taken_best T) (hr.mono (by decide)) rfl T.m_l_taken_best T.F_l_taken_best.kp T.b_l_taken_best (oCons (oVar (pv 0)) (oCons (oCall (ok_l_taken_best T) (hr.mono (by decide)) rfl T.m_l_taken_best T.F_l_taken_best.kp T.b_l_taken_best (oCons (oVar (pv 0)) (oCons (oVar (pv 1)) (oCons (oVar (pv 2)) oNil))) (len_cons (len_cons (len_cons (fun _ _ _ _ h => len_nil h))))) (oCons (oCall (ok_l_contrary T) (hr.mono (by decide)) rfl T.m_l_contrary T.F_l_contrary.kp T.b_l_contrary (oCons (oVar (pv 2)) oNil) (len_cons (fun _ _ _ _ h => len_nil h))) oNil))) (len_cons (len_cons (len_cons (fun _ _ _ _ h => len_nil h))))))
      zNil)
theorem ok_l_falls (T : Tx K mg) : FnOk P w K mg base CX0 11 T.a_l_falls T.fd_l_falls ["world", "standing", "step"] (spF K 3 f_l_falls) :=
  mkFn T.F_l_falls sc_l_falls false fun cdv A outer s H E hr =>
    have nd := sc_l_falls.nd
    (zCons (zSet (i := 3) nd rfl (by first | exact .inl rfl | exact .inr rfl) (oNewL (oCons (oIx (ixAny hr) okIx (oCall (ok_gaps T) (hr.mono (by decide)) rfl T.m_gaps T.F_gaps.kp T.b_gaps (oCons (oVar (pv 0)) (oCons (oVar (pv 1)) oNil)) (len_cons (len_cons (fun _ _ _ _ h => len_nil h)))) (oK pe_int (fun _ => .int _)) (fun _ _ => rfl)) oNil)))
      (zCons (zFor PassesOwn.never rfl (iRange1 rfl T.m_range (oK pe_int (fun _ => .int _))) (gNameOk (i := 4) nd rfl (by first | exact .inl rfl | exact .inr rfl)) (zCons (zIf (qCmp (op_eqD hr.units) okEq (oIx (ixAny hr) okIx (oVar (pv 3)) (oNeg (oK pe_int (fun _ => .int _))) (fun _ _ => rfl)) (oTup (oCons (oK pe_int (fun _ => .int _)) (oCons (oK pe_int (fun _ => .int _)) oNil))) (nomark _)) (zCons (zRet (oK pe_bl (fun _ => .bl _)))
      zNil) zNil)
      (zCons (zSet (i := 1) nd rfl (by first | exact .inl rfl | exact .inr rfl) (oCall (ok_l_round T) (hr.mono (by decide)) rfl T.m_l_round T.F_l_round.kp T.b_l_round (oCons (oVar (pv 0)) (oCons (oVar (pv 1)) (oCons (oVar (pv 2)) oNil))) (len_cons (len_cons (len_cons (fun _ _ _ _ h => len_nil h))))))
      (zCons (zExpr (oAppend (oVar (pv 3)) (oIx (ixAny hr) okIx (oCall (ok_gaps T) (hr.mono (by decide)) rfl T.m_gaps T.F_gaps.kp T.b_gaps (oCons (oVar (pv 0)) (oCons (oVar (pv 1)) oNil)) (len_cons (len_cons (fun _ _ _ _ h => len_nil h)))) (oK pe_int (fun _ => .int _)) (fun _ _ => rfl))))
      (zCons (zIf (qNot (qVal (oCall (ok_l_less T) (hr.mono (by decide)) rfl T.m_l_less T.F_l_less.kp T.b_l_less (oCons (oIx (ixAny hr) okIx (oVar (pv 3)) (oNeg (oK pe_int (fun _ => .int _))) (fun _ _ => rfl)) (oCons (oIx (ixAny hr) okIx (oVar (pv 3)) (oNeg (oK pe_int (fun _ => .int _))) (fun _ _ => rfl)) oNil)) (len_cons (len_cons (fun _ _ _ _ h => len_nil h)))))) (zCons (zRet (oK pe_bl (fun _ => .bl _)))
      zNil) zNil)
      (zCons (zIf (L2.PW.pt (qAnd (qCmp op_gt okGt (oVar (pv 4)) (oK pe_int (fun _ => .int _)) (nomark _)) (qAnd (qCmp (op_eqD hr.units) okEq (oIx (ixAny hr) okIx (oVar (pv 2)) (oK pe_int (fun _ => .int _)) (fun _ _ => rfl)) (oK pe_str (fun _ => .str _)) (nomark _)) (qOne1 (qVal (oCall (ok_l_less T) (hr.mono (by decide)) rfl T.m_l_less T.F_l_less.kp T.b_l_less (oCons (oCall (ok_l_reach T) (hr.mono (by decide)) rfl T.m_l_reach T.F_l_reach.kp T.b_l_reach (oCons (oVar (pv 0)) (oCons (oVar (pv 2)) oNil)) (len_cons (len_cons (fun _ _ _ _ h => len_nil h)))) (oCons (oIx (ixAny hr) okIx (oVar (pv 3)) (oNeg (oK pe_int (fun _ => .int _))) (fun _ _ => rfl)) oNil)) (len_cons (len_cons (fun _ _ _ _ h => len_nil h))))))))) (zCons (zPar (i := 5) (j := 6) rfl nd rfl rfl (by decide) rfl rfl (oCons (oCall (ok_l_minus T) (hr.mono (by decide)) rfl T.m_l_minus T.F_l_minus.kp T.b_l_minus (oCons (oIx (ixAny hr) okIx (oVar (pv 3)) (oNeg (oK pe_int (fun _ => .int _))) (fun _ _ => rfl)) (oCons (oIx (ixAny hr) okIx (oVar (pv 3)) (oNeg (oK pe_int (fun _ => .int _))) (fun _ _ => rfl)) oNil)) (len_cons (len_cons (fun _ _ _ _ h => len_nil h)))) (oCons (oCall (ok_l_minus T) (hr.mono (by decide)) rfl T.m_l_minus T.F_l_minus.kp T.b_l_minus (oCons (oIx (ixAny hr) okIx (oVar (pv 3)) (oNeg (oK pe_int (fun _ => .int _))) (fun _ _ => rfl)) (oCons (oIx (ixAny hr) okIx (oVar (pv 3)) (oNeg (oK pe_int (fun _ => .int _))) (fun _ _ => rfl)) oNil)) (len_cons (len_cons (fun _ _ _ _ h => len_nil h)))) oNil)) rfl)
      (zCons (zIf (qVal (oCall (ok_l_less T) (hr.mono (by decide)) rfl T.m_l_less T.F_l_less.kp T.b_l_less (oCons (oVar (pv 5)) (oCons (oVar (pv 6)) oNil)) (len_cons (len_cons (fun _ _ _ _ h => len_nil h))))) (zCons (zRet (oK pe_bl (fun _ => .bl _)))
      zNil) zNil)
      zNil)) zNil)
      zNil))))))
      (zCons (zRet (oK pe_bl (fun _ => .bl _)))
      zNil)))
theorem ok_law_k11 (T : Tx K mg) : FnOk P w K mg base CX0 12 T.a_law_k11 T.fd_law_k11 ["script"] (spF K 1 f_law_k11) :=
  mkFn T.F_law_k11 sc_law_k11 false fun cdv A outer s H E hr =>
    have nd := sc_law_k11.nd
    (zCons (zFor PassesOwn.never rfl (iRange1 rfl T.m_range (oBin opAdd okAdd (oK pe_int (fun _ => .int _)) (oCallB (call_min2 rfl) ckMin2 rfl T.m_min (by decide +kernel) (oCons (oCallB clLen ckLen rfl T.m_len (by decide +kernel) (oCons (oVar (pv 0)) oNil)) (oCons (oK pe_int (fun _ => .int _)) oNil))))) (gNameOk (i := 1) nd rfl (by first | exact .inl rfl | exact .inr rfl)) (zCons (zSet (i := 2) nd rfl (by first | exact .inl rfl | exact .inr rfl) (oCall (ok_l_bag T) (hr.mono (by decide)) rfl T.m_l_bag T.F_l_bag.kp T.b_l_bag (oCons (oVar (pv 0)) (oCons (oVar (pv 1)) oNil)) (len_cons (len_cons (fun _ _ _ _ h => len_nil h)))))
      (zCons (zSet (i := 3) nd rfl (by first | exact .inl rfl | exact .inr rfl) (oCall (ok_l_world T) (hr.mono (by decide)) rfl T.m_l_world T.F_l_world.kp T.b_l_world (oCons (oVar (pv 2)) (oCons (oK pe_int (fun _ => .int _)) (oCons (oK pe_int (fun _ => .int _)) oNil))) (len_cons (len_cons (len_cons (fun _ _ _ _ h => len_nil h))))))
      (zCons (zSet (i := 4) nd rfl (by first | exact .inl rfl | exact .inr rfl) (oCall (ok_l_near_standing T) (hr.mono (by decide)) rfl T.m_l_near_standing T.F_l_near_standing.kp T.b_l_near_standing (oCons (oVar (pv 2)) (oCons (oVar (pv 3)) oNil)) (len_cons (len_cons (fun _ _ _ _ h => len_nil h)))))
      (zCons (zSet (i := 5) nd rfl (by first | exact .inl rfl | exact .inr rfl) (oCall (ok_pulls T) (hr.mono (by decide)) rfl T.m_pulls T.F_pulls.kp T.b_pulls (oCons (oVar (pv 3)) (oCons (oVar (pv 4)) oNil)) (len_cons (len_cons (fun _ _ _ _ h => len_nil h)))))
      (zCons (zIf (L2.PW.pt (qAnd (qCmp (op_eqD hr.units) okEq (oIx (ixAny hr) okIx (oCall (ok_gaps T) (hr.mono (by decide)) rfl T.m_gaps T.F_gaps.kp T.b_gaps (oCons (oVar (pv 3)) (oCons (oVar (pv 4)) oNil)) (len_cons (len_cons (fun _ _ _ _ h => len_nil h)))) (oK pe_int (fun _ => .int _)) (fun _ _ => rfl)) (oTup (oCons (oK pe_int (fun _ => .int _)) (oCons (oK pe_int (fun _ => .int _)) oNil))) (nomark _)) (qOne1 (qNot (qVal (oVar (pv 5))))))) (zCons (zRet (oK pe_bl (fun _ => .bl _)))
      zNil) zNil)
      (zCons (zFor PassesOwn.never rfl (iRange1 rfl T.m_range (oK pe_int (fun _ => .int _))) (gNameOk (i := 6) nd rfl (by first | exact .inl rfl | exact .inr rfl)) (zCons (zSet (i := 7) nd rfl (by first | exact .inl rfl | exact .inr rfl) (oFrz (oCall (ok_can_step T) (hr.mono (by decide)) rfl T.m_can_step T.F_can_step.kp T.b_can_step (oCons (oVar (pv 3)) (oCons (oVar (pv 4)) oNil)) (len_cons (len_cons (fun _ _ _ _ h => len_nil h))))))
      (zCons (zPar (i := 8) (j := 9) rfl nd rfl rfl (by decide) rfl rfl (oCons (oIx (ixAny hr) okIx (oCall (ok_gaps T) (hr.mono (by decide)) rfl T.m_gaps T.F_gaps.kp T.b_gaps (oCons (oVar (pv 3)) (oCons (oVar (pv 4)) oNil)) (len_cons (len_cons (fun _ _ _ _ h => len_nil h)))) (oK pe_int (fun _ => .int _)) (fun _ _ => rfl)) (oCons (oCall (ok_l_aboard T) (hr.mono (by decide)) rfl T.m_l_aboard T.F_l_aboard.kp T.b_l_aboard (oCons (oVar (pv 4)) oNil) (len_cons (fun _ _ _ _ h => len_nil h))) oNil)) rfl)
      (zCons (zFor PassesOwn.never rfl (iSeq (oVar (pv 7))) (gNameOk (i := 10) nd rfl (by first | exact .inl rfl | exact .inr rfl)) (zCons (zIf (qVal (oCall (ok_l_slack T) (hr.mono (by decide)) rfl T.m_l_slack T.F_l_slack.kp T.b_l_slack (oCons (oVar (pv 3)) (oCons (oVar (pv 9)) (oCons (oVar (pv 8)) (oCons (oVar (pv 10)) oNil)))) (len_cons (len_cons (len_cons (len_cons (fun _ _ _ _ h => len_nil h))))))) (zCons (zIf (L2.PW.pt (qOr (qNot (qVal (oVar (pv 5)))) (qOne2 (qNot (qVal (oCall (ok_l_falls T) (hr.mono (by decide)) rfl T.m_l_falls T.F_l_falls.kp T.b_l_falls (oCons (oVar (pv 3)) (oCons (oVar (pv 4)) (oCons (oVar (pv 10)) oNil))) (len_cons (len_cons (len_cons (fun _ _ _ _ h => len_nil h)))))))))) (zCons (zRet (oK pe_bl (fun _ => .bl _)))
      zNil) zNil)
      zNil) zNil)
      zNil))
      (zCons (zIf (qCmp (op_neD hr.units) okNe (oVar (pv 7)) (oLst oNil) (nomark _)) (zCons (zSet (i := 4) nd rfl (by first | exact .inl rfl | exact .inr rfl) (oCall (ok_l_taken_best T) (hr.mono (by decide)) rfl T.m_l_taken_best T.F_l_taken_best.kp T.b_l_taken_best (oCons (oVar (pv 3)) (oCons (oVar (pv 4)) (oCons (oCall (ok_l_of T) (hr.mono (by decide)) rfl T.m_l_of T.F_l_of.kp T.b_l_of (oCons (oVar (pv 2)) (oCons (oVar (pv 7)) oNil)) (len_cons (len_cons (fun _ _ _ _ h => len_nil h)))) oNil))) (len_cons (len_cons (len_cons (fun _ _ _ _ h => len_nil h))))))
      zNil) zNil)
      zNil)))))
      zNil)))))))
      (zCons (zSet (i := 3) nd rfl (by first | exact .inl rfl | exact .inr rfl) (oTup (oCons (oTup (oCons (oK pe_int (fun _ => .int _)) (oCons (oK pe_int (fun _ => .int _)) oNil))) (oCons (oTup (oCons (oTup (oCons (oK pe_str (fun _ => .str _)) (oCons (oK pe_int (fun _ => .int _)) (oCons (oK pe_int (fun _ => .int _)) (oCons (oK pe_int (fun _ => .int _)) oNil))))) oNil)) (oCons (oTup oNil) oNil)))))
      (zCons (zRet (oCmp op_isBl okIsB (oCall (ok_pulls T) (hr.mono (by decide)) rfl T.m_pulls T.F_pulls.kp T.b_pulls (oCons (oVar (pv 3)) (oCons (oTup (oCons (oTup (oCons (oK pe_int (fun _ => .int _)) (oCons (oK pe_int (fun _ => .int _)) oNil))) (oCons (oTup (oCons (oTup (oCons (oK pe_str (fun _ => .str _)) (oCons (oTup (oCons (oK pe_int (fun _ => .int _)) (oCons (oK pe_int (fun _ => .int _)) oNil))) oNil))) oNil)) oNil))) oNil)) (len_cons (len_cons (fun _ _ _ _ h => len_nil h)))) (oK pe_bl (fun _ => .bl _)) (nomark _)))
      zNil)))
end
end OA
namespace OA
open PySem PySem.Spec PyProof.Rows L2
theorem law_true (ns : List Int) (h : ns.length ≤ 63) : ∃ S', f_law_k11 [.s ns] [] = some (.d (.bl true), S') := law_true_k11 ns h
/-! ### the end -/
set_option maxHeartbeats 0 in
theorem tx_mk {K : PySem.W.Frag} {h : Heap} {mg : Str → Option Value} (X : K.In h) (G : h.Ns mainGlobals mg)
    {od0 an0 : Option Addr} {sl0 : Array (Option Value)} {oc0 kV0 dc0 pm0 cd0 ct0 : Value} {f0 : Addr}
    {od1 an1 : Option Addr} {sl1 : Array (Option Value)} {oc1 kV1 dc1 pm1 cd1 ct1 : Value} {f1 : Addr}
    {od2 an2 : Option Addr} {sl2 : Array (Option Value)} {oc2 kV2 dc2 pm2 cd2 ct2 : Value} {f2 : Addr}
    {od3 an3 : Option Addr} {sl3 : Array (Option Value)} {oc3 kV3 dc3 pm3 cd3 ct3 : Value} {f3 : Addr}
    {od4 an4 : Option Addr} {sl4 : Array (Option Value)} {oc4 kV4 dc4 pm4 cd4 ct4 : Value} {f4 : Addr}
    {od5 an5 : Option Addr} {sl5 : Array (Option Value)} {oc5 kV5 dc5 pm5 cd5 ct5 : Value} {f5 : Addr}
    {od6 an6 : Option Addr} {sl6 : Array (Option Value)} {oc6 kV6 dc6 pm6 cd6 ct6 : Value} {f6 : Addr}
    {od7 an7 : Option Addr} {sl7 : Array (Option Value)} {oc7 kV7 dc7 pm7 cd7 ct7 : Value} {f7 : Addr}
    {od8 an8 : Option Addr} {sl8 : Array (Option Value)} {oc8 kV8 dc8 pm8 cd8 ct8 : Value} {f8 : Addr}
    {od9 an9 : Option Addr} {sl9 : Array (Option Value)} {oc9 kV9 dc9 pm9 cd9 ct9 : Value} {f9 : Addr}
    {od10 an10 : Option Addr} {sl10 : Array (Option Value)} {oc10 kV10 dc10 pm10 cd10 ct10 : Value} {f10 : Addr}
    {od11 an11 : Option Addr} {sl11 : Array (Option Value)} {oc11 kV11 dc11 pm11 cd11 ct11 : Value} {f11 : Addr}
    {od12 an12 : Option Addr} {sl12 : Array (Option Value)} {oc12 kV12 dc12 pm12 cd12 ct12 : Value} {f12 : Addr}
    {od13 an13 : Option Addr} {sl13 : Array (Option Value)} {oc13 kV13 dc13 pm13 cd13 ct13 : Value} {f13 : Addr}
    {od14 an14 : Option Addr} {sl14 : Array (Option Value)} {oc14 kV14 dc14 pm14 cd14 ct14 : Value} {f14 : Addr}
    {od15 an15 : Option Addr} {sl15 : Array (Option Value)} {oc15 kV15 dc15 pm15 cd15 ct15 : Value} {f15 : Addr}
    {od16 an16 : Option Addr} {sl16 : Array (Option Value)} {oc16 kV16 dc16 pm16 cd16 ct16 : Value} {f16 : Addr}
    {od17 an17 : Option Addr} {sl17 : Array (Option Value)} {oc17 kV17 dc17 pm17 cd17 ct17 : Value} {f17 : Addr}
    {od18 an18 : Option Addr} {sl18 : Array (Option Value)} {oc18 kV18 dc18 pm18 cd18 ct18 : Value} {f18 : Addr}
    {od19 an19 : Option Addr} {sl19 : Array (Option Value)} {oc19 kV19 dc19 pm19 cd19 ct19 : Value} {f19 : Addr}
    {od20 an20 : Option Addr} {sl20 : Array (Option Value)} {oc20 kV20 dc20 pm20 cd20 ct20 : Value} {f20 : Addr}
    {od21 an21 : Option Addr} {sl21 : Array (Option Value)} {oc21 kV21 dc21 pm21 cd21 ct21 : Value} {f21 : Addr}
    {od22 an22 : Option Addr} {sl22 : Array (Option Value)} {oc22 kV22 dc22 pm22 cd22 ct22 : Value} {f22 : Addr}
    {od23 an23 : Option Addr} {sl23 : Array (Option Value)} {oc23 kV23 dc23 pm23 cd23 ct23 : Value} {f23 : Addr}
    {od24 an24 : Option Addr} {sl24 : Array (Option Value)} {oc24 kV24 dc24 pm24 cd24 ct24 : Value} {f24 : Addr}
    {od25 an25 : Option Addr} {sl25 : Array (Option Value)} {oc25 kV25 dc25 pm25 cd25 ct25 : Value} {f25 : Addr}
    {od26 an26 : Option Addr} {sl26 : Array (Option Value)} {oc26 kV26 dc26 pm26 cd26 ct26 : Value} {f26 : Addr}
    {od27 an27 : Option Addr} {sl27 : Array (Option Value)} {oc27 kV27 dc27 pm27 cd27 ct27 : Value} {f27 : Addr}
    {od28 an28 : Option Addr} {sl28 : Array (Option Value)} {oc28 kV28 dc28 pm28 cd28 ct28 : Value} {f28 : Addr}
    {od29 an29 : Option Addr} {sl29 : Array (Option Value)} {oc29 kV29 dc29 pm29 cd29 ct29 : Value} {f29 : Addr}
    {od30 an30 : Option Addr} {sl30 : Array (Option Value)} {oc30 kV30 dc30 pm30 cd30 ct30 : Value} {f30 : Addr}
    {od31 an31 : Option Addr} {sl31 : Array (Option Value)} {oc31 kV31 dc31 pm31 cd31 ct31 : Value} {f31 : Addr}
    {od32 an32 : Option Addr} {sl32 : Array (Option Value)} {oc32 kV32 dc32 pm32 cd32 ct32 : Value} {f32 : Addr}
    {od33 an33 : Option Addr} {sl33 : Array (Option Value)} {oc33 kV33 dc33 pm33 cd33 ct33 : Value} {f33 : Addr}
    {od34 an34 : Option Addr} {sl34 : Array (Option Value)} {oc34 kV34 dc34 pm34 cd34 ct34 : Value} {f34 : Addr}
    {od35 an35 : Option Addr} {sl35 : Array (Option Value)} {oc35 kV35 dc35 pm35 cd35 ct35 : Value} {f35 : Addr}
    {od36 an36 : Option Addr} {sl36 : Array (Option Value)} {oc36 kV36 dc36 pm36 cd36 ct36 : Value} {f36 : Addr}
    {od37 an37 : Option Addr} {sl37 : Array (Option Value)} {oc37 kV37 dc37 pm37 cd37 ct37 : Value} {f37 : Addr}
    {od38 an38 : Option Addr} {sl38 : Array (Option Value)} {oc38 kV38 dc38 pm38 cd38 ct38 : Value} {f38 : Addr}
    {od39 an39 : Option Addr} {sl39 : Array (Option Value)} {oc39 kV39 dc39 pm39 cd39 ct39 : Value} {f39 : Addr}
    {od40 an40 : Option Addr} {sl40 : Array (Option Value)} {oc40 kV40 dc40 pm40 cd40 ct40 : Value} {f40 : Addr}
    {od41 an41 : Option Addr} {sl41 : Array (Option Value)} {oc41 kV41 dc41 pm41 cd41 ct41 : Value} {f41 : Addr}
    {od42 an42 : Option Addr} {sl42 : Array (Option Value)} {oc42 kV42 dc42 pm42 cd42 ct42 : Value} {f42 : Addr}
    {od43 an43 : Option Addr} {sl43 : Array (Option Value)} {oc43 kV43 dc43 pm43 cd43 ct43 : Value} {f43 : Addr}
    {od44 an44 : Option Addr} {sl44 : Array (Option Value)} {oc44 kV44 dc44 pm44 cd44 ct44 : Value} {f44 : Addr}
    {od45 an45 : Option Addr} {sl45 : Array (Option Value)} {oc45 kV45 dc45 pm45 cd45 ct45 : Value} {f45 : Addr}
    {od46 an46 : Option Addr} {sl46 : Array (Option Value)} {oc46 kV46 dc46 pm46 cd46 ct46 : Value} {f46 : Addr}
    {od47 an47 : Option Addr} {sl47 : Array (Option Value)} {oc47 kV47 dc47 pm47 cd47 ct47 : Value} {f47 : Addr}
    {od48 an48 : Option Addr} {sl48 : Array (Option Value)} {oc48 kV48 dc48 pm48 cd48 ct48 : Value} {f48 : Addr}
    {od49 an49 : Option Addr} {sl49 : Array (Option Value)} {oc49 kV49 dc49 pm49 cd49 ct49 : Value} {f49 : Addr}
    {od50 an50 : Option Addr} {sl50 : Array (Option Value)} {oc50 kV50 dc50 pm50 cd50 ct50 : Value} {f50 : Addr}
    {od51 an51 : Option Addr} {sl51 : Array (Option Value)} {oc51 kV51 dc51 pm51 cd51 ct51 : Value} {f51 : Addr}
    {od52 an52 : Option Addr} {sl52 : Array (Option Value)} {oc52 kV52 dc52 pm52 cd52 ct52 : Value} {f52 : Addr}
    {od53 an53 : Option Addr} {sl53 : Array (Option Value)} {oc53 kV53 dc53 pm53 cd53 ct53 : Value} {f53 : Addr}
    {od54 an54 : Option Addr} {sl54 : Array (Option Value)} {oc54 kV54 dc54 pm54 cd54 ct54 : Value} {f54 : Addr}
    {od55 an55 : Option Addr} {sl55 : Array (Option Value)} {oc55 kV55 dc55 pm55 cd55 ct55 : Value} {f55 : Addr}
    {od56 an56 : Option Addr} {sl56 : Array (Option Value)} {oc56 kV56 dc56 pm56 cd56 ct56 : Value} {f56 : Addr}
    {od57 an57 : Option Addr} {sl57 : Array (Option Value)} {oc57 kV57 dc57 pm57 cd57 ct57 : Value} {f57 : Addr}
    {od58 an58 : Option Addr} {sl58 : Array (Option Value)} {oc58 kV58 dc58 pm58 cd58 ct58 : Value} {f58 : Addr}
    {od59 an59 : Option Addr} {sl59 : Array (Option Value)} {oc59 kV59 dc59 pm59 cd59 ct59 : Value} {f59 : Addr}
    {od60 an60 : Option Addr} {sl60 : Array (Option Value)} {oc60 kV60 dc60 pm60 cd60 ct60 : Value} {f60 : Addr}
    {od61 an61 : Option Addr} {sl61 : Array (Option Value)} {oc61 kV61 dc61 pm61 cd61 ct61 : Value} {f61 : Addr}
    {od62 an62 : Option Addr} {sl62 : Array (Option Value)} {oc62 kV62 dc62 pm62 cd62 ct62 : Value} {f62 : Addr}
    {od63 an63 : Option Addr} {sl63 : Array (Option Value)} {oc63 kV63 dc63 pm63 cd63 ct63 : Value} {f63 : Addr}
    {od64 an64 : Option Addr} {sl64 : Array (Option Value)} {oc64 kV64 dc64 pm64 cd64 ct64 : Value} {f64 : Addr}
    {od65 an65 : Option Addr} {sl65 : Array (Option Value)} {oc65 kV65 dc65 pm65 cd65 ct65 : Value} {f65 : Addr}
    {od66 an66 : Option Addr} {sl66 : Array (Option Value)} {oc66 kV66 dc66 pm66 cd66 ct66 : Value} {f66 : Addr}
    {od67 an67 : Option Addr} {sl67 : Array (Option Value)} {oc67 kV67 dc67 pm67 cd67 ct67 : Value} {f67 : Addr}
    {od68 an68 : Option Addr} {sl68 : Array (Option Value)} {oc68 kV68 dc68 pm68 cd68 ct68 : Value} {f68 : Addr}
    {od69 an69 : Option Addr} {sl69 : Array (Option Value)} {oc69 kV69 dc69 pm69 cd69 ct69 : Value} {f69 : Addr}
    {b_NOUGHT : Addr} {dd_NOUGHT : Option Addr} {t1_NOUGHT t2_NOUGHT : Tok} {n_NOUGHT : Nat} {zz_NOUGHT : Array (Option Value)}
    {q_OFF : Tok}
    {q_ON : Tok}
    (a0 : PySem.W.nsIn K mainGlobals "lowest" = some (some (.ref f0))) (l0 : K.lookup f0 = some ⟨oc0, od0, .func (PySem.W.fnOf "lowest" "lowest" (defArgs s_lowest) (defBody s_lowest) (defScope s_lowest) .none kV0 dc0 pm0 an0 cd0 ct0), sl0⟩) (c0 : PySem.W.codeIn K cd0 "lowest" = true) (k0 : PySem.W.keepIn K (.ref f0) = true)
    (a1 : PySem.W.nsIn K mainGlobals "plus" = some (some (.ref f1))) (l1 : K.lookup f1 = some ⟨oc1, od1, .func (PySem.W.fnOf "plus" "plus" (defArgs s_plus) (defBody s_plus) (defScope s_plus) .none kV1 dc1 pm1 an1 cd1 ct1), sl1⟩) (c1 : PySem.W.codeIn K cd1 "plus" = true) (k1 : PySem.W.keepIn K (.ref f1) = true)
    (a2 : PySem.W.nsIn K mainGlobals "less" = some (some (.ref f2))) (l2 : K.lookup f2 = some ⟨oc2, od2, .func (PySem.W.fnOf "less" "less" (defArgs s_less) (defBody s_less) (defScope s_less) .none kV2 dc2 pm2 an2 cd2 ct2), sl2⟩) (c2 : PySem.W.codeIn K cd2 "less" = true) (k2 : PySem.W.keepIn K (.ref f2) = true)
    (a3 : PySem.W.nsIn K mainGlobals "times" = some (some (.ref f3))) (l3 : K.lookup f3 = some ⟨oc3, od3, .func (PySem.W.fnOf "times" "times" (defArgs s_times) (defBody s_times) (defScope s_times) .none kV3 dc3 pm3 an3 cd3 ct3), sl3⟩) (c3 : PySem.W.codeIn K cd3 "times" = true) (k3 : PySem.W.keepIn K (.ref f3) = true)
    (a4 : PySem.W.nsIn K mainGlobals "is_lesser" = some (some (.ref f4))) (l4 : K.lookup f4 = some ⟨oc4, od4, .func (PySem.W.fnOf "is_lesser" "is_lesser" (defArgs s_is_lesser) (defBody s_is_lesser) (defScope s_is_lesser) .none kV4 dc4 pm4 an4 cd4 ct4), sl4⟩) (c4 : PySem.W.codeIn K cd4 "is_lesser" = true) (k4 : PySem.W.keepIn K (.ref f4) = true)
    (a5 : PySem.W.nsIn K mainGlobals "lesser" = some (some (.ref f5))) (l5 : K.lookup f5 = some ⟨oc5, od5, .func (PySem.W.fnOf "lesser" "lesser" (defArgs s_lesser) (defBody s_lesser) (defScope s_lesser) .none kV5 dc5 pm5 an5 cd5 ct5), sl5⟩) (c5 : PySem.W.codeIn K cd5 "lesser" = true) (k5 : PySem.W.keepIn K (.ref f5) = true)
    (a6 : PySem.W.nsIn K mainGlobals "folk_of" = some (some (.ref f6))) (l6 : K.lookup f6 = some ⟨oc6, od6, .func (PySem.W.fnOf "folk_of" "folk_of" (defArgs s_folk_of) (defBody s_folk_of) (defScope s_folk_of) .none kV6 dc6 pm6 an6 cd6 ct6), sl6⟩) (c6 : PySem.W.codeIn K cd6 "folk_of" = true) (k6 : PySem.W.keepIn K (.ref f6) = true)
    (a7 : PySem.W.nsIn K mainGlobals "loads_of" = some (some (.ref f7))) (l7 : K.lookup f7 = some ⟨oc7, od7, .func (PySem.W.fnOf "loads_of" "loads_of" (defArgs s_loads_of) (defBody s_loads_of) (defScope s_loads_of) .none kV7 dc7 pm7 an7 cd7 ct7), sl7⟩) (c7 : PySem.W.codeIn K cd7 "loads_of" = true) (k7 : PySem.W.keepIn K (.ref f7) = true)
    (a8 : PySem.W.nsIn K mainGlobals "heavies" = some (some (.ref f8))) (l8 : K.lookup f8 = some ⟨oc8, od8, .func (PySem.W.fnOf "heavies" "heavies" (defArgs s_heavies) (defBody s_heavies) (defScope s_heavies) .none kV8 dc8 pm8 an8 cd8 ct8), sl8⟩) (c8 : PySem.W.codeIn K cd8 "heavies" = true) (k8 : PySem.W.keepIn K (.ref f8) = true)
    (a9 : PySem.W.nsIn K mainGlobals "can_be_aboard" = some (some (.ref f9))) (l9 : K.lookup f9 = some ⟨oc9, od9, .func (PySem.W.fnOf "can_be_aboard" "can_be_aboard" (defArgs s_can_be_aboard) (defBody s_can_be_aboard) (defScope s_can_be_aboard) .none kV9 dc9 pm9 an9 cd9 ct9), sl9⟩) (c9 : PySem.W.codeIn K cd9 "can_be_aboard" = true) (k9 : PySem.W.keepIn K (.ref f9) = true)
    (a10 : PySem.W.nsIn K mainGlobals "aboard_of" = some (some (.ref f10))) (l10 : K.lookup f10 = some ⟨oc10, od10, .func (PySem.W.fnOf "aboard_of" "aboard_of" (defArgs s_aboard_of) (defBody s_aboard_of) (defScope s_aboard_of) .none kV10 dc10 pm10 an10 cd10 ct10), sl10⟩) (c10 : PySem.W.codeIn K cd10 "aboard_of" = true) (k10 : PySem.W.keepIn K (.ref f10) = true)
    (a11 : PySem.W.nsIn K mainGlobals "weight_of" = some (some (.ref f11))) (l11 : K.lookup f11 = some ⟨oc11, od11, .func (PySem.W.fnOf "weight_of" "weight_of" (defArgs s_weight_of) (defBody s_weight_of) (defScope s_weight_of) .none kV11 dc11 pm11 an11 cd11 ct11), sl11⟩) (c11 : PySem.W.codeIn K cd11 "weight_of" = true) (k11 : PySem.W.keepIn K (.ref f11) = true)
    (a12 : PySem.W.nsIn K mainGlobals "whole_of" = some (some (.ref f12))) (l12 : K.lookup f12 = some ⟨oc12, od12, .func (PySem.W.fnOf "whole_of" "whole_of" (defArgs s_whole_of) (defBody s_whole_of) (defScope s_whole_of) .none kV12 dc12 pm12 an12 cd12 ct12), sl12⟩) (c12 : PySem.W.codeIn K cd12 "whole_of" = true) (k12 : PySem.W.keepIn K (.ref f12) = true)
    (a13 : PySem.W.nsIn K mainGlobals "drive_of" = some (some (.ref f13))) (l13 : K.lookup f13 = some ⟨oc13, od13, .func (PySem.W.fnOf "drive_of" "drive_of" (defArgs s_drive_of) (defBody s_drive_of) (defScope s_drive_of) .none kV13 dc13 pm13 an13 cd13 ct13), sl13⟩) (c13 : PySem.W.codeIn K cd13 "drive_of" = true) (k13 : PySem.W.keepIn K (.ref f13) = true)
    (a14 : PySem.W.nsIn K mainGlobals "front_of" = some (some (.ref f14))) (l14 : K.lookup f14 = some ⟨oc14, od14, .func (PySem.W.fnOf "front_of" "front_of" (defArgs s_front_of) (defBody s_front_of) (defScope s_front_of) .none kV14 dc14 pm14 an14 cd14 ct14), sl14⟩) (c14 : PySem.W.codeIn K cd14 "front_of" = true) (k14 : PySem.W.keepIn K (.ref f14) = true)
    (a15 : PySem.W.nsIn K mainGlobals "gap_by" = some (some (.ref f15))) (l15 : K.lookup f15 = some ⟨oc15, od15, .func (PySem.W.fnOf "gap_by" "gap_by" (defArgs s_gap_by) (defBody s_gap_by) (defScope s_gap_by) .none kV15 dc15 pm15 an15 cd15 ct15), sl15⟩) (c15 : PySem.W.codeIn K cd15 "gap_by" = true) (k15 : PySem.W.keepIn K (.ref f15) = true)
    (a16 : PySem.W.nsIn K mainGlobals "gap_behind" = some (some (.ref f16))) (l16 : K.lookup f16 = some ⟨oc16, od16, .func (PySem.W.fnOf "gap_behind" "gap_behind" (defArgs s_gap_behind) (defBody s_gap_behind) (defScope s_gap_behind) .none kV16 dc16 pm16 an16 cd16 ct16), sl16⟩) (c16 : PySem.W.codeIn K cd16 "gap_behind" = true) (k16 : PySem.W.keepIn K (.ref f16) = true)
    (a17 : PySem.W.nsIn K mainGlobals "all_back" = some (some (.ref f17))) (l17 : K.lookup f17 = some ⟨oc17, od17, .func (PySem.W.fnOf "all_back" "all_back" (defArgs s_all_back) (defBody s_all_back) (defScope s_all_back) .none kV17 dc17 pm17 an17 cd17 ct17), sl17⟩) (c17 : PySem.W.codeIn K cd17 "all_back" = true) (k17 : PySem.W.keepIn K (.ref f17) = true)
    (a18 : PySem.W.nsIn K mainGlobals "least_by" = some (some (.ref f18))) (l18 : K.lookup f18 = some ⟨oc18, od18, .func (PySem.W.fnOf "least_by" "least_by" (defArgs s_least_by) (defBody s_least_by) (defScope s_least_by) .none kV18 dc18 pm18 an18 cd18 ct18), sl18⟩) (c18 : PySem.W.codeIn K cd18 "least_by" = true) (k18 : PySem.W.keepIn K (.ref f18) = true)
    (a19 : PySem.W.nsIn K mainGlobals "gaps" = some (some (.ref f19))) (l19 : K.lookup f19 = some ⟨oc19, od19, .func (PySem.W.fnOf "gaps" "gaps" (defArgs s_gaps) (defBody s_gaps) (defScope s_gaps) .none kV19 dc19 pm19 an19 cd19 ct19), sl19⟩) (c19 : PySem.W.codeIn K cd19 "gaps" = true) (k19 : PySem.W.keepIn K (.ref f19) = true)
    (a20 : PySem.W.nsIn K mainGlobals "is_step" = some (some (.ref f20))) (l20 : K.lookup f20 = some ⟨oc20, od20, .func (PySem.W.fnOf "is_step" "is_step" (defArgs s_is_step) (defBody s_is_step) (defScope s_is_step) .none kV20 dc20 pm20 an20 cd20 ct20), sl20⟩) (c20 : PySem.W.codeIn K cd20 "is_step" = true) (k20 : PySem.W.keepIn K (.ref f20) = true)
    (a21 : PySem.W.nsIn K mainGlobals "one_of" = some (some (.ref f21))) (l21 : K.lookup f21 = some ⟨oc21, od21, .func (PySem.W.fnOf "one_of" "one_of" (defArgs s_one_of) (defBody s_one_of) (defScope s_one_of) .none kV21 dc21 pm21 an21 cd21 ct21), sl21⟩) (c21 : PySem.W.codeIn K cd21 "one_of" = true) (k21 : PySem.W.keepIn K (.ref f21) = true)
    (a22 : PySem.W.nsIn K mainGlobals "all_steps" = some (some (.ref f22))) (l22 : K.lookup f22 = some ⟨oc22, od22, .func (PySem.W.fnOf "all_steps" "all_steps" (defArgs s_all_steps) (defBody s_all_steps) (defScope s_all_steps) .none kV22 dc22 pm22 an22 cd22 ct22), sl22⟩) (c22 : PySem.W.codeIn K cd22 "all_steps" = true) (k22 : PySem.W.keepIn K (.ref f22) = true)
    (a23 : PySem.W.nsIn K mainGlobals "movers" = some (some (.ref f23))) (l23 : K.lookup f23 = some ⟨oc23, od23, .func (PySem.W.fnOf "movers" "movers" (defArgs s_movers) (defBody s_movers) (defScope s_movers) .none kV23 dc23 pm23 an23 cd23 ct23), sl23⟩) (c23 : PySem.W.codeIn K cd23 "movers" = true) (k23 : PySem.W.keepIn K (.ref f23) = true)
    (a24 : PySem.W.nsIn K mainGlobals "lot_behind" = some (some (.ref f24))) (l24 : K.lookup f24 = some ⟨oc24, od24, .func (PySem.W.fnOf "lot_behind" "lot_behind" (defArgs s_lot_behind) (defBody s_lot_behind) (defScope s_lot_behind) .none kV24 dc24 pm24 an24 cd24 ct24), sl24⟩) (c24 : PySem.W.codeIn K cd24 "lot_behind" = true) (k24 : PySem.W.keepIn K (.ref f24) = true)
    (a25 : PySem.W.nsIn K mainGlobals "reach_of" = some (some (.ref f25))) (l25 : K.lookup f25 = some ⟨oc25, od25, .func (PySem.W.fnOf "reach_of" "reach_of" (defArgs s_reach_of) (defBody s_reach_of) (defScope s_reach_of) .none kV25 dc25 pm25 an25 cd25 ct25), sl25⟩) (c25 : PySem.W.codeIn K cd25 "reach_of" = true) (k25 : PySem.W.keepIn K (.ref f25) = true)
    (a26 : PySem.W.nsIn K mainGlobals "nearest_for" = some (some (.ref f26))) (l26 : K.lookup f26 = some ⟨oc26, od26, .func (PySem.W.fnOf "nearest_for" "nearest_for" (defArgs s_nearest_for) (defBody s_nearest_for) (defScope s_nearest_for) .none kV26 dc26 pm26 an26 cd26 ct26), sl26⟩) (c26 : PySem.W.codeIn K cd26 "nearest_for" = true) (k26 : PySem.W.keepIn K (.ref f26) = true)
    (a27 : PySem.W.nsIn K mainGlobals "best_gap" = some (some (.ref f27))) (l27 : K.lookup f27 = some ⟨oc27, od27, .func (PySem.W.fnOf "best_gap" "best_gap" (defArgs s_best_gap) (defBody s_best_gap) (defScope s_best_gap) .none kV27 dc27 pm27 an27 cd27 ct27), sl27⟩) (c27 : PySem.W.codeIn K cd27 "best_gap" = true) (k27 : PySem.W.keepIn K (.ref f27) = true)
    (a28 : PySem.W.nsIn K mainGlobals "best_from" = some (some (.ref f28))) (l28 : K.lookup f28 = some ⟨oc28, od28, .func (PySem.W.fnOf "best_from" "best_from" (defArgs s_best_from) (defBody s_best_from) (defScope s_best_from) .none kV28 dc28 pm28 an28 cd28 ct28), sl28⟩) (c28 : PySem.W.codeIn K cd28 "best_from" = true) (k28 : PySem.W.keepIn K (.ref f28) = true)
    (a29 : PySem.W.nsIn K mainGlobals "stepped" = some (some (.ref f29))) (l29 : K.lookup f29 = some ⟨oc29, od29, .func (PySem.W.fnOf "stepped" "stepped" (defArgs s_stepped) (defBody s_stepped) (defScope s_stepped) .none kV29 dc29 pm29 an29 cd29 ct29), sl29⟩) (c29 : PySem.W.codeIn K cd29 "stepped" = true) (k29 : PySem.W.keepIn K (.ref f29) = true)
    (a30 : PySem.W.nsIn K mainGlobals "can_step" = some (some (.ref f30))) (l30 : K.lookup f30 = some ⟨oc30, od30, .func (PySem.W.fnOf "can_step" "can_step" (defArgs s_can_step) (defBody s_can_step) (defScope s_can_step) .none kV30 dc30 pm30 an30 cd30 ct30), sl30⟩) (c30 : PySem.W.codeIn K cd30 "can_step" = true) (k30 : PySem.W.keepIn K (.ref f30) = true)
    (a31 : PySem.W.nsIn K mainGlobals "rows_by" = some (some (.ref f31))) (l31 : K.lookup f31 = some ⟨oc31, od31, .func (PySem.W.fnOf "rows_by" "rows_by" (defArgs s_rows_by) (defBody s_rows_by) (defScope s_rows_by) .none kV31 dc31 pm31 an31 cd31 ct31), sl31⟩) (c31 : PySem.W.codeIn K cd31 "rows_by" = true) (k31 : PySem.W.keepIn K (.ref f31) = true)
    (a32 : PySem.W.nsIn K mainGlobals "rows_for" = some (some (.ref f32))) (l32 : K.lookup f32 = some ⟨oc32, od32, .func (PySem.W.fnOf "rows_for" "rows_for" (defArgs s_rows_for) (defBody s_rows_for) (defScope s_rows_for) .none kV32 dc32 pm32 an32 cd32 ct32), sl32⟩) (c32 : PySem.W.codeIn K cd32 "rows_for" = true) (k32 : PySem.W.keepIn K (.ref f32) = true)
    (a33 : PySem.W.nsIn K mainGlobals "has_folk" = some (some (.ref f33))) (l33 : K.lookup f33 = some ⟨oc33, od33, .func (PySem.W.fnOf "has_folk" "has_folk" (defArgs s_has_folk) (defBody s_has_folk) (defScope s_has_folk) .none kV33 dc33 pm33 an33 cd33 ct33), sl33⟩) (c33 : PySem.W.codeIn K cd33 "has_folk" = true) (k33 : PySem.W.keepIn K (.ref f33) = true)
    (a34 : PySem.W.nsIn K mainGlobals "pulls_by" = some (some (.ref f34))) (l34 : K.lookup f34 = some ⟨oc34, od34, .func (PySem.W.fnOf "pulls_by" "pulls_by" (defArgs s_pulls_by) (defBody s_pulls_by) (defScope s_pulls_by) .none kV34 dc34 pm34 an34 cd34 ct34), sl34⟩) (c34 : PySem.W.codeIn K cd34 "pulls_by" = true) (k34 : PySem.W.keepIn K (.ref f34) = true)
    (a35 : PySem.W.nsIn K mainGlobals "closed" = some (some (.ref f35))) (l35 : K.lookup f35 = some ⟨oc35, od35, .func (PySem.W.fnOf "closed" "closed" (defArgs s_closed) (defBody s_closed) (defScope s_closed) .none kV35 dc35 pm35 an35 cd35 ct35), sl35⟩) (c35 : PySem.W.codeIn K cd35 "closed" = true) (k35 : PySem.W.keepIn K (.ref f35) = true)
    (a36 : PySem.W.nsIn K mainGlobals "pulls" = some (some (.ref f36))) (l36 : K.lookup f36 = some ⟨oc36, od36, .func (PySem.W.fnOf "pulls" "pulls" (defArgs s_pulls) (defBody s_pulls) (defScope s_pulls) .none kV36 dc36 pm36 an36 cd36 ct36), sl36⟩) (c36 : PySem.W.codeIn K cd36 "pulls" = true) (k36 : PySem.W.keepIn K (.ref f36) = true)
    (a37 : PySem.W.nsIn K mainGlobals "_law_bag" = some (some (.ref f37))) (l37 : K.lookup f37 = some ⟨oc37, od37, .func (PySem.W.fnOf "_law_bag" "_law_bag" (defArgs s_l_bag) (defBody s_l_bag) (defScope s_l_bag) .none kV37 dc37 pm37 an37 cd37 ct37), sl37⟩) (c37 : PySem.W.codeIn K cd37 "_law_bag" = true) (k37 : PySem.W.keepIn K (.ref f37) = true)
    (a38 : PySem.W.nsIn K mainGlobals "_law_take" = some (some (.ref f38))) (l38 : K.lookup f38 = some ⟨oc38, od38, .func (PySem.W.fnOf "_law_take" "_law_take" (defArgs s_l_take) (defBody s_l_take) (defScope s_l_take) .none kV38 dc38 pm38 an38 cd38 ct38), sl38⟩) (c38 : PySem.W.codeIn K cd38 "_law_take" = true) (k38 : PySem.W.keepIn K (.ref f38) = true)
    (a39 : PySem.W.nsIn K mainGlobals "_law_of" = some (some (.ref f39))) (l39 : K.lookup f39 = some ⟨oc39, od39, .func (PySem.W.fnOf "_law_of" "_law_of" (defArgs s_l_of) (defBody s_l_of) (defScope s_l_of) .none kV39 dc39 pm39 an39 cd39 ct39), sl39⟩) (c39 : PySem.W.codeIn K cd39 "_law_of" = true) (k39 : PySem.W.keepIn K (.ref f39) = true)
    (a40 : PySem.W.nsIn K mainGlobals "_law_lowest" = some (some (.ref f40))) (l40 : K.lookup f40 = some ⟨oc40, od40, .func (PySem.W.fnOf "_law_lowest" "_law_lowest" (defArgs s_l_lowest) (defBody s_l_lowest) (defScope s_l_lowest) .none kV40 dc40 pm40 an40 cd40 ct40), sl40⟩) (c40 : PySem.W.codeIn K cd40 "_law_lowest" = true) (k40 : PySem.W.keepIn K (.ref f40) = true)
    (a41 : PySem.W.nsIn K mainGlobals "_law_plus" = some (some (.ref f41))) (l41 : K.lookup f41 = some ⟨oc41, od41, .func (PySem.W.fnOf "_law_plus" "_law_plus" (defArgs s_l_plus) (defBody s_l_plus) (defScope s_l_plus) .none kV41 dc41 pm41 an41 cd41 ct41), sl41⟩) (c41 : PySem.W.codeIn K cd41 "_law_plus" = true) (k41 : PySem.W.keepIn K (.ref f41) = true)
    (a42 : PySem.W.nsIn K mainGlobals "_law_minus" = some (some (.ref f42))) (l42 : K.lookup f42 = some ⟨oc42, od42, .func (PySem.W.fnOf "_law_minus" "_law_minus" (defArgs s_l_minus) (defBody s_l_minus) (defScope s_l_minus) .none kV42 dc42 pm42 an42 cd42 ct42), sl42⟩) (c42 : PySem.W.codeIn K cd42 "_law_minus" = true) (k42 : PySem.W.keepIn K (.ref f42) = true)
    (a43 : PySem.W.nsIn K mainGlobals "_law_times" = some (some (.ref f43))) (l43 : K.lookup f43 = some ⟨oc43, od43, .func (PySem.W.fnOf "_law_times" "_law_times" (defArgs s_l_times) (defBody s_l_times) (defScope s_l_times) .none kV43 dc43 pm43 an43 cd43 ct43), sl43⟩) (c43 : PySem.W.codeIn K cd43 "_law_times" = true) (k43 : PySem.W.keepIn K (.ref f43) = true)
    (a44 : PySem.W.nsIn K mainGlobals "_law_less" = some (some (.ref f44))) (l44 : K.lookup f44 = some ⟨oc44, od44, .func (PySem.W.fnOf "_law_less" "_law_less" (defArgs s_l_less) (defBody s_l_less) (defScope s_l_less) .none kV44 dc44 pm44 an44 cd44 ct44), sl44⟩) (c44 : PySem.W.codeIn K cd44 "_law_less" = true) (k44 : PySem.W.keepIn K (.ref f44) = true)
    (a45 : PySem.W.nsIn K mainGlobals "_law_least" = some (some (.ref f45))) (l45 : K.lookup f45 = some ⟨oc45, od45, .func (PySem.W.fnOf "_law_least" "_law_least" (defArgs s_l_least) (defBody s_l_least) (defScope s_l_least) .none kV45 dc45 pm45 an45 cd45 ct45), sl45⟩) (c45 : PySem.W.codeIn K cd45 "_law_least" = true) (k45 : PySem.W.keepIn K (.ref f45) = true)
    (a46 : PySem.W.nsIn K mainGlobals "_law_world" = some (some (.ref f46))) (l46 : K.lookup f46 = some ⟨oc46, od46, .func (PySem.W.fnOf "_law_world" "_law_world" (defArgs s_l_world) (defBody s_l_world) (defScope s_l_world) .none kV46 dc46 pm46 an46 cd46 ct46), sl46⟩) (c46 : PySem.W.codeIn K cd46 "_law_world" = true) (k46 : PySem.W.keepIn K (.ref f46) = true)
    (a47 : PySem.W.nsIn K mainGlobals "_law_names" = some (some (.ref f47))) (l47 : K.lookup f47 = some ⟨oc47, od47, .func (PySem.W.fnOf "_law_names" "_law_names" (defArgs s_l_names) (defBody s_l_names) (defScope s_l_names) .none kV47 dc47 pm47 an47 cd47 ct47), sl47⟩) (c47 : PySem.W.codeIn K cd47 "_law_names" = true) (k47 : PySem.W.keepIn K (.ref f47) = true)
    (a48 : PySem.W.nsIn K mainGlobals "_law_folk" = some (some (.ref f48))) (l48 : K.lookup f48 = some ⟨oc48, od48, .func (PySem.W.fnOf "_law_folk" "_law_folk" (defArgs s_l_folk) (defBody s_l_folk) (defScope s_l_folk) .none kV48 dc48 pm48 an48 cd48 ct48), sl48⟩) (c48 : PySem.W.codeIn K cd48 "_law_folk" = true) (k48 : PySem.W.keepIn K (.ref f48) = true)
    (a49 : PySem.W.nsIn K mainGlobals "_law_can_lie" = some (some (.ref f49))) (l49 : K.lookup f49 = some ⟨oc49, od49, .func (PySem.W.fnOf "_law_can_lie" "_law_can_lie" (defArgs s_l_can_lie) (defBody s_l_can_lie) (defScope s_l_can_lie) .none kV49 dc49 pm49 an49 cd49 ct49), sl49⟩) (c49 : PySem.W.codeIn K cd49 "_law_can_lie" = true) (k49 : PySem.W.keepIn K (.ref f49) = true)
    (a50 : PySem.W.nsIn K mainGlobals "_law_place" = some (some (.ref f50))) (l50 : K.lookup f50 = some ⟨oc50, od50, .func (PySem.W.fnOf "_law_place" "_law_place" (defArgs s_l_place) (defBody s_l_place) (defScope s_l_place) .none kV50 dc50 pm50 an50 cd50 ct50), sl50⟩) (c50 : PySem.W.codeIn K cd50 "_law_place" = true) (k50 : PySem.W.keepIn K (.ref f50) = true)
    (a51 : PySem.W.nsIn K mainGlobals "_law_rows" = some (some (.ref f51))) (l51 : K.lookup f51 = some ⟨oc51, od51, .func (PySem.W.fnOf "_law_rows" "_law_rows" (defArgs s_l_rows) (defBody s_l_rows) (defScope s_l_rows) .none kV51 dc51 pm51 an51 cd51 ct51), sl51⟩) (c51 : PySem.W.codeIn K cd51 "_law_rows" = true) (k51 : PySem.W.keepIn K (.ref f51) = true)
    (a52 : PySem.W.nsIn K mainGlobals "_law_lot" = some (some (.ref f52))) (l52 : K.lookup f52 = some ⟨oc52, od52, .func (PySem.W.fnOf "_law_lot" "_law_lot" (defArgs s_l_lot) (defBody s_l_lot) (defScope s_l_lot) .none kV52 dc52 pm52 an52 cd52 ct52), sl52⟩) (c52 : PySem.W.codeIn K cd52 "_law_lot" = true) (k52 : PySem.W.keepIn K (.ref f52) = true)
    (a53 : PySem.W.nsIn K mainGlobals "_law_standing" = some (some (.ref f53))) (l53 : K.lookup f53 = some ⟨oc53, od53, .func (PySem.W.fnOf "_law_standing" "_law_standing" (defArgs s_l_standing) (defBody s_l_standing) (defScope s_l_standing) .none kV53 dc53 pm53 an53 cd53 ct53), sl53⟩) (c53 : PySem.W.codeIn K cd53 "_law_standing" = true) (k53 : PySem.W.keepIn K (.ref f53) = true)
    (a54 : PySem.W.nsIn K mainGlobals "_law_weight" = some (some (.ref f54))) (l54 : K.lookup f54 = some ⟨oc54, od54, .func (PySem.W.fnOf "_law_weight" "_law_weight" (defArgs s_l_weight) (defBody s_l_weight) (defScope s_l_weight) .none kV54 dc54 pm54 an54 cd54 ct54), sl54⟩) (c54 : PySem.W.codeIn K cd54 "_law_weight" = true) (k54 : PySem.W.keepIn K (.ref f54) = true)
    (a55 : PySem.W.nsIn K mainGlobals "_law_aboard" = some (some (.ref f55))) (l55 : K.lookup f55 = some ⟨oc55, od55, .func (PySem.W.fnOf "_law_aboard" "_law_aboard" (defArgs s_l_aboard) (defBody s_l_aboard) (defScope s_l_aboard) .none kV55 dc55 pm55 an55 cd55 ct55), sl55⟩) (c55 : PySem.W.codeIn K cd55 "_law_aboard" = true) (k55 : PySem.W.keepIn K (.ref f55) = true)
    (a56 : PySem.W.nsIn K mainGlobals "_law_steps" = some (some (.ref f56))) (l56 : K.lookup f56 = some ⟨oc56, od56, .func (PySem.W.fnOf "_law_steps" "_law_steps" (defArgs s_l_steps) (defBody s_l_steps) (defScope s_l_steps) .none kV56 dc56 pm56 an56 cd56 ct56), sl56⟩) (c56 : PySem.W.codeIn K cd56 "_law_steps" = true) (k56 : PySem.W.keepIn K (.ref f56) = true)
    (a57 : PySem.W.nsIn K mainGlobals "_law_after" = some (some (.ref f57))) (l57 : K.lookup f57 = some ⟨oc57, od57, .func (PySem.W.fnOf "_law_after" "_law_after" (defArgs s_l_after) (defBody s_l_after) (defScope s_l_after) .none kV57 dc57 pm57 an57 cd57 ct57), sl57⟩) (c57 : PySem.W.codeIn K cd57 "_law_after" = true) (k57 : PySem.W.keepIn K (.ref f57) = true)
    (a58 : PySem.W.nsIn K mainGlobals "_law_reach" = some (some (.ref f58))) (l58 : K.lookup f58 = some ⟨oc58, od58, .func (PySem.W.fnOf "_law_reach" "_law_reach" (defArgs s_l_reach) (defBody s_l_reach) (defScope s_l_reach) .none kV58 dc58 pm58 an58 cd58 ct58), sl58⟩) (c58 : PySem.W.codeIn K cd58 "_law_reach" = true) (k58 : PySem.W.keepIn K (.ref f58) = true)
    (a59 : PySem.W.nsIn K mainGlobals "_law_nearest" = some (some (.ref f59))) (l59 : K.lookup f59 = some ⟨oc59, od59, .func (PySem.W.fnOf "_law_nearest" "_law_nearest" (defArgs s_l_nearest) (defBody s_l_nearest) (defScope s_l_nearest) .none kV59 dc59 pm59 an59 cd59 ct59), sl59⟩) (c59 : PySem.W.codeIn K cd59 "_law_nearest" = true) (k59 : PySem.W.keepIn K (.ref f59) = true)
    (a60 : PySem.W.nsIn K mainGlobals "_law_behind" = some (some (.ref f60))) (l60 : K.lookup f60 = some ⟨oc60, od60, .func (PySem.W.fnOf "_law_behind" "_law_behind" (defArgs s_l_behind) (defBody s_l_behind) (defScope s_l_behind) .none kV60 dc60 pm60 an60 cd60 ct60), sl60⟩) (c60 : PySem.W.codeIn K cd60 "_law_behind" = true) (k60 : PySem.W.keepIn K (.ref f60) = true)
    (a61 : PySem.W.nsIn K mainGlobals "_law_best" = some (some (.ref f61))) (l61 : K.lookup f61 = some ⟨oc61, od61, .func (PySem.W.fnOf "_law_best" "_law_best" (defArgs s_l_best) (defBody s_l_best) (defScope s_l_best) .none kV61 dc61 pm61 an61 cd61 ct61), sl61⟩) (c61 : PySem.W.codeIn K cd61 "_law_best" = true) (k61 : PySem.W.keepIn K (.ref f61) = true)
    (a62 : PySem.W.nsIn K mainGlobals "_law_near_standing" = some (some (.ref f62))) (l62 : K.lookup f62 = some ⟨oc62, od62, .func (PySem.W.fnOf "_law_near_standing" "_law_near_standing" (defArgs s_l_near_standing) (defBody s_l_near_standing) (defScope s_l_near_standing) .none kV62 dc62 pm62 an62 cd62 ct62), sl62⟩) (c62 : PySem.W.codeIn K cd62 "_law_near_standing" = true) (k62 : PySem.W.keepIn K (.ref f62) = true)
    (a63 : PySem.W.nsIn K mainGlobals "_law_has_folk" = some (some (.ref f63))) (l63 : K.lookup f63 = some ⟨oc63, od63, .func (PySem.W.fnOf "_law_has_folk" "_law_has_folk" (defArgs s_l_has_folk) (defBody s_l_has_folk) (defScope s_l_has_folk) .none kV63 dc63 pm63 an63 cd63 ct63), sl63⟩) (c63 : PySem.W.codeIn K cd63 "_law_has_folk" = true) (k63 : PySem.W.keepIn K (.ref f63) = true)
    (a64 : PySem.W.nsIn K mainGlobals "_law_slack" = some (some (.ref f64))) (l64 : K.lookup f64 = some ⟨oc64, od64, .func (PySem.W.fnOf "_law_slack" "_law_slack" (defArgs s_l_slack) (defBody s_l_slack) (defScope s_l_slack) .none kV64 dc64 pm64 an64 cd64 ct64), sl64⟩) (c64 : PySem.W.codeIn K cd64 "_law_slack" = true) (k64 : PySem.W.keepIn K (.ref f64) = true)
    (a65 : PySem.W.nsIn K mainGlobals "_law_contrary" = some (some (.ref f65))) (l65 : K.lookup f65 = some ⟨oc65, od65, .func (PySem.W.fnOf "_law_contrary" "_law_contrary" (defArgs s_l_contrary) (defBody s_l_contrary) (defScope s_l_contrary) .none kV65 dc65 pm65 an65 cd65 ct65), sl65⟩) (c65 : PySem.W.codeIn K cd65 "_law_contrary" = true) (k65 : PySem.W.keepIn K (.ref f65) = true)
    (a66 : PySem.W.nsIn K mainGlobals "_law_taken_best" = some (some (.ref f66))) (l66 : K.lookup f66 = some ⟨oc66, od66, .func (PySem.W.fnOf "_law_taken_best" "_law_taken_best" (defArgs s_l_taken_best) (defBody s_l_taken_best) (defScope s_l_taken_best) .none kV66 dc66 pm66 an66 cd66 ct66), sl66⟩) (c66 : PySem.W.codeIn K cd66 "_law_taken_best" = true) (k66 : PySem.W.keepIn K (.ref f66) = true)
    (a67 : PySem.W.nsIn K mainGlobals "_law_round" = some (some (.ref f67))) (l67 : K.lookup f67 = some ⟨oc67, od67, .func (PySem.W.fnOf "_law_round" "_law_round" (defArgs s_l_round) (defBody s_l_round) (defScope s_l_round) .none kV67 dc67 pm67 an67 cd67 ct67), sl67⟩) (c67 : PySem.W.codeIn K cd67 "_law_round" = true) (k67 : PySem.W.keepIn K (.ref f67) = true)
    (a68 : PySem.W.nsIn K mainGlobals "_law_falls" = some (some (.ref f68))) (l68 : K.lookup f68 = some ⟨oc68, od68, .func (PySem.W.fnOf "_law_falls" "_law_falls" (defArgs s_l_falls) (defBody s_l_falls) (defScope s_l_falls) .none kV68 dc68 pm68 an68 cd68 ct68), sl68⟩) (c68 : PySem.W.codeIn K cd68 "_law_falls" = true) (k68 : PySem.W.keepIn K (.ref f68) = true)
    (a69 : PySem.W.nsIn K mainGlobals "law" = some (some (.ref f69))) (l69 : K.lookup f69 = some ⟨oc69, od69, .func (PySem.W.fnOf "law" "law" (defArgs s_law_k11) (defBody s_law_k11) (defScope s_law_k11) .none kV69 dc69 pm69 an69 cd69 ct69), sl69⟩) (c69 : PySem.W.codeIn K cd69 "law" = true) (k69 : PySem.W.keepIn K (.ref f69) = true)
    (y_NOUGHT : PySem.W.nsIn K mainGlobals "NOUGHT" = some (some (.ref b_NOUGHT))) (w_NOUGHT : K.lookup b_NOUGHT = some ⟨.type "tuple", dd_NOUGHT, .seq #[.int 0 t1_NOUGHT, .int 1 t2_NOUGHT] n_NOUGHT, zz_NOUGHT⟩)
    (y_OFF : PySem.W.nsIn K mainGlobals "OFF" = some (some (.str (Str.ofString "off") q_OFF)))
    (y_ON : PySem.W.nsIn K mainGlobals "ON" = some (some (.str (Str.ofString "on") q_ON)))
    (z_abs : PySem.W.nsIn K mainGlobals "abs" = some none)
    (z_all : PySem.W.nsIn K mainGlobals "all" = some none)
    (z_dict : PySem.W.nsIn K mainGlobals "dict" = some none)
    (z_isinstance : PySem.W.nsIn K mainGlobals "isinstance" = some none)
    (z_len : PySem.W.nsIn K mainGlobals "len" = some none)
    (z_list : PySem.W.nsIn K mainGlobals "list" = some none)
    (z_min : PySem.W.nsIn K mainGlobals "min" = some none)
    (z_range : PySem.W.nsIn K mainGlobals "range" = some none)
    (z_sorted : PySem.W.nsIn K mainGlobals "sorted" = some none)
    (z_str : PySem.W.nsIn K mainGlobals "str" = some none)
    (z_sum : PySem.W.nsIn K mainGlobals "sum" = some none)
    (z_tuple : PySem.W.nsIn K mainGlobals "tuple" = some none) :
    Nonempty { T : Tx K mg // T.a_law_k11 = f69 } :=
  ⟨⟨{ a_lowest := f0, fd_lowest := _, F_lowest := fun_mk (st := s_lowest) l0 c0 k0, m_lowest := PySem.W.mg_of X G a0, b_lowest := (fun_mk (st := s_lowest) l0 c0 k0).binds (ps := ["top", "bottom"]) fun _ _ _ _ _ _ us hl => match us, hl with | [_, _], _ => rfl,
      a_plus := f1, fd_plus := _, F_plus := fun_mk (st := s_plus) l1 c1 k1, m_plus := PySem.W.mg_of X G a1, b_plus := (fun_mk (st := s_plus) l1 c1 k1).binds (ps := ["one", "other"]) fun _ _ _ _ _ _ us hl => match us, hl with | [_, _], _ => rfl,
      a_less := f2, fd_less := _, F_less := fun_mk (st := s_less) l2 c2 k2, m_less := PySem.W.mg_of X G a2, b_less := (fun_mk (st := s_less) l2 c2 k2).binds (ps := ["one", "other"]) fun _ _ _ _ _ _ us hl => match us, hl with | [_, _], _ => rfl,
      a_times := f3, fd_times := _, F_times := fun_mk (st := s_times) l3 c3 k3, m_times := PySem.W.mg_of X G a3, b_times := (fun_mk (st := s_times) l3 c3 k3).binds (ps := ["one", "top", "bottom"]) fun _ _ _ _ _ _ us hl => match us, hl with | [_, _, _], _ => rfl,
      a_is_lesser := f4, fd_is_lesser := _, F_is_lesser := fun_mk (st := s_is_lesser) l4 c4 k4, m_is_lesser := PySem.W.mg_of X G a4, b_is_lesser := (fun_mk (st := s_is_lesser) l4 c4 k4).binds (ps := ["one", "other"]) fun _ _ _ _ _ _ us hl => match us, hl with | [_, _], _ => rfl,
      a_lesser := f5, fd_lesser := _, F_lesser := fun_mk (st := s_lesser) l5 c5 k5, m_lesser := PySem.W.mg_of X G a5, b_lesser := (fun_mk (st := s_lesser) l5 c5 k5).binds (ps := ["one", "other"]) fun _ _ _ _ _ _ us hl => match us, hl with | [_, _], _ => rfl,
      a_folk_of := f6, fd_folk_of := _, F_folk_of := fun_mk (st := s_folk_of) l6 c6 k6, m_folk_of := PySem.W.mg_of X G a6, b_folk_of := (fun_mk (st := s_folk_of) l6 c6 k6).binds (ps := ["world"]) fun _ _ _ _ _ _ us hl => match us, hl with | [_], _ => rfl,
      a_loads_of := f7, fd_loads_of := _, F_loads_of := fun_mk (st := s_loads_of) l7 c7 k7, m_loads_of := PySem.W.mg_of X G a7, b_loads_of := (fun_mk (st := s_loads_of) l7 c7 k7).binds (ps := ["world"]) fun _ _ _ _ _ _ us hl => match us, hl with | [_], _ => rfl,
      a_heavies := f8, fd_heavies := _, F_heavies := fun_mk (st := s_heavies) l8 c8 k8, m_heavies := PySem.W.mg_of X G a8, b_heavies := (fun_mk (st := s_heavies) l8 c8 k8).binds (ps := ["world"]) fun _ _ _ _ _ _ us hl => match us, hl with | [_], _ => rfl,
      a_can_be_aboard := f9, fd_can_be_aboard := _, F_can_be_aboard := fun_mk (st := s_can_be_aboard) l9 c9 k9, m_can_be_aboard := PySem.W.mg_of X G a9, b_can_be_aboard := (fun_mk (st := s_can_be_aboard) l9 c9 k9).binds (ps := ["world", "lot"]) fun _ _ _ _ _ _ us hl => match us, hl with | [_, _], _ => rfl,
      a_aboard_of := f10, fd_aboard_of := _, F_aboard_of := fun_mk (st := s_aboard_of) l10 c10 k10, m_aboard_of := PySem.W.mg_of X G a10, b_aboard_of := (fun_mk (st := s_aboard_of) l10 c10 k10).binds (ps := ["standing"]) fun _ _ _ _ _ _ us hl => match us, hl with | [_], _ => rfl,
      a_weight_of := f11, fd_weight_of := _, F_weight_of := fun_mk (st := s_weight_of) l11 c11 k11, m_weight_of := PySem.W.mg_of X G a11, b_weight_of := (fun_mk (st := s_weight_of) l11 c11 k11).binds (ps := ["world", "lot"]) fun _ _ _ _ _ _ us hl => match us, hl with | [_, _], _ => rfl,
      a_whole_of := f12, fd_whole_of := _, F_whole_of := fun_mk (st := s_whole_of) l12 c12 k12, m_whole_of := PySem.W.mg_of X G a12, b_whole_of := (fun_mk (st := s_whole_of) l12 c12 k12).binds (ps := ["world", "lot"]) fun _ _ _ _ _ _ us hl => match us, hl with | [_, _], _ => rfl,
      a_drive_of := f13, fd_drive_of := _, F_drive_of := fun_mk (st := s_drive_of) l13 c13 k13, m_drive_of := PySem.W.mg_of X G a13, b_drive_of := (fun_mk (st := s_drive_of) l13 c13 k13).binds (ps := ["world", "rows"]) fun _ _ _ _ _ _ us hl => match us, hl with | [_, _], _ => rfl,
      a_front_of := f14, fd_front_of := _, F_front_of := fun_mk (st := s_front_of) l14 c14 k14, m_front_of := PySem.W.mg_of X G a14, b_front_of := (fun_mk (st := s_front_of) l14 c14 k14).binds (ps := ["world", "standing"]) fun _ _ _ _ _ _ us hl => match us, hl with | [_, _], _ => rfl,
      a_gap_by := f15, fd_gap_by := _, F_gap_by := fun_mk (st := s_gap_by) l15 c15 k15, m_gap_by := PySem.W.mg_of X G a15, b_gap_by := (fun_mk (st := s_gap_by) l15 c15 k15).binds (ps := ["world", "front", "rows"]) fun _ _ _ _ _ _ us hl => match us, hl with | [_, _, _], _ => rfl,
      a_gap_behind := f16, fd_gap_behind := _, F_gap_behind := fun_mk (st := s_gap_behind) l16 c16 k16, m_gap_behind := PySem.W.mg_of X G a16, b_gap_behind := (fun_mk (st := s_gap_behind) l16 c16 k16).binds (ps := ["world", "standing", "rows"]) fun _ _ _ _ _ _ us hl => match us, hl with | [_, _, _], _ => rfl,
      a_all_back := f17, fd_all_back := _, F_all_back := fun_mk (st := s_all_back) l17 c17 k17, m_all_back := PySem.W.mg_of X G a17, b_all_back := (fun_mk (st := s_all_back) l17 c17 k17).binds (ps := ["world", "lot"]) fun _ _ _ _ _ _ us hl => match us, hl with | [_, _], _ => rfl,
      a_least_by := f18, fd_least_by := _, F_least_by := fun_mk (st := s_least_by) l18 c18 k18, m_least_by := PySem.W.mg_of X G a18, b_least_by := (fun_mk (st := s_least_by) l18 c18 k18).binds (ps := ["world", "lot", "front"]) fun _ _ _ _ _ _ us hl => match us, hl with | [_, _, _], _ => rfl,
      a_gaps := f19, fd_gaps := _, F_gaps := fun_mk (st := s_gaps) l19 c19 k19, m_gaps := PySem.W.mg_of X G a19, b_gaps := (fun_mk (st := s_gaps) l19 c19 k19).binds (ps := ["world", "standing"]) fun _ _ _ _ _ _ us hl => match us, hl with | [_, _], _ => rfl,
      a_is_step := f20, fd_is_step := _, F_is_step := fun_mk (st := s_is_step) l20 c20 k20, m_is_step := PySem.W.mg_of X G a20, b_is_step := (fun_mk (st := s_is_step) l20 c20 k20).binds (ps := ["world", "thing"]) fun _ _ _ _ _ _ us hl => match us, hl with | [_, _], _ => rfl,
      a_one_of := f21, fd_one_of := _, F_one_of := fun_mk (st := s_one_of) l21 c21 k21, m_one_of := PySem.W.mg_of X G a21, b_one_of := (fun_mk (st := s_one_of) l21 c21 k21).binds (ps := ["world", "name"]) fun _ _ _ _ _ _ us hl => match us, hl with | [_, _], _ => rfl,
      a_all_steps := f22, fd_all_steps := _, F_all_steps := fun_mk (st := s_all_steps) l22 c22 k22, m_all_steps := PySem.W.mg_of X G a22, b_all_steps := (fun_mk (st := s_all_steps) l22 c22 k22).binds (ps := ["world"]) fun _ _ _ _ _ _ us hl => match us, hl with | [_], _ => rfl,
      a_movers := f23, fd_movers := _, F_movers := fun_mk (st := s_movers) l23 c23 k23, m_movers := PySem.W.mg_of X G a23, b_movers := (fun_mk (st := s_movers) l23 c23 k23).binds (ps := ["step"]) fun _ _ _ _ _ _ us hl => match us, hl with | [_], _ => rfl,
      a_lot_behind := f24, fd_lot_behind := _, F_lot_behind := fun_mk (st := s_lot_behind) l24 c24 k24, m_lot_behind := PySem.W.mg_of X G a24, b_lot_behind := (fun_mk (st := s_lot_behind) l24 c24 k24).binds (ps := ["world", "lot", "step"]) fun _ _ _ _ _ _ us hl => match us, hl with | [_, _, _], _ => rfl,
      a_reach_of := f25, fd_reach_of := _, F_reach_of := fun_mk (st := s_reach_of) l25 c25 k25, m_reach_of := PySem.W.mg_of X G a25, b_reach_of := (fun_mk (st := s_reach_of) l25 c25 k25).binds (ps := ["world", "step"]) fun _ _ _ _ _ _ us hl => match us, hl with | [_, _], _ => rfl,
      a_nearest_for := f26, fd_nearest_for := _, F_nearest_for := fun_mk (st := s_nearest_for) l26 c26 k26, m_nearest_for := PySem.W.mg_of X G a26, b_nearest_for := (fun_mk (st := s_nearest_for) l26 c26 k26).binds (ps := ["world", "lot", "front", "step"]) fun _ _ _ _ _ _ us hl => match us, hl with | [_, _, _, _], _ => rfl,
      a_best_gap := f27, fd_best_gap := _, F_best_gap := fun_mk (st := s_best_gap) l27 c27 k27, m_best_gap := PySem.W.mg_of X G a27, b_best_gap := (fun_mk (st := s_best_gap) l27 c27 k27).binds (ps := ["world", "lot", "front", "step"]) fun _ _ _ _ _ _ us hl => match us, hl with | [_, _, _, _], _ => rfl,
      a_best_from := f28, fd_best_from := _, F_best_from := fun_mk (st := s_best_from) l28 c28 k28, m_best_from := PySem.W.mg_of X G a28, b_best_from := (fun_mk (st := s_best_from) l28 c28 k28).binds (ps := ["world", "lot", "front", "step"]) fun _ _ _ _ _ _ us hl => match us, hl with | [_, _, _, _], _ => rfl,
      a_stepped := f29, fd_stepped := _, F_stepped := fun_mk (st := s_stepped) l29 c29 k29, m_stepped := PySem.W.mg_of X G a29, b_stepped := (fun_mk (st := s_stepped) l29 c29 k29).binds (ps := ["world", "standing", "step"]) fun _ _ _ _ _ _ us hl => match us, hl with | [_, _, _], _ => rfl,
      a_can_step := f30, fd_can_step := _, F_can_step := fun_mk (st := s_can_step) l30 c30 k30, m_can_step := PySem.W.mg_of X G a30, b_can_step := (fun_mk (st := s_can_step) l30 c30 k30).binds (ps := ["world", "standing"]) fun _ _ _ _ _ _ us hl => match us, hl with | [_, _], _ => rfl,
      a_rows_by := f31, fd_rows_by := _, F_rows_by := fun_mk (st := s_rows_by) l31 c31 k31, m_rows_by := PySem.W.mg_of X G a31, b_rows_by := (fun_mk (st := s_rows_by) l31 c31 k31).binds (ps := ["world", "lot", "front", "step", "gap"]) fun _ _ _ _ _ _ us hl => match us, hl with | [_, _, _, _, _], _ => rfl,
      a_rows_for := f32, fd_rows_for := _, F_rows_for := fun_mk (st := s_rows_for) l32 c32 k32, m_rows_for := PySem.W.mg_of X G a32, b_rows_for := (fun_mk (st := s_rows_for) l32 c32 k32).binds (ps := ["world", "standing", "step"]) fun _ _ _ _ _ _ us hl => match us, hl with | [_, _, _], _ => rfl,
      a_has_folk := f33, fd_has_folk := _, F_has_folk := fun_mk (st := s_has_folk) l33 c33 k33, m_has_folk := PySem.W.mg_of X G a33, b_has_folk := (fun_mk (st := s_has_folk) l33 c33 k33).binds (ps := ["world", "lot"]) fun _ _ _ _ _ _ us hl => match us, hl with | [_, _], _ => rfl,
      a_pulls_by := f34, fd_pulls_by := _, F_pulls_by := fun_mk (st := s_pulls_by) l34 c34 k34, m_pulls_by := PySem.W.mg_of X G a34, b_pulls_by := (fun_mk (st := s_pulls_by) l34 c34 k34).binds (ps := ["world", "lot", "front", "step"]) fun _ _ _ _ _ _ us hl => match us, hl with | [_, _, _, _], _ => rfl,
      a_closed := f35, fd_closed := _, F_closed := fun_mk (st := s_closed) l35 c35 k35, m_closed := PySem.W.mg_of X G a35, b_closed := (fun_mk (st := s_closed) l35 c35 k35).binds (ps := ["world", "standing"]) fun _ _ _ _ _ _ us hl => match us, hl with | [_, _], _ => rfl,
      a_pulls := f36, fd_pulls := _, F_pulls := fun_mk (st := s_pulls) l36 c36 k36, m_pulls := PySem.W.mg_of X G a36, b_pulls := (fun_mk (st := s_pulls) l36 c36 k36).binds (ps := ["world", "standing"]) fun _ _ _ _ _ _ us hl => match us, hl with | [_, _], _ => rfl,
      a_l_bag := f37, fd_l_bag := _, F_l_bag := fun_mk (st := s_l_bag) l37 c37 k37, m_l_bag := PySem.W.mg_of X G a37, b_l_bag := (fun_mk (st := s_l_bag) l37 c37 k37).binds (ps := ["script", "k"]) fun _ _ _ _ _ _ us hl => match us, hl with | [_, _], _ => rfl,
      a_l_take := f38, fd_l_take := _, F_l_take := fun_mk (st := s_l_take) l38 c38 k38, m_l_take := PySem.W.mg_of X G a38, b_l_take := (fun_mk (st := s_l_take) l38 c38 k38).binds (ps := ["bag", "many"]) fun _ _ _ _ _ _ us hl => match us, hl with | [_, _], _ => rfl,
      a_l_of := f39, fd_l_of := _, F_l_of := fun_mk (st := s_l_of) l39 c39 k39, m_l_of := PySem.W.mg_of X G a39, b_l_of := (fun_mk (st := s_l_of) l39 c39 k39).binds (ps := ["bag", "some"]) fun _ _ _ _ _ _ us hl => match us, hl with | [_, _], _ => rfl,
      a_l_lowest := f40, fd_l_lowest := _, F_l_lowest := fun_mk (st := s_l_lowest) l40 c40 k40, m_l_lowest := PySem.W.mg_of X G a40, b_l_lowest := (fun_mk (st := s_l_lowest) l40 c40 k40).binds (ps := ["top", "bottom"]) fun _ _ _ _ _ _ us hl => match us, hl with | [_, _], _ => rfl,
      a_l_plus := f41, fd_l_plus := _, F_l_plus := fun_mk (st := s_l_plus) l41 c41 k41, m_l_plus := PySem.W.mg_of X G a41, b_l_plus := (fun_mk (st := s_l_plus) l41 c41 k41).binds (ps := ["one", "other"]) fun _ _ _ _ _ _ us hl => match us, hl with | [_, _], _ => rfl,
      a_l_minus := f42, fd_l_minus := _, F_l_minus := fun_mk (st := s_l_minus) l42 c42 k42, m_l_minus := PySem.W.mg_of X G a42, b_l_minus := (fun_mk (st := s_l_minus) l42 c42 k42).binds (ps := ["one", "other"]) fun _ _ _ _ _ _ us hl => match us, hl with | [_, _], _ => rfl,
      a_l_times := f43, fd_l_times := _, F_l_times := fun_mk (st := s_l_times) l43 c43 k43, m_l_times := PySem.W.mg_of X G a43, b_l_times := (fun_mk (st := s_l_times) l43 c43 k43).binds (ps := ["part", "by"]) fun _ _ _ _ _ _ us hl => match us, hl with | [_, _], _ => rfl,
      a_l_less := f44, fd_l_less := _, F_l_less := fun_mk (st := s_l_less) l44 c44 k44, m_l_less := PySem.W.mg_of X G a44, b_l_less := (fun_mk (st := s_l_less) l44 c44 k44).binds (ps := ["one", "other"]) fun _ _ _ _ _ _ us hl => match us, hl with | [_, _], _ => rfl,
      a_l_least := f45, fd_l_least := _, F_l_least := fun_mk (st := s_l_least) l45 c45 k45, m_l_least := PySem.W.mg_of X G a45, b_l_least := (fun_mk (st := s_l_least) l45 c45 k45).binds (ps := ["one", "other"]) fun _ _ _ _ _ _ us hl => match us, hl with | [_, _], _ => rfl,
      a_l_world := f46, fd_l_world := _, F_l_world := fun_mk (st := s_l_world) l46 c46 k46, m_l_world := PySem.W.mg_of X G a46, b_l_world := (fun_mk (st := s_l_world) l46 c46 k46).binds (ps := ["bag", "most", "most_loads"]) fun _ _ _ _ _ _ us hl => match us, hl with | [_, _, _], _ => rfl,
      a_l_names := f47, fd_l_names := _, F_l_names := fun_mk (st := s_l_names) l47 c47 k47, m_l_names := PySem.W.mg_of X G a47, b_l_names := (fun_mk (st := s_l_names) l47 c47 k47).binds (ps := ["world"]) fun _ _ _ _ _ _ us hl => match us, hl with | [_], _ => rfl,
      a_l_folk := f48, fd_l_folk := _, F_l_folk := fun_mk (st := s_l_folk) l48 c48 k48, m_l_folk := PySem.W.mg_of X G a48, b_l_folk := (fun_mk (st := s_l_folk) l48 c48 k48).binds (ps := ["world"]) fun _ _ _ _ _ _ us hl => match us, hl with | [_], _ => rfl,
      a_l_can_lie := f49, fd_l_can_lie := _, F_l_can_lie := fun_mk (st := s_l_can_lie) l49 c49 k49, m_l_can_lie := PySem.W.mg_of X G a49, b_l_can_lie := (fun_mk (st := s_l_can_lie) l49 c49 k49).binds (ps := ["world", "lot"]) fun _ _ _ _ _ _ us hl => match us, hl with | [_, _], _ => rfl,
      a_l_place := f50, fd_l_place := _, F_l_place := fun_mk (st := s_l_place) l50 c50 k50, m_l_place := PySem.W.mg_of X G a50, b_l_place := (fun_mk (st := s_l_place) l50 c50 k50).binds (ps := ["bag", "world"]) fun _ _ _ _ _ _ us hl => match us, hl with | [_, _], _ => rfl,
      a_l_rows := f51, fd_l_rows := _, F_l_rows := fun_mk (st := s_l_rows) l51 c51 k51, m_l_rows := PySem.W.mg_of X G a51, b_l_rows := (fun_mk (st := s_l_rows) l51 c51 k51).binds (ps := ["bag", "world", "lot"]) fun _ _ _ _ _ _ us hl => match us, hl with | [_, _, _], _ => rfl,
      a_l_lot := f52, fd_l_lot := _, F_l_lot := fun_mk (st := s_l_lot) l52 c52 k52, m_l_lot := PySem.W.mg_of X G a52, b_l_lot := (fun_mk (st := s_l_lot) l52 c52 k52).binds (ps := ["bag", "world"]) fun _ _ _ _ _ _ us hl => match us, hl with | [_, _], _ => rfl,
      a_l_standing := f53, fd_l_standing := _, F_l_standing := fun_mk (st := s_l_standing) l53 c53 k53, m_l_standing := PySem.W.mg_of X G a53, b_l_standing := (fun_mk (st := s_l_standing) l53 c53 k53).binds (ps := ["bag", "world"]) fun _ _ _ _ _ _ us hl => match us, hl with | [_, _], _ => rfl,
      a_l_weight := f54, fd_l_weight := _, F_l_weight := fun_mk (st := s_l_weight) l54 c54 k54, m_l_weight := PySem.W.mg_of X G a54, b_l_weight := (fun_mk (st := s_l_weight) l54 c54 k54).binds (ps := ["world", "lot"]) fun _ _ _ _ _ _ us hl => match us, hl with | [_, _], _ => rfl,
      a_l_aboard := f55, fd_l_aboard := _, F_l_aboard := fun_mk (st := s_l_aboard) l55 c55 k55, m_l_aboard := PySem.W.mg_of X G a55, b_l_aboard := (fun_mk (st := s_l_aboard) l55 c55 k55).binds (ps := ["standing"]) fun _ _ _ _ _ _ us hl => match us, hl with | [_], _ => rfl,
      a_l_steps := f56, fd_l_steps := _, F_l_steps := fun_mk (st := s_l_steps) l56 c56 k56, m_l_steps := PySem.W.mg_of X G a56, b_l_steps := (fun_mk (st := s_l_steps) l56 c56 k56).binds (ps := ["world"]) fun _ _ _ _ _ _ us hl => match us, hl with | [_], _ => rfl,
      a_l_after := f57, fd_l_after := _, F_l_after := fun_mk (st := s_l_after) l57 c57 k57, m_l_after := PySem.W.mg_of X G a57, b_l_after := (fun_mk (st := s_l_after) l57 c57 k57).binds (ps := ["world", "lot", "step"]) fun _ _ _ _ _ _ us hl => match us, hl with | [_, _, _], _ => rfl,
      a_l_reach := f58, fd_l_reach := _, F_l_reach := fun_mk (st := s_l_reach) l58 c58 k58, m_l_reach := PySem.W.mg_of X G a58, b_l_reach := (fun_mk (st := s_l_reach) l58 c58 k58).binds (ps := ["world", "step"]) fun _ _ _ _ _ _ us hl => match us, hl with | [_, _], _ => rfl,
      a_l_nearest := f59, fd_l_nearest := _, F_l_nearest := fun_mk (st := s_l_nearest) l59 c59 k59, m_l_nearest := PySem.W.mg_of X G a59, b_l_nearest := (fun_mk (st := s_l_nearest) l59 c59 k59).binds (ps := ["world", "lot", "front", "step"]) fun _ _ _ _ _ _ us hl => match us, hl with | [_, _, _, _], _ => rfl,
      a_l_behind := f60, fd_l_behind := _, F_l_behind := fun_mk (st := s_l_behind) l60 c60 k60, m_l_behind := PySem.W.mg_of X G a60, b_l_behind := (fun_mk (st := s_l_behind) l60 c60 k60).binds (ps := ["world", "lot", "front", "step", "gap"]) fun _ _ _ _ _ _ us hl => match us, hl with | [_, _, _, _, _], _ => rfl,
      a_l_best := f61, fd_l_best := _, F_l_best := fun_mk (st := s_l_best) l61 c61 k61, m_l_best := PySem.W.mg_of X G a61, b_l_best := (fun_mk (st := s_l_best) l61 c61 k61).binds (ps := ["world", "lot", "front", "step"]) fun _ _ _ _ _ _ us hl => match us, hl with | [_, _, _, _], _ => rfl,
      a_l_near_standing := f62, fd_l_near_standing := _, F_l_near_standing := fun_mk (st := s_l_near_standing) l62 c62 k62, m_l_near_standing := PySem.W.mg_of X G a62, b_l_near_standing := (fun_mk (st := s_l_near_standing) l62 c62 k62).binds (ps := ["bag", "world"]) fun _ _ _ _ _ _ us hl => match us, hl with | [_, _], _ => rfl,
      a_l_has_folk := f63, fd_l_has_folk := _, F_l_has_folk := fun_mk (st := s_l_has_folk) l63 c63 k63, m_l_has_folk := PySem.W.mg_of X G a63, b_l_has_folk := (fun_mk (st := s_l_has_folk) l63 c63 k63).binds (ps := ["world", "lot"]) fun _ _ _ _ _ _ us hl => match us, hl with | [_, _], _ => rfl,
      a_l_slack := f64, fd_l_slack := _, F_l_slack := fun_mk (st := s_l_slack) l64 c64 k64, m_l_slack := PySem.W.mg_of X G a64, b_l_slack := (fun_mk (st := s_l_slack) l64 c64 k64).binds (ps := ["world", "lot", "front", "step"]) fun _ _ _ _ _ _ us hl => match us, hl with | [_, _, _, _], _ => rfl,
      a_l_contrary := f65, fd_l_contrary := _, F_l_contrary := fun_mk (st := s_l_contrary) l65 c65 k65, m_l_contrary := PySem.W.mg_of X G a65, b_l_contrary := (fun_mk (st := s_l_contrary) l65 c65 k65).binds (ps := ["step"]) fun _ _ _ _ _ _ us hl => match us, hl with | [_], _ => rfl,
      a_l_taken_best := f66, fd_l_taken_best := _, F_l_taken_best := fun_mk (st := s_l_taken_best) l66 c66 k66, m_l_taken_best := PySem.W.mg_of X G a66, b_l_taken_best := (fun_mk (st := s_l_taken_best) l66 c66 k66).binds (ps := ["world", "standing", "step"]) fun _ _ _ _ _ _ us hl => match us, hl with | [_, _, _], _ => rfl,
      a_l_round := f67, fd_l_round := _, F_l_round := fun_mk (st := s_l_round) l67 c67 k67, m_l_round := PySem.W.mg_of X G a67, b_l_round := (fun_mk (st := s_l_round) l67 c67 k67).binds (ps := ["world", "standing", "step"]) fun _ _ _ _ _ _ us hl => match us, hl with | [_, _, _], _ => rfl,
      a_l_falls := f68, fd_l_falls := _, F_l_falls := fun_mk (st := s_l_falls) l68 c68 k68, m_l_falls := PySem.W.mg_of X G a68, b_l_falls := (fun_mk (st := s_l_falls) l68 c68 k68).binds (ps := ["world", "standing", "step"]) fun _ _ _ _ _ _ us hl => match us, hl with | [_, _, _], _ => rfl,
      a_law_k11 := f69, fd_law_k11 := _, F_law_k11 := fun_mk (st := s_law_k11) l69 c69 k69, m_law_k11 := PySem.W.mg_of X G a69, b_law_k11 := (fun_mk (st := s_law_k11) l69 c69 k69).binds (ps := ["script"]) fun _ _ _ _ _ _ us hl => match us, hl with | [_], _ => rfl,
      a_NOUGHT := b_NOUGHT, m_NOUGHT := PySem.W.mg_of X G y_NOUGHT, t_NOUGHT := fun _ => .inr ⟨_, _, _, w_NOUGHT, rfl, rfl, (by show 2 ≤ sizeLine; decide), .cons ⟨_, rfl⟩ (.cons ⟨_, rfl⟩ .nil)⟩,
      k_OFF := _, m_OFF := PySem.W.mg_of X G y_OFF,
      k_ON := _, m_ON := PySem.W.mg_of X G y_ON,
      m_abs := PySem.W.mg_none_of X G z_abs,
      m_all := PySem.W.mg_none_of X G z_all,
      m_dict := PySem.W.mg_none_of X G z_dict,
      m_isinstance := PySem.W.mg_none_of X G z_isinstance,
      m_len := PySem.W.mg_none_of X G z_len,
      m_list := PySem.W.mg_none_of X G z_list,
      m_min := PySem.W.mg_none_of X G z_min,
      m_range := PySem.W.mg_none_of X G z_range,
      m_sorted := PySem.W.mg_none_of X G z_sorted,
      m_str := PySem.W.mg_none_of X G z_str,
      m_sum := PySem.W.mg_none_of X G z_sum,
      m_tuple := PySem.W.mg_none_of X G z_tuple }, rfl⟩⟩
def spL (K : PySem.W.Frag) : Sp := fun vs H Q _ => ∃ (a : Addr) (ns : List Int), vs = [.ref a] ∧ SqL K H a (ns.map V.int) ∧ ns.length ≤ 63 ∧ ∀ H', Q (.bl true) H'
theorem all_mk {l : PySem.W.OpenLaw} {w : World} {K : PySem.W.Frag} {mg : Str → Option Value} {fa : Addr} (hfa : mg "law" = some (.ref fa)) (ht : ∃ g, Nonempty { T : Tx K mg // T.a_law_k11 = g }) :
    ∃ fd : FuncData, (∀ (s : Shared) (v : Value), BindsTo s fd ⟨[v], []⟩ [("script", v)]) ∧ ∀ base : Heap, K.In base → base.Ns mainGlobals mg → FnOk l.prog w K mg base CX0 12 fa fd ["script"] (spL K) := by
  obtain ⟨g, ⟨T, hT⟩⟩ := ht
  have e : fa = T.a_law_k11 := by
    have := hfa.symm.trans T.m_law_k11
    injection this with this
    injection this
  subst e
  refine ⟨T.fd_law_k11, fun s v => ?_, fun base _ _ => (ok_law_k11 T).imp fun vs H Q E h => ?_⟩
  · obtain ⟨oc, od, kV, doc, pm, an, cdv, ct, osl, e, _, _⟩ := T.F_law_k11.ex
    rw [e]
    exact .of_eq rfl
  · obtain ⟨a, ns, rfl, hS, hl, q⟩ := h
    obtain ⟨S', hr⟩ := law_true ns hl
    exact ⟨rfl, H, [], [], [.s ns], .d (.bl true), S', ⟨fun _ _ e => e, List.nodup_nil, .nil⟩, .cons ⟨a, rfl, hS⟩ .nil, hr, fun v H' F' A' _ _ p => by cases p; exact q H'⟩
end OA
open PySem PySem.W PyProof.Rows
set_option maxHeartbeats 0 in
theorem PySem.Challenge.cw_offandon_k11_whole_one_off_all_off_holds : PySem.Challenge.rw_offandon_k11_whole_one_off_all_off.Holds := by
  w_on; o_law; k_head; (case hw => w_witness2)
  k_fill
  refine L2.walk_of (l := PySem.Challenge.rw_offandon_k11_whole_one_off_all_off) (n := 63) (k := 12) (x := "script") (CX := fun _ => L2.CX0) (sp := fun w => OA.spL _) rfl (by decide) rfl ⟨rfl, by decide, by decide⟩ (fun w h Y => PySem.W.kIn_of Y) ?F (fun _ _ a ns hl _ hS => ⟨a, ns, rfl, hS, hl, fun _ => rfl⟩) (fun _ _ _ _ _ h => h)
  case F =>
    intro w mg fa h KX G hmg
    refine' OA.all_mk (w := w) hmg ⟨_, OA.tx_mk KX G ?a0 ?l0 ?c0 ?k0 ?a1 ?l1 ?c1 ?k1 ?a2 ?l2 ?c2 ?k2 ?a3 ?l3 ?c3 ?k3 ?a4 ?l4 ?c4 ?k4 ?a5 ?l5 ?c5 ?k5 ?a6 ?l6 ?c6 ?k6 ?a7 ?l7 ?c7 ?k7 ?a8 ?l8 ?c8 ?k8 ?a9 ?l9 ?c9 ?k9 ?a10 ?l10 ?c10 ?k10 ?a11 ?l11 ?c11 ?k11 ?a12 ?l12 ?c12 ?k12 ?a13 ?l13 ?c13 ?k13 ?a14 ?l14 ?c14 ?k14 ?a15 ?l15 ?c15 ?k15 ?a16 ?l16 ?c16 ?k16 ?a17 ?l17 ?c17 ?k17 ?a18 ?l18 ?c18 ?k18 ?a19 ?l19 ?c19 ?k19 ?a20 ?l20 ?c20 ?k20 ?a21 ?l21 ?c21 ?k21 ?a22 ?l22 ?c22 ?k22 ?a23 ?l23 ?c23 ?k23 ?a24 ?l24 ?c24 ?k24 ?a25 ?l25 ?c25 ?k25 ?a26 ?l26 ?c26 ?k26 ?a27 ?l27 ?c27 ?k27 ?a28 ?l28 ?c28 ?k28 ?a29 ?l29 ?c29 ?k29 ?a30 ?l30 ?c30 ?k30 ?a31 ?l31 ?c31 ?k31 ?a32 ?l32 ?c32 ?k32 ?a33 ?l33 ?c33 ?k33 ?a34 ?l34 ?c34 ?k34 ?a35 ?l35 ?c35 ?k35 ?a36 ?l36 ?c36 ?k36 ?a37 ?l37 ?c37 ?k37 ?a38 ?l38 ?c38 ?k38 ?a39 ?l39 ?c39 ?k39 ?a40 ?l40 ?c40 ?k40 ?a41 ?l41 ?c41 ?k41 ?a42 ?l42 ?c42 ?k42 ?a43 ?l43 ?c43 ?k43 ?a44 ?l44 ?c44 ?k44 ?a45 ?l45 ?c45 ?k45 ?a46 ?l46 ?c46 ?k46 ?a47 ?l47 ?c47 ?k47 ?a48 ?l48 ?c48 ?k48 ?a49 ?l49 ?c49 ?k49 ?a50 ?l50 ?c50 ?k50 ?a51 ?l51 ?c51 ?k51 ?a52 ?l52 ?c52 ?k52 ?a53 ?l53 ?c53 ?k53 ?a54 ?l54 ?c54 ?k54 ?a55 ?l55 ?c55 ?k55 ?a56 ?l56 ?c56 ?k56 ?a57 ?l57 ?c57 ?k57 ?a58 ?l58 ?c58 ?k58 ?a59 ?l59 ?c59 ?k59 ?a60 ?l60 ?c60 ?k60 ?a61 ?l61 ?c61 ?k61 ?a62 ?l62 ?c62 ?k62 ?a63 ?l63 ?c63 ?k63 ?a64 ?l64 ?c64 ?k64 ?a65 ?l65 ?c65 ?k65 ?a66 ?l66 ?c66 ?k66 ?a67 ?l67 ?c67 ?k67 ?a68 ?l68 ?c68 ?k68 ?a69 ?l69 ?c69 ?k69 ?y_NOUGHT ?w_NOUGHT ?y_OFF ?y_ON ?z_abs ?z_all ?z_dict ?z_isinstance ?z_len ?z_list ?z_min ?z_range ?z_sorted ?z_str ?z_sum ?z_tuple⟩
    (case a0 => k_is); (case l0 => k_is); (case c0 => k_is); (case k0 => k_is); (case a1 => k_is); (case l1 => k_is); (case c1 => k_is); (case k1 => k_is); (case a2 => k_is); (case l2 => k_is); (case c2 => k_is); (case k2 => k_is); (case a3 => k_is); (case l3 => k_is); (case c3 => k_is); (case k3 => k_is); (case a4 => k_is); (case l4 => k_is); (case c4 => k_is); (case k4 => k_is); (case a5 => k_is); (case l5 => k_is); (case c5 => k_is); (case k5 => k_is); (case a6 => k_is); (case l6 => k_is); (case c6 => k_is); (case k6 => k_is); (case a7 => k_is); (case l7 => k_is); (case c7 => k_is); (case k7 => k_is); (case a8 => k_is); (case l8 => k_is); (case c8 => k_is); (case k8 => k_is); (case a9 => k_is); (case l9 => k_is); (case c9 => k_is); (case k9 => k_is); (case a10 => k_is); (case l10 => k_is); (case c10 => k_is); (case k10 => k_is); (case a11 => k_is); (case l11 => k_is); (case c11 => k_is); (case k11 => k_is); (case a12 => k_is); (case l12 => k_is); (case c12 => k_is); (case k12 => k_is); (case a13 => k_is); (case l13 => k_is); (case c13 => k_is); (case k13 => k_is); (case a14 => k_is); (case l14 => k_is); (case c14 => k_is); (case k14 => k_is); (case a15 => k_is); (case l15 => k_is); (case c15 => k_is); (case k15 => k_is); (case a16 => k_is); (case l16 => k_is); (case c16 => k_is); (case k16 => k_is); (case a17 => k_is); (case l17 => k_is); (case c17 => k_is); (case k17 => k_is); (case a18 => k_is); (case l18 => k_is); (case c18 => k_is); (case k18 => k_is); (case a19 => k_is); (case l19 => k_is); (case c19 => k_is); (case k19 => k_is); (case a20 => k_is); (case l20 => k_is); (case c20 => k_is); (case k20 => k_is); (case a21 => k_is); (case l21 => k_is); (case c21 => k_is); (case k21 => k_is); (case a22 => k_is); (case l22 => k_is); (case c22 => k_is); (case k22 => k_is); (case a23 => k_is); (case l23 => k_is); (case c23 => k_is); (case k23 => k_is); (case a24 => k_is); (case l24 => k_is); (case c24 => k_is); (case k24 => k_is); (case a25 => k_is); (case l25 => k_is); (case c25 => k_is); (case k25 => k_is); (case a26 => k_is); (case l26 => k_is); (case c26 => k_is); (case k26 => k_is); (case a27 => k_is); (case l27 => k_is); (case c27 => k_is); (case k27 => k_is); (case a28 => k_is); (case l28 => k_is); (case c28 => k_is); (case k28 => k_is); (case a29 => k_is); (case l29 => k_is); (case c29 => k_is); (case k29 => k_is); (case a30 => k_is); (case l30 => k_is); (case c30 => k_is); (case k30 => k_is); (case a31 => k_is); (case l31 => k_is); (case c31 => k_is); (case k31 => k_is); (case a32 => k_is); (case l32 => k_is); (case c32 => k_is); (case k32 => k_is); (case a33 => k_is); (case l33 => k_is); (case c33 => k_is); (case k33 => k_is); (case a34 => k_is); (case l34 => k_is); (case c34 => k_is); (case k34 => k_is); (case a35 => k_is); (case l35 => k_is); (case c35 => k_is); (case k35 => k_is); (case a36 => k_is); (case l36 => k_is); (case c36 => k_is); (case k36 => k_is); (case a37 => k_is); (case l37 => k_is); (case c37 => k_is); (case k37 => k_is); (case a38 => k_is); (case l38 => k_is); (case c38 => k_is); (case k38 => k_is); (case a39 => k_is); (case l39 => k_is); (case c39 => k_is); (case k39 => k_is); (case a40 => k_is); (case l40 => k_is); (case c40 => k_is); (case k40 => k_is); (case a41 => k_is); (case l41 => k_is); (case c41 => k_is); (case k41 => k_is); (case a42 => k_is); (case l42 => k_is); (case c42 => k_is); (case k42 => k_is); (case a43 => k_is); (case l43 => k_is); (case c43 => k_is); (case k43 => k_is); (case a44 => k_is); (case l44 => k_is); (case c44 => k_is); (case k44 => k_is); (case a45 => k_is); (case l45 => k_is); (case c45 => k_is); (case k45 => k_is); (case a46 => k_is); (case l46 => k_is); (case c46 => k_is); (case k46 => k_is); (case a47 => k_is); (case l47 => k_is); (case c47 => k_is); (case k47 => k_is); (case a48 => k_is); (case l48 => k_is); (case c48 => k_is); (case k48 => k_is); (case a49 => k_is); (case l49 => k_is); (case c49 => k_is); (case k49 => k_is); (case a50 => k_is); (case l50 => k_is); (case c50 => k_is); (case k50 => k_is); (case a51 => k_is); (case l51 => k_is); (case c51 => k_is); (case k51 => k_is); (case a52 => k_is); (case l52 => k_is); (case c52 => k_is); (case k52 => k_is); (case a53 => k_is); (case l53 => k_is); (case c53 => k_is); (case k53 => k_is); (case a54 => k_is); (case l54 => k_is); (case c54 => k_is); (case k54 => k_is); (case a55 => k_is); (case l55 => k_is); (case c55 => k_is); (case k55 => k_is); (case a56 => k_is); (case l56 => k_is); (case c56 => k_is); (case k56 => k_is); (case a57 => k_is); (case l57 => k_is); (case c57 => k_is); (case k57 => k_is); (case a58 => k_is); (case l58 => k_is); (case c58 => k_is); (case k58 => k_is); (case a59 => k_is); (case l59 => k_is); (case c59 => k_is); (case k59 => k_is); (case a60 => k_is); (case l60 => k_is); (case c60 => k_is); (case k60 => k_is); (case a61 => k_is); (case l61 => k_is); (case c61 => k_is); (case k61 => k_is); (case a62 => k_is); (case l62 => k_is); (case c62 => k_is); (case k62 => k_is); (case a63 => k_is); (case l63 => k_is); (case c63 => k_is); (case k63 => k_is); (case a64 => k_is); (case l64 => k_is); (case c64 => k_is); (case k64 => k_is); (case a65 => k_is); (case l65 => k_is); (case c65 => k_is); (case k65 => k_is); (case a66 => k_is); (case l66 => k_is); (case c66 => k_is); (case k66 => k_is); (case a67 => k_is); (case l67 => k_is); (case c67 => k_is); (case k67 => k_is); (case a68 => k_is); (case l68 => k_is); (case c68 => k_is); (case k68 => k_is); (case a69 => k_is); (case l69 => k_is); (case c69 => k_is); (case k69 => k_is); (case y_NOUGHT => k_is); (case w_NOUGHT => k_is); (case y_OFF => k_is); (case y_ON => k_is); (case z_abs => k_is); (case z_all => k_is); (case z_dict => k_is); (case z_isinstance => k_is); (case z_len => k_is); (case z_list => k_is); (case z_min => k_is); (case z_range => k_is); (case z_sorted => k_is); (case z_str => k_is); (case z_sum => k_is); (case z_tuple => k_is)
