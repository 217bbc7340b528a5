import PyProof.Rows.All
import Wide.All
import OpenK.AllK
import Wide.FinOn
import HandS.ForMost
import HandS.Exc
import KE.DataEq
import HandS.TupAny
import HandS.TupMul
import HandS.WordsExc
import HandS.CallSlots
import HandS.Zip
import KE.DataIsa
import PySem.Challenge.RW_skynights_k01_whole_what_is_up
set_option Elab.async false
set_option linter.all false
set_option maxRecDepth 100000
section
/-! Lay1: values, cells, how they lie in the heap; what a reading by a plain function is. -/
namespace Sky
open PySem PySem.Spec PyProof.Rows L2

/-! ### values -/
/-- a value of the layer: plain data, a cell of the store, the script -/
inductive D where
  | d (x : PyData)
  | r (i : Nat)
  | s (ns : List Int)
/-- a cell: what may be written -/
inductive Cell where
  | lst (xs : List PyData)
  | dct (kvs : List (Key × PyData))
  | ins (c : Str) (fs : List (Str × D))
abbrev St := L2.St
abbrev Store := List Cell
abbrev Env := List (Option D)
structure Exc where
  cls : Str
  fs : List (Str × PyData)
/-- the end of an expression -/
inductive Res (α : Type) where
  | ok (a : α) (S : Store)
  | exc (e : Exc) (S : Store)
  | no
/-- the end of a statement -/
inductive SR where
  | nx (ρ : Env) (S : Store)
  | rt (d : D) (S : Store)
  | bk (ρ : Env) (S : Store)
  | ct (ρ : Env) (S : Store)
  | ex (e : Exc) (ρ : Env) (S : Store)
  | no
abbrev EM := Env → Store → Res D
abbrev BM := Env → Store → Res Bool
abbrev AM := Env → Store → Res (List D)
abbrev SM := Env → Store → SR
def keyD : Key → PyData
  | .inl i => .int i
  | .inr x => .str x

/-! ### how data lie in the heap: B, what they may not touch -/
mutual
inductive Rp (K : PySem.W.Frag) (H : Hp) (B : List Addr) : PyData → V → Prop
  | non : Rp K H B .none .non
  | bl (b : Bool) : Rp K H B (.bool b) (.bl b)
  | int (i : Int) : Rp K H B (.int i) (.int i)
  | str (x : Str) : Rp K H B (.str x) (.str x)
  | tup {a : Addr} {vs : List V} {ds : List PyData} : Rd H a (.tup vs) → a ∉ B → RpL K H B ds vs → Rp K H B (.tuple ds) (.ref a)
  | lst {a : Addr} {vs : List V} {ds : List PyData} : H a = some (.lst vs) → a ∉ B → RpL K H B ds vs → Rp K H B (.list ds) (.ref a)
  | dct {a : Addr} {vs : List (Key × V)} {ds : List (PyData × PyData)} : H a = some (.dK vs) → a ∉ B → RpK K H B ds vs → Rp K H B (.dict ds) (.ref a)
inductive RpL (K : PySem.W.Frag) (H : Hp) (B : List Addr) : List PyData → List V → Prop
  | nil : RpL K H B [] []
  | cons {d : PyData} {v : V} {ds : List PyData} {vs : List V} : Rp K H B d v → RpL K H B ds vs → RpL K H B (d :: ds) (v :: vs)
inductive RpK (K : PySem.W.Frag) (H : Hp) (B : List Addr) : List (PyData × PyData) → List (Key × V) → Prop
  | nil : RpK K H B [] []
  | cons {k : Key} {d : PyData} {v : V} {ds : List (PyData × PyData)} {vs : List (Key × V)} : Rp K H B d v → RpK K H B ds vs → RpK K H B ((keyD k, d) :: ds) ((k, v) :: vs)
end
/-- what stands at an address that is not banned stands on -/
def Kp (H : Hp) (B : List Addr) (H' : Hp) (B' : List Addr) : Prop := ∀ a o, H a = some o → a ∉ B → a ∉ B' ∧ H' a = some o
section
variable {K : PySem.W.Frag} {H H' : Hp} {B B' : List Addr}
theorem Kp.rd {a : Addr} {u : HO} (k : Kp H B H' B') (h : Rd H a u) (n : a ∉ B) : Rd H' a u ∧ a ∉ B' := by
  rcases h with h | ⟨o, h⟩
  · exact ⟨.inl (k _ _ h n).2, (k _ _ h n).1⟩
  · exact ⟨.inr ⟨o, (k _ _ h n).2⟩, (k _ _ h n).1⟩
theorem Kp.sqL {a : Addr} {vs : List V} (k : Kp H B H' B') (h : Rd H a (.lst vs)) (n : a ∉ B) : Rd H' a (.lst vs) ∧ a ∉ B' := k.rd h n
mutual
theorem Rp.mono (k : Kp H B H' B') : ∀ (d : PyData) (v : V), Rp K H B d v → Rp K H' B' d v
  | .none, _, h => by cases h; exact .non
  | .bool b, _, h => by cases h; exact .bl b
  | .int i, _, h => by cases h; exact .int i
  | .str x, _, h => by cases h; exact .str x
  | .tuple ds, _, h => by
    cases h with
    | tup h1 h2 h3 => exact .tup (k.rd h1 h2).1 (k.rd h1 h2).2 (RpL.mono k ds _ h3)
  | .list ds, _, h => by
    cases h with
    | lst h1 h2 h3 => exact .lst (k _ _ h1 h2).2 (k _ _ h1 h2).1 (RpL.mono k ds _ h3)
  | .dict ds, _, h => by
    cases h with
    | dct h1 h2 h3 => exact .dct (k _ _ h1 h2).2 (k _ _ h1 h2).1 (RpK.mono k ds _ h3)
theorem RpL.mono (k : Kp H B H' B') : ∀ (ds : List PyData) (vs : List V), RpL K H B ds vs → RpL K H' B' ds vs
  | [], _, h => by cases h; exact .nil
  | d :: ds, _, h => by
    cases h with
    | cons h1 h2 => exact .cons (Rp.mono k d _ h1) (RpL.mono k ds _ h2)
theorem RpK.mono (k : Kp H B H' B') : ∀ (ds : List (PyData × PyData)) (vs : List (Key × V)), RpK K H B ds vs → RpK K H' B' ds vs
  | [], _, h => by cases h; exact .nil
  | (_, d) :: ds, _, h => by
    cases h with
    | cons h1 h2 => exact .cons (Rp.mono k d _ h1) (RpK.mono k ds _ h2)
end
/-! ### the store -/
/-- a list of ints of the written part -/
def KL (K : PySem.W.Frag) (a : Addr) (ns : List Int) : Prop := ∃ (o : Obj) (its : Array Value) (n : Nat), K.lookup a = some o ∧ o.cls = .type "list" ∧ o.dict = none ∧ o.data = .seq its n ∧ its.size ≤ sizeLine ∧ Vals (ns.map V.int) its.toList
/-- a value; O: banned for good, L: the cells' addresses -/
inductive RD (K : PySem.W.Frag) (H : Hp) (O L : List Addr) : D → V → Prop
  | d {x : PyData} {v : V} : Rp K H (O ++ L) x v → RD K H O L (.d x) v
  | r {i : Nat} {a : Addr} : L[i]? = some a → RD K H O L (.r i) (.ref a)
  | s {ns : List Int} {a : Addr} : ((Rd H a (.lst (ns.map V.int)) ∧ a ∉ O ++ L) ∨ KL K a ns) → RD K H O L (.s ns) (.ref a)
inductive RDL (K : PySem.W.Frag) (H : Hp) (O L : List Addr) : List D → List V → Prop
  | nil : RDL K H O L [] []
  | cons {d : D} {v : V} {ds : List D} {vs : List V} : RD K H O L d v → RDL K H O L ds vs → RDL K H O L (d :: ds) (v :: vs)
inductive RF (K : PySem.W.Frag) (H : Hp) (O L : List Addr) : List (Str × D) → List (Str × V) → Prop
  | nil : RF K H O L [] []
  | cons {f : Str} {d : D} {v : V} {ds : List (Str × D)} {vs : List (Str × V)} : RD K H O L d v → RF K H O L ds vs → RF K H O L ((f, d) :: ds) ((f, v) :: vs)
inductive RQ (K : PySem.W.Frag) (H : Hp) (B : List Addr) : List (Key × PyData) → List (Key × V) → Prop
  | nil : RQ K H B [] []
  | cons {k : Key} {d : PyData} {v : V} {ds : List (Key × PyData)} {vs : List (Key × V)} : Rp K H B d v → RQ K H B ds vs → RQ K H B ((k, d) :: ds) ((k, v) :: vs)
/-- the module's facts that cells ask: where a class stands -/
abbrev MG := Str → Option Value
inductive CellOk (K : PySem.W.Frag) (mg : MG) (H : Hp) (O L : List Addr) (a : Addr) : Cell → Prop
  | lst {xs : List PyData} {vs : List V} : H a = some (.lst vs) → RpL K H (O ++ L) xs vs → CellOk K mg H O L a (.lst xs)
  | dct {xs : List (Key × PyData)} {vs : List (Key × V)} : H a = some (.dK vs) → RQ K H (O ++ L) xs vs → CellOk K mg H O L a (.dct xs)
  | ins {c : Str} {C dx : Addr} {fs : List (Str × D)} {vs : List (Str × V)} : mg c = some (.ref C) → H a = some (.ins C dx vs) → RF K H O L fs vs → CellOk K mg H O L a (.ins c fs)
structure Sto (K : PySem.W.Frag) (mg : MG) (H : Hp) (O L : List Addr) (S : Store) : Prop where
  len : L.length = S.length
  nd : L.Nodup
  cell : ∀ (i : Nat) (c : Cell) (a : Addr), S[i]? = some c → L[i]? = some a → CellOk K mg H O L a c
  out : ∀ a, a ∈ O → ∃ o, H a = some o
/-- later -/
structure Ext (L : List Addr) (H : Hp) (L' : List Addr) (H' : Hp) : Prop where
  pre : ∀ (i : Nat) (a : Addr), L[i]? = some a → L'[i]? = some a
  new : ∀ a, a ∈ L' → a ∈ L ∨ H a = none
  keep : ∀ a o, H a = some o → a ∉ L → H' a = some o
theorem Ext.refl (L : List Addr) (H : Hp) : Ext L H L H := ⟨fun _ _ h => h, fun _ h => .inl h, fun _ _ h _ => h⟩
theorem Ext.trans {L L1 L2 : List Addr} {H H1 H2 : Hp} (a : Ext L H L1 H1) (b : Ext L1 H1 L2 H2) : Ext L H L2 H2 where
  pre := fun i x h => b.pre i x (a.pre i x h)
  new := fun x h => by
    rcases b.new x h with h1 | h1
    · exact a.new x h1
    · by_cases hx : x ∈ L
      · exact .inl hx
      · cases q : H x with
        | none => exact .inr rfl
        | some o => rw [a.keep x o q hx] at h1; cases h1
  keep := fun x o h n => b.keep x o (a.keep x o h n) fun h1 => by
    rcases a.new x h1 with h2 | h2
    · exact n h2
    · rw [h] at h2; cases h2
theorem Ext.kp {L L' O : List Addr} {H H' : Hp} (e : Ext L H L' H') : Kp H (O ++ L) H' (O ++ L') := fun a o h n => by
  have n1 : a ∉ O := fun z => n (List.mem_append_left _ z)
  have n2 : a ∉ L := fun z => n (List.mem_append_right _ z)
  refine ⟨fun z => ?_, e.keep a o h n2⟩
  rcases List.mem_append.mp z with z | z
  · exact n1 z
  · rcases e.new a z with z | z
    · exact n2 z
    · rw [h] at z; cases z
variable {O L L' : List Addr} {mg : MG}
theorem RD.mono (e : Ext L H L' H') {d : D} {v : V} (h : RD K H O L d v) : RD K H' O L' d v := by
  cases h with
  | d h => exact .d (Rp.mono e.kp _ _ h)
  | r h => exact .r (e.pre _ _ h)
  | s h => exact .s (h.imp (fun h => e.kp.rd h.1 h.2) id)
theorem RDL.mono (e : Ext L H L' H') : ∀ {ds : List D} {vs : List V}, RDL K H O L ds vs → RDL K H' O L' ds vs
  | _, _, .nil => .nil
  | _, _, .cons h t => .cons (h.mono e) (RDL.mono e t)
theorem RF.mono (e : Ext L H L' H') : ∀ {ds : List (Str × D)} {vs : List (Str × V)}, RF K H O L ds vs → RF K H' O L' ds vs
  | _, _, .nil => .nil
  | _, _, .cons h t => .cons (h.mono e) (RF.mono e t)
theorem RQ.mono (k : Kp H B H' B') : ∀ {ds : List (Key × PyData)} {vs : List (Key × V)}, RQ K H B ds vs → RQ K H' B' ds vs
  | _, _, .nil => .nil
  | _, _, .cons h t => .cons (Rp.mono k _ _ h) (RQ.mono k t)
/-- a cell that stands as it stood -/
theorem CellOk.mono (e : Ext L H L' H') {a : Addr} {c : Cell} (st : H' a = H a) (h : CellOk K mg H O L a c) : CellOk K mg H' O L' a c := by
  cases h with
  | lst h1 h2 => exact .lst (st.trans h1) (RpL.mono e.kp _ _ h2)
  | dct h1 h2 => exact .dct (st.trans h1) (h2.mono e.kp)
  | ins h1 h2 h3 => exact .ins h1 (st.trans h2) (h3.mono e)
/-! ### the frame's names -/
inductive RE (K : PySem.W.Frag) (H : Hp) (O L : List Addr) : Env → St → Prop
  | nil : RE K H O L [] []
  | unk {v : Option V} {ρ : Env} {σ : St} : RE K H O L ρ σ → RE K H O L (none :: ρ) (v :: σ)
  | cons {d : D} {v : V} {ρ : Env} {σ : St} : RD K H O L d v → RE K H O L ρ σ → RE K H O L (some d :: ρ) (some v :: σ)
theorem RE.mono (e : Ext L H L' H') : ∀ {ρ : Env} {σ : St}, RE K H O L ρ σ → RE K H' O L' ρ σ
  | _, _, .nil => .nil
  | _, _, .unk t => .unk (RE.mono e t)
  | _, _, .cons h t => .cons (h.mono e) (RE.mono e t)
theorem RE.get : ∀ {ρ : Env} {σ : St} {i : Nat} {d : D}, RE K H O L ρ σ → ρ[i]? = some (some d) → ∃ v, σ[i]? = some (some v) ∧ RD K H O L d v
  | _, _, _, _, .nil, h => by simp at h
  | _, _, 0, _, .unk t, h => by simp at h
  | _, _, i + 1, _, .unk t, h => by
    obtain ⟨v, h1, h2⟩ := RE.get (i := i) t (by simpa using h)
    exact ⟨v, by simpa using h1, h2⟩
  | _, _, 0, _, .cons r t, h => by simp at h; subst h; exact ⟨_, rfl, r⟩
  | _, _, i + 1, _, .cons r t, h => by
    obtain ⟨v, h1, h2⟩ := RE.get (i := i) t (by simpa using h)
    exact ⟨v, by simpa using h1, h2⟩
theorem RE.set {d : D} {v : V} (r : RD K H O L d v) : ∀ {ρ : Env} {σ : St} (i : Nat), RE K H O L ρ σ → RE K H O L (ρ.set i (some d)) (σ.set i (some v))
  | _, _, _, .nil => .nil
  | _, _, 0, .unk t => .cons r t
  | _, _, 0, .cons _ t => .cons r t
  | _, _, i + 1, .unk t => .unk (RE.set r i t)
  | _, _, i + 1, .cons q t => .cons q (RE.set r i t)
/-- slots forgotten on both sides -/
theorem RE.wipe1 : ∀ {ρ : Env} {σ : St} (i : Nat), RE K H O L ρ σ → RE K H O L (ρ.set i none) (σ.set i none)
  | _, _, _, .nil => .nil
  | _, _, 0, .unk t => .unk t
  | _, _, 0, .cons _ t => .unk t
  | _, _, i + 1, .unk t => .unk (RE.wipe1 i t)
  | _, _, i + 1, .cons q t => .cons q (RE.wipe1 i t)
end
end Sky
end
section
/-! Lay2: readings by plain functions; names, constants, operators by values, sequences. -/
namespace Sky
open PySem PySem.Spec PyProof.Rows L2
def Res.andThen {α β : Type} (r : Res α) (k : α → Store → Res β) : Res β := match r with
  | .ok a S => k a S
  | .exc e S => .exc e S
  | .no => .no
theorem andThen_ok {α β : Type} (a : α) (S : Store) (k : α → Store → Res β) : (Res.ok a S).andThen k = k a S := rfl
theorem andThen_exc {α β : Type} (e : Exc) (S : Store) (k : α → Store → Res β) : (Res.exc e S).andThen k = .exc e S := rfl
theorem andThen_no {α β : Type} (k : α → Store → Res β) : (Res.no : Res α).andThen k = .no := rfl
/-- the fields of an exception in flight -/
inductive XD (K : PySem.W.Frag) (H : Hp) : List (Str × PyData) → Option Addr → Prop
  | nil : XD K H [] none
  | one {f : Str} {x : PyData} {v : V} {a : Addr} : H a = some (.xd [(f, v)]) → Rp K H [] x v → XD K H [(f, x)] (some a)
/-- a wish by the exception -/
def WE1 (K : PySem.W.Frag) (mg : MG) (W : WX) (O L : List Addr) (H : Hp) (σ : St) (e : Exc) (S : Store) : Prop :=
  ∀ (C : Addr) (dd : Option Addr) (H' : Hp) (L' : List Addr), mg e.cls = some (.ref C) → Ext L H L' H' → Sto K mg H' O L' S → XD K H' e.fs dd → W (.ref C) dd σ H'
def EndG {α : Type} (K : PySem.W.Frag) (mg : MG) (W : WX) (O L : List Addr) (H : Hp) (σ : St) (P : α → Store → List Addr → Hp → Prop) : Res α → Prop
  | .ok a S => ∀ (H' : Hp) (L' : List Addr), Ext L H L' H' → Sto K mg H' O L' S → P a S L' H'
  | .exc e S => WE1 K mg W O L H σ e S
  | .no => False
section
variable {α β : Type} {K : PySem.W.Frag} {mg : MG} {W : WX} {O L L1 : List Addr} {H H1 : Hp} {σ : St}
theorem EndG.later {P : α → Store → List Addr → Hp → Prop} {r : Res α} (e : Ext L H L1 H1) (h : EndG K mg W O L H σ P r) : EndG K mg W O L1 H1 σ P r := by
  cases r with
  | ok a S => exact fun H' L' e' st => h H' L' (e.trans e') st
  | exc x S => exact fun C dd H' L' hm e' st hx => h C dd H' L' hm (e.trans e') st hx
  | no => exact h
theorem EndG.imp {P P' : α → Store → List Addr → Hp → Prop} {r : Res α} (h : EndG K mg W O L H σ P r) (hp : ∀ a S L' H', Ext L H L' H' → Sto K mg H' O L' S → P a S L' H' → P' a S L' H') : EndG K mg W O L H σ P' r := by
  cases r with
  | ok a S => exact fun H' L' e' st => hp _ _ _ _ e' st (h H' L' e' st)
  | exc x S => exact h
  | no => exact h
theorem EndG.bind {P : β → Store → List Addr → Hp → Prop} {r : Res α} {k : α → Store → Res β} (h : EndG K mg W O L H σ P (r.andThen k)) : EndG K mg W O L H σ (fun a S L' H' => EndG K mg W O L' H' σ P (k a S)) r := by
  cases r with
  | ok a S => exact fun H' L' e' st => EndG.later e' h
  | exc x S => exact h
  | no => exact h
end
/-! ### readings -/
/-- the state lies so -/
structure At (K : PySem.W.Frag) (mg : MG) (O L : List Addr) (S : Store) (ρ : Env) (σ : St) (H : Hp) : Prop where
  re : RE K H O L ρ σ
  st : Sto K mg H O L S
def tM (K : PySem.W.Frag) (mg : MG) (W : WX) (f : EM) : TE := fun σ H Q => ∃ (O L : List Addr) (S : Store) (ρ : Env), At K mg O L S ρ σ H ∧ EndG K mg W O L H σ (fun d _ L' H' => ∀ v, RD K H' O L' d v → Q v H') (f ρ S)
def tB (K : PySem.W.Frag) (mg : MG) (W : WX) (f : BM) : TT := fun σ H Q => ∃ (O L : List Addr) (S : Store) (ρ : Env), At K mg O L S ρ σ H ∧ EndG K mg W O L H σ (fun b _ L' H' => Q b H') (f ρ S)
def tA (K : PySem.W.Frag) (mg : MG) (W : WX) (f : AM) : TA := fun σ H Q => ∃ (O L : List Addr) (S : Store) (ρ : Env), At K mg O L S ρ σ H ∧ EndG K mg W O L H σ (fun ds _ L' H' => ∀ vs, RDL K H' O L' ds vs → Q vs H') (f ρ S)
abbrev PM (X : Cx) (W : WX) (e : Expr) (f : EM) : Prop := PE X e (tM X.K X.mg W f)
abbrev PMT (X : Cx) (W : WX) (e : Expr) (f : BM) : Prop := PT X e (tB X.K X.mg W f)
abbrev PMW (X : Cx) (W : WX) (e : Expr) (f : BM) : Prop := PW X e (tB X.K X.mg W f)
abbrev PMA (X : Cx) (W : WX) (es : List Expr) (f : AM) : Prop := PA X es (tA X.K X.mg W f)
section
variable {X : Cx} {e : Expr} {t t' : TE}
theorem PE.imp (h : PE X e t) (q : ∀ σ H Q, t' σ H Q → t σ H Q) : PE X e t' := ⟨fun pins s σ H Q I hw => h.run pins s σ H Q I (q σ H Q hw)⟩
theorem PT.imp {t t' : TT} (h : PT X e t) (q : ∀ σ H Q, t' σ H Q → t σ H Q) : PT X e t' := ⟨fun pins s σ H Q I hw => h.run pins s σ H Q I (q σ H Q hw)⟩
theorem PW.imp {t t' : TT} (h : PW X e t) (q : ∀ σ H Q, t' σ H Q → t σ H Q) : PW X e t' := ⟨fun wh pins s σ H Q I hw => h.run wh pins s σ H Q I (q σ H Q hw)⟩
theorem PA.imp {es : List Expr} {t t' : TA} (h : PA X es t) (q : ∀ σ H Q, t' σ H Q → t σ H Q) : PA X es t' := ⟨fun pos pins s σ H Q I hw => h.run pos pins s σ H Q I (q σ H Q hw)⟩
end
section
variable {K : PySem.W.Frag} {mg : MG} {W : WX} {O L : List Addr} {S : Store} {ρ : Env} {σ : St} {H : Hp}
theorem At.mono {L' : List Addr} {H' : Hp} {S' : Store} (a : At K mg O L S ρ σ H) (e : Ext L H L' H') (st : Sto K mg H' O L' S') : At K mg O L' S' ρ σ H' := ⟨a.re.mono e, st⟩
/-- a part of an expression, and what goes on behind it -/
theorem tM.part {β : Type} {f : EM} {k : D → Store → Res β} {P : β → Store → List Addr → Hp → Prop} {Q : VK} (a : At K mg O L S ρ σ H) (h : EndG K mg W O L H σ P ((f ρ S).andThen k))
    (q : ∀ d v S' L' H', At K mg O L' S' ρ σ H' → Ext L H L' H' → RD K H' O L' d v → EndG K mg W O L' H' σ P (k d S') → Q v H') : tM K mg W f σ H Q :=
  ⟨O, L, S, ρ, a, EndG.imp (EndG.bind h) fun d S' L' H' e st h' v r => q d v S' L' H' (a.mono e st) e r h'⟩
theorem tB.part {β : Type} {f : BM} {k : Bool → Store → Res β} {P : β → Store → List Addr → Hp → Prop} {Q : Bool → Hp → Prop} (a : At K mg O L S ρ σ H) (h : EndG K mg W O L H σ P ((f ρ S).andThen k))
    (q : ∀ d S' L' H', At K mg O L' S' ρ σ H' → Ext L H L' H' → EndG K mg W O L' H' σ P (k d S') → Q d H') : tB K mg W f σ H Q :=
  ⟨O, L, S, ρ, a, EndG.imp (EndG.bind h) fun d S' L' H' e st h' => q d S' L' H' (a.mono e st) e h'⟩
theorem tA.part {β : Type} {f : AM} {k : List D → Store → Res β} {P : β → Store → List Addr → Hp → Prop} {Q : List V → Hp → Prop} (a : At K mg O L S ρ σ H) (h : EndG K mg W O L H σ P ((f ρ S).andThen k))
    (q : ∀ ds vs S' L' H', At K mg O L' S' ρ σ H' → Ext L H L' H' → RDL K H' O L' ds vs → EndG K mg W O L' H' σ P (k ds S') → Q vs H') : tA K mg W f σ H Q :=
  ⟨O, L, S, ρ, a, EndG.imp (EndG.bind h) fun ds S' L' H' e st h' vs r => q ds vs S' L' H' (a.mono e st) e r h'⟩
/-- the end, nothing changed in the store, the heap grown -/
theorem Same.ext {H' : Hp} (s : Same H H') : Ext L H L H' := ⟨fun _ _ h => h, fun _ h => .inl h, fun a o h _ => s a o h⟩
theorem Sto.there (st : Sto K mg H O L S) {a : Addr} (h : a ∈ L) : ∃ (i : Nat) (c : Cell), S[i]? = some c ∧ L[i]? = some a ∧ CellOk K mg H O L a c := by
  obtain ⟨i, hi⟩ := List.mem_iff_getElem?.mp h
  have h1 : i < S.length := by rw [← st.len]; exact (List.getElem?_eq_some_iff.mp hi).1
  exact ⟨i, S[i], List.getElem?_eq_getElem h1, hi, st.cell i _ a (List.getElem?_eq_getElem h1) hi⟩
theorem CellOk.there {a : Addr} {c : Cell} (h : CellOk K mg H O L a c) : ∃ o, H a = some o := by
  cases h with
  | lst h1 _ => exact ⟨_, h1⟩
  | dct h1 _ => exact ⟨_, h1⟩
  | ins _ h1 _ => exact ⟨_, h1⟩
theorem Sto.cellAt (st : Sto K mg H O L S) {a : Addr} (h : a ∈ L) : ∃ o, H a = some o := by
  obtain ⟨i, c, _, _, k⟩ := st.there h
  exact k.there
theorem Sto.same {H' : Hp} (st : Sto K mg H O L S) (s : Same H H') : Sto K mg H' O L S := by
  refine ⟨st.len, st.nd, fun i c a h1 h2 => ?_, fun a h => (st.out a h).imp fun o q => s a o q⟩
  have k := st.cell i c a h1 h2
  obtain ⟨o, ho⟩ := k.there
  exact k.mono (Same.ext s) (by rw [ho]; exact s a o ho)
theorem Sto.fresh (st : Sto K mg H O L S) {p : Addr} (h : H p = none) : p ∉ O ++ L := fun z => by
  rcases List.mem_append.mp z with z | z
  · obtain ⟨o, q⟩ := st.out p z
    rw [h] at q; cases q
  · obtain ⟨o, q⟩ := st.cellAt z
    rw [h] at q; cases q
theorem same_upd {p : Addr} {o : HO} (h : H p = none) : Same H (upd H p o) := fun b x q => by
  rw [upd_ne (ne_of_none q h)]
  exact q
end
end Sky
end
section
/-! Lay3: expressions. -/
namespace Sky
open PySem PySem.Spec PyProof.Rows L2
/-! ### names and constants -/
def mVar (i : Nat) : EM := fun ρ S => match ρ[i]? with
  | some (some d) => .ok d S
  | _ => .no
def mC (x : PyData) : EM := fun _ S => .ok (.d x) S
/-- a list's items -/
def lk (S : Store) : D → Option (List PyData)
  | .d (.list xs) => some xs
  | .r i => match S[i]? with
    | some (.lst xs) => some xs
    | _ => none
  | _ => none
section
variable {X : Cx} {W : WX}
theorem pm_var (i : Nat) {x : Str} {pos : Pos} (hN : X.N[i]? = some x := by rfl) (hv : Vis X.env.scope x := by first | exact Or.inl rfl | exact Or.inr (Or.inl rfl) | exact Or.inr (Or.inr rfl)) (hd : (x == ("__debug__" : Str)) = false := by decide)
    (hcd : (x == ("__classdict__" : Str)) = false := by decide) : PM X W (.Name x pos) (mVar i) :=
  PE.imp (pe_var hN hv hd hcd) fun σ H Q ⟨O, L, S, ρ, a, h⟩ => by
    unfold mVar at h
    cases q : ρ[i]? with
    | none => rw [q] at h; exact h.elim
    | some o =>
      cases o with
      | none => rw [q] at h; exact h.elim
      | some d =>
        rw [q] at h
        obtain ⟨v, h1, h2⟩ := a.re.get q
        exact ⟨v, h1, h H L (Ext.refl L H) a.st v h2⟩
theorem pm_c {e : Expr} {x : PyData} {v : V} (he : PE X e (tC v)) (r : ∀ H B, Rp X.K H B x v) : PM X W e (mC x) :=
  PE.imp he fun σ H Q ⟨O, L, S, ρ, a, h⟩ => h H L (Ext.refl L H) a.st v (.d (r H _))
theorem pm_int {i : Int} {j : Nat} {pos : Pos} : PM X W (.Constant (.int i) j pos) (mC (.int i)) := pm_c pe_int fun _ _ => .int i
theorem pm_bl {i : Bool} {j : Nat} {pos : Pos} : PM X W (.Constant (.bool i) j pos) (mC (.bool i)) := pm_c pe_bl fun _ _ => .bl i
theorem pm_str {i : Str} {j : Nat} {pos : Pos} : PM X W (.Constant (.str i) j pos) (mC (.str i)) := pm_c pe_str fun _ _ => .str i
theorem pm_non {j : Nat} {pos : Pos} : PM X W (.Constant .none j pos) (mC .none) := pm_c pe_non fun _ _ => .non
/-- a number, a text of the module -/
theorem pm_gint {x : Str} {pos : Pos} {i : Int} (hg : Gl X x) (hm : ∃ t, X.mg x = some (.int i t)) (hd : (x == ("__debug__" : Str)) = false := by decide) : PM X W (.Name x pos) (mC (.int i)) := by
  obtain ⟨t, hm⟩ := hm
  exact pm_c (pe_glob hg hm (v := .int i) ⟨t, rfl⟩ hd) fun _ _ => .int i
theorem pm_gstr {x : Str} {pos : Pos} {i : Str} (hg : Gl X x) (hm : ∃ t, X.mg x = some (.str i t)) (hd : (x == ("__debug__" : Str)) = false := by decide) : PM X W (.Name x pos) (mC (.str i)) := by
  obtain ⟨t, hm⟩ := hm
  exact pm_c (pe_glob hg hm (v := .str i) ⟨t, rfl⟩ hd) fun _ _ => .str i
end
/-! ### operators by values -/
def rO (K : PySem.W.Frag) (mg : MG) (g : Store → D → D → Option D) : R2 := fun x y H Q => ∃ (O L : List Addr) (S : Store) (dx dy d : D), Sto K mg H O L S ∧ RD K H O L dx x ∧ RD K H O L dy y ∧ g S dx dy = some d ∧ ∀ v H', Same H H' → RD K H' O L d v → Q v H'
def Res.of {α : Type} (o : Option α) (S : Store) : Res α := match o with
  | some d => .ok d S
  | none => .no
def mOp (g : Store → D → D → Option D) (fa fb : EM) : EM := fun ρ S => (fa ρ S).andThen fun x S1 => (fb ρ S1).andThen fun y S2 => Res.of (g S2 x y) S2
section
variable {X : Cx} {W : WX} {a b c : Expr} {fa fb fc : EM} {pos : Pos}
theorem EndG.of_some {α : Type} {K : PySem.W.Frag} {mg : MG} {O L : List Addr} {S : Store} {σ : St} {H : Hp} {P : α → Store → List Addr → Hp → Prop} {o : Option α} (h : EndG K mg W O L H σ P (Res.of o S)) :
    ∃ d, o = some d ∧ ∀ (H' : Hp) (L' : List Addr), Ext L H L' H' → Sto K mg H' O L' S → P d S L' H' := by
  cases o with
  | none => exact h.elim
  | some d => exact ⟨d, rfl, h⟩
theorem rO.go {g : Store → D → D → Option D} (ha : tM X.K X.mg W (mOp g fa fb) σ H Q) : tOp (rO X.K X.mg g) (tM X.K X.mg W fa) (tM X.K X.mg W fb) σ H Q := by
  obtain ⟨O, L, S, ρ, a, h⟩ := ha
  refine tM.part a h fun dx x S1 L1 H1 a1 e1 r1 h1 => ?_
  refine tM.part a1 h1 fun dy y S2 L2 H2 a2 e2 r2 h2 => ?_
  obtain ⟨d, hd, h3⟩ := EndG.of_some h2
  exact ⟨O, L2, S2, dx, dy, d, a2.st, r1.mono e2, r2, hd, fun v H' sm r => h3 H' L2 (Same.ext sm) (a2.st.same sm) v r⟩
theorem pm_op {op : Operator} {g : Store → D → D → Option D} (ho : OpR X (binaryOp op) (rO X.K X.mg g)) (ha : PM X W a fa) (hb : PM X W b fb) : PM X W (.BinOp a op b pos) (mOp g fa fb) :=
  PE.imp (pe_op ho ha hb) fun σ H Q h => rO.go h
theorem pm_cmp {op : CmpOp} {g : Store → D → D → Option D} (ho : OpR X (compareOp op) (rO X.K X.mg g)) (ha : PM X W a fa) (hb : PM X W b fb) (hm : behindInMarks op b = false := by first | exact nomark _ | rfl) : PM X W (.Compare a [op] [b] pos) (mOp g fa fb) :=
  PE.imp (pe_cmpR ho ha hb hm) fun σ H Q h => rO.go h
/-- a value that must be a truth -/
def asB (f : EM) : BM := fun ρ S => (f ρ S).andThen fun d S1 => match d with
  | .d (.bool k) => .ok k S1
  | _ => .no
theorem asB.go {f : EM} (h : tB X.K X.mg W (asB f) σ H Q) : tM X.K X.mg W f σ H fun x H' => ∃ k, x = .bl k ∧ Q k H' := by
  obtain ⟨O, L, S, ρ, a, h⟩ := h
  refine tM.part a h fun d v S1 L1 H1 a1 e1 r1 h1 => ?_
  cases d with
  | d x =>
    cases x with
    | bool k =>
      cases r1 with
      | d r => cases r; exact ⟨k, rfl, h1 H1 L1 (Ext.refl _ _) a1.st⟩
    | _ => exact h1.elim
  | _ => exact h1.elim
theorem pmt_cmp {op : CmpOp} {g : Store → D → D → Option D} (ho : OpR X (compareOp op) (rO X.K X.mg g)) (ha : PM X W a fa) (hb : PM X W b fb) (hm : behindInMarks op b = false := by first | exact nomark _ | rfl) : PMT X W (.Compare a [op] [b] pos) (asB (mOp g fa fb)) :=
  PT.imp (pt_cmpR ho ha hb hm) fun σ H Q h => by
    have h2 := asB.go h
    exact rO.go h2
/-- an expression that is a truth, as a test -/
theorem pmt_val (ha : PM X W a fa) (he : ∀ whole, isTrue a X.env whole = (do let v ← whole; standAt a.pos; holding [v] (truthy v)) := by intro _; rfl) : PMT X W a (asB fa) :=
  PT.imp (pt_val ha he) fun σ H Q h => asB.go h
/-! ### chains -/
def mChain (g g' : Store → D → D → Option D) (fa fb fc : EM) : EM := fun ρ S => (fa ρ S).andThen fun x S1 => (fb ρ S1).andThen fun y S2 => match g S2 x y with
  | some (.d (.bool true)) => (fc ρ S2).andThen fun z S3 => Res.of (g' S3 y z) S3
  | some (.d (.bool false)) => .ok (.d (.bool false)) S2
  | _ => .no
theorem mChain.go {g g' : Store → D → D → Option D} {σ : St} {H : Hp} {Q : VK} (h : tM X.K X.mg W (mChain g g' fa fb fc) σ H Q) : tChain (rO X.K X.mg g) (rO X.K X.mg g') (tM X.K X.mg W fa) (tM X.K X.mg W fb) (tM X.K X.mg W fc) σ H Q := by
  obtain ⟨O, L, S, ρ, a, h⟩ := h
  refine tM.part a h fun dx x S1 L1 H1 a1 e1 r1 h1 => ?_
  refine tM.part a1 h1 fun dy y S2 L2 H2 a2 e2 r2 h2 => ?_
  cases hg : g S2 dx dy with
  | none => rw [hg] at h2; exact h2.elim
  | some z =>
    rw [hg] at h2
    refine ⟨O, L2, S2, dx, dy, z, a2.st, r1.mono e2, r2, hg, fun v H' sm r => ?_⟩
    cases z with
    | d z =>
      cases z with
      | bool k =>
        cases r with
        | d r =>
          cases r
          refine ⟨k, rfl, ?_⟩
          have a3 := a2.mono (Same.ext sm) (a2.st.same sm)
          cases k with
          | true =>
            refine iteT ?_
            refine tM.part a3 (EndG.later (Same.ext sm) h2) fun dz w' S3 L3 H3 a4 e4 r4 h3 => ?_
            obtain ⟨d, hd, h4⟩ := EndG.of_some h3
            exact ⟨O, L3, S3, dy, dz, d, a4.st, (r2.mono (Same.ext sm)).mono e4, r4, hd, fun v H' sm r => h4 H' L3 (Same.ext sm) (a4.st.same sm) v r⟩
          | false =>
            refine iteF ?_
            exact h2 H' L2 (Same.ext sm) a3.st _ (.d (.bl false))
      | _ => exact h2.elim
    | _ => exact h2.elim
theorem pm_chain {op op' : CmpOp} {g g' : Store → D → D → Option D} (ho : OpR X (compareOp op) (rO X.K X.mg g)) (ho' : OpR X (compareOp op') (rO X.K X.mg g')) (ha : PM X W a fa) (hb : PM X W b fb) (hc : PM X W c fc)
    (hm : lastMarks [op, op'] [b, c] = false := by with_unfolding_all rfl) : PM X W (.Compare a [op, op'] [b, c] pos) (mChain g g' fa fb fc) :=
  PE.imp (pe_chain ho ho' ha hb hc hm) fun σ H Q h => mChain.go h
theorem pmt_chain {op op' : CmpOp} {g g' : Store → D → D → Option D} (ho : OpR X (compareOp op) (rO X.K X.mg g)) (ho' : OpR X (compareOp op') (rO X.K X.mg g')) (ha : PM X W a fa) (hb : PM X W b fb) (hc : PM X W c fc)
    (hm : lastMarks [op, op'] [b, c] = false := by with_unfolding_all rfl) : PMT X W (.Compare a [op, op'] [b, c] pos) (asB (mChain g g' fa fb fc)) :=
  PT.imp (pt_chain ho ho' ha hb hc hm) fun σ H Q h => mChain.go (asB.go h)
/-! ### and, or, not; if else -/
def mAnd (fa fb : EM) : EM := fun ρ S => (fa ρ S).andThen fun x S1 => match x with
  | .d (.bool true) => fb ρ S1
  | .d (.bool false) => .ok (.d (.bool false)) S1
  | _ => .no
def mOr (fa fb : EM) : EM := fun ρ S => (fa ρ S).andThen fun x S1 => match x with
  | .d (.bool false) => fb ρ S1
  | .d (.bool true) => .ok (.d (.bool true)) S1
  | _ => .no
def mNot (fa : EM) : EM := fun ρ S => (fa ρ S).andThen fun x S1 => match x with
  | .d (.bool k) => .ok (.d (.bool (!k))) S1
  | _ => .no
def bAnd (fa fb : BM) : BM := fun ρ S => (fa ρ S).andThen fun c S1 => if c = true then fb ρ S1 else .ok false S1
def bOr (fa fb : BM) : BM := fun ρ S => (fa ρ S).andThen fun c S1 => if c = true then .ok true S1 else fb ρ S1
def bNot (fa : BM) : BM := fun ρ S => (fa ρ S).andThen fun c S1 => .ok (!c) S1
def mIf (fc : BM) (fa fb : EM) : EM := fun ρ S => (fc ρ S).andThen fun c S1 => if c = true then fa ρ S1 else fb ρ S1
variable {rest : List Expr} {ba bb : BM}
theorem pm_one {op : BoolOp} (h : PM X W a fa) : PM X W (.BoolOp op [a] pos) fa := pe_one h
theorem pm_and (ha : PM X W a fa) (hb : PM X W (.BoolOp .And (b :: rest) pos) fb) : PM X W (.BoolOp .And (a :: b :: rest) pos) (mAnd fa fb) :=
  PE.imp (pe_and ha hb) fun σ H Q ⟨O, L, S, ρ, a, h⟩ => by
    refine tM.part a h fun d v S1 L1 H1 a1 e1 r1 h1 => ?_
    cases d with
    | d x =>
      cases x with
      | bool k =>
        cases r1 with
        | d r =>
          cases r
          refine ⟨k, rfl, ?_⟩
          cases k with
          | true => exact iteT ⟨O, L1, S1, ρ, a1, h1⟩
          | false => exact iteF (h1 H1 L1 (Ext.refl _ _) a1.st _ (.d (.bl false)))
      | _ => exact h1.elim
    | _ => exact h1.elim
theorem pm_or (ha : PM X W a fa) (hb : PM X W (.BoolOp .Or (b :: rest) pos) fb) : PM X W (.BoolOp .Or (a :: b :: rest) pos) (mOr fa fb) :=
  PE.imp (pe_or ha hb) fun σ H Q ⟨O, L, S, ρ, a, h⟩ => by
    refine tM.part a h fun d v S1 L1 H1 a1 e1 r1 h1 => ?_
    cases d with
    | d x =>
      cases x with
      | bool k =>
        cases r1 with
        | d r =>
          cases r
          refine ⟨k, rfl, ?_⟩
          cases k with
          | false => exact iteF ⟨O, L1, S1, ρ, a1, h1⟩
          | true => exact iteT (h1 H1 L1 (Ext.refl _ _) a1.st _ (.d (.bl true)))
      | _ => exact h1.elim
    | _ => exact h1.elim
theorem pm_not (ha : PM X W a fa) : PM X W (.UnaryOp .Not a pos) (mNot fa) :=
  PE.imp (pe_not ha) fun σ H Q ⟨O, L, S, ρ, a, h⟩ => by
    refine tM.part a h fun d v S1 L1 H1 a1 e1 r1 h1 => ?_
    cases d with
    | d x =>
      cases x with
      | bool k =>
        cases r1 with
        | d r =>
          cases r
          exact ⟨k, rfl, h1 H1 L1 (Ext.refl _ _) a1.st _ (.d (.bl _))⟩
      | _ => exact h1.elim
    | _ => exact h1.elim
theorem pmw_and1 (ha : PMT X W a ba) : PMW X W (.BoolOp .And [a] pos) ba := pw_and1 ha
theorem pmw_or1 (ha : PMT X W a ba) : PMW X W (.BoolOp .Or [a] pos) ba := pw_or1 ha
theorem pmw_and (ha : PMT X W a ba) (hb : PMW X W (.BoolOp .And (b :: rest) pos) bb) : PMW X W (.BoolOp .And (a :: b :: rest) pos) (bAnd ba bb) :=
  PW.imp (pw_and ha hb) fun σ H Q ⟨O, L, S, ρ, a, h⟩ => by
    refine tB.part a h fun c S1 L1 H1 a1 e1 h1 => ?_
    cases c with
    | true => exact iteT ⟨O, L1, S1, ρ, a1, h1⟩
    | false => exact iteF (h1 H1 L1 (Ext.refl _ _) a1.st)
theorem pmw_or (ha : PMT X W a ba) (hb : PMW X W (.BoolOp .Or (b :: rest) pos) bb) : PMW X W (.BoolOp .Or (a :: b :: rest) pos) (bOr ba bb) :=
  PW.imp (pw_or ha hb) fun σ H Q ⟨O, L, S, ρ, a, h⟩ => by
    refine tB.part a h fun c S1 L1 H1 a1 e1 h1 => ?_
    cases c with
    | false => exact iteF ⟨O, L1, S1, ρ, a1, h1⟩
    | true => exact iteT (h1 H1 L1 (Ext.refl _ _) a1.st)
theorem pmt_bo {op : BoolOp} {vs : List Expr} (h : PMW X W (.BoolOp op vs pos) ba) : PMT X W (.BoolOp op vs pos) ba := h.pt
theorem pmt_not (ha : PMT X W a ba) : PMT X W (.UnaryOp .Not a pos) (bNot ba) :=
  PT.imp (pt_not ha) fun σ H Q ⟨O, L, S, ρ, a, h⟩ => tB.part a h fun c S1 L1 H1 a1 e1 h1 => h1 H1 L1 (Ext.refl _ _) a1.st
theorem pm_if (hc : PMT X W c ba) (ha : PM X W a fa) (hb : PM X W b fb) : PM X W (.IfExp c a b pos) (mIf ba fa fb) :=
  PE.imp (pe_ifExp hc ha hb) fun σ H Q ⟨O, L, S, ρ, a, h⟩ => by
    refine tB.part a h fun c S1 L1 H1 a1 e1 h1 => ?_
    cases c with
    | true => exact iteT ⟨O, L1, S1, ρ, a1, h1⟩
    | false => exact iteF ⟨O, L1, S1, ρ, a1, h1⟩
/-! ### argument lists, displays -/
def aNil : AM := fun _ S => .ok [] S
def aCons (fa : EM) (fr : AM) : AM := fun ρ S => (fa ρ S).andThen fun x S1 => (fr ρ S1).andThen fun xs S2 => .ok (x :: xs) S2
variable {es : List Expr} {fs : AM}
theorem pma_nil : PMA X W [] aNil := PA.imp pa_nil fun σ H Q ⟨O, L, S, ρ, a, h⟩ => h H L (Ext.refl _ _) a.st [] .nil
theorem pma_cons (ha : PM X W a fa) (hr : PMA X W es fs) (hs : starEach (a :: es) X.env = (false, eval a X.env) :: starEach es X.env := by rfl) : PMA X W (a :: es) (aCons fa fs) :=
  PA.imp (pa_cons ha hr hs) fun σ H Q ⟨O, L, S, ρ, a, h⟩ => by
    refine tM.part a h fun d v S1 L1 H1 a1 e1 r1 h1 => ?_
    refine tA.part a1 h1 fun ds vs S2 L2 H2 a2 e2 r2 h2 => ?_
    exact h2 H2 L2 (Ext.refl _ _) a2.st _ (.cons (r1.mono e2) r2)
/-- all plain -/
def allD : List D → Option (List PyData)
  | [] => some []
  | .d x :: r => (allD r).map (x :: ·)
  | _ => none
theorem allD_rp {K : PySem.W.Frag} {H : Hp} {O L : List Addr} : ∀ {ds : List D} {vs : List V} {xs : List PyData}, RDL K H O L ds vs → allD ds = some xs → RpL K H (O ++ L) xs vs
  | _, _, _, .nil, h => by cases h; exact .nil
  | _, _, xs, .cons (d := .d x) r t, h => by
    cases q : allD _ with
    | none => rw [allD, q] at h; cases h
    | some ys =>
      rw [allD, q] at h
      cases h
      cases r with
      | d r => exact .cons r (allD_rp t q)
  | _, _, _, .cons (d := .r _) _ _, h => by cases h
  | _, _, _, .cons (d := .s _) _ _, h => by cases h
theorem RpL.length {K : PySem.W.Frag} {H : Hp} {B : List Addr} : ∀ {ds : List PyData} {vs : List V}, RpL K H B ds vs → ds.length = vs.length
  | _, _, .nil => rfl
  | _, _, .cons _ t => by rw [List.length_cons, List.length_cons, RpL.length t]
theorem RDL.length {K : PySem.W.Frag} {H : Hp} {O L : List Addr} : ∀ {ds : List D} {vs : List V}, RDL K H O L ds vs → ds.length = vs.length
  | _, _, .nil => rfl
  | _, _, .cons _ t => by rw [List.length_cons, List.length_cons, RDL.length t]
theorem RpL.get {K : PySem.W.Frag} {H : Hp} {B : List Addr} : ∀ {ds : List PyData} {vs : List V} {i : Nat} {d : PyData}, RpL K H B ds vs → ds[i]? = some d → ∃ v, vs[i]? = some v ∧ Rp K H B d v
  | _, _, _, _, .nil, h => by simp at h
  | _, _, 0, _, .cons r t, h => by simp at h; subst h; exact ⟨_, rfl, r⟩
  | _, _, i + 1, _, .cons r t, h => by
    obtain ⟨v, h1, h2⟩ := RpL.get (i := i) t (by simpa using h)
    exact ⟨v, by simpa using h1, h2⟩
theorem RpL.append {K : PySem.W.Frag} {H : Hp} {B : List Addr} : ∀ {ds es : List PyData} {vs ws : List V}, RpL K H B ds vs → RpL K H B es ws → RpL K H B (ds ++ es) (vs ++ ws)
  | _, _, _, _, .nil, h => h
  | _, _, _, _, .cons r t, h => .cons r (RpL.append t h)
theorem RpL.take {K : PySem.W.Frag} {H : Hp} {B : List Addr} : ∀ {ds : List PyData} {vs : List V} (n : Nat), RpL K H B ds vs → RpL K H B (ds.take n) (vs.take n)
  | _, _, 0, _ => .nil
  | _, _, _ + 1, .nil => .nil
  | _, _, n + 1, .cons r t => .cons r (RpL.take n t)
theorem RpL.drop {K : PySem.W.Frag} {H : Hp} {B : List Addr} : ∀ {ds : List PyData} {vs : List V} (n : Nat), RpL K H B ds vs → RpL K H B (ds.drop n) (vs.drop n)
  | _, _, 0, h => h
  | _, _, _ + 1, .nil => .nil
  | _, _, n + 1, .cons _ t => RpL.drop n t
theorem RpL.set {K : PySem.W.Frag} {H : Hp} {B : List Addr} {d : PyData} {v : V} (r : Rp K H B d v) : ∀ {ds : List PyData} {vs : List V} (i : Nat), RpL K H B ds vs → RpL K H B (ds.set i d) (vs.set i v)
  | _, _, _, .nil => .nil
  | _, _, 0, .cons _ t => .cons r t
  | _, _, i + 1, .cons q t => .cons q (RpL.set r i t)
theorem RpL.reverse {K : PySem.W.Frag} {H : Hp} {B : List Addr} : ∀ {ds : List PyData} {vs : List V}, RpL K H B ds vs → RpL K H B ds.reverse vs.reverse
  | _, _, .nil => .nil
  | _, _, .cons r t => by
    rw [List.reverse_cons, List.reverse_cons]
    exact RpL.append (RpL.reverse t) (.cons r .nil)
/-- (a, b, ..) -/
def mTup (f : AM) : EM := fun ρ S => (f ρ S).andThen fun ds S1 => match allD ds with
  | some xs => if xs.length ≤ sizeLine then .ok (.d (.tuple xs)) S1 else .no
  | none => .no
/-- [a, b, ..], not to be written -/
def mLst (f : AM) : EM := fun ρ S => (f ρ S).andThen fun ds S1 => match allD ds with
  | some xs => if xs.length ≤ sizeLine then .ok (.d (.list xs)) S1 else .no
  | none => .no
/-- [a, b, ..], a cell -/
def mLstC (f : AM) : EM := fun ρ S => (f ρ S).andThen fun ds S1 => match allD ds with
  | some xs => if xs.length ≤ sizeLine then .ok (.r S1.length) (S1 ++ [.lst xs]) else .no
  | none => .no
theorem ite_of {c : Prop} [Decidable c] {α : Type} {K : PySem.W.Frag} {mg : MG} {O L : List Addr} {σ : St} {H : Hp} {P : α → Store → List Addr → Hp → Prop} {r : Res α} (h : EndG K mg W O L H σ P (if c then r else .no)) : c ∧ EndG K mg W O L H σ P r := by
  by_cases hc : c
  · rw [if_pos hc] at h; exact ⟨hc, h⟩
  · rw [if_neg hc] at h; exact h.elim
theorem pm_tup {x1 : Nat} (h : PMA X W es fs) : PM X W (.Tuple es x1 pos) (mTup fs) :=
  PE.imp (pe_tup h) fun σ H Q ⟨O, L, S, ρ, a, h⟩ => by
    refine tA.part a h fun ds vs S1 L1 H1 a1 e1 r1 h1 => ?_
    cases q : allD ds with
    | none => rw [q] at h1; exact h1.elim
    | some xs =>
      rw [q] at h1
      obtain ⟨hz, h1⟩ := ite_of h1
      have rp := allD_rp r1 q
      refine ⟨by rw [← rp.length]; exact hz, fun p hp => ?_⟩
      have sm := same_upd (o := .tup vs) hp
      exact h1 _ L1 (Same.ext sm) (a1.st.same sm) _ (.d (.tup (.inl upd_same) (a1.st.fresh hp) (RpL.mono (Ext.kp (Same.ext sm)) _ _ rp)))
theorem pm_lst (h : PMA X W es fs) : PM X W (.List es pos) (mLst fs) :=
  PE.imp (pe_lst h) fun σ H Q ⟨O, L, S, ρ, a, h⟩ => by
    refine tA.part a h fun ds vs S1 L1 H1 a1 e1 r1 h1 => ?_
    cases q : allD ds with
    | none => rw [q] at h1; exact h1.elim
    | some xs =>
      rw [q] at h1
      obtain ⟨hz, h1⟩ := ite_of h1
      have rp := allD_rp r1 q
      refine ⟨by rw [← rp.length]; exact hz, fun p hp => ?_⟩
      have sm := same_upd (o := .lst vs) hp
      exact h1 _ L1 (Same.ext sm) (a1.st.same sm) _ (.d (.lst upd_same (a1.st.fresh hp) (RpL.mono (Ext.kp (Same.ext sm)) _ _ rp)))
/-- a new cell -/
theorem Ext.push {L : List Addr} {H : Hp} {p : Addr} {o : HO} (hp : H p = none) : Ext L H (L ++ [p]) (upd H p o) where
  pre := fun i a h => by
    rw [List.getElem?_append_left (List.getElem?_eq_some_iff.mp h).1]
    exact h
  new := fun a h => by
    rcases List.mem_append.mp h with h | h
    · exact .inl h
    · rw [List.mem_singleton.mp h]; exact .inr hp
  keep := fun a u h _ => same_upd hp a u h
theorem Sto.push {K : PySem.W.Frag} {mg : MG} {O L : List Addr} {S : Store} {H : Hp} {p : Addr} {o : HO} {c : Cell} (st : Sto K mg H O L S) (hp : H p = none) (k : CellOk K mg (upd H p o) O (L ++ [p]) p c) : Sto K mg (upd H p o) O (L ++ [p]) (S ++ [c]) where
  len := by rw [List.length_append, List.length_append, st.len]; rfl
  nd := by
    refine List.nodup_append.mpr ⟨st.nd, by simp, fun a h b h' => ?_⟩
    rw [List.mem_singleton.mp h']
    rintro rfl
    exact st.fresh hp (List.mem_append_right _ h)
  cell := fun i c' a h1 h2 => by
    by_cases hi : i < S.length
    · rw [List.getElem?_append_left hi] at h1
      rw [List.getElem?_append_left (by rw [st.len]; exact hi)] at h2
      have k' := st.cell i c' a h1 h2
      obtain ⟨u, hu⟩ := k'.there
      exact k'.mono (Ext.push hp) (by rw [hu]; exact same_upd hp a u hu)
    · have e1 : i = S.length := by
        have := (List.getElem?_eq_some_iff.mp h1).1
        rw [List.length_append, List.length_singleton] at this
        omega
      subst e1
      rw [List.getElem?_append_right (Nat.le_refl _), Nat.sub_self] at h1
      rw [← st.len, List.getElem?_append_right (Nat.le_refl _), Nat.sub_self] at h2
      cases h1
      cases h2
      exact k
  out := fun a h => (st.out a h).imp fun u q => same_upd hp a u q
theorem RD.last {K : PySem.W.Frag} {mg : MG} {O L : List Addr} {S : Store} {H H' : Hp} {p : Addr} (st : Sto K mg H O L S) : RD K H' O (L ++ [p]) (.r S.length) (.ref p) := .r (by
  rw [← st.len, List.getElem?_append_right (Nat.le_refl _), Nat.sub_self]
  rfl)
theorem pm_lstC (h : PMA X W es fs) : PM X W (.List es pos) (mLstC fs) :=
  PE.imp (pe_lst h) fun σ H Q ⟨O, L, S, ρ, a, h⟩ => by
    refine tA.part a h fun ds vs S1 L1 H1 a1 e1 r1 h1 => ?_
    cases q : allD ds with
    | none => rw [q] at h1; exact h1.elim
    | some xs =>
      rw [q] at h1
      obtain ⟨hz, h1⟩ := ite_of h1
      have rp := allD_rp r1 q
      refine ⟨by rw [← rp.length]; exact hz, fun p hp => ?_⟩
      exact h1 _ _ (Ext.push hp) (a1.st.push hp (.lst upd_same (RpL.mono (Ext.kp (Ext.push hp)) _ _ rp))) _ (RD.last a1.st)
end
end Sky
end
section
/-! Lay4: operators on data, subscripts, slices. -/
namespace Sky
open PySem PySem.Spec PyProof.Rows L2
section
variable {K : PySem.W.Frag} {mg : MG} {H : Hp} {O L : List Addr} {S : Store}
theorem lk_at {d : D} {v : V} {xs : List PyData} (st : Sto K mg H O L S) (r : RD K H O L d v) (h : lk S d = some xs) : ∃ a vs, v = .ref a ∧ H a = some (.lst vs) ∧ RpL K H (O ++ L) xs vs := by
  cases r with
  | @d x _ r =>
    cases x with
    | list ys =>
      cases h
      cases r with
      | lst h1 h2 h3 => exact ⟨_, _, rfl, h1, h3⟩
    | _ => cases h
  | @r i a hi =>
    replace h : (match S[i]? with | some (.lst xs) => some xs | _ => none) = some xs := h
    cases q : S[i]? with
    | none => rw [q] at h; cases h
    | some c =>
      rw [q] at h
      cases c with
      | lst ys =>
        cases h
        cases st.cell i _ a q hi with
        | lst h1 h2 => exact ⟨_, _, rfl, h1, h2⟩
      | _ => cases h
  | s _ => cases h
/-- the result is a new object of plain data -/
theorem new_tup {xs : List PyData} {vs : List V} {p : Addr} (st : Sto K mg H O L S) (hp : H p = none) (r : RpL K H (O ++ L) xs vs) : RD K (upd H p (.tup vs)) O L (.d (.tuple xs)) (.ref p) :=
  .d (.tup (.inl upd_same) (st.fresh hp) (RpL.mono (Ext.kp (Same.ext (same_upd hp))) _ _ r))
theorem new_lst {xs : List PyData} {vs : List V} {p : Addr} (st : Sto K mg H O L S) (hp : H p = none) (r : RpL K H (O ++ L) xs vs) : RD K (upd H p (.lst vs)) O L (.d (.list xs)) (.ref p) :=
  .d (.lst upd_same (st.fresh hp) (RpL.mono (Ext.kp (Same.ext (same_upd hp))) _ _ r))
end
/-! ### + - * // % ** -/
def gAdd (S : Store) (x y : D) : Option D := match x, y with
  | .d (.int i), .d (.int j) => some (.d (.int (i + j)))
  | .d (.str i), .d (.str j) => if i.length + j.length ≤ sizeLine then some (.d (.str (i ++ j))) else none
  | .d (.tuple xs), .d (.tuple ys) => if xs.length + ys.length ≤ sizeLine then some (.d (.tuple (xs ++ ys))) else none
  | x, y => match lk S x, lk S y with
    | some xs, some ys => if xs.length + ys.length ≤ sizeLine then some (.d (.list (xs ++ ys))) else none
    | _, _ => none
def gSub (_ : Store) (x y : D) : Option D := match x, y with
  | .d (.int i), .d (.int j) => some (.d (.int (i - j)))
  | _, _ => none
def gMul (_ : Store) (x y : D) : Option D := match x, y with
  | .d (.int i), .d (.int j) => if (-(2 ^ 64) < i ∧ i < 2 ^ 64) ∨ (-(2 ^ 64) < j ∧ j < 2 ^ 64) then some (.d (.int (i * j))) else none
  | .d (.tuple xs), .d (.int k) => if xs ≠ [] ∧ 2 ≤ k ∧ k ≤ 1000 ∧ xs.length ≤ 1000 then some (.d (.tuple (List.replicate k.toNat xs).flatten)) else none
  | _, _ => none
def gDiv (_ : Store) (x y : D) : Option D := match x, y with
  | .d (.int i), .d (.int j) => if 0 < j ∧ j < 1073741824 then some (.d (.int (i / j))) else none
  | _, _ => none
def gMod (_ : Store) (x y : D) : Option D := match x, y with
  | .d (.int i), .d (.int j) => if 0 < j then some (.d (.int (i % j))) else none
  | _, _ => none
def gPow (_ : Store) (x y : D) : Option D := match x, y with
  | .d (.int i), .d (.int j) => if 0 ≤ j ∧ j ≤ 1000000 ∧ i.natAbs < 2 ^ 64 then some (.d (.int (i ^ j.toNat))) else none
  | _, _ => none
theorem some_of_ite {α : Type} {c : Prop} [Decidable c] {a b : α} (h : (if c then some a else none) = some b) : c ∧ a = b := by
  by_cases hc : c
  · rw [if_pos hc] at h; exact ⟨hc, Option.some.inj h⟩
  · rw [if_neg hc] at h; cases h
/-- two ints in -/
theorem ii {K : PySem.W.Frag} {H : Hp} {O L : List Addr} {i : Int} {v : V} (r : RD K H O L (.d (.int i)) v) : v = .int i := by
  cases r with | d r => cases r; rfl
theorem ss {K : PySem.W.Frag} {H : Hp} {O L : List Addr} {i : Str} {v : V} (r : RD K H O L (.d (.str i)) v) : v = .str i := by
  cases r with | d r => cases r; rfl
theorem bb {K : PySem.W.Frag} {H : Hp} {O L : List Addr} {i : Bool} {v : V} (r : RD K H O L (.d (.bool i)) v) : v = .bl i := by
  cases r with | d r => cases r; rfl
theorem tt {K : PySem.W.Frag} {H : Hp} {O L : List Addr} {xs : List PyData} {v : V} (r : RD K H O L (.d (.tuple xs)) v) : ∃ a vs, v = .ref a ∧ SqT K H a vs ∧ a ∉ O ++ L ∧ RpL K H (O ++ L) xs vs ∧ Rp K H (O ++ L) (.tuple xs) (.ref a) := by
  cases r with
  | d r =>
    have r' := r
    cases r with
    | tup h1 h2 h3 => exact ⟨_, _, rfl, .inl h1, h2, h3, r'⟩
section
variable {X : Cx}
theorem o_add : OpR X (binaryOp .Add) (rO X.K X.mg gAdd) := by
  intro pins s σ H x y v u Q I rx ry ⟨O, L, S, dx, dy, d, st, r1, r2, hg, q⟩
  have lists : ∀ {xs ys : List PyData}, lk S dx = some xs → lk S dy = some ys → (if xs.length + ys.length ≤ sizeLine then some (D.d (.list (xs ++ ys))) else none) = some d → wpAny (model X.prog X.w) X.A (binaryOp .Add v u) (EP X pins σ Q) X.xe s := fun {xs ys} h1 h2 h3 => by
    obtain ⟨hz, rfl⟩ := some_of_ite h3
    obtain ⟨a, vs, rfl, ha, ra⟩ := lk_at st r1 h1
    obtain ⟨b, ws, rfl, hb, rb⟩ := lk_at st r2 h2
    refine op_cat pins s σ H _ _ v u Q I rx ry ⟨a, b, vs, ws, rfl, rfl, ha, hb, by rw [← ra.length, ← rb.length]; exact hz, fun p hp => ?_⟩
    exact q _ _ (same_upd hp) (new_lst st hp (ra.append rb))
  have go : ∀ {r : Option D}, r = some d → (r = (match lk S dx, lk S dy with
    | some xs, some ys => if xs.length + ys.length ≤ sizeLine then some (.d (.list (xs ++ ys))) else none
    | _, _ => none)) → wpAny (model X.prog X.w) X.A (binaryOp .Add v u) (EP X pins σ Q) X.xe s := fun {r} h1 h2 => by
    rw [h1] at h2
    cases e1 : lk S dx with
    | none => rw [e1] at h2; cases h2
    | some xs =>
      cases e2 : lk S dy with
      | none => rw [e1, e2] at h2; cases h2
      | some ys =>
        rw [e1, e2] at h2
        exact lists e1 e2 h2.symm
  unfold gAdd at hg
  split at hg
  · cases hg
    obtain rfl := ii r1
    obtain rfl := ii r2
    exact op_add pins s σ H _ _ v u Q I rx ry ⟨_, _, rfl, rfl, q _ H (Same.refl H) (.d (.int _))⟩
  · obtain ⟨hz, rfl⟩ := some_of_ite hg
    obtain rfl := ss r1
    obtain rfl := ss r2
    exact op_add_str pins s σ H _ _ v u Q I rx ry ⟨_, _, rfl, rfl, hz, q _ H (Same.refl H) (.d (.str _))⟩
  · obtain ⟨hz, rfl⟩ := some_of_ite hg
    obtain ⟨a, vs, rfl, ha, na, ra, wa⟩ := tt r1
    obtain ⟨b, ws, rfl, hb, nb, rb, wb⟩ := tt r2
    refine op_catA pins s σ H _ _ v u Q I rx ry ⟨a, b, vs, ws, rfl, rfl, ha, hb, by rw [← ra.length, ← rb.length]; exact hz, fun e => ?_, fun _ e => ?_, fun _ _ p hp => ?_⟩
    · subst e
      cases ra
      exact q _ H (Same.refl H) (.d wb)
    · subst e
      cases rb
      rw [List.append_nil] at q
      exact q _ H (Same.refl H) (.d wa)
    · exact q _ _ (same_upd hp) (new_tup st hp (ra.append rb))
  · exact go hg rfl
theorem o_sub : OpR X (binaryOp .Sub) (rO X.K X.mg gSub) := by
  intro pins s σ H x y v u Q I rx ry ⟨O, L, S, dx, dy, d, st, r1, r2, hg, q⟩
  unfold gSub at hg
  split at hg
  · cases hg
    obtain rfl := ii r1
    obtain rfl := ii r2
    exact op_sub pins s σ H _ _ v u Q I rx ry ⟨_, _, rfl, rfl, q _ H (Same.refl H) (.d (.int _))⟩
  · cases hg
theorem rpl_rep {K : PySem.W.Frag} {H : Hp} {B : List Addr} {ds : List PyData} {vs : List V} (h : RpL K H B ds vs) : ∀ n : Nat, RpL K H B (List.replicate n ds).flatten (List.replicate n vs).flatten
  | 0 => .nil
  | n + 1 => by
    rw [List.replicate_succ, List.replicate_succ, List.flatten_cons, List.flatten_cons]
    exact h.append (rpl_rep h n)
theorem o_mul : OpR X (binaryOp .Mult) (rO X.K X.mg gMul) := by
  intro pins s σ H x y v u Q I rx ry ⟨O, L, S, dx, dy, d, st, r1, r2, hg, q⟩
  unfold gMul at hg
  split at hg
  · obtain ⟨hz, rfl⟩ := some_of_ite hg
    obtain rfl := ii r1
    obtain rfl := ii r2
    exact op_mul pins s σ H _ _ v u Q I rx ry ⟨_, _, rfl, rfl, hz, q _ H (Same.refl H) (.d (.int _))⟩
  · obtain ⟨⟨h1, h2, h3, h4⟩, rfl⟩ := some_of_ite hg
    obtain ⟨a, vs, rfl, ha, na, ra, wa⟩ := tt r1
    obtain rfl := ii r2
    refine op_repT pins s σ H _ _ v u Q I rx ry ⟨a, _, vs, rfl, rfl, ha, ?_, h2, h3, by rw [← ra.length]; exact h4, fun p hp => q _ _ (same_upd hp) (new_tup st hp (rpl_rep ra _))⟩
    rintro rfl
    cases ra
    exact h1 rfl
  · cases hg
theorem o_div : OpR X (binaryOp .FloorDiv) (rO X.K X.mg gDiv) := by
  intro pins s σ H x y v u Q I rx ry ⟨O, L, S, dx, dy, d, st, r1, r2, hg, q⟩
  unfold gDiv at hg
  split at hg
  · obtain ⟨hz, rfl⟩ := some_of_ite hg
    obtain rfl := ii r1
    obtain rfl := ii r2
    exact op_fdiv pins s σ H _ _ v u Q I rx ry ⟨_, _, rfl, rfl, hz, q _ H (Same.refl H) (.d (.int _))⟩
  · cases hg
theorem o_mod : OpR X (binaryOp .Mod) (rO X.K X.mg gMod) := by
  intro pins s σ H x y v u Q I rx ry ⟨O, L, S, dx, dy, d, st, r1, r2, hg, q⟩
  unfold gMod at hg
  split at hg
  · obtain ⟨hz, rfl⟩ := some_of_ite hg
    obtain rfl := ii r1
    obtain rfl := ii r2
    exact op_mod pins s σ H _ _ v u Q I rx ry ⟨_, _, rfl, rfl, hz, q _ H (Same.refl H) (.d (.int _))⟩
  · cases hg
theorem o_pow : OpR X (binaryOp .Pow) (rO X.K X.mg gPow) := by
  intro pins s σ H x y v u Q I rx ry ⟨O, L, S, dx, dy, d, st, r1, r2, hg, q⟩
  unfold gPow at hg
  split at hg
  · obtain ⟨hz, rfl⟩ := some_of_ite hg
    obtain rfl := ii r1
    obtain rfl := ii r2
    exact op_pow pins s σ H _ _ v u Q I rx ry ⟨_, _, rfl, rfl, hz, q _ H (Same.refl H) (.d (.int _))⟩
  · cases hg
end
/-! ### -a -/
def mNeg (fa : EM) : EM := fun ρ S => (fa ρ S).andThen fun x S1 => match x with
  | .d (.int i) => .ok (.d (.int (-i))) S1
  | _ => .no
theorem pm_neg {X : Cx} {W : WX} {a : Expr} {fa : EM} {pos : Pos} (ha : PM X W a fa) : PM X W (.UnaryOp .USub a pos) (mNeg fa) :=
  PE.imp (pe_un un_neg ha) fun σ H Q ⟨O, L, S, ρ, a, h⟩ => by
    refine tM.part a h fun d v S1 L1 H1 a1 e1 r1 h1 => ?_
    split at h1
    · obtain rfl := ii r1
      exact ⟨_, rfl, h1 H1 L1 (Ext.refl _ _) a1.st _ (.d (.int _))⟩
    · exact h1.elim
/-! ### comparisons -/
/-- the value that stands there, as data -/
def rf (S : Store) : D → Option PyData
  | .d x => some x
  | .r i => match S[i]? with
    | some (.lst xs) => some (.list xs)
    | some (.dct kvs) => some (.dict (kvs.map fun kv => (keyD kv.1, kv.2)))
    | _ => none
  | .s _ => none
/-- no dict within, at most n deep -/
def dp : Nat → PyData → Bool
  | _, .none => true
  | _, .bool _ => true
  | _, .int _ => true
  | _, .str _ => true
  | n + 1, .list xs => xs.all (dp n)
  | n + 1, .tuple xs => xs.all (dp n)
  | _, _ => false
mutual
theorem dp_plain : ∀ (d : PyData) (n : Nat), dp n d = true → d.plain = true ∧ d.depth ≤ n
  | .none, n, _ => ⟨rfl, Nat.zero_le _⟩
  | .bool _, n, _ => ⟨rfl, Nat.zero_le _⟩
  | .int _, n, _ => ⟨rfl, Nat.zero_le _⟩
  | .str _, n, _ => ⟨rfl, Nat.zero_le _⟩
  | .list xs, 0, h => by cases h
  | .list xs, n + 1, h => by
    have := dp_plainAll xs n h
    exact ⟨by rw [PyData.plain]; exact this.1, by rw [PyData.depth]; omega⟩
  | .tuple xs, 0, h => by cases h
  | .tuple xs, n + 1, h => by
    have := dp_plainAll xs n h
    exact ⟨by rw [PyData.plain]; exact this.1, by rw [PyData.depth]; omega⟩
  | .dict _, 0, h => by cases h
  | .dict _, _ + 1, h => by cases h
theorem dp_plainAll : ∀ (xs : List PyData) (n : Nat), xs.all (dp n) = true → PyData.plainAll xs = true ∧ PyData.depthAll xs ≤ n
  | [], n, _ => ⟨rfl, Nat.zero_le _⟩
  | x :: xs, n, h => by
    rw [List.all_cons, Bool.and_eq_true] at h
    have h1 := dp_plain x n h.1
    have h2 := dp_plainAll xs n h.2
    exact ⟨by rw [PyData.plainAll, h1.1, h2.1]; rfl, by rw [PyData.depthAll]; exact Nat.max_le.mpr ⟨h1.2, h2.2⟩⟩
end
end Sky
end
section
/-! Lay5: comparisons, subscripts, slices. -/
namespace Sky
open PySem PySem.Spec PyProof.Rows L2
/-! ### what is read as data -/
mutual
theorem Rp.dp {K : PySem.W.Frag} {H : Hp} {B : List Addr} : ∀ (d : PyData) (v : V), d.plain = true → Rp K H B d v → Dp K H v d
  | .none, _, _, h => by cases h; exact .non
  | .bool b, _, _, h => by cases h; exact .bl b
  | .int i, _, _, h => by cases h; exact .int i
  | .str x, _, _, h => by cases h; exact .str x
  | .tuple ds, _, p, h => by
    cases h with
    | tup h1 h2 h3 => exact .tup (.inl h1) (RpL.dp ds _ p h3)
  | .list ds, _, p, h => by
    cases h with
    | lst h1 h2 h3 => exact .lst (.inl (.inl h1)) (RpL.dp ds _ p h3)
  | .dict ds, _, p, _ => by cases p
theorem RpL.dp {K : PySem.W.Frag} {H : Hp} {B : List Addr} : ∀ (ds : List PyData) (vs : List V), PyData.plainAll ds = true → RpL K H B ds vs → DpAll K H vs ds
  | [], _, _, h => by cases h; exact .nil
  | d :: ds, _, p, h => by
    rw [PyData.plainAll, Bool.and_eq_true] at p
    cases h with
    | cons h1 h2 => exact .cons (Rp.dp d _ p.1 h1) (RpL.dp ds _ p.2 h2)
end
section
variable {K : PySem.W.Frag} {mg : MG} {H : Hp} {O L : List Addr} {S : Store}
theorem rp_free {B : List Addr} {d : PyData} {v : V} (h : Rp K H B d v) : Rp K H [] d v := Rp.mono (fun a o e _ => ⟨by simp, e⟩) _ _ h
theorem rpl_free {B : List Addr} {d : List PyData} {v : List V} (h : RpL K H B d v) : RpL K H [] d v := RpL.mono (fun a o e _ => ⟨by simp, e⟩) _ _ h
theorem rq_k {B : List Addr} : ∀ {ds : List (Key × PyData)} {vs : List (Key × V)}, RQ K H B ds vs → RpK K H [] (ds.map fun kv => (keyD kv.1, kv.2)) vs
  | _, _, .nil => .nil
  | _, _, .cons r t => .cons (rp_free r) (rq_k t)
theorem rf_rp {d : D} {v : V} {x : PyData} (st : Sto K mg H O L S) (r : RD K H O L d v) (h : rf S d = some x) : Rp K H [] x v := by
  cases r with
  | d r => cases h; exact rp_free r
  | @r i a hi =>
    replace h : (match S[i]? with | some (.lst xs) => some (.list xs) | some (.dct kvs) => some (.dict (kvs.map fun kv => (keyD kv.1, kv.2))) | _ => none) = some x := h
    cases q : S[i]? with
    | none => rw [q] at h; cases h
    | some c =>
      rw [q] at h
      have k := st.cell i c a q hi
      cases c with
      | lst ys =>
        cases h
        cases k with
        | lst h1 h2 => exact .lst h1 (by simp) (rpl_free h2)
      | dct kvs =>
        cases h
        cases k with
        | dct h1 h2 => exact .dct h1 (by simp) (rq_k h2)
      | ins _ _ => cases h
  | s _ => cases h
end
theorem reads_of {X : Cx} {pins : List (Addr × Obj)} {σ : St} {H : Hp} {s : Shared} {B : List Addr} {x : PyData} {v : V} {u : Value} (I : Inv X pins σ H s) (p : x.plain = true) (r : Rp X.K H B x v) (ru : RelV v u) : ∃ as, Reads s.heap u x as :=
  Dp.reads I x v u (Rp.dp x v p r) ru
/-! ### == and != -/
def gEq (S : Store) (x y : D) : Option D := match rf S x, rf S y with
  | some a, some b => if dp 60 a = true ∧ dp 60 b = true then some (.d (.bool (PyData.eqv a b))) else none
  | _, _ => none
def gNe (S : Store) (x y : D) : Option D := match rf S x, rf S y with
  | some a, some b => if dp 60 a = true ∧ dp 60 b = true then some (.d (.bool (!PyData.eqv a b))) else none
  | _, _ => none
section
variable {X : Cx}
theorem o_eq (hu : X.A.units + 64 < cLine) : OpR X (compareOp .Eq) (rO X.K X.mg gEq) := by
  intro pins s σ H x y v u Q I rx ry ⟨O, L, S, dx, dy, d, st, r1, r2, hg, q⟩
  unfold gEq at hg
  split at hg
  · rename_i a b ha hb
    obtain ⟨⟨h1, h2⟩, rfl⟩ := some_of_ite hg
    have p1 := dp_plain _ _ h1
    have p2 := dp_plain _ _ h2
    obtain ⟨as, ra⟩ := reads_of I p1.1 (rf_rp st r1 ha) rx
    obtain ⟨bs, rb⟩ := reads_of I p2.1 (rf_rp st r2 hb) ry
    exact SeqAt.eq_plain ra rb p1.1 p2.1 (by have := Nat.min_le_left a.depth b.depth; omega) ⟨.bl _, H, I, rfl, q _ H (Same.refl H) (.d (.bl _))⟩
  · cases hg
theorem o_ne (hu : X.A.units + 64 < cLine) : OpR X (compareOp .NotEq) (rO X.K X.mg gNe) := by
  intro pins s σ H x y v u Q I rx ry ⟨O, L, S, dx, dy, d, st, r1, r2, hg, q⟩
  unfold gNe at hg
  split at hg
  · rename_i a b ha hb
    obtain ⟨⟨h1, h2⟩, rfl⟩ := some_of_ite hg
    have p1 := dp_plain _ _ h1
    have p2 := dp_plain _ _ h2
    obtain ⟨as, ra⟩ := reads_of I p1.1 (rf_rp st r1 ha) rx
    obtain ⟨bs, rb⟩ := reads_of I p2.1 (rf_rp st r2 hb) ry
    exact SeqAt.ne_plain ra rb p1.1 p2.1 (by have := Nat.min_le_left a.depth b.depth; omega) ⟨.bl _, H, I, rfl, q _ H (Same.refl H) (.d (.bl _))⟩
  · cases hg
/-! ### < <= > >= of numbers -/
def gC (p : Int → Int → Bool) (_ : Store) (x y : D) : Option D := match x, y with
  | .d (.int i), .d (.int j) => some (.d (.bool (p i j)))
  | _, _ => none
abbrev gLt := gC fun i j => decide (i < j)
abbrev gLe := gC fun i j => decide (i ≤ j)
abbrev gGt := gC fun i j => decide (j < i)
abbrev gGe := gC fun i j => decide (j ≤ i)
theorem o_c {f : Value → Value → Sem Value} {p : Int → Int → Bool} (h : OpR X f (rI0 fun i j => .bl (p i j))) : OpR X f (rO X.K X.mg (gC p)) := by
  intro pins s σ H x y v u Q I rx ry ⟨O, L, S, dx, dy, d, st, r1, r2, hg, q⟩
  unfold gC at hg
  split at hg
  · cases hg
    obtain rfl := ii r1
    obtain rfl := ii r2
    exact h pins s σ H _ _ v u Q I rx ry ⟨_, _, rfl, rfl, q _ H (Same.refl H) (.d (.bl _))⟩
  · cases hg
theorem o_lt : OpR X (compareOp .Lt) (rO X.K X.mg gLt) := o_c op_lt
theorem o_le : OpR X (compareOp .LtE) (rO X.K X.mg gLe) := o_c op_le
theorem o_gt : OpR X (compareOp .Gt) (rO X.K X.mg gGt) := o_c op_gt
theorem o_ge : OpR X (compareOp .GtE) (rO X.K X.mg gGe) := o_c op_ge
/-! ### is None -/
def isN : D → Bool
  | .d .none => true
  | _ => false
theorem isN_v {K : PySem.W.Frag} {H : Hp} {O L : List Addr} {d : D} {v : V} (r : RD K H O L d v) : decide (v = .non) = isN d := by
  cases r with
  | @d x v r => cases r <;> simp [isN]
  | r _ => simp [isN]
  | s _ => simp [isN]
def gIs (_ : Store) (x y : D) : Option D := match y with
  | .d .none => some (.d (.bool (isN x)))
  | _ => none
def gIsN (_ : Store) (x y : D) : Option D := match y with
  | .d .none => some (.d (.bool (!isN x)))
  | _ => none
theorem o_is : OpR X (compareOp .Is) (rO X.K X.mg gIs) := by
  intro pins s σ H x y v u Q I rx ry ⟨O, L, S, dx, dy, d, st, r1, r2, hg, q⟩
  unfold gIs at hg
  split at hg
  · cases hg
    cases r2 with
    | d r2 =>
      cases r2
      refine op_isN pins s σ H _ _ v u Q I rx ry ⟨rfl, q _ H (Same.refl H) ?_⟩
      rw [isN_v r1]
      exact .d (.bl _)
  · cases hg
theorem o_isn : OpR X (compareOp .IsNot) (rO X.K X.mg gIsN) := by
  intro pins s σ H x y v u Q I rx ry ⟨O, L, S, dx, dy, d, st, r1, r2, hg, q⟩
  unfold gIsN at hg
  split at hg
  · cases hg
    cases r2 with
    | d r2 =>
      cases r2
      refine op_notN pins s σ H _ _ v u Q I rx ry ⟨rfl, q _ H (Same.refl H) ?_⟩
      rw [isN_v r1]
      exact .d (.bl _)
  · cases hg
end
/-! ### subscripts -/
def isKey : Key → PyData → Bool
  | .inl i, .int j => decide (i = j)
  | .inr x, .str y => decide (x = y)
  | _, _ => false
theorem isKey_keyD (k j : Key) : isKey k (keyD j) = decide (j = k) := by
  cases k with
  | inl i =>
    cases j with
    | inl j =>
      show decide (i = j) = decide ((Sum.inl j : Key) = Sum.inl i)
      by_cases h : i = j
      · subst h; simp
      · rw [decide_eq_false h, decide_eq_false (fun q => h (Sum.inl.inj q).symm)]
    | inr y => exact (decide_eq_false (fun q => nomatch q)).symm
  | inr x =>
    cases j with
    | inl j => exact (decide_eq_false (fun q => nomatch q)).symm
    | inr y =>
      show decide (x = y) = decide ((Sum.inr y : Key) = Sum.inr x)
      by_cases h : x = y
      · subst h; simp
      · rw [decide_eq_false h, decide_eq_false (fun q => h (Sum.inr.inj q).symm)]
def keyOf : D → Option Key
  | .d (.int i) => some (.inl i)
  | .d (.str x) => some (.inr x)
  | _ => none
theorem keyOf_v {K : PySem.W.Frag} {H : Hp} {O L : List Addr} {d : D} {v : V} {k : Key} (r : RD K H O L d v) (h : keyOf d = some k) : v = kV k := by
  cases d with
  | d x =>
    cases x with
    | int i => cases h; exact ii r
    | str x => cases h; exact ss r
    | _ => cases h
  | _ => cases h
/-- a dict's value -/
def dlook (kvs : List (PyData × PyData)) (k : Key) : Option PyData := (kvs.find? fun p => isKey k p.1).map (·.2)
def valD (kvs : List (Key × PyData)) (k : Key) : Option PyData := (kvs.find? fun p => decide (p.1 = k)).map (·.2)
section
variable {K : PySem.W.Frag} {H : Hp} {B : List Addr}
theorem RpK.look {k : Key} : ∀ {ds : List (PyData × PyData)} {vs : List (Key × V)}, RpK K H B ds vs → (∀ d, dlook ds k = some d → ∃ v, valV vs k = some v ∧ Rp K H B d v) ∧ (dlook ds k = none → valV vs k = none)
  | _, _, .nil => ⟨fun _ h => (by cases h), fun _ => rfl⟩
  | _, _, .cons (k := j) (d := d) (v := v) (ds := ds) (vs := vs) r t => by
    have ih := RpK.look (k := k) t
    have e1 : dlook ((keyD j, d) :: ds) k = if j = k then some d else dlook ds k := by
      unfold dlook
      rw [List.find?_cons, isKey_keyD]
      by_cases h : j = k
      · rw [if_pos h, decide_eq_true h]; rfl
      · rw [if_neg h, decide_eq_false h]
    by_cases h : j = k
    · rw [e1, if_pos h, valV_pos h]
      exact ⟨fun x q => ⟨v, rfl, by cases q; exact r⟩, fun q => by cases q⟩
    · rw [e1, if_neg h, valV_neg h]
      exact ih
theorem RQ.look {k : Key} : ∀ {ds : List (Key × PyData)} {vs : List (Key × V)}, RQ K H B ds vs → (∀ d, valD ds k = some d → ∃ v, valV vs k = some v ∧ Rp K H B d v) ∧ (valD ds k = none → valV vs k = none)
  | _, _, .nil => ⟨fun _ h => (by cases h), fun _ => rfl⟩
  | _, _, .cons (k := j) (d := d) (v := v) (ds := ds) (vs := vs) r t => by
    have ih := RQ.look (k := k) t
    have e1 : valD ((j, d) :: ds) k = if j = k then some d else valD ds k := by
      unfold valD
      rw [List.find?_cons]
      by_cases h : j = k
      · rw [if_pos h, decide_eq_true h]; rfl
      · rw [if_neg h, decide_eq_false h]
    by_cases h : j = k
    · rw [e1, if_pos h, valV_pos h]
      exact ⟨fun x q => ⟨v, rfl, by cases q; exact r⟩, fun q => by cases q⟩
    · rw [e1, if_neg h, valV_neg h]
      exact ih
end
/-- a dict (a value's, a cell's): what it holds at a key; none: no dict -/
def dget (S : Store) (x : D) (k : Key) : Option (Option PyData) := match x with
  | .d (.dict kvs) => some (dlook kvs k)
  | .r i => match S[i]? with
    | some (.dct kvs) => some (valD kvs k)
    | _ => none
  | _ => none
theorem dget_at {K : PySem.W.Frag} {mg : MG} {H : Hp} {O L : List Addr} {S : Store} {x : D} {v : V} {k : Key} {o : Option PyData} (st : Sto K mg H O L S) (r : RD K H O L x v) (h : dget S x k = some o) :
    ∃ a w, v = .ref a ∧ DGet H a (kV k) w ∧ (match o, w with | some d, some v => Rp K H (O ++ L) d v | none, none => True | _, _ => False) := by
  have fin : ∀ {a : Addr} {vs : List (Key × V)}, H a = some (.dK vs) → ((∀ d, o = some d → ∃ v, valV vs k = some v ∧ Rp K H (O ++ L) d v) ∧ (o = none → valV vs k = none)) →
      ∃ a' w, V.ref a = .ref a' ∧ DGet H a' (kV k) w ∧ (match o, w with | some d, some v => Rp K H (O ++ L) d v | none, none => True | _, _ => False) := fun {a vs} e q => by
    refine ⟨a, valV vs k, rfl, DGet.k e, ?_⟩
    cases o with
    | none => rw [q.2 rfl]; trivial
    | some d =>
      obtain ⟨v, h1, h2⟩ := q.1 d rfl
      rw [h1]
      exact h2
  cases r with
  | @d x _ r =>
    cases x with
    | dict kvs =>
      cases h
      cases r with
      | dct h1 h2 h3 => exact fin h1 h3.look
    | _ => cases h
  | @r i a hi =>
    replace h : (match S[i]? with | some (.dct kvs) => some (valD kvs k) | _ => none) = some o := h
    cases q : S[i]? with
    | none => rw [q] at h; cases h
    | some c =>
      rw [q] at h
      cases c with
      | dct kvs =>
        cases h
        cases st.cell i _ a q hi with
        | dct h1 h2 => exact fin h1 h2.look
      | _ => cases h
  | s _ => cases h
def intOf : D → Option Int
  | .d (.int i) => some i
  | _ => none
def gIxR (S : Store) (x y : D) : Option D := match lk S x with
  | some xs => match intOf y with
    | some i => (atI xs i).map .d
    | none => none
  | none => match keyOf y with
    | some k => match dget S x k with
      | some (some d) => some (.d d)
      | _ => none
    | none => none
def gIx (S : Store) (x y : D) : Option D := match x, y with
  | .d (.tuple xs), .d (.int i) => (atI xs i).map .d
  | .d (.str z), .d (.int i) => if z.length ≤ sizeLine then (atI z.cps.toList i).map fun c => .d (.str ⟨#[c]⟩) else none
  | x, y => gIxR S x y
theorem intOf_v {K : PySem.W.Frag} {H : Hp} {O L : List Addr} {d : D} {v : V} {i : Int} (r : RD K H O L d v) (h : intOf d = some i) : v = .int i := by
  cases d with
  | d x =>
    cases x with
    | int i => cases h; exact ii r
    | _ => cases h
  | _ => cases h
theorem RpL.atI {K : PySem.W.Frag} {H : Hp} {B : List Addr} {ds : List PyData} {vs : List V} {i : Int} {d : PyData} (r : RpL K H B ds vs) (h : atI ds i = some d) : ∃ v, L2.atI vs i = some v ∧ Rp K H B d v := by
  unfold L2.atI at h ⊢
  rw [← r.length]
  cases q : ixN ds.length i with
  | none => rw [q] at h; cases h
  | some j =>
    rw [q] at h
    exact r.get h
theorem map_d {o : Option PyData} {d : D} (h : o.map D.d = some d) : ∃ x, o = some x ∧ d = .d x := by
  cases o with
  | none => cases h
  | some x => cases h; exact ⟨x, rfl, rfl⟩
theorem ix_dict {X : Cx} (hu : X.A.units + 1 < cLine) : IxR X (fun x y H Q => ∃ a v, x = .ref a ∧ DGet H a y (some v) ∧ Q v H) := by
  intro value slice pins s σ H x y v u Q I rx ry h hs
  obtain ⟨a, w, rfl, g, q⟩ := h
  cases rx
  exact tail_any (dict_typeIs I g) PySem.F.slot_dict_getitem.lookup (d_getItem hu I g ry fun w' s3 I3 rw' => ⟨w, H, I3, rw', q⟩) hs
theorem ix_all {X : Cx} (hu : X.A.units + 1 < cLine) : IxR X (rO X.K X.mg gIx) := by
  intro value slice pins s σ H x y v u Q I rx ry ⟨O, L, S, dx, dy, d, st, r1, r2, hg, q⟩ hs
  have rest : gIxR S dx dy = some d → wpAny (model X.prog X.w) X.A (subscriptTail value slice v u) (EP X pins σ Q) X.xe s := fun h2 => by
    unfold gIxR at h2
    cases e1 : lk S dx with
    | some xs =>
      rw [e1] at h2
      cases e2 : intOf dy with
      | none => rw [e2] at h2; cases h2
      | some i =>
        rw [e2] at h2
        obtain ⟨z, hz, rfl⟩ := map_d h2
        obtain rfl := intOf_v r2 e2
        obtain ⟨a, vs, rfl, ha, ra⟩ := lk_at st r1 e1
        obtain ⟨w, hw, rw'⟩ := ra.atI hz
        exact ix_list value slice pins s σ H _ _ v u Q I rx ry ⟨a, vs, i, w, rfl, rfl, .inl (.inl ha), hw, q _ H (Same.refl H) (.d rw')⟩ hs
    | none =>
      rw [e1] at h2
      cases e2 : keyOf dy with
      | none => rw [e2] at h2; cases h2
      | some k =>
        rw [e2] at h2
        replace h2 : (match dget S dx k with | some (some d) => some (D.d d) | _ => none) = some d := h2
        cases e3 : dget S dx k with
        | none => rw [e3] at h2; cases h2
        | some o =>
          rw [e3] at h2
          cases o with
          | none => cases h2
          | some z =>
            cases h2
            obtain ⟨a, w, rfl, g, m⟩ := dget_at st r1 e3
            cases w with
            | none => exact m.elim
            | some w =>
              obtain rfl := keyOf_v r2 e2
              exact ix_dict hu value slice pins s σ H _ _ v u Q I rx ry ⟨a, w, rfl, g, q _ H (Same.refl H) (.d m)⟩ hs
  unfold gIx at hg
  split at hg
  · rename_i xs i
    obtain ⟨z, hz, rfl⟩ := map_d hg
    obtain rfl := ii r2
    obtain ⟨a, vs, rfl, ha, na, ra, wa⟩ := tt r1
    obtain ⟨w, hw, rw'⟩ := ra.atI hz
    exact ix_tup value slice pins s σ H _ _ v u Q I rx ry ⟨a, vs, i, w, rfl, rfl, ha, hw, q _ H (Same.refl H) (.d rw')⟩ hs
  · rename_i z i
    replace hg : (if z.length ≤ sizeLine then (atI z.cps.toList i).map fun c => D.d (.str ⟨#[c]⟩) else none) = some d := hg
    by_cases hz : z.length ≤ sizeLine
    · rw [if_pos hz] at hg
      obtain rfl := ii r2
      obtain rfl := ss r1
      cases e : atI z.cps.toList i with
      | none => rw [e] at hg; cases hg
      | some c =>
        rw [e] at hg
        cases hg
        exact ix_str value slice pins s σ H _ _ v u Q I rx ry ⟨z, i, c, rfl, rfl, hz, e, q _ H (Same.refl H) (.d (.str _))⟩ hs
    · rw [if_neg hz] at hg; cases hg
  · exact rest hg
theorem pm_ix {X : Cx} {W : WX} {a b : Expr} {fa fb : EM} {pos : Pos} (hu : X.A.units + 1 < cLine) (ha : PM X W a fa) (hb : PM X W b fb) (hs : PlainIx b := by exact fun _ _ => rfl) : PM X W (.Subscript a b pos) (mOp gIx fa fb) :=
  PE.imp (pe_ix (ix_all hu) ha hb hs) fun σ H Q h => rO.go h
/-! ### slices -/
def cutD {α : Type} (xs : List α) (lo hi : Option Int) : List α := (xs.drop (HT.sIx xs.length 0 lo)).take (HT.sIx xs.length xs.length hi - HT.sIx xs.length 0 lo)
theorem RpL.cut {K : PySem.W.Frag} {H : Hp} {B : List Addr} {ds : List PyData} {vs : List V} (r : RpL K H B ds vs) (lo hi : Option Int) : RpL K H B (cutD ds lo hi) (cutV vs lo hi) := by
  unfold cutD cutV
  rw [← r.length]
  exact (r.drop _).take _
abbrev OM := Env → Store → Res (Option Int)
def tO (K : PySem.W.Frag) (mg : MG) (W : WX) (f : OM) : TO := fun σ H Q => ∃ (O L : List Addr) (S : Store) (ρ : Env), At K mg O L S ρ σ H ∧ EndG K mg W O L H σ (fun o _ L' H' => Q o H') (f ρ S)
def oNone : OM := fun _ S => .ok none S
def oSome (fa : EM) : OM := fun ρ S => (fa ρ S).andThen fun x S1 => match x with
  | .d (.int i) => .ok (some i) S1
  | _ => .no
def gSl (S : Store) (x : D) (lo hi : Option Int) : Option D := match x with
  | .d (.tuple xs) => some (.d (.tuple (cutD xs lo hi)))
  | .s ns => some (.d (.list ((cutD ns lo hi).map .int)))
  | x => match lk S x with
    | some xs => some (.d (.list (cutD xs lo hi)))
    | none => none
def mSl (fa : EM) (fl fh : OM) : EM := fun ρ S => (fa ρ S).andThen fun x S1 => (fl ρ S1).andThen fun l S2 => (fh ρ S2).andThen fun u S3 => Res.of (gSl S3 x l u) S3
section
variable {X : Cx} {W : WX} {e : Expr} {lo hi : Option Expr} {fe : EM} {fl fh : OM} {pos p2 : Pos}
theorem PO.imp {e : Option Expr} {t t' : TO} (h : PO X e t) (q : ∀ σ H Q, t' σ H Q → t σ H Q) : PO X e t' := ⟨fun pins s σ H Q I hw => h.run pins s σ H Q I (q σ H Q hw)⟩
theorem pmo_none : PO X none (tO X.K X.mg W oNone) := PO.imp po_none fun σ H Q ⟨O, L, S, ρ, a, h⟩ => h H L (Ext.refl _ _) a.st
theorem pmo_some (he : PM X W e fe) : PO X (some e) (tO X.K X.mg W (oSome fe)) := PO.imp (po_some he) fun σ H Q ⟨O, L, S, ρ, a, h⟩ => by
  refine tM.part a h fun d v S1 L1 H1 a1 e1 r1 h1 => ?_
  split at h1
  · obtain rfl := ii r1
    exact ⟨_, rfl, h1 H1 L1 (Ext.refl _ _) a1.st⟩
  · exact h1.elim
theorem tO.part {β : Type} {K : PySem.W.Frag} {mg : MG} {O L : List Addr} {S : Store} {ρ : Env} {σ : St} {H : Hp} {f : OM} {k : Option Int → Store → Res β} {P : β → Store → List Addr → Hp → Prop} {Q : Option Int → Hp → Prop} (a : At K mg O L S ρ σ H) (h : EndG K mg W O L H σ P ((f ρ S).andThen k))
    (q : ∀ d S' L' H', At K mg O L' S' ρ σ H' → Ext L H L' H' → EndG K mg W O L' H' σ P (k d S') → Q d H') : tO K mg W f σ H Q :=
  ⟨O, L, S, ρ, a, EndG.imp (EndG.bind h) fun d S' L' H' e st h' => q d S' L' H' (a.mono e st) e h'⟩
def rG (K : PySem.W.Frag) (mg : MG) : V → Option Int → Option Int → Hp → VK → Prop := fun x lo hi H Q => ∃ (O L : List Addr) (S : Store) (dx d : D), Sto K mg H O L S ∧ RD K H O L dx x ∧ gSl S dx lo hi = some d ∧ ∀ v H', Same H H' → RD K H' O L d v → Q v H'
theorem rpl_ints {K : PySem.W.Frag} {H : Hp} {B : List Addr} : ∀ ns : List Int, RpL K H B (ns.map .int) (ns.map V.int)
  | [] => .nil
  | n :: r => .cons (.int n) (rpl_ints r)
theorem cut_map {α β : Type} (f : α → β) (xs : List α) (lo hi : Option Int) : cutD (xs.map f) lo hi = (cutD xs lo hi).map f := by
  unfold cutD
  rw [List.length_map, List.map_take, List.map_drop]
theorem sl_all : SlR X (rG X.K X.mg) := by
  intro pins s σ H x v vl vu lo hi sl Q I rx hs pl pu ⟨O, L, S, dx, d, st, r1, hg, q⟩
  have go : ∀ {r : Option D}, r = some d → (r = (match lk S dx with | some xs => some (.d (.list (cutD xs lo hi))) | none => none)) → ∃ T id, typeLookup (.type T) "__getitem__" = pure (some (.builtin id)) ∧ s.TypeIs v T ∧ wpAny (model X.prog X.w) X.A (getItem v (.ref sl)) (EP X pins σ Q) X.xe s := fun {r} h1 h2 => by
    rw [h1] at h2
    split at h2
    · rename_i xs e
      cases h2
      obtain ⟨a, vs, rfl, ha, ra⟩ := lk_at st r1 e
      exact sl_list pins s σ H _ v vl vu lo hi sl Q I rx hs pl pu ⟨a, vs, rfl, .inl (.inl ha), fun p hp => q _ _ (same_upd hp) (new_lst st hp (ra.cut lo hi))⟩
    · cases h2
  unfold gSl at hg
  split at hg
  · cases hg
    obtain ⟨a, vs, rfl, ha, na, ra, wa⟩ := tt r1
    refine sl_tupA pins s σ H _ v vl vu lo hi sl Q I rx hs pl pu ⟨a, vs, rfl, ha, fun hw => ?_, fun hw p hp => q _ _ (same_upd hp) (new_tup st hp (ra.cut lo hi))⟩
    rename_i xs
    have e : cutD xs lo hi = xs := by
      unfold cutD
      rw [ra.length, hw.1, hw.2, List.drop_zero, Nat.sub_zero, ← ra.length, List.take_length]
    rw [e] at q
    exact q _ H (Same.refl H) (.d wa)
  · cases hg
    rename_i ns
    cases r1 with
    | s h1 =>
      refine sl_list pins s σ H _ v vl vu lo hi sl Q I rx hs pl pu ⟨_, _, rfl, h1.imp (fun z => z.1) id, fun p hp => q _ _ (same_upd hp) ?_⟩
      have e := cut_map V.int ns lo hi
      unfold cutD at e
      refine new_lst st hp ?_
      show RpL _ _ _ _ (cutV (ns.map V.int) lo hi)
      unfold cutV
      rw [e]
      exact rpl_ints _
  · exact go hg rfl
theorem pm_sl (he : PM X W e fe) (hl : PO X lo (tO X.K X.mg W fl)) (hh : PO X hi (tO X.K X.mg W fh)) : PM X W (.Subscript e (.Slice lo hi none p2) pos) (mSl fe fl fh) :=
  PE.imp (pe_slice sl_all he hl hh) fun σ H Q ⟨O, L, S, ρ, a, h⟩ => by
    refine tM.part a h fun d v S1 L1 H1 a1 e1 r1 h1 => ?_
    refine tO.part a1 h1 fun l S2 L2 H2 a2 e2 h2 => ?_
    refine tO.part a2 h2 fun u S3 L3 H3 a3 e3 h3 => ?_
    obtain ⟨d', hd, h4⟩ := EndG.of_some h3
    exact ⟨O, L3, S3, d, d', a3.st, (r1.mono e2).mono e3, hd, fun v H' sm r => h4 H' L3 (Same.ext sm) (a3.st.same sm) v r⟩
end
end Sky
end
section
/-! Lay6: statements, loops, comprehensions. -/
namespace Sky
open PySem PySem.Spec PyProof.Rows L2
/-! ### statements -/
def SR.ofE {α : Type} (r : Res α) (ρ : Env) (k : α → Store → SR) : SR := match r with
  | .ok a S => k a S
  | .exc e S => .ex e ρ S
  | .no => .no
theorem ofE_ok {α : Type} (a : α) (S : Store) (ρ : Env) (k : α → Store → SR) : SR.ofE (.ok a S) ρ k = k a S := rfl
theorem ofE_exc {α : Type} (e : Exc) (S : Store) (ρ : Env) (k : α → Store → SR) : SR.ofE (.exc e S) ρ k = .ex e ρ S := rfl
def EndS (K : PySem.W.Frag) (mg : MG) (W : WX) (O L : List Addr) (H : Hp) (D : Ends) : SR → Prop
  | .nx ρ S => ∀ (σ' : St) (H' : Hp) (L' : List Addr), Ext L H L' H' → At K mg O L' S ρ σ' H' → D.nx σ' H'
  | .rt d S => ∀ (v : V) (H' : Hp) (L' : List Addr), Ext L H L' H' → Sto K mg H' O L' S → RD K H' O L' d v → D.rt v H'
  | .bk ρ S => ∀ (σ' : St) (H' : Hp) (L' : List Addr), Ext L H L' H' → At K mg O L' S ρ σ' H' → D.bk σ' H'
  | .ct ρ S => ∀ (σ' : St) (H' : Hp) (L' : List Addr), Ext L H L' H' → At K mg O L' S ρ σ' H' → D.ct σ' H'
  | .ex e ρ S => ∀ (C : Addr) (dd : Option Addr) (σ' : St) (H' : Hp) (L' : List Addr), mg e.cls = some (.ref C) → Ext L H L' H' → At K mg O L' S ρ σ' H' → XD K H' e.fs dd → W (.ref C) dd σ' H'
  | .no => False
def tS (K : PySem.W.Frag) (mg : MG) (W : WX) (f : SM) : TS := fun D σ H => ∃ (O L : List Addr) (S : Store) (ρ : Env), At K mg O L S ρ σ H ∧ EndS K mg W O L H D (f ρ S)
abbrev PMS (X : Cx) (W : WX) (st : Stmt) (f : SM) : Prop := PS X st (tS X.K X.mg W f)
abbrev PMB (X : Cx) (W : WX) (st : List Stmt) (f : SM) : Prop := PSs X st (tS X.K X.mg W f)
section
variable {K : PySem.W.Frag} {mg : MG} {W : WX} {O L L1 : List Addr} {H H1 : Hp} {σ : St} {ρ : Env} {S : Store} {Dn : Ends}
theorem EndS.later {r : SR} (e : Ext L H L1 H1) (h : EndS K mg W O L H Dn r) : EndS K mg W O L1 H1 Dn r := by
  cases r with
  | nx ρ S => exact fun σ' H' L' e' => h σ' H' L' (e.trans e')
  | rt d S => exact fun v H' L' e' => h v H' L' (e.trans e')
  | bk ρ S => exact fun σ' H' L' e' => h σ' H' L' (e.trans e')
  | ct ρ S => exact fun σ' H' L' e' => h σ' H' L' (e.trans e')
  | ex x ρ S => exact fun C dd σ' H' L' hm e' => h C dd σ' H' L' hm (e.trans e')
  | no => exact h
theorem EndS.ofE {α : Type} {r : Res α} {k : α → Store → SR} (a : RE K H O L ρ σ) (h : EndS K mg W O L H Dn (SR.ofE r ρ k)) : EndG K mg W O L H σ (fun x S' L' H' => EndS K mg W O L' H' Dn (k x S')) r := by
  cases r with
  | ok x S => exact fun H' L' e st => EndS.later e h
  | exc x S => exact fun C dd H' L' hm e st hx => h C dd σ H' L' hm e ⟨a.mono e, st⟩ hx
  | no => exact h
theorem tM.stmt {f : EM} {k : D → Store → SR} {Q : VK} (a : At K mg O L S ρ σ H) (h : EndS K mg W O L H Dn (SR.ofE (f ρ S) ρ k))
    (q : ∀ d v S' L' H', At K mg O L' S' ρ σ H' → Ext L H L' H' → RD K H' O L' d v → EndS K mg W O L' H' Dn (k d S') → Q v H') : tM K mg W f σ H Q :=
  ⟨O, L, S, ρ, a, EndG.imp (EndS.ofE a.re h) fun d S' L' H' e st h' v r => q d v S' L' H' (a.mono e st) e r h'⟩
theorem tB.stmt {f : BM} {k : Bool → Store → SR} {Q : Bool → Hp → Prop} (a : At K mg O L S ρ σ H) (h : EndS K mg W O L H Dn (SR.ofE (f ρ S) ρ k))
    (q : ∀ d S' L' H', At K mg O L' S' ρ σ H' → Ext L H L' H' → EndS K mg W O L' H' Dn (k d S') → Q d H') : tB K mg W f σ H Q :=
  ⟨O, L, S, ρ, a, EndG.imp (EndS.ofE a.re h) fun d S' L' H' e st h' => q d S' L' H' (a.mono e st) e h'⟩
end
section
variable {X : Cx} {W : WX} {st : Stmt} {e c : Expr} {pos : Pos} {f fa : EM}
theorem PS.imp {t t' : TS} (h : PS X st t) (q : ∀ D σ H, t' D σ H → t D σ H) : PS X st t' := ⟨fun pins s σ H D I hw => h.run pins s σ H D I (q D σ H hw)⟩
theorem PSs.imp {sts : List Stmt} {t t' : TS} (h : PSs X sts t) (q : ∀ D σ H, t' D σ H → t D σ H) : PSs X sts t' := ⟨fun pins s σ H D I hw => h.run pins s σ H D I (q D σ H hw)⟩
def sNx : SM := fun ρ S => .nx ρ S
def sSeq (a b : SM) : SM := fun ρ S => match a ρ S with
  | .nx ρ' S' => b ρ' S'
  | r => r
theorem pmb_nil : PMB X W [] sNx := PSs.imp pss_nil fun D σ H ⟨O, L, S, ρ, a, h⟩ => h σ H L (Ext.refl _ _) a
theorem pmb_one {fa : SM} (h : PMS X W st fa) : PMB X W [st] fa := pss_one h
theorem pmb_cons {rest : List Stmt} {fa fb : SM} (h1 : PMS X W st fa) (h2 : PMB X W rest fb) : PMB X W (st :: rest) (sSeq fa fb) :=
  PSs.imp (pss_cons h1 h2) fun D σ H ⟨O, L, S, ρ, a, h⟩ => by
    refine ⟨O, L, S, ρ, a, ?_⟩
    unfold sSeq at h
    cases q : fa ρ S with
    | nx ρ' S' => rw [q] at h; exact fun σ' H' L' e a' => ⟨O, L', S', ρ', a', EndS.later e h⟩
    | rt d S' => rw [q] at h; exact h
    | bk ρ' S' => rw [q] at h; exact h
    | ct ρ' S' => rw [q] at h; exact h
    | ex x ρ' S' => rw [q] at h; exact h
    | no => rw [q] at h; exact h
theorem pms_pass : PMS X W (.Pass pos) sNx := PS.imp ps_pass fun D σ H ⟨O, L, S, ρ, a, h⟩ => h σ H L (Ext.refl _ _) a
def sSet (i : Nat) (f : EM) : SM := fun ρ S => SR.ofE (f ρ S) ρ fun d S1 => .nx (ρ.set i (some d)) S1
theorem pms_set (i : Nat) {x : Str} {pos' : Pos} (hN : X.N.Nodup) (he : PM X W e f) (hi : X.N[i]? = some x := by rfl) (hx : Loc X.env.scope x := by first | exact Or.inl rfl | exact Or.inr rfl) (hs : swapsWith e (some (.Name x pos')) pos.line X.env = pure false := by rfl)
    (hf : X.fn x = true ∨ X.env.scope.names.lookup x = some .local := by first | exact .inl rfl | exact .inr rfl) : PMS X W (.Assign [.Name x pos'] e pos) (sSet i f) :=
  PS.imp (ps_set hN hi hx he hs hf) fun D σ H ⟨O, L, S, ρ, a, h⟩ =>
    tM.stmt a h fun d v S' L' H' a' e' r h' => h' _ H' L' (Ext.refl _ _) ⟨a'.re.set r i, a'.st⟩
def sRet (f : EM) : SM := fun ρ S => SR.ofE (f ρ S) ρ fun d S1 => .rt d S1
theorem pms_ret (he : PM X W e f) : PMS X W (.Return (some e) pos) (sRet f) :=
  PS.imp (ps_ret he) fun D σ H ⟨O, L, S, ρ, a, h⟩ => tM.stmt a h fun d v S' L' H' a' e' r h' => h' v H' L' (Ext.refl _ _) a'.st r
def sExpr (f : EM) : SM := fun ρ S => SR.ofE (f ρ S) ρ fun _ S1 => .nx ρ S1
theorem pms_expr (he : PM X W e f) (hs : swapsWith e none pos.line X.env = pure false := by rfl) : PMS X W (.Expr e pos) (sExpr f) :=
  PS.imp (ps_expr he hs) fun D σ H ⟨O, L, S, ρ, a, h⟩ => tM.stmt a h fun d v S' L' H' a' e' r h' => h' σ H' L' (Ext.refl _ _) a'
def sIf (c : BM) (fa fb : SM) : SM := fun ρ S => SR.ofE (c ρ S) ρ fun b S1 => if b = true then fa ρ S1 else fb ρ S1
theorem pms_if {sa sb : List Stmt} {bc : BM} {fa fb : SM} (hc : PMT X W c bc) (ha : PMB X W sa fa) (hb : PMB X W sb fb) : PMS X W (.If c sa sb pos) (sIf bc fa fb) :=
  PS.imp (ps_if hc ha hb) fun D σ H ⟨O, L, S, ρ, a, h⟩ => tB.stmt a h fun b S' L' H' a' e' h' => by
    cases b with
    | true => exact iteT ⟨O, L', S', ρ, a', h'⟩
    | false => exact iteF ⟨O, L', S', ρ, a', h'⟩
/-! ### targets -/
abbrev TgM := PyData → Env → Option Env
abbrev TgsM := List PyData → Env → Option Env
/-- sl: the slots that are stored -/
def Wp (sl : List Nat) (σ σ' : St) : Prop := ∀ vs : List Nat, (∀ i ∈ sl, i ∈ vs) → wipe σ' vs = wipe σ vs
def tG (K : PySem.W.Frag) (mg : MG) (g : TgM) (sl : List Nat) : TG := fun v σ H Q => ∃ (O L : List Addr) (S : Store) (ρ ρ' : Env) (x : PyData), At K mg O L S ρ σ H ∧ Rp K H (O ++ L) x v ∧ g x ρ = some ρ' ∧ ∀ σ', At K mg O L S ρ' σ' H → Wp sl σ σ' → Q σ' H
def tGs (K : PySem.W.Frag) (mg : MG) (g : TgsM) (sl : List Nat) : TGs := fun vs σ H Q => ∃ (O L : List Addr) (S : Store) (ρ ρ' : Env) (xs : List PyData), At K mg O L S ρ σ H ∧ RpL K H (O ++ L) xs vs ∧ g xs ρ = some ρ' ∧ ∀ σ', At K mg O L S ρ' σ' H → Wp sl σ σ' → Q σ' H
abbrev PMG (X : Cx) (e : Expr) (g : TgM) (sl : List Nat) : Prop := PG X e (tG X.K X.mg g sl)
abbrev PMGs (X : Cx) (es : List Expr) (g : TgsM) (sl : List Nat) : Prop := PGs X es (tGs X.K X.mg g sl)
theorem PG.imp {t t' : TG} (h : PG X e t) (q : ∀ v σ H Q, t' v σ H Q → t v σ H Q) : PG X e t' := ⟨fun pins s σ H v u Q I r hw => h.run pins s σ H v u Q I r (q v σ H Q hw)⟩
theorem PGs.imp {es : List Expr} {t t' : TGs} (h : PGs X es t) (q : ∀ v σ H Q, t' v σ H Q → t v σ H Q) : PGs X es t' := ⟨fun pins s σ H v u Q I r hw => h.run pins s σ H v u Q I r (q v σ H Q hw)⟩
theorem wipe_get {σ : St} {j : Nat} : ∀ {vs : List Nat}, (wipe σ vs)[j]? = if j ∈ vs then (σ[j]?.map fun _ => none) else σ[j]?
  | [] => by simp [wipe]
  | v :: vs => by
    have ih := wipe_get (σ := σ) (j := j) (vs := vs)
    have hl := wipe_length σ vs
    unfold wipe
    by_cases hj : v = j
    · subst hj
      rw [if_pos List.mem_cons_self]
      by_cases hv : v < σ.length
      · rw [List.getElem?_set_self (by rw [hl]; exact hv), List.getElem?_eq_getElem hv]; rfl
      · rw [List.getElem?_eq_none (by rw [List.length_set, hl]; omega), List.getElem?_eq_none (by omega)]; rfl
    · rw [List.getElem?_set_ne hj, ih]
      have e : j ∈ v :: vs ↔ j ∈ vs := by simp [Ne.symm hj]
      by_cases h : j ∈ vs
      · rw [if_pos h, if_pos (e.mpr h)]
      · rw [if_neg h, if_neg fun z => h (e.mp z)]
theorem Wp.set (σ : St) (i : Nat) (v : Option V) : Wp [i] σ (σ.set i v) := fun vs h => by
  refine List.ext_getElem? fun j => ?_
  rw [wipe_get, wipe_get]
  by_cases hj : j = i
  · subst hj
    rw [if_pos (h j (by simp)), if_pos (h j (by simp))]
    by_cases hl : j < σ.length
    · rw [List.getElem?_set_self hl, List.getElem?_eq_getElem hl]; rfl
    · rw [List.getElem?_eq_none (by rw [List.length_set]; omega), List.getElem?_eq_none (by omega)]
  · rw [List.getElem?_set_ne (Ne.symm hj)]
theorem Wp.refl (σ : St) (sl : List Nat) : Wp sl σ σ := fun _ _ => rfl
theorem Wp.trans {σ σ1 σ2 : St} {s1 s2 : List Nat} (a : Wp s1 σ σ1) (b : Wp s2 σ1 σ2) : Wp (s1 ++ s2) σ σ2 := fun vs h => (b vs fun i hi => h i (List.mem_append_right _ hi)).trans (a vs fun i hi => h i (List.mem_append_left _ hi))
def gNm (i : Nat) : TgM := fun x ρ => some (ρ.set i (some (.d x)))
theorem pmg_nm (i : Nat) {x : Str} (hN : X.N.Nodup) (hi : X.N[i]? = some x := by rfl) (hx : Loc X.env.scope x := by first | exact Or.inl rfl | exact Or.inr rfl) (hf : X.fn x = true ∨ X.env.scope.names.lookup x = some .local := by first | exact .inl rfl | exact .inr rfl) : PMG X (.Name x pos) (gNm i) [i] :=
  PG.imp (pg_name hN hi hx hf) fun v σ H Q ⟨O, L, S, ρ, ρ', x, a, r, h, q⟩ => by
    cases h
    exact q _ ⟨a.re.set (.d r) i, a.st⟩ (Wp.set σ i _)
def gsNil : TgsM := fun xs ρ => match xs with
  | [] => some ρ
  | _ => none
def gsCons (g : TgM) (gs : TgsM) : TgsM := fun xs ρ => match xs with
  | x :: r => (g x ρ).bind fun ρ' => gs r ρ'
  | [] => none
theorem pmgs_nil : PMGs X [] gsNil [] := PGs.imp pgs_nil fun v σ H Q ⟨O, L, S, ρ, ρ', xs, a, r, h, q⟩ => by
  cases r with
  | nil => cases h; exact ⟨rfl, q _ a (Wp.refl _ _)⟩
  | cons _ _ => cases h
theorem pmgs_cons {es : List Expr} {g : TgM} {gs : TgsM} {s1 s2 : List Nat} (h1 : PMG X e g s1) (h2 : PMGs X es gs s2)
    (hs : (assignEach (e :: es) X.env).map (·.2) = assign e X.env :: (assignEach es X.env).map (·.2) := by rfl) : PMGs X (e :: es) (gsCons g gs) (s1 ++ s2) :=
  PGs.imp (pgs_cons h1 h2 hs) fun v σ H Q ⟨O, L, S, ρ, ρ', xs, a, r, h, q⟩ => by
    cases r with
    | nil => cases h
    | @cons x v xs vs r rr =>
      replace h : (g x ρ).bind (fun ρ' => gs xs ρ') = some ρ' := h
      obtain ⟨ρ1, g1, g2⟩ := Option.bind_eq_some_iff.mp h
      exact ⟨v, vs, rfl, O, L, S, ρ, ρ1, x, a, r, g1, fun σ1 a1 w1 => ⟨O, L, S, ρ1, ρ', xs, a1, rr, g2, fun σ2 a2 w2 => q σ2 a2 (w1.trans w2)⟩⟩
def gTp (n : Nat) (gs : TgsM) : TgM := fun x ρ => match x with
  | .tuple xs => if xs.length = n then gs xs ρ else none
  | _ => none
theorem pmg_tup {es : List Expr} {k n : Nat} {gs : TgsM} {sl : List Nat} (hc : X.calm = true) (h : PMGs X es gs sl)
    (hn : (assignEach es X.env).length = n := by rfl) (hst : (assignEach es X.env).findIdx? (·.1) = none := by rfl) : PMG X (.Tuple es k pos) (gTp n gs) sl :=
  PG.imp (pg_tup hc h hn hst) fun v σ H Q ⟨O, L, S, ρ, ρ', x, a, r, h, q⟩ => by
    cases x with
    | tuple xs =>
      replace h : (if xs.length = n then gs xs ρ else none) = some ρ' := h
      by_cases hl : xs.length = n
      · rw [if_pos hl] at h
        cases r with
        | tup h1 h2 h3 => exact ⟨_, _, rfl, .inl h1, by rw [← h3.length]; exact hl, O, L, S, ρ, ρ', xs, a, h3, h, q⟩
      · rw [if_neg hl] at h; cases h
    | _ => cases h
/-- a, b = e -/
def sAsg (f : EM) (g : TgM) : SM := fun ρ S => SR.ofE (f ρ S) ρ fun d S1 => match d with
  | .d x => match g x ρ with
    | some ρ' => .nx ρ' S1
    | none => .no
  | _ => .no
theorem pms_asg {tg : Expr} {g : TgM} {sl : List Nat} (he : PM X W e f) (hg : PMG X tg g sl) (hs : swapsWithSole [tg] e pos.line X.env = pure false := by rfl) (hw : swappedStores [tg] e X.env = pure none := by rfl)
    (h1 : (assignEach [tg] X.env).map (·.2) = [assign tg X.env] := by rfl) : PMS X W (.Assign [tg] e pos) (sAsg f g) :=
  PS.imp (ps_asg he hg hs hw h1) fun D σ H ⟨O, L, S, ρ, a, h⟩ => tM.stmt a h fun d v S' L' H' a' e' r h' => by
    cases d with
    | d x =>
      replace h' : EndS X.K X.mg W O L' H' D (match g x ρ with | some ρ' => .nx ρ' S' | none => .no) := h'
      cases hq : g x ρ with
      | none => rw [hq] at h'; exact h'.elim
      | some ρ' =>
        rw [hq] at h'
        cases r with
        | d r => exact ⟨O, L', S', ρ, ρ', x, a', r, hq, fun σ' a2 _ => h' σ' H' L' (Ext.refl _ _) a2⟩
    | _ => exact h'.elim
/-- a, b = x, y (plain local names) -/
def sPar (i j : Nat) (f : AM) : SM := fun ρ S => SR.ofE (f ρ S) ρ fun ds S1 => match ds with
  | [x, y] => .nx ((ρ.set i (some x)).set j (some y)) S1
  | _ => .no
theorem pms_par (i j : Nat) {x y : Str} {a b : Expr} {fs : AM} {px py pt : Pos} {kt k2 : Nat} {pt2 : Pos} (hc : X.calm = true) (hN : X.N.Nodup) (ha : PMA X W [a, b] fs) (hi : X.N[i]? = some x := by rfl) (hj : X.N[j]? = some y := by rfl) (hij : i ≠ j := by decide)
    (hx : X.env.scope.names.lookup x = some .local := by rfl) (hy : X.env.scope.names.lookup y = some .local := by rfl)
    (hw : swappedStores [.Tuple [.Name x px, .Name y py] kt pt] (.Tuple [a, b] k2 pt2) X.env = pure (some [x, y]) := by rfl)
    (hs : swapsWithSole [.Tuple [.Name x px, .Name y py] kt pt] (.Tuple [a, b] k2 pt2) pos.line X.env = pure false := by rfl) :
    PMS X W (.Assign [.Tuple [.Name x px, .Name y py] kt pt] (.Tuple [a, b] k2 pt2) pos) (sPar i j fs) :=
  PS.imp (ps_par hc hN hi hj hij hx hy ha hw hs) fun D σ H ⟨O, L, S, ρ, a, h⟩ =>
    ⟨O, L, S, ρ, a, EndG.imp (EndS.ofE a.re h) fun ds S' L' H' e st h' vs r => by
      cases r with
      | nil => exact h'.elim
      | cons r1 r =>
        cases r with
        | nil => exact h'.elim
        | cons r2 r =>
          cases r with
          | nil => exact ⟨_, _, rfl, h' _ H' L' (Ext.refl _ _) ⟨((a.re.mono e).set r1 i).set r2 j, st⟩⟩
          | cons _ _ => exact h'.elim⟩
end
end Sky
end
section
/-! Lay7: what is walked, loops, comprehensions. -/
namespace Sky
open PySem PySem.Spec PyProof.Rows L2
/-! ### other bans -/
section
variable {K : PySem.W.Frag} {mg : MG} {H H' : Hp} {O O' L L' : List Addr}
theorem RD.monoK (k : Kp H (O ++ L) H' (O' ++ L')) (p : ∀ (i : Nat) (a : Addr), L[i]? = some a → L'[i]? = some a) {d : D} {v : V} (h : RD K H O L d v) : RD K H' O' L' d v := by
  cases h with
  | d h => exact .d (Rp.mono k _ _ h)
  | r h => exact .r (p _ _ h)
  | s h => exact .s (h.imp (fun h => k.rd h.1 h.2) id)
theorem RDL.monoK (k : Kp H (O ++ L) H' (O' ++ L')) (p : ∀ (i : Nat) (a : Addr), L[i]? = some a → L'[i]? = some a) : ∀ {ds : List D} {vs : List V}, RDL K H O L ds vs → RDL K H' O' L' ds vs
  | _, _, .nil => .nil
  | _, _, .cons h t => .cons (h.monoK k p) (RDL.monoK k p t)
theorem RF.monoK (k : Kp H (O ++ L) H' (O' ++ L')) (p : ∀ (i : Nat) (a : Addr), L[i]? = some a → L'[i]? = some a) : ∀ {ds : List (Str × D)} {vs : List (Str × V)}, RF K H O L ds vs → RF K H' O' L' ds vs
  | _, _, .nil => .nil
  | _, _, .cons h t => .cons (h.monoK k p) (RF.monoK k p t)
theorem RE.monoK (k : Kp H (O ++ L) H' (O' ++ L')) (p : ∀ (i : Nat) (a : Addr), L[i]? = some a → L'[i]? = some a) : ∀ {ρ : Env} {σ : St}, RE K H O L ρ σ → RE K H' O' L' ρ σ
  | _, _, .nil => .nil
  | _, _, .unk t => .unk (RE.monoK k p t)
  | _, _, .cons h t => .cons (h.monoK k p) (RE.monoK k p t)
theorem CellOk.monoK (k : Kp H (O ++ L) H' (O' ++ L')) (p : ∀ (i : Nat) (a : Addr), L[i]? = some a → L'[i]? = some a) {a : Addr} {c : Cell} (st : H' a = H a) (h : CellOk K mg H O L a c) : CellOk K mg H' O' L' a c := by
  cases h with
  | lst h1 h2 => exact .lst (st.trans h1) (RpL.mono k _ _ h2)
  | dct h1 h2 => exact .dct (st.trans h1) (h2.mono k)
  | ins h1 h2 h3 => exact .ins h1 (st.trans h2) (h3.monoK k p)
theorem Kp.sub {B B' : List Addr} (h : ∀ a, a ∈ B' → a ∈ B) : Kp H B H B' := fun a o e n => ⟨fun z => n (h a z), e⟩
end
/-! ### what is walked -/
/-- from (L, H) on, wherever it is later, J gives out xs -/
def Wk (K : PySem.W.Frag) (mg : MG) (O L : List Addr) (H : Hp) (J : It) (xs : List PyData) : Prop :=
  ∀ (O' L1 : List Addr) (H1 : Hp) (S1 : Store), Kp H (O ++ L) H1 (O' ++ L1) → Sto K mg H1 O' L1 S1 →
    (∀ (i : Nat) (x : PyData), xs[i]? = some x → J.go i H1 ∧ ∀ v H2, J.yld i H1 v H2 → Same H1 H2 ∧ Rp K H2 (O' ++ L1) x v) ∧ J.stop xs.length H1
abbrev IM := Env → Store → Res (List PyData)
def tI (K : PySem.W.Frag) (mg : MG) (W : WX) (f : IM) : TI := fun σ H R => ∃ (O L : List Addr) (S : Store) (ρ : Env), At K mg O L S ρ σ H ∧ EndG K mg W O L H σ (fun xs _ L' H' => ∀ J, Wk K mg O L' H' J xs → R J H') (f ρ S)
abbrev PMI (X : Cx) (W : WX) (tg e : Expr) (f : IM) : Prop := PI X tg e (tI X.K X.mg W f)
def signs (z : Str) : List PyData := z.cps.toList.map fun c => .str ⟨#[c]⟩
def iSeq (f : EM) : IM := fun ρ S => (f ρ S).andThen fun x S1 => match x with
  | .d (.list xs) => .ok xs S1
  | .d (.tuple xs) => .ok xs S1
  | .d (.str z) => .ok (signs z) S1
  | _ => .no
def rng (lo : Int) (n : Nat) : List PyData := (List.range n).map fun (i : Nat) => .int (lo + i)
def iRng1 (f : EM) : IM := fun ρ S => (f ρ S).andThen fun x S1 => match x with
  | .d (.int n) => if -(2 ^ 62) ≤ n ∧ n < 2 ^ 62 then .ok (rng 0 n.toNat) S1 else .no
  | _ => .no
def iRng2 (f g : EM) : IM := fun ρ S => (f ρ S).andThen fun x S1 => (g ρ S1).andThen fun y S2 => match x, y with
  | .d (.int i), .d (.int j) => if -(2 ^ 62) ≤ i ∧ i < 2 ^ 62 ∧ -(2 ^ 62) ≤ j ∧ j < 2 ^ 62 then .ok (rng i (j - i).toNat) S2 else .no
  | _, _ => .no
section
variable {X : Cx} {W : WX} {tg e e2 : Expr} {f f2 : EM} {te : TE}
def iAny (K : PySem.W.Frag) (te : TE) : TI := fun σ H R => te σ H fun x H1 => (∃ a xs, x = .ref a ∧ SqL K H1 a xs ∧ R (Itl K a) H1) ∨ (∃ a xs, x = .ref a ∧ SqT K H1 a xs ∧ R (Itt K a) H1) ∨ ∃ z, x = .str z ∧ R (Its z) H1
theorem pi_any (he : PE X e te) : PI X tg e (iAny X.K te) := by
  refine ⟨fun pins s σ H R I h => ?_⟩
  refine thn (he.run pins s σ H _ I h) fun v s1 ⟨x, H1, I1, r1, q1⟩ => ?_
  rcases q1 with ⟨a, xs, rfl, hq, q⟩ | ⟨a, xs, rfl, hq, q⟩ | ⟨z, rfl, q⟩
  · cases r1
    obtain ⟨its, rv, p, hz⟩ := I1.list hq
    refine wpAny_pyIter_list p.isList ?_
    refine ⟨s1.heap.objs.size, [s1.heap.objs.size], _, _, H1, rfl, I1.kept (t' := s1.toks) fun b o e => Heap.get?_push_of_some _ e, turn_list a _, ⟨_, Heap.get?_push_size _ rfl, rfl, rfl⟩, fun b hb => ?_, q⟩
    have e : b = s1.heap.objs.size := by simpa using hb
    subst e
    exact I1.fpOk (Nat.le_refl _) (I1.hok.fresh (Nat.le_refl _))
  · cases r1
    obtain ⟨its, rv, p, hz⟩ := I1.tuple hq
    refine wpAny_pyIter_tuple (show s1.heap.IsTuple a its.toArray from p) ?_
    refine ⟨s1.heap.objs.size, [s1.heap.objs.size], _, _, H1, rfl, I1.kept (t' := s1.toks) fun b o e => Heap.get?_push_of_some _ e, turn_tuple a _, ⟨_, Heap.get?_push_size _ rfl, rfl, rfl⟩, fun b hb => ?_, q⟩
    have e : b = s1.heap.objs.size := by simpa using hb
    subst e
    exact I1.fpOk (Nat.le_refl _) (I1.hok.fresh (Nat.le_refl _))
  · obtain ⟨t, rfl⟩ := r1
    cases ha : z.cps.all (· < 128)
    · exact wpAny_pyIter_wide ha (pi_one (tk := s1.toks) I1 _ (turn_str _ z t "str_iterator" (.inr rfl)) ⟨_, Heap.get?_push_size _ rfl, rfl, rfl⟩ q)
    · exact wpAny_pyIter_ascii ha (pi_one (tk := s1.toks) I1 _ (turn_str _ z t "str_ascii_iterator" (.inl rfl)) ⟨_, Heap.get?_push_size _ rfl, rfl, rfl⟩ q)
theorem PI.imp {t t' : TI} (h : PI X tg e t) (q : ∀ σ H R, t' σ H R → t σ H R) : PI X tg e t' := ⟨fun pins s σ H R I hw => h.run pins s σ H R I (q σ H R hw)⟩
theorem wk_list {K : PySem.W.Frag} {mg : MG} {O L : List Addr} {H : Hp} {a : Addr} {vs : List V} {xs : List PyData} (h1 : H a = some (.lst vs)) (h2 : a ∉ O ++ L) (h3 : RpL K H (O ++ L) xs vs) : Wk K mg O L H (Itl K a) xs := fun O' L1 H1 S1 k st => by
  have q : SqL K H1 a vs := .inl (.inl (k a _ h1 h2).2)
  have r := RpL.mono k _ _ h3
  refine ⟨fun i x hx => ?_, vs, q, by rw [r.length]; exact Nat.le_refl _⟩
  obtain ⟨v, hv, rv⟩ := r.get hx
  refine ⟨⟨vs, v, q, hv⟩, fun w H2 y => ?_⟩
  obtain ⟨rfl, y⟩ := y
  have e := y vs q
  rw [hv] at e
  cases e
  exact ⟨Same.refl _, rv⟩
theorem wk_tup {K : PySem.W.Frag} {mg : MG} {O L : List Addr} {H : Hp} {a : Addr} {vs : List V} {xs : List PyData} (h1 : Rd H a (.tup vs)) (h2 : a ∉ O ++ L) (h3 : RpL K H (O ++ L) xs vs) : Wk K mg O L H (Itt K a) xs := fun O' L1 H1 S1 k st => by
  have q : SqT K H1 a vs := .inl (k.rd h1 h2).1
  have r := RpL.mono k _ _ h3
  refine ⟨fun i x hx => ?_, vs, q, by rw [r.length]; exact Nat.le_refl _⟩
  obtain ⟨v, hv, rv⟩ := r.get hx
  refine ⟨⟨vs, v, q, hv⟩, fun w H2 y => ?_⟩
  obtain ⟨rfl, y⟩ := y
  have e := y vs q
  rw [hv] at e
  cases e
  exact ⟨Same.refl _, rv⟩
theorem wk_rng {K : PySem.W.Frag} {mg : MG} {O L : List Addr} {H : Hp} {lo : Int} {n : Nat} : Wk K mg O L H (Itr lo n) (rng lo n) := fun O' L1 H1 S1 k st => by
  have hl : (rng lo n).length = n := by unfold rng; rw [List.length_map, List.length_range]
  refine ⟨fun i x hx => ?_, Nat.le_of_eq hl.symm⟩
  have hi : i < n := by rw [← hl]; exact (List.getElem?_eq_some_iff.mp hx).1
  refine ⟨hi, fun w H2 y => ?_⟩
  obtain ⟨rfl, rfl⟩ := y
  unfold rng at hx
  rw [List.getElem?_map, List.getElem?_range hi] at hx
  cases hx
  exact ⟨Same.refl _, .int _⟩
theorem wk_str {K : PySem.W.Frag} {mg : MG} {O L : List Addr} {H : Hp} {z : Str} : Wk K mg O L H (Its z) (signs z) := fun O' L1 H1 S1 k st => by
  have hl : (signs z).length = z.cps.size := by unfold signs; rw [List.length_map, Array.length_toList]
  refine ⟨fun i x hx => ?_, Nat.le_of_eq hl.symm⟩
  have hi : i < z.cps.size := by rw [← hl]; exact (List.getElem?_eq_some_iff.mp hx).1
  refine ⟨hi, fun w H2 y => ?_⟩
  obtain ⟨rfl, c, hc, rfl⟩ := y
  unfold signs at hx
  rw [List.getElem?_map, Array.getElem?_toList, hc] at hx
  cases hx
  exact ⟨Same.refl _, .str _⟩
theorem pmi_seq (he : PM X W e f) : PMI X W tg e (iSeq f) := PI.imp (pi_any he) fun σ H R ⟨O, L, S, ρ, a, h⟩ => by
  refine tM.part a h fun d v S1 L1 H1 a1 e1 r1 h1 => ?_
  split at h1
  · cases r1 with
    | d r => cases r with
      | lst q1 q2 q3 => exact .inl ⟨_, _, rfl, .inl (.inl q1), h1 H1 L1 (Ext.refl _ _) a1.st _ (wk_list q1 q2 q3)⟩
  · cases r1 with
    | d r => cases r with
      | tup q1 q2 q3 => exact .inr (.inl ⟨_, _, rfl, .inl q1, h1 H1 L1 (Ext.refl _ _) a1.st _ (wk_tup q1 q2 q3)⟩)
  · obtain rfl := ss r1
    exact .inr (.inr ⟨_, rfl, h1 H1 L1 (Ext.refl _ _) a1.st _ wk_str⟩)
  · exact h1.elim
theorem pmi_range1 {p pos : Pos} (hg : Gl X "range") (hm : X.mg "range" = none) (ha : PM X W e f) (hs1 : starEach (e :: []) X.env = (false, eval e X.env) :: starEach [] X.env := by rfl) (hs : starEach [e] X.env = [(false, eval e X.env)] := by rfl) : PMI X W tg (.Call (.Name "range" p) [e] [] pos) (iRng1 f) :=
  PI.imp (pi_range1 hg hm (pa_cons ha pa_nil hs1) hs) fun σ H R ⟨O, L, S, ρ, a, h⟩ => by
    refine tM.part a h fun d v S1 L1 H1 a1 e1 r1 h1 => ?_
    split at h1
    · obtain rfl := ii r1
      obtain ⟨⟨b1, b2⟩, h1⟩ := ite_of h1
      exact ⟨_, rfl, b1, b2, h1 H1 L1 (Ext.refl _ _) a1.st _ wk_rng⟩
    · exact h1.elim
theorem pmi_range2 {p pos : Pos} (hg : Gl X "range") (hm : X.mg "range" = none) (ha : PM X W e f) (hb : PM X W e2 f2) (hs : starEach [e, e2] X.env = [(false, eval e X.env), (false, eval e2 X.env)] := by rfl) (hs2 : starEach [e2] X.env = [(false, eval e2 X.env)] := by rfl)
    (hs3 : starEach (e :: [e2]) X.env = (false, eval e X.env) :: starEach [e2] X.env := by rfl) (hs4 : starEach (e2 :: []) X.env = (false, eval e2 X.env) :: starEach [] X.env := by rfl) : PMI X W tg (.Call (.Name "range" p) [e, e2] [] pos) (iRng2 f f2) :=
  PI.imp (pi_range2 hg hm (pa_cons ha (pa_cons hb pa_nil hs4) hs3) hs hs2) fun σ H R ⟨O, L, S, ρ, a, h⟩ => by
    refine tM.part a h fun d v S1 L1 H1 a1 e1 r1 h1 => ?_
    refine tM.part a1 h1 fun d2 v2 S2 L2 H2 a2 e2 r2 h2 => ?_
    split at h2
    · obtain rfl := ii r1
      obtain rfl := ii r2
      obtain ⟨b, h2⟩ := ite_of h2
      exact ⟨_, _, rfl, b, h2 H2 L2 (Ext.refl _ _) a2.st _ wk_rng⟩
    · exact h2.elim
/-! ### for -/
def forL (g : TgM) (b : SM) : List PyData → Env → Store → SR
  | [], ρ, S => .nx ρ S
  | x :: xs, ρ, S => match g x ρ with
    | none => .no
    | some ρ1 => match b ρ1 S with
      | .nx ρ2 S2 => forL g b xs ρ2 S2
      | .ct ρ2 S2 => forL g b xs ρ2 S2
      | .bk ρ2 S2 => .nx ρ2 S2
      | .rt d S2 => .rt d S2
      | .ex x ρ2 S2 => .ex x ρ2 S2
      | .no => .no
def sFor (f : IM) (g : TgM) (b : SM) : SM := fun ρ S => SR.ofE (f ρ S) ρ fun xs S1 => forL g b xs ρ S1
theorem drop_at {α : Type} {xs : List α} {i : Nat} {x : α} (h : xs[i]? = some x) : xs.drop i = x :: xs.drop (i + 1) := by
  obtain ⟨h1, h2⟩ := List.getElem?_eq_some_iff.mp h
  rw [List.drop_eq_getElem_cons h1, h2]
theorem pms_for {fi : IM} {g : TgM} {sl : List Nat} {fb : SM} {body : List Stmt} {pos : Pos} (hp : PassesOwn (model X.prog X.w) X.A X.env X.xe) (hc : X.calm = true) (hi : PMI X W tg e fi) (hg : PMG X tg g sl) (hb : PMB X W body fb)
    (hs : ∀ x, foldedSetIterable e X.env x = pure x := by intro _; rfl) : PMS X W (.For tg e body [] pos) (sFor fi g fb) :=
  PS.imp (ps_for hp hc hi hg hb hs) fun Dn σ H ⟨O, L, S, ρ, a, h⟩ => by
    refine ⟨O, L, S, ρ, a, EndG.imp (EndS.ofE a.re h) fun xs S1 L1 H1 e1 st1 h1 J wk => ?_⟩
    refine ⟨fun i m σ' H' => m = xs.length - i ∧ i ≤ xs.length ∧ ∃ (L' : List Addr) (S' : Store) (ρ' : Env), Ext L1 H1 L' H' ∧ At X.K X.mg O L' S' ρ' σ' H' ∧ EndS X.K X.mg W O L' H' Dn (forL g fb (xs.drop i) ρ' S'), ⟨xs.length, by simp, Nat.zero_le _, L1, S1, ρ, Ext.refl _ _, a.mono e1 st1, h1⟩, ?_⟩
    rintro i m σ' H' ⟨rfl, hi, L', S', ρ', e', a', h'⟩
    obtain ⟨w1, w2⟩ := wk O L' H' S' e'.kp a'.st
    by_cases hlt : i < xs.length
    · have hx := List.getElem?_eq_getElem hlt
      obtain ⟨g1, g2⟩ := w1 i _ hx
      refine .inr ⟨g1, fun σ2 H2 => (xs.length - (i + 1) = xs.length - (i + 1) ∧ i + 1 ≤ xs.length ∧ ∃ (L' : List Addr) (S' : Store) (ρ' : Env), Ext L1 H1 L' H2 ∧ At X.K X.mg O L' S' ρ' σ2 H2 ∧ EndS X.K X.mg W O L' H2 Dn (forL g fb (xs.drop (i + 1)) ρ' S')), fun σ2 H2 q => ⟨xs.length - (i + 1), by omega, q⟩, fun v H2 y => ?_⟩
      obtain ⟨sm, rv⟩ := g2 v H2 y
      rw [drop_at hx] at h'
      unfold forL at h'
      cases hq : g xs[i] ρ' with
      | none => rw [hq] at h'; exact h'.elim
      | some ρ1 =>
        rw [hq] at h'
        have e2 := Same.ext (L := L') sm
        refine ⟨O, L', S', ρ', ρ1, xs[i], a'.mono e2 (a'.st.same sm), rv, hq, fun σ3 a3 _ => ⟨O, L', S', ρ1, a3, ?_⟩⟩
        have h2 := EndS.later e2 h'
        have next : ∀ {ρ2 : Env} {S2 : Store}, EndS X.K X.mg W O L' H2 Dn (forL g fb (xs.drop (i + 1)) ρ2 S2) → ∀ (σ4 : St) (H4 : Hp) (L4 : List Addr), Ext L' H2 L4 H4 → At X.K X.mg O L4 S2 ρ2 σ4 H4 →
            (xs.length - (i + 1) = xs.length - (i + 1) ∧ i + 1 ≤ xs.length ∧ ∃ (L' : List Addr) (S' : Store) (ρ' : Env), Ext L1 H1 L' H4 ∧ At X.K X.mg O L' S' ρ' σ4 H4 ∧ EndS X.K X.mg W O L' H4 Dn (forL g fb (xs.drop (i + 1)) ρ' S')) :=
          fun {ρ2 S2} q σ4 H4 L4 e4 a4 => ⟨rfl, hlt, L4, S2, ρ2, (e'.trans e2).trans e4, a4, EndS.later e4 q⟩
        cases hb : fb ρ1 S' with
        | nx ρ2 S2 => simp only [hb] at h2; exact next h2
        | ct ρ2 S2 => simp only [hb] at h2; exact next h2
        | bk ρ2 S2 => simp only [hb] at h2; exact h2
        | rt d S2 => simp only [hb] at h2; exact h2
        | ex x ρ2 S2 => simp only [hb] at h2; exact h2
        | no => simp only [hb] at h2; exact h2
    · have hi' : i = xs.length := by omega
      subst hi'
      rw [List.drop_length] at h'
      exact .inl ⟨w2, h' σ' H' L' (Ext.refl _ _) a'⟩
/-! ### list comprehensions -/
def wipeE (ρ : Env) : List Nat → Env
  | [] => ρ
  | v :: vs => (wipeE ρ vs).set v none
theorem RE.wipe {K : PySem.W.Frag} {H : Hp} {O L : List Addr} {ρ : Env} {σ : St} (r : RE K H O L ρ σ) : ∀ vs : List Nat, RE K H O L (wipeE ρ vs) (L2.wipe σ vs)
  | [] => r
  | v :: vs => (RE.wipe r vs).wipe1 v
def compL (g : TgM) (t : BM) (fe : EM) (ρ : Env) : List PyData → Store → Res (List PyData)
  | [], S => .ok [] S
  | x :: xs, S => match g x ρ with
    | none => .no
    | some ρ1 => match t ρ1 S with
      | .ok true S1 => match fe ρ1 S1 with
        | .ok (.d y) S2 => match compL g t fe ρ xs S2 with
          | .ok ys S3 => .ok (y :: ys) S3
          | _ => .no
        | _ => .no
      | .ok false S1 => compL g t fe ρ xs S1
      | _ => .no
def mComp (f : IM) (g : TgM) (t : BM) (fe : EM) (own : List Nat) : EM := fun ρ S => (f ρ S).andThen fun xs S1 => if xs.length < sizeLine then (match compL g t fe (wipeE ρ own) xs S1 with
  | .ok ys S2 => .ok (.d (.list ys)) S2
  | _ => .no) else .no
def W0 : WX := fun _ _ _ _ => False
def bYes : BM := fun _ S => .ok true S
abbrev PMTs (X : Cx) (W : WX) (ifs : List Expr) (t : BM) : Prop := PTs X ifs (tB X.K X.mg W t)
theorem PTs.imp {ifs : List Expr} {t t' : TT} (h : PTs X ifs t) (q : ∀ σ H Q, t' σ H Q → t σ H Q) : PTs X ifs t' := ⟨fun pins s σ H Q I hw => h.run pins s σ H Q I (q σ H Q hw)⟩
theorem pmts_nil : PMTs X W [] bYes := PTs.imp pts_nil fun σ H Q ⟨O, L, S, ρ, a, h⟩ => h H L (Ext.refl _ _) a.st
theorem pmts_one {c : Expr} {t : BM} (h : PMT X W c t) : PMTs X W [c] t := pts_one h
theorem EndG.okd {K : PySem.W.Frag} {mg : MG} {O L : List Addr} {H : Hp} {σ : St} {Q : VK} {r : Res D} {y : D} {S : Store} (e : r = .ok y S) (h : ∀ v H' L', Ext L H L' H' → Sto K mg H' O L' S → RD K H' O L' y v → Q v H') : EndG K mg W O L H σ (fun d _ L' H' => ∀ v, RD K H' O L' d v → Q v H') r := by
  subst e
  exact fun H' L' e st v r => h v H' L' e st r
theorem EndG.okb {K : PySem.W.Frag} {mg : MG} {O L : List Addr} {H : Hp} {σ : St} {Q : Bool → Hp → Prop} {r : Res Bool} {y : Bool} {S : Store} (e : r = .ok y S) (h : ∀ H' L', Ext L H L' H' → Sto K mg H' O L' S → Q y H') : EndG K mg W O L H σ (fun d _ L' H' => Q d H') r := by
  subst e
  exact h
end
end Sky
namespace Sky
open PySem PySem.Spec PyProof.Rows L2
section
variable {X : Cx} {W : WX} {tg e : Expr}
/-- one turn and what comes behind it -/
theorem compL_turn {g : TgM} {t : BM} {fe : EM} {ρ : Env} {x : PyData} {xs : List PyData} {S S' : Store} {ys : List PyData} (h : compL g t fe ρ (x :: xs) S = .ok ys S') :
    ∃ ρ1, g x ρ = some ρ1 ∧ ((∃ S1, t ρ1 S = .ok false S1 ∧ compL g t fe ρ xs S1 = .ok ys S') ∨ ∃ S1 y S2 zs, t ρ1 S = .ok true S1 ∧ fe ρ1 S1 = .ok (.d y) S2 ∧ compL g t fe ρ xs S2 = .ok zs S' ∧ ys = y :: zs) := by
  unfold compL at h
  cases hg : g x ρ with
  | none => simp only [hg] at h; cases h
  | some ρ1 =>
    simp only [hg] at h
    refine ⟨ρ1, rfl, ?_⟩
    cases ht : t ρ1 S with
    | no => simp only [ht] at h; cases h
    | exc _ _ => simp only [ht] at h; cases h
    | ok b S1 =>
      cases b with
      | false => simp only [ht] at h; exact .inl ⟨S1, rfl, h⟩
      | true =>
        simp only [ht] at h
        cases hf : fe ρ1 S1 with
        | no => simp only [hf] at h; cases h
        | exc _ _ => simp only [hf] at h; cases h
        | ok y S2 =>
          cases y with
          | d y =>
            simp only [hf] at h
            cases hr : compL g t fe ρ xs S2 with
            | no => simp only [hr] at h; cases h
            | exc _ _ => simp only [hr] at h; cases h
            | ok zs S3 =>
              simp only [hr] at h
              cases h
              exact .inr ⟨S1, y, S2, zs, rfl, hf, hr, rfl⟩
          | r _ => simp only [hf] at h; cases h
          | s _ => simp only [hf] at h; cases h
theorem wipe_wipe (σ : St) (vs : List Nat) : L2.wipe (L2.wipe σ vs) vs = L2.wipe σ vs := by
  refine List.ext_getElem? fun j => ?_
  rw [wipe_get, wipe_get]
  by_cases h : j ∈ vs
  · rw [if_pos h, if_pos h]
    cases σ[j]? <;> rfl
  · rw [if_neg h, if_neg h]
theorem mComp.go {fi : IM} {g : TgM} {sl own : List Nat} {t : BM} {fe : EM} {K : PySem.W.Frag} {mg : MG} {σ : St} {H : Hp} {Q : VK} (hsl : ∀ i ∈ sl, i ∈ own) (h : tM K mg W (mComp fi g t fe own) σ H Q) :
    tLc (tI K mg W fi) (tG K mg g sl) (tB K mg W0 t) (tM K mg W0 fe) own σ H Q := by
  obtain ⟨O, L, S, ρ, a, h⟩ := h
  refine ⟨O, L, S, ρ, a, EndG.imp (EndG.bind h) fun xs S1 L1 H1 e1 st1 h1 J wk D hD => ?_⟩
  obtain ⟨hlen, h1⟩ := ite_of h1
  cases hc : compL g t fe (wipeE ρ own) xs S1 with
  | no => simp only [hc] at h1; exact h1.elim
  | exc _ _ => simp only [hc] at h1; exact h1.elim
  | ok ys S2 =>
    simp only [hc] at h1
    have hDn : D ∉ O ++ L1 := st1.fresh hD
    have sm0 := same_upd (o := .lst []) hD
    have k0 : Kp H1 (O ++ L1) (upd H1 D (.lst [])) ((D :: O) ++ L1) := fun b o q n => ⟨fun z => by
      rcases List.mem_cons.mp z with z | z
      · exact ne_of_none q hD z
      · exact n z, sm0 b o q⟩
    refine ⟨fun i m H' => m = xs.length - i ∧ i ≤ xs.length ∧ ∃ (L' : List Addr) (S' : Store) (acc zs : List PyData) (vs : List V), Ext L1 H1 L' H' ∧ Sto K mg H' (D :: O) L' S' ∧ RE K H' (D :: O) L' (wipeE ρ own) (L2.wipe σ own) ∧ Kp H1 (O ++ L1) H' ((D :: O) ++ L') ∧
      H' D = some (.lst vs) ∧ D ∉ O ++ L' ∧ RpL K H' ((D :: O) ++ L') acc vs ∧ acc.length ≤ i ∧ compL g t fe (wipeE ρ own) (xs.drop i) S' = .ok zs S2 ∧ ys = acc ++ zs, ?_, ?_⟩
    · refine ⟨xs.length, by simp, Nat.zero_le _, L1, S1, [], ys, [], Same.ext sm0, ?_, ?_, k0, upd_same, hDn, .nil, Nat.le_refl _, hc, rfl⟩
      · refine ⟨st1.len, st1.nd, fun i c b q1 q2 => ?_, fun b hb => ?_⟩
        · have ck := st1.cell i c b q1 q2
          obtain ⟨o, ho⟩ := ck.there
          exact ck.monoK k0 (fun _ _ z => z) (by rw [ho]; exact sm0 b o ho)
        · rcases List.mem_cons.mp hb with rfl | hb
          · exact ⟨_, upd_same⟩
          · exact (st1.out b hb).imp fun o q => sm0 b o q
      · exact ((a.re.mono e1).wipe own).monoK k0 fun _ _ z => z
    · rintro i m H' ⟨rfl, hi, L', S', acc, zs, vs, e', st', re', kp', hv, hn, rp, hal, hz, hy⟩
      obtain ⟨w1, w2⟩ := wk (D :: O) L' H' S' kp' st'
      by_cases hlt : i < xs.length
      · have hx := List.getElem?_eq_getElem hlt
        obtain ⟨g1, g2⟩ := w1 i _ hx
        rw [drop_at hx] at hz
        obtain ⟨ρ1, hg, ht⟩ := compL_turn hz
        refine .inr ⟨g1, fun H2 => xs.length - (i + 1) = xs.length - (i + 1) ∧ i + 1 ≤ xs.length ∧ ∃ (L' : List Addr) (S' : Store) (acc zs : List PyData) (vs : List V), Ext L1 H1 L' H2 ∧ Sto K mg H2 (D :: O) L' S' ∧ RE K H2 (D :: O) L' (wipeE ρ own) (L2.wipe σ own) ∧ Kp H1 (O ++ L1) H2 ((D :: O) ++ L') ∧
          H2 D = some (.lst vs) ∧ D ∉ O ++ L' ∧ RpL K H2 ((D :: O) ++ L') acc vs ∧ acc.length ≤ i + 1 ∧ compL g t fe (wipeE ρ own) (xs.drop (i + 1)) S' = .ok zs S2 ∧ ys = acc ++ zs, fun H2 q => ⟨_, by omega, q⟩, fun v H2 y => ?_⟩
        obtain ⟨sm, rv⟩ := g2 v H2 y
        have e2 := Same.ext (L := L') sm
        have st2 := st'.same sm
        refine ⟨D :: O, L', S', wipeE ρ own, ρ1, xs[i], ⟨re'.mono e2, st2⟩, rv, hg, fun σ3 a3 wp => ⟨(wp own hsl).trans (wipe_wipe σ own), ?_⟩⟩
        have kp2 : Kp H1 (O ++ L1) H2 ((D :: O) ++ L') := fun b o q n => ⟨(kp' b o q n).1, sm b o (kp' b o q n).2⟩
        -- what a later state is
        have later : ∀ {H4 : Hp} {L4 : List Addr}, Ext L' H2 L4 H4 → Kp H1 (O ++ L1) H4 ((D :: O) ++ L4) ∧ H4 D = some (.lst vs) ∧ D ∉ O ++ L4 := fun {H4 L4} e4 => by
          have kk := e4.kp (O := D :: O)
          have hD2 : H2 D = some (.lst vs) := sm D _ hv
          refine ⟨fun b o q n => kk b o (kp2 b o q n).2 (kp2 b o q n).1, e4.keep D _ hD2 fun z => hn (List.mem_append_right _ z), fun z => ?_⟩
          rcases List.mem_append.mp z with z | z
          · exact hn (List.mem_append_left _ z)
          · rcases e4.new D z with z | z
            · exact hn (List.mem_append_right _ z)
            · rw [hD2] at z; cases z
        rcases ht with ⟨S3, ht, hr⟩ | ⟨S3, y, S4, ws, ht, hf, hr, rfl⟩
        · refine ⟨D :: O, L', S', ρ1, a3, EndG.okb ht fun H4 L4 e4 st4 => ?_⟩
          refine iteF ⟨rfl, hlt, L4, S3, acc, zs, vs, (e'.trans e2).trans e4, st4, (re'.mono e2).mono e4, (later e4).1, (later e4).2.1, (later e4).2.2, RpL.mono (e2.trans e4).kp _ _ rp, by omega, hr, hy⟩
        · refine ⟨D :: O, L', S', ρ1, a3, EndG.okb ht fun H4 L4 e4 st4 => ?_⟩
          refine iteT ⟨D :: O, L4, S3, ρ1, a3.mono e4 st4, EndG.okd hf fun w H5 L5 e5 st5 r5 => ?_⟩
          have e45 := e4.trans e5
          have lt := later e45
          have lr : acc.length = vs.length := rp.length
          refine ⟨vs, lt.2.1, by omega, rfl, hlt, L5, S4, acc ++ [y], ws, vs ++ [w], ?_, ?_, ?_, ?_, upd_same, lt.2.2, ?_, by rw [List.length_append, List.length_singleton]; omega, hr, by rw [hy, List.append_assoc]; rfl⟩
          all_goals have k6 : Kp H5 ((D :: O) ++ L5) (upd H5 D (.lst (vs ++ [w]))) ((D :: O) ++ L5) := fun b o q n => ⟨n, by rw [upd_ne (fun z => n (by rw [z]; exact List.mem_cons_self))]; exact q⟩
          · have E := (e'.trans e2).trans e45
            exact ⟨E.pre, E.new, fun b o q n => by rw [upd_ne (ne_of_none q hD)]; exact E.keep b o q n⟩
          · refine ⟨st5.len, st5.nd, fun i c b q1 q2 => ?_, fun b hb => ?_⟩
            · have nb : b ≠ D := fun z => lt.2.2 (List.mem_append_right _ (by rw [← z]; exact List.mem_of_getElem? q2))
              exact (st5.cell i c b q1 q2).monoK k6 (fun _ _ z => z) (upd_ne nb)
            · by_cases hbD : b = D
              · rw [hbD]; exact ⟨_, upd_same⟩
              · rw [upd_ne hbD]; exact st5.out b hb
          · exact ((re'.mono e2).mono e45).monoK k6 fun _ _ z => z
          · exact fun b o q n => ⟨(lt.1 b o q n).1, by rw [upd_ne (ne_of_none q hD)]; exact (lt.1 b o q n).2⟩
          · refine RpL.append (RpL.mono k6 _ _ (RpL.mono (e2.trans e45).kp _ _ rp)) (.cons ?_ .nil)
            cases r5 with
            | d r5 => exact Rp.mono k6 _ _ r5
      · have hi' : i = xs.length := by omega
        subst hi'
        rw [List.drop_length] at hz
        cases hz
        rw [List.append_nil] at hy
        subst hy
        refine .inl ⟨w2, h1 H' L' e' ?_ _ (.d (.lst hv hn (RpL.mono (Kp.sub fun b hb => List.mem_cons_of_mem _ hb) _ _ rp)))⟩
        refine ⟨st'.len, st'.nd, fun i c b q1 q2 => (st'.cell i c b q1 q2).monoK (Kp.sub fun b hb => List.mem_cons_of_mem _ hb) (fun _ _ z => z) rfl, fun b hb => st'.out b (List.mem_cons_of_mem _ hb)⟩
theorem pm_comp {elt iter : Expr} {ifs : List Expr} {scope : Scope} {own : List (Str × Nat)} {pos : Pos} {fi : IM} {g : TgM} {sl : List Nat} {t : BM} {fe : EM} (hc : X.calm = true) (hN : X.N.Nodup) (hi : PMI X W tg iter fi) (ok : BlkOk X.N X.env.scope scope own)
    (hg : ∀ (s : Shared) (H : Hp) (C : Addr) (cl : List (Str × Addr)) (fp : List Addr), PG (X.blk s H scope (compEnvC scope cl C X.env) fp) tg (tG X.K X.mg g sl)) (ht : ∀ (s : Shared) (H : Hp) (C : Addr) (cl : List (Str × Addr)) (fp : List Addr), PTs (X.blk s H scope (compEnvC scope cl C X.env) fp) ifs (tB X.K X.mg W0 t))
    (he : ∀ (s : Shared) (H : Hp) (C : Addr) (cl : List (Str × Addr)) (fp : List Addr), PE (X.blk s H scope (compEnvC scope cl C X.env) fp) elt (tM X.K X.mg W0 fe)) (hsl : ∀ i ∈ sl, i ∈ own.map (·.2) := by decide) (hs : ∀ x, foldedSetIterable iter X.env x = pure x := by intro _; rfl) :
    PM X W (.ListComp elt [⟨tg, iter, ifs, 0⟩] scope pos) (mComp fi g t fe (own.map (·.2))) :=
  PE.imp (pe_lc hc hN hi ok hg ht he hs) fun σ H Q h => mComp.go hsl h
/-- name = [..] on one line -/
theorem pms_setLc (i : Nat) {y : Str} {py : Pos} {elt iter : Expr} {ifs : List Expr} {scope : Scope} {own : List (Str × Nat)} {pos spos : Pos} {fi : IM} {g : TgM} {sl : List Nat} {t : BM} {fe : EM} (hc : X.calm = true) (hN : X.N.Nodup) (hi : PMI X W tg iter fi) (ok : BlkOk X.N X.env.scope scope own)
    (hsw : swapsWith (.ListComp elt [⟨tg, iter, ifs, 0⟩] scope pos) (some (.Name y py)) spos.line X.env = pure true)
    (hg : ∀ (s : Shared) (H : Hp) (C : Addr) (cl : List (Str × Addr)) (fp : List Addr), PG (X.blk s H scope (compEnvC scope cl C X.env) fp) tg (tG X.K X.mg g sl)) (ht : ∀ (s : Shared) (H : Hp) (C : Addr) (cl : List (Str × Addr)) (fp : List Addr), PTs (X.blk s H scope (compEnvC scope cl C X.env) fp) ifs (tB X.K X.mg W0 t))
    (he : ∀ (s : Shared) (H : Hp) (C : Addr) (cl : List (Str × Addr)) (fp : List Addr), PE (X.blk s H scope (compEnvC scope cl C X.env) fp) elt (tM X.K X.mg W0 fe)) (hy : X.N[i]? = some y := by rfl) (hyl : X.env.scope.names.lookup y = some .local := by rfl) (hsl : ∀ i ∈ sl, i ∈ own.map (·.2) := by decide) (hs : ∀ x, foldedSetIterable iter X.env x = pure x := by intro _; rfl) :
    PMS X W (.Assign [.Name y py] (.ListComp elt [⟨tg, iter, ifs, 0⟩] scope pos) spos) (sSet i (mComp fi g t fe (own.map (·.2)))) :=
  PS.imp (ps_setLc hc hN hy hyl hsw hi ok hg ht he hs) fun Dn σ H ⟨O, L, S, ρ, a, h⟩ => by
    have h2 : tM X.K X.mg W (mComp fi g t fe (own.map (·.2))) σ H (fun x H1 => gName i x σ H1 Dn.nx) :=
      tM.stmt a h fun d v S' L' H' a' e' r h' => h' _ H' L' (Ext.refl _ _) ⟨a'.re.set r i, a'.st⟩
    exact mComp.go hsl h2
end
end Sky
end
section
/-! Lay8: calls of built-ins, cells changed, defs. -/
namespace Sky
open PySem PySem.Spec PyProof.Rows L2
/-! ### a cell is written -/
section
variable {K : PySem.W.Frag} {mg : MG} {H : Hp} {O L : List Addr} {S : Store} {i : Nat} {a : Addr} {c : Cell} {o : HO}
theorem Ext.upd (h : L[i]? = some a) : Ext L H L (upd H a o) := ⟨fun _ _ z => z, fun _ z => .inl z, fun b u q n => by
  rw [upd_ne (fun z => n (by rw [z]; exact List.mem_of_getElem? h))]
  exact q⟩
theorem Sto.upd (st : Sto K mg H O L S) (h : L[i]? = some a) (k : CellOk K mg (upd H a o) O L a c) : Sto K mg (upd H a o) O L (S.set i c) where
  len := by rw [List.length_set]; exact st.len
  nd := st.nd
  cell := fun j c' b h1 h2 => by
    by_cases hj : i = j
    · subst hj
      rw [h] at h2
      cases h2
      have hl : i < S.length := by rw [← st.len]; exact (List.getElem?_eq_some_iff.mp h).1
      rw [List.getElem?_set_self hl] at h1
      cases h1
      exact k
    · rw [List.getElem?_set_ne hj] at h1
      have nb : b ≠ a := fun z => hj ((List.getElem?_inj (List.getElem?_eq_some_iff.mp h).1 st.nd).mp (by rw [h, h2, z]))
      exact (st.cell j c' b h1 h2).mono (Ext.upd h) (upd_ne nb)
  out := fun b hb => by
    by_cases hba : b = a
    · rw [hba]; exact ⟨_, upd_same⟩
    · rw [upd_ne hba]; exact st.out b hb
end
/-! ### built-ins by values -/
def rCl (K : PySem.W.Frag) (mg : MG) (g : Store → List D → Option D) : List V → Hp → VK → Prop := fun vs H Q => ∃ (O L : List Addr) (S : Store) (ds : List D) (d : D), Sto K mg H O L S ∧ RDL K H O L ds vs ∧ g S ds = some d ∧ ∀ v H', Same H H' → RD K H' O L d v → Q v H'
def mCl (g : Store → List D → Option D) (f : AM) : EM := fun ρ S => (f ρ S).andThen fun ds S1 => Res.of (g S1 ds) S1
section
variable {X : Cx} {W : WX} {x : Str} {p pos : Pos} {e : Expr} {es : List Expr} {f : AM} {g : Store → List D → Option D} {id T : String}
theorem mCl.go {σ : St} {H : Hp} {Q : VK} (h : tM X.K X.mg W (mCl g f) σ H Q) : tCB (rCl X.K X.mg g) (tA X.K X.mg W f) σ H Q := by
  obtain ⟨O, L, S, ρ, a, h⟩ := h
  refine tA.part a h fun ds vs S1 L1 H1 a1 e1 r1 h1 => ?_
  obtain ⟨d, hd, h2⟩ := EndG.of_some h1
  exact ⟨O, L1, S1, ds, d, a1.st, r1, hd, fun v H' sm r => h2 H' L1 (Same.ext sm) (a1.st.same sm) v r⟩
theorem pm_callB (hc : CallR X (.builtin id) (rCl X.K X.mg g)) (hg : Gl X x) (hm : X.mg x = none) (hv : bootBuiltins x = some (.builtin id)) (ha : PMA X W (e :: es) f) (hn : x ≠ "__name__" := by decide) (hdb : (x == ("__debug__" : Str)) = false := by decide)
    (he : starEach (e :: es) X.env = (false, eval e X.env) :: starEach es X.env := by rfl) (hpl : (backTo pos (starEach es X.env)).any (·.1) = false := by rfl) : PM X W (.Call (.Name x p) (e :: es) [] pos) (mCl g f) :=
  PE.imp (pe_callB hc hg hm hv ha hn hdb he hpl) fun σ H Q h => mCl.go h
theorem pm_callT (hc : CallR X (.type T) (rCl X.K X.mg g)) (hg : Gl X x) (hm : X.mg x = none) (hv : bootBuiltins x = some (.type T)) (ha : PMA X W (e :: es) f) (hn : x ≠ "__name__" := by decide) (hdb : (x == ("__debug__" : Str)) = false := by decide)
    (he : starEach (e :: es) X.env = (false, eval e X.env) :: starEach es X.env := by rfl) (hpl : (backTo pos (starEach es X.env)).any (·.1) = false := by rfl) : PM X W (.Call (.Name x p) (e :: es) [] pos) (mCl g f) :=
  PE.imp (pe_callTy hc hg hm hv ha hn hdb he hpl) fun σ H Q h => mCl.go h
def cAbs (_ : Store) (ds : List D) : Option D := match ds with
  | [.d (.int i)] => some (.d (.int (if i < 0 then -i else i)))
  | _ => none
def cMin2 (_ : Store) (ds : List D) : Option D := match ds with
  | [.d (.int i), .d (.int j)] => some (.d (.int (if j < i then j else i)))
  | _ => none
def cMax2 (_ : Store) (ds : List D) : Option D := match ds with
  | [.d (.int i), .d (.int j)] => some (.d (.int (if j > i then j else i)))
  | _ => none
/-- how many -/
def lenOf (S : Store) : D → Option Nat
  | .d (.str z) => if z.length ≤ sizeLine then some z.length else none
  | .d (.tuple xs) => some xs.length
  | x => (lk S x).map (·.length)
def cLen (S : Store) (ds : List D) : Option D := match ds with
  | [x] => (lenOf S x).map fun (n : Nat) => .d (.int (n : Int))
  | _ => none
def cTup (S : Store) (ds : List D) : Option D := match ds with
  | [.d (.tuple xs)] => some (.d (.tuple xs))
  | [x] => (lk S x).map fun xs => .d (.tuple xs)
  | _ => none
def cLst (S : Store) (ds : List D) : Option D := match ds with
  | [.d (.tuple xs)] => some (.d (.list xs))
  | [x] => (lk S x).map fun xs => .d (.list xs)
  | _ => none
def cInt (_ : Store) (ds : List D) : Option D := match ds with
  | [.d (.int i)] => some (.d (.int i))
  | [.d (.bool k)] => some (.d (.int (if k = true then 1 else 0)))
  | _ => none
/-- a list of ints, of truths -/
def intsOf : List PyData → Option (List Int)
  | [] => some []
  | .int i :: r => (intsOf r).map (i :: ·)
  | _ => none
def blsOf : List PyData → Option (List Bool)
  | [] => some []
  | .bool i :: r => (blsOf r).map (i :: ·)
  | _ => none
def cSum (S : Store) (ds : List D) : Option D := match ds with
  | [x] => ((lk S x).bind intsOf).map fun ns => .d (.int ns.sum)
  | _ => none
def cAll (S : Store) (ds : List D) : Option D := match ds with
  | [x] => ((lk S x).bind blsOf).map fun bs => .d (.bool (bs.all _root_.id))
  | _ => none
theorem intsOf_v {K : PySem.W.Frag} {H : Hp} {B : List Addr} : ∀ {ds : List PyData} {vs : List V} {ns : List Int}, RpL K H B ds vs → intsOf ds = some ns → vs = ns.map V.int
  | _, _, _, .nil, h => by cases h; rfl
  | _, _, ns, .cons (d := .int i) r t, h => by
    cases q : intsOf _ with
    | none => rw [intsOf, q] at h; cases h
    | some ms =>
      rw [intsOf, q] at h
      cases h
      cases r
      rw [intsOf_v t q]
      rfl
  | _, _, _, .cons (d := .none) _ _, h => by cases h
  | _, _, _, .cons (d := .bool _) _ _, h => by cases h
  | _, _, _, .cons (d := .str _) _ _, h => by cases h
  | _, _, _, .cons (d := .list _) _ _, h => by cases h
  | _, _, _, .cons (d := .tuple _) _ _, h => by cases h
  | _, _, _, .cons (d := .dict _) _ _, h => by cases h
theorem blsOf_v {K : PySem.W.Frag} {H : Hp} {B : List Addr} : ∀ {ds : List PyData} {vs : List V} {ns : List Bool}, RpL K H B ds vs → blsOf ds = some ns → vs = ns.map V.bl
  | _, _, _, .nil, h => by cases h; rfl
  | _, _, ns, .cons (d := .bool i) r t, h => by
    cases q : blsOf _ with
    | none => rw [blsOf, q] at h; cases h
    | some ms =>
      rw [blsOf, q] at h
      cases h
      cases r
      rw [blsOf_v t q]
      rfl
  | _, _, _, .cons (d := .none) _ _, h => by cases h
  | _, _, _, .cons (d := .int _) _ _, h => by cases h
  | _, _, _, .cons (d := .str _) _ _, h => by cases h
  | _, _, _, .cons (d := .list _) _ _, h => by cases h
  | _, _, _, .cons (d := .tuple _) _ _, h => by cases h
  | _, _, _, .cons (d := .dict _) _ _, h => by cases h
theorem map_some {α β : Type} {f : α → β} {o : Option α} {d : β} (h : o.map f = some d) : ∃ x, o = some x ∧ d = f x := by
  cases o with
  | none => cases h
  | some x => cases h; exact ⟨x, rfl, rfl⟩
theorem k_abs : CallR X (.builtin "abs") (rCl X.K X.mg cAbs) := by
  intro pins s σ H vs us Q I rv ⟨O, L, S, ds, d, st, r, hg, q⟩
  unfold cAbs at hg
  split at hg
  · cases hg
    cases r with
    | cons r t => cases t; obtain rfl := ii r; exact call_abs pins s σ H _ us Q I rv ⟨_, rfl, q _ H (Same.refl H) (.d (.int _))⟩
  · cases hg
theorem k_min2 (hc : X.calm = true) : CallR X (.builtin "min") (rCl X.K X.mg cMin2) := by
  intro pins s σ H vs us Q I rv ⟨O, L, S, ds, d, st, r, hg, q⟩
  unfold cMin2 at hg
  split at hg
  · cases hg
    cases r with
    | cons r t =>
      cases t with
      | cons r2 t =>
        cases t
        obtain rfl := ii r
        obtain rfl := ii r2
        exact call_min2 hc pins s σ H _ us Q I rv ⟨_, _, rfl, q _ H (Same.refl H) (.d (.int _))⟩
  · cases hg
theorem k_max2 (hc : X.calm = true) : CallR X (.builtin "max") (rCl X.K X.mg cMax2) := by
  intro pins s σ H vs us Q I rv ⟨O, L, S, ds, d, st, r, hg, q⟩
  unfold cMax2 at hg
  split at hg
  · cases hg
    cases r with
    | cons r t =>
      cases t with
      | cons r2 t =>
        cases t
        obtain rfl := ii r
        obtain rfl := ii r2
        exact call_max2 hc pins s σ H _ us Q I rv ⟨_, _, rfl, q _ H (Same.refl H) (.d (.int _))⟩
  · cases hg
theorem k_len : CallR X (.builtin "len") (rCl X.K X.mg cLen) := by
  intro pins s σ H vs us Q I rv ⟨O, L, S, ds, d, st, r, hg, q⟩
  unfold cLen at hg
  split at hg
  · rename_i dx
    obtain ⟨n, hn, rfl⟩ := map_some hg
    cases r with
    | cons r t =>
      cases t
      have fin : ∀ {v : V}, LenV X.K v H n → us = us → Vals [v] us → wpAny (model X.prog X.w) X.A (call (.builtin "len") us) (EP X pins σ Q) X.xe s := fun {v} lv _ rv => call_len pins s σ H _ us Q I rv ⟨v, n, rfl, lv, q _ H (Same.refl H) (.d (.int _))⟩
      unfold lenOf at hn
      split at hn
      · obtain ⟨hz, rfl⟩ := some_of_ite hn
        obtain rfl := ss r
        exact fin (v := .str _) (And.intro hz rfl) rfl rv
      · cases hn
        obtain ⟨a, vs, rfl, ha, _, ra, _⟩ := tt r
        exact fin (v := .ref a) (Or.inr ⟨vs, ha, ra.length⟩) rfl rv
      · obtain ⟨xs, hx, rfl⟩ := map_some hn
        obtain ⟨a, vs, rfl, ha, ra⟩ := lk_at st r hx
        exact fin (v := .ref a) (Or.inl ⟨vs, .inl (.inl ha), ra.length⟩) rfl rv
  · cases hg
theorem k_tup : CallR X (.type "tuple") (rCl X.K X.mg cTup) := by
  intro pins s σ H vs us Q I rv ⟨O, L, S, ds, d, st, r, hg, q⟩
  unfold cTup at hg
  split at hg
  · cases hg
    cases r with
    | cons r t =>
      cases t
      obtain ⟨a, vs, rfl, ha, _, ra, wa⟩ := tt r
      exact call_tuple_of pins s σ H _ us Q I rv ⟨a, vs, rfl, .inr ⟨ha, q _ H (Same.refl H) (.d wa)⟩⟩
  · obtain ⟨xs, hx, rfl⟩ := map_some hg
    cases r with
    | cons r t =>
      cases t
      obtain ⟨a, vs, rfl, ha, ra⟩ := lk_at st r hx
      exact call_tuple_of pins s σ H _ us Q I rv ⟨a, vs, rfl, .inl ⟨.inl (.inl ha), fun p hp => q _ _ (same_upd hp) (new_tup st hp ra)⟩⟩
  · cases hg
theorem k_lst : CallR X (.type "list") (rCl X.K X.mg cLst) := by
  intro pins s σ H vs us Q I rv ⟨O, L, S, ds, d, st, r, hg, q⟩
  unfold cLst at hg
  split at hg
  · cases hg
    cases r with
    | cons r t =>
      cases t
      obtain ⟨a, vs, rfl, ha, _, ra, wa⟩ := tt r
      exact call_list_of pins s σ H _ us Q I rv ⟨a, vs, rfl, .inr ha, fun p hp => q _ _ (same_upd hp) (new_lst st hp ra)⟩
  · obtain ⟨xs, hx, rfl⟩ := map_some hg
    cases r with
    | cons r t =>
      cases t
      obtain ⟨a, vs, rfl, ha, ra⟩ := lk_at st r hx
      exact call_list_of pins s σ H _ us Q I rv ⟨a, vs, rfl, .inl (.inl (.inl ha)), fun p hp => q _ _ (same_upd hp) (new_lst st hp ra)⟩
  · cases hg
theorem k_int : CallR X (.type "int") (rCl X.K X.mg cInt) := by
  intro pins s σ H vs us Q I rv ⟨O, L, S, ds, d, st, r, hg, q⟩
  unfold cInt at hg
  split at hg
  · cases hg
    cases r with
    | cons r t => cases t; obtain rfl := ii r; exact call_int1 pins s σ H _ us Q I rv (.inl ⟨_, rfl, q _ H (Same.refl H) (.d (.int _))⟩)
  · cases hg
    cases r with
    | cons r t => cases t; obtain rfl := bb r; exact call_int1 pins s σ H _ us Q I rv (.inr ⟨_, rfl, q _ H (Same.refl H) (.d (.int _))⟩)
  · cases hg
theorem k_sum (hc : X.calm = true) : CallR X (.builtin "sum") (rCl X.K X.mg cSum) := by
  intro pins s σ H vs us Q I rv ⟨O, L, S, ds, d, st, r, hg, q⟩
  unfold cSum at hg
  split at hg
  · obtain ⟨ns, hx, rfl⟩ := map_some hg
    obtain ⟨xs, h1, h2⟩ := Option.bind_eq_some_iff.mp hx
    cases r with
    | cons r t =>
      cases t
      obtain ⟨a, vs, rfl, ha, ra⟩ := lk_at st r h1
      obtain rfl := intsOf_v ra h2
      exact cr_sum hc pins s σ H _ us Q I rv ⟨a, ns, rfl, .inl (.inl ha), q _ H (Same.refl H) (.d (.int _))⟩
  · cases hg
theorem k_all (hc : X.calm = true) : CallR X (.builtin "all") (rCl X.K X.mg cAll) := by
  intro pins s σ H vs us Q I rv ⟨O, L, S, ds, d, st, r, hg, q⟩
  unfold cAll at hg
  split at hg
  · obtain ⟨ns, hx, rfl⟩ := map_some hg
    obtain ⟨xs, h1, h2⟩ := Option.bind_eq_some_iff.mp hx
    cases r with
    | cons r t =>
      cases t
      obtain ⟨a, vs, rfl, ha, ra⟩ := lk_at st r h1
      obtain rfl := blsOf_v ra h2
      exact cr_all hc pins s σ H _ us Q I rv ⟨a, ns, rfl, .inl (.inl ha), q _ H (Same.refl H) (.d (.bl _))⟩
  · cases hg
/-! ### isinstance -/
def isT (T : String) : PyData → Bool := fun d => match T with
  | "int" => d.isInt
  | "bool" => d.isBool
  | "str" => d.isStr
  | "tuple" => d.isTuple
  | "list" => d.isList
  | _ => false
def mIsi (T : String) (f : EM) : EM := fun ρ S => (f ρ S).andThen fun d S1 => match rf S1 d with
  | some x => if dp 60 x = true then .ok (.d (.bool (isT T x))) S1 else .no
  | none => .no
/-- what the library says of T -/
def IsiOk (X : Cx) (T : String) : Prop := ∀ (s : Shared) (v : Value) (d : PyData) (as : List Addr) (Q : Value → Shared → Prop) (E : Value → Shared → Prop), Reads s.heap v d as → (∀ tk, s.toks ≤ tk → Q (.bool (isT T d)) { s with toks := tk }) → wpAny (model X.prog X.w) X.A (call (.builtin "isinstance") [v, .type T]) Q E s
theorem isi_int : IsiOk X "int" := fun _ _ _ _ _ _ r h => PySem.W.isinstance_int_data r h
theorem isi_bool : IsiOk X "bool" := fun _ _ _ _ _ _ r h => PySem.W.isinstance_bool_data r h
theorem isi_str : IsiOk X "str" := fun _ _ _ _ _ _ r h => PySem.W.isinstance_str_data r h
theorem isi_tuple : IsiOk X "tuple" := fun _ _ _ _ _ _ r h => PySem.W.isinstance_tuple_data r h
theorem isi_list : IsiOk X "list" := fun _ _ _ _ _ _ r h => PySem.W.isinstance_list_data r h
theorem pm_isi {y : Str} {py : Pos} {fa : EM} (ok : IsiOk X T) (hg : Gl X "isinstance") (hm : X.mg "isinstance" = none) (hgy : Gl X y) (hmy : X.mg y = none) (hvy : bootBuiltins y = some (.type T)) (ha : PM X W e fa) (hny : y ≠ "__name__" := by decide) (hdy : (y == ("__debug__" : Str)) = false := by decide)
    (he : starEach (e :: [.Name y py]) X.env = (false, eval e X.env) :: starEach [.Name y py] X.env := by rfl) (he2 : starEach (.Name y py :: []) X.env = (false, eval (.Name y py) X.env) :: starEach [] X.env := by rfl) (hpl : (backTo pos (starEach [.Name y py] X.env)).any (·.1) = false := by rfl) :
    PM X W (.Call (.Name "isinstance" p) [e, .Name y py] [] pos) (mIsi T fa) := by
  have hc : CallR X (.builtin "isinstance") (fun vs H Q => ∃ (x : V) (d : PyData), vs = [x, .ty T] ∧ d.plain = true ∧ Rp X.K H [] d x ∧ Q (.bl (isT T d)) H) := by
    intro pins s σ H vs us Q I rv ⟨x, d, ev, pd, rd, q⟩
    subst ev
    obtain ⟨u, w', rfl, r1, r2⟩ := vals2 rv
    cases r2
    obtain ⟨as, rr⟩ := reads_of I pd rd r1
    exact ok s u d as _ _ rr fun tk _ => ⟨.bl _, H, I.tok tk, rfl, q⟩
  refine PE.imp (pe_callB hc hg hm (by decide +kernel) (pa_cons ha (pa_cons (pe_bltn (v := .ty T) hgy hmy hvy rfl hny hdy) pa_nil he2) he) (by decide) (by decide) he hpl) fun σ H Q ⟨O, L, S, ρ, a, h⟩ => ?_
  refine tM.part a h fun d v S1 L1 H1 a1 e1 r1 h1 => ?_
  show ∃ (x : V) (d : PyData), [v, V.ty T] = [x, .ty T] ∧ d.plain = true ∧ Rp X.K H1 [] d x ∧ Q (.bl (isT T d)) H1
  cases hr : rf S1 d with
  | none => simp only [hr] at h1; exact h1.elim
  | some y =>
    simp only [hr] at h1
    obtain ⟨hd, h1⟩ := ite_of h1
    exact ⟨v, y, rfl, (dp_plain _ _ hd).1, rf_rp a1.st r1 hr, h1 H1 L1 (Ext.refl _ _) a1.st _ (.d (.bl _))⟩
/-! ### xs.append(e), xs.pop() -/
def mApp (fo fa : EM) : EM := fun ρ S => (fo ρ S).andThen fun o S1 => match o with
  | .r i => match S1[i]? with
    | some (.lst _) => (fa ρ S1).andThen fun y S2 => match y with
      | .d y => match S2[i]? with
        | some (.lst xs) => if xs.length < sizeLine then .ok (.d .none) (S2.set i (.lst (xs ++ [y]))) else .no
        | _ => .no
      | _ => .no
    | _ => .no
  | _ => .no
theorem pm_app {o : Expr} {apos cpos : Pos} {fo fa : EM} (ho : PM X W o fo) (ha : PM X W e fa) (hs : starEach (e :: []) X.env = (false, eval e X.env) :: starEach [] X.env := by rfl)
    (hbase : attributeBase o "append" X.env (eval o X.env) = eval o X.env := by rfl)
    (hfew : ((backTo cpos (starEach (e :: []) X.env)).all (fun x => !x.1) && (backToKw cpos (keywordEach [] X.env)).all (fun x => x.1.isSome)
      && decide ((e :: []).length + ([] : List Keyword).length + (if ([] : List Keyword).isEmpty then 0 else 1) < 30)) = true := by rfl)
    (hline : (apos.endLine == cpos.line) = true := by rfl) (hplain : (backTo cpos (starEach [] X.env)).any (·.1) = false := by rfl) :
    PM X W (.Call (.Attribute o "append" apos) [e] [] cpos) (mApp fo fa) :=
  PE.imp (pe_bm PySem.F.plainAttrs_list PySem.F.slot_list_append PySem.F.type_list_append mt_append ho (pa_cons ha pa_nil hs) hbase hfew hline hs hplain) fun σ H Q ⟨O, L, S, ρ, a, h⟩ => by
    refine tM.part a h fun d v S1 L1 H1 a1 e1 r1 h1 => ?_
    cases d with
    | r i =>
      cases r1 with
      | @r _ b hb =>
        cases hk : S1[i]? with
        | none => simp only [hk] at h1; exact h1.elim
        | some c =>
          cases c with
          | lst xs0 =>
            simp only [hk] at h1
            cases a1.st.cell i _ b hk hb with
            | @lst _ vs0 q1 q2 =>
              refine ⟨.inl ⟨rfl, vs0, .inl (.inl q1)⟩, ?_⟩
              refine tM.part a1 h1 fun y w S2 L2 H2 a2 e2 r2 h2 => ?_
              cases y with
              | d y =>
                have hb2 := e2.pre i b hb
                cases hk2 : S2[i]? with
                | none => simp only [hk2] at h2; exact h2.elim
                | some c2 =>
                  cases c2 with
                  | lst xs =>
                    simp only [hk2] at h2
                    obtain ⟨hz, h2⟩ := ite_of h2
                    cases a2.st.cell i _ b hk2 hb2 with
                    | @lst _ vs q1 q2 =>
                      cases r2 with
                      | d r2 =>
                        refine ⟨b, vs, w, rfl, rfl, q1, by rw [← q2.length]; exact hz, ?_⟩
                        refine h2 _ L2 (Ext.upd hb2) (a2.st.upd hb2 (.lst upd_same ?_)) _ (.d .non)
                        have kk := (Ext.upd (H := H2) (o := .lst (vs ++ [w])) hb2).kp (O := O)
                        exact RpL.append (RpL.mono kk _ _ q2) (.cons (Rp.mono kk _ _ r2) .nil)
                  | dct _ => simp only [hk2] at h2; exact h2.elim
                  | ins _ _ => simp only [hk2] at h2; exact h2.elim
              | r _ => exact h2.elim
              | s _ => exact h2.elim
          | dct _ => simp only [hk] at h1; exact h1.elim
          | ins _ _ => simp only [hk] at h1; exact h1.elim
    | d _ => exact h1.elim
    | s _ => exact h1.elim
/-! ### xs[i] = e, d[k] = e -/
def putD (kvs : List (Key × PyData)) (k : Key) (v : PyData) : List (Key × PyData) :=
  if kvs.any (fun kv => decide (kv.1 = k)) then kvs.map fun kv => if kv.1 = k then (kv.1, v) else kv else kvs ++ [(k, v)]
def gSet (S : Store) (o x y : D) : Option Store := match o, y with
  | .r i, .d y => match S[i]? with
    | some (.lst xs) => (intOf x).bind fun n => (ixN xs.length n).map fun j => S.set i (.lst (xs.set j y))
    | some (.dct kvs) => (keyOf x).bind fun k => if kvs.length < sizeLine then some (S.set i (.dct (putD kvs k y))) else none
    | _ => none
  | _, _ => none
def rSet (K : PySem.W.Frag) (mg : MG) : V → V → V → Hp → (Hp → Prop) → Prop := fun o x y H Q => ∃ (O L : List Addr) (S S' : Store) (do' dx dy : D), Sto K mg H O L S ∧ RD K H O L do' o ∧ RD K H O L dx x ∧ RD K H O L dy y ∧ gSet S do' dx dy = some S' ∧ ∀ H', Ext L H L H' → Sto K mg H' O L S' → Q H'
theorem RQ.length {K : PySem.W.Frag} {H : Hp} {B : List Addr} : ∀ {ds : List (Key × PyData)} {vs : List (Key × V)}, RQ K H B ds vs → ds.length = vs.length
  | _, _, .nil => rfl
  | _, _, .cons _ t => by rw [List.length_cons, List.length_cons, RQ.length t]
theorem RQ.any {K : PySem.W.Frag} {H : Hp} {B : List Addr} (k : Key) : ∀ {ds : List (Key × PyData)} {vs : List (Key × V)}, RQ K H B ds vs → (ds.any fun kv => decide (kv.1 = k)) = vs.any fun kv => decide (kv.1 = k)
  | _, _, .nil => rfl
  | _, _, .cons _ t => by rw [List.any_cons, List.any_cons, RQ.any k t]
theorem RQ.put {K : PySem.W.Frag} {H : Hp} {B : List Addr} (k : Key) {d : PyData} {v : V} (r : Rp K H B d v) {ds : List (Key × PyData)} {vs : List (Key × V)} (h : RQ K H B ds vs) : RQ K H B (putD ds k d) (putK vs k v) := by
  have m : ∀ {ds : List (Key × PyData)} {vs : List (Key × V)}, RQ K H B ds vs → RQ K H B (ds.map fun kv => if kv.1 = k then (kv.1, d) else kv) (vs.map fun kv => if kv.1 = k then (kv.1, v) else kv) := by
    intro ds vs h
    induction h with
    | nil => exact .nil
    | @cons j d' v' ds vs r' t ih =>
      rw [List.map_cons, List.map_cons]
      by_cases hj : j = k
      · rw [if_pos hj, if_pos hj]; exact .cons r ih
      · rw [if_neg hj, if_neg hj]; exact .cons r' ih
  have ap : ∀ {ds : List (Key × PyData)} {vs : List (Key × V)}, RQ K H B ds vs → RQ K H B (ds ++ [(k, d)]) (vs ++ [(k, v)]) := by
    intro ds vs h
    induction h with
    | nil => exact .cons r .nil
    | cons r' t ih => exact .cons r' ih
  unfold putD putK
  rw [h.any k]
  by_cases hc : (vs.any fun kv => decide (kv.1 = k)) = true
  · rw [if_pos hc, if_pos hc]; exact m h
  · rw [if_neg hc, if_neg hc]; exact ap h
theorem set_all (hu : X.A.units + 1 < cLine) : PSet X (rSet X.K X.mg) := by
  intro pins s σ H o x y ov iv u Q I ro rx ry ⟨O, L, S, S', do', dx, dy, st, r1, r2, r3, hg, q⟩
  unfold gSet at hg
  split at hg
  · rename_i i y'
    cases r1 with
    | @r _ b hb =>
      cases r3 with
      | d r3 =>
        cases hk : S[i]? with
        | none => simp only [hk] at hg; cases hg
        | some c =>
          cases c with
          | lst xs =>
            simp only [hk] at hg
            obtain ⟨n, h1, h2⟩ := Option.bind_eq_some_iff.mp hg
            obtain ⟨j, h3, rfl⟩ := map_some h2
            obtain rfl := intOf_v r2 h1
            cases st.cell i _ b hk hb with
            | @lst _ vs q1 q2 =>
              refine set_list pins s σ H _ _ _ ov iv u Q I ro rx ry ⟨b, vs, n, j, rfl, rfl, q1, by rw [← q2.length]; exact h3, q _ (Ext.upd hb) (st.upd hb (.lst upd_same ?_))⟩
              have kk := (Ext.upd (H := H) (o := .lst (vs.set j y)) hb).kp (O := O)
              exact RpL.set (Rp.mono kk _ _ r3) j (RpL.mono kk _ _ q2)
          | dct kvs =>
            simp only [hk] at hg
            obtain ⟨k, h1, h2⟩ := Option.bind_eq_some_iff.mp hg
            obtain ⟨hz, rfl⟩ := some_of_ite h2
            obtain rfl := keyOf_v r2 h1
            cases st.cell i _ b hk hb with
            | @dct _ vs q1 q2 =>
              cases ro
              refine d_setItem hu I (DPut.k q1 (by rw [← q2.length]; exact hz)) rx ry fun s' I' => ⟨_, I', q _ (Ext.upd hb) (st.upd hb (.dct upd_same ?_))⟩
              have kk := (Ext.upd (H := H) (o := .dK (putK vs k y)) hb).kp (O := O)
              exact RQ.put k (Rp.mono kk _ _ r3) (q2.mono kk)
          | ins _ _ => simp only [hk] at hg; cases hg
  · cases hg
def sSub (fo fi fe : EM) : SM := fun ρ S => SR.ofE (fe ρ S) ρ fun y S1 => SR.ofE (fo ρ S1) ρ fun o S2 => SR.ofE (fi ρ S2) ρ fun x S3 => match gSet S3 o x y with
  | some S' => .nx ρ S'
  | none => .no
theorem pms_sub {o i : Expr} {tpos : Pos} {fo fi fe : EM} (hu : X.A.units + 1 < cLine) (ho : PM X W o fo) (hi : PM X W i fi) (he : PM X W e fe)
    (ha : ∀ v, assign (.Subscript o i tpos) X.env v = (do
      let ov ← holding [v] (eval o X.env)
      let iv ← holding [v, ov] (eval i X.env)
      standAt tpos
      holding [v, ov, iv] (setItem ov iv v)
      release [v, ov, iv] []) := by intro _; rfl)
    (hs : swapsWithSole [.Subscript o i tpos] e pos.line X.env = pure false := by rfl) (hw : swappedStores [.Subscript o i tpos] e X.env = pure none := by rfl)
    (h1 : (assignEach [.Subscript o i tpos] X.env).map (·.2) = [assign (.Subscript o i tpos) X.env] := by rfl) : PMS X W (.Assign [.Subscript o i tpos] e pos) (sSub fo fi fe) :=
  PS.imp (ps_asg he (pg_sub ho hi (set_all hu) ha) hs hw h1) fun Dn σ H ⟨O, L, S, ρ, a, h⟩ => by
    refine tM.stmt a h fun y v S1 L1 H1 a1 e1 r1 h1 => ?_
    refine tM.stmt a1 h1 fun o w S2 L2 H2 a2 e2 r2 h2 => ?_
    refine tM.stmt a2 h2 fun x z S3 L3 H3 a3 e3 r3 h3 => ?_
    cases hg : gSet S3 o x y with
    | none => simp only [hg] at h3; exact h3.elim
    | some S' =>
      simp only [hg] at h3
      exact ⟨O, L3, S3, S', o, x, y, a3.st, r2.mono e3, r3, r1.mono (e2.trans e3), hg, fun H' e' st' => h3 σ H' L3 e' (a3.mono e' st')⟩
end
end Sky
end
section
/-! Lay9: defs of the text: what they promise, their calls. -/
namespace Sky
open PySem PySem.Spec PyProof.Rows L2
abbrev Fn := List D → Store → Res D
/-- n arguments; the answer is F's -/
def spM (K : PySem.W.Frag) (mg : MG) (n : Nat) (F : Fn) : Sp := fun vs H Q E => vs.length = n ∧ ∃ (O L : List Addr) (S : Store) (ds : List D), RDL K H O L ds vs ∧ Sto K mg H O L S ∧ EndG K mg (fun c d _ H => E c d H) O L H [] (fun d _ L' H' => ∀ v, RD K H' O L' d v → Q v H') (F ds S)
def pad (n : Nat) (ds : List D) : Env := ds.map some ++ List.replicate (n - ds.length) none
def runF (n : Nat) (body : SM) : Fn := fun ds S => match body (pad n ds) S with
  | .nx _ S' => .ok (.d .none) S'
  | .rt d S' => .ok d S'
  | .ex e _ S' => .exc e S'
  | _ => .no
def runP (n : Nat) (body : SM) (xs : List PyData) : Option PyData := match body (pad n (xs.map .d)) [] with
  | .nx _ _ => some .none
  | .rt d S' => rf S' d
  | _ => none
def pureF (F : List PyData → Option PyData) : Fn := fun ds S => match allD ds with
  | some xs => Res.of ((F xs).map .d) S
  | none => .no
def runD (n : Nat) (body : SM) (dk xs : List PyData) : Option (PyData × List PyData) := match body (pad n (.r 0 :: xs.map .d)) [.lst dk] with
  | .nx _ S' => match (S'[0]? : Option Cell) with
    | some (.lst dk') => some (.none, dk')
    | _ => none
  | .rt d S' => match (S'[0]? : Option Cell), d with
    | some (.lst dk'), .d x => some (x, dk')
    | some (.lst dk'), .r (i + 1) => (rf S' (.r (i + 1))).map fun x => (x, dk')
    | _, _ => none
  | _ => none
def deckF (F : List PyData → List PyData → Option (PyData × List PyData)) : Fn := fun ds S => match ds with
  | .r i :: rest => match S[i]?, allD rest with
    | some (.lst dk), some xs => match F dk xs with
      | some (x, dk') => .ok (.d x) (S.set i (.lst dk'))
      | none => .no
    | _, _ => .no
  | _ => .no
section
variable {K : PySem.W.Frag} {mg : MG} {H : Hp} {O L : List Addr}
theorem re_pad {N : List Str} : ∀ {ds : List D} {vs : List V}, RDL K H O L ds vs → ∀ n, RE K H O L (ds.map some ++ List.replicate n none) (vs.map some ++ List.replicate n none)
  | _, _, .nil, n => by
    show RE K H O L (List.replicate n none) (List.replicate n none)
    induction n with
    | zero => exact .nil
    | succ n ih => rw [List.replicate_succ, List.replicate_succ]; exact .unk ih
  | _, _, .cons r t, n => .cons r (re_pad (N := N) t n)
theorem re_start {N : List Str} {ds : List D} {vs : List V} (r : RDL K H O L ds vs) : RE K H O L (pad N.length ds) (L2.start N vs) := by
  unfold pad L2.start
  rw [r.length]
  exact re_pad (N := N) r _
end
section
variable {P : Program} {w : World} {K : PySem.W.Frag} {mg : MG} {base : Heap}
abbrev WE0 (E : XK) : WX := fun c d _ H => E c d H
/-- what a body's walk may use -/
structure Cw (X : Cx) (W : WX) (k : Nat) : Prop where
  calm : X.calm = true
  nd : X.N.Nodup
  room : Room k X.A
  tk : Takes X W
  own : PassesOwn (model X.prog X.w) X.A X.env X.xe
theorem Cw.hu {X : Cx} {W : WX} {k : Nat} (c : Cw X W k) : X.A.units + 64 < cLine := c.room.units
theorem Cw.hu1 {X : Cx} {W : WX} {k : Nat} (c : Cw X W k) : X.A.units + 1 < cLine := by have := c.room.units; omega
def BodyOk (P : Program) (w : World) (K : PySem.W.Frag) (mg : MG) (base : Heap) (k : Nat) (N : List Str) (qual : Str) (st : Stmt) (body : SM) : Prop :=
  ∀ (f : Addr) (cdv : Value) (A : Around) (outer : List PySem.Env) (s : Shared) (H : Hp) (E : XK), Cw (cxOf (L2.CX P w) P w K mg base N qual (defScope st) f cdv A outer s H E) (WE0 E) k →
    PSs (cxOf (L2.CX P w) P w K mg base N qual (defScope st) f cdv A outer s H E) (defBody st) (tS K mg (WE0 E) body)
theorem cw_of {N : List Str} {qual : Str} {st : Stmt} {f : Addr} {cdv : Value} {A : Around} {outer : List PySem.Env} {s : Shared} {H : Hp} {E : XK} {k : Nat} {ps : List Str} (S : FnScope N ps (defScope st)) (hr : Room k (A.deeper (envOfC qual (defScope st) s.heap.objs.size f cdv))) :
    Cw (cxOf (L2.CX P w) P w K mg base N qual (defScope st) f cdv A outer s H E) (WE0 E) k :=
  ⟨rfl, S.nd, hr, takes_of rfl rfl rfl rfl, passes_of rfl⟩
theorem fn_full {x qual : Str} {st : Stmt} {f : Addr} {fd : FuncData} {N ps : List Str} {k n : Nat} {body : SM} (F : Fun K x qual st f fd) (S : FnScope N ps (defScope st)) (hn : N.length = n) (h : BodyOk P w K mg base k N qual st body) :
    FnOk P w K mg base (L2.CX P w) (k + 1) f fd ps (spM K mg ps.length (runF n body)) := by
  subst hn
  refine F.okX S (fun vs H Q E q => q.1) fun cdv A outer s H vs Q E hr q => ⟨_, h f cdv A outer s H E (cw_of S hr), ?_⟩
  obtain ⟨hl, O, L, S, ds, rdl, st, he⟩ := q
  refine ⟨O, L, S, pad N.length ds, ⟨re_start rdl, st⟩, ?_⟩
  unfold runF at he
  cases hb : body (pad N.length ds) S with
  | nx ρ S' => rw [hb] at he; exact fun σ' H' L' e a => he H' L' e a.st _ (.d .non)
  | rt d S' => rw [hb] at he; exact fun v H' L' e st r => he H' L' e st v r
  | bk ρ S' => rw [hb] at he; exact he.elim
  | ct ρ S' => rw [hb] at he; exact he.elim
  | ex x ρ S' => rw [hb] at he; exact fun C dd σ' H' L' hm e a hx => he C dd H' L' hm e a.st hx
  | no => rw [hb] at he; exact he.elim
theorem ext_nil {L1 : List Addr} {H H' : Hp} (e : Ext [] H L1 H') : Same H H' := fun a o q => e.keep a o q (by simp)
theorem rp_sub {H : Hp} {B B' : List Addr} {x : PyData} {v : V} (h : ∀ a, a ∈ B' → a ∈ B) (r : Rp K H B x v) : Rp K H B' x v := Rp.mono (Kp.sub h) _ _ r
theorem rpl_sub {H : Hp} {B B' : List Addr} {x : List PyData} {v : List V} (h : ∀ a, a ∈ B' → a ∈ B) (r : RpL K H B x v) : RpL K H B' x v := RpL.mono (Kp.sub h) _ _ r
theorem rq_sub {H : Hp} {B B' : List Addr} {x : List (Key × PyData)} {v : List (Key × V)} (h : ∀ a, a ∈ B' → a ∈ B) (r : RQ K H B x v) : RQ K H B' x v := r.mono (Kp.sub h)
/-- a cell's content as a value: a is not banned -/
theorem rf_new {H : Hp} {O L : List Addr} {S : Store} {d : D} {v : V} {x : PyData} {B : List Addr} (st : Sto K mg H O L S) (r : RD K H O L d v) (h : rf S d = some x) (hB : ∀ a, a ∈ B → a ∈ O ++ L) (hn : ∀ (i : Nat) (a : Addr), d = .r i → L[i]? = some a → a ∉ B) : Rp K H B x v := by
  cases r with
  | d r => cases h; exact rp_sub hB r
  | @r i a hi =>
    replace h : (match S[i]? with | some (.lst xs) => some (.list xs) | some (.dct kvs) => some (.dict (kvs.map fun kv => (keyD kv.1, kv.2))) | _ => none) = some x := h
    cases q : S[i]? with
    | none => rw [q] at h; cases h
    | some c =>
      rw [q] at h
      have k := st.cell i c a q hi
      cases c with
      | lst ys =>
        cases h
        cases k with
        | lst h1 h2 => exact .lst h1 (hn i a rfl hi) (rpl_sub hB h2)
      | dct kvs =>
        cases h
        cases k with
        | dct h1 h2 =>
          have kk : ∀ {ds : List (Key × PyData)} {vs : List (Key × V)}, RQ K H B ds vs → RpK K H B (ds.map fun kv => (keyD kv.1, kv.2)) vs := by
            intro ds vs hh
            induction hh with
            | nil => exact .nil
            | cons r t ih => exact .cons r ih
          exact .dct h1 (hn i a rfl hi) (kk (rq_sub hB h2))
      | ins _ _ => cases h
  | s _ => cases h
theorem rdl_allD {H : Hp} {O L O' L' : List Addr} {ds : List D} {vs : List V} {xs : List PyData} (k : ∀ a, a ∈ O' ++ L' → a ∈ O ++ L) : RDL K H O L ds vs → allD ds = some xs → RDL K H O' L' (xs.map .d) vs := fun r h => by
  have q := allD_rp r h
  have go : ∀ {xs : List PyData} {vs : List V}, RpL K H (O ++ L) xs vs → RDL K H O' L' (xs.map .d) vs := by
    intro xs
    induction xs with
    | nil => intro vs z; cases z; exact .nil
    | cons x xs ih => intro vs z; cases z with | cons z1 z2 => exact .cons (.d (rp_sub k z1)) (ih z2)
  exact go q
theorem fn_pure {x qual : Str} {st : Stmt} {f : Addr} {fd : FuncData} {N ps : List Str} {k n : Nat} {body : SM} (F : Fun K x qual st f fd) (S : FnScope N ps (defScope st)) (hn : N.length = n) (h : BodyOk P w K mg base k N qual st body) :
    FnOk P w K mg base (L2.CX P w) (k + 1) f fd ps (spM K mg ps.length (pureF (runP n body))) := by
  subst hn
  refine F.okX S (fun vs H Q E q => q.1) fun cdv A outer s H vs Q E hr q => ⟨_, h f cdv A outer s H E (cw_of S hr), ?_⟩
  obtain ⟨hl, O, L, S, ds, rdl, st, he⟩ := q
  unfold pureF at he
  cases ha : allD ds with
  | none => rw [ha] at he; exact he.elim
  | some xs =>
    rw [ha] at he
    obtain ⟨d0, h0, he⟩ := EndG.of_some he
    obtain ⟨r, hr0, rfl⟩ := map_some h0
    have st0 : Sto K mg H (O ++ L) [] [] := ⟨rfl, List.nodup_nil, fun i c a z _ => by simp at z, fun a z => (List.mem_append.mp z).elim (st.out a) (st.cellAt)⟩
    refine ⟨O ++ L, [], [], pad N.length (xs.map .d), ⟨re_start (rdl_allD (by simp) rdl ha), st0⟩, ?_⟩
    unfold runP at hr0
    have fin : ∀ {v : V} {H' : Hp} {L1 : List Addr}, Ext [] H L1 H' → Rp K H' (O ++ L) r v → Q v H' := fun {v H' L1} e rp => he H' L (Same.ext (ext_nil e)) (st.same (ext_nil e)) v (.d rp)
    cases hb : body (pad N.length (xs.map .d)) [] with
    | nx ρ S' => rw [hb] at hr0; cases hr0; exact fun σ' H' L' e a => fin e .non
    | rt d S' =>
      rw [hb] at hr0
      refine fun v H' L' e st' rd => fin e (rf_new st' rd hr0 (fun a z => List.mem_append_left _ z) fun i a ed hi z => ?_)
      obtain ⟨o, ho⟩ := st0.out a z
      rcases e.new a (List.mem_of_getElem? hi) with q | q
      · cases q
      · rw [ho] at q; cases q
    | bk ρ S' => rw [hb] at hr0; cases hr0
    | ct ρ S' => rw [hb] at hr0; cases hr0
    | ex x ρ S' => rw [hb] at hr0; cases hr0
    | no => rw [hb] at hr0; cases hr0
theorem fn_deck {x qual : Str} {st : Stmt} {f : Addr} {fd : FuncData} {N ps : List Str} {k n : Nat} {body : SM} (F : Fun K x qual st f fd) (S : FnScope N ps (defScope st)) (hn : N.length = n) (h : BodyOk P w K mg base k N qual st body) :
    FnOk P w K mg base (L2.CX P w) (k + 1) f fd ps (spM K mg ps.length (deckF (runD n body))) := by
  subst hn
  refine F.okX S (fun vs H Q E q => q.1) fun cdv A outer s H vs Q E hr q => ⟨_, h f cdv A outer s H E (cw_of S hr), ?_⟩
  obtain ⟨hl, O, L, S, ds, rdl, st, he⟩ := q
  unfold deckF at he
  cases rdl with
  | nil => exact he.elim
  | @cons d v ds vs r rdl =>
    cases r with
    | d _ => exact he.elim
    | s _ => exact he.elim
    | @r i a hi =>
      cases hk : S[i]? with
      | none => simp only [hk] at he; exact he.elim
      | some c =>
        cases c with
        | dct _ => simp only [hk] at he; exact he.elim
        | ins _ _ => simp only [hk] at he; exact he.elim
        | lst dk =>
          cases ha : allD ds with
          | none => simp only [hk, ha] at he; exact he.elim
          | some xs =>
            simp only [hk, ha] at he
            cases hF : runD N.length body dk xs with
            | none => simp only [hF] at he; exact he.elim
            | some q =>
              obtain ⟨x, dk'⟩ := q
              simp only [hF] at he
              have sub : ∀ b, b ∈ (O ++ L) ++ [a] → b ∈ O ++ L := fun b z => (List.mem_append.mp z).elim id fun z => by
                rw [List.mem_singleton.mp z]; exact List.mem_append_right _ (List.mem_of_getElem? hi)
              have st0 : Sto K mg H (O ++ L) [a] [.lst dk] := by
                refine ⟨rfl, by simp, fun j c b z1 z2 => ?_, fun b z => (List.mem_append.mp z).elim (st.out b) (st.cellAt)⟩
                cases j with
                | zero =>
                  cases z1
                  cases z2
                  cases st.cell i _ a hk hi with
                  | lst q1 q2 => exact .lst q1 (rpl_sub sub q2)
                | succ j => simp at z1
              refine ⟨O ++ L, [a], [.lst dk], pad N.length (.r 0 :: xs.map .d), ⟨re_start (.cons (.r rfl) (rdl_allD sub rdl ha)), st0⟩, ?_⟩
              -- the end
              have fin : ∀ {v : V} {H' : Hp} {L1 : List Addr} {S1 : Store}, Ext [a] H L1 H' → Sto K mg H' (O ++ L) L1 S1 → S1[0]? = some (.lst dk') → Rp K H' (O ++ L) x v → Q v H' := fun {v H' L1 S1} e st1 h0 rp => by
                have eL : Ext L H L H' := ⟨fun _ _ z => z, fun _ z => .inl z, fun b o z n => e.keep b o z fun z2 => n (by rw [List.mem_singleton.mp z2]; exact List.mem_of_getElem? hi)⟩
                have hz : L1[0]? = some a := e.pre 0 a rfl
                refine he H' L eL ⟨by rw [List.length_set]; exact st.len, st.nd, fun j c b z1 z2 => ?_, fun b z => ?_⟩ v (.d rp)
                · by_cases hj : i = j
                  · subst hj
                    rw [hi] at z2
                    cases z2
                    rw [List.getElem?_set_self (by rw [← st.len]; exact (List.getElem?_eq_some_iff.mp hi).1)] at z1
                    cases z1
                    cases st1.cell 0 _ a h0 hz with
                    | lst q1 q2 => exact .lst q1 (rpl_sub (fun b z => List.mem_append_left _ z) q2)
                  · rw [List.getElem?_set_ne hj] at z1
                    have nb : b ≠ a := fun z => hj ((List.getElem?_inj (List.getElem?_eq_some_iff.mp hi).1 st.nd).mp (by rw [hi, z2, z]))
                    have ck := st.cell j c b z1 z2
                    obtain ⟨o, ho⟩ := ck.there
                    exact ck.mono eL (by rw [ho]; exact e.keep b o ho (by simpa using nb))
                · by_cases hb : b = a
                  · rw [hb]; exact st1.cellAt (List.mem_of_getElem? hz)
                  · obtain ⟨o, ho⟩ := st.out b z
                    exact ⟨o, e.keep b o ho (by simpa using hb)⟩
              unfold runD at hF
              cases hb : body (pad N.length (.r 0 :: xs.map .d)) [.lst dk] with
              | nx ρ S' =>
                rw [hb] at hF
                refine fun σ' H' L' e a' => ?_
                cases h0 : S'[0]? with
                | none => simp only [h0] at hF; cases hF
                | some c =>
                  cases c with
                  | lst dk2 => simp only [h0] at hF; cases hF; exact fin e a'.st h0 .non
                  | dct _ => simp only [h0] at hF; cases hF
                  | ins _ _ => simp only [h0] at hF; cases hF
              | rt d S' =>
                rw [hb] at hF
                refine fun v H' L' e st' rd => ?_
                cases h0 : S'[0]? with
                | none => simp only [h0] at hF; cases hF
                | some c =>
                  cases c with
                  | lst dk2 =>
                    cases d with
                    | d y =>
                      simp only [h0] at hF
                      cases hF
                      cases rd with
                      | d rd => exact fin e st' h0 (rp_sub (fun b z => List.mem_append_left _ z) rd)
                    | s _ => simp only [h0] at hF; cases hF
                    | r j =>
                      cases j with
                      | zero => simp only [h0] at hF; cases hF
                      | succ j =>
                        simp only [h0] at hF
                        obtain ⟨y, hy, e2⟩ := map_some hF
                        injection e2 with e3 e4
                        subst e3
                        subst e4
                        refine fin e st' h0 (rf_new st' rd hy (fun b z => List.mem_append_left _ z) fun i' b ed hi' z => ?_)
                        cases ed
                        obtain ⟨o, ho⟩ := st0.out b z
                        rcases e.new b (List.mem_of_getElem? hi') with q | q
                        · rw [List.mem_singleton.mp q] at hi'
                          have := (List.getElem?_inj (List.getElem?_eq_some_iff.mp hi').1 st'.nd).mp (hi'.trans (e.pre 0 a rfl).symm)
                          omega
                        · rw [ho] at q; cases q
                  | dct _ => simp only [h0] at hF; cases hF
                  | ins _ _ => simp only [h0] at hF; cases hF
              | bk ρ S' => rw [hb] at hF; cases hF
              | ct ρ S' => rw [hb] at hF; cases hF
              | ex x ρ S' => rw [hb] at hF; cases hF
              | no => rw [hb] at hF; cases hF
/-! ### calls -/
/-- the def of that name keeps F's promise by at most level k -/
def FM (P : Program) (w : World) (K : PySem.W.Frag) (mg : MG) (base : Heap) (k : Nat) (x : Str) (n : Nat) (F : Fn) : Prop :=
  ∃ (f : Addr) (fd : FuncData) (ps : List Str), mg x = some (.ref f) ∧ PySem.W.keepIn K (.ref f) = true ∧ Binds K fd ps [] ∧ FnOk P w K mg base (L2.CX P w) k f fd ps (spM K mg n F)
theorem FM.mono {j k : Nat} {x : Str} {n : Nat} {F : Fn} (h : FM P w K mg base j x n F) (l : j ≤ k) : FM P w K mg base k x n F := by
  obtain ⟨f, fd, ps, h1, h2, h3, h4⟩ := h
  exact ⟨f, fd, ps, h1, h2, h3, h4.mono l⟩
def mCall (n : Nat) (F : Fn) (fs : AM) : EM := fun ρ S => (fs ρ S).andThen fun ds S1 => if ds.length = n then F ds S1 else .no
variable {X : Cx} {W : WX} {x : Str} {p pos : Pos} {e : Expr} {es : List Expr} {fs : AM} {F : Fn} {n k : Nat}
theorem pm_call (c : Cw X W k) (h : FM X.prog X.w X.K X.mg X.base k x n F) (ha : PMA X W (e :: es) fs) (hg : Gl X x := by rfl)
    (hdb : (x == ("__debug__" : Str)) = false := by decide) (he : starEach (e :: es) X.env = (false, eval e X.env) :: starEach es X.env := by rfl) (hpl : (backTo pos (starEach es X.env)).any (·.1) = false := by rfl) : PM X W (.Call (.Name x p) (e :: es) [] pos) (mCall n F fs) := by
  obtain ⟨f, fd, ps, hm, hk, hb, ok⟩ := h
  refine PE.imp (pe_callSD (E := fun σ c d H => W c d σ H) ok c.room hg hm hk hb .nil (fun σ => fun pins H s e s' I cx => c.tk e s' (XE.of_call I (fun cls d H' h => h) cx)) ha hdb he hpl) fun σ H Q ⟨O, L, S, ρ, a, h⟩ => ?_
  refine tA.part a h fun ds vs S1 L1 H1 a1 e1 r1 h1 => ?_
  obtain ⟨hl, h1⟩ := ite_of h1
  show spM X.K X.mg n F (vs ++ []) H1 Q fun c d H => W c d σ H
  rw [List.append_nil]
  refine ⟨by rw [← r1.length]; exact hl, O, L1, S1, ds, r1, a1.st, ?_⟩
  cases hF : F ds S1 with
  | ok d S2 => rw [hF] at h1; exact h1
  | exc x S2 => rw [hF] at h1; exact h1
  | no => rw [hF] at h1; exact h1
/-- a comprehension's block -/
theorem Cw.blk (c : Cw X W k) {s : Shared} {H : Hp} {scope : Scope} {cenv : PySem.Env} {fp : List Addr} : Cw (X.blk s H scope cenv fp) W0 k :=
  ⟨c.calm, c.nd, c.room, takes0, PassesOwn.never⟩
/-- a def as it stands behind the top -/
def TX (K : PySem.W.Frag) (mg : MG) (x qual : Str) (st : Stmt) (ps : List Str) : Prop := ∃ (f : Addr) (fd : FuncData), Fun K x qual st f fd ∧ mg x = some (.ref f) ∧ Binds K fd ps []
variable {qual : Str} {st : Stmt} {N ps : List Str} {body : SM} {m : Nat}
theorem fm_full (T : TX K mg x qual st ps) (S : FnScope N ps (defScope st)) (hn : N.length = n) (hm : ps.length = m) (h : BodyOk P w K mg base k N qual st body) : FM P w K mg base (k + 1) x m (runF n body) := by
  obtain ⟨f, fd, F, g, b⟩ := T
  subst hm
  exact ⟨f, fd, ps, g, F.kp, b, fn_full F S hn h⟩
theorem fm_pure (T : TX K mg x qual st ps) (S : FnScope N ps (defScope st)) (hn : N.length = n) (hm : ps.length = m) (h : BodyOk P w K mg base k N qual st body) : FM P w K mg base (k + 1) x m (pureF (runP n body)) := by
  obtain ⟨f, fd, F, g, b⟩ := T
  subst hm
  exact ⟨f, fd, ps, g, F.kp, b, fn_pure F S hn h⟩
theorem fm_deck (T : TX K mg x qual st ps) (S : FnScope N ps (defScope st)) (hn : N.length = n) (hm : ps.length = m) (h : BodyOk P w K mg base k N qual st body) : FM P w K mg base (k + 1) x m (deckF (runD n body)) := by
  obtain ⟨f, fd, F, g, b⟩ := T
  subst hm
  exact ⟨f, fd, ps, g, F.kp, b, fn_deck F S hn h⟩
end
end Sky
end
section
/-! Lay10: how the combinators compute; loops by their invariants; the law's end. -/
namespace Sky
open PySem PySem.Spec PyProof.Rows L2
/-! ### computing -/
@[simp] theorem get_z {α : Type} (a : α) (l : List α) : (a :: l)[0]? = some a := id rfl
theorem atI_nn {α : Type} {xs : List α} {i : Int} (h : 0 ≤ i) : L2.atI xs i = xs[i.toNat]? := by
  unfold L2.atI ixN
  rw [if_pos h]
  by_cases hl : i < xs.length
  · rw [if_pos hl]; rfl
  · rw [if_neg hl, List.getElem?_eq_none (by omega)]; rfl
theorem atI_neg1 {α : Type} {xs : List α} : L2.atI xs (-1) = xs.getLast? := by
  cases h : xs with
  | nil => rfl
  | cons x r =>
    rw [← h, List.getLast?_eq_getElem?]
    unfold L2.atI ixN
    have hl : xs.length = r.length + 1 := by rw [h]; rfl
    rw [if_neg (by omega), if_pos (by omega)]
    show xs[((-1 : Int) + (xs.length : Nat)).toNat]? = _
    congr 1
    omega
@[simp] theorem gAdd_ii (S : Store) (i j : Int) : gAdd S (.d (.int i)) (.d (.int j)) = some (.d (.int (i + j))) := id rfl
@[simp] theorem gAdd_ss (S : Store) (i j : Str) : gAdd S (.d (.str i)) (.d (.str j)) = if i.length + j.length ≤ 16777216 then some (.d (.str (i ++ j))) else none := by rw [← sizeLine_eq]; rfl
@[simp] theorem gAdd_tt (S : Store) (i j : List PyData) : gAdd S (.d (.tuple i)) (.d (.tuple j)) = if i.length + j.length ≤ 16777216 then some (.d (.tuple (i ++ j))) else none := by rw [← sizeLine_eq]; rfl
@[simp] theorem gAdd_ll (S : Store) (i j : List PyData) : gAdd S (.d (.list i)) (.d (.list j)) = if i.length + j.length ≤ 16777216 then some (.d (.list (i ++ j))) else none := by rw [← sizeLine_eq]; rfl
@[simp] theorem gSub_ii (S : Store) (i j : Int) : Sky.gSub S (.d (.int i)) (.d (.int j)) = some (.d (.int (i - j))) := id rfl
@[simp] theorem gMul_ii (S : Store) (i j : Int) (h : (-18446744073709551616 < i ∧ i < 18446744073709551616) ∨ (-18446744073709551616 < j ∧ j < 18446744073709551616)) : gMul S (.d (.int i)) (.d (.int j)) = some (.d (.int (i * j))) := if_pos h
@[simp] theorem gDiv_ii (S : Store) (i j : Int) (h : 0 < j ∧ j < 1073741824) : gDiv S (.d (.int i)) (.d (.int j)) = some (.d (.int (i / j))) := if_pos h
@[simp] theorem gMod_ii (S : Store) (i j : Int) (h : 0 < j) : gMod S (.d (.int i)) (.d (.int j)) = some (.d (.int (i % j))) := if_pos h
@[simp] theorem gPow_ii (S : Store) (i j : Int) (h : 0 ≤ j ∧ j ≤ 1000000 ∧ i.natAbs < 18446744073709551616) : gPow S (.d (.int i)) (.d (.int j)) = some (.d (.int (i ^ j.toNat))) := if_pos h
@[simp] theorem gC_ii (p : Int → Int → Bool) (S : Store) (i j : Int) : gC p S (.d (.int i)) (.d (.int j)) = some (.d (.bool (p i j))) := id rfl
@[simp] theorem gIs_n (S : Store) (x : D) : gIs S x (.d .none) = some (.d (.bool (isN x))) := id rfl
@[simp] theorem gIsN_n (S : Store) (x : D) : gIsN S x (.d .none) = some (.d (.bool (!isN x))) := id rfl
@[simp] theorem isN_none : isN (.d .none) = true := id rfl
@[simp] theorem isN_int (i : Int) : isN (.d (.int i)) = false := id rfl
@[simp] theorem isN_str (i : Str) : isN (.d (.str i)) = false := id rfl
@[simp] theorem isN_tup (i : List PyData) : isN (.d (.tuple i)) = false := id rfl
@[simp] theorem isN_lst (i : List PyData) : isN (.d (.list i)) = false := id rfl
@[simp] theorem isN_r (i : Nat) : isN (.r i) = false := id rfl
@[simp] theorem rf_d (S : Store) (x : PyData) : rf S (.d x) = some x := id rfl
def rfC : Option Cell → Option PyData
  | some (.lst xs) => some (.list xs)
  | some (.dct kvs) => some (.dict (kvs.map fun kv => (keyD kv.1, kv.2)))
  | _ => none
@[simp] theorem rf_r (S : Store) (i : Nat) : rf S (.r i) = rfC S[i]? := id rfl
@[simp] theorem rfC_l (xs : List PyData) : rfC (some (.lst xs)) = some (.list xs) := id rfl
@[simp] theorem rfC_d (kvs : List (Key × PyData)) : rfC (some (.dct kvs)) = some (.dict (kvs.map fun kv => (keyD kv.1, kv.2))) := id rfl
@[simp] theorem lk_d (S : Store) (xs : List PyData) : lk S (.d (.list xs)) = some xs := id rfl
def lkC : Option Cell → Option (List PyData)
  | some (.lst xs) => some xs
  | _ => none
@[simp] theorem lk_r (S : Store) (i : Nat) : lk S (.r i) = lkC S[i]? := id rfl
@[simp] theorem lkC_l (xs : List PyData) : lkC (some (.lst xs)) = some xs := id rfl
theorem gEq_of (S : Store) {x y : D} {a b : PyData} (h1 : rf S x = some a) (h2 : rf S y = some b) (h3 : dp 60 a = true) (h4 : dp 60 b = true) : gEq S x y = some (.d (.bool (PyData.eqv a b))) := by
  unfold gEq
  rw [h1, h2]
  exact if_pos ⟨h3, h4⟩
theorem gNe_of (S : Store) {x y : D} {a b : PyData} (h1 : rf S x = some a) (h2 : rf S y = some b) (h3 : dp 60 a = true) (h4 : dp 60 b = true) : gNe S x y = some (.d (.bool (!PyData.eqv a b))) := by
  unfold gNe
  rw [h1, h2]
  exact if_pos ⟨h3, h4⟩
@[simp] theorem gEq_d (S : Store) (a b : PyData) : gEq S (.d a) (.d b) = if dp 60 a = true ∧ dp 60 b = true then some (.d (.bool (PyData.eqv a b))) else none := id rfl
@[simp] theorem gNe_d (S : Store) (a b : PyData) : gNe S (.d a) (.d b) = if dp 60 a = true ∧ dp 60 b = true then some (.d (.bool (!PyData.eqv a b))) else none := id rfl
@[simp] theorem dp_int (n : Nat) (i : Int) : dp n (.int i) = true := by cases n <;> rfl
@[simp] theorem dp_bool (n : Nat) (i : Bool) : dp n (.bool i) = true := by cases n <;> rfl
@[simp] theorem dp_str (n : Nat) (i : Str) : dp n (.str i) = true := by cases n <;> rfl
@[simp] theorem dp_none (n : Nat) : dp n .none = true := by cases n <;> rfl
theorem dp_tup (n : Nat) (xs : List PyData) : dp (n + 1) (.tuple xs) = xs.all (dp n) := rfl
theorem dp_lst (n : Nat) (xs : List PyData) : dp (n + 1) (.list xs) = xs.all (dp n) := rfl
theorem dp_up : ∀ (d : PyData) (n m : Nat), n ≤ m → dp n d = true → dp m d = true := by
  intro d n
  induction n generalizing d with
  | zero =>
    intro m _ h
    cases d <;> first | simp | cases h
  | succ n ih =>
    intro m hm h
    cases m with
    | zero => omega
    | succ m =>
      cases d with
      | list xs =>
        rw [dp_lst] at h ⊢
        exact List.all_eq_true.mpr fun x hx => ih x m (by omega) (List.all_eq_true.mp h x hx)
      | tuple xs =>
        rw [dp_tup] at h ⊢
        exact List.all_eq_true.mpr fun x hx => ih x m (by omega) (List.all_eq_true.mp h x hx)
      | dict _ => cases h
      | _ => simp
@[simp] theorem eqv_ii (i j : Int) : PyData.eqv (.int i) (.int j) = (i == j) := by rw [PyData.eqv]
@[simp] theorem eqv_bb (i j : Bool) : PyData.eqv (.bool i) (.bool j) = (i == j) := by rw [PyData.eqv]
@[simp] theorem eqv_ss (i j : Str) : PyData.eqv (.str i) (.str j) = (i == j) := by rw [PyData.eqv]
theorem eqv_same (d : PyData) (h : dp 60 d = true) : PyData.eqv d d = true := SeqAt.eqv_refl_plain d (dp_plain _ _ h).1
@[simp] theorem gIx_t (S : Store) (xs : List PyData) (i : Int) (h : 0 ≤ i) : gIx S (.d (.tuple xs)) (.d (.int i)) = xs[i.toNat]?.map .d := by
  show (L2.atI xs i).map D.d = _
  rw [atI_nn h]
@[simp] theorem gIx_l (S : Store) (xs : List PyData) (i : Int) (h : 0 ≤ i) : gIx S (.d (.list xs)) (.d (.int i)) = xs[i.toNat]?.map .d := by
  show (L2.atI xs i).map D.d = _
  rw [atI_nn h]
@[simp] theorem gIx_t1 (S : Store) (xs : List PyData) : gIx S (.d (.tuple xs)) (.d (.int (-1))) = xs.getLast?.map .d := by
  show (L2.atI xs (-1)).map D.d = _
  rw [atI_neg1]
def gIxC (c : Option Cell) (y : D) : Option D := match c with
  | some (.lst xs) => (intOf y).bind fun i => (L2.atI xs i).map .d
  | some (.dct kvs) => (keyOf y).bind fun k => (valD kvs k).map .d
  | _ => none
@[simp] theorem gIx_r (S : Store) (k : Nat) (y : D) : gIx S (.r k) y = gIxC S[k]? y := by
  have e : gIx S (.r k) y = gIxR S (.r k) y := by
    unfold gIx
    split <;> first | rfl | cases ‹D.r _ = _›
  rw [e]
  unfold gIxR
  rw [lk_r]
  cases h : S[k]? with
  | none =>
    show (match keyOf y with | some j => (match dget S (.r k) j with | some (some d) => some (D.d d) | _ => none) | none => none) = none
    cases keyOf y with
    | none => rfl
    | some j =>
      have : dget S (.r k) j = none := by
        show (match S[k]? with | some (.dct kvs) => some (valD kvs j) | _ => none) = none
        rw [h]
      simp only [this]
  | some c =>
    cases c with
    | lst xs =>
      show (match intOf y with | some i => (L2.atI xs i).map D.d | none => none) = (intOf y).bind fun i => (L2.atI xs i).map .d
      cases intOf y <;> rfl
    | dct kvs =>
      show (match keyOf y with | some j => (match dget S (.r k) j with | some (some d) => some (D.d d) | _ => none) | none => none) = (keyOf y).bind fun k => (valD kvs k).map .d
      cases keyOf y with
      | none => rfl
      | some j =>
        have : dget S (.r k) j = some (valD kvs j) := by
          show (match S[k]? with | some (.dct kvs) => some (valD kvs j) | _ => none) = some (valD kvs j)
          rw [h]
        simp only [this]
        show _ = (valD kvs j).map D.d
        cases valD kvs j <;> rfl
    | ins a b =>
      show (match keyOf y with | some j => (match dget S (.r k) j with | some (some d) => some (D.d d) | _ => none) | none => none) = none
      cases keyOf y with
      | none => rfl
      | some j =>
        have : dget S (.r k) j = none := by
          show (match S[k]? with | some (.dct kvs) => some (valD kvs j) | _ => none) = none
          rw [h]
        simp only [this]
@[simp] theorem gIxC_l (xs : List PyData) (i : Int) (h : 0 ≤ i) : gIxC (some (.lst xs)) (.d (.int i)) = xs[i.toNat]?.map .d := by
  show (L2.atI xs i).map D.d = _
  rw [atI_nn h]
@[simp] theorem gIxC_l1 (xs : List PyData) : gIxC (some (.lst xs)) (.d (.int (-1))) = xs.getLast?.map .d := by
  show (L2.atI xs (-1)).map D.d = _
  rw [atI_neg1]
@[simp] theorem gIxC_di (kvs : List (Key × PyData)) (i : Int) : gIxC (some (.dct kvs)) (.d (.int i)) = (valD kvs (.inl i)).map .d := id rfl
@[simp] theorem gIxC_ds (kvs : List (Key × PyData)) (i : Str) : gIxC (some (.dct kvs)) (.d (.str i)) = (valD kvs (.inr i)).map .d := id rfl
def gSetC (S : Store) (k : Nat) (c : Option Cell) (x : D) (y : PyData) : Option Store := match c with
  | some (.lst xs) => (intOf x).bind fun n => (ixN xs.length n).map fun j => S.set k (.lst (xs.set j y))
  | some (.dct kvs) => (keyOf x).bind fun j => if kvs.length < sizeLine then some (S.set k (.dct (putD kvs j y))) else none
  | _ => none
@[simp] theorem gSet_r (S : Store) (k : Nat) (x : D) (y : PyData) : gSet S (.r k) x (.d y) = gSetC S k S[k]? x y := id rfl
@[simp] theorem gSetC_l (S : Store) (k : Nat) (xs : List PyData) (i : Int) (y : PyData) (h : 0 ≤ i) : gSetC S k (some (.lst xs)) (.d (.int i)) y = if i.toNat < xs.length then some (S.set k (.lst (xs.set i.toNat y))) else none := by
  show ((ixN xs.length i).map fun j => S.set k (.lst (xs.set j y))) = _
  unfold ixN
  rw [if_pos h]
  by_cases h2 : i < xs.length
  · rw [if_pos h2, if_pos (by omega)]; rfl
  · rw [if_neg h2, if_neg (by omega)]; rfl
@[simp] theorem gSetC_l1 (S : Store) (k : Nat) (xs : List PyData) (y : PyData) : gSetC S k (some (.lst xs)) (.d (.int (-1))) y = if 0 < xs.length then some (S.set k (.lst (xs.set (xs.length - 1) y))) else none := by
  show ((ixN xs.length (-1)).map fun j => S.set k (.lst (xs.set j y))) = _
  unfold ixN
  rw [if_neg (by omega)]
  by_cases h2 : 0 < xs.length
  · rw [if_pos h2, if_pos (by omega)]
    have e : ((-1 : Int) + (xs.length : Nat)).toNat = xs.length - 1 := by omega
    show some (S.set k (.lst (xs.set ((-1 : Int) + (xs.length : Nat)).toNat y))) = _
    rw [e]
  · rw [if_neg h2, if_neg (by omega)]; rfl
@[simp] theorem cAbs_i (S : Store) (i : Int) : cAbs S [.d (.int i)] = some (.d (.int (if i < 0 then -i else i))) := id rfl
@[simp] theorem cMin2_i (S : Store) (i j : Int) : cMin2 S [.d (.int i), .d (.int j)] = some (.d (.int (if j < i then j else i))) := id rfl
@[simp] theorem cMax2_i (S : Store) (i j : Int) : cMax2 S [.d (.int i), .d (.int j)] = some (.d (.int (if j > i then j else i))) := id rfl
@[simp] theorem cInt_i (S : Store) (i : Int) : cInt S [.d (.int i)] = some (.d (.int i)) := id rfl
@[simp] theorem cInt_b (S : Store) (i : Bool) : cInt S [.d (.bool i)] = some (.d (.int (if i = true then 1 else 0))) := id rfl
@[simp] theorem cTup_l (S : Store) (xs : List PyData) : cTup S [.d (.list xs)] = some (.d (.tuple xs)) := id rfl
@[simp] theorem cTup_t (S : Store) (xs : List PyData) : cTup S [.d (.tuple xs)] = some (.d (.tuple xs)) := id rfl
@[simp] theorem cTup_r (S : Store) (k : Nat) : cTup S [.r k] = (lkC S[k]?).map fun xs => .d (.tuple xs) := id rfl
@[simp] theorem cLen_l (S : Store) (xs : List PyData) : cLen S [.d (.list xs)] = some (.d (.int (xs.length : Nat))) := id rfl
@[simp] theorem cLen_t (S : Store) (xs : List PyData) : cLen S [.d (.tuple xs)] = some (.d (.int (xs.length : Nat))) := id rfl
@[simp] theorem cLen_r (S : Store) (k : Nat) : cLen S [.r k] = ((lkC S[k]?).map (·.length)).map fun (n : Nat) => .d (.int (n : Int)) := id rfl
@[simp] theorem sizeLine_num : sizeLine = 16777216 := sizeLine_eq
/-! ### loops -/
/-- what a loop's body leaves: to the next turn, or out -/
def Bd (I : Env → Store → Prop) (R : SR → Prop) : SR → Prop
  | .nx ρ S => I ρ S
  | .ct ρ S => I ρ S
  | .bk ρ S => R (.nx ρ S)
  | .rt d S => R (.rt d S)
  | .ex x ρ S => R (.ex x ρ S)
  | .no => False
@[simp] theorem Bd_nx {I : Env → Store → Prop} {R : SR → Prop} {ρ : Env} {S : Store} : Bd I R (.nx ρ S) = I ρ S := id rfl
@[simp] theorem Bd_ct {I : Env → Store → Prop} {R : SR → Prop} {ρ : Env} {S : Store} : Bd I R (.ct ρ S) = I ρ S := id rfl
@[simp] theorem Bd_bk {I : Env → Store → Prop} {R : SR → Prop} {ρ : Env} {S : Store} : Bd I R (.bk ρ S) = R (.nx ρ S) := id rfl
@[simp] theorem Bd_rt {I : Env → Store → Prop} {R : SR → Prop} {d : D} {S : Store} : Bd I R (.rt d S) = R (.rt d S) := id rfl
theorem forL_inv {g : TgM} {b : SM} {R : SR → Prop} {ρ : Env} {S : Store} (xs : List PyData) (I : Nat → Env → Store → Prop) (h0 : I 0 ρ S)
    (hs : ∀ (i : Nat) (x : PyData) (ρ : Env) (S : Store), xs[i]? = some x → I i ρ S → ∃ ρ1, g x ρ = some ρ1 ∧ Bd (I (i + 1)) R (b ρ1 S)) (hd : ∀ ρ S, I xs.length ρ S → R (.nx ρ S)) : R (forL g b xs ρ S) := by
  induction xs generalizing I ρ S with
  | nil => exact hd ρ S h0
  | cons x xs ih =>
    obtain ⟨ρ1, h1, h2⟩ := hs 0 x ρ S rfl h0
    have go : ∀ ρ2 S2, I 1 ρ2 S2 → R (forL g b xs ρ2 S2) := fun ρ2 S2 q => ih (fun i => I (i + 1)) q (fun i y ρ S hy hi => hs (i + 1) y ρ S hy hi) fun ρ S q => hd ρ S q
    unfold forL
    simp only [h1]
    cases hb : b ρ1 S with
    | nx ρ2 S2 => simp only [hb] at h2 ⊢; exact go ρ2 S2 h2
    | ct ρ2 S2 => simp only [hb] at h2 ⊢; exact go ρ2 S2 h2
    | bk ρ2 S2 => simp only [hb] at h2 ⊢; exact h2
    | rt d S2 => simp only [hb] at h2 ⊢; exact h2
    | ex x ρ2 S2 => simp only [hb] at h2 ⊢; exact h2
    | no => simp only [hb] at h2; exact h2.elim
theorem rng_length (lo : Int) (n : Nat) : (rng lo n).length = n := by unfold rng; rw [List.length_map, List.length_range]
theorem rng_get {lo : Int} {n i : Nat} {x : PyData} (h : (rng lo n)[i]? = some x) : i < n ∧ x = .int (lo + i) := by
  have hi : i < n := by rw [← rng_length lo n]; exact (List.getElem?_eq_some_iff.mp h).1
  unfold rng at h
  rw [List.getElem?_map, List.getElem?_range hi] at h
  cases h
  exact ⟨hi, rfl⟩
/-- over a range -/
theorem forR_inv {g : TgM} {b : SM} {R : SR → Prop} {ρ : Env} {S : Store} {lo : Int} {n : Nat} (I : Nat → Env → Store → Prop) (h0 : I 0 ρ S)
    (hs : ∀ (i : Nat) (ρ : Env) (S : Store), i < n → I i ρ S → ∃ ρ1, g (.int (lo + i)) ρ = some ρ1 ∧ Bd (I (i + 1)) R (b ρ1 S)) (hd : ∀ ρ S, I n ρ S → R (.nx ρ S)) : R (forL g b (rng lo n) ρ S) := by
  refine forL_inv _ I h0 (fun i x ρ S hx hi => ?_) fun ρ S q => hd ρ S (by rw [rng_length] at q; exact q)
  obtain ⟨h1, rfl⟩ := rng_get hx
  exact hs i ρ S h1 hi
/-! ### the law's end -/
def spLaw (K : PySem.W.Frag) : Sp := fun vs H Q _ => ∃ (a : Addr) (ns : List Int), vs = [.ref a] ∧ SqL K H a (ns.map V.int) ∧ ns.length ≤ 63 ∧ ∀ H', Q (.bl true) H'
theorem sp_of {F : Fn} (h : ∀ ns : List Int, ns.length ≤ 63 → ∃ S, F [.s ns] [] = .ok (.d (.bool true)) S) {K : PySem.W.Frag} {mg : MG} {vs : List V} {H : Hp} {Q : VK} {E : XK} (q : spLaw K vs H Q E) : spM K mg 1 F vs H Q E := by
  obtain ⟨a, ns, rfl, hs, hl, hq⟩ := q
  obtain ⟨S, hS⟩ := h ns hl
  refine ⟨rfl, [], [], [], [.s ns], .cons (.s (hs.imp (fun z => ⟨z, by simp⟩) id)) .nil, ⟨rfl, List.nodup_nil, fun i c a z _ => by simp at z, fun a z => by simp at z⟩, ?_⟩
  rw [hS]
  intro H' L' _ _ v r
  cases r with
  | d r => cases r; exact hq H'
theorem walk_end {l : PySem.W.OpenLaw} {k : Nat} {q : Program} {loose : List Str} {XP : (Str → Option Value) → Heap → Prop} {YP : World → Heap → Prop} {d : DefRec} {K : Params → PySem.W.Frag} (hn : l.most = some 63) (hdf : d.params.defaults = []) (hr : Room k callerA)
    (hY : ∀ (w : World) (h : Heap), YP w h → (K w.params).In h)
    (F : ∀ (w : World) (mg : Str → Option Value) (fa : Addr) (h : Heap), (K w.params).In h → h.Ns mainGlobals mg → mg d.name = some (.ref fa) →
      ∃ fd : FuncData, (∀ (s : Shared) (u : Value), BindsTo s fd ⟨[u], []⟩ [("script", u)]) ∧ ∀ base : Heap, (K w.params).In base → base.Ns mainGlobals mg → FnOk l.prog w (K w.params) mg base (L2.CX l.prog w) k fa fd ["script"] (spLaw (K w.params))) :
    PySem.W.WalkO q loose XP YP l.row.toRowW d [] (fun f vs => PySem.call f vs) :=
  L2.walk_of (n := 63) (k := k) (x := "script") (CX := fun w => L2.CX l.prog w) (sp := fun w => spLaw (K w.params)) hn (by decide) hdf hr hY F (fun _ _ a ns hl _ hS => ⟨a, ns, rfl, hS, hl, fun _ => rfl⟩)
    fun _ _ _ _ _ h => by
      obtain ⟨_, _, _, _, _, _, _, _, _, _, _, _, z⟩ := h
      exact z.elim
end Sky
end
section
/-! Lay11: the combinators applied, step by step (each a simp rule; no rule goes under a binder). -/
namespace Sky
open PySem PySem.Spec PyProof.Rows L2
variable {ρ : Env} {S S1 : Store} {d x y z : D} {e : Exc} {a b : SM} {f fa fb fc fo fi fe : EM} {c ba bb : BM} {fs : AM} {ds : List D} {g g' : Store → D → D → Option D}
/-! ### names -/
@[simp] theorem mVar_z (d : D) : mVar 0 (some d :: ρ) S = .ok d S := id rfl
@[simp] theorem mVar_s (n : Nat) (o : Option D) : mVar (n + 1) (o :: ρ) S = mVar n ρ S := id rfl
@[simp] theorem mC_ap (x : PyData) : mC x ρ S = .ok (.d x) S := id rfl
@[simp] theorem of_some {α : Type} (x : α) : Res.of (some x) S = .ok x S := id rfl
@[simp] theorem of_none {α : Type} : Res.of (none : Option α) S = .no := id rfl
/-! ### a op b -/
def kOp2 (g : Store → D → D → Option D) (x : D) : Res D → Res D
  | .ok y S2 => Res.of (g S2 x y) S2
  | .exc e S => .exc e S
  | .no => .no
def kOp1 (g : Store → D → D → Option D) (fb : EM) (ρ : Env) : Res D → Res D
  | .ok x S1 => kOp2 g x (fb ρ S1)
  | .exc e S => .exc e S
  | .no => .no
@[simp] theorem mOp_ap : mOp g fa fb ρ S = kOp1 g fb ρ (fa ρ S) := by
  unfold mOp
  cases fa ρ S with
  | ok x S1 => show (fb ρ S1).andThen _ = kOp2 g x (fb ρ S1); cases fb ρ S1 <;> rfl
  | exc _ _ => rfl
  | no => rfl
@[simp] theorem kOp1_ok : kOp1 g fb ρ (.ok x S) = kOp2 g x (fb ρ S) := id rfl
@[simp] theorem kOp2_ok : kOp2 g x (.ok y S) = Res.of (g S x y) S := id rfl
/-! ### chains -/
def kCh3 (g' : Store → D → D → Option D) (y : D) : Res D → Res D
  | .ok z S3 => Res.of (g' S3 y z) S3
  | .exc e S => .exc e S
  | .no => .no
def kChB (g' : Store → D → D → Option D) (fc : EM) (ρ : Env) (y : D) (S2 : Store) : Option D → Res D
  | some (.d (.bool true)) => kCh3 g' y (fc ρ S2)
  | some (.d (.bool false)) => .ok (.d (.bool false)) S2
  | _ => .no
def kCh2 (g g' : Store → D → D → Option D) (fc : EM) (ρ : Env) (x : D) : Res D → Res D
  | .ok y S2 => kChB g' fc ρ y S2 (g S2 x y)
  | .exc e S => .exc e S
  | .no => .no
def kCh1 (g g' : Store → D → D → Option D) (fb fc : EM) (ρ : Env) : Res D → Res D
  | .ok x S1 => kCh2 g g' fc ρ x (fb ρ S1)
  | .exc e S => .exc e S
  | .no => .no
@[simp] theorem mChain_ap : mChain g g' fa fb fc ρ S = kCh1 g g' fb fc ρ (fa ρ S) := by
  unfold mChain
  cases fa ρ S with
  | ok x S1 =>
    show (fb ρ S1).andThen _ = kCh2 g g' fc ρ x (fb ρ S1)
    cases fb ρ S1 with
    | ok y S2 =>
      show _ = kChB g' fc ρ y S2 (g S2 x y)
      cases hg : g S2 x y with
      | none => simp only [Res.andThen, hg]; rfl
      | some d => cases d with
        | d v => cases v with
          | bool k => cases k with
            | true => simp only [Res.andThen, hg]; show _ = kCh3 g' y (fc ρ S2); cases fc ρ S2 <;> rfl
            | false => simp only [Res.andThen, hg]; rfl
          | _ => simp only [Res.andThen, hg]; rfl
        | _ => simp only [Res.andThen, hg]; rfl
    | exc _ _ => rfl
    | no => rfl
  | exc _ _ => rfl
  | no => rfl
@[simp] theorem kCh1_ok : kCh1 g g' fb fc ρ (.ok x S) = kCh2 g g' fc ρ x (fb ρ S) := id rfl
@[simp] theorem kCh2_ok : kCh2 g g' fc ρ x (.ok y S) = kChB g' fc ρ y S (g S x y) := id rfl
@[simp] theorem kChB_b (k : Bool) : kChB g' fc ρ y S (some (.d (.bool k))) = if k = true then kCh3 g' y (fc ρ S) else .ok (.d (.bool false)) S := by cases k <;> rfl
@[simp] theorem kCh3_ok : kCh3 g' y (.ok z S) = Res.of (g' S y z) S := id rfl
/-! ### and, or, not -/
def kAnd (fb : EM) (ρ : Env) : Res D → Res D
  | .ok (.d (.bool true)) S1 => fb ρ S1
  | .ok (.d (.bool false)) S1 => .ok (.d (.bool false)) S1
  | .exc e S => .exc e S
  | _ => .no
def kOr (fb : EM) (ρ : Env) : Res D → Res D
  | .ok (.d (.bool false)) S1 => fb ρ S1
  | .ok (.d (.bool true)) S1 => .ok (.d (.bool true)) S1
  | .exc e S => .exc e S
  | _ => .no
def kNot : Res D → Res D
  | .ok (.d (.bool k)) S1 => .ok (.d (.bool (!k))) S1
  | .exc e S => .exc e S
  | _ => .no
def kNeg : Res D → Res D
  | .ok (.d (.int k)) S1 => .ok (.d (.int (-k))) S1
  | .exc e S => .exc e S
  | _ => .no
def kAsB : Res D → Res Bool
  | .ok (.d (.bool k)) S1 => .ok k S1
  | .exc e S => .exc e S
  | _ => .no
theorem byD {α : Type} {P : Res D → Prop} (r : Res D) (h1 : ∀ k S, P (.ok (.d (.bool k)) S)) (h2 : ∀ d S, (∀ k, d ≠ .d (.bool k)) → P (.ok d S)) (h3 : ∀ e S, P (.exc e S)) (h4 : P .no) : P r := by
  cases r with
  | ok d S =>
    cases d with
    | d x =>
      cases x with
      | bool k => exact h1 k S
      | _ => exact h2 _ S (fun k z => by cases z)
    | _ => exact h2 _ S (fun k z => by cases z)
  | exc e S => exact h3 e S
  | no => exact h4
@[simp] theorem mAnd_ap : mAnd fa fb ρ S = kAnd fb ρ (fa ρ S) := by
  unfold mAnd
  cases fa ρ S with
  | ok d S => cases d with
    | d x => cases x with
      | bool k => cases k <;> rfl
      | _ => rfl
    | _ => rfl
  | _ => rfl
@[simp] theorem mOr_ap : mOr fa fb ρ S = kOr fb ρ (fa ρ S) := by
  unfold mOr
  cases fa ρ S with
  | ok d S => cases d with
    | d x => cases x with
      | bool k => cases k <;> rfl
      | _ => rfl
    | _ => rfl
  | _ => rfl
@[simp] theorem mNot_ap : mNot fa ρ S = kNot (fa ρ S) := by
  unfold mNot
  cases fa ρ S with
  | ok d S => cases d with
    | d x => cases x <;> rfl
    | _ => rfl
  | _ => rfl
@[simp] theorem mNeg_ap : mNeg fa ρ S = kNeg (fa ρ S) := by
  unfold mNeg
  cases fa ρ S with
  | ok d S => cases d with
    | d x => cases x <;> rfl
    | _ => rfl
  | _ => rfl
@[simp] theorem asB_ap : asB fa ρ S = kAsB (fa ρ S) := by
  unfold asB
  cases fa ρ S with
  | ok d S => cases d with
    | d x => cases x <;> rfl
    | _ => rfl
  | _ => rfl
@[simp] theorem kAnd_b (k : Bool) : kAnd fb ρ (.ok (.d (.bool k)) S) = if k = true then fb ρ S else .ok (.d (.bool false)) S := by cases k <;> rfl
@[simp] theorem kOr_b (k : Bool) : kOr fb ρ (.ok (.d (.bool k)) S) = if k = true then .ok (.d (.bool true)) S else fb ρ S := by cases k <;> rfl
@[simp] theorem kNot_b (k : Bool) : kNot (.ok (.d (.bool k)) S) = .ok (.d (.bool (!k))) S := id rfl
@[simp] theorem kNeg_i (k : Int) : kNeg (.ok (.d (.int k)) S) = .ok (.d (.int (-k))) S := id rfl
@[simp] theorem kAsB_b (k : Bool) : kAsB (.ok (.d (.bool k)) S) = .ok k S := id rfl
def kbAnd (fb : BM) (ρ : Env) : Res Bool → Res Bool
  | .ok k S => if k = true then fb ρ S else .ok false S
  | .exc e S => .exc e S
  | .no => .no
def kbOr (fb : BM) (ρ : Env) : Res Bool → Res Bool
  | .ok k S => if k = true then .ok true S else fb ρ S
  | .exc e S => .exc e S
  | .no => .no
def kbNot : Res Bool → Res Bool
  | .ok k S => .ok (!k) S
  | .exc e S => .exc e S
  | .no => .no
@[simp] theorem bAnd_ap : bAnd ba bb ρ S = kbAnd bb ρ (ba ρ S) := by unfold bAnd; cases ba ρ S <;> rfl
@[simp] theorem bOr_ap : bOr ba bb ρ S = kbOr bb ρ (ba ρ S) := by unfold bOr; cases ba ρ S <;> rfl
@[simp] theorem bNot_ap : bNot ba ρ S = kbNot (ba ρ S) := by unfold bNot; cases ba ρ S <;> rfl
@[simp] theorem kbAnd_ok (k : Bool) : kbAnd bb ρ (.ok k S) = if k = true then bb ρ S else .ok false S := id rfl
@[simp] theorem kbOr_ok (k : Bool) : kbOr bb ρ (.ok k S) = if k = true then .ok true S else bb ρ S := id rfl
@[simp] theorem kbNot_ok (k : Bool) : kbNot (.ok k S) = .ok (!k) S := id rfl
def kIf (fa fb : EM) (ρ : Env) : Res Bool → Res D
  | .ok k S => if k = true then fa ρ S else fb ρ S
  | .exc e S => .exc e S
  | .no => .no
@[simp] theorem mIf_ap : mIf c fa fb ρ S = kIf fa fb ρ (c ρ S) := by unfold mIf; cases c ρ S <;> rfl
@[simp] theorem kIf_ok (k : Bool) : kIf fa fb ρ (.ok k S) = if k = true then fa ρ S else fb ρ S := id rfl
/-! ### argument lists, displays -/
def kCons2 (x : D) : Res (List D) → Res (List D)
  | .ok xs S => .ok (x :: xs) S
  | .exc e S => .exc e S
  | .no => .no
def kCons1 (fr : AM) (ρ : Env) : Res D → Res (List D)
  | .ok x S => kCons2 x (fr ρ S)
  | .exc e S => .exc e S
  | .no => .no
@[simp] theorem aNil_ap : aNil ρ S = .ok [] S := id rfl
@[simp] theorem aCons_ap : aCons fa fs ρ S = kCons1 fs ρ (fa ρ S) := by
  unfold aCons
  cases fa ρ S with
  | ok x S1 => show (fs ρ S1).andThen _ = kCons2 x (fs ρ S1); cases fs ρ S1 <;> rfl
  | exc _ _ => rfl
  | no => rfl
@[simp] theorem kCons1_ok : kCons1 fs ρ (.ok x S) = kCons2 x (fs ρ S) := id rfl
@[simp] theorem kCons2_ok : kCons2 x (.ok ds S) = .ok (x :: ds) S := id rfl
@[simp] theorem allD_nil : allD [] = some [] := id rfl
@[simp] theorem allD_cons (x : PyData) (r : List D) : allD (.d x :: r) = (allD r).map (x :: ·) := id rfl
def kTup : Res (List D) → Res D
  | .ok ds S => match allD ds with
    | some xs => if xs.length ≤ sizeLine then .ok (.d (.tuple xs)) S else .no
    | none => .no
  | .exc e S => .exc e S
  | .no => .no
def kLst : Res (List D) → Res D
  | .ok ds S => match allD ds with
    | some xs => if xs.length ≤ sizeLine then .ok (.d (.list xs)) S else .no
    | none => .no
  | .exc e S => .exc e S
  | .no => .no
def kLstC : Res (List D) → Res D
  | .ok ds S => match allD ds with
    | some xs => if xs.length ≤ sizeLine then .ok (.r S.length) (S ++ [.lst xs]) else .no
    | none => .no
  | .exc e S => .exc e S
  | .no => .no
@[simp] theorem mTup_ap : mTup fs ρ S = kTup (fs ρ S) := by unfold mTup; cases fs ρ S <;> rfl
@[simp] theorem mLst_ap : mLst fs ρ S = kLst (fs ρ S) := by unfold mLst; cases fs ρ S <;> rfl
@[simp] theorem mLstC_ap : mLstC fs ρ S = kLstC (fs ρ S) := by unfold mLstC; cases fs ρ S <;> rfl
@[simp] theorem kTup_ok : kTup (.ok ds S) = match allD ds with
    | some xs => if xs.length ≤ 16777216 then .ok (.d (.tuple xs)) S else .no
    | none => .no := by rw [← sizeLine_eq]; rfl
@[simp] theorem kLst_ok : kLst (.ok ds S) = match allD ds with
    | some xs => if xs.length ≤ 16777216 then .ok (.d (.list xs)) S else .no
    | none => .no := by rw [← sizeLine_eq]; rfl
@[simp] theorem kLstC_ok : kLstC (.ok ds S) = match allD ds with
    | some xs => if xs.length ≤ 16777216 then .ok (.r S.length) (S ++ [.lst xs]) else .no
    | none => .no := by rw [← sizeLine_eq]; rfl
/-! ### calls -/
def kCl (g : Store → List D → Option D) : Res (List D) → Res D
  | .ok ds S => Res.of (g S ds) S
  | .exc e S => .exc e S
  | .no => .no
def kCall (n : Nat) (F : Fn) : Res (List D) → Res D
  | .ok ds S => if ds.length = n then F ds S else .no
  | .exc e S => .exc e S
  | .no => .no
@[simp] theorem mCl_ap {g : Store → List D → Option D} : mCl g fs ρ S = kCl g (fs ρ S) := by unfold mCl; cases fs ρ S <;> rfl
@[simp] theorem kCl_ok {g : Store → List D → Option D} : kCl g (.ok ds S) = Res.of (g S ds) S := id rfl
@[simp] theorem mCall_ap {n : Nat} {F : Fn} : mCall n F fs ρ S = kCall n F (fs ρ S) := by unfold mCall; cases fs ρ S <;> rfl
@[simp] theorem kCall_ok {n : Nat} {F : Fn} : kCall n F (.ok ds S) = if ds.length = n then F ds S else .no := id rfl
@[simp] theorem pureF_ap {F : List PyData → Option PyData} : pureF F ds S = match allD ds with
    | some xs => Res.of ((F xs).map .d) S
    | none => .no := id rfl
theorem deckF_ap {F : List PyData → List PyData → Option (PyData × List PyData)} {i : Nat} {rest : List D} {dk dk' xs : List PyData} {x : PyData} (h1 : S[i]? = some (.lst dk)) (h2 : allD rest = some xs) (h3 : F dk xs = some (x, dk')) :
    deckF F (.r i :: rest) S = .ok (.d x) (S.set i (.lst dk')) := by
  unfold deckF
  simp only [h1, h2, h3]
def kDeck2 (S : Store) (i : Nat) : Option (PyData × List PyData) → Res D
  | some (x, dk') => .ok (.d x) (S.set i (.lst dk'))
  | none => .no
def kDeck (F : List PyData → List PyData → Option (PyData × List PyData)) (S : Store) (i : Nat) : Option Cell → Option (List PyData) → Res D
  | some (.lst dk), some xs => kDeck2 S i (F dk xs)
  | _, _ => .no
@[simp] theorem deckF_r {F : List PyData → List PyData → Option (PyData × List PyData)} {i : Nat} {rest : List D} : deckF F (.r i :: rest) S = kDeck F S i S[i]? (allD rest) := by
  unfold deckF kDeck kDeck2
  cases h : S[i]? with
  | none => simp only [h]
  | some c => cases c with
    | lst dk => cases ha : allD rest with
      | none => simp only [h, ha]
      | some xs => cases hf : F dk xs <;> simp only [h, ha, hf]
    | _ => simp only [h]
@[simp] theorem kDeck_ok {F : List PyData → List PyData → Option (PyData × List PyData)} {i : Nat} {dk xs : List PyData} : kDeck F S i (some (.lst dk)) (some xs) = kDeck2 S i (F dk xs) := id rfl
@[simp] theorem kDeck2_ok {i : Nat} {dk : List PyData} {x : PyData} : kDeck2 S i (some (x, dk)) = .ok (.d x) (S.set i (.lst dk)) := id rfl
def kIsi (T : String) : Res D → Res D
  | .ok d S => match rf S d with
    | some x => if dp 60 x = true then .ok (.d (.bool (isT T x))) S else .no
    | none => .no
  | .exc e S => .exc e S
  | .no => .no
@[simp] theorem mIsi_ap {T : String} : mIsi T fa ρ S = kIsi T (fa ρ S) := by unfold mIsi; cases fa ρ S <;> rfl
@[simp] theorem kIsi_ok {T : String} : kIsi T (.ok d S) = match rf S d with
    | some x => if dp 60 x = true then .ok (.d (.bool (isT T x))) S else .no
    | none => .no := id rfl
def kApp2 (i : Nat) : Res D → Res D
  | .ok (.d y) S => match S[i]? with
    | some (.lst xs) => if xs.length < sizeLine then .ok (.d .none) (S.set i (.lst (xs ++ [y]))) else .no
    | _ => .no
  | .exc e S => .exc e S
  | _ => .no
def kAppC (fa : EM) (ρ : Env) (i : Nat) (S : Store) : Option Cell → Res D
  | some (.lst _) => kApp2 i (fa ρ S)
  | _ => .no
def kApp1 (fa : EM) (ρ : Env) : Res D → Res D
  | .ok (.r i) S => kAppC fa ρ i S S[i]?
  | .exc e S => .exc e S
  | _ => .no
@[simp] theorem mApp_ap : mApp fo fa ρ S = kApp1 fa ρ (fo ρ S) := by
  unfold mApp
  cases fo ρ S with
  | ok o S1 =>
    cases o with
    | r i =>
      show (match S1[i]? with | some (.lst _) => _ | _ => _) = kAppC fa ρ i S1 S1[i]?
      cases S1[i]? with
      | none => rfl
      | some c =>
        cases c with
        | lst xs =>
          show (fa ρ S1).andThen _ = kApp2 i (fa ρ S1)
          cases fa ρ S1 with
          | ok y S2 => cases y <;> rfl
          | exc _ _ => rfl
          | no => rfl
        | _ => rfl
    | _ => rfl
  | exc _ _ => rfl
  | no => rfl
@[simp] theorem kApp1_r (i : Nat) : kApp1 fa ρ (.ok (.r i) S) = kAppC fa ρ i S S[i]? := id rfl
@[simp] theorem kAppC_l (i : Nat) (xs : List PyData) : kAppC fa ρ i S (some (.lst xs)) = kApp2 i (fa ρ S) := id rfl
def kApp3 (S : Store) (i : Nat) (y : PyData) : Option Cell → Res D
  | some (.lst xs) => if xs.length < 16777216 then .ok (.d .none) (S.set i (.lst (xs ++ [y]))) else .no
  | _ => .no
@[simp] theorem kApp2_d (i : Nat) (y : PyData) : kApp2 i (.ok (.d y) S) = kApp3 S i y S[i]? := by
  show (match S[i]? with | some (.lst xs) => if xs.length < sizeLine then _ else _ | _ => _) = _
  unfold kApp3
  rw [sizeLine_eq]
@[simp] theorem kApp3_l (i : Nat) (y : PyData) (xs : List PyData) : kApp3 S i y (some (.lst xs)) = if xs.length < 16777216 then .ok (.d .none) (S.set i (.lst (xs ++ [y]))) else .no := id rfl
/-! ### slices -/
def kSl3 (x : D) (l : Option Int) : Res (Option Int) → Res D
  | .ok u S => Res.of (gSl S x l u) S
  | .exc e S => .exc e S
  | .no => .no
def kSl2 (fh : OM) (ρ : Env) (x : D) : Res (Option Int) → Res D
  | .ok l S => kSl3 x l (fh ρ S)
  | .exc e S => .exc e S
  | .no => .no
def kSl1 (fl fh : OM) (ρ : Env) : Res D → Res D
  | .ok x S => kSl2 fh ρ x (fl ρ S)
  | .exc e S => .exc e S
  | .no => .no
@[simp] theorem mSl_ap {fl fh : OM} : mSl fa fl fh ρ S = kSl1 fl fh ρ (fa ρ S) := by
  unfold mSl
  cases fa ρ S with
  | ok x S1 =>
    show (fl ρ S1).andThen _ = kSl2 fh ρ x (fl ρ S1)
    cases fl ρ S1 with
    | ok l S2 => show (fh ρ S2).andThen _ = kSl3 x l (fh ρ S2); cases fh ρ S2 <;> rfl
    | exc _ _ => rfl
    | no => rfl
  | exc _ _ => rfl
  | no => rfl
@[simp] theorem kSl1_ok {fl fh : OM} : kSl1 fl fh ρ (.ok x S) = kSl2 fh ρ x (fl ρ S) := id rfl
@[simp] theorem kSl2_ok {fh : OM} {l : Option Int} : kSl2 fh ρ x (.ok l S) = kSl3 x l (fh ρ S) := id rfl
@[simp] theorem kSl3_ok {l u : Option Int} : kSl3 x l (.ok u S) = Res.of (gSl S x l u) S := id rfl
def kSome : Res D → Res (Option Int)
  | .ok (.d (.int i)) S => .ok (some i) S
  | .exc e S => .exc e S
  | _ => .no
@[simp] theorem oNone_ap : oNone ρ S = .ok none S := id rfl
@[simp] theorem oSome_ap : oSome fa ρ S = kSome (fa ρ S) := by
  unfold oSome
  cases fa ρ S with
  | ok d S => cases d with
    | d x => cases x <;> rfl
    | _ => rfl
  | _ => rfl
@[simp] theorem kSome_i (i : Int) : kSome (.ok (.d (.int i)) S) = .ok (some i) S := id rfl
@[simp] theorem gSl_t (S : Store) (xs : List PyData) (l u : Option Int) : gSl S (.d (.tuple xs)) l u = some (.d (.tuple (cutD xs l u))) := id rfl
@[simp] theorem gSl_l (S : Store) (xs : List PyData) (l u : Option Int) : gSl S (.d (.list xs)) l u = some (.d (.list (cutD xs l u))) := id rfl
@[simp] theorem gSl_s (S : Store) (xs : List Int) (l u : Option Int) : gSl S (.s xs) l u = some (.d (.list ((cutD xs l u).map .int))) := id rfl
@[simp] theorem gSl_r (S : Store) (i : Nat) (l u : Option Int) : gSl S (.r i) l u = (lkC S[i]?).map fun xs => .d (.list (cutD xs l u)) := by
  show (match lk S (.r i) with | some xs => some (D.d (.list (cutD xs l u))) | none => none) = _
  rw [lk_r]
  cases lkC S[i]? <;> rfl
theorem sIx_neg {n d k : Nat} (h : k ≤ n) (h0 : 0 < k) : HT.sIx n d (some (-(k : Int))) = n - k := by
  unfold HT.sIx
  simp only []
  split <;> omega
theorem cut_none {α : Type} (xs : List α) : cutD xs none none = xs := by
  unfold cutD
  rw [HT.sIx_none, HT.sIx_none, List.drop_zero, Nat.sub_zero, List.take_length]
theorem cut_to {α : Type} (xs : List α) (k : Nat) : cutD xs none (some (k : Int)) = xs.take k := by
  unfold cutD
  rw [HT.sIx_none, HT.sIx_nat, List.drop_zero, Nat.sub_zero]
  by_cases h : k ≤ xs.length
  · rw [Nat.min_eq_left h]
  · rw [Nat.min_eq_right (by omega), List.take_length, List.take_of_length_le (by omega)]
theorem cut_from {α : Type} (xs : List α) (k : Nat) : cutD xs (some (k : Int)) none = xs.drop k := by
  unfold cutD
  rw [HT.sIx_none, HT.sIx_nat]
  by_cases h : k ≤ xs.length
  · rw [Nat.min_eq_left h, List.take_of_length_le (by rw [List.length_drop]; exact Nat.le_refl _)]
  · rw [Nat.min_eq_right (by omega), List.drop_length, List.drop_eq_nil_of_le (by omega), List.take_nil]
theorem cut_last {α : Type} (xs : List α) (x : α) : cutD (xs ++ [x]) none (some (-1)) = xs := by
  unfold cutD
  rw [HT.sIx_none, List.drop_zero, Nat.sub_zero]
  have e : HT.sIx (xs ++ [x]).length (xs ++ [x]).length (some (-1)) = xs.length := by
    have := sIx_neg (n := (xs ++ [x]).length) (d := (xs ++ [x]).length) (k := 1) (by simp) (by decide)
    rw [show (-((1 : Nat) : Int)) = -1 by rfl] at this
    rw [this]
    simp
  rw [e, List.take_left']
  rfl
/-! ### statements -/
def SR.seq (r : SR) (b : SM) : SR := match r with
  | .nx ρ S => b ρ S
  | r => r
@[simp] theorem sSeq_ap : sSeq a b ρ S = (a ρ S).seq b := id rfl
@[simp] theorem seq_nx : (SR.nx ρ S).seq b = b ρ S := id rfl
@[simp] theorem seq_rt : (SR.rt d S).seq b = .rt d S := id rfl
@[simp] theorem seq_bk : (SR.bk ρ S).seq b = .bk ρ S := id rfl
@[simp] theorem seq_ct : (SR.ct ρ S).seq b = .ct ρ S := id rfl
@[simp] theorem seq_ex : (SR.ex e ρ S).seq b = .ex e ρ S := id rfl
@[simp] theorem seq_no : SR.no.seq b = .no := id rfl
@[simp] theorem sNx_ap : sNx ρ S = .nx ρ S := id rfl
def qSet (ρ : Env) (i : Nat) : Res D → SR
  | .ok d S => .nx (ρ.set i (some d)) S
  | .exc e S => .ex e ρ S
  | .no => .no
@[simp] theorem sSet_ap {i : Nat} : sSet i f ρ S = qSet ρ i (f ρ S) := by unfold sSet; cases f ρ S <;> rfl
@[simp] theorem qSet_ok {i : Nat} : qSet ρ i (.ok d S) = .nx (ρ.set i (some d)) S := id rfl
@[simp] theorem qSet_exc {i : Nat} : qSet ρ i (.exc e S) = .ex e ρ S := id rfl
def qRet (ρ : Env) : Res D → SR
  | .ok d S => .rt d S
  | .exc e S => .ex e ρ S
  | .no => .no
@[simp] theorem sRet_ap : sRet f ρ S = qRet ρ (f ρ S) := by unfold sRet; cases f ρ S <;> rfl
@[simp] theorem qRet_ok : qRet ρ (.ok d S) = .rt d S := id rfl
@[simp] theorem qRet_exc : qRet ρ (.exc e S) = .ex e ρ S := id rfl
def qExpr (ρ : Env) : Res D → SR
  | .ok _ S => .nx ρ S
  | .exc e S => .ex e ρ S
  | .no => .no
@[simp] theorem sExpr_ap : sExpr f ρ S = qExpr ρ (f ρ S) := by unfold sExpr; cases f ρ S <;> rfl
@[simp] theorem qExpr_ok : qExpr ρ (.ok d S) = .nx ρ S := id rfl
@[simp] theorem qExpr_exc : qExpr ρ (.exc e S) = .ex e ρ S := id rfl
def qIf (a b : SM) (ρ : Env) : Res Bool → SR
  | .ok k S => if k = true then a ρ S else b ρ S
  | .exc e S => .ex e ρ S
  | .no => .no
@[simp] theorem sIf_ap : sIf c a b ρ S = qIf a b ρ (c ρ S) := by unfold sIf; cases c ρ S <;> rfl
@[simp] theorem qIf_ok (k : Bool) : qIf a b ρ (.ok k S) = if k = true then a ρ S else b ρ S := id rfl
@[simp] theorem qIf_exc : qIf a b ρ (.exc e S) = .ex e ρ S := id rfl
def qAsg (g : TgM) (ρ : Env) : Res D → SR
  | .ok (.d x) S => match g x ρ with
    | some ρ' => .nx ρ' S
    | none => .no
  | .exc e S => .ex e ρ S
  | _ => .no
@[simp] theorem sAsg_ap {g : TgM} : sAsg f g ρ S = qAsg g ρ (f ρ S) := by
  unfold sAsg
  cases f ρ S with
  | ok d S => cases d <;> rfl
  | _ => rfl
@[simp] theorem qAsg_d {g : TgM} (x : PyData) : qAsg g ρ (.ok (.d x) S) = match g x ρ with
    | some ρ' => .nx ρ' S
    | none => .no := id rfl
@[simp] theorem gNm_ap (i : Nat) (x : PyData) : gNm i x ρ = some (ρ.set i (some (.d x))) := id rfl
@[simp] theorem gsNil_ap : gsNil [] ρ = some ρ := id rfl
def qGs (gs : TgsM) (r : List PyData) : Option Env → Option Env
  | some ρ' => gs r ρ'
  | none => none
@[simp] theorem gsCons_ap (g : TgM) (gs : TgsM) (x : PyData) (r : List PyData) : gsCons g gs (x :: r) ρ = qGs gs r (g x ρ) := by
  show (g x ρ).bind (fun ρ' => gs r ρ') = _
  cases g x ρ <;> rfl
@[simp] theorem qGs_some (gs : TgsM) (r : List PyData) : qGs gs r (some ρ) = gs r ρ := id rfl
@[simp] theorem gTp_t (n : Nat) (gs : TgsM) (xs : List PyData) : gTp n gs (.tuple xs) ρ = if xs.length = n then gs xs ρ else none := id rfl
def qPar (i j : Nat) (ρ : Env) : Res (List D) → SR
  | .ok [x, y] S => .nx ((ρ.set i (some x)).set j (some y)) S
  | .exc e S => .ex e ρ S
  | _ => .no
@[simp] theorem sPar_ap {i j : Nat} : sPar i j fs ρ S = qPar i j ρ (fs ρ S) := by
  unfold sPar
  cases fs ρ S with
  | ok ds S => match ds with
    | [] => rfl
    | [_] => rfl
    | [_, _] => rfl
    | _ :: _ :: _ :: _ => rfl
  | exc _ _ => rfl
  | no => rfl
@[simp] theorem qPar_ok {i j : Nat} : qPar i j ρ (.ok [x, y] S) = .nx ((ρ.set i (some x)).set j (some y)) S := id rfl
def qSub4 (ρ : Env) : Option Store → SR
  | some S => .nx ρ S
  | none => .no
def qSub3 (ρ : Env) (y o : D) : Res D → SR
  | .ok x S => qSub4 ρ (gSet S o x y)
  | .exc e S => .ex e ρ S
  | .no => .no
def qSub2 (fi : EM) (ρ : Env) (y : D) : Res D → SR
  | .ok o S => qSub3 ρ y o (fi ρ S)
  | .exc e S => .ex e ρ S
  | .no => .no
def qSub1 (fo fi : EM) (ρ : Env) : Res D → SR
  | .ok y S => qSub2 fi ρ y (fo ρ S)
  | .exc e S => .ex e ρ S
  | .no => .no
@[simp] theorem sSub_ap : sSub fo fi fe ρ S = qSub1 fo fi ρ (fe ρ S) := by
  unfold sSub
  cases fe ρ S with
  | ok y S1 =>
    show SR.ofE (fo ρ S1) ρ _ = qSub2 fi ρ y (fo ρ S1)
    cases fo ρ S1 with
    | ok o S2 =>
      show SR.ofE (fi ρ S2) ρ _ = qSub3 ρ y o (fi ρ S2)
      cases fi ρ S2 with
      | ok x S3 =>
        show (match gSet S3 o x y with | some S' => _ | none => _) = qSub4 ρ (gSet S3 o x y)
        cases gSet S3 o x y <;> rfl
      | exc _ _ => rfl
      | no => rfl
    | exc _ _ => rfl
    | no => rfl
  | exc _ _ => rfl
  | no => rfl
@[simp] theorem qSub1_ok : qSub1 fo fi ρ (.ok y S) = qSub2 fi ρ y (fo ρ S) := id rfl
@[simp] theorem qSub2_ok : qSub2 fi ρ y (.ok x S) = qSub3 ρ y x (fi ρ S) := id rfl
@[simp] theorem qSub3_ok : qSub3 ρ y x (.ok z S) = qSub4 ρ (gSet S x z y) := id rfl
@[simp] theorem qSub4_some : qSub4 ρ (some S) = .nx ρ S := id rfl
/-! ### loops -/
def qFor (g : TgM) (b : SM) (ρ : Env) : Res (List PyData) → SR
  | .ok xs S => forL g b xs ρ S
  | .exc e S => .ex e ρ S
  | .no => .no
@[simp] theorem sFor_ap {fi : IM} {g : TgM} : sFor fi g b ρ S = qFor g b ρ (fi ρ S) := by unfold sFor; cases fi ρ S <;> rfl
@[simp] theorem qFor_ok {g : TgM} (xs : List PyData) : qFor g b ρ (.ok xs S) = forL g b xs ρ S := id rfl
def kSeq : Res D → Res (List PyData)
  | .ok (.d (.list xs)) S => .ok xs S
  | .ok (.d (.tuple xs)) S => .ok xs S
  | .ok (.d (.str z)) S => .ok (signs z) S
  | .exc e S => .exc e S
  | _ => .no
@[simp] theorem iSeq_ap : iSeq f ρ S = kSeq (f ρ S) := by
  unfold iSeq
  cases f ρ S with
  | ok d S => cases d with
    | d x => cases x <;> rfl
    | _ => rfl
  | _ => rfl
@[simp] theorem kSeq_l (xs : List PyData) : kSeq (.ok (.d (.list xs)) S) = .ok xs S := id rfl
@[simp] theorem kSeq_t (xs : List PyData) : kSeq (.ok (.d (.tuple xs)) S) = .ok xs S := id rfl
@[simp] theorem kSeq_s (z : Str) : kSeq (.ok (.d (.str z)) S) = .ok (signs z) S := id rfl
def kRng1 : Res D → Res (List PyData)
  | .ok (.d (.int n)) S => if -(2 ^ 62) ≤ n ∧ n < 2 ^ 62 then .ok (rng 0 n.toNat) S else .no
  | .exc e S => .exc e S
  | _ => .no
@[simp] theorem iRng1_ap : Sky.iRng1 f ρ S = kRng1 (f ρ S) := by
  unfold Sky.iRng1
  cases f ρ S with
  | ok d S => cases d with
    | d x => cases x <;> rfl
    | _ => rfl
  | _ => rfl
@[simp] theorem kRng1_i (n : Int) (h : -4611686018427387904 ≤ n ∧ n < 4611686018427387904) : kRng1 (.ok (.d (.int n)) S) = .ok (rng 0 n.toNat) S := if_pos h
def kRng2 : Res D → Res D → Res (List PyData)
  | .ok (.d (.int i)) _, .ok (.d (.int j)) S2 => if -(2 ^ 62) ≤ i ∧ i < 2 ^ 62 ∧ -(2 ^ 62) ≤ j ∧ j < 2 ^ 62 then .ok (rng i (j - i).toNat) S2 else .no
  | .exc e S, _ => .exc e S
  | .ok _ _, .exc e S => .exc e S
  | _, _ => .no
def kRng2a (fb : EM) (ρ : Env) : Res D → Res (List PyData)
  | .ok x S => kRng2 (.ok x S) (fb ρ S)
  | .exc e S => .exc e S
  | .no => .no
@[simp] theorem iRng2_ap : Sky.iRng2 fa fb ρ S = kRng2a fb ρ (fa ρ S) := by
  unfold Sky.iRng2
  cases fa ρ S with
  | ok x S1 =>
    show (fb ρ S1).andThen _ = kRng2 (.ok x S1) (fb ρ S1)
    cases fb ρ S1 with
    | ok y S2 =>
      cases x with
      | d x =>
        cases x with
        | int i => cases y with
          | d y => cases y <;> rfl
          | _ => rfl
        | _ => cases y <;> rfl
      | _ => cases y <;> rfl
    | exc _ _ => cases x with
      | d x => cases x <;> rfl
      | _ => rfl
    | no => cases x with
      | d x => cases x <;> rfl
      | _ => rfl
  | exc _ _ => rfl
  | no => rfl
@[simp] theorem kRng2a_ok : kRng2a fb ρ (.ok x S) = kRng2 (.ok x S) (fb ρ S) := id rfl
@[simp] theorem kRng2_i (i j : Int) (h : -4611686018427387904 ≤ i ∧ i < 4611686018427387904 ∧ -4611686018427387904 ≤ j ∧ j < 4611686018427387904) : kRng2 (.ok (.d (.int i)) S1) (.ok (.d (.int j)) S) = .ok (rng i (j - i).toNat) S := if_pos h
/-! ### comprehensions -/
def kComp2 : Res (List PyData) → Res D
  | .ok ys S => .ok (.d (.list ys)) S
  | _ => .no
def kComp (g : TgM) (t : BM) (fe : EM) (own : List Nat) (ρ : Env) : Res (List PyData) → Res D
  | .ok xs S => if xs.length < sizeLine then kComp2 (compL g t fe (wipeE ρ own) xs S) else .no
  | .exc e S => .exc e S
  | .no => .no
@[simp] theorem mComp_ap {fi : IM} {g : TgM} {t : BM} {own : List Nat} : mComp fi g t fe own ρ S = kComp g t fe own ρ (fi ρ S) := by
  unfold mComp
  cases fi ρ S with
  | ok xs S1 =>
    show (if xs.length < sizeLine then _ else _) = if xs.length < sizeLine then _ else _
    congr 1
  | _ => rfl
@[simp] theorem kComp_ok {g : TgM} {t : BM} {own : List Nat} (xs : List PyData) : kComp g t fe own ρ (.ok xs S) = if xs.length < 16777216 then kComp2 (compL g t fe (wipeE ρ own) xs S) else .no := by rw [← sizeLine_eq]; rfl
@[simp] theorem kComp2_ok (ys : List PyData) : kComp2 (.ok ys S) = .ok (.d (.list ys)) S := id rfl
@[simp] theorem wipeE_nil : wipeE ρ [] = ρ := id rfl
@[simp] theorem wipeE_cons (v : Nat) (vs : List Nat) : wipeE ρ (v :: vs) = (wipeE ρ vs).set v none := id rfl
@[simp] theorem bYes_ap : bYes ρ S = .ok true S := id rfl
/-- a comprehension whose parts keep the store: a filter, then a map -/
theorem compL_pure {g : TgM} {t : BM} (p : PyData → Bool) (h : PyData → PyData) : ∀ (xs : List PyData), (∀ x ∈ xs, ∃ ρ1, g x ρ = some ρ1 ∧ t ρ1 S = .ok (p x) S ∧ (p x = true → fe ρ1 S = .ok (.d (h x)) S)) →
    compL g t fe ρ xs S = .ok ((xs.filter p).map h) S
  | [], _ => rfl
  | x :: xs, hx => by
    obtain ⟨ρ1, h1, h2, h3⟩ := hx x List.mem_cons_self
    have ih := compL_pure p h xs fun y hy => hx y (List.mem_cons_of_mem _ hy)
    unfold compL
    simp only [h1, h2]
    cases hp : p x with
    | false => rw [List.filter_cons_of_neg (by rw [hp]; exact Bool.false_ne_true)]; exact ih
    | true =>
      rw [List.filter_cons_of_pos hp, List.map_cons]
      simp only [h3 hp, ih]
/-! ### a def's run -/
@[simp] theorem pad_ap (n : Nat) (ds : List D) : pad n ds = ds.map some ++ List.replicate (n - ds.length) none := id rfl
def endF : SR → Res D
  | .nx _ S' => .ok (.d .none) S'
  | .rt d S' => .ok d S'
  | .ex e _ S' => .exc e S'
  | _ => .no
theorem runF_ap (n : Nat) (body : SM) : runF n body ds S = endF (body (pad n ds) S) := by unfold runF; cases body (pad n ds) S <;> rfl
@[simp] theorem endF_rt : endF (.rt d S) = .ok d S := id rfl
@[simp] theorem endF_nx : endF (.nx ρ S) = .ok (.d .none) S := id rfl
@[simp] theorem endF_ex : endF (.ex e ρ S) = .exc e S := id rfl
def endP : SR → Option PyData
  | .nx _ _ => some .none
  | .rt d S' => rf S' d
  | _ => none
theorem runP_ap (n : Nat) (body : SM) (xs : List PyData) : runP n body xs = endP (body (pad n (xs.map .d)) []) := by unfold runP; cases body (pad n (xs.map .d)) [] <;> rfl
@[simp] theorem endP_rt : endP (.rt d S) = rf S d := id rfl
@[simp] theorem endP_nx : endP (.nx ρ S) = some .none := id rfl
def endD : SR → Option (PyData × List PyData)
  | .nx _ S' => match (S'[0]? : Option Cell) with
    | some (.lst dk') => some (.none, dk')
    | _ => none
  | .rt d S' => match (S'[0]? : Option Cell), d with
    | some (.lst dk'), .d x => some (x, dk')
    | some (.lst dk'), .r (i + 1) => (rf S' (.r (i + 1))).map fun x => (x, dk')
    | _, _ => none
  | _ => none
theorem runD_ap (n : Nat) (body : SM) (dk xs : List PyData) : runD n body dk xs = endD (body (pad n (.r 0 :: xs.map .d)) [.lst dk]) := by unfold runD; cases body (pad n (.r 0 :: xs.map .d)) [.lst dk] <;> rfl
@[simp] theorem endD_d (x : PyData) (dk : List PyData) (S : Store) : endD (.rt (.d x) (.lst dk :: S)) = some (x, dk) := id rfl
@[simp] theorem endD_r (i : Nat) (dk : List PyData) (S : Store) : endD (.rt (.r (i + 1)) (.lst dk :: S)) = (rfC (S[i]? : Option Cell)).map fun x => (x, dk) := id rfl
@[simp] theorem endD_nx (dk : List PyData) (S : Store) : endD (.nx ρ (.lst dk :: S)) = some (.none, dk) := id rfl
/-! ### items of written lists at a drawn place -/
@[simp] theorem ix2i (a b v : Int) (h : v = 0 ∨ v = 1) : ([.int a, .int b] : List PyData)[v.toNat]? = some (.int (if v = 0 then a else b)) := by rcases h with rfl | rfl <;> rfl
@[simp] theorem ix3i (a b c v : Int) (h : v = 0 ∨ v = 1 ∨ v = 2) : ([.int a, .int b, .int c] : List PyData)[v.toNat]? = some (.int (if v = 0 then a else if v = 1 then b else c)) := by rcases h with rfl | rfl | rfl <;> rfl
@[simp] theorem ix4i (a b c d v : Int) (h : v = 0 ∨ v = 1 ∨ v = 2 ∨ v = 3) : ([.int a, .int b, .int c, .int d] : List PyData)[v.toNat]? = some (.int (if v = 0 then a else if v = 1 then b else if v = 2 then c else d)) := by rcases h with rfl | rfl | rfl | rfl <;> rfl
@[simp] theorem ix2s (a b : Str) (v : Int) (h : v = 0 ∨ v = 1) : ([.str a, .str b] : List PyData)[v.toNat]? = some (.str (if v = 0 then a else b)) := by rcases h with rfl | rfl <;> rfl
@[simp] theorem ix3s (a b c : Str) (v : Int) (h : v = 0 ∨ v = 1 ∨ v = 2) : ([.str a, .str b, .str c] : List PyData)[v.toNat]? = some (.str (if v = 0 then a else if v = 1 then b else c)) := by rcases h with rfl | rfl | rfl <;> rfl
theorem app_get {α : Type} {S T : List α} {i : Nat} {x : α} (h : S[i]? = some x) : (S ++ T)[i]? = some x := by
  rw [List.getElem?_append_left (List.getElem?_eq_some_iff.mp h).1]
  exact h
abbrev InvT := Nat → Sky.Env → Store → Prop
theorem hide (J : InvT) : ∃ I : InvT, I = J := ⟨_, rfl⟩
end Sky
end
section
/-! Lay12: equality of plain data; more rules on cells. -/
namespace Sky
open PySem PySem.Spec PyProof.Rows L2
/-- numbers, names, None, tuples and lists of such -/
def dq : Nat → PyData → Bool
  | _, .int _ => true
  | _, .str _ => true
  | _, .none => true
  | n + 1, .tuple xs => xs.all (dq n)
  | n + 1, .list xs => xs.all (dq n)
  | _, _ => false
@[simp] theorem dq_int (n : Nat) (i : Int) : dq n (.int i) = true := by cases n <;> rfl
@[simp] theorem dq_str (n : Nat) (i : Str) : dq n (.str i) = true := by cases n <;> rfl
@[simp] theorem dq_none (n : Nat) : dq n .none = true := by cases n <;> rfl
@[simp] theorem dq_tup (n : Nat) (xs : List PyData) : dq (n + 1) (.tuple xs) = xs.all (dq n) := id rfl
@[simp] theorem dq_lst (n : Nat) (xs : List PyData) : dq (n + 1) (.list xs) = xs.all (dq n) := id rfl
theorem dq_dp : ∀ (n : Nat) (d : PyData), dq n d = true → dp n d = true := by
  intro n
  induction n with
  | zero => intro d h; cases d <;> first | (cases h; done) | simp
  | succ n ih =>
    intro d h
    cases d with
    | tuple xs => exact List.all_eq_true.mpr fun x hx => ih x (List.all_eq_true.mp h x hx)
    | list xs => exact List.all_eq_true.mpr fun x hx => ih x (List.all_eq_true.mp h x hx)
    | _ => first | (cases h; done) | simp
theorem eqvAll_iff {n : Nat} (ih : ∀ a b, dq n a = true → dq n b = true → (PyData.eqv a b = true ↔ a = b)) : ∀ xs ys : List PyData, xs.all (dq n) = true → ys.all (dq n) = true → (PyData.eqvAll xs ys = true ↔ xs = ys)
  | [], [], _, _ => by simp [PyData.eqvAll]
  | [], _ :: _, _, _ => by simp [PyData.eqvAll]
  | _ :: _, [], _, _ => by simp [PyData.eqvAll]
  | x :: xs, y :: ys, hx, hy => by
    rw [List.all_cons, Bool.and_eq_true] at hx hy
    rw [PyData.eqvAll, Bool.and_eq_true, ih x y hx.1 hy.1, eqvAll_iff ih xs ys hx.2 hy.2]
    simp
theorem eqv_iff : ∀ (n : Nat) (a b : PyData), dq n a = true → dq n b = true → (PyData.eqv a b = true ↔ a = b) := by
  intro n
  induction n with
  | zero =>
    intro a b ha hb
    cases a <;> first | (cases ha; done) | skip
    all_goals cases b <;> first | (cases hb; done) | simp [PyData.eqv]
  | succ n ih =>
    intro a b ha hb
    cases a with
    | tuple xs => cases b with
      | tuple ys => rw [PyData.eqv, eqvAll_iff ih xs ys ha hb]; simp
      | _ => first | (cases hb; done) | simp [PyData.eqv]
    | list xs => cases b with
      | list ys => rw [PyData.eqv, eqvAll_iff ih xs ys ha hb]; simp
      | _ => first | (cases hb; done) | simp [PyData.eqv]
    | _ => first | (cases ha; done) | (cases b <;> first | (cases hb; done) | simp [PyData.eqv])
@[simp] theorem eqv_l_nil (xs : List PyData) : PyData.eqv (.list xs) (.list []) = xs.isEmpty := by cases xs <;> simp [PyData.eqv, PyData.eqvAll]
@[simp] theorem eqv_t_nil (xs : List PyData) : PyData.eqv (.tuple xs) (.tuple []) = xs.isEmpty := by cases xs <;> simp [PyData.eqv, PyData.eqvAll]
def kEq : Option PyData → Option PyData → Option D
  | some a, some b => if dp 60 a = true ∧ dp 60 b = true then some (.d (.bool (PyData.eqv a b))) else none
  | _, _ => none
def kNe : Option PyData → Option PyData → Option D
  | some a, some b => if dp 60 a = true ∧ dp 60 b = true then some (.d (.bool (!PyData.eqv a b))) else none
  | _, _ => none
theorem gEq_ap (S : Store) (x y : D) : gEq S x y = kEq (rf S x) (rf S y) := by unfold gEq kEq; cases rf S x <;> cases rf S y <;> rfl
theorem gNe_ap (S : Store) (x y : D) : gNe S x y = kNe (rf S x) (rf S y) := by unfold gNe kNe; cases rf S x <;> cases rf S y <;> rfl
@[simp] theorem gEq_r (S : Store) (i : Nat) (y : D) : gEq S (.r i) y = kEq (rfC S[i]?) (rf S y) := gEq_ap _ _ _
@[simp] theorem gNe_r (S : Store) (i : Nat) (y : D) : gNe S (.r i) y = kNe (rfC S[i]?) (rf S y) := gNe_ap _ _ _
@[simp] theorem gEq_dr (S : Store) (i : Nat) (y : PyData) : gEq S (.d y) (.r i) = kEq (some y) (rfC S[i]?) := gEq_ap _ _ _
@[simp] theorem gNe_dr (S : Store) (i : Nat) (y : PyData) : gNe S (.d y) (.r i) = kNe (some y) (rfC S[i]?) := gNe_ap _ _ _
@[simp] theorem kEq_ok (a b : PyData) : kEq (some a) (some b) = if dp 60 a = true ∧ dp 60 b = true then some (.d (.bool (PyData.eqv a b))) else none := id rfl
@[simp] theorem kNe_ok (a b : PyData) : kNe (some a) (some b) = if dp 60 a = true ∧ dp 60 b = true then some (.d (.bool (!PyData.eqv a b))) else none := id rfl
@[simp] theorem dp_tup' (n : Nat) (xs : List PyData) : dp (n + 1) (.tuple xs) = xs.all (dp n) := id rfl
@[simp] theorem dp_lst' (n : Nat) (xs : List PyData) : dp (n + 1) (.list xs) = xs.all (dp n) := id rfl
@[simp] theorem set_end {α : Type} (S : List α) (c d : α) : (S ++ [c]).set S.length d = S ++ [d] := by
  rw [List.set_append_right _ _ (Nat.le_refl _), Nat.sub_self]
  rfl
@[simp] theorem get_end {α : Type} (S : List α) (c : α) : (S ++ [c])[S.length]? = some c := by
  rw [List.getElem?_append_right (Nat.le_refl _), Nat.sub_self]
  rfl
@[simp] theorem get_end0 {α : Type} (S T : List α) (c : α) : (S ++ c :: T)[S.length]? = some c := by
  rw [List.getElem?_append_right (Nat.le_refl _), Nat.sub_self]
  rfl
@[simp] theorem get_end1 {α : Type} (S T : List α) (b c : α) : (S ++ b :: c :: T)[S.length + 1]? = some c := by
  rw [List.getElem?_append_right (by omega), show S.length + 1 - S.length = 1 by omega]
  rfl
@[simp] theorem get_end2 {α : Type} (S T : List α) (a b c : α) : (S ++ a :: b :: c :: T)[S.length + 2]? = some c := by
  rw [List.getElem?_append_right (by omega), show S.length + 2 - S.length = 2 by omega]
  rfl
@[simp] theorem set_end0 {α : Type} (S T : List α) (c d : α) : (S ++ c :: T).set S.length d = S ++ d :: T := by
  rw [List.set_append_right _ _ (Nat.le_refl _), Nat.sub_self]
  rfl
@[simp] theorem set_end1 {α : Type} (S T : List α) (b c d : α) : (S ++ b :: c :: T).set (S.length + 1) d = S ++ b :: d :: T := by
  rw [List.set_append_right _ _ (by omega), show S.length + 1 - S.length = 1 by omega]
  rfl
@[simp] theorem get_set_same {α : Type} {S : List α} {j : Nat} (c : α) (h : j < S.length) : (S.set j c)[j]? = some c := List.getElem?_set_self h
theorem lt_of_get {α : Type} {S : List α} {j : Nat} {c : α} (h : S[j]? = some c) : j < S.length := (List.getElem?_eq_some_iff.mp h).1
@[simp] theorem isT_int_none  : isT "int" .none = false := id rfl
@[simp] theorem isT_int_bool (b : Bool) : isT "int" (.bool b) = true := id rfl
@[simp] theorem isT_int_int (b : Int) : isT "int" (.int b) = true := id rfl
@[simp] theorem isT_int_str (b : Str) : isT "int" (.str b) = false := id rfl
@[simp] theorem isT_int_list (b : List PyData) : isT "int" (.list b) = false := id rfl
@[simp] theorem isT_int_tuple (b : List PyData) : isT "int" (.tuple b) = false := id rfl
@[simp] theorem isT_int_dict (b : List (PyData × PyData)) : isT "int" (.dict b) = false := id rfl
@[simp] theorem isT_bool_none  : isT "bool" .none = false := id rfl
@[simp] theorem isT_bool_bool (b : Bool) : isT "bool" (.bool b) = true := id rfl
@[simp] theorem isT_bool_int (b : Int) : isT "bool" (.int b) = false := id rfl
@[simp] theorem isT_bool_str (b : Str) : isT "bool" (.str b) = false := id rfl
@[simp] theorem isT_bool_list (b : List PyData) : isT "bool" (.list b) = false := id rfl
@[simp] theorem isT_bool_tuple (b : List PyData) : isT "bool" (.tuple b) = false := id rfl
@[simp] theorem isT_bool_dict (b : List (PyData × PyData)) : isT "bool" (.dict b) = false := id rfl
@[simp] theorem isT_str_none  : isT "str" .none = false := id rfl
@[simp] theorem isT_str_bool (b : Bool) : isT "str" (.bool b) = false := id rfl
@[simp] theorem isT_str_int (b : Int) : isT "str" (.int b) = false := id rfl
@[simp] theorem isT_str_str (b : Str) : isT "str" (.str b) = true := id rfl
@[simp] theorem isT_str_list (b : List PyData) : isT "str" (.list b) = false := id rfl
@[simp] theorem isT_str_tuple (b : List PyData) : isT "str" (.tuple b) = false := id rfl
@[simp] theorem isT_str_dict (b : List (PyData × PyData)) : isT "str" (.dict b) = false := id rfl
@[simp] theorem isT_tuple_none  : isT "tuple" .none = false := id rfl
@[simp] theorem isT_tuple_bool (b : Bool) : isT "tuple" (.bool b) = false := id rfl
@[simp] theorem isT_tuple_int (b : Int) : isT "tuple" (.int b) = false := id rfl
@[simp] theorem isT_tuple_str (b : Str) : isT "tuple" (.str b) = false := id rfl
@[simp] theorem isT_tuple_list (b : List PyData) : isT "tuple" (.list b) = false := id rfl
@[simp] theorem isT_tuple_tuple (b : List PyData) : isT "tuple" (.tuple b) = true := id rfl
@[simp] theorem isT_tuple_dict (b : List (PyData × PyData)) : isT "tuple" (.dict b) = false := id rfl
@[simp] theorem isT_list_none  : isT "list" .none = false := id rfl
@[simp] theorem isT_list_bool (b : Bool) : isT "list" (.bool b) = false := id rfl
@[simp] theorem isT_list_int (b : Int) : isT "list" (.int b) = false := id rfl
@[simp] theorem isT_list_str (b : Str) : isT "list" (.str b) = false := id rfl
@[simp] theorem isT_list_list (b : List PyData) : isT "list" (.list b) = true := id rfl
@[simp] theorem isT_list_tuple (b : List PyData) : isT "list" (.tuple b) = false := id rfl
@[simp] theorem isT_list_dict (b : List (PyData × PyData)) : isT "list" (.dict b) = false := id rfl
end Sky
end
section
namespace K1
open PySem PySem.Spec PyProof.Rows L2 Sky
def topS (i : Nat) : Stmt := PySem.Challenge.pw_skynights_k01_whole_what_is_up.main.body.getD i (.Pass ⟨0, 0, 0, 0⟩)
abbrev s_middle : Stmt := topS 3
abbrev s_is_up : Stmt := topS 4
abbrev s_is_dark : Stmt := topS 5
abbrev s_stretches : Stmt := topS 6
abbrev s__law_deck : Stmt := topS 8
abbrev s__law_pick : Stmt := topS 9
abbrev s__law_season : Stmt := topS 10
abbrev s__law_up : Stmt := topS 11
abbrev s__law_dark : Stmt := topS 12
abbrev s__law_stretches : Stmt := topS 13
abbrev s_law : Stmt := topS 14
structure Glob (K : PySem.W.Frag) (mg : MG) : Prop where
  b_abs : mg "abs" = none
  b_bool : mg "bool" = none
  b_isinstance : mg "isinstance" = none
  b_len : mg "len" = none
  b_list : mg "list" = none
  b_min : mg "min" = none
  b_range : mg "range" = none
  b_tuple : mg "tuple" = none
  i_RING : ∃ t, mg "RING" = some (.int 60 t)
  i_SLOTS : ∃ t, mg "SLOTS" = some (.int 24 t)
structure Txt (K : PySem.W.Frag) (mg : MG) : Prop where
  middle : TX K mg "middle" "middle" s_middle ["season", "night", "slot"]
  is_up : TX K mg "is_up" "is_up" s_is_up ["season", "spot", "night", "slot"]
  is_dark : TX K mg "is_dark" "is_dark" s_is_dark ["season", "night", "slot"]
  stretches : TX K mg "stretches" "stretches" s_stretches ["season", "spot", "night"]
  _law_deck : TX K mg "_law_deck" "_law_deck" s__law_deck ["cell", "turn"]
  _law_pick : TX K mg "_law_pick" "_law_pick" s__law_pick ["deck", "limit"]
  _law_season : TX K mg "_law_season" "_law_season" s__law_season ["deck", "most"]
  _law_up : TX K mg "_law_up" "_law_up" s__law_up ["season", "spot", "night", "slot"]
  _law_dark : TX K mg "_law_dark" "_law_dark" s__law_dark ["season", "night", "slot"]
  _law_stretches : TX K mg "_law_stretches" "_law_stretches" s__law_stretches ["season", "spot", "night"]
  law : TX K mg "law" "law" s_law ["script"]
section
variable {P : Program} {w : World} {K : PySem.W.Frag} {mg : MG} {base : Heap}
/-- middle: 0 season, 1 night, 2 slot -/
def B_middle : SM :=
    (sRet (mOp gMod (mOp gAdd (mOp gMul (mOp gIx (mVar 0) (mC (.int 0))) (mVar 1)) (mOp gMul (mC (.int 2)) (mVar 2))) (mC (.int 60))))
def P_middle : List PyData → Option PyData := runP 3 B_middle
def F_middle : Fn := pureF P_middle
theorem sc_middle : FnScope ["season", "night", "slot"] ["season", "night", "slot"] (defScope s_middle) := ⟨rfl, rfl, rfl, by decide +kernel, rfl, by decide +kernel, by decide +kernel⟩
theorem ok_middle (G : Glob K mg) (T : Txt K mg) : FM P w K mg base 1 "middle" 3 F_middle := fm_pure T.middle sc_middle rfl rfl fun f cdv A outer s H E c =>
    (pmb_one (pms_ret (pm_op o_mod (pm_op o_add (pm_op o_mul (pm_ix c.hu1 (pm_var 0) pm_int) (pm_var 1)) (pm_op o_mul pm_int (pm_var 2))) (pm_gint rfl G.i_RING))))
/-- is_up: 0 season, 1 spot, 2 night, 3 slot, 4 way -/
def B_is_up : SM :=
    (sSeq (sSet 4 (mCl cAbs (aCons (mOp gSub (mOp gIx (mVar 1) (mC (.int 0))) (mCall 3 F_middle (aCons (mVar 0) (aCons (mVar 2) (aCons (mVar 3) aNil))))) aNil)))
    (sRet (mOp gLe (mCl cMin2 (aCons (mVar 4) (aCons (mOp gSub (mC (.int 60)) (mVar 4)) aNil))) (mOp gIx (mVar 1) (mC (.int 1))))))
def P_is_up : List PyData → Option PyData := runP 5 B_is_up
def F_is_up : Fn := pureF P_is_up
theorem sc_is_up : FnScope ["season", "spot", "night", "slot", "way"] ["season", "spot", "night", "slot"] (defScope s_is_up) := ⟨rfl, rfl, rfl, by decide +kernel, rfl, by decide +kernel, by decide +kernel⟩
theorem ok_is_up (G : Glob K mg) (T : Txt K mg) : FM P w K mg base 2 "is_up" 4 F_is_up := fm_pure T.is_up sc_is_up rfl rfl fun f cdv A outer s H E c =>
    (pmb_cons (pms_set 4 c.nd (pm_callB k_abs rfl G.b_abs (by decide +kernel) (pma_cons (pm_op o_sub (pm_ix c.hu1 (pm_var 1) pm_int) (pm_call c ((ok_middle G T).mono (by decide)) (pma_cons (pm_var 0) (pma_cons (pm_var 2) (pma_cons (pm_var 3) pma_nil))))) pma_nil)))
    (pmb_one (pms_ret (pm_cmp o_le (pm_callB (k_min2 c.calm) rfl G.b_min (by decide +kernel) (pma_cons (pm_var 4) (pma_cons (pm_op o_sub (pm_gint rfl G.i_RING) (pm_var 4)) pma_nil))) (pm_ix c.hu1 (pm_var 1) pm_int)))))
/-- is_dark: 0 season, 1 night, 2 slot, 3 first, 4 last -/
def B_is_dark : SM :=
    (sSeq (sAsg (mOp gIx (mOp gIx (mVar 0) (mC (.int 1))) (mVar 1)) (gTp 2 (gsCons (gNm 3) (gsCons (gNm 4) gsNil))))
    (sRet (mChain gLe gLe (mVar 3) (mVar 2) (mVar 4))))
def P_is_dark : List PyData → Option PyData := runP 5 B_is_dark
def F_is_dark : Fn := pureF P_is_dark
theorem sc_is_dark : FnScope ["season", "night", "slot", "first", "last"] ["season", "night", "slot"] (defScope s_is_dark) := ⟨rfl, rfl, rfl, by decide +kernel, rfl, by decide +kernel, by decide +kernel⟩
theorem ok_is_dark (G : Glob K mg) (T : Txt K mg) : FM P w K mg base 1 "is_dark" 3 F_is_dark := fm_pure T.is_dark sc_is_dark rfl rfl fun f cdv A outer s H E c =>
    (pmb_cons (pms_asg (pm_ix c.hu1 (pm_ix c.hu1 (pm_var 0) pm_int) (pm_var 1)) (pmg_tup c.calm (pmgs_cons (pmg_nm 3 c.nd) (pmgs_cons (pmg_nm 4 c.nd) pmgs_nil))))
    (pmb_one (pms_ret (pm_chain o_le o_le (pm_var 3) (pm_var 2) (pm_var 4)))))
/-- stretches: 0 season, 1 spot, 2 night, 3 found, 4 slot -/
def L_stretches_0 : SM :=
    (sIf (bAnd (asB (mCall 3 F_is_dark (aCons (mVar 0) (aCons (mVar 2) (aCons (mVar 4) aNil))))) (asB (mCall 4 F_is_up (aCons (mVar 0) (aCons (mVar 1) (aCons (mVar 2) (aCons (mVar 4) aNil))))))) (sIf (bAnd (asB (mOp gNe (mVar 3) (mLst aNil))) (asB (mOp gEq (mOp gIx (mOp gIx (mVar 3) (mNeg (mC (.int 1)))) (mC (.int 1))) (mOp gSub (mVar 4) (mC (.int 1)))))) (sSub (mVar 3) (mNeg (mC (.int 1))) (mTup (aCons (mOp gIx (mOp gIx (mVar 3) (mNeg (mC (.int 1)))) (mC (.int 0))) (aCons (mVar 4) aNil)))) (sExpr (mApp (mVar 3) (mTup (aCons (mVar 4) (aCons (mVar 4) aNil)))))) sNx)
def B_stretches : SM :=
    (sSeq (sSet 3 (mLstC aNil))
    (sSeq (sFor (iRng1 (mC (.int 24))) (gNm 4) L_stretches_0)
    (sRet (mVar 3))))
def F_stretches : Fn := runF 5 B_stretches
theorem sc_stretches : FnScope ["season", "spot", "night", "found", "slot"] ["season", "spot", "night"] (defScope s_stretches) := ⟨rfl, rfl, rfl, by decide +kernel, rfl, by decide +kernel, by decide +kernel⟩
theorem ok_stretches (G : Glob K mg) (T : Txt K mg) : FM P w K mg base 3 "stretches" 3 F_stretches := fm_full T.stretches sc_stretches rfl rfl fun f cdv A outer s H E c =>
    (pmb_cons (pms_set 3 c.nd (pm_lstC pma_nil))
    (pmb_cons (pms_for c.own c.calm (pmi_range1 rfl G.b_range (pm_gint rfl G.i_SLOTS)) (pmg_nm 4 c.nd) (pmb_one (pms_if (pmt_bo (pmw_and (pmt_val (pm_call c ((ok_is_dark G T).mono (by decide)) (pma_cons (pm_var 0) (pma_cons (pm_var 2) (pma_cons (pm_var 4) pma_nil))))) (pmw_and1 (pmt_val (pm_call c ((ok_is_up G T).mono (by decide)) (pma_cons (pm_var 0) (pma_cons (pm_var 1) (pma_cons (pm_var 2) (pma_cons (pm_var 4) pma_nil))))))))) (pmb_one (pms_if (pmt_bo (pmw_and (pmt_cmp (o_ne c.hu) (pm_var 3) (pm_lst pma_nil)) (pmw_and1 (pmt_cmp (o_eq c.hu) (pm_ix c.hu1 (pm_ix c.hu1 (pm_var 3) (pm_neg pm_int)) pm_int) (pm_op o_sub (pm_var 4) pm_int))))) (pmb_one (pms_sub c.hu1 (pm_var 3) (pm_neg pm_int) (pm_tup (pma_cons (pm_ix c.hu1 (pm_ix c.hu1 (pm_var 3) (pm_neg pm_int)) pm_int) (pma_cons (pm_var 4) pma_nil))))) (pmb_one (pms_expr (pm_app (pm_var 3) (pm_tup (pma_cons (pm_var 4) (pma_cons (pm_var 4) pma_nil)))))))) pmb_nil)))
    (pmb_one (pms_ret (pm_var 3)))))
/-- _law_deck: 0 cell, 1 turn -/
def B__law_deck : SM :=
    (sSeq (sIf (asB (mOp gGe (mVar 0) (mOp gPow (mC (.int 10)) (mC (.int 18))))) (sRet (mLstC (aCons (mOp gSub (mVar 0) (mOp gPow (mC (.int 10)) (mC (.int 18)))) (aCons (mOp gMod (mVar 0) (mC (.int 2147483579))) (aCons (mVar 1) aNil))))) sNx)
    (sRet (mLstC (aCons (mC (.int 0)) (aCons (mOp gMod (mVar 0) (mC (.int 2147483579))) (aCons (mVar 1) aNil))))))
def F__law_deck : Fn := runF 2 B__law_deck
theorem sc__law_deck : FnScope ["cell", "turn"] ["cell", "turn"] (defScope s__law_deck) := ⟨rfl, rfl, rfl, by decide +kernel, rfl, by decide +kernel, by decide +kernel⟩
theorem ok__law_deck (G : Glob K mg) (T : Txt K mg) : FM P w K mg base 1 "_law_deck" 2 F__law_deck := fm_full T._law_deck sc__law_deck rfl rfl fun f cdv A outer s H E c =>
    (pmb_cons (pms_if (pmt_cmp o_ge (pm_var 0) (pm_op o_pow pm_int pm_int)) (pmb_one (pms_ret (pm_lstC (pma_cons (pm_op o_sub (pm_var 0) (pm_op o_pow pm_int pm_int)) (pma_cons (pm_op o_mod (pm_var 0) pm_int) (pma_cons (pm_var 1) pma_nil)))))) pmb_nil)
    (pmb_one (pms_ret (pm_lstC (pma_cons pm_int (pma_cons (pm_op o_mod (pm_var 0) pm_int) (pma_cons (pm_var 1) pma_nil)))))))
/-- _law_pick: 0 deck, 1 limit, 2 found, 3 number -/
def B__law_pick : SM :=
    (sSeq (sIf (asB (mOp gGt (mOp gIx (mVar 0) (mC (.int 0))) (mC (.int 1)))) (sSeq (sSet 2 (mOp gMod (mOp gIx (mVar 0) (mC (.int 0))) (mVar 1)))
    (sSeq (sSub (mVar 0) (mC (.int 0)) (mOp gDiv (mOp gIx (mVar 0) (mC (.int 0))) (mVar 1)))
    (sRet (mVar 2)))) sNx)
    (sSeq (sSub (mVar 0) (mC (.int 2)) (mOp gAdd (mOp gIx (mVar 0) (mC (.int 2))) (mC (.int 1))))
    (sSeq (sSet 3 (mOp gMod (mOp gPow (mOp gAdd (mOp gIx (mVar 0) (mC (.int 1))) (mOp gMul (mC (.int 15485867)) (mOp gIx (mVar 0) (mC (.int 2))))) (mC (.int 5))) (mC (.int 2147483647))))
    (sSeq (sSet 2 (mOp gDiv (mOp gMod (mOp gPow (mOp gAdd (mVar 3) (mOp gMul (mC (.int 7919)) (mOp gIx (mVar 0) (mC (.int 2))))) (mC (.int 3))) (mC (.int 2147483629))) (mC (.int 32))))
    (sSeq (sIf (asB (mOp gGt (mVar 1) (mC (.int 1000000)))) (sRet (mOp gMod (mOp gAdd (mOp gMul (mVar 2) (mC (.int 2147483563))) (mVar 3)) (mVar 1))) sNx)
    (sRet (mOp gMod (mVar 2) (mVar 1))))))))
def P__law_pick : List PyData → List PyData → Option (PyData × List PyData) := runD 4 B__law_pick
def F__law_pick : Fn := deckF P__law_pick
theorem sc__law_pick : FnScope ["deck", "limit", "found", "number"] ["deck", "limit"] (defScope s__law_pick) := ⟨rfl, rfl, rfl, by decide +kernel, rfl, by decide +kernel, by decide +kernel⟩
theorem ok__law_pick (G : Glob K mg) (T : Txt K mg) : FM P w K mg base 1 "_law_pick" 2 F__law_pick := fm_deck T._law_pick sc__law_pick rfl rfl fun f cdv A outer s H E c =>
    (pmb_cons (pms_if (pmt_cmp o_gt (pm_ix c.hu1 (pm_var 0) pm_int) pm_int) (pmb_cons (pms_set 2 c.nd (pm_op o_mod (pm_ix c.hu1 (pm_var 0) pm_int) (pm_var 1)))
    (pmb_cons (pms_sub c.hu1 (pm_var 0) pm_int (pm_op o_div (pm_ix c.hu1 (pm_var 0) pm_int) (pm_var 1)))
    (pmb_one (pms_ret (pm_var 2))))) pmb_nil)
    (pmb_cons (pms_sub c.hu1 (pm_var 0) pm_int (pm_op o_add (pm_ix c.hu1 (pm_var 0) pm_int) pm_int))
    (pmb_cons (pms_set 3 c.nd (pm_op o_mod (pm_op o_pow (pm_op o_add (pm_ix c.hu1 (pm_var 0) pm_int) (pm_op o_mul pm_int (pm_ix c.hu1 (pm_var 0) pm_int))) pm_int) pm_int))
    (pmb_cons (pms_set 2 c.nd (pm_op o_div (pm_op o_mod (pm_op o_pow (pm_op o_add (pm_var 3) (pm_op o_mul pm_int (pm_ix c.hu1 (pm_var 0) pm_int))) pm_int) pm_int) pm_int))
    (pmb_cons (pms_if (pmt_cmp o_gt (pm_var 1) pm_int) (pmb_one (pms_ret (pm_op o_mod (pm_op o_add (pm_op o_mul (pm_var 2) pm_int) (pm_var 3)) (pm_var 1)))) pmb_nil)
    (pmb_one (pms_ret (pm_op o_mod (pm_var 2) (pm_var 1)))))))))
/-- _law_season: 0 deck, 1 most, 2 nights, 3 k, 4 first -/
def L__law_season_0 : SM :=
    (sSeq (sSet 4 (mOp gIx (mLst (aCons (mC (.int 0)) (aCons (mCall 2 F__law_pick (aCons (mVar 0) (aCons (mC (.int 12)) aNil))) aNil))) (mCall 2 F__law_pick (aCons (mVar 0) (aCons (mC (.int 2)) aNil)))))
    (sExpr (mApp (mVar 2) (mTup (aCons (mVar 4) (aCons (mOp gIx (mLst (aCons (mC (.int 23)) (aCons (mOp gAdd (mVar 4) (mCall 2 F__law_pick (aCons (mVar 0) (aCons (mOp gSub (mC (.int 24)) (mVar 4)) aNil)))) aNil))) (mCall 2 F__law_pick (aCons (mVar 0) (aCons (mC (.int 2)) aNil)))) aNil))))))
def B__law_season : SM :=
    (sSeq (sSet 2 (mLstC aNil))
    (sSeq (sFor (iRng1 (mOp gAdd (mC (.int 1)) (mCall 2 F__law_pick (aCons (mVar 0) (aCons (mVar 1) aNil))))) (gNm 3) L__law_season_0)
    (sRet (mTup (aCons (mOp gIx (mLst (aCons (mC (.int 0)) (aCons (mC (.int 1)) (aCons (mC (.int 59)) (aCons (mCall 2 F__law_pick (aCons (mVar 0) (aCons (mC (.int 60)) aNil))) aNil))))) (mCall 2 F__law_pick (aCons (mVar 0) (aCons (mC (.int 4)) aNil)))) (aCons (mCl cTup (aCons (mVar 2) aNil)) aNil))))))
def P__law_season : List PyData → List PyData → Option (PyData × List PyData) := runD 5 B__law_season
def F__law_season : Fn := deckF P__law_season
theorem sc__law_season : FnScope ["deck", "most", "nights", "k", "first"] ["deck", "most"] (defScope s__law_season) := ⟨rfl, rfl, rfl, by decide +kernel, rfl, by decide +kernel, by decide +kernel⟩
theorem ok__law_season (G : Glob K mg) (T : Txt K mg) : FM P w K mg base 2 "_law_season" 2 F__law_season := fm_deck T._law_season sc__law_season rfl rfl fun f cdv A outer s H E c =>
    (pmb_cons (pms_set 2 c.nd (pm_lstC pma_nil))
    (pmb_cons (pms_for c.own c.calm (pmi_range1 rfl G.b_range (pm_op o_add pm_int (pm_call c ((ok__law_pick G T).mono (by decide)) (pma_cons (pm_var 0) (pma_cons (pm_var 1) pma_nil))))) (pmg_nm 3 c.nd) (pmb_cons (pms_set 4 c.nd (pm_ix c.hu1 (pm_lst (pma_cons pm_int (pma_cons (pm_call c ((ok__law_pick G T).mono (by decide)) (pma_cons (pm_var 0) (pma_cons pm_int pma_nil))) pma_nil))) (pm_call c ((ok__law_pick G T).mono (by decide)) (pma_cons (pm_var 0) (pma_cons pm_int pma_nil)))))
    (pmb_one (pms_expr (pm_app (pm_var 2) (pm_tup (pma_cons (pm_var 4) (pma_cons (pm_ix c.hu1 (pm_lst (pma_cons pm_int (pma_cons (pm_op o_add (pm_var 4) (pm_call c ((ok__law_pick G T).mono (by decide)) (pma_cons (pm_var 0) (pma_cons (pm_op o_sub pm_int (pm_var 4)) pma_nil)))) pma_nil))) (pm_call c ((ok__law_pick G T).mono (by decide)) (pma_cons (pm_var 0) (pma_cons pm_int pma_nil)))) pma_nil))))))))
    (pmb_one (pms_ret (pm_tup (pma_cons (pm_ix c.hu1 (pm_lst (pma_cons pm_int (pma_cons pm_int (pma_cons pm_int (pma_cons (pm_call c ((ok__law_pick G T).mono (by decide)) (pma_cons (pm_var 0) (pma_cons pm_int pma_nil))) pma_nil))))) (pm_call c ((ok__law_pick G T).mono (by decide)) (pma_cons (pm_var 0) (pma_cons pm_int pma_nil)))) (pma_cons (pm_callT k_tup rfl G.b_tuple (by decide +kernel) (pma_cons (pm_var 2) pma_nil)) pma_nil)))))))
/-- _law_up: 0 season, 1 spot, 2 night, 3 slot, 4 here, 5 step -/
def L__law_up_0 : SM :=
    (sIf (bOr (asB (mOp gEq (mOp gMod (mOp gAdd (mVar 4) (mVar 5)) (mC (.int 60))) (mOp gIx (mVar 1) (mC (.int 0))))) (asB (mOp gEq (mOp gMod (mOp gAdd (mOp gIx (mVar 1) (mC (.int 0))) (mVar 5)) (mC (.int 60))) (mVar 4)))) (sRet (mC (.bool true))) sNx)
def B__law_up : SM :=
    (sSeq (sSet 4 (mOp gMod (mOp gAdd (mOp gAdd (mOp gMul (mOp gIx (mVar 0) (mC (.int 0))) (mVar 2)) (mVar 3)) (mVar 3)) (mC (.int 60))))
    (sSeq (sFor (iRng1 (mOp gAdd (mOp gIx (mVar 1) (mC (.int 1))) (mC (.int 1)))) (gNm 5) L__law_up_0)
    (sRet (mC (.bool false)))))
def P__law_up : List PyData → Option PyData := runP 6 B__law_up
def F__law_up : Fn := pureF P__law_up
theorem sc__law_up : FnScope ["season", "spot", "night", "slot", "here", "step"] ["season", "spot", "night", "slot"] (defScope s__law_up) := ⟨rfl, rfl, rfl, by decide +kernel, rfl, by decide +kernel, by decide +kernel⟩
theorem ok__law_up (G : Glob K mg) (T : Txt K mg) : FM P w K mg base 1 "_law_up" 4 F__law_up := fm_pure T._law_up sc__law_up rfl rfl fun f cdv A outer s H E c =>
    (pmb_cons (pms_set 4 c.nd (pm_op o_mod (pm_op o_add (pm_op o_add (pm_op o_mul (pm_ix c.hu1 (pm_var 0) pm_int) (pm_var 2)) (pm_var 3)) (pm_var 3)) pm_int))
    (pmb_cons (pms_for c.own c.calm (pmi_range1 rfl G.b_range (pm_op o_add (pm_ix c.hu1 (pm_var 1) pm_int) pm_int)) (pmg_nm 5 c.nd) (pmb_one (pms_if (pmt_bo (pmw_or (pmt_cmp (o_eq c.hu) (pm_op o_mod (pm_op o_add (pm_var 4) (pm_var 5)) pm_int) (pm_ix c.hu1 (pm_var 1) pm_int)) (pmw_or1 (pmt_cmp (o_eq c.hu) (pm_op o_mod (pm_op o_add (pm_ix c.hu1 (pm_var 1) pm_int) (pm_var 5)) pm_int) (pm_var 4))))) (pmb_one (pms_ret pm_bl)) pmb_nil)))
    (pmb_one (pms_ret pm_bl))))
/-- _law_dark: 0 season, 1 night, 2 slot -/
def B__law_dark : SM :=
    (sRet (mChain gLe gLe (mOp gIx (mOp gIx (mOp gIx (mVar 0) (mC (.int 1))) (mVar 1)) (mC (.int 0))) (mVar 2) (mOp gIx (mOp gIx (mOp gIx (mVar 0) (mC (.int 1))) (mVar 1)) (mC (.int 1)))))
def P__law_dark : List PyData → Option PyData := runP 3 B__law_dark
def F__law_dark : Fn := pureF P__law_dark
theorem sc__law_dark : FnScope ["season", "night", "slot"] ["season", "night", "slot"] (defScope s__law_dark) := ⟨rfl, rfl, rfl, by decide +kernel, rfl, by decide +kernel, by decide +kernel⟩
theorem ok__law_dark (G : Glob K mg) (T : Txt K mg) : FM P w K mg base 1 "_law_dark" 3 F__law_dark := fm_pure T._law_dark sc__law_dark rfl rfl fun f cdv A outer s H E c =>
    (pmb_one (pms_ret (pm_chain o_le o_le (pm_ix c.hu1 (pm_ix c.hu1 (pm_ix c.hu1 (pm_var 0) pm_int) (pm_var 1)) pm_int) (pm_var 2) (pm_ix c.hu1 (pm_ix c.hu1 (pm_ix c.hu1 (pm_var 0) pm_int) (pm_var 1)) pm_int))))
/-- _law_stretches: 0 season, 1 spot, 2 night, 3 found, 4 begin, 5 slot, 6 good -/
def L__law_stretches_0 : SM :=
    (sSeq (sSet 6 (mAnd (mOp gLt (mVar 5) (mC (.int 24))) (mAnd (mCall 3 F__law_dark (aCons (mVar 0) (aCons (mVar 2) (aCons (mVar 5) aNil)))) (mCall 4 F__law_up (aCons (mVar 0) (aCons (mVar 1) (aCons (mVar 2) (aCons (mVar 5) aNil))))))))
    (sSeq (sIf (bAnd (asB (mVar 6)) (asB (mOp gIs (mVar 4) (mC .none)))) (sSet 4 (mVar 5)) sNx)
    (sIf (bAnd (bNot (asB (mVar 6))) (asB (mOp gIsN (mVar 4) (mC .none)))) (sSeq (sExpr (mApp (mVar 3) (mTup (aCons (mVar 4) (aCons (mOp gSub (mVar 5) (mC (.int 1))) aNil)))))
    (sSet 4 (mC .none))) sNx)))
def B__law_stretches : SM :=
    (sSeq (sSet 3 (mLstC aNil))
    (sSeq (sSet 4 (mC .none))
    (sSeq (sFor (iRng1 (mC (.int 25))) (gNm 5) L__law_stretches_0)
    (sRet (mVar 3)))))
def P__law_stretches : List PyData → Option PyData := runP 7 B__law_stretches
def F__law_stretches : Fn := pureF P__law_stretches
theorem sc__law_stretches : FnScope ["season", "spot", "night", "found", "begin", "slot", "good"] ["season", "spot", "night"] (defScope s__law_stretches) := ⟨rfl, rfl, rfl, by decide +kernel, rfl, by decide +kernel, by decide +kernel⟩
theorem ok__law_stretches (G : Glob K mg) (T : Txt K mg) : FM P w K mg base 2 "_law_stretches" 3 F__law_stretches := fm_pure T._law_stretches sc__law_stretches rfl rfl fun f cdv A outer s H E c =>
    (pmb_cons (pms_set 3 c.nd (pm_lstC pma_nil))
    (pmb_cons (pms_set 4 c.nd pm_non)
    (pmb_cons (pms_for c.own c.calm (pmi_range1 rfl G.b_range pm_int) (pmg_nm 5 c.nd) (pmb_cons (pms_set 6 c.nd (pm_and (pm_cmp o_lt (pm_var 5) pm_int) (pm_and (pm_call c ((ok__law_dark G T).mono (by decide)) (pma_cons (pm_var 0) (pma_cons (pm_var 2) (pma_cons (pm_var 5) pma_nil)))) (pm_one (pm_call c ((ok__law_up G T).mono (by decide)) (pma_cons (pm_var 0) (pma_cons (pm_var 1) (pma_cons (pm_var 2) (pma_cons (pm_var 5) pma_nil)))))))))
    (pmb_cons (pms_if (pmt_bo (pmw_and (pmt_val (pm_var 6)) (pmw_and1 (pmt_cmp o_is (pm_var 4) pm_non)))) (pmb_one (pms_set 4 c.nd (pm_var 5))) pmb_nil)
    (pmb_one (pms_if (pmt_bo (pmw_and (pmt_not (pmt_val (pm_var 6))) (pmw_and1 (pmt_cmp o_isn (pm_var 4) pm_non)))) (pmb_cons (pms_expr (pm_app (pm_var 3) (pm_tup (pma_cons (pm_var 4) (pma_cons (pm_op o_sub (pm_var 5) pm_int) pma_nil)))))
    (pmb_one (pms_set 4 c.nd pm_non))) pmb_nil)))))
    (pmb_one (pms_ret (pm_var 3))))))
/-- law: 0 script, 1 cell, 2 deck, 3 season, 4 k, 5 spot, 6 later, 7 wide, 8 night, 9 told, 10 slot, 11 here, 12 turned -/
def L_law_0 : SM :=
    (sSeq (sSet 11 (mCall 4 F_is_up (aCons (mVar 3) (aCons (mVar 5) (aCons (mVar 8) (aCons (mVar 10) aNil))))))
    (sSeq (sIf (bOr (bNot (asB (mIsi "bool" (mVar 11)))) (asB (mOp gNe (mVar 11) (mCall 4 F__law_up (aCons (mVar 3) (aCons (mVar 5) (aCons (mVar 8) (aCons (mVar 10) aNil)))))))) (sRet (mC (.bool false))) sNx)
    (sSeq (sIf (asB (mOp gNe (mCall 3 F_middle (aCons (mVar 3) (aCons (mVar 8) (aCons (mVar 10) aNil)))) (mOp gMod (mOp gAdd (mOp gMul (mOp gIx (mVar 3) (mC (.int 0))) (mVar 8)) (mOp gMul (mC (.int 2)) (mVar 10))) (mC (.int 60))))) (sRet (mC (.bool false))) sNx)
    (sSeq (sIf (bAnd (asB (mOp gLt (mVar 10) (mC (.int 23)))) (asB (mOp gNe (mCall 4 F_is_up (aCons (mVar 3) (aCons (mVar 6) (aCons (mVar 8) (aCons (mOp gAdd (mVar 10) (mC (.int 1))) aNil))))) (mVar 11)))) (sRet (mC (.bool false))) sNx)
    (sSeq (sIf (bOr (bAnd (asB (mVar 11)) (bNot (asB (mCall 4 F_is_up (aCons (mVar 3) (aCons (mVar 7) (aCons (mVar 8) (aCons (mVar 10) aNil)))))))) (bNot (asB (mCall 4 F_is_up (aCons (mVar 3) (aCons (mTup (aCons (mOp gIx (mVar 5) (mC (.int 0))) (aCons (mC (.int 30)) aNil))) (aCons (mVar 8) (aCons (mVar 10) aNil)))))))) (sRet (mC (.bool false))) sNx)
    (sSeq (sSet 12 (mTup (aCons (mOp gMod (mOp gAdd (mOp gIx (mVar 5) (mC (.int 0))) (mOp gIx (mVar 3) (mC (.int 0)))) (mC (.int 60))) (aCons (mOp gIx (mVar 5) (mC (.int 1))) aNil))))
    (sIf (bAnd (asB (mOp gLt (mOp gAdd (mVar 8) (mC (.int 1))) (mCl cLen (aCons (mOp gIx (mVar 3) (mC (.int 1))) aNil)))) (asB (mOp gNe (mCall 4 F_is_up (aCons (mVar 3) (aCons (mVar 12) (aCons (mOp gAdd (mVar 8) (mC (.int 1))) (aCons (mVar 10) aNil))))) (mVar 11)))) (sRet (mC (.bool false))) sNx)))))))
def L_law_1 : SM :=
    (sSeq (sSet 9 (mCall 3 F_stretches (aCons (mVar 3) (aCons (mVar 5) (aCons (mVar 8) aNil)))))
    (sSeq (sIf (bOr (asB (mOp gNe (mVar 9) (mCall 3 F__law_stretches (aCons (mVar 3) (aCons (mVar 5) (aCons (mVar 8) aNil)))))) (bNot (asB (mIsi "list" (mVar 9))))) (sRet (mC (.bool false))) sNx)
    (sSeq (sExpr (mApp (mVar 9) (mC .none)))
    (sSeq (sIf (asB (mOp gNe (mCall 3 F_stretches (aCons (mVar 3) (aCons (mVar 5) (aCons (mVar 8) aNil)))) (mSl (mVar 9) oNone (oSome (mNeg (mC (.int 1))))))) (sRet (mC (.bool false))) sNx)
    (sFor (iRng1 (mC (.int 24))) (gNm 10) L_law_0)))))
def L_law_2 : SM :=
    (sSeq (sSet 5 (mTup (aCons (mCall 2 F__law_pick (aCons (mVar 2) (aCons (mC (.int 60)) aNil))) (aCons (mOp gIx (mLst (aCons (mC (.int 0)) (aCons (mC (.int 30)) (aCons (mCall 2 F__law_pick (aCons (mVar 2) (aCons (mC (.int 31)) aNil))) aNil)))) (mCall 2 F__law_pick (aCons (mVar 2) (aCons (mC (.int 3)) aNil)))) aNil))))
    (sSeq (sSet 6 (mTup (aCons (mOp gMod (mOp gAdd (mOp gIx (mVar 5) (mC (.int 0))) (mC (.int 2))) (mC (.int 60))) (aCons (mOp gIx (mVar 5) (mC (.int 1))) aNil))))
    (sSeq (sSet 7 (mTup (aCons (mOp gIx (mVar 5) (mC (.int 0))) (aCons (mCl cMin2 (aCons (mC (.int 30)) (aCons (mOp gAdd (mOp gAdd (mOp gIx (mVar 5) (mC (.int 1))) (mC (.int 1))) (mCall 2 F__law_pick (aCons (mVar 2) (aCons (mC (.int 9)) aNil)))) aNil))) aNil))))
    (sFor (iRng1 (mCl cLen (aCons (mOp gIx (mVar 3) (mC (.int 1))) aNil))) (gNm 8) L_law_1))))
def L_law_3 : SM :=
    (sSeq (sSet 2 (mCall 2 F__law_deck (aCons (mVar 1) (aCons (mC (.int 1)) aNil))))
    (sSeq (sSet 3 (mCall 2 F__law_season (aCons (mVar 2) (aCons (mC (.int 4)) aNil))))
    (sFor (iRng1 (mC (.int 4))) (gNm 4) L_law_2)))
def B_law : SM :=
    (sSeq (sFor (iSeq (mOp gAdd (mLst (aCons (mC (.int 0)) aNil)) (mSl (mVar 0) oNone (oSome (mC (.int 8)))))) (gNm 1) L_law_3)
    (sRet (mOp gEq (mC (.int 60)) (mC (.int 60)))))
def F_law : Fn := runF 13 B_law
theorem sc_law : FnScope ["script", "cell", "deck", "season", "k", "spot", "later", "wide", "night", "told", "slot", "here", "turned"] ["script"] (defScope s_law) := ⟨rfl, rfl, rfl, by decide +kernel, rfl, by decide +kernel, by decide +kernel⟩
theorem bo_law (G : Glob K mg) (T : Txt K mg) : BodyOk P w K mg base 3 ["script", "cell", "deck", "season", "k", "spot", "later", "wide", "night", "told", "slot", "here", "turned"] "law" s_law B_law := fun f cdv A outer s H E c =>
    (pmb_cons (pms_for c.own c.calm (pmi_seq (pm_op o_add (pm_lst (pma_cons pm_int pma_nil)) (pm_sl (pm_var 0) pmo_none (pmo_some pm_int)))) (pmg_nm 1 c.nd) (pmb_cons (pms_set 2 c.nd (pm_call c ((ok__law_deck G T).mono (by decide)) (pma_cons (pm_var 1) (pma_cons pm_int pma_nil))))
    (pmb_cons (pms_set 3 c.nd (pm_call c ((ok__law_season G T).mono (by decide)) (pma_cons (pm_var 2) (pma_cons pm_int pma_nil))))
    (pmb_one (pms_for c.own c.calm (pmi_range1 rfl G.b_range pm_int) (pmg_nm 4 c.nd) (pmb_cons (pms_set 5 c.nd (pm_tup (pma_cons (pm_call c ((ok__law_pick G T).mono (by decide)) (pma_cons (pm_var 2) (pma_cons pm_int pma_nil))) (pma_cons (pm_ix c.hu1 (pm_lst (pma_cons pm_int (pma_cons pm_int (pma_cons (pm_call c ((ok__law_pick G T).mono (by decide)) (pma_cons (pm_var 2) (pma_cons pm_int pma_nil))) pma_nil)))) (pm_call c ((ok__law_pick G T).mono (by decide)) (pma_cons (pm_var 2) (pma_cons pm_int pma_nil)))) pma_nil))))
    (pmb_cons (pms_set 6 c.nd (pm_tup (pma_cons (pm_op o_mod (pm_op o_add (pm_ix c.hu1 (pm_var 5) pm_int) pm_int) pm_int) (pma_cons (pm_ix c.hu1 (pm_var 5) pm_int) pma_nil))))
    (pmb_cons (pms_set 7 c.nd (pm_tup (pma_cons (pm_ix c.hu1 (pm_var 5) pm_int) (pma_cons (pm_callB (k_min2 c.calm) rfl G.b_min (by decide +kernel) (pma_cons pm_int (pma_cons (pm_op o_add (pm_op o_add (pm_ix c.hu1 (pm_var 5) pm_int) pm_int) (pm_call c ((ok__law_pick G T).mono (by decide)) (pma_cons (pm_var 2) (pma_cons pm_int pma_nil)))) pma_nil))) pma_nil))))
    (pmb_one (pms_for c.own c.calm (pmi_range1 rfl G.b_range (pm_callB k_len rfl G.b_len (by decide +kernel) (pma_cons (pm_ix c.hu1 (pm_var 3) pm_int) pma_nil))) (pmg_nm 8 c.nd) (pmb_cons (pms_set 9 c.nd (pm_call c ((ok_stretches G T).mono (by decide)) (pma_cons (pm_var 3) (pma_cons (pm_var 5) (pma_cons (pm_var 8) pma_nil)))))
    (pmb_cons (pms_if (pmt_bo (pmw_or (pmt_cmp (o_ne c.hu) (pm_var 9) (pm_call c ((ok__law_stretches G T).mono (by decide)) (pma_cons (pm_var 3) (pma_cons (pm_var 5) (pma_cons (pm_var 8) pma_nil))))) (pmw_or1 (pmt_not (pmt_val (pm_isi isi_list rfl G.b_isinstance rfl G.b_list (by decide +kernel) (pm_var 9))))))) (pmb_one (pms_ret pm_bl)) pmb_nil)
    (pmb_cons (pms_expr (pm_app (pm_var 9) pm_non))
    (pmb_cons (pms_if (pmt_cmp (o_ne c.hu) (pm_call c ((ok_stretches G T).mono (by decide)) (pma_cons (pm_var 3) (pma_cons (pm_var 5) (pma_cons (pm_var 8) pma_nil)))) (pm_sl (pm_var 9) pmo_none (pmo_some (pm_neg pm_int)))) (pmb_one (pms_ret pm_bl)) pmb_nil)
    (pmb_one (pms_for c.own c.calm (pmi_range1 rfl G.b_range pm_int) (pmg_nm 10 c.nd) (pmb_cons (pms_set 11 c.nd (pm_call c ((ok_is_up G T).mono (by decide)) (pma_cons (pm_var 3) (pma_cons (pm_var 5) (pma_cons (pm_var 8) (pma_cons (pm_var 10) pma_nil))))))
    (pmb_cons (pms_if (pmt_bo (pmw_or (pmt_not (pmt_val (pm_isi isi_bool rfl G.b_isinstance rfl G.b_bool (by decide +kernel) (pm_var 11)))) (pmw_or1 (pmt_cmp (o_ne c.hu) (pm_var 11) (pm_call c ((ok__law_up G T).mono (by decide)) (pma_cons (pm_var 3) (pma_cons (pm_var 5) (pma_cons (pm_var 8) (pma_cons (pm_var 10) pma_nil))))))))) (pmb_one (pms_ret pm_bl)) pmb_nil)
    (pmb_cons (pms_if (pmt_cmp (o_ne c.hu) (pm_call c ((ok_middle G T).mono (by decide)) (pma_cons (pm_var 3) (pma_cons (pm_var 8) (pma_cons (pm_var 10) pma_nil)))) (pm_op o_mod (pm_op o_add (pm_op o_mul (pm_ix c.hu1 (pm_var 3) pm_int) (pm_var 8)) (pm_op o_mul pm_int (pm_var 10))) pm_int)) (pmb_one (pms_ret pm_bl)) pmb_nil)
    (pmb_cons (pms_if (pmt_bo (pmw_and (pmt_cmp o_lt (pm_var 10) pm_int) (pmw_and1 (pmt_cmp (o_ne c.hu) (pm_call c ((ok_is_up G T).mono (by decide)) (pma_cons (pm_var 3) (pma_cons (pm_var 6) (pma_cons (pm_var 8) (pma_cons (pm_op o_add (pm_var 10) pm_int) pma_nil))))) (pm_var 11))))) (pmb_one (pms_ret pm_bl)) pmb_nil)
    (pmb_cons (pms_if (pmt_bo (pmw_or (pmt_bo (pmw_and (pmt_val (pm_var 11)) (pmw_and1 (pmt_not (pmt_val (pm_call c ((ok_is_up G T).mono (by decide)) (pma_cons (pm_var 3) (pma_cons (pm_var 7) (pma_cons (pm_var 8) (pma_cons (pm_var 10) pma_nil)))))))))) (pmw_or1 (pmt_not (pmt_val (pm_call c ((ok_is_up G T).mono (by decide)) (pma_cons (pm_var 3) (pma_cons (pm_tup (pma_cons (pm_ix c.hu1 (pm_var 5) pm_int) (pma_cons pm_int pma_nil))) (pma_cons (pm_var 8) (pma_cons (pm_var 10) pma_nil)))))))))) (pmb_one (pms_ret pm_bl)) pmb_nil)
    (pmb_cons (pms_set 12 c.nd (pm_tup (pma_cons (pm_op o_mod (pm_op o_add (pm_ix c.hu1 (pm_var 5) pm_int) (pm_ix c.hu1 (pm_var 3) pm_int)) pm_int) (pma_cons (pm_ix c.hu1 (pm_var 5) pm_int) pma_nil))))
    (pmb_one (pms_if (pmt_bo (pmw_and (pmt_cmp o_lt (pm_op o_add (pm_var 8) pm_int) (pm_callB k_len rfl G.b_len (by decide +kernel) (pma_cons (pm_ix c.hu1 (pm_var 3) pm_int) pma_nil))) (pmw_and1 (pmt_cmp (o_ne c.hu) (pm_call c ((ok_is_up G T).mono (by decide)) (pma_cons (pm_var 3) (pma_cons (pm_var 12) (pma_cons (pm_op o_add (pm_var 8) pm_int) (pma_cons (pm_var 10) pma_nil))))) (pm_var 11))))) (pmb_one (pms_ret pm_bl)) pmb_nil))))))))))))))))))))))))
    (pmb_one (pms_ret (pm_cmp (o_eq c.hu) (pm_gint rfl G.i_RING) pm_int))))
end
end K1
end
section
namespace K1
open PySem PySem.Spec PyProof.Rows L2 Sky
/-- a deck: three numbers, the third of at most c -/
def DK (c : Nat) (dk : List PyData) : Prop := ∃ a b t : Int, dk = [.int a, .int b, .int t] ∧ 0 ≤ b ∧ b < 2147483579 ∧ 0 ≤ t ∧ t ≤ c
theorem DK.mono {c c' : Nat} {dk : List PyData} (h : DK c dk) (l : c ≤ c') : DK c' dk := by
  obtain ⟨a, b, t, e, h1, h2, h3, h4⟩ := h
  exact ⟨a, b, t, e, h1, h2, h3, by omega⟩
set_option maxHeartbeats 1000000
theorem deck_eq (cell turn : Int) (S : Store) : F__law_deck [.d (.int cell), .d (.int turn)] S = .ok (.r S.length) (S ++ [.lst [.int (if 1000000000000000000 ≤ cell then cell - 1000000000000000000 else 0), .int (cell % 2147483579), .int turn]]) := by
  by_cases h : 1000000000000000000 ≤ cell
  · simp (disch := omega) [F__law_deck, runF_ap, B__law_deck, h]
  · simp (disch := omega) [F__law_deck, runF_ap, B__law_deck, h]
theorem deck_DK (cell : Int) : DK 1 [.int (if 1000000000000000000 ≤ cell then cell - 1000000000000000000 else 0), .int (cell % 2147483579), .int 1] :=
  ⟨_, _, _, rfl, Int.emod_nonneg _ (by decide), Int.emod_lt_of_pos _ (by decide), by decide, by decide⟩
theorem pick_ok {c : Nat} {dk : List PyData} {lim : Int} (h : DK c dk) (hc : c ≤ 1000000000) (h1 : 1 ≤ lim) (h2 : lim ≤ 1000000) : ∃ (v : Int) (dk' : List PyData), P__law_pick dk [.int lim] = some (.int v, dk') ∧ 0 ≤ v ∧ v < lim ∧ DK (c + 1) dk' := by
  obtain ⟨a, b, t, rfl, hb0, hb1, ht0, ht1⟩ := h
  by_cases ha : 1 < a
  · refine ⟨a % lim, [.int (a / lim), .int b, .int t], ?_, Int.emod_nonneg _ (by omega), Int.emod_lt_of_pos _ (by omega), a / lim, b, t, rfl, hb0, hb1, ht0, by omega⟩
    simp (disch := omega) [P__law_pick, runD_ap, B__law_pick, ha]
  · have hm := Int.emod_nonneg ((b + 15485867 * (t + 1)) ^ 5) (show (2147483647 : Int) ≠ 0 by decide)
    have hm2 := Int.emod_lt_of_pos ((b + 15485867 * (t + 1)) ^ 5) (show (0 : Int) < 2147483647 by decide)
    generalize hn : (b + 15485867 * (t + 1)) ^ 5 % 2147483647 = n at hm hm2
    refine ⟨((n + 7919 * (t + 1)) ^ 3 % 2147483629 / 32) % lim, [.int a, .int b, .int (t + 1)], ?_, Int.emod_nonneg _ (by omega), Int.emod_lt_of_pos _ (by omega), a, b, t + 1, rfl, hb0, hb1, by omega, by omega⟩
    have h2' : ¬ (1000000 < lim) := by omega
    simp (disch := omega) [P__law_pick, runD_ap, B__law_pick, ha, hn, h2']
theorem p_middle (turn : Int) (rest : PyData) (n s : Int) (h : -1000000 < turn ∧ turn < 1000000) : P_middle [.tuple [.int turn, rest], .int n, .int s] = some (.int ((turn * n + 2 * s) % 60)) := by
  simp (disch := omega) [P_middle, runP_ap, B_middle]
/-- how far from m to a round the ring -/
def rd (a m : Int) : Int := if 60 - (if a - m < 0 then -(a - m) else a - m) < (if a - m < 0 then -(a - m) else a - m) then 60 - (if a - m < 0 then -(a - m) else a - m) else (if a - m < 0 then -(a - m) else a - m)
def isUp (t a r n s : Int) : Bool := decide (rd a ((t * n + 2 * s) % 60) ≤ r)
theorem p_is_up (turn : Int) (rest : PyData) (a r n s : Int) (h : -1000000 < turn ∧ turn < 1000000) : P_is_up [.tuple [.int turn, rest], .tuple [.int a, .int r], .int n, .int s] = some (.bool (isUp turn a r n s)) := by
  simp (disch := omega) [P_is_up, runP_ap, B_is_up, F_middle, p_middle _ _ _ _ h, isUp, rd]
  exact decide_eq_decide.mpr Iff.rfl
def encP (p : Int × Int) : PyData := .tuple [.int p.1, .int p.2]
theorem p_is_dark (turn : PyData) (ns : List (Int × Int)) (p : Int × Int) (n s : Int) (h0 : 0 ≤ n) (h : ns[n.toNat]? = some p) : P_is_dark [.tuple [turn, .tuple (ns.map encP)], .int n, .int s] = some (.bool (decide (p.1 ≤ s) && decide (s ≤ p.2))) := by
  by_cases hp : p.1 ≤ s <;> simp (disch := omega) [P_is_dark, runP_ap, B_is_dark, h, encP, hp]
theorem p__law_dark (turn : PyData) (ns : List (Int × Int)) (p : Int × Int) (n s : Int) (h0 : 0 ≤ n) (h : ns[n.toNat]? = some p) : P__law_dark [.tuple [turn, .tuple (ns.map encP)], .int n, .int s] = some (.bool (decide (p.1 ≤ s) && decide (s ≤ p.2))) := by
  by_cases hp : p.1 ≤ s <;> simp (disch := omega) [P__law_dark, runP_ap, B__law_dark, h, encP, hp]
theorem up_iff {t a r n s : Int} (ha : 0 ≤ a ∧ a < 60) (hr : 0 ≤ r) : isUp t a r n s = true ↔ ∃ k : Nat, k < (r + 1).toNat ∧ (((t * n + s + s) % 60 + k) % 60 = a ∨ (a + k) % 60 = (t * n + s + s) % 60) := by
  have e : t * n + 2 * s = t * n + s + s := by omega
  unfold isUp rd
  rw [e]
  have h1 := Int.emod_nonneg (t * n + s + s) (show (60 : Int) ≠ 0 by decide)
  have h2 := Int.emod_lt_of_pos (t * n + s + s) (show (0 : Int) < 60 by decide)
  generalize (t * n + s + s) % 60 = m at h1 h2
  rw [decide_eq_true_iff]
  constructor
  · intro h
    by_cases c : a - m < 0
    · simp only [c, if_true] at h
      by_cases c2 : 60 - -(a - m) < -(a - m)
      · refine ⟨(60 - -(a - m)).toNat, ?_, ?_⟩ <;> split at h <;> omega
      · refine ⟨(m - a).toNat, ?_, ?_⟩ <;> split at h <;> omega
    · simp only [c, if_false] at h
      by_cases c2 : 60 - (a - m) < (a - m)
      · refine ⟨(60 - (a - m)).toNat, ?_, ?_⟩ <;> split at h <;> omega
      · refine ⟨(a - m).toNat, ?_, ?_⟩ <;> split at h <;> omega
  · rintro ⟨k, hk, h⟩
    split <;> split <;> omega
theorem p__law_up {t : Int} {rest : PyData} {a r n s : Int} (h : -1000000 < t ∧ t < 1000000) (ha : 0 ≤ a ∧ a < 60) (hr : 0 ≤ r ∧ r < 1000) : P__law_up [.tuple [.int t, rest], .tuple [.int a, .int r], .int n, .int s] = some (.bool (isUp t a r n s)) := by
  have U := up_iff (t := t) (n := n) (s := s) ha hr.1
  simp (disch := omega) [P__law_up, runP_ap, B__law_up]
  generalize (t * n + s + s) % 60 = m at U
  refine forR_inv (R := fun q => endP (q.seq (sRet (mC (.bool false)))) = some (.bool (isUp t a r n s))) (fun i ρ S => (∃ o, ρ = [some (.d (.tuple [.int t, rest])), some (.d (.tuple [.int a, .int r])), some (.d (.int n)), some (.d (.int s)), some (.d (.int m)), o]) ∧ S = [] ∧ ∀ k < i, ¬ ((m + (k : Nat)) % 60 = a ∨ (a + (k : Nat)) % 60 = m)) ⟨⟨_, rfl⟩, rfl, fun k hk => absurd hk (by omega)⟩ ?_ ?_
  · rintro i ρ S hi ⟨⟨o, rfl⟩, rfl, hk⟩
    refine ⟨_, gNm_ap _ _, ?_⟩
    by_cases c1 : (m + i) % 60 = a
    · have : isUp t a r n s = true := U.mpr ⟨i, hi, .inl c1⟩
      simp (disch := omega) [L__law_up_0, c1, this]
    · by_cases c2 : (a + i) % 60 = m
      · have : isUp t a r n s = true := U.mpr ⟨i, hi, .inr c2⟩
        simp (disch := omega) [L__law_up_0, c1, c2, this]
      · simp (disch := omega) [L__law_up_0, c1, c2]
        intro k hk2
        rcases Nat.lt_succ_iff_lt_or_eq.mp hk2 with h3 | rfl
        · have := hk k h3; omega
        · omega
  · rintro ρ S ⟨⟨o, rfl⟩, rfl, hk⟩
    have : isUp t a r n s = false := by
      rw [Bool.eq_false_iff]
      intro h
      obtain ⟨k, h1, h2⟩ := U.mp h
      exact hk k h1 h2
    simp [this]
/-- the nights of a season -/
def NG (ns : List (Int × Int)) : Prop := ∀ p ∈ ns, 0 ≤ p.1 ∧ p.1 ≤ p.2 ∧ p.2 ≤ 23
theorem season_ok {c : Nat} {dk : List PyData} {most : Int} (h : DK c dk) (hc : c ≤ 100000000) (h1 : 1 ≤ most) (h2 : most ≤ 1000) : ∃ (t : Int) (ns : List (Int × Int)) (dk' : List PyData),
    P__law_season dk [.int most] = some (.tuple [.int t, .tuple (ns.map encP)], dk') ∧ 0 ≤ t ∧ t < 60 ∧ 1 ≤ ns.length ∧ ns.length ≤ most ∧ NG ns ∧ DK (c + 5000) dk' := by
  obtain ⟨v, dk1, e1, hv0, hv1, hd1⟩ := pick_ok h (by omega) h1 (by omega)
  suffices H : ∃ (t : Int) (ns : List (Int × Int)) (dk' : List PyData), P__law_season dk [.int most] = some (.tuple [.int t, .tuple (ns.map encP)], dk') ∧ 0 ≤ t ∧ t < 60 ∧ ns.length = (1 + v).toNat ∧ NG ns ∧ DK (c + 5000) dk' by
    obtain ⟨t, ns, dk', g1, g2, g3, g4, g5, g6⟩ := H
    exact ⟨t, ns, dk', g1, g2, g3, by omega, by omega, g5, g6⟩
  simp (disch := omega) [P__law_season, runD_ap, B__law_season, e1, F__law_pick]
  generalize hq : forL _ _ _ _ _ = q
  suffices H : ∃ (ns : List (Int × Int)) (dk2 : List PyData) (o3 o4 : Option D), q = .nx [some (.r 0), some (.d (.int most)), some (.r 1), o3, o4] [.lst dk2, .lst (ns.map encP)] ∧ ns.length = (1 + v).toNat ∧ NG ns ∧ DK (c + 1 + 4 * (1 + v).toNat) dk2 by
    obtain ⟨ns, dk2, o3, o4, rfl, hl, hn, hd2⟩ := H
    obtain ⟨v3, dk3, e3, hv30, hv31, hd3⟩ := pick_ok hd2 (lim := 60) (by omega) (by omega) (by omega)
    obtain ⟨v4, dk4, e4, hv40, hv41, hd4⟩ := pick_ok hd3 (lim := 4) (by omega) (by omega) (by omega)
    have hlen : ns.length ≤ 16777216 := by omega
    refine ⟨if v4 = 0 then 0 else if v4 = 1 then 1 else if v4 = 2 then 59 else v3, ns, dk4, ?_, by split <;> (try split) <;> (try split) <;> omega, by split <;> (try split) <;> (try split) <;> omega, hl, hn, hd4.mono (by omega)⟩
    simp (disch := omega) [F__law_pick, e3, e4, hlen]
  rw [← hq]
  obtain ⟨I, hI⟩ := hide fun i ρ S => ∃ (ns : List (Int × Int)) (dk : List PyData) (o3 o4 : Option D), ρ = [some (.r 0), some (.d (.int most)), some (.r 1), o3, o4] ∧ S = [.lst dk, .lst (ns.map encP)] ∧ ns.length = i ∧ NG ns ∧ DK (c + 1 + 4 * i) dk
  refine forR_inv (R := fun q => ∃ (ns : List (Int × Int)) (dk2 : List PyData) (o3 o4 : Option D), q = .nx [some (.r 0), some (.d (.int most)), some (.r 1), o3, o4] [.lst dk2, .lst (ns.map encP)] ∧ ns.length = (1 + v).toNat ∧ NG ns ∧ DK (c + 1 + 4 * (1 + v).toNat) dk2)
    I ?_ ?_ ?_
  · rw [hI]; exact ⟨[], dk1, _, _, rfl, rfl, rfl, fun _ h => absurd h (List.not_mem_nil), hd1⟩
  · intro i ρ S hi h
    rw [hI] at h
    obtain ⟨ns, dk2, o3, o4, rfl, rfl, hl, hn, hd2⟩ := h
    refine ⟨_, gNm_ap _ _, ?_⟩
    obtain ⟨v3, dk3, e3, hv30, hv31, hd3⟩ := pick_ok hd2 (lim := 12) (by omega) (by omega) (by omega)
    obtain ⟨v4, dk4, e4, hv40, hv41, hd4⟩ := pick_ok hd3 (lim := 2) (by omega) (by omega) (by omega)
    have hf : 0 ≤ (if v4 = 0 then 0 else v3) ∧ (if v4 = 0 then 0 else v3) ≤ 11 := by split <;> omega
    generalize hff : (if v4 = 0 then 0 else v3) = first at hf
    obtain ⟨v5, dk5, e5, hv50, hv51, hd5⟩ := pick_ok hd4 (lim := 24 - first) (by omega) (by omega) (by omega)
    obtain ⟨v6, dk6, e6, hv60, hv61, hd6⟩ := pick_ok hd5 (lim := 2) (by omega) (by omega) (by omega)
    have hlen : ns.length < 16777216 := by omega
    simp (disch := omega) [L__law_season_0, F__law_pick, e3, e4, e5, e6, hff, hlen]
    rw [hI]
    refine ⟨ns ++ [(first, if v6 = 0 then 23 else first + v5)], dk6, _, _, rfl, by simp [encP], by simp [hl], ?_, hd6.mono (by omega)⟩
    intro p hp
    rcases List.mem_append.mp hp with hp | hp
    · exact hn p hp
    · rw [List.mem_singleton.mp hp]
      refine ⟨hf.1, ?_, ?_⟩ <;> dsimp only <;> split <;> omega
  · intro ρ S h
    rw [hI] at h
    obtain ⟨ns, dk2, o3, o4, rfl, rfl, hl, hn, hd2⟩ := h
    exact ⟨ns, dk2, o3, o4, rfl, hl, hn, hd2⟩
/-- the longest rows of good slots among the first k -/
def st1 (g : Nat → Bool) : Nat → List (Nat × Nat)
  | 0 => []
  | k + 1 => if g k = true then (match (st1 g k).getLast? with
    | some p => if p.2 + 1 = k then (st1 g k).dropLast ++ [(p.1, k)] else st1 g k ++ [(k, k)]
    | none => [(k, k)]) else st1 g k
def encN (p : Nat × Nat) : PyData := .tuple [.int (p.1 : Nat), .int (p.2 : Nat)]
theorem dp_encN (n : Nat) (p : Nat × Nat) : dp (n + 1) (encN p) = true := by simp [encN]
theorem all_encN (n : Nat) (l : List (Nat × Nat)) : (l.map encN).all (dp (n + 1)) = true := by
  rw [List.all_eq_true]
  intro x hx
  obtain ⟨p, _, rfl⟩ := List.mem_map.mp hx
  exact dp_encN n p
theorem st1_len (g : Nat → Bool) : ∀ k, (st1 g k).length ≤ k
  | 0 => Nat.le_refl _
  | k + 1 => by
    have ih := st1_len g k
    unfold st1
    split
    · split
      · split
        · simp; omega
        · simp; omega
      · simp
    · omega
theorem f_stretches {se sp : PyData} {n : Int} {d u : Nat → Bool} (hd : ∀ k : Nat, k < 24 → P_is_dark [se, .int n, .int k] = some (.bool (d k))) (hu : ∀ k : Nat, k < 24 → P_is_up [se, sp, .int n, .int k] = some (.bool (u k))) (S : Store) :
    F_stretches [.d se, .d sp, .d (.int n)] S = .ok (.r S.length) (S ++ [.lst ((st1 (fun k => d k && u k) 24).map encN)]) := by
  simp (disch := omega) [F_stretches, runF_ap, B_stretches]
  generalize hq : forL _ _ _ _ _ = q
  suffices H : ∃ o : Option D, q = .nx [some (.d se), some (.d sp), some (.d (.int n)), some (.r S.length), o] (S ++ [.lst ((st1 (fun k => d k && u k) 24).map encN)]) by
    obtain ⟨o, rfl⟩ := H
    simp
  rw [← hq]
  obtain ⟨I, hI⟩ := hide fun i ρ S' => (∃ o : Option D, ρ = [some (.d se), some (.d sp), some (.d (.int n)), some (.r S.length), o]) ∧ S' = S ++ [.lst ((st1 (fun k => d k && u k) i).map encN)]
  refine forR_inv (R := fun q => ∃ o : Option D, q = .nx [some (.d se), some (.d sp), some (.d (.int n)), some (.r S.length), o] (S ++ [.lst ((st1 (fun k => d k && u k) 24).map encN)])) I ?_ ?_ ?_
  · rw [hI]; exact ⟨⟨_, rfl⟩, rfl⟩
  · intro i ρ S' hi h
    rw [hI] at h
    obtain ⟨⟨o, rfl⟩, rfl⟩ := h
    refine ⟨_, gNm_ap _ _, ?_⟩
    have hi' : i < 24 := hi
    have hl := st1_len (fun k => d k && u k) i
    have e1 := hd i hi'
    have e2 := hu i hi'
    have A := all_encN 58 (st1 (fun k => d k && u k) i)
    have Z : st1 (fun k => d k && u k) (i + 1) = if (d i && u i) = true then (match (st1 (fun k => d k && u k) i).getLast? with
      | some p => if p.2 + 1 = i then (st1 (fun k => d k && u k) i).dropLast ++ [(p.1, i)] else st1 (fun k => d k && u k) i ++ [(i, i)]
      | none => [(i, i)]) else st1 (fun k => d k && u k) i := rfl
    suffices H : Bd (fun ρ S' => (∃ o : Option D, ρ = [some (.d se), some (.d sp), some (.d (.int n)), some (.r S.length), o]) ∧ S' = S ++ [.lst ((st1 (fun k => d k && u k) (i + 1)).map encN)]) _ _ by rw [hI]; exact H
    rw [Z]
    clear Z hI
    generalize st1 (fun k => d k && u k) i = f at hl A
    generalize hII : (fun (ρ : Sky.Env) (S' : Store) => (∃ o : Option D, ρ = [some (.d se), some (.d sp), some (.d (.int n)), some (.r S.length), o]) ∧ S' = S ++ [.lst (List.map encN (if (d i && u i) = true then (match f.getLast? with
      | some p => if p.2 + 1 = i then f.dropLast ++ [(p.1, i)] else f ++ [(i, i)]
      | none => [(i, i)]) else f))]) = II
    cases hdi : d i with
    | false =>
      simp (disch := omega) [L_stretches_0, F_is_dark, F_is_up, e1, e2, hdi]
      rw [← hII]
      exact ⟨⟨_, rfl⟩, by simp [hdi]⟩
    | true =>
      cases hui : u i with
      | false =>
        simp (disch := omega) [L_stretches_0, F_is_dark, F_is_up, e1, e2, hdi, hui]
        rw [← hII]
        exact ⟨⟨_, rfl⟩, by simp [hdi, hui]⟩
      | true =>
        rcases List.eq_nil_or_concat f with rfl | ⟨f0, p, rfl⟩
        · simp (disch := omega) [L_stretches_0, F_is_dark, F_is_up, e1, e2, hdi, hui]
          rw [← hII]
          exact ⟨⟨_, rfl⟩, by simp [hdi, hui, encN]⟩
        · by_cases hc : p.2 + 1 = i
          · have hc2 : (p.2 : Int) = (i : Int) - 1 := by omega
            simp (disch := omega) [L_stretches_0, F_is_dark, F_is_up, e1, e2, hdi, hui, A, encN, hc2]
            rw [← hII]
            exact ⟨⟨_, rfl⟩, by simp [hdi, hui, encN, hc, List.set_append]⟩
          · have hc2 : ¬ (p.2 : Int) = (i : Int) - 1 := by omega
            have hl2 : f0.length + 1 < 16777216 := by rw [List.length_concat] at hl; omega
            simp (disch := omega) [L_stretches_0, F_is_dark, F_is_up, e1, e2, hdi, hui, A, encN, hc2, hl2]
            rw [← hII]
            exact ⟨⟨_, rfl⟩, by simp [hdi, hui, encN, hc]⟩
  · intro ρ S h
    rw [hI] at h
    obtain ⟨⟨o, rfl⟩, rfl⟩ := h
    exact ⟨o, rfl⟩
theorem st1_lt (g : Nat → Bool) : ∀ k, ∀ p ∈ st1 g k, p.2 < k
  | 0 => fun p h => absurd h (List.not_mem_nil)
  | k + 1 => by
    have ih := st1_lt g k
    intro p hp
    unfold st1 at hp
    split at hp
    · split at hp
      · split at hp
        · rcases List.mem_append.mp hp with h | h
          · have := ih p ((List.dropLast_sublist _).subset h); omega
          · rw [List.mem_singleton.mp h]; dsimp only; omega
        · rcases List.mem_append.mp hp with h | h
          · have := ih p h; omega
          · rw [List.mem_singleton.mp h]; dsimp only; omega
      · rw [List.mem_singleton.mp hp]; dsimp only; omega
    · have := ih p hp; omega
theorem st1_congr {g g' : Nat → Bool} : ∀ k, (∀ i < k, g i = g' i) → st1 g k = st1 g' k
  | 0, _ => rfl
  | k + 1, h => by
    unfold st1
    rw [st1_congr k fun i hi => h i (by omega), h k (by omega)]
theorem f_law_stretches {se sp : PyData} {n : Int} {d u : Nat → Bool} (hd : ∀ k : Nat, k < 24 → P__law_dark [se, .int n, .int k] = some (.bool (d k))) (hu : ∀ k : Nat, k < 24 → P__law_up [se, sp, .int n, .int k] = some (.bool (u k))) :
    P__law_stretches [se, sp, .int n] = some (.list ((st1 (fun k => d k && u k) 24).map encN)) := by
  rw [st1_congr (g := fun k => d k && u k) (g' := fun k => decide (k < 24) && (d k && u k)) 24 fun i hi => by simp [hi]]
  generalize hg : (fun k => decide (k < 24) && (d k && u k)) = g
  have hg2 : ∀ k, g k = (decide (k < 24) && (d k && u k)) := fun k => by rw [← hg]
  simp (disch := omega) [P__law_stretches, runP_ap, B__law_stretches]
  generalize hq : forL _ _ _ _ _ = q
  suffices H : ∃ o4 o5 o6 : Option D, q = .nx [some (.d se), some (.d sp), some (.d (.int n)), some (.r 0), o4, o5, o6] [.lst ((st1 g 24).map encN)] by
    obtain ⟨o4, o5, o6, rfl⟩ := H
    simp
  rw [← hq]
  have last25 : st1 g 25 = st1 g 24 := by
    show (if g 24 = true then _ else st1 g 24) = _
    rw [if_neg (by rw [hg2]; simp)]
  obtain ⟨I, hI⟩ := hide fun i ρ S => ∃ (f : List (Nat × Nat)) (b : D) (o5 o6 : Option D), ρ = [some (.d se), some (.d sp), some (.d (.int n)), some (.r 0), some b, o5, o6] ∧ S = [.lst (f.map encN)] ∧
    ((b = .d .none ∧ f = st1 g i ∧ ∀ p, f.getLast? = some p → p.2 + 1 ≠ i) ∨ (∃ b0 : Nat, b = .d (.int (b0 : Nat)) ∧ 0 < i ∧ st1 g i = f ++ [(b0, i - 1)]))
  refine forR_inv (R := fun q => ∃ o4 o5 o6 : Option D, q = .nx [some (.d se), some (.d sp), some (.d (.int n)), some (.r 0), o4, o5, o6] [.lst ((st1 g 24).map encN)]) I ?_ ?_ ?_
  · rw [hI]; exact ⟨[], _, _, _, rfl, rfl, .inl ⟨rfl, rfl, fun p h => by simp at h⟩⟩
  · intro i ρ S hi h
    rw [hI] at h
    obtain ⟨f, b, o5, o6, rfl, rfl, hb⟩ := h
    refine ⟨_, gNm_ap _ _, ?_⟩
    have hi' : i < 25 := hi
    have hgood : ∃ r : Res D, r = mAnd (mOp gLt (mVar 5) (mC (.int 24))) (mAnd (mCall 3 F__law_dark (aCons (mVar 0) (aCons (mVar 2) (aCons (mVar 5) aNil)))) (mCall 4 F__law_up (aCons (mVar 0) (aCons (mVar 1) (aCons (mVar 2) (aCons (mVar 5) aNil)))))) [some (.d se), some (.d sp), some (.d (.int n)), some (.r 0), some b, some (.d (.int i)), o6] [.lst (f.map encN)] ∧ r = .ok (.d (.bool (g i))) [.lst (f.map encN)] := by
      refine ⟨_, rfl, ?_⟩
      rw [hg2]
      by_cases h24 : i < 24
      · have e1 := hd i h24
        have e2 := hu i h24
        have h24' : (i : Int) < 24 := by omega
        cases hdi : d i <;> simp (disch := omega) [F__law_dark, F__law_up, e1, e2, h24, h24', hdi]
      · have h24' : ¬ (i : Int) < 24 := by omega
        simp (disch := omega) [h24, h24']
    obtain ⟨r, hr, hr2⟩ := hgood
    have Z : st1 g (i + 1) = if g i = true then (match (st1 g i).getLast? with
      | some p => if p.2 + 1 = i then (st1 g i).dropLast ++ [(p.1, i)] else st1 g i ++ [(i, i)]
      | none => [(i, i)]) else st1 g i := rfl
    have hlen : f.length < 16777216 := by
      have := st1_len g i
      rcases hb with ⟨-, rfl, -⟩ | ⟨b0, -, -, e⟩
      · omega
      · rw [e, List.length_append] at this; omega
    unfold L__law_stretches_0
    rw [sSeq_ap, sSet_ap]
    simp only [Int.zero_add, List.set_cons_succ, List.set_cons_zero]
    rw [← hr, hr2]
    cases hgi : g i with
    | true =>
      rw [hgi, if_pos rfl] at Z
      rcases hb with ⟨rfl, rfl, hlast⟩ | ⟨b0, rfl, h0, e⟩
      · simp
        rw [hI]
        refine ⟨_, _, _, _, rfl, rfl, .inr ⟨i, rfl, by omega, ?_⟩⟩
        rw [Z]
        cases hgl : (st1 g i).getLast? with
        | none => rw [List.getLast?_eq_none_iff] at hgl; simp [hgl]
        | some p => simp [hlast p hgl]
      · simp
        rw [hI]
        refine ⟨_, _, _, _, rfl, rfl, .inr ⟨b0, rfl, by omega, ?_⟩⟩
        rw [Z, e]
        have : i - 1 + 1 = i := by omega
        simp [this]
    | false =>
      rw [hgi] at Z
      simp only [Bool.false_eq_true, if_false] at Z
      rcases hb with ⟨rfl, rfl, hlast⟩ | ⟨b0, rfl, h0, e⟩
      · simp
        rw [hI]
        refine ⟨_, _, _, _, rfl, rfl, .inl ⟨rfl, by rw [Z], fun p hp => ?_⟩⟩
        have := st1_lt g i p (List.mem_of_getLast? hp)
        omega
      · simp [hlen]
        rw [hI]
        have hs : ((i - 1 : Nat) : Int) = (i : Int) - 1 := by omega
        refine ⟨f ++ [(b0, i - 1)], _, _, _, rfl, by simp [encN, hs], .inl ⟨rfl, by rw [Z, e], fun p hp => ?_⟩⟩
        simp at hp
        rw [← hp]
        dsimp only
        omega
  · intro ρ S h
    rw [hI] at h
    obtain ⟨f, b, o5, o6, rfl, rfl, hb⟩ := h
    rcases hb with ⟨rfl, rfl, hlast⟩ | ⟨b0, rfl, h0, e⟩
    · exact ⟨_, _, _, by rw [← last25]⟩
    · have : (b0, 24) ∈ st1 g 24 := by rw [← last25]; exact e ▸ (by simp)
      have := st1_lt g 24 _ this
      simp at this
theorem ring (x : Int) : 0 ≤ x % 60 ∧ x % 60 < 60 := ⟨Int.emod_nonneg _ (by decide), Int.emod_lt_of_pos _ (by decide)⟩
theorem up_later {t a r n s : Int} (ha : 0 ≤ a ∧ a < 60) : isUp t ((a + 2) % 60) r n (s + 1) = isUp t a r n s := by
  unfold isUp
  have e : (t * n + 2 * (s + 1)) % 60 = ((t * n + 2 * s) % 60 + 2) % 60 := by omega
  rw [e]
  have := ring (t * n + 2 * s)
  generalize (t * n + 2 * s) % 60 = m at this
  have : rd ((a + 2) % 60) ((m + 2) % 60) = rd a m := by
    unfold rd
    split <;> split <;> split <;> split <;> omega
  rw [this]
theorem up_turn {t a r n s : Int} (ha : 0 ≤ a ∧ a < 60) : isUp t ((a + t) % 60) r (n + 1) s = isUp t a r n s := by
  unfold isUp
  have e : (t * (n + 1) + 2 * s) % 60 = ((t * n + 2 * s) % 60 + t) % 60 := by rw [Int.mul_add]; omega
  rw [e]
  have := ring (t * n + 2 * s)
  generalize (t * n + 2 * s) % 60 = m at this
  have : rd ((a + t) % 60) ((m + t) % 60) = rd a m := by
    unfold rd
    split <;> split <;> split <;> split <;> omega
  rw [this]
theorem up_wide {t a r w n s : Int} (h : r ≤ w) (hu : isUp t a r n s = true) : isUp t a w n s = true := by
  unfold isUp at hu ⊢
  rw [decide_eq_true_iff] at hu ⊢
  omega
theorem up_most {t a n s : Int} (ha : 0 ≤ a ∧ a < 60) : isUp t a 30 n s = true := by
  unfold isUp
  have := ring (t * n + 2 * s)
  generalize (t * n + 2 * s) % 60 = m at this
  rw [decide_eq_true_iff]
  unfold rd
  split <;> split <;> omega
theorem dp_season (t : Int) (ns : List (Int × Int)) : dp 60 (.tuple [.int t, .tuple (ns.map encP)]) = true := by
  simp [encP]
abbrev enS (t : Int) (ns : List (Int × Int)) : PyData := .tuple [.int t, .tuple (ns.map encP)]
theorem slot_loop {t a r w : Int} {ns : List (Int × Int)} {n : Nat} (ht : 0 ≤ t ∧ t < 60) (ha : 0 ≤ a ∧ a < 60) (hr : 0 ≤ r ∧ r ≤ 30) (hw : r ≤ w) (v0 v1 v2 v4 v9 x10 x11 x12 : Option D) (S : Store) :
    ∃ o10 o11 o12, forL (gNm 10) L_law_0 (rng 0 24) [v0, v1, v2, some (.d (enS t ns)), v4, some (.d (.tuple [.int a, .int r])), some (.d (.tuple [.int ((a + 2) % 60), .int r])), some (.d (.tuple [.int a, .int w])), some (.d (.int n)), v9, x10, x11, x12] S
      = .nx [v0, v1, v2, some (.d (enS t ns)), v4, some (.d (.tuple [.int a, .int r])), some (.d (.tuple [.int ((a + 2) % 60), .int r])), some (.d (.tuple [.int a, .int w])), some (.d (.int n)), v9, o10, o11, o12] S := by
  obtain ⟨I, hI⟩ := hide fun i ρ S' => (∃ o10 o11 o12 : Option D, ρ = [v0, v1, v2, some (.d (enS t ns)), v4, some (.d (.tuple [.int a, .int r])), some (.d (.tuple [.int ((a + 2) % 60), .int r])), some (.d (.tuple [.int a, .int w])), some (.d (.int n)), v9, o10, o11, o12]) ∧ S' = S
  refine forR_inv (R := fun q => ∃ o10 o11 o12, q = .nx [v0, v1, v2, some (.d (enS t ns)), v4, some (.d (.tuple [.int a, .int r])), some (.d (.tuple [.int ((a + 2) % 60), .int r])), some (.d (.tuple [.int a, .int w])), some (.d (.int n)), v9, o10, o11, o12] S) I ?_ ?_ ?_
  · rw [hI]; exact ⟨⟨_, _, _, rfl⟩, rfl⟩
  · intro i ρ S' hi h
    rw [hI] at h
    obtain ⟨⟨o10, o11, o12, rfl⟩, rfl⟩ := h
    refine ⟨_, gNm_ap _ _, ?_⟩
    have ht' : -1000000 < t ∧ t < 1000000 := by omega
    have e1 := fun a r n s => p_is_up t (.tuple (ns.map encP)) a r n s ht'
    have e2 := fun n s => p_middle t (.tuple (ns.map encP)) n s ht'
    have e3 := fun n s => p__law_up (t := t) (rest := .tuple (ns.map encP)) (r := r) (n := n) (s := s) ht' ha (by omega)
    have f1 : isUp t ((a + 2) % 60) r n ((i : Int) + 1) = isUp t a r n i := up_later ha
    have f2 : isUp t ((a + t) % 60) r ((n : Int) + 1) i = isUp t a r n i := up_turn ha
    have f3 : isUp t a 30 n i = true := up_most ha
    have f4 := @up_wide t a r w n i hw
    generalize hb : isUp t a r n i = b at f1 f2 f4
    have hfin : ∀ x y z, I (i + 1) [v0, v1, v2, some (.d (enS t ns)), v4, some (.d (.tuple [.int a, .int r])), some (.d (.tuple [.int ((a + 2) % 60), .int r])), some (.d (.tuple [.int a, .int w])), some (.d (.int n)), v9, x, y, z] S' := fun x y z => by rw [hI]; exact ⟨⟨_, _, _, rfl⟩, rfl⟩
    cases b with
    | true =>
      simp (disch := omega) [L_law_0, F_is_up, F_middle, F__law_up, e1, e2, e3, f1, f2, f3, f4 rfl, hb]
      exact hfin _ _ _
    | false =>
      simp (disch := omega) [L_law_0, F_is_up, F_middle, F__law_up, e1, e2, e3, f1, f2, f3, hb]
      exact hfin _ _ _
  · intro ρ S h
    rw [hI] at h
    obtain ⟨⟨o10, o11, o12, rfl⟩, rfl⟩ := h
    exact ⟨_, _, _, rfl⟩
theorem night_loop {t a r w : Int} {ns : List (Int × Int)} (ht : 0 ≤ t ∧ t < 60) (ha : 0 ≤ a ∧ a < 60) (hr : 0 ≤ r ∧ r ≤ 30) (hw : r ≤ w) {j : Nat} {c : Cell} (v0 v1 v4 x8 x9 x10 x11 x12 : Option D) (S : Store) (hj : S[j]? = some c) :
    ∃ o8 o9 o10 o11 o12 S', forL (gNm 8) L_law_1 (rng 0 ns.length) [v0, v1, some (.r j), some (.d (enS t ns)), v4, some (.d (.tuple [.int a, .int r])), some (.d (.tuple [.int ((a + 2) % 60), .int r])), some (.d (.tuple [.int a, .int w])), x8, x9, x10, x11, x12] S
      = .nx [v0, v1, some (.r j), some (.d (enS t ns)), v4, some (.d (.tuple [.int a, .int r])), some (.d (.tuple [.int ((a + 2) % 60), .int r])), some (.d (.tuple [.int a, .int w])), o8, o9, o10, o11, o12] S' ∧ S'[j]? = some c := by
  obtain ⟨I, hI⟩ := hide fun i ρ S' => (∃ o8 o9 o10 o11 o12 : Option D, ρ = [v0, v1, some (.r j), some (.d (enS t ns)), v4, some (.d (.tuple [.int a, .int r])), some (.d (.tuple [.int ((a + 2) % 60), .int r])), some (.d (.tuple [.int a, .int w])), o8, o9, o10, o11, o12]) ∧ S'[j]? = some c
  refine forR_inv (R := fun q => ∃ o8 o9 o10 o11 o12 S', q = .nx [v0, v1, some (.r j), some (.d (enS t ns)), v4, some (.d (.tuple [.int a, .int r])), some (.d (.tuple [.int ((a + 2) % 60), .int r])), some (.d (.tuple [.int a, .int w])), o8, o9, o10, o11, o12] S' ∧ S'[j]? = some c) I ?_ ?_ ?_
  · rw [hI]; exact ⟨⟨_, _, _, _, _, rfl⟩, hj⟩
  · intro i ρ S' hi h
    rw [hI] at h
    obtain ⟨⟨o8, o9, o10, o11, o12, rfl⟩, hj'⟩ := h
    refine ⟨_, gNm_ap _ _, ?_⟩
    have ht' : -1000000 < t ∧ t < 1000000 := by omega
    obtain ⟨p, hp⟩ : ∃ p, ns[i]? = some p := ⟨_, List.getElem?_eq_getElem hi⟩
    have d1 : ∀ k : Nat, k < 24 → P_is_dark [enS t ns, .int (i : Nat), .int (k : Nat)] = some (.bool (decide (p.1 ≤ (k : Int)) && decide ((k : Int) ≤ p.2))) := fun k hk => p_is_dark _ ns p i k (by omega) hp
    have d2 : ∀ k : Nat, k < 24 → P__law_dark [enS t ns, .int (i : Nat), .int (k : Nat)] = some (.bool (decide (p.1 ≤ (k : Int)) && decide ((k : Int) ≤ p.2))) := fun k hk => p__law_dark _ ns p i k (by omega) hp
    have u1 : ∀ k : Nat, k < 24 → P_is_up [enS t ns, .tuple [.int a, .int r], .int (i : Nat), .int (k : Nat)] = some (.bool (isUp t a r i k)) := fun k hk => p_is_up _ _ _ _ _ _ ht'
    have u2 : ∀ k : Nat, k < 24 → P__law_up [enS t ns, .tuple [.int a, .int r], .int (i : Nat), .int (k : Nat)] = some (.bool (isUp t a r i k)) := fun k hk => p__law_up ht' ha (by omega)
    have g1 := fun S => f_stretches d1 u1 S
    have g2 := f_law_stretches d2 u2
    have hA := all_encN 58 (st1 (fun k => (decide (p.1 ≤ (k : Int)) && decide ((k : Int) ≤ p.2)) && isUp t a r i k) 24)
    have hl : ((st1 (fun k => (decide (p.1 ≤ (k : Int)) && decide ((k : Int) ≤ p.2)) && isUp t a r i k) 24).map encN).length < 16777216 := by
      have := st1_len (fun k => (decide (p.1 ≤ (k : Int)) && decide ((k : Int) ≤ p.2)) && isUp t a r i k) 24
      rw [List.length_map]
      omega
    generalize (st1 (fun k => (decide (p.1 ≤ (k : Int)) && decide ((k : Int) ≤ p.2)) && isUp t a r i k) 24).map encN = L at g1 g2 hA hl
    have hE : PyData.eqv (.list L) (.list L) = true := eqv_same _ hA
    have hC := cut_last L .none
    clear d1 d2 u1 u2
    simp (disch := omega) [L_law_1, g1, g2, F__law_stretches, hA, hE, hl, hC]
    obtain ⟨y1, y2, y3, e⟩ := slot_loop (ns := ns) (n := i) ht ha hr hw v0 v1 (some (.r j)) v4 (some (.r S'.length)) o10 o11 o12 (S' ++ [.lst (L ++ [.none]), .lst L])
    rw [e]
    show I _ _ _
    rw [hI]
    exact ⟨⟨_, _, _, _, _, rfl⟩, app_get hj'⟩
  · intro ρ S h
    rw [hI] at h
    obtain ⟨⟨o8, o9, o10, o11, o12, rfl⟩, hj'⟩ := h
    exact ⟨_, _, _, _, _, _, rfl, hj'⟩
theorem spot_loop {t : Int} {ns : List (Int × Int)} (ht : 0 ≤ t ∧ t < 60) (hns : ns.length ≤ 1000) {j : Nat} {c0 : Nat} (hc0 : c0 ≤ 10000) {dk : List PyData} (hd : DK c0 dk) (v0 v1 x4 x5 x6 x7 x8 x9 x10 x11 x12 : Option D) (S : Store) (hj : S[j]? = some (.lst dk)) :
    ∃ o4 o5 o6 o7 o8 o9 o10 o11 o12 S', forL (gNm 4) L_law_2 (rng 0 4) [v0, v1, some (.r j), some (.d (enS t ns)), x4, x5, x6, x7, x8, x9, x10, x11, x12] S = .nx [v0, v1, some (.r j), some (.d (enS t ns)), o4, o5, o6, o7, o8, o9, o10, o11, o12] S' := by
  obtain ⟨I, hI⟩ := hide fun i ρ S' => (∃ o4 o5 o6 o7 o8 o9 o10 o11 o12 : Option D, ρ = [v0, v1, some (.r j), some (.d (enS t ns)), o4, o5, o6, o7, o8, o9, o10, o11, o12]) ∧ ∃ dk, S'[j]? = some (.lst dk) ∧ DK (c0 + 4 * i) dk
  refine forR_inv (R := fun q => ∃ o4 o5 o6 o7 o8 o9 o10 o11 o12 S', q = .nx [v0, v1, some (.r j), some (.d (enS t ns)), o4, o5, o6, o7, o8, o9, o10, o11, o12] S') I ?_ ?_ ?_
  · rw [hI]; exact ⟨⟨_, _, _, _, _, _, _, _, _, rfl⟩, dk, hj, hd⟩
  · intro i ρ S' hi h
    rw [hI] at h
    obtain ⟨⟨o4, o5, o6, o7, o8, o9, o10, o11, o12, rfl⟩, dk0, hj', hd0⟩ := h
    refine ⟨_, gNm_ap _ _, ?_⟩
    have hi4 : i < 4 := hi
    have hjl := lt_of_get hj'
    obtain ⟨v1', dk1, e1, hv10, hv11, hd1⟩ := pick_ok hd0 (lim := 60) (by omega) (by omega) (by omega)
    obtain ⟨v2, dk2, e2, hv20, hv21, hd2⟩ := pick_ok hd1 (lim := 31) (by omega) (by omega) (by omega)
    obtain ⟨v3, dk3, e3, hv30, hv31, hd3⟩ := pick_ok hd2 (lim := 3) (by omega) (by omega) (by omega)
    obtain ⟨v4, dk4, e4, hv40, hv41, hd4⟩ := pick_ok hd3 (lim := 9) (by omega) (by omega) (by omega)
    obtain ⟨r, hr⟩ : ∃ r : Int, (if v3 = 0 then 0 else if v3 = 1 then 30 else v2) = r := ⟨_, rfl⟩
    have hr2 : 0 ≤ r ∧ r ≤ 30 := by rw [← hr]; split <;> (try split) <;> omega
    simp (disch := omega) [L_law_2, F__law_pick, e1, e2, e3, e4, hj', hr,  -getElem?_pos]
    obtain ⟨w, hw⟩ : ∃ w : Int, w = (if r + 1 + v4 < 30 then r + 1 + v4 else 30) := ⟨_, rfl⟩
    have hw2 : r ≤ w := by rw [hw]; split <;> omega
    rw [← hw]
    obtain ⟨y1, y2, y3, y4, y5, S2, e, hS2⟩ := night_loop (j := j) (c := .lst dk4) (ns := ns) ht ⟨hv10, hv11⟩ hr2 hw2 v0 v1 (some (.d (.int i))) o8 o9 o10 o11 o12 (S'.set j (.lst dk4)) (get_set_same _ hjl)
    rw [e]
    show I _ _ _
    rw [hI]
    exact ⟨⟨_, _, _, _, _, _, _, _, _, rfl⟩, dk4, hS2, hd4.mono (by omega)⟩
  · intro ρ S h
    rw [hI] at h
    obtain ⟨⟨o4, o5, o6, o7, o8, o9, o10, o11, o12, rfl⟩, hj'⟩ := h
    exact ⟨_, _, _, _, _, _, _, _, _, _, rfl⟩
theorem law_true (ns : List Int) (hl : ns.length ≤ 63) : ∃ S, F_law [.s ns] [] = .ok (.d (.bool true)) S := by
  obtain ⟨l, hl2, c8⟩ : ∃ l : List Int, 1 + l.length ≤ 16777216 ∧ cutD ns none (some 8) = l := ⟨_, by rw [List.length_take]; omega, cut_to ns 8⟩
  simp (disch := omega) [F_law, runF_ap, B_law, c8, hl2]
  generalize hq : forL _ _ _ _ _ = q
  suffices H : ∃ ρ S, q = .nx ρ S by
    obtain ⟨ρ, S, rfl⟩ := H
    exact ⟨S, by simp⟩
  rw [← hq]
  obtain ⟨I, hI⟩ := hide fun i ρ S' => ∃ o1 o2 o3 o4 o5 o6 o7 o8 o9 o10 o11 o12 : Option D, ρ = [some (.s ns), o1, o2, o3, o4, o5, o6, o7, o8, o9, o10, o11, o12]
  refine forL_inv (R := fun q => ∃ ρ S, q = .nx ρ S) _ I ?_ ?_ ?_
  · rw [hI]; exact ⟨_, _, _, _, _, _, _, _, _, _, _, _, rfl⟩
  · intro i x ρ S' hx h
    rw [hI] at h
    obtain ⟨o1, o2, o3, o4, o5, o6, o7, o8, o9, o10, o11, o12, rfl⟩ := h
    refine ⟨_, gNm_ap _ _, ?_⟩
    obtain ⟨cell, rfl⟩ : ∃ cell : Int, x = .int cell := by
      have := List.mem_of_getElem? hx
      rcases List.mem_cons.mp this with rfl | h
      · exact ⟨_, rfl⟩
      · obtain ⟨z, _, rfl⟩ := List.mem_map.mp h
        exact ⟨_, rfl⟩
    have e0 := deck_eq cell 1
    have d0 := deck_DK cell
    generalize ([.int (if 1000000000000000000 ≤ cell then cell - 1000000000000000000 else 0), .int (cell % 2147483579), .int 1] : List PyData) = dk at e0 d0
    obtain ⟨t, nn, dk1, e1, ht0, ht1, hn0, hn1, hng, hd1⟩ := season_ok d0 (most := 4) (by omega) (by omega) (by omega)
    simp (disch := omega) [L_law_3, e0, F__law_season, e1, -getElem?_pos]
    obtain ⟨y4, y5, y6, y7, y8, y9, y10, y11, y12, S2, e⟩ := spot_loop (t := t) (ns := nn) ⟨ht0, ht1⟩ (by omega) (c0 := 1 + 5000) (by decide) hd1 (j := S'.length) (some (.s ns)) (some (.d (.int cell))) o4 o5 o6 o7 o8 o9 o10 o11 o12 (S' ++ [.lst dk1]) (by simp)
    rw [e]
    show I _ _ _
    rw [hI]
    exact ⟨_, _, _, _, _, _, _, _, _, _, _, _, rfl⟩
  · intro ρ S h
    exact ⟨ρ, S, rfl⟩
end K1
end
section
namespace K1
open PySem PySem.Spec PyProof.Rows L2 Sky
end K1
namespace K1
open PySem PySem.Spec PyProof.Rows L2 Sky
set_option maxHeartbeats 4000000 in
theorem all_mk {l : PySem.W.OpenLaw} {w : World} {K : PySem.W.Frag} {h : Heap} {mg : Str → Option Value} {fa : Addr} (X : K.In h) (G : h.Ns mainGlobals mg) (hfa : mg "law" = some (.ref fa))
    {f_middle : Addr} {od_middle an_middle : Option Addr} {sl_middle : Array (Option Value)} {oc_middle kV_middle dc_middle pm_middle cd_middle ct_middle : Value}
    {f_is_up : Addr} {od_is_up an_is_up : Option Addr} {sl_is_up : Array (Option Value)} {oc_is_up kV_is_up dc_is_up pm_is_up cd_is_up ct_is_up : Value}
    {f_is_dark : Addr} {od_is_dark an_is_dark : Option Addr} {sl_is_dark : Array (Option Value)} {oc_is_dark kV_is_dark dc_is_dark pm_is_dark cd_is_dark ct_is_dark : Value}
    {f_stretches : Addr} {od_stretches an_stretches : Option Addr} {sl_stretches : Array (Option Value)} {oc_stretches kV_stretches dc_stretches pm_stretches cd_stretches ct_stretches : Value}
    {f__law_deck : Addr} {od__law_deck an__law_deck : Option Addr} {sl__law_deck : Array (Option Value)} {oc__law_deck kV__law_deck dc__law_deck pm__law_deck cd__law_deck ct__law_deck : Value}
    {f__law_pick : Addr} {od__law_pick an__law_pick : Option Addr} {sl__law_pick : Array (Option Value)} {oc__law_pick kV__law_pick dc__law_pick pm__law_pick cd__law_pick ct__law_pick : Value}
    {f__law_season : Addr} {od__law_season an__law_season : Option Addr} {sl__law_season : Array (Option Value)} {oc__law_season kV__law_season dc__law_season pm__law_season cd__law_season ct__law_season : Value}
    {f__law_up : Addr} {od__law_up an__law_up : Option Addr} {sl__law_up : Array (Option Value)} {oc__law_up kV__law_up dc__law_up pm__law_up cd__law_up ct__law_up : Value}
    {f__law_dark : Addr} {od__law_dark an__law_dark : Option Addr} {sl__law_dark : Array (Option Value)} {oc__law_dark kV__law_dark dc__law_dark pm__law_dark cd__law_dark ct__law_dark : Value}
    {f__law_stretches : Addr} {od__law_stretches an__law_stretches : Option Addr} {sl__law_stretches : Array (Option Value)} {oc__law_stretches kV__law_stretches dc__law_stretches pm__law_stretches cd__law_stretches ct__law_stretches : Value}
    {f_law : Addr} {od_law an_law : Option Addr} {sl_law : Array (Option Value)} {oc_law kV_law dc_law pm_law cd_law ct_law : Value}
    {t_RING : Tok}
    {t_SLOTS : Tok}
    (a_middle : PySem.W.nsIn K mainGlobals "middle" = some (some (.ref f_middle))) (l_middle : K.lookup f_middle = some ⟨oc_middle, od_middle, .func (PySem.W.fnOf "middle" "middle" (defArgs s_middle) (defBody s_middle) (defScope s_middle) .none kV_middle dc_middle pm_middle an_middle cd_middle ct_middle), sl_middle⟩) (c_middle : PySem.W.codeIn K cd_middle "middle" = true) (k_middle : PySem.W.keepIn K (.ref f_middle) = true)
    (a_is_up : PySem.W.nsIn K mainGlobals "is_up" = some (some (.ref f_is_up))) (l_is_up : K.lookup f_is_up = some ⟨oc_is_up, od_is_up, .func (PySem.W.fnOf "is_up" "is_up" (defArgs s_is_up) (defBody s_is_up) (defScope s_is_up) .none kV_is_up dc_is_up pm_is_up an_is_up cd_is_up ct_is_up), sl_is_up⟩) (c_is_up : PySem.W.codeIn K cd_is_up "is_up" = true) (k_is_up : PySem.W.keepIn K (.ref f_is_up) = true)
    (a_is_dark : PySem.W.nsIn K mainGlobals "is_dark" = some (some (.ref f_is_dark))) (l_is_dark : K.lookup f_is_dark = some ⟨oc_is_dark, od_is_dark, .func (PySem.W.fnOf "is_dark" "is_dark" (defArgs s_is_dark) (defBody s_is_dark) (defScope s_is_dark) .none kV_is_dark dc_is_dark pm_is_dark an_is_dark cd_is_dark ct_is_dark), sl_is_dark⟩) (c_is_dark : PySem.W.codeIn K cd_is_dark "is_dark" = true) (k_is_dark : PySem.W.keepIn K (.ref f_is_dark) = true)
    (a_stretches : PySem.W.nsIn K mainGlobals "stretches" = some (some (.ref f_stretches))) (l_stretches : K.lookup f_stretches = some ⟨oc_stretches, od_stretches, .func (PySem.W.fnOf "stretches" "stretches" (defArgs s_stretches) (defBody s_stretches) (defScope s_stretches) .none kV_stretches dc_stretches pm_stretches an_stretches cd_stretches ct_stretches), sl_stretches⟩) (c_stretches : PySem.W.codeIn K cd_stretches "stretches" = true) (k_stretches : PySem.W.keepIn K (.ref f_stretches) = true)
    (a__law_deck : PySem.W.nsIn K mainGlobals "_law_deck" = some (some (.ref f__law_deck))) (l__law_deck : K.lookup f__law_deck = some ⟨oc__law_deck, od__law_deck, .func (PySem.W.fnOf "_law_deck" "_law_deck" (defArgs s__law_deck) (defBody s__law_deck) (defScope s__law_deck) .none kV__law_deck dc__law_deck pm__law_deck an__law_deck cd__law_deck ct__law_deck), sl__law_deck⟩) (c__law_deck : PySem.W.codeIn K cd__law_deck "_law_deck" = true) (k__law_deck : PySem.W.keepIn K (.ref f__law_deck) = true)
    (a__law_pick : PySem.W.nsIn K mainGlobals "_law_pick" = some (some (.ref f__law_pick))) (l__law_pick : K.lookup f__law_pick = some ⟨oc__law_pick, od__law_pick, .func (PySem.W.fnOf "_law_pick" "_law_pick" (defArgs s__law_pick) (defBody s__law_pick) (defScope s__law_pick) .none kV__law_pick dc__law_pick pm__law_pick an__law_pick cd__law_pick ct__law_pick), sl__law_pick⟩) (c__law_pick : PySem.W.codeIn K cd__law_pick "_law_pick" = true) (k__law_pick : PySem.W.keepIn K (.ref f__law_pick) = true)
    (a__law_season : PySem.W.nsIn K mainGlobals "_law_season" = some (some (.ref f__law_season))) (l__law_season : K.lookup f__law_season = some ⟨oc__law_season, od__law_season, .func (PySem.W.fnOf "_law_season" "_law_season" (defArgs s__law_season) (defBody s__law_season) (defScope s__law_season) .none kV__law_season dc__law_season pm__law_season an__law_season cd__law_season ct__law_season), sl__law_season⟩) (c__law_season : PySem.W.codeIn K cd__law_season "_law_season" = true) (k__law_season : PySem.W.keepIn K (.ref f__law_season) = true)
    (a__law_up : PySem.W.nsIn K mainGlobals "_law_up" = some (some (.ref f__law_up))) (l__law_up : K.lookup f__law_up = some ⟨oc__law_up, od__law_up, .func (PySem.W.fnOf "_law_up" "_law_up" (defArgs s__law_up) (defBody s__law_up) (defScope s__law_up) .none kV__law_up dc__law_up pm__law_up an__law_up cd__law_up ct__law_up), sl__law_up⟩) (c__law_up : PySem.W.codeIn K cd__law_up "_law_up" = true) (k__law_up : PySem.W.keepIn K (.ref f__law_up) = true)
    (a__law_dark : PySem.W.nsIn K mainGlobals "_law_dark" = some (some (.ref f__law_dark))) (l__law_dark : K.lookup f__law_dark = some ⟨oc__law_dark, od__law_dark, .func (PySem.W.fnOf "_law_dark" "_law_dark" (defArgs s__law_dark) (defBody s__law_dark) (defScope s__law_dark) .none kV__law_dark dc__law_dark pm__law_dark an__law_dark cd__law_dark ct__law_dark), sl__law_dark⟩) (c__law_dark : PySem.W.codeIn K cd__law_dark "_law_dark" = true) (k__law_dark : PySem.W.keepIn K (.ref f__law_dark) = true)
    (a__law_stretches : PySem.W.nsIn K mainGlobals "_law_stretches" = some (some (.ref f__law_stretches))) (l__law_stretches : K.lookup f__law_stretches = some ⟨oc__law_stretches, od__law_stretches, .func (PySem.W.fnOf "_law_stretches" "_law_stretches" (defArgs s__law_stretches) (defBody s__law_stretches) (defScope s__law_stretches) .none kV__law_stretches dc__law_stretches pm__law_stretches an__law_stretches cd__law_stretches ct__law_stretches), sl__law_stretches⟩) (c__law_stretches : PySem.W.codeIn K cd__law_stretches "_law_stretches" = true) (k__law_stretches : PySem.W.keepIn K (.ref f__law_stretches) = true)
    (a_law : PySem.W.nsIn K mainGlobals "law" = some (some (.ref f_law))) (l_law : K.lookup f_law = some ⟨oc_law, od_law, .func (PySem.W.fnOf "law" "law" (defArgs s_law) (defBody s_law) (defScope s_law) .none kV_law dc_law pm_law an_law cd_law ct_law), sl_law⟩) (c_law : PySem.W.codeIn K cd_law "law" = true) (k_law : PySem.W.keepIn K (.ref f_law) = true)
    (z_abs : PySem.W.nsIn K mainGlobals "abs" = some none)
    (z_bool : PySem.W.nsIn K mainGlobals "bool" = some none)
    (z_isinstance : PySem.W.nsIn K mainGlobals "isinstance" = some none)
    (z_len : PySem.W.nsIn K mainGlobals "len" = some none)
    (z_list : PySem.W.nsIn K mainGlobals "list" = some none)
    (z_min : PySem.W.nsIn K mainGlobals "min" = some none)
    (z_range : PySem.W.nsIn K mainGlobals "range" = some none)
    (z_tuple : PySem.W.nsIn K mainGlobals "tuple" = some none)
    (g_RING : PySem.W.nsIn K mainGlobals "RING" = some (some (.int 60 t_RING)))
    (g_SLOTS : PySem.W.nsIn K mainGlobals "SLOTS" = some (some (.int 24 t_SLOTS)))
    : ∃ fd : FuncData, (∀ (s : Shared) (v : Value), BindsTo s fd ⟨[v], []⟩ [("script", v)]) ∧ ∀ base : Heap, K.In base → base.Ns mainGlobals mg → FnOk l.prog w K mg base (L2.CX l.prog w) 4 fa fd ["script"] (spLaw K) := by
  have e := hfa.symm.trans (PySem.W.mg_of X G a_law)
  cases e
  have GG : Glob K mg := ⟨PySem.W.mg_none_of X G z_abs, PySem.W.mg_none_of X G z_bool, PySem.W.mg_none_of X G z_isinstance, PySem.W.mg_none_of X G z_len, PySem.W.mg_none_of X G z_list, PySem.W.mg_none_of X G z_min, PySem.W.mg_none_of X G z_range, PySem.W.mg_none_of X G z_tuple, ⟨_, PySem.W.mg_of X G g_RING⟩, ⟨_, PySem.W.mg_of X G g_SLOTS⟩⟩
  have F_middle := fun_mk (st := s_middle) l_middle c_middle k_middle
  have F_is_up := fun_mk (st := s_is_up) l_is_up c_is_up k_is_up
  have F_is_dark := fun_mk (st := s_is_dark) l_is_dark c_is_dark k_is_dark
  have F_stretches := fun_mk (st := s_stretches) l_stretches c_stretches k_stretches
  have F__law_deck := fun_mk (st := s__law_deck) l__law_deck c__law_deck k__law_deck
  have F__law_pick := fun_mk (st := s__law_pick) l__law_pick c__law_pick k__law_pick
  have F__law_season := fun_mk (st := s__law_season) l__law_season c__law_season k__law_season
  have F__law_up := fun_mk (st := s__law_up) l__law_up c__law_up k__law_up
  have F__law_dark := fun_mk (st := s__law_dark) l__law_dark c__law_dark k__law_dark
  have F__law_stretches := fun_mk (st := s__law_stretches) l__law_stretches c__law_stretches k__law_stretches
  have F_law := fun_mk (st := s_law) l_law c_law k_law
  have TT : Txt K mg := ⟨⟨_, _, F_middle, PySem.W.mg_of X G a_middle, F_middle.binds fun _ _ _ _ _ _ us hl => match us, hl with | [_, _, _], _ => rfl⟩,
    ⟨_, _, F_is_up, PySem.W.mg_of X G a_is_up, F_is_up.binds fun _ _ _ _ _ _ us hl => match us, hl with | [_, _, _, _], _ => rfl⟩,
    ⟨_, _, F_is_dark, PySem.W.mg_of X G a_is_dark, F_is_dark.binds fun _ _ _ _ _ _ us hl => match us, hl with | [_, _, _], _ => rfl⟩,
    ⟨_, _, F_stretches, PySem.W.mg_of X G a_stretches, F_stretches.binds fun _ _ _ _ _ _ us hl => match us, hl with | [_, _, _], _ => rfl⟩,
    ⟨_, _, F__law_deck, PySem.W.mg_of X G a__law_deck, F__law_deck.binds fun _ _ _ _ _ _ us hl => match us, hl with | [_, _], _ => rfl⟩,
    ⟨_, _, F__law_pick, PySem.W.mg_of X G a__law_pick, F__law_pick.binds fun _ _ _ _ _ _ us hl => match us, hl with | [_, _], _ => rfl⟩,
    ⟨_, _, F__law_season, PySem.W.mg_of X G a__law_season, F__law_season.binds fun _ _ _ _ _ _ us hl => match us, hl with | [_, _], _ => rfl⟩,
    ⟨_, _, F__law_up, PySem.W.mg_of X G a__law_up, F__law_up.binds fun _ _ _ _ _ _ us hl => match us, hl with | [_, _, _, _], _ => rfl⟩,
    ⟨_, _, F__law_dark, PySem.W.mg_of X G a__law_dark, F__law_dark.binds fun _ _ _ _ _ _ us hl => match us, hl with | [_, _, _], _ => rfl⟩,
    ⟨_, _, F__law_stretches, PySem.W.mg_of X G a__law_stretches, F__law_stretches.binds fun _ _ _ _ _ _ us hl => match us, hl with | [_, _, _], _ => rfl⟩,
    ⟨_, _, F_law, PySem.W.mg_of X G a_law, F_law.binds fun _ _ _ _ _ _ us hl => match us, hl with | [_], _ => rfl⟩⟩
  exact ⟨PySem.W.fnOf "law" "law" (defArgs s_law) (defBody s_law) (defScope s_law) .none kV_law dc_law pm_law an_law cd_law ct_law, fun s v => .of_eq rfl, fun base _ _ => (fn_full F_law sc_law rfl (bo_law GG TT)).imp fun vs H Q E q => sp_of law_true q⟩
end K1
open PySem PySem.W PyProof.Rows
set_option maxHeartbeats 0 in
theorem PySem.Challenge.cw_skynights_k01_whole_what_is_up_holds : PySem.Challenge.rw_skynights_k01_whole_what_is_up.Holds := by
  w_on; o_law; k_head; (case hw => w_witness2)
  k_fill
  refine Sky.walk_end (l := PySem.Challenge.rw_skynights_k01_whole_what_is_up) (k := 4) rfl rfl ⟨rfl, by decide, by decide⟩ (fun w h Y => PySem.W.kIn_of Y) ?F
  case F =>
    intro w mg fa h KX G hmg
    refine' K1.all_mk KX G hmg ?a_middle ?l_middle ?c_middle ?k_middle ?a_is_up ?l_is_up ?c_is_up ?k_is_up ?a_is_dark ?l_is_dark ?c_is_dark ?k_is_dark ?a_stretches ?l_stretches ?c_stretches ?k_stretches ?a__law_deck ?l__law_deck ?c__law_deck ?k__law_deck ?a__law_pick ?l__law_pick ?c__law_pick ?k__law_pick ?a__law_season ?l__law_season ?c__law_season ?k__law_season ?a__law_up ?l__law_up ?c__law_up ?k__law_up ?a__law_dark ?l__law_dark ?c__law_dark ?k__law_dark ?a__law_stretches ?l__law_stretches ?c__law_stretches ?k__law_stretches ?a_law ?l_law ?c_law ?k_law ?z_abs ?z_bool ?z_isinstance ?z_len ?z_list ?z_min ?z_range ?z_tuple ?g_RING ?g_SLOTS
    (case a_middle => k_is)
    (case l_middle => k_is)
    (case c_middle => k_is)
    (case k_middle => k_is)
    (case a_is_up => k_is)
    (case l_is_up => k_is)
    (case c_is_up => k_is)
    (case k_is_up => k_is)
    (case a_is_dark => k_is)
    (case l_is_dark => k_is)
    (case c_is_dark => k_is)
    (case k_is_dark => k_is)
    (case a_stretches => k_is)
    (case l_stretches => k_is)
    (case c_stretches => k_is)
    (case k_stretches => k_is)
    (case a__law_deck => k_is)
    (case l__law_deck => k_is)
    (case c__law_deck => k_is)
    (case k__law_deck => k_is)
    (case a__law_pick => k_is)
    (case l__law_pick => k_is)
    (case c__law_pick => k_is)
    (case k__law_pick => k_is)
    (case a__law_season => k_is)
    (case l__law_season => k_is)
    (case c__law_season => k_is)
    (case k__law_season => k_is)
    (case a__law_up => k_is)
    (case l__law_up => k_is)
    (case c__law_up => k_is)
    (case k__law_up => k_is)
    (case a__law_dark => k_is)
    (case l__law_dark => k_is)
    (case c__law_dark => k_is)
    (case k__law_dark => k_is)
    (case a__law_stretches => k_is)
    (case l__law_stretches => k_is)
    (case c__law_stretches => k_is)
    (case k__law_stretches => k_is)
    (case a_law => k_is)
    (case l_law => k_is)
    (case c_law => k_is)
    (case k_law => k_is)
    (case z_abs => k_is)
    (case z_bool => k_is)
    (case z_isinstance => k_is)
    (case z_len => k_is)
    (case z_list => k_is)
    (case z_min => k_is)
    (case z_range => k_is)
    (case z_tuple => k_is)
    (case g_RING => k_is)
    (case g_SLOTS => k_is)
end
