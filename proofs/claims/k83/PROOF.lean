import PyProof.Rows.All
import Wide.All
import OpenK.AllK
import Wide.FinOn
import HandS.ForMost
import HandS.ForExc
import HandS.Walk
import HandS.IsInst
import HandS.TupAny
import HandS.TupLe
import HandS.Conv
import HandS.Deep
import HandS.TupMul
import HandS.Flow
import KE.SortData
import KE.DataCmp
import HandS.RaiseMore
import KE.GoesEnum
import HandS.Style
import HandS.Defaults
import HandS.ExcInit
import HandS.Text
import HandS.CallLocal
import HandS.OwnEq
import PyProof.InstNe
import OpenK.KMake
import HandS.TryMany
import HandS.Words
import HandS.Iter
import HandS.HeadHook2
import KE.KDictPairs
import HandS.Dict
import KE.KStateDown
import HandS.Head0
import HandS.Head1
import HandS.Head2
import HandS.HeadEnd
import HandS.HeadHook4
import PySem.Challenge.RW_sidefits_k83_whole_texts_of_puzzles
set_option Elab.async false
set_option linter.all false
set_option maxRecDepth 100000
set_option maxHeartbeats 0
/-! A layer of data over the hand layer: values as trees, mutable objects as numbered cells, each piece of code as a function. -/
namespace DN
open PySem PySem.Spec PyProof.Rows L2

/-- plain data: what does not change -/
inductive D where
  | non | bl (b : Bool) | int (i : Int) | str (x : Str)
  | tup (xs : List D) | lst (xs : List D)
  | lsk (xs : List D)
  | ins (c : Nat) (fs : List D)
  | glo (k : Nat)
  | ty (n : String)

/-- names of the top: addresses of defs and classes, the fields of instances, exception classes -/
structure Gv where
  ad : Nat → Addr
  fl : Nat → List Str
  ex : Nat → Value
  cs : List Nat

section
variable (G : Gv) (K : PySem.W.Frag) (H : Hp)
mutual
inductive Rep : D → V → Prop
  | non : Rep .non .non
  | bl (b : Bool) : Rep (.bl b) (.bl b)
  | int (i : Int) : Rep (.int i) (.int i)
  | str (x : Str) : Rep (.str x) (.str x)
  | tup {a : Addr} {vs : List V} {xs : List D} (h : SqT K H a vs) (r : RepL xs vs) : Rep (.tup xs) (.ref a)
  | lst {a : Addr} {vs : List V} {xs : List D} (h : H a = some (.lst vs)) (r : RepL xs vs) : Rep (.lst xs) (.ref a)
  | lsk {a : Addr} {vs : List V} {xs : List D} (h : SqL K H a vs) (r : RepL xs vs) : Rep (.lsk xs) (.ref a)
  | ins {a dx : Addr} {c : Nat} {fvs : List (Str × V)} {fs : List D} (hc : c ∈ G.cs) (h : H a = some (.ins (G.ad c) dx fvs)) (e : fvs.map (·.1) = G.fl c) (r : RepL fs (fvs.map (·.2))) : Rep (.ins c fs) (.ref a)
  | glo (k : Nat) : Rep (.glo k) (.ref (G.ad k))
  | ty (n : String) : Rep (.ty n) (.ty n)
inductive RepL : List D → List V → Prop
  | nil : RepL [] []
  | cons {x : D} {v : V} {xs : List D} {vs : List V} (h : Rep x v) (t : RepL xs vs) : RepL (x :: xs) (v :: vs)
end
end

section
variable {G : Gv} {K : PySem.W.Frag} {H H' : Hp}
theorem rd_mono {a : Addr} {u : HO} (k : ∀ a o, H a = some o → H' a = some o) (h : Rd H a u) : Rd H' a u := by
  rcases h with h | ⟨o, h⟩
  · exact .inl (k _ _ h)
  · exact .inr ⟨o, k _ _ h⟩
theorem sqT_mono {a : Addr} {xs : List V} (k : ∀ a o, H a = some o → H' a = some o) (h : SqT K H a xs) : SqT K H' a xs := by
  rcases h with h | h
  · exact .inl (rd_mono k h)
  · exact .inr h
theorem sqL_mono {a : Addr} {xs : List V} (k : ∀ a o, H a = some o → H' a = some o) (h : SqL K H a xs) : SqL K H' a xs := by
  rcases h with h | h
  · exact .inl (rd_mono k h)
  · exact .inr h
mutual
theorem Rep.mono (k : ∀ a o, H a = some o → H' a = some o) : ∀ {d : D} {v : V}, Rep G K H d v → Rep G K H' d v
  | _, _, .non => .non
  | _, _, .bl b => .bl b
  | _, _, .int i => .int i
  | _, _, .str x => .str x
  | _, _, .tup h r => .tup (sqT_mono k h) (RepL.mono k r)
  | _, _, .lst h r => .lst (k _ _ h) (RepL.mono k r)
  | _, _, .lsk h r => .lsk (sqL_mono k h) (RepL.mono k r)
  | _, _, .ins hc h e r => .ins hc (k _ _ h) e (RepL.mono k r)
  | _, _, .glo i => .glo i
  | _, _, .ty n => .ty n
theorem RepL.mono (k : ∀ a o, H a = some o → H' a = some o) : ∀ {xs : List D} {vs : List V}, RepL G K H xs vs → RepL G K H' xs vs
  | _, _, .nil => .nil
  | _, _, .cons h t => .cons (Rep.mono k h) (RepL.mono k t)
end
theorem RepL.length : ∀ {xs : List D} {vs : List V}, RepL G K H xs vs → xs.length = vs.length
  | _, _, .nil => rfl
  | _, _, .cons _ t => congrArg (· + 1) (RepL.length t)
theorem RepL.get : ∀ {xs : List D} {vs : List V} {i : Nat} {x : D}, RepL G K H xs vs → xs[i]? = some x → ∃ v, vs[i]? = some v ∧ Rep G K H x v
  | _, _, _, _, .nil, e => by simp at e
  | _, _, 0, _, .cons h _, e => by simp at e; subst e; exact ⟨_, rfl, h⟩
  | _, _, i + 1, x, .cons _ t, e => by
    obtain ⟨v, h1, h2⟩ := RepL.get (i := i) (x := x) t (by simpa using e)
    exact ⟨v, by simpa using h1, h2⟩
theorem RepL.getV : ∀ {xs : List D} {vs : List V} {i : Nat} {v : V}, RepL G K H xs vs → vs[i]? = some v → ∃ x, xs[i]? = some x ∧ Rep G K H x v
  | _, _, _, _, .nil, e => by simp at e
  | _, _, 0, _, .cons h _, e => by simp at e; subst e; exact ⟨_, rfl, h⟩
  | _, _, i + 1, v, .cons _ t, e => by
    obtain ⟨x, h1, h2⟩ := RepL.getV (i := i) (v := v) t (by simpa using e)
    exact ⟨x, by simpa using h1, h2⟩
theorem RepL.append : ∀ {xs ys : List D} {vs us : List V}, RepL G K H xs vs → RepL G K H ys us → RepL G K H (xs ++ ys) (vs ++ us)
  | _, _, _, _, .nil, s => s
  | _, _, _, _, .cons h t, s => .cons h (RepL.append t s)
theorem RepL.take : ∀ {xs : List D} {vs : List V} (n : Nat), RepL G K H xs vs → RepL G K H (xs.take n) (vs.take n)
  | _, _, 0, _ => .nil
  | _, _, _ + 1, .nil => .nil
  | _, _, n + 1, .cons h t => .cons h (RepL.take n t)
theorem RepL.drop : ∀ {xs : List D} {vs : List V} (n : Nat), RepL G K H xs vs → RepL G K H (xs.drop n) (vs.drop n)
  | _, _, 0, r => r
  | _, _, _ + 1, .nil => .nil
  | _, _, n + 1, .cons _ t => RepL.drop n t
theorem RepL.set {x : D} {v : V} (h : Rep G K H x v) : ∀ {xs : List D} {vs : List V} (n : Nat), RepL G K H xs vs → RepL G K H (xs.set n x) (vs.set n v)
  | _, _, _, .nil => .nil
  | _, _, 0, .cons _ t => .cons h t
  | _, _, n + 1, .cons q t => .cons q (RepL.set h n t)
theorem RepL.erase : ∀ {xs : List D} {vs : List V} (n : Nat), RepL G K H xs vs → RepL G K H (xs.eraseIdx n) (vs.eraseIdx n)
  | _, _, _, .nil => .nil
  | _, _, 0, .cons _ t => t
  | _, _, n + 1, .cons q t => .cons q (RepL.erase n t)
theorem RepL.ints : ∀ (ns : List Int), RepL G K H (ns.map D.int) (ns.map V.int)
  | [] => .nil
  | n :: r => .cons (.int n) (RepL.ints r)
theorem RepL.strs : ∀ (ns : List Str), RepL G K H (ns.map D.str) (ns.map V.str)
  | [] => .nil
  | n :: r => .cons (.str n) (RepL.strs r)
end

/-! ### mutable objects -/
/-- what may change lies there, and is no tuple -/
def Mob (o : Option HO) : Prop := o ≠ none ∧ ∀ xs, o ≠ some (.tup xs)
theorem mob_of {o : HO} (h : ∀ xs, o ≠ .tup xs) : Mob (some o) := ⟨by simp, fun xs e => h xs (Option.some.inj e)⟩
/-- the heap without what may change -/
def cut (H : Hp) (M : Addr → Bool) : Hp := fun a => if M a = true then none else H a
theorem cut_f {H : Hp} {M : Addr → Bool} {a : Addr} (h : M a = false) : cut H M a = H a := by unfold cut; rw [h]; rfl
theorem cut_t {H : Hp} {M : Addr → Bool} {a : Addr} (h : M a = true) : cut H M a = none := by unfold cut; rw [h]; rfl
theorem cut_some {H : Hp} {M : Addr → Bool} {a : Addr} {o : HO} (h : cut H M a = some o) : M a = false ∧ H a = some o := by
  cases q : M a with
  | true => rw [cut_t q] at h; cases h
  | false => exact ⟨rfl, by rw [cut_f q] at h; exact h⟩
theorem cut_le {H : Hp} {M : Addr → Bool} : ∀ a o, cut H M a = some o → H a = some o := fun a o h => (cut_some h).2

/-- what an expression gives: data, or a mutable object by its number -/
inductive W where
  | d (x : D) | h (n : Nat)
inductive Cell where
  | dead | lst (xs : List D) | ins (c : Nat) (fs : List (Str × W)) | dct (kvs : List (List Int × Nat))
abbrev Env := List (Option W)
abbrev Store := List Cell

section
variable (G : Gv) (K : PySem.W.Frag)
def RepW (φ : List Addr) (H : Hp) : W → V → Prop
  | .d x, v => Rep G K H x v
  | .h n, v => ∃ a, φ[n]? = some a ∧ v = .ref a
def RepWL (φ : List Addr) (H : Hp) (ws : List W) (vs : List V) : Prop := Paired (RepW G K φ H) ws vs
def CellRep (φ : List Addr) (M : Addr → Bool) (H : Hp) (a : Addr) : Cell → Prop
  | .dead => True
  | .lst xs => M a = true ∧ ∃ vs, H a = some (.lst vs) ∧ RepL G K (cut H M) xs vs
  | .ins c fs => (M a = true ∧ c ∈ G.cs) ∧ ∃ dx fvs, H a = some (.ins (G.ad c) dx fvs) ∧ Paired (fun (p : Str × W) (q : Str × V) => p.1 = q.1 ∧ RepW G K φ (cut H M) p.2 q.2) fs fvs
  | .dct kvs => M a = true ∧ ∃ kvs', H a = some (.dT kvs') ∧ Paired (fun (p : List Int × Nat) (q : List Key × V) => q.1 = p.1.map Sum.inl ∧ ∃ b, φ[p.2]? = some b ∧ q.2 = .ref b) kvs kvs'
structure Sto (φ : List Addr) (M : Addr → Bool) (S : Store) (H : Hp) : Prop where
  len : φ.length = S.length
  nd : φ.Nodup
  dom : ∀ a, M a = true → Mob (H a)
  inn : ∀ a, a ∈ φ → H a ≠ none
  cells : ∀ (n : Nat) (c : Cell) (a : Addr), S[n]? = some c → φ[n]? = some a → CellRep G K φ M H a c
end
/-- what was is still there -/
structure Ge (φ : List Addr) (M : Addr → Bool) (H : Hp) (φ' : List Addr) (M' : Addr → Bool) (H' : Hp) : Prop where
  pre : ∃ r, φ' = φ ++ r
  dom : ∀ a, M a = true → Mob (H a)
  imm : ∀ a o, H a = some o → M a = false → H' a = some o ∧ M' a = false
  frn : ∀ a, M a = true → a ∉ φ → H' a = H a ∧ M' a = true
  new : ∀ a, a ∈ φ' → a ∉ φ → H a = none
section
variable {φ φ1 φ2 : List Addr} {M M1 M2 : Addr → Bool} {H H1 H2 : Hp}
theorem Ge.refl (dom : ∀ a, M a = true → Mob (H a)) : Ge φ M H φ M H := ⟨⟨[], by simp⟩, dom, fun _ _ h m => ⟨h, m⟩, fun _ m _ => ⟨rfl, m⟩, fun _ h n => (n h).elim⟩
theorem Ge.trans (g : Ge φ M H φ1 M1 H1) (h : Ge φ1 M1 H1 φ2 M2 H2) : Ge φ M H φ2 M2 H2 := by
  have old : ∀ a, a ∉ φ → H a ≠ none → H1 a ≠ none ∧ a ∉ φ1 := fun a ha hn => by
    have h1 : a ∉ φ1 := fun z => hn (g.new a z ha)
    refine ⟨?_, h1⟩
    cases m : M a with
    | true => rw [(g.frn a m ha).1]; exact hn
    | false =>
      cases q : H a with
      | none => exact (hn q).elim
      | some o => rw [(g.imm a o q m).1]; simp
  refine ⟨?_, g.dom, fun a o e m => ?_, fun a m n => ?_, fun a z n => ?_⟩
  · obtain ⟨r, e⟩ := g.pre
    obtain ⟨r', e'⟩ := h.pre
    exact ⟨r ++ r', by rw [e', e, List.append_assoc]⟩
  · obtain ⟨e1, m1⟩ := g.imm a o e m
    exact h.imm a o e1 m1
  · obtain ⟨e1, m1⟩ := g.frn a m n
    have := h.frn a m1 (old a n (g.dom a m).1).2
    exact ⟨this.1.trans e1, this.2⟩
  · cases q : H a with
    | none => rfl
    | some o =>
      have hq : H a ≠ none := by rw [q]; simp
      have := old a n hq
      exact (this.1 (h.new a z this.2)).elim
theorem Ge.cut (g : Ge φ M H φ1 M1 H1) : ∀ a o, cut H M a = some o → cut H1 M1 a = some o := fun a o e => by
  obtain ⟨m, h⟩ := cut_some e
  obtain ⟨h1, m1⟩ := g.imm a o h m
  rw [cut_f m1]; exact h1
theorem Ge.at_ (g : Ge φ M H φ1 M1 H1) {n : Nat} {a : Addr} (e : φ[n]? = some a) : φ1[n]? = some a := by
  obtain ⟨r, q⟩ := g.pre
  rw [q, List.getElem?_append_left (List.getElem?_eq_some_iff.mp e).1]
  exact e
variable {G : Gv} {K : PySem.W.Frag}
theorem RepW.ge (g : Ge φ M H φ1 M1 H1) {w : W} {v : V} (r : RepW G K φ (DN.cut H M) w v) : RepW G K φ1 (DN.cut H1 M1) w v := by
  cases w with
  | d x => exact Rep.mono g.cut r
  | h n => obtain ⟨a, e, q⟩ := r; exact ⟨a, g.at_ e, q⟩
theorem RepWL.ge (g : Ge φ M H φ1 M1 H1) {ws : List W} {vs : List V} (r : RepWL G K φ (DN.cut H M) ws vs) : RepWL G K φ1 (DN.cut H1 M1) ws vs := Paired.mapP r fun _ _ h => h.ge g
end

/-- the slots -/
structure EnvR (G : Gv) (K : PySem.W.Frag) (φ : List Addr) (M : Addr → Bool) (H : Hp) (ρ : Env) (σ : L2.St) : Prop where
  len : ρ.length = σ.length
  at_ : ∀ (i : Nat) (w : W), ρ[i]? = some (some w) → ∃ v, σ[i]? = some (some v) ∧ RepW G K φ (cut H M) w v
section
variable {φ φ1 φ2 : List Addr} {M M1 M2 : Addr → Bool} {H H1 H2 : Hp} {G : Gv} {K : PySem.W.Frag} {ρ : Env} {σ : L2.St}
theorem EnvR.ge (e : EnvR G K φ M H ρ σ) (g : Ge φ M H φ1 M1 H1) : EnvR G K φ1 M1 H1 ρ σ := ⟨e.len, fun i w h => by
  obtain ⟨v, a, b⟩ := e.at_ i w h
  exact ⟨v, a, b.ge g⟩⟩
theorem EnvR.set (e : EnvR G K φ M H ρ σ) {w : W} {v : V} (r : RepW G K φ (cut H M) w v) (i : Nat) : EnvR G K φ M H (ρ.set i (some w)) (σ.set i (some v)) := by
  refine ⟨by simp [e.len], fun j w' h => ?_⟩
  by_cases hj : j = i
  · subst hj
    by_cases hl : j < ρ.length
    · rw [List.getElem?_set_self hl] at h
      cases h
      exact ⟨v, by rw [List.getElem?_set_self (by rw [← e.len]; exact hl)], r⟩
    · rw [List.getElem?_eq_none (by simp; omega)] at h
      cases h
  · rw [List.getElem?_set_ne (Ne.symm hj)] at h
    obtain ⟨v', a, b⟩ := e.at_ j w' h
    exact ⟨v', by rw [List.getElem?_set_ne (Ne.symm hj)]; exact a, b⟩
theorem EnvR.unset (e : EnvR G K φ M H ρ σ) (i : Nat) (o : Option V) : EnvR G K φ M H (ρ.set i none) (σ.set i o) := by
  refine ⟨by simp [e.len], fun j w' h => ?_⟩
  by_cases hj : j = i
  · subst hj
    by_cases hl : j < ρ.length
    · rw [List.getElem?_set_self hl] at h
      cases h
    · rw [List.getElem?_eq_none (by simp; omega)] at h
      cases h
  · rw [List.getElem?_set_ne (Ne.symm hj)] at h
    obtain ⟨v', a, b⟩ := e.at_ j w' h
    exact ⟨v', by rw [List.getElem?_set_ne (Ne.symm hj)]; exact a, b⟩
end

/-! ### results -/
inductive RW where
  | ok (w : W) (S : Store) | exc (c : Nat) (fs : List (Str × D)) (S : Store) | bad
def RW.bind (r : RW) (f : W → Store → RW) : RW := match r with
  | .ok w S => f w S
  | .exc c fs S => .exc c fs S
  | .bad => .bad
inductive RL where
  | ok (ws : List W) (S : Store) | exc (c : Nat) (fs : List (Str × D)) (S : Store) | bad
inductive Out where
  | nx (ρ : Env) (S : Store) | rt (w : W) (S : Store) | bk (ρ : Env) (S : Store) | ct (ρ : Env) (S : Store) | exc (ρ : Env) (c : Nat) (fs : List (Str × D)) (S : Store) | bad
abbrev EM := Env → Store → RW
abbrev LM := Env → Store → RL
abbrev SM := Env → Store → Out

section
variable (G : Gv) (K : PySem.W.Frag)
/-- the fields of an exception -/
def ExcRep (H : Hp) (od : Option Addr) (fs : List (Str × D)) : Prop := match od with
  | none => fs = []
  | some d => ∃ fvs : List (Str × V), H d = some (.xd fvs) ∧ fs.map (·.1) = fvs.map (·.1) ∧ RepL G K H (fs.map (·.2)) (fvs.map (·.2))
def PostX (φ : List Addr) (M : Addr → Bool) (H : Hp) (c : Nat) (fs : List (Str × D)) (S' : Store) (E : XK) : Prop :=
  ∀ φ' M' H' od, Ge φ M H φ' M' H' → Sto G K φ' M' S' H' → ExcRep G K (cut H' M') od fs → E (G.ex c) od H'
def PostE (φ : List Addr) (M : Addr → Bool) (H : Hp) (r : RW) (Q : VK) (E : XK) : Prop := match r with
  | .ok w S' => ∀ φ' M' H' v, Ge φ M H φ' M' H' → Sto G K φ' M' S' H' → RepW G K φ' (cut H' M') w v → Q v H'
  | .exc c fs S' => PostX G K φ M H c fs S' E
  | .bad => False
def PostL (φ : List Addr) (M : Addr → Bool) (H : Hp) (r : RL) (Q : List V → Hp → Prop) (E : XK) : Prop := match r with
  | .ok ws S' => ∀ φ' M' H' vs, Ge φ M H φ' M' H' → Sto G K φ' M' S' H' → RepWL G K φ' (cut H' M') ws vs → Q vs H'
  | .exc c fs S' => PostX G K φ M H c fs S' E
  | .bad => False
def PostT (φ : List Addr) (M : Addr → Bool) (H : Hp) (r : RW) (Q : Bool → Hp → Prop) (E : XK) : Prop := match r with
  | .ok (.d (.bl b)) S' => ∀ φ' M' H', Ge φ M H φ' M' H' → Sto G K φ' M' S' H' → Q b H'
  | .exc c fs S' => PostX G K φ M H c fs S' E
  | _ => False
def PostS (φ : List Addr) (M : Addr → Bool) (H : Hp) (r : Out) (D : Ends) (Wx : WX) : Prop := match r with
  | .nx ρ' S' => ∀ φ' M' H' σ', Ge φ M H φ' M' H' → Sto G K φ' M' S' H' → EnvR G K φ' M' H' ρ' σ' → D.nx σ' H'
  | .bk ρ' S' => ∀ φ' M' H' σ', Ge φ M H φ' M' H' → Sto G K φ' M' S' H' → EnvR G K φ' M' H' ρ' σ' → D.bk σ' H'
  | .ct ρ' S' => ∀ φ' M' H' σ', Ge φ M H φ' M' H' → Sto G K φ' M' S' H' → EnvR G K φ' M' H' ρ' σ' → D.ct σ' H'
  | .rt w S' => ∀ φ' M' H' v, Ge φ M H φ' M' H' → Sto G K φ' M' S' H' → RepW G K φ' (cut H' M') w v → D.rt v H'
  | .exc ρ' c fs S' => ∀ φ' M' H' od σ', Ge φ M H φ' M' H' → Sto G K φ' M' S' H' → EnvR G K φ' M' H' ρ' σ' → ExcRep G K (cut H' M') od fs → Wx (G.ex c) od σ' H'
  | .bad => False
end
section
variable {φ φ1 : List Addr} {M M1 : Addr → Bool} {H H1 : Hp} {G : Gv} {K : PySem.W.Frag}
theorem PostX.ge {c : Nat} {fs : List (Str × D)} {S' : Store} {E : XK} (g : Ge φ M H φ1 M1 H1) (p : PostX G K φ M H c fs S' E) : PostX G K φ1 M1 H1 c fs S' E := fun φ' M' H' od g' s x => p φ' M' H' od (g.trans g') s x
theorem PostE.ge {r : RW} {Q : VK} {E : XK} (g : Ge φ M H φ1 M1 H1) (p : PostE G K φ M H r Q E) : PostE G K φ1 M1 H1 r Q E := by
  cases r with
  | ok w S => exact fun φ' M' H' v g' => p φ' M' H' v (g.trans g')
  | exc c fs S => exact PostX.ge g p
  | bad => exact p
theorem PostL.ge {r : RL} {Q : List V → Hp → Prop} {E : XK} (g : Ge φ M H φ1 M1 H1) (p : PostL G K φ M H r Q E) : PostL G K φ1 M1 H1 r Q E := by
  cases r with
  | ok w S => exact fun φ' M' H' v g' => p φ' M' H' v (g.trans g')
  | exc c fs S => exact PostX.ge g p
  | bad => exact p
theorem PostT.ge {r : RW} {Q : Bool → Hp → Prop} {E : XK} (g : Ge φ M H φ1 M1 H1) (p : PostT G K φ M H r Q E) : PostT G K φ1 M1 H1 r Q E := by
  cases r with
  | ok w S =>
    cases w with
    | d x => cases x <;> first | exact p | exact fun φ' M' H' g' => p φ' M' H' (g.trans g')
    | h n => exact p
  | exc c fs S => exact PostX.ge g p
  | bad => exact p
theorem PostS.ge {r : Out} {D : Ends} {Wx : WX} (g : Ge φ M H φ1 M1 H1) (p : PostS G K φ M H r D Wx) : PostS G K φ1 M1 H1 r D Wx := by
  cases r with
  | nx ρ S => exact fun φ' M' H' v g' => p φ' M' H' v (g.trans g')
  | bk ρ S => exact fun φ' M' H' v g' => p φ' M' H' v (g.trans g')
  | ct ρ S => exact fun φ' M' H' v g' => p φ' M' H' v (g.trans g')
  | rt ρ S => exact fun φ' M' H' v g' => p φ' M' H' v (g.trans g')
  | exc ρ c fs S => exact fun φ' M' H' od v g' => p φ' M' H' od v (g.trans g')
  | bad => exact p
end

/-! ### what a reading does -/
section
variable (G : Gv) (K : PySem.W.Frag) (Wx : WX)
def DEx (t : TE) (m : EM) : Prop := ∀ φ M ρ S σ H Q, Sto G K φ M S H → EnvR G K φ M H ρ σ → PostE G K φ M H (m ρ S) Q (fun c d H' => Wx c d σ H') → t σ H Q
def DLx (t : TA) (m : LM) : Prop := ∀ φ M ρ S σ H Q, Sto G K φ M S H → EnvR G K φ M H ρ σ → PostL G K φ M H (m ρ S) Q (fun c d H' => Wx c d σ H') → t σ H Q
def DTx (t : TT) (m : EM) : Prop := ∀ φ M ρ S σ H Q, Sto G K φ M S H → EnvR G K φ M H ρ σ → PostT G K φ M H (m ρ S) Q (fun c d H' => Wx c d σ H') → t σ H Q
def DSx (t : TS) (m : SM) : Prop := ∀ φ M ρ S σ H D, Sto G K φ M S H → EnvR G K φ M H ρ σ → PostS G K φ M H (m ρ S) D Wx → t D σ H
end

/-- an expression, its reading, its function -/
structure DE (X : Cx) (G : Gv) (K : PySem.W.Frag) (Wx : WX) (e : Expr) (t : TE) (m : EM) : Prop where
  pe : PE X e t
  dx : DEx G K Wx t m
structure DT (X : Cx) (G : Gv) (K : PySem.W.Frag) (Wx : WX) (e : Expr) (t : TT) (m : EM) : Prop where
  pt : PT X e t
  dx : DTx G K Wx t m
structure DA (X : Cx) (G : Gv) (K : PySem.W.Frag) (Wx : WX) (es : List Expr) (t : TA) (m : LM) : Prop where
  pa : PA X es t
  dx : DLx G K Wx t m
structure DS (X : Cx) (G : Gv) (K : PySem.W.Frag) (Wx : WX) (st : Stmt) (t : TS) (m : SM) : Prop where
  ps : PS X st t
  dx : DSx G K Wx t m
structure DB (X : Cx) (G : Gv) (K : PySem.W.Frag) (Wx : WX) (st : List Stmt) (t : TS) (m : SM) : Prop where
  ps : PSs X st t
  dx : DSx G K Wx t m
end DN

namespace DN
open PySem PySem.Spec PyProof.Rows L2

abbrev Grow (H H1 : Hp) : Prop := ∀ a o, H a = some o → H1 a = some o
abbrev Dom (M : Addr → Bool) (H : Hp) : Prop := ∀ a, M a = true → Mob (H a)
section
variable {φ φ1 φ2 : List Addr} {M M1 M2 : Addr → Bool} {H H1 H2 : Hp} {G : Gv} {K : PySem.W.Frag} {ρ : Env} {σ : L2.St} {S : Store}
theorem grow_cut (g : Grow H H1) : Grow (cut H M) (cut H1 M) := fun a o e => by
  obtain ⟨m, h⟩ := cut_some e
  rw [cut_f m]; exact g a o h
theorem Grow.ge (g : Grow H H1) (d : Dom M H) : Ge φ M H φ M H1 := ⟨⟨[], by simp⟩, d, fun a o e m => ⟨g a o e, m⟩, fun a m _ => by
    cases q : H a with
    | none => exact ((d a m).1 q).elim
    | some o => exact ⟨g a o q, m⟩, fun _ h n => (n h).elim⟩
theorem Dom.grow (d : Dom M H) (g : Grow H H1) : Dom M H1 := fun a m => by
  cases q : H a with
  | none => exact ((d a m).1 q).elim
  | some o => rw [g a o q, ← q]; exact d a m
theorem CellRep.mono {a : Addr} {c : Cell} (g : Grow H H1) (r : CellRep G K φ M H a c) : CellRep G K φ M H1 a c := by
  cases c with
  | dead => trivial
  | lst xs => obtain ⟨m, vs, h, r⟩ := r; exact ⟨m, vs, g _ _ h, RepL.mono (grow_cut g) r⟩
  | dct kvs => obtain ⟨m, kvs', h, r⟩ := r; exact ⟨m, kvs', g _ _ h, r⟩
  | ins c fs =>
    obtain ⟨m, dx, fvs, h, r⟩ := r
    refine ⟨m, dx, fvs, g _ _ h, Paired.mapP r fun p q z => ⟨z.1, ?_⟩⟩
    cases hp : p.2 with
    | d x => have := z.2; rw [hp] at this; exact Rep.mono (grow_cut g) this
    | h n => have := z.2; rw [hp] at this; exact this
theorem Sto.grow (s : Sto G K φ M S H) (g : Grow H H1) : Sto G K φ M S H1 := ⟨s.len, s.nd, Dom.grow s.dom g, fun a h => by
    cases q : H a with
    | none => exact (s.inn a h q).elim
    | some o => rw [g a o q]; simp, fun n c a e1 e2 => (s.cells n c a e1 e2).mono g⟩
theorem grow_upd {p : Addr} {o : HO} (h : H p = none) : Grow H (upd H p o) := fun a u e => by rw [upd_ne (ne_of_none e h)]; exact e
theorem new_cut {p : Addr} {o : HO} (d : Dom M H) (h : H p = none) : cut (upd H p o) M p = some o := by
  have m : M p = false := by
    cases q : M p with
    | false => rfl
    | true => exact ((d p q).1 h).elim
  rw [cut_f m, upd_same]
theorem new_M {p : Addr} (d : Dom M H) (h : H p = none) : M p = false := by
  cases q : M p with
  | false => rfl
  | true => exact ((d p q).1 h).elim
theorem Sto.ge (s : Sto G K φ M S H) : Ge φ M H φ M H := Ge.refl s.dom
theorem post_ok {w : W} {v : V} {Q : VK} {E : XK} (p : PostE G K φ M H (.ok w S) Q E) (s : Sto G K φ M S H) (r : RepW G K φ (cut H M) w v) : Q v H := p φ M H v s.ge s r
theorem post_grow {w : W} {v : V} {Q : VK} {E : XK} (p : PostE G K φ M H (.ok w S) Q E) (s : Sto G K φ M S H) (g : Grow H H1) (r : RepW G K φ (cut H1 M) w v) : Q v H1 := p φ M H1 v (g.ge s.dom) (s.grow g) r
end

/-! ### operations on values -/
section
variable (G : Gv) (K : PySem.W.Frag)
def Pure1 (r : V → Hp → VK → Prop) (g : D → Option D) : Prop := ∀ (H : Hp) (M : Addr → Bool) (x z : D) (vx : V) (Q : VK), Dom M H → Rep G K (cut H M) x vx → g x = some z → (∀ v H1, Grow H H1 → Rep G K (cut H1 M) z v → Q v H1) → r vx H Q
def Pure2 (r : R2) (g : D → D → Option D) : Prop := ∀ (H : Hp) (M : Addr → Bool) (x y z : D) (vx vy : V) (Q : VK), Dom M H → Rep G K (cut H M) x vx → Rep G K (cut H M) y vy → g x y = some z → (∀ v H1, Grow H H1 → Rep G K (cut H1 M) z v → Q v H1) → r vx vy H Q
def PureL (r : List V → Hp → VK → Prop) (g : List D → Option D) : Prop := ∀ (H : Hp) (M : Addr → Bool) (xs : List D) (z : D) (vs : List V) (Q : VK), Dom M H → RepL G K (cut H M) xs vs → g xs = some z → (∀ v H1, Grow H H1 → Rep G K (cut H1 M) z v → Q v H1) → r vs H Q
/-- a method of a built-in type: receiver, arguments -/
def PureM (r : V → List V → Hp → VK → Prop) (g : D → List D → Option D) : Prop := ∀ (H : Hp) (M : Addr → Bool) (x : D) (xs : List D) (z : D) (vx : V) (vs : List V) (Q : VK), Dom M H → Rep G K (cut H M) x vx → RepL G K (cut H M) xs vs → g x xs = some z → (∀ v H1, Grow H H1 → Rep G K (cut H1 M) z v → Q v H1) → r vx vs H Q
end
def giveO (o : Option D) (S : Store) : RW := match o with
  | some z => .ok (.d z) S
  | none => .bad
def W.toD : W → Option D
  | .d x => some x
  | .h _ => none
def dats : List W → Option (List D)
  | [] => some []
  | .d x :: r => (dats r).map (x :: ·)
  | .h _ :: _ => none
def RL.bind (r : RL) (f : List W → Store → RW) : RW := match r with
  | .ok ws S => f ws S
  | .exc c fs S => .exc c fs S
  | .bad => .bad

/-! ### the functions of the pieces of code -/
def eV (i : Nat) : EM := fun ρ S => match ρ[i]? with
  | some (some w) => .ok w S
  | _ => .bad
def eC (x : D) : EM := fun _ S => .ok (.d x) S
def v1 (g : D → Option D) : W → Store → RW := fun w S => match w with
  | .d x => giveO (g x) S
  | .h _ => .bad
def v2 (g : D → D → Option D) : W → W → Store → RW := fun u w S => match u, w with
  | .d x, .d y => giveO (g x y) S
  | _, _ => .bad
def vL (g : List D → Option D) : List W → Store → RW := fun ws S => match dats ws with
  | some xs => giveO (g xs) S
  | none => .bad
def vM (g : D → List D → Option D) : W → List W → Store → RW := fun w ws S => match w with
  | .d x => (match dats ws with
    | some xs => giveO (g x xs) S
    | none => .bad)
  | .h _ => .bad
def eU (f : W → Store → RW) (a : EM) : EM := fun ρ S => (a ρ S).bind f
def eO (f : W → W → Store → RW) (a b : EM) : EM := fun ρ S => (a ρ S).bind fun x S1 => (b ρ S1).bind fun y S2 => f x y S2
def eA (f : List W → Store → RW) (m : LM) : EM := fun ρ S => (m ρ S).bind f
def eM (f : W → List W → Store → RW) (a : EM) (m : LM) : EM := fun ρ S => (a ρ S).bind fun x S1 => (m ρ S1).bind fun ys S2 => f x ys S2
def lN : LM := fun _ S => .ok [] S
def lC (a : EM) (m : LM) : LM := fun ρ S => match a ρ S with
  | .ok w S1 => (match m ρ S1 with
    | .ok ws S2 => .ok (w :: ws) S2
    | r => r)
  | .exc c fs S1 => .exc c fs S1
  | .bad => .bad
abbrev e1 (g : D → Option D) (a : EM) : EM := eU (v1 g) a
abbrev e2 (g : D → D → Option D) (a b : EM) : EM := eO (v2 g) a b
abbrev eL (g : List D → Option D) (m : LM) : EM := eA (vL g) m

section
variable {G : Gv} {K : PySem.W.Frag} {Wx : WX}
theorem dats_rep {φ : List Addr} {H : Hp} : ∀ {ws : List W} {vs : List V} {xs : List D}, RepWL G K φ H ws vs → dats ws = some xs → RepL G K H xs vs
  | [], _, xs, .nil, e => by
    have : xs = [] := by simpa [dats] using e.symm
    subst this; exact .nil
  | .d x :: r, _, xs, .cons h t, e => by
    simp only [dats, Option.map_eq_some_iff] at e
    obtain ⟨ys, e1, e2⟩ := e
    subst e2
    exact .cons h (dats_rep t e1)
  | .h n :: r, _, xs, .cons h t, e => by simp [dats] at e
theorem dx_var {i : Nat} : DEx G K Wx (tVar i) (eV i) := fun φ M ρ S σ H Q s e p => by
  unfold eV at p
  cases q : ρ[i]? with
  | none => rw [q] at p; exact p.elim
  | some o =>
    rw [q] at p
    cases o with
    | none => exact p.elim
    | some w =>
      obtain ⟨v, hv, r⟩ := e.at_ i w q
      exact ⟨v, hv, post_ok p s r⟩
theorem dx_c {v : V} {x : D} (h : ∀ H, Rep G K H x v) : DEx G K Wx (tC v) (eC x) := fun φ M ρ S σ H Q s e p => post_ok (w := .d x) p s (h _)
theorem bind_ok {ta : TE} {ma : EM} (ha : DEx G K Wx ta ma) {φ M ρ S σ H} {Q : VK} {f : W → Store → RW} {R : VK} (s : Sto G K φ M S H) (e : EnvR G K φ M H ρ σ) (p : PostE G K φ M H ((ma ρ S).bind f) Q (fun c d H' => Wx c d σ H'))
    (h : ∀ w S1 φ1 M1 H1 v, Ge φ M H φ1 M1 H1 → Sto G K φ1 M1 S1 H1 → EnvR G K φ1 M1 H1 ρ σ → RepW G K φ1 (cut H1 M1) w v → PostE G K φ1 M1 H1 (f w S1) Q (fun c d H' => Wx c d σ H') → R v H1) : ta σ H R := by
  refine ha φ M ρ S σ H R s e ?_
  cases q : ma ρ S with
  | ok w S1 =>
    rw [q] at p
    exact fun φ1 M1 H1 v g s1 r => h w S1 φ1 M1 H1 v g s1 (e.ge g) r (PostE.ge g p)
  | exc c fs S1 => rw [q] at p; exact p
  | bad => rw [q] at p; exact p
theorem bindL_ok {ta : TA} {ma : LM} (ha : DLx G K Wx ta ma) {φ M ρ S σ H} {Q : VK} {f : List W → Store → RW} {R : List V → Hp → Prop} (s : Sto G K φ M S H) (e : EnvR G K φ M H ρ σ) (p : PostE G K φ M H ((ma ρ S).bind f) Q (fun c d H' => Wx c d σ H'))
    (h : ∀ w S1 φ1 M1 H1 v, Ge φ M H φ1 M1 H1 → Sto G K φ1 M1 S1 H1 → EnvR G K φ1 M1 H1 ρ σ → RepWL G K φ1 (cut H1 M1) w v → PostE G K φ1 M1 H1 (f w S1) Q (fun c d H' => Wx c d σ H') → R v H1) : ta σ H R := by
  refine ha φ M ρ S σ H R s e ?_
  cases q : ma ρ S with
  | ok w S1 =>
    rw [q] at p
    exact fun φ1 M1 H1 v g s1 r => h w S1 φ1 M1 H1 v g s1 (e.ge g) r (PostE.ge g p)
  | exc c fs S1 => rw [q] at p; exact p
  | bad => rw [q] at p; exact p
/-- operations by values -/
def Op1 (G : Gv) (K : PySem.W.Frag) (r : V → Hp → VK → Prop) (f : W → Store → RW) : Prop := ∀ φ M S H w v Q E, Sto G K φ M S H → RepW G K φ (cut H M) w v → PostE G K φ M H (f w S) Q E → r v H Q
def Op2 (G : Gv) (K : PySem.W.Frag) (r : R2) (f : W → W → Store → RW) : Prop := ∀ φ M S H w v w2 v2 Q E, Sto G K φ M S H → RepW G K φ (cut H M) w v → RepW G K φ (cut H M) w2 v2 → PostE G K φ M H (f w w2 S) Q E → r v v2 H Q
def OpL (G : Gv) (K : PySem.W.Frag) (r : List V → Hp → VK → Prop) (f : List W → Store → RW) : Prop := ∀ φ M S H w v Q E, Sto G K φ M S H → RepWL G K φ (cut H M) w v → PostE G K φ M H (f w S) Q E → r v H Q
def OpM (G : Gv) (K : PySem.W.Frag) (r : V → List V → Hp → VK → Prop) (f : W → List W → Store → RW) : Prop := ∀ φ M S H w v ws vs Q E, Sto G K φ M S H → RepW G K φ (cut H M) w v → RepWL G K φ (cut H M) ws vs → PostE G K φ M H (f w ws S) Q E → r v vs H Q
theorem Pure1.op {r : V → Hp → VK → Prop} {g : D → Option D} (h : Pure1 G K r g) : Op1 G K r (v1 g) := fun φ M S H w v Q E s rw_ p => by
  cases w with
  | h n => exact p.elim
  | d x =>
    unfold v1 giveO at p
    cases q : g x with
    | none => simp only [q] at p; exact p.elim
    | some z => simp only [q] at p; exact h H M x z v Q s.dom rw_ q fun v1 H1 g1 r1 => post_grow (w := .d z) p s g1 r1
theorem Pure2.op {r : R2} {g : D → D → Option D} (h : Pure2 G K r g) : Op2 G K r (v2 g) := fun φ M S H w v w2 u Q E s ra rb p => by
  cases w with
  | h n => exact p.elim
  | d x =>
    cases w2 with
    | h n => exact p.elim
    | d y =>
      unfold v2 giveO at p
      cases q : g x y with
      | none => simp only [q] at p; exact p.elim
      | some z => simp only [q] at p; exact h H M x y z v u Q s.dom ra rb q fun v1 H1 g1 r1 => post_grow (w := .d z) p s g1 r1
theorem PureL.op {r : List V → Hp → VK → Prop} {g : List D → Option D} (h : PureL G K r g) : OpL G K r (vL g) := fun φ M S H ws vs Q E s ra p => by
  unfold vL at p
  cases e : dats ws with
  | none => simp only [e] at p; exact p.elim
  | some xs =>
    simp only [e] at p
    unfold giveO at p
    cases q : g xs with
    | none => simp only [q] at p; exact p.elim
    | some z => simp only [q] at p; exact h H M xs z vs Q s.dom (dats_rep ra e) q fun v1 H1 g1 r1 => post_grow (w := .d z) p s g1 r1
theorem PureM.op {r : V → List V → Hp → VK → Prop} {g : D → List D → Option D} (h : PureM G K r g) : OpM G K r (vM g) := fun φ M S H w v ws vs Q E s rw_ ra p => by
  unfold vM at p
  cases w with
  | h n => exact p.elim
  | d x =>
    cases e : dats ws with
    | none => simp only [e] at p; exact p.elim
    | some xs =>
      simp only [e] at p
      unfold giveO at p
      cases q : g x xs with
      | none => simp only [q] at p; exact p.elim
      | some z => simp only [q] at p; exact h H M x xs z v vs Q s.dom rw_ (dats_rep ra e) q fun v1 H1 g1 r1 => post_grow (w := .d z) p s g1 r1
theorem dx_u {r : V → Hp → VK → Prop} {f : W → Store → RW} {ta : TE} {ma : EM} (h : Op1 G K r f) (ha : DEx G K Wx ta ma) : DEx G K Wx (tUn r ta) (eU f ma) := fun φ M ρ S σ H Q s e p =>
  bind_ok ha s e p fun w S1 φ1 M1 H1 v g s1 e1 rw_ p1 => h φ1 M1 S1 H1 w v Q _ s1 rw_ p1
theorem dx_o {r : R2} {f : W → W → Store → RW} {ta tb : TE} {ma mb : EM} (h : Op2 G K r f) (ha : DEx G K Wx ta ma) (hb : DEx G K Wx tb mb) : DEx G K Wx (tOp r ta tb) (eO f ma mb) := fun φ M ρ S σ H Q s e p =>
  bind_ok ha s e p fun w S1 φ1 M1 H1 v g s1 e1 rw_ p1 => bind_ok hb s1 e1 p1 fun w2 S2 φ2 M2 H2 v2 g2 s2 e2 rw2 p2 => h φ2 M2 S2 H2 w v w2 v2 Q _ s2 (rw_.ge g2) rw2 p2
theorem dx_a {r : List V → Hp → VK → Prop} {f : List W → Store → RW} {t : TA} {m : LM} (h : OpL G K r f) (ha : DLx G K Wx t m) : DEx G K Wx (fun σ H Q => t σ H fun vs H1 => r vs H1 Q) (eA f m) := fun φ M ρ S σ H Q s e p =>
  bindL_ok ha s e p fun w S1 φ1 M1 H1 v g s1 e1 rw_ p1 => h φ1 M1 S1 H1 w v Q _ s1 rw_ p1
theorem dlx_nil : DLx G K Wx tNil lN := fun φ M ρ S σ H Q s e p => p φ M H [] s.ge s .nil
theorem dlx_cons {ta : TE} {tr : TA} {ma : EM} {mr : LM} (ha : DEx G K Wx ta ma) (hr : DLx G K Wx tr mr) : DLx G K Wx (tCons ta tr) (lC ma mr) := fun φ M ρ S σ H Q s e p => by
  refine ha φ M ρ S σ H _ s e ?_
  unfold lC at p
  cases q : ma ρ S with
  | exc c fs S1 => rw [q] at p; exact p
  | bad => rw [q] at p; exact p
  | ok w S1 =>
    simp only [q] at p
    refine fun φ1 M1 H1 v g s1 r => hr φ1 M1 ρ S1 σ H1 _ s1 (e.ge g) ?_
    cases q2 : mr ρ S1 with
    | exc c fs S2 => simp only [q2] at p; exact PostX.ge g (show PostX G K φ M H c fs S2 (fun c d H' => Wx c d σ H') from p)
    | bad => simp only [q2] at p; exact p
    | ok ws S2 =>
      simp only [q2] at p
      exact fun φ2 M2 H2 vs g2 s2 rs => p φ2 M2 H2 (v :: vs) (g.trans g2) s2 (.cons (r.ge g2) rs)
end

/-! ### rules for expressions -/
section
variable {X : Cx} {G : Gv} {K : PySem.W.Frag} {Wx : WX} {a b c : Expr} {ta tb tc : TE} {ma mb mc : EM} {pos : Pos}
theorem de_v (i : Nat) {x : Str} (hN : X.N[i]? = some x := by rfl) (hv : Vis X.env.scope x := by first | exact Or.inl rfl | exact Or.inr (Or.inl rfl) | exact Or.inr (Or.inr rfl)) (hd : (x == ("__debug__" : Str)) = false := by decide)
    (hcd : (x == ("__classdict__" : Str)) = false := by decide) : DE X G K Wx (.Name x pos) (tVar i) (eV i) := ⟨pe_var hN hv hd hcd, dx_var⟩
theorem de_int {i j} : DE X G K Wx (.Constant (.int i) j pos) (tC (.int i)) (eC (.int i)) := ⟨pe_int, dx_c fun _ => .int i⟩
theorem de_bl {b j} : DE X G K Wx (.Constant (.bool b) j pos) (tC (.bl b)) (eC (.bl b)) := ⟨pe_bl, dx_c fun _ => .bl b⟩
theorem de_non {j} : DE X G K Wx (.Constant .none j pos) (tC .non) (eC .non) := ⟨pe_non, dx_c fun _ => .non⟩
theorem de_str {x j} : DE X G K Wx (.Constant (.str x) j pos) (tC (.str x)) (eC (.str x)) := ⟨pe_str, dx_c fun _ => .str x⟩
/-- a global that is data -/
theorem de_glob {x : Str} {v : V} {u : Value} {d : D} (hg : Gl X x) (hm : X.mg x = some u) (r : RelV v u) (hr : ∀ H, Rep G K H d v) (hd : (x == ("__debug__" : Str)) = false := by decide) : DE X G K Wx (.Name x pos) (tC v) (eC d) := ⟨pe_glob hg hm r hd, dx_c hr⟩
theorem de_bltn {x : Str} {n : String} (hg : Gl X x) (hm : X.mg x = none) (hv : bootBuiltins x = some (.type n)) (hn : x ≠ "__name__" := by decide) (hd : (x == ("__debug__" : Str)) = false := by decide) : DE X G K Wx (.Name x pos) (tC (.ty n)) (eC (.ty n)) := ⟨pe_bltn (v := .ty n) hg hm hv rfl hn hd, dx_c fun _ => .ty n⟩
theorem de_op {op : Operator} {r : R2} {f : W → W → Store → RW} (ho : OpR X (binaryOp op) r) (h : Op2 G K r f) (ha : DE X G K Wx a ta ma) (hb : DE X G K Wx b tb mb) : DE X G K Wx (.BinOp a op b pos) (tOp r ta tb) (eO f ma mb) := ⟨pe_op ho ha.pe hb.pe, dx_o h ha.dx hb.dx⟩
theorem de_un {op : UnaryOp} {r : V → Hp → VK → Prop} {f : W → Store → RW} (ho : UnR X (unaryOp op) r) (h : Op1 G K r f) (ha : DE X G K Wx a ta ma) : DE X G K Wx (.UnaryOp op a pos) (tUn r ta) (eU f ma) := ⟨pe_un ho ha.pe, dx_u h ha.dx⟩
theorem de_cmp {op : CmpOp} {r : R2} {f : W → W → Store → RW} (ho : OpR X (compareOp op) r) (h : Op2 G K r f) (ha : DE X G K Wx a ta ma) (hb : DE X G K Wx b tb mb) (hm : behindInMarks op b = false) : DE X G K Wx (.Compare a [op] [b] pos) (tOp r ta tb) (eO f ma mb) := ⟨pe_cmpR ho ha.pe hb.pe hm, dx_o h ha.dx hb.dx⟩
theorem de_ix {r : R2} {f : W → W → Store → RW} (hr : IxR X r) (h : Op2 G K r f) (ha : DE X G K Wx a ta ma) (hb : DE X G K Wx b tb mb) (hs : PlainIx b := by exact fun _ _ => rfl) : DE X G K Wx (.Subscript a b pos) (tOp r ta tb) (eO f ma mb) := ⟨pe_ix hr ha.pe hb.pe hs, dx_o h ha.dx hb.dx⟩
theorem da_nil : DA X G K Wx [] tNil lN := ⟨pa_nil, dlx_nil⟩
theorem da_cons {e : Expr} {es : List Expr} {te : TE} {t : TA} {m : EM} {ml : LM} (ha : DE X G K Wx e te m) (hr : DA X G K Wx es t ml) (hs : starEach (e :: es) X.env = (false, eval e X.env) :: starEach es X.env := by rfl) : DA X G K Wx (e :: es) (tCons te t) (lC m ml) := ⟨pa_cons ha.pe hr.pa hs, dlx_cons ha.dx hr.dx⟩
section
variable {x : Str} {p : Pos} {e : Expr} {es : List Expr} {t : TA} {ml : LM} {id T : String} {r : List V → Hp → VK → Prop} {f : List W → Store → RW}
theorem de_callB (hc : CallR X (.builtin id) r) (h : OpL G K r f) (hg : Gl X x) (hm : X.mg x = none) (hv : bootBuiltins x = some (.builtin id)) (ha : DA X G K Wx (e :: es) t ml) (hn : x ≠ "__name__" := by decide) (hdb : (x == ("__debug__" : Str)) = false := by decide)
    (he : starEach (e :: es) X.env = (false, eval e X.env) :: starEach es X.env := by rfl) (hpl : (backTo pos (starEach es X.env)).any (·.1) = false := by rfl) : DE X G K Wx (.Call (.Name x p) (e :: es) [] pos) (tCB r t) (eA f ml) := ⟨pe_callB hc hg hm hv ha.pa hn hdb he hpl, dx_a h ha.dx⟩
theorem de_callTy (hc : CallR X (.type T) r) (h : OpL G K r f) (hg : Gl X x) (hm : X.mg x = none) (hv : bootBuiltins x = some (.type T)) (ha : DA X G K Wx (e :: es) t ml) (hn : x ≠ "__name__" := by decide) (hdb : (x == ("__debug__" : Str)) = false := by decide)
    (he : starEach (e :: es) X.env = (false, eval e X.env) :: starEach es X.env := by rfl) (hpl : (backTo pos (starEach es X.env)).any (·.1) = false := by rfl) : DE X G K Wx (.Call (.Name x p) (e :: es) [] pos) (tCB r t) (eA f ml) := ⟨pe_callTy hc hg hm hv ha.pa hn hdb he hpl, dx_a h ha.dx⟩
end

/-! ### displays -/
def vTup : List D → Option D := fun xs => if xs.length ≤ sizeLine then some (.tup xs) else none
def vLst : List D → Option D := fun xs => if xs.length ≤ sizeLine then some (.lst xs) else none
theorem pure_tup : PureL G K (fun xs H Q => xs.length ≤ sizeLine ∧ ∀ p, H p = none → Q (.ref p) (upd H p (.tup xs))) vTup := fun H M xs z vs Q d r g h => by
  unfold vTup at g
  split at g
  · rename_i hl
    cases g
    refine ⟨by rw [← r.length]; exact hl, fun p hp => h _ _ (grow_upd hp) ?_⟩
    exact .tup (.inl (.inl (new_cut d hp))) (RepL.mono (grow_cut (grow_upd hp)) r)
  · cases g
theorem pure_lst : PureL G K (fun xs H Q => xs.length ≤ sizeLine ∧ ∀ p, H p = none → Q (.ref p) (upd H p (.lst xs))) vLst := fun H M xs z vs Q d r g h => by
  unfold vLst at g
  split at g
  · rename_i hl
    cases g
    refine ⟨by rw [← r.length]; exact hl, fun p hp => h _ _ (grow_upd hp) ?_⟩
    exact .lst (new_cut d hp) (RepL.mono (grow_cut (grow_upd hp)) r)
  · cases g
theorem de_tup {es : List Expr} {t : TA} {ml : LM} {x1} (ha : DA X G K Wx es t ml) : DE X G K Wx (.Tuple es x1 pos) (tTup t) (eL vTup ml) := ⟨pe_tup ha.pa, dx_a pure_tup.op ha.dx⟩
theorem de_lst {es : List Expr} {t : TA} {ml : LM} (ha : DA X G K Wx es t ml) : DE X G K Wx (.List es pos) (tLst t) (eL vLst ml) := ⟨pe_lst ha.pa, dx_a pure_lst.op ha.dx⟩
end

/-! ### tests -/
def eAnd (a b : EM) : EM := fun ρ S => (a ρ S).bind fun w S1 => match w with
  | .d (.bl true) => b ρ S1
  | .d (.bl false) => .ok (.d (.bl false)) S1
  | _ => .bad
def eOr (a b : EM) : EM := fun ρ S => (a ρ S).bind fun w S1 => match w with
  | .d (.bl true) => .ok (.d (.bl true)) S1
  | .d (.bl false) => b ρ S1
  | _ => .bad
def vNot : W → Store → RW := fun w S => match w with
  | .d (.bl b) => .ok (.d (.bl (!b))) S
  | _ => .bad
def eNot (a : EM) : EM := eU vNot a
def eIf (c a b : EM) : EM := fun ρ S => (c ρ S).bind fun w S1 => match w with
  | .d (.bl true) => a ρ S1
  | .d (.bl false) => b ρ S1
  | _ => .bad
section
variable {G : Gv} {K : PySem.W.Frag} {Wx : WX}
theorem bindT_ok {ta : TT} {ma : EM} (ha : DTx G K Wx ta ma) {φ M ρ S σ H} {f : Bool → Store → RW} {P : List Addr → (Addr → Bool) → Hp → RW → Prop} {R : Bool → Hp → Prop} (s : Sto G K φ M S H) (e : EnvR G K φ M H ρ σ) 
    (hx : ∀ c fs S1, ma ρ S = .exc c fs S1 → PostX G K φ M H c fs S1 (fun c d H' => Wx c d σ H')) (hb : ∀ r, ma ρ S = r → (∀ b S1, r ≠ .ok (.d (.bl b)) S1) → (∀ c fs S1, r ≠ .exc c fs S1) → False)
    (h : ∀ b S1 φ1 M1 H1, ma ρ S = .ok (.d (.bl b)) S1 → Ge φ M H φ1 M1 H1 → Sto G K φ1 M1 S1 H1 → EnvR G K φ1 M1 H1 ρ σ → R b H1) : ta σ H R := by
  refine ha φ M ρ S σ H R s e ?_
  cases q : ma ρ S with
  | bad => exact (hb _ q (fun _ _ z => by cases z) (fun _ _ _ z => by cases z)).elim
  | exc c fs S1 => exact hx c fs S1 q
  | ok w S1 =>
    cases w with
    | h n => exact (hb _ q (fun _ _ z => by cases z) (fun _ _ _ z => by cases z)).elim
    | d x =>
      cases x <;> first
        | exact fun φ1 M1 H1 g s1 => h _ S1 φ1 M1 H1 q g s1 (e.ge g)
        | exact (hb _ q (fun _ _ z => by cases z) (fun _ _ _ z => by cases z)).elim
/-- an expression that gives a bool, as a test -/
theorem dtx_val {t : TE} {m : EM} (h : DEx G K Wx t m) : DTx G K Wx (tB t) m := fun φ M ρ S σ H Q s e p => by
  refine h φ M ρ S σ H _ s e ?_
  cases q : m ρ S with
  | bad => rw [q] at p; exact p
  | exc c fs S1 => rw [q] at p; exact p
  | ok w S1 =>
    rw [q] at p
    cases w with
    | h n => exact p.elim
    | d x =>
      cases x with
      | bl b =>
        refine fun φ1 M1 H1 v g s1 r => ?_
        cases r
        exact ⟨b, rfl, p φ1 M1 H1 g s1⟩
      | _ => exact p.elim
theorem dtx_and {t u : TT} {a b : EM} (ha : DTx G K Wx t a) (hb : DTx G K Wx u b) : DTx G K Wx (tAnd t u) (eAnd a b) := fun φ M ρ S σ H Q s e p => by
  refine bindT_ok (f := fun _ _ => .bad) (P := fun _ _ _ _ => True) ha s e (fun c fs S1 q => ?_) (fun r q h1 h2 => ?_) (fun k S1 φ1 M1 H1 q g s1 e1 => ?_)
  · unfold eAnd at p; rw [q] at p; exact p
  · unfold eAnd at p; rw [q] at p
    cases r with
    | bad => exact p
    | exc c fs S1 => exact (h2 _ _ _ rfl).elim
    | ok w S1 => cases w with
      | h n => exact p
      | d x => cases x with
        | bl k => exact (h1 _ _ rfl).elim
        | _ => exact p
  · unfold eAnd at p; rw [q] at p
    cases k with
    | true => rw [if_pos rfl]; exact hb φ1 M1 ρ S1 σ H1 Q s1 e1 (PostT.ge g p)
    | false => rw [if_neg (by decide)]; exact p φ1 M1 H1 g s1
theorem dtx_or {t u : TT} {a b : EM} (ha : DTx G K Wx t a) (hb : DTx G K Wx u b) : DTx G K Wx (tOr t u) (eOr a b) := fun φ M ρ S σ H Q s e p => by
  refine bindT_ok (f := fun _ _ => .bad) (P := fun _ _ _ _ => True) ha s e (fun c fs S1 q => ?_) (fun r q h1 h2 => ?_) (fun k S1 φ1 M1 H1 q g s1 e1 => ?_)
  · unfold eOr at p; rw [q] at p; exact p
  · unfold eOr at p; rw [q] at p
    cases r with
    | bad => exact p
    | exc c fs S1 => exact (h2 _ _ _ rfl).elim
    | ok w S1 => cases w with
      | h n => exact p
      | d x => cases x with
        | bl k => exact (h1 _ _ rfl).elim
        | _ => exact p
  · unfold eOr at p; rw [q] at p
    cases k with
    | true => rw [if_pos rfl]; exact p φ1 M1 H1 g s1
    | false => rw [if_neg (by decide)]; exact hb φ1 M1 ρ S1 σ H1 Q s1 e1 (PostT.ge g p)
theorem dtx_not {t : TT} {a : EM} (ha : DTx G K Wx t a) : DTx G K Wx (tNot t) (eNot a) := fun φ M ρ S σ H Q s e p => by
  refine bindT_ok (f := fun _ _ => .bad) (P := fun _ _ _ _ => True) ha s e (fun c fs S1 q => ?_) (fun r q h1 h2 => ?_) (fun k S1 φ1 M1 H1 q g s1 e1 => ?_)
  · unfold eNot eU at p; rw [q] at p; exact p
  · unfold eNot eU at p; rw [q] at p
    cases r with
    | bad => exact p
    | exc c fs S1 => exact (h2 _ _ _ rfl).elim
    | ok w S1 => cases w with
      | h n => exact p
      | d x => cases x with
        | bl k => exact (h1 _ _ rfl).elim
        | _ => exact p
  · unfold eNot eU at p; rw [q] at p
    exact p φ1 M1 H1 g s1
theorem dx_if {c : TT} {t u : TE} {mc ma mb : EM} (hc : DTx G K Wx c mc) (ha : DEx G K Wx t ma) (hb : DEx G K Wx u mb) : DEx G K Wx (tIf c t u) (eIf mc ma mb) := fun φ M ρ S σ H Q s e p => by
  refine bindT_ok (f := fun _ _ => .bad) (P := fun _ _ _ _ => True) hc s e (fun c fs S1 q => ?_) (fun r q h1 h2 => ?_) (fun k S1 φ1 M1 H1 q g s1 e1 => ?_)
  · unfold eIf at p; rw [q] at p; exact p
  · unfold eIf at p; rw [q] at p
    cases r with
    | bad => exact p
    | exc c fs S1 => exact (h2 _ _ _ rfl).elim
    | ok w S1 => cases w with
      | h n => exact p
      | d x => cases x with
        | bl k => exact (h1 _ _ rfl).elim
        | _ => exact p
  · unfold eIf at p; rw [q] at p
    cases k with
    | true => rw [if_pos rfl]; exact ha φ1 M1 ρ S1 σ H1 Q s1 e1 (PostE.ge g p)
    | false => rw [if_neg (by decide)]; exact hb φ1 M1 ρ S1 σ H1 Q s1 e1 (PostE.ge g p)
/-- and, or, not as values (bools) -/
theorem dx_andV {t u : TE} {a b : EM} (ha : DEx G K Wx t a) (hb : DEx G K Wx u b) : DEx G K Wx (tAndV t u) (eAnd a b) := fun φ M ρ S σ H Q s e p => by
  refine bind_ok ha s e p fun w S1 φ1 M1 H1 v g s1 e1 r p1 => ?_
  cases w with
  | h n => exact p1.elim
  | d x => cases x with
    | bl k =>
      cases r
      refine ⟨k, rfl, ?_⟩
      cases k with
      | true => rw [if_pos rfl]; exact hb φ1 M1 ρ S1 σ H1 Q s1 e1 p1
      | false => rw [if_neg (by decide)]; exact post_ok (w := .d (.bl false)) p1 s1 (.bl false)
    | _ => exact p1.elim
theorem dx_orV {t u : TE} {a b : EM} (ha : DEx G K Wx t a) (hb : DEx G K Wx u b) : DEx G K Wx (tOrV t u) (eOr a b) := fun φ M ρ S σ H Q s e p => by
  refine bind_ok ha s e p fun w S1 φ1 M1 H1 v g s1 e1 r p1 => ?_
  cases w with
  | h n => exact p1.elim
  | d x => cases x with
    | bl k =>
      cases r
      refine ⟨k, rfl, ?_⟩
      cases k with
      | true => rw [if_pos rfl]; exact post_ok (w := .d (.bl true)) p1 s1 (.bl true)
      | false => rw [if_neg (by decide)]; exact hb φ1 M1 ρ S1 σ H1 Q s1 e1 p1
    | _ => exact p1.elim
theorem dx_notV {t : TE} {a : EM} (ha : DEx G K Wx t a) : DEx G K Wx (tNotV t) (eNot a) := fun φ M ρ S σ H Q s e p => by
  refine bind_ok ha s e p fun w S1 φ1 M1 H1 v g s1 e1 r p1 => ?_
  cases w with
  | h n => exact p1.elim
  | d x => cases x with
    | bl k =>
      cases r
      exact ⟨k, rfl, post_ok (w := .d (.bl (!k))) p1 s1 (.bl (!k))⟩
    | _ => exact p1.elim
end
/-- truth of data -/
def truD : D → Option Bool
  | .non => some false
  | .bl b => some b
  | .int i => some (i != 0)
  | .str y => if y.length ≤ sizeLine then some ((y.length : Int) != 0) else none
  | .tup xs => some (!xs.isEmpty)
  | .lst xs => some (!xs.isEmpty)
  | .lsk xs => some (!xs.isEmpty)
  | _ => none
def vTru : W → Store → RW := fun w S => match w with
  | .d x => (match truD x with
    | some b => .ok (.d (.bl b)) S
    | none => .bad)
  | .h _ => .bad
def eTru (a : EM) : EM := eU vTru a
section
variable {X : Cx} {G : Gv} {K : PySem.W.Frag} {Wx : WX} {a b c : Expr} {ta tb tc : TE} {ma mb mc : EM} {pos : Pos}
theorem RepL.empty {H : Hp} {xs : List D} {vs : List V} (r : RepL G K H xs vs) : vs.isEmpty = xs.isEmpty := by
  cases r <;> rfl
theorem tru_rep {H : Hp} {M : Addr → Bool} {x : D} {v : V} {k : Bool} (r : Rep G K (cut H M) x v) (e : truD x = some k) : TruV K v H k := by
  cases r with
  | non => exact (Option.some.inj e).symm
  | bl b => exact (Option.some.inj e).symm
  | int i => exact (Option.some.inj e).symm
  | str y =>
    have e' : (if y.length ≤ sizeLine then some ((y.length : Int) != 0) else none) = some k := e
    by_cases hl : y.length ≤ sizeLine
    · rw [if_pos hl] at e'; exact ⟨hl, (Option.some.inj e').symm⟩
    · rw [if_neg hl] at e'; cases e'
  | tup h t => exact .inr (.inl ⟨_, sqT_mono cut_le h, by rw [RepL.empty t]; exact (Option.some.inj e).symm⟩)
  | lst h t => exact .inl ⟨_, SqL.of (cut_le _ _ h), by rw [RepL.empty t]; exact (Option.some.inj e).symm⟩
  | lsk h t => exact .inl ⟨_, sqL_mono cut_le h, by rw [RepL.empty t]; exact (Option.some.inj e).symm⟩
  | ins hc h e' t => cases e
  | glo k => cases e
  | ty n => cases e
theorem dtx_tru {t : TE} {m : EM} (h : DEx G K Wx t m) : DTx G K Wx (fun σ H Q => t σ H fun x H' => ∃ k, TruV K x H' k ∧ Q k H') (eTru m) := fun φ M ρ S σ H Q s e p => by
  refine h φ M ρ S σ H _ s e ?_
  unfold eTru eU at p
  cases q : m ρ S with
  | bad => rw [q] at p; exact p
  | exc c fs S1 => rw [q] at p; exact p
  | ok w S1 =>
    rw [q] at p
    cases w with
    | h n => exact p.elim
    | d x =>
      simp only [RW.bind, vTru] at p
      cases q2 : truD x with
      | none => simp only [q2] at p; exact p.elim
      | some k =>
        simp only [q2] at p
        exact fun φ1 M1 H1 v g s1 r => ⟨k, tru_rep r q2, p φ1 M1 H1 g s1⟩
theorem dt_val (h : DE X G K Wx a ta ma) (he : ∀ whole, isTrue a X.env whole = (do let v ← whole; standAt a.pos; holding [v] (truthy v)) := by intro _; rfl) : DT X G K Wx a (tB ta) ma := ⟨pt_val h.pe he, dtx_val h.dx⟩
theorem dt_tru (hK : X.K = K) (h : DE X G K Wx a ta ma) (he : ∀ whole, isTrue a X.env whole = (do let v ← whole; standAt a.pos; holding [v] (truthy v)) := by intro _; rfl) : DT X G K Wx a (fun σ H Q => ta σ H fun x H' => ∃ k, TruV K x H' k ∧ Q k H') (eTru ma) := by
  subst hK; exact ⟨pt_truth h.pe he, dtx_tru h.dx⟩
theorem dt_cmp {op : CmpOp} {r : R2} {f : W → W → Store → RW} (ho : OpR X (compareOp op) r) (h : Op2 G K r f) (ha : DE X G K Wx a ta ma) (hb : DE X G K Wx b tb mb) (hm : behindInMarks op b = false) : DT X G K Wx (.Compare a [op] [b] pos) (tTest (tOp r ta tb)) (eO f ma mb) := ⟨pt_cmpR ho ha.pe hb.pe hm, dtx_val (dx_o h ha.dx hb.dx)⟩
structure DW (X : Cx) (G : Gv) (K : PySem.W.Frag) (Wx : WX) (e : Expr) (t : TT) (m : EM) : Prop where
  pw : PW X e t
  dx : DTx G K Wx t m
variable {tA tB' : TT} {rest : List Expr}
theorem dw_and1 (ha : DT X G K Wx a tA ma) : DW X G K Wx (.BoolOp .And [a] pos) tA ma := ⟨pw_and1 ha.pt, ha.dx⟩
theorem dw_or1 (ha : DT X G K Wx a tA ma) : DW X G K Wx (.BoolOp .Or [a] pos) tA ma := ⟨pw_or1 ha.pt, ha.dx⟩
theorem dw_and (ha : DT X G K Wx a tA ma) (hb : DW X G K Wx (.BoolOp .And (b :: rest) pos) tB' mb) : DW X G K Wx (.BoolOp .And (a :: b :: rest) pos) (tAnd tA tB') (eAnd ma mb) := ⟨pw_and ha.pt hb.pw, dtx_and ha.dx hb.dx⟩
theorem dw_or (ha : DT X G K Wx a tA ma) (hb : DW X G K Wx (.BoolOp .Or (b :: rest) pos) tB' mb) : DW X G K Wx (.BoolOp .Or (a :: b :: rest) pos) (tOr tA tB') (eOr ma mb) := ⟨pw_or ha.pt hb.pw, dtx_or ha.dx hb.dx⟩
theorem dt_bool {e : Expr} (h : DW X G K Wx e tA ma) : DT X G K Wx e tA ma := ⟨h.pw.pt, h.dx⟩
theorem dt_not (ha : DT X G K Wx a tA ma) : DT X G K Wx (.UnaryOp .Not a pos) (tNot tA) (eNot ma) := ⟨pt_not ha.pt, dtx_not ha.dx⟩
theorem de_one {op} (h : DE X G K Wx a ta ma) : DE X G K Wx (.BoolOp op [a] pos) ta ma := ⟨pe_one h.pe, h.dx⟩
theorem de_and (ha : DE X G K Wx a ta ma) (hb : DE X G K Wx (.BoolOp .And (b :: rest) pos) tb mb) : DE X G K Wx (.BoolOp .And (a :: b :: rest) pos) (tAndV ta tb) (eAnd ma mb) := ⟨pe_and ha.pe hb.pe, dx_andV ha.dx hb.dx⟩
theorem de_or (ha : DE X G K Wx a ta ma) (hb : DE X G K Wx (.BoolOp .Or (b :: rest) pos) tb mb) : DE X G K Wx (.BoolOp .Or (a :: b :: rest) pos) (tOrV ta tb) (eOr ma mb) := ⟨pe_or ha.pe hb.pe, dx_orV ha.dx hb.dx⟩
theorem de_not (ha : DE X G K Wx a ta ma) : DE X G K Wx (.UnaryOp .Not a pos) (tNotV ta) (eNot ma) := ⟨pe_not ha.pe, dx_notV ha.dx⟩
theorem de_ifE {c : Expr} (hc : DT X G K Wx c tA mc) (ha : DE X G K Wx a ta ma) (hb : DE X G K Wx b tb mb) : DE X G K Wx (.IfExp c a b pos) (tIf tA ta tb) (eIf mc ma mb) := ⟨pe_ifExp hc.pt ha.pe hb.pe, dx_if hc.dx ha.dx hb.dx⟩
end
end DN

namespace DN
open PySem PySem.Spec PyProof.Rows L2

/-! ### data as the library has it -/
mutual
def pyD : D → PyData
  | .non => .none
  | .bl b => .bool b
  | .int i => .int i
  | .str x => .str x
  | .tup xs => .tuple (pyL xs)
  | .lst xs => .list (pyL xs)
  | .lsk _ => .dict []
  | .ins _ _ => .dict []
  | .glo _ => .dict []
  | .ty _ => .dict []
def pyL : List D → List PyData
  | [] => []
  | x :: xs => pyD x :: pyL xs
end
/-- whether it is data through and through, not too deep -/
def okD (x : D) : Bool := SeqAt.shaped (pyD x)
theorem okD_lay {x : D} (h : okD x = true) : (pyD x).canLay0 = true := SeqAt.canLay_of_shaped h
section
variable {G : Gv} {K : PySem.W.Frag} {H H' : Hp}
mutual
theorem Rep.dp : ∀ {d : D} {v : V}, Rep G K H d v → (pyD d).canLay0 = true → Dp K H v (pyD d)
  | _, _, .non, _ => .non
  | _, _, .bl b, _ => .bl b
  | _, _, .int i, _ => .int i
  | _, _, .str x, _ => .str x
  | _, _, .tup h r, e => by
    rw [pyD]
    exact .tup h (RepL.dp r (by simpa [pyD, PyData.canLay0] using e))
  | _, _, .lst h r, e => by
    rw [pyD]
    exact .lst (SqL.of h) (RepL.dp r (by simpa [pyD, PyData.canLay0] using e))
  | _, _, .lsk _ _, e => by simp [pyD, PyData.canLay0] at e
  | _, _, .ins _ _ _ _, e => by simp [pyD, PyData.canLay0] at e
  | _, _, .glo _, e => by simp [pyD, PyData.canLay0] at e
  | _, _, .ty _, e => by simp [pyD, PyData.canLay0] at e
theorem RepL.dp : ∀ {xs : List D} {vs : List V}, RepL G K H xs vs → PyData.canLayAll0 (pyL xs) = true → DpAll K H vs (pyL xs)
  | _, _, .nil, _ => by rw [pyL]; exact .nil
  | _, _, .cons h t, e => by
    rw [pyL, PyData.canLayAll0, Bool.and_eq_true] at e
    rw [pyL]
    exact .cons (Rep.dp h e.1) (RepL.dp t e.2)
end
mutual
theorem Dp.mono' (k : Grow H H') : ∀ {v : V} {d : PyData}, Dp K H v d → Dp K H' v d
  | _, _, .non => .non
  | _, _, .bl b => .bl b
  | _, _, .int i => .int i
  | _, _, .str x => .str x
  | _, _, .lst h a => .lst (sqL_mono k h) (DpAll.mono' k a)
  | _, _, .tup h a => .tup (sqT_mono k h) (DpAll.mono' k a)
theorem DpAll.mono' (k : Grow H H') : ∀ {v : List V} {d : List PyData}, DpAll K H v d → DpAll K H' v d
  | _, _, .nil => .nil
  | _, _, .cons h a => .cons (Dp.mono' k h) (DpAll.mono' k a)
end
theorem Rep.dpc {M : Addr → Bool} {d : D} {v : V} (r : Rep G K (cut H M) d v) (e : okD d = true) : Dp K H v (pyD d) := Dp.mono' cut_le (r.dp (okD_lay e))
end

/-! ### arithmetic -/
def oAdd : D → D → Option D
  | .int i, .int j => some (.int (i + j))
  | .str a, .str b => if a.length + b.length ≤ sizeLine then some (.str (a ++ b)) else none
  | .tup xs, .tup ys => if xs.length + ys.length ≤ sizeLine then some (.tup (xs ++ ys)) else none
  | .lst xs, .lst ys => if xs.length + ys.length ≤ sizeLine then some (.lst (xs ++ ys)) else none
  | _, _ => none
def oSub : D → D → Option D
  | .int i, .int j => some (.int (i - j))
  | _, _ => none
def smallI (i : Int) : Bool := decide (-(2 ^ 64) < i) && decide (i < 2 ^ 64)
def oMul : D → D → Option D
  | .int i, .int j => if smallI i || smallI j then some (.int (i * j)) else none
  | .lst xs, .int k => if decide (0 ≤ k) && decide (k ≤ 1000) && decide (xs.length ≤ 1000) then some (.lst (List.replicate k.toNat xs).flatten) else none
  | .tup xs, .int k => if decide (0 ≤ k) && decide (k ≤ 1000) && decide (xs.length ≤ 1000) && !xs.isEmpty then some (.tup (List.replicate k.toNat xs).flatten) else none
  | _, _ => none
def oFdiv : D → D → Option D
  | .int i, .int j => if decide (0 < j) && decide (j < 1073741824) then some (.int (i / j)) else none
  | _, _ => none
def oMod : D → D → Option D
  | .int i, .int j => if 0 < j then some (.int (i % j)) else none
  | _, _ => none
def oPow : D → D → Option D
  | .int i, .int j => if decide (0 ≤ j) && decide (j ≤ 1000000) && decide (i.natAbs < 2 ^ 64) then some (.int (i ^ j.toNat)) else none
  | _, _ => none
def oNeg : D → Option D
  | .int i => some (.int (-i))
  | _ => none
abbrev rStrCat : R2 := fun x y H Q => ∃ i j, x = .str i ∧ y = .str j ∧ i.length + j.length ≤ sizeLine ∧ Q (.str (i ++ j)) H
abbrev rAdd4 (K : PySem.W.Frag) : R2 := fun x y H Q => ((rI0 (fun i j => .int (i + j)) x y H Q ∨ rStrCat x y H Q) ∨ rCatA K x y H Q) ∨ rCat x y H Q
section
variable {X : Cx} {G : Gv} {K : PySem.W.Frag}
theorem op_add4 (hK : X.K = K) : OpR X (binaryOp .Add) (rAdd4 K) := by subst hK; exact ((op_add.or op_add_str).or op_catA).or op_cat
theorem pure_add : Pure2 G K (rAdd4 K) oAdd := fun H M x y z vx vy Q d rx ry e h => by
  unfold oAdd at e
  split at e
  · cases e; cases rx; cases ry
    exact .inl (.inl (.inl ⟨_, _, rfl, rfl, h _ _ (fun _ _ q => q) (.int _)⟩))
  · split at e
    · rename_i hl
      cases e; cases rx; cases ry
      exact .inl (.inl (.inr ⟨_, _, rfl, rfl, hl, h _ _ (fun _ _ q => q) (.str _)⟩))
    · cases e
  · split at e
    · rename_i xs ys hl
      cases e
      cases rx with
      | @tup a vs _ hx rx =>
        cases ry with
        | @tup b us _ hy ry =>
          refine .inl (.inr ⟨a, b, vs, us, rfl, rfl, sqT_mono cut_le hx, sqT_mono cut_le hy, by rw [← rx.length, ← ry.length]; exact hl, fun z => ?_, fun z1 z2 => ?_, fun z1 z2 p hp => ?_⟩)
          · subst z
            have : xs = [] := by have := rx.length; simpa using this
            subst this
            exact h _ _ (fun _ _ q => q) (.tup hy (by simpa using ry))
          · subst z2
            have : ys = [] := by have := ry.length; simpa using this
            subst this
            exact h _ _ (fun _ _ q => q) (.tup hx (by simpa using rx))
          · exact h _ _ (grow_upd hp) (.tup (.inl (.inl (new_cut d hp))) ((rx.append ry).mono (grow_cut (grow_upd hp))))
    · cases e
  · split at e
    · rename_i xs ys hl
      cases e
      cases rx with
      | @lst a vs _ hx rx =>
        cases ry with
        | @lst b us _ hy ry =>
          exact .inr ⟨a, b, vs, us, rfl, rfl, cut_le _ _ hx, cut_le _ _ hy, by rw [← rx.length, ← ry.length]; exact hl, fun p hp => h _ _ (grow_upd hp) (.lst (new_cut d hp) ((rx.append ry).mono (grow_cut (grow_upd hp))))⟩
    · cases e
  · cases e
theorem pure_sub : Pure2 G K (rI0 fun i j => .int (i - j)) oSub := fun H M x y z vx vy Q d rx ry e h => by
  unfold oSub at e
  split at e
  · cases e; cases rx; cases ry
    exact ⟨_, _, rfl, rfl, h _ _ (fun _ _ q => q) (.int _)⟩
  · cases e
theorem smallI_ok {i : Int} (h : smallI i = true) : -(2 ^ 64) < i ∧ i < 2 ^ 64 := by
  unfold smallI at h
  rw [Bool.and_eq_true] at h
  exact ⟨of_decide_eq_true h.1, of_decide_eq_true h.2⟩
theorem pure_fdiv : Pure2 G K (rI CDiv fun i j => .int (i / j)) oFdiv := fun H M x y z vx vy Q d rx ry e h => by
  unfold oFdiv at e
  split at e
  · split at e
    · rename_i hc
      rw [Bool.and_eq_true] at hc
      cases e; cases rx; cases ry
      exact ⟨_, _, rfl, rfl, ⟨of_decide_eq_true hc.1, of_decide_eq_true hc.2⟩, h _ _ (fun _ _ q => q) (.int _)⟩
    · cases e
  · cases e
theorem pure_mod : Pure2 G K (rI (fun _ j => 0 < j) fun i j => .int (i % j)) oMod := fun H M x y z vx vy Q d rx ry e h => by
  unfold oMod at e
  split at e
  · split at e
    · rename_i hc
      cases e; cases rx; cases ry
      exact ⟨_, _, rfl, rfl, hc, h _ _ (fun _ _ q => q) (.int _)⟩
    · cases e
  · cases e
theorem pure_pow : Pure2 G K (rI CPow fun i j => .int (i ^ j.toNat)) oPow := fun H M x y z vx vy Q d rx ry e h => by
  unfold oPow at e
  split at e
  · split at e
    · rename_i hc
      rw [Bool.and_eq_true, Bool.and_eq_true] at hc
      cases e; cases rx; cases ry
      exact ⟨_, _, rfl, rfl, ⟨of_decide_eq_true hc.1.1, of_decide_eq_true hc.1.2, of_decide_eq_true hc.2⟩, h _ _ (fun _ _ q => q) (.int _)⟩
    · cases e
  · cases e
theorem pure_neg : Pure1 G K (rU fun i => .int (-i)) oNeg := fun H M x z vx Q d rx e h => by
  unfold oNeg at e
  split at e
  · cases e; cases rx
    exact ⟨_, rfl, h _ _ (fun _ _ q => q) (.int _)⟩
  · cases e
end

/-! ### comparisons -/
def oEq (x y : D) : Option D := if okD x && okD y then some (.bl (PyData.eqv (pyD x) (pyD y))) else none
def oNe (x y : D) : Option D := if okD x && okD y then some (.bl (!PyData.eqv (pyD x) (pyD y))) else none
def isNon : D → Bool
  | .non => true
  | _ => false
def oIsN : D → D → Option D
  | x, .non => some (.bl (isNon x))
  | _, _ => none
def oNotN : D → D → Option D
  | x, .non => some (.bl (!isNon x))
  | _, _ => none
def oLt : D → D → Option D
  | .int i, .int j => some (.bl (decide (i < j)))
  | _, _ => none
def oGt : D → D → Option D
  | .int i, .int j => some (.bl (decide (j < i)))
  | _, _ => none
def oGe : D → D → Option D
  | .int i, .int j => some (.bl (decide (j ≤ i)))
  | _, _ => none
/-- <=: numbers; data that are alike -/
def oLe : D → D → Option D
  | .int i, .int j => some (.bl (decide (i ≤ j)))
  | .tup xs, .tup ys => if okD (.tup xs) && okD (.tup ys) && PySem.W.alike (pyD (.tup xs)) (pyD (.tup ys)) then some (.bl (!PySem.W.dataLt (pyD (.tup ys)) (pyD (.tup xs)))) else none
  | _, _ => none
def oIn : D → D → Option D
  | x, .tup ys => if okD x && okD (.tup ys) then some (.bl ((pyL ys).any fun z => PyData.eqv z (pyD x))) else none
  | x, .lst ys => if okD x && okD (.lst ys) then some (.bl ((pyL ys).any fun z => PyData.eqv z (pyD x))) else none
  | .str a, .str b => some (.bl (!(Builtin.Str.occurrences b a 0 b.length 1).isEmpty))
  | _, _ => none
def oNotIn : D → D → Option D
  | x, .tup ys => if okD x && okD (.tup ys) then some (.bl (!(pyL ys).any fun z => PyData.eqv z (pyD x))) else none
  | x, .lst ys => if okD x && okD (.lst ys) then some (.bl (!(pyL ys).any fun z => PyData.eqv z (pyD x))) else none
  | _, _ => none
def rLeD (K : PySem.W.Frag) : R2 := fun x y H Q => ∃ d e, Dp K H x d ∧ Dp K H y e ∧ SeqAt.shaped d = true ∧ SeqAt.shaped e = true ∧ PySem.W.alike d e = true ∧ d ≠ .none ∧ Q (.bl (!PySem.W.dataLt e d)) H
def rInT (K : PySem.W.Frag) : R2 := fun x y H Q => ∃ d ds, Dp K H x d ∧ Dp K H y (.tuple ds) ∧ SeqAt.shaped d = true ∧ SeqAt.shaped (.tuple ds) = true ∧ Q (.bl (ds.any fun z => PyData.eqv z d)) H
def rNotInT (K : PySem.W.Frag) : R2 := fun x y H Q => ∃ d ds, Dp K H x d ∧ Dp K H y (.tuple ds) ∧ SeqAt.shaped d = true ∧ SeqAt.shaped (.tuple ds) = true ∧ Q (.bl (!ds.any fun z => PyData.eqv z d)) H
abbrev rInStr : R2 := fun x y H Q => ∃ i j, x = .str i ∧ y = .str j ∧ Q (.bl (!(Builtin.Str.occurrences j i 0 j.length 1).isEmpty)) H
abbrev rIn3 (K : PySem.W.Frag) : R2 := fun x y H Q => (rInT K x y H Q ∨ rInD K x y H Q) ∨ rInStr x y H Q
abbrev rNotIn2 (K : PySem.W.Frag) : R2 := fun x y H Q => rNotInT K x y H Q ∨ rNotInD K x y H Q
abbrev rLe2 (K : PySem.W.Frag) : R2 := fun x y H Q => rI0 (fun i j => .bl (decide (i ≤ j))) x y H Q ∨ rLeD K x y H Q
section
variable {X : Cx} {G : Gv} {K : PySem.W.Frag}
theorem op_leD (hu : X.A.units + 100 < cLine) : OpR X (compareOp .LtE) (rLeD X.K) := by
  intro pins s σ H x y v u Q I rx ry h
  obtain ⟨d, e, hd, he, sd, se, al, hn, q⟩ := h
  obtain ⟨as, r1⟩ := Dp.reads I d x v hd rx
  obtain ⟨bs, r2⟩ := Dp.reads I e y u he ry
  have h1 := SeqAt.depth_of_shaped sd
  exact PySem.W.le_data r1 r2 al hn (by have := Nat.min_le_left d.depth e.depth; omega) ⟨.bl _, H, I, rfl, q⟩
theorem op_inT (hu : X.A.units + 65 < cLine) : OpR X (compareOp .In) (rInT X.K) := by
  intro pins s σ H x y v u Q I rx ry h
  obtain ⟨d, ds, hd, he, sd, se, q⟩ := h
  obtain ⟨as, r1⟩ := Dp.reads I d x v hd rx
  obtain ⟨bs, r2⟩ := Dp.reads I (.tuple ds) y u he ry
  exact SeqAt.in_tuple_reads r2 r1 (SeqAt.canLay_of_shaped se) (SeqAt.canLay_of_shaped sd) (room_in_shaped sd hu) ⟨.bl _, H, I, rfl, q⟩
theorem op_notInT (hu : X.A.units + 65 < cLine) : OpR X (compareOp .NotIn) (rNotInT X.K) := by
  intro pins s σ H x y v u Q I rx ry h
  obtain ⟨d, ds, hd, he, sd, se, q⟩ := h
  obtain ⟨as, r1⟩ := Dp.reads I d x v hd rx
  obtain ⟨bs, r2⟩ := Dp.reads I (.tuple ds) y u he ry
  exact SeqAt.notIn_tuple_reads r2 r1 (SeqAt.canLay_of_shaped se) (SeqAt.canLay_of_shaped sd) (room_in_shaped sd hu) ⟨.bl _, H, I, rfl, q⟩
theorem op_in3 (hK : X.K = K) (hu : X.A.units + 100 < cLine) : OpR X (compareOp .In) (rIn3 K) := by subst hK; exact ((op_inT (by omega)).or (op_inD (by omega))).or op_in_str
theorem op_notIn2 (hK : X.K = K) (hu : X.A.units + 100 < cLine) : OpR X (compareOp .NotIn) (rNotIn2 K) := by subst hK; exact (op_notInT (by omega)).or (op_notInD (by omega))
theorem op_le2 (hK : X.K = K) (hu : X.A.units + 100 < cLine) : OpR X (compareOp .LtE) (rLe2 K) := by subst hK; exact op_le.or (op_leD hu)
theorem op_eqD' (hK : X.K = K) (hu : X.A.units + 100 < cLine) : OpR X (compareOp .Eq) (rEqD K) := by subst hK; exact op_eqD (by omega)
theorem op_neD' (hK : X.K = K) (hu : X.A.units + 100 < cLine) : OpR X (compareOp .NotEq) (rNeD K) := by subst hK; exact op_neD (by omega)
theorem pure_eq : Pure2 G K (rEqD K) oEq := fun H M x y z vx vy Q d rx ry e h => by
  unfold oEq at e
  split at e
  · rename_i hc
    rw [Bool.and_eq_true] at hc
    cases e
    exact ⟨_, _, rx.dpc hc.1, ry.dpc hc.2, hc.1, hc.2, h _ _ (fun _ _ q => q) (.bl _)⟩
  · cases e
theorem pure_ne : Pure2 G K (rNeD K) oNe := fun H M x y z vx vy Q d rx ry e h => by
  unfold oNe at e
  split at e
  · rename_i hc
    rw [Bool.and_eq_true] at hc
    cases e
    exact ⟨_, _, rx.dpc hc.1, ry.dpc hc.2, hc.1, hc.2, h _ _ (fun _ _ q => q) (.bl _)⟩
  · cases e
theorem rep_isN {H : Hp} {x : D} {v : V} (r : Rep G K H x v) : decide (v = .non) = isNon x := by
  cases r <;> first | rfl | simp [isNon]
theorem pure_isN : Pure2 G K (fun x y H Q => y = .non ∧ Q (.bl (decide (x = .non))) H) oIsN := fun H M x y z vx vy Q d rx ry e h => by
  have q := rep_isN rx
  unfold oIsN at e
  split at e
  · cases e; cases ry
    refine ⟨rfl, ?_⟩
    rw [q]; exact h _ _ (fun _ _ q => q) (.bl _)
  · cases e
theorem pure_notN : Pure2 G K (fun x y H Q => y = .non ∧ Q (.bl (!decide (x = .non))) H) oNotN := fun H M x y z vx vy Q d rx ry e h => by
  have q := rep_isN rx
  unfold oNotN at e
  split at e
  · cases e; cases ry
    refine ⟨rfl, ?_⟩
    rw [q]; exact h _ _ (fun _ _ q => q) (.bl _)
  · cases e
theorem pure_lt : Pure2 G K (rI0 fun i j => .bl (decide (i < j))) oLt := fun H M x y z vx vy Q d rx ry e h => by
  unfold oLt at e
  split at e
  · cases e; cases rx; cases ry
    exact ⟨_, _, rfl, rfl, h _ _ (fun _ _ q => q) (.bl _)⟩
  · cases e
theorem pure_gt : Pure2 G K (rI0 fun i j => .bl (decide (j < i))) oGt := fun H M x y z vx vy Q d rx ry e h => by
  unfold oGt at e
  split at e
  · cases e; cases rx; cases ry
    exact ⟨_, _, rfl, rfl, h _ _ (fun _ _ q => q) (.bl _)⟩
  · cases e
theorem pure_ge : Pure2 G K (rI0 fun i j => .bl (decide (j ≤ i))) oGe := fun H M x y z vx vy Q d rx ry e h => by
  unfold oGe at e
  split at e
  · cases e; cases rx; cases ry
    exact ⟨_, _, rfl, rfl, h _ _ (fun _ _ q => q) (.bl _)⟩
  · cases e
theorem pure_le : Pure2 G K (rLe2 K) oLe := fun H M x y z vx vy Q d rx ry e h => by
  unfold oLe at e
  split at e
  · cases e; cases rx; cases ry
    exact .inl ⟨_, _, rfl, rfl, h _ _ (fun _ _ q => q) (.bl _)⟩
  · split at e
    · rename_i hc
      rw [Bool.and_eq_true, Bool.and_eq_true] at hc
      cases e
      exact .inr ⟨_, _, rx.dpc hc.1.1, ry.dpc hc.1.2, hc.1.1, hc.1.2, hc.2, by simp [pyD], h _ _ (fun _ _ q => q) (.bl _)⟩
    · cases e
  · cases e
theorem pure_in : Pure2 G K (rIn3 K) oIn := fun H M x y z vx vy Q d rx ry e h => by
  unfold oIn at e
  split at e
  · split at e
    · rename_i ys hc
      rw [Bool.and_eq_true] at hc
      cases e
      have h2 := ry.dpc hc.2
      have h3 : SeqAt.shaped (pyD (.tup ys)) = true := hc.2
      rw [pyD] at h2 h3
      exact .inl (.inl ⟨_, _, rx.dpc hc.1, h2, hc.1, h3, h _ _ (fun _ _ q => q) (.bl _)⟩)
    · cases e
  · split at e
    · rename_i ys hc
      rw [Bool.and_eq_true] at hc
      cases e
      have h2 := ry.dpc hc.2
      have h3 : SeqAt.shaped (pyD (.lst ys)) = true := hc.2
      rw [pyD] at h2 h3
      exact .inl (.inr ⟨_, _, rx.dpc hc.1, h2, hc.1, h3, h _ _ (fun _ _ q => q) (.bl _)⟩)
    · cases e
  · cases e; cases rx; cases ry
    exact .inr ⟨_, _, rfl, rfl, h _ _ (fun _ _ q => q) (.bl _)⟩
  · cases e
theorem pure_notIn : Pure2 G K (rNotIn2 K) oNotIn := fun H M x y z vx vy Q d rx ry e h => by
  unfold oNotIn at e
  split at e
  · split at e
    · rename_i ys hc
      rw [Bool.and_eq_true] at hc
      cases e
      have h2 := ry.dpc hc.2
      have h3 : SeqAt.shaped (pyD (.tup ys)) = true := hc.2
      rw [pyD] at h2 h3
      exact .inl ⟨_, _, rx.dpc hc.1, h2, hc.1, h3, h _ _ (fun _ _ q => q) (.bl _)⟩
    · cases e
  · split at e
    · rename_i ys hc
      rw [Bool.and_eq_true] at hc
      cases e
      have h2 := ry.dpc hc.2
      have h3 : SeqAt.shaped (pyD (.lst ys)) = true := hc.2
      rw [pyD] at h2 h3
      exact .inr ⟨_, _, rx.dpc hc.1, h2, hc.1, h3, h _ _ (fun _ _ q => q) (.bl _)⟩
    · cases e
  · cases e
end
/-! ### subscripts, slices -/
def atD (xs : List D) (i : Int) : Option D := atI xs i
def oIx : D → D → Option D
  | .tup xs, .int i => atI xs i
  | .lst xs, .int i => atI xs i
  | .lsk xs, .int i => atI xs i
  | .str z, .int i => if z.length ≤ sizeLine then (atI z.cps.toList i).map fun c => .str ⟨#[c]⟩ else none
  | _, _ => none
section
variable {X : Cx} {G : Gv} {K : PySem.W.Frag}
theorem RepL.atI {H : Hp} {xs : List D} {vs : List V} {i : Int} {z : D} (r : RepL G K H xs vs) (e : L2.atI xs i = some z) : ∃ v, L2.atI vs i = some v ∧ Rep G K H z v := by
  unfold L2.atI at e ⊢
  rw [← r.length]
  cases q : ixN xs.length i with
  | none => rw [q] at e; cases e
  | some j =>
    rw [q] at e
    exact r.get e
theorem pure_ix : Pure2 G K (rIx K) oIx := fun H M x y z vx vy Q d rx ry e h => by
  unfold oIx at e
  split at e
  · cases ry
    cases rx with
    | tup hx r =>
      obtain ⟨v, h1, h2⟩ := r.atI e
      exact .inr (.inl ⟨_, _, _, v, rfl, rfl, sqT_mono cut_le hx, h1, h _ _ (fun _ _ q => q) h2⟩)
  · cases ry
    cases rx with
    | lst hx r =>
      obtain ⟨v, h1, h2⟩ := r.atI e
      exact .inl ⟨_, _, _, v, rfl, rfl, SqL.of (cut_le _ _ hx), h1, h _ _ (fun _ _ q => q) h2⟩
  · cases ry
    cases rx with
    | lsk hx r =>
      obtain ⟨v, h1, h2⟩ := r.atI e
      exact .inl ⟨_, _, _, v, rfl, rfl, sqL_mono cut_le hx, h1, h _ _ (fun _ _ q => q) h2⟩
  · split at e
    · rename_i hl
      cases ry; cases rx
      obtain ⟨c, h1, h2⟩ := Option.map_eq_some_iff.mp e
      subst h2
      exact .inr (.inr ⟨_, _, c, rfl, rfl, hl, h1, h _ _ (fun _ _ q => q) (.str _)⟩)
    · cases e
  · cases e
theorem ix_seq' (hK : X.K = K) : IxR X (rIx K) := by subst hK; exact ix_seq
/-- a slice's bounds -/
def cutD (xs : List D) (lo hi : Option Int) : List D := (xs.drop (HT.sIx xs.length 0 lo)).take (HT.sIx xs.length xs.length hi - HT.sIx xs.length 0 lo)
def oSl : D → Option Int → Option Int → Option D
  | .tup xs, lo, hi => some (.tup (cutD xs lo hi))
  | .lst xs, lo, hi => some (.lst (cutD xs lo hi))
  | .lsk xs, lo, hi => some (.lst (cutD xs lo hi))
  | .str z, lo, hi => if z.length ≤ sizeLine then some (.str (cutS z lo hi)) else none
  | _, _, _ => none
theorem RepL.cut {H : Hp} {xs : List D} {vs : List V} (r : RepL G K H xs vs) (lo hi : Option Int) : RepL G K H (cutD xs lo hi) (cutV vs lo hi) := by
  unfold cutD cutV
  rw [← r.length]
  exact (r.drop _).take _
abbrev rSl3 (K : PySem.W.Frag) : V → Option Int → Option Int → Hp → VK → Prop := fun x lo hi H Q => (rSlA K x lo hi H Q ∨ rSlL K x lo hi H Q) ∨ rSlS x lo hi H Q
theorem cut_whole {xs : List D} {lo hi : Option Int} (h : HT.sIx xs.length 0 lo = 0 ∧ HT.sIx xs.length xs.length hi = xs.length) : cutD xs lo hi = xs := by
  unfold cutD
  rw [h.1, h.2]
  simp
theorem pure_sl {H : Hp} {M : Addr → Bool} {x z : D} {lo hi : Option Int} {vx : V} {Q : VK} (d : Dom M H) (rx : Rep G K (DN.cut H M) x vx) (e : oSl x lo hi = some z) (h : ∀ v H1, Grow H H1 → Rep G K (DN.cut H1 M) z v → Q v H1) : rSl3 K vx lo hi H Q := by
  unfold oSl at e
  split at e
  · cases e
    cases rx with
    | tup hx r =>
      refine .inl (.inl ⟨_, _, rfl, sqT_mono cut_le hx, fun w => ?_, fun _ p hp => h _ _ (grow_upd hp) (.tup (.inl (.inl (new_cut d hp))) ((r.cut lo hi).mono (grow_cut (grow_upd hp))))⟩)
      rw [← r.length] at w
      rw [cut_whole w] at h
      exact h _ _ (fun _ _ q => q) (.tup hx r)
  · cases e
    cases rx with
    | lst hx r => exact .inl (.inr ⟨_, _, rfl, SqL.of (cut_le _ _ hx), fun p hp => h _ _ (grow_upd hp) (.lst (new_cut d hp) ((r.cut lo hi).mono (grow_cut (grow_upd hp))))⟩)
  · cases e
    cases rx with
    | lsk hx r => exact .inl (.inr ⟨_, _, rfl, sqL_mono cut_le hx, fun p hp => h _ _ (grow_upd hp) (.lst (new_cut d hp) ((r.cut lo hi).mono (grow_cut (grow_upd hp))))⟩)
  · split at e
    · rename_i hl
      cases e; cases rx
      exact .inr ⟨_, rfl, hl, h _ _ (fun _ _ q => q) (.str _)⟩
    · cases e
  · cases e
theorem sl3 (hK : X.K = K) : SlR X (rSl3 K) := by subst hK; exact (sl_tupA.or sl_list).or sl_str
/-- a part of a slice: none, or what an expression gives -/
inductive RO where
  | ok (o : Option Int) (S : Store) | exc (c : Nat) (fs : List (Str × D)) (S : Store) | bad
def pNone : Env → Store → RO := fun _ S => .ok none S
def pSome (m : EM) : Env → Store → RO := fun ρ S => match m ρ S with
  | .ok (.d (.int i)) S' => .ok (some i) S'
  | .exc c fs S' => .exc c fs S'
  | _ => .bad
def eSl (m : EM) (lo hi : Env → Store → RO) : EM := fun ρ S => (m ρ S).bind fun w S1 => match lo ρ S1 with
  | .bad => .bad
  | .exc c fs S' => .exc c fs S'
  | .ok l S2 => (match hi ρ S2 with
    | .bad => .bad
    | .exc c fs S' => .exc c fs S'
    | .ok u S3 => (match w with
      | .d x => giveO (oSl x l u) S3
      | .h _ => .bad))
def PostO (G : Gv) (K : PySem.W.Frag) (φ : List Addr) (M : Addr → Bool) (H : Hp) (r : RO) (Q : Option Int → Hp → Prop) (E : XK) : Prop := match r with
  | .ok o S' => ∀ φ' M' H', Ge φ M H φ' M' H' → Sto G K φ' M' S' H' → Q o H'
  | .exc c fs S' => PostX G K φ M H c fs S' E
  | .bad => False
def DOx (G : Gv) (K : PySem.W.Frag) (Wx : WX) (t : TO) (m : Env → Store → RO) : Prop := ∀ φ M ρ S σ H Q, Sto G K φ M S H → EnvR G K φ M H ρ σ → PostO G K φ M H (m ρ S) Q (fun c d H' => Wx c d σ H') → t σ H Q
structure DO (X : Cx) (G : Gv) (K : PySem.W.Frag) (Wx : WX) (e : Option Expr) (t : TO) (m : Env → Store → RO) : Prop where
  po : PO X e t
  dx : DOx G K Wx t m
variable {Wx : WX}
theorem dp_none : DO X G K Wx none tNoPart pNone := ⟨po_none, fun φ M ρ S σ H Q s e p => p φ M H s.ge s⟩
theorem dp_some {e : Expr} {t : TE} {m : EM} (h : DE X G K Wx e t m) : DO X G K Wx (some e) (tPart t) (pSome m) := ⟨po_some h.pe, fun φ M ρ S σ H Q s e p => by
  refine h.dx φ M ρ S σ H _ s e ?_
  unfold pSome at p
  cases q : m ρ S with
  | bad => simp only [q] at p; exact p
  | exc c fs S1 => simp only [q] at p; exact p
  | ok w S1 =>
    cases w with
    | h n => simp only [q] at p; exact p.elim
    | d x =>
      cases x with
      | int i =>
        simp only [q] at p
        refine fun φ1 M1 H1 v g s1 r => ?_
        cases r
        exact ⟨i, rfl, p φ1 M1 H1 g s1⟩
      | _ => simp only [q] at p; exact p.elim⟩
theorem PostO.ge {φ φ1 : List Addr} {M M1 : Addr → Bool} {H H1 : Hp} {r : RO} {Q : Option Int → Hp → Prop} {E : XK} (g : Ge φ M H φ1 M1 H1) (p : PostO G K φ M H r Q E) : PostO G K φ1 M1 H1 r Q E := by
  cases r with
  | ok o S => exact fun φ' M' H' g' => p φ' M' H' (g.trans g')
  | exc c fs S => exact PostX.ge g p
  | bad => exact p
theorem de_sl {e : Expr} {te : TE} {m : EM} {lo hi : Option Expr} {tl th : TO} {ml mh : Env → Store → RO} {pos p2 : Pos} (hK : X.K = K) (he : DE X G K Wx e te m) (hl : DO X G K Wx lo tl ml) (hh : DO X G K Wx hi th mh) : DE X G K Wx (.Subscript e (.Slice lo hi none p2) pos) (tSl (rSl3 K) te tl th) (eSl m ml mh) := ⟨pe_slice (sl3 hK) he.pe hl.po hh.po, fun φ M ρ S σ H Q s e p => by
  refine bind_ok he.dx s e p fun w S1 φ1 M1 H1 v g s1 e1 r p1 => ?_
  refine hl.dx φ1 M1 ρ S1 σ H1 _ s1 e1 ?_
  cases q : ml ρ S1 with
  | bad => simp only [q] at p1; exact p1
  | exc c fs S' => simp only [q] at p1; exact p1
  | ok l S2 =>
    simp only [q] at p1
    refine fun φ2 M2 H2 g2 s2 => hh.dx φ2 M2 ρ S2 σ H2 _ s2 (e1.ge g2) ?_
    cases q2 : mh ρ S2 with
    | bad => simp only [q2] at p1; exact p1
    | exc c fs S' => simp only [q2] at p1; exact PostX.ge g2 (show PostX G K φ1 M1 H1 c fs S' (fun c d H' => Wx c d σ H') from p1)
    | ok u S3 =>
      simp only [q2] at p1
      refine fun φ3 M3 H3 g3 s3 => ?_
      cases w with
      | h n => exact p1.elim
      | d x =>
        have r3 : Rep G K (DN.cut H3 M3) x v := RepW.ge (w := .d x) (g2.trans g3) r
        simp only at p1
        unfold giveO at p1
        cases q3 : oSl x l u with
        | none => simp only [q3] at p1; exact p1.elim
        | some z =>
          simp only [q3] at p1
          exact pure_sl s3.dom r3 q3 fun v' H' g' r' => post_grow (w := .d z) (PostE.ge (g2.trans g3) p1) s3 g' r'⟩
end
end DN

namespace DN
open PySem PySem.Spec PyProof.Rows L2

/-! ### built-in functions -/
def cellL (S : Store) (n : Nat) : Option (List D) := match S[n]? with
  | some (.lst xs) => some xs
  | _ => none
def lenD : D → Option Nat
  | .str y => if y.length ≤ sizeLine then some y.length else none
  | .tup xs => some xs.length
  | .lst xs => some xs.length
  | .lsk xs => some xs.length
  | _ => none
def wLen : List W → Store → RW := fun ws S => match ws with
  | [.d x] => (match lenD x with
    | some n => .ok (.d (.int n)) S
    | none => .bad)
  | [.h n] => (match cellL S n with
    | some xs => .ok (.d (.int xs.length)) S
    | none => .bad)
  | _ => .bad
def oInt : List D → Option D
  | [.int i] => some (.int i)
  | [.bl b] => some (.int (if b then 1 else 0))
  | [.str a] => (match PySem.intText? a with
    | some n => if a.length ≤ 640 then some (.int n) else none
    | none => none)
  | _ => none
def oStr : List D → Option D
  | [.int i] => if i.natAbs.log2 < 1920 then some (.str (toString i)) else none
  | [.str a] => some (.str a)
  | _ => none
def oTuple : List D → Option D
  | [.lst xs] => some (.tup xs)
  | [.tup xs] => some (.tup xs)
  | _ => none
def oList : List D → Option D
  | [.lst xs] => some (.lst xs)
  | [.tup xs] => some (.lst xs)
  | _ => none
def oAbs : List D → Option D
  | [.int i] => some (.int (if i < 0 then -i else i))
  | _ => none
def oMin : List D → Option D
  | [.int i, .int j] => some (.int (if j < i then j else i))
  | _ => none
def oMax : List D → Option D
  | [.int i, .int j] => some (.int (if j > i then j else i))
  | _ => none
def oDivmod : List D → Option D
  | [.int i, .int j] => if decide (0 < j) && decide (j < 1073741824) then some (.tup [.int (i / j), .int (i % j)]) else none
  | _ => none
def blsD : List D → Option (List Bool)
  | [] => some []
  | .bl b :: r => (blsD r).map (b :: ·)
  | _ :: _ => none
def oAll : List D → Option D
  | [.lst xs] => (blsD xs).map fun bs => .bl (bs.all id)
  | _ => none
def oAny : List D → Option D
  | [.lst xs] => (blsD xs).map fun bs => .bl (bs.any id)
  | _ => none
section
variable {X : Cx} {G : Gv} {K : PySem.W.Frag}
theorem call_len' (hK : X.K = K) : CallR X (.builtin "len") (fun xs H Q => ∃ x n, xs = [x] ∧ LenV K x H n ∧ Q (.int n) H) := by subst hK; exact call_len
theorem op_len : OpL G K (fun xs H Q => ∃ x n, xs = [x] ∧ LenV K x H n ∧ Q (.int n) H) wLen := fun φ M S H ws vs Q E s r p => by
  unfold wLen at p
  split at p
  · rename_i x
    cases r with
    | cons r1 r2 =>
      cases r2
      have r1 : Rep G K (cut H M) x _ := r1
      cases q : lenD x with
      | none => simp only [q] at p; exact p.elim
      | some n =>
        simp only [q] at p
        unfold lenD at q
        split at q
        · split at q
          · rename_i hl
            cases q; cases r1
            exact ⟨_, _, rfl, ⟨hl, rfl⟩, post_ok p s (.int _)⟩
          · cases q
        · cases q
          cases r1 with
          | tup h t => exact ⟨_, _, rfl, .inr ⟨_, sqT_mono cut_le h, t.length⟩, post_ok p s (.int _)⟩
        · cases q
          cases r1 with
          | lst h t => exact ⟨_, _, rfl, .inl ⟨_, SqL.of (cut_le _ _ h), t.length⟩, post_ok p s (.int _)⟩
        · cases q
          cases r1 with
          | lsk h t => exact ⟨_, _, rfl, .inl ⟨_, sqL_mono cut_le h, t.length⟩, post_ok p s (.int _)⟩
        · cases q
  · rename_i n
    cases r with
    | cons r1 r2 =>
      cases r2
      obtain ⟨a, ha, rfl⟩ := r1
      unfold cellL at p
      cases q : S[n]? with
      | none => simp only [q] at p; exact p.elim
      | some c =>
        cases c with
        | lst xs =>
          simp only [q] at p
          obtain ⟨m, us, hl, t⟩ := s.cells n _ a q ha
          exact ⟨_, _, rfl, .inl ⟨_, SqL.of hl, t.length⟩, post_ok p s (.int _)⟩
        | _ => simp only [q] at p; exact p.elim
  · exact p.elim
abbrev rInt : List V → Hp → VK → Prop := fun xs H Q => ((∃ i, xs = [.int i] ∧ Q (.int i) H) ∨ ∃ k, xs = [.bl k] ∧ Q (.int (if k then 1 else 0)) H) ∨ (∃ a n, xs = [.str a] ∧ PySem.intText? a = some n ∧ a.length ≤ 640 ∧ Q (.int n) H)
theorem CallR.or' {f : Value} {r r' : List V → Hp → VK → Prop} (h : CallR X f r) (h' : CallR X f r') : CallR X f (fun xs H Q => r xs H Q ∨ r' xs H Q) := fun pins s σ H xs us Q I v p => p.elim (h pins s σ H xs us Q I v) (h' pins s σ H xs us Q I v)
theorem call_int' : CallR X (.type "int") rInt := CallR.or' call_int1 call_int_str
theorem pure_int : PureL G K rInt oInt := fun H M xs z vs Q d r e h => by
  unfold oInt at e
  split at e
  · cases e; cases r with | cons r1 r2 => cases r2; cases r1; exact .inl (.inl ⟨_, rfl, h _ _ (fun _ _ q => q) (.int _)⟩)
  · cases e; cases r with | cons r1 r2 => cases r2; cases r1; exact .inl (.inr ⟨_, rfl, h _ _ (fun _ _ q => q) (.int _)⟩)
  · split at e
    · rename_i n hn
      split at e
      · rename_i hl
        cases e; cases r with | cons r1 r2 => cases r2; cases r1; exact .inr ⟨_, _, rfl, hn, hl, h _ _ (fun _ _ q => q) (.int _)⟩
      · cases e
    · cases e
  · cases e
abbrev rStr : List V → Hp → VK → Prop := fun xs H Q => (∃ i : Int, xs = [.int i] ∧ i.natAbs.log2 < 1920 ∧ Q (.str (toString i)) H) ∨ (∃ a, xs = [.str a] ∧ Q (.str a) H)
theorem call_str' : CallR X (.type "str") rStr := CallR.or' call_str_int SkE.call_str_str
theorem pure_str : PureL G K rStr oStr := fun H M xs z vs Q d r e h => by
  unfold oStr at e
  split at e
  · split at e
    · rename_i hl
      cases e; cases r with | cons r1 r2 => cases r2; cases r1; exact .inl ⟨_, rfl, hl, h _ _ (fun _ _ q => q) (.str _)⟩
    · cases e
  · cases e; cases r with | cons r1 r2 => cases r2; cases r1; exact .inr ⟨_, rfl, h _ _ (fun _ _ q => q) (.str _)⟩
  · cases e
abbrev rTupleOf (K : PySem.W.Frag) : List V → Hp → VK → Prop := fun xs H Q => ∃ p ys, xs = [.ref p] ∧ ((SqL K H p ys ∧ ∀ l, H l = none → Q (.ref l) (upd H l (.tup ys))) ∨ (SqT K H p ys ∧ Q (.ref p) H))
theorem call_tuple' (hK : X.K = K) : CallR X (.type "tuple") (rTupleOf K) := by subst hK; exact call_tuple_of
theorem pure_tuple : PureL G K (rTupleOf K) oTuple := fun H M xs z vs Q d r e h => by
  unfold oTuple at e
  split at e
  · cases e; cases r with | cons r1 r2 =>
      cases r2
      cases r1 with
      | lst hx t => exact ⟨_, _, rfl, .inl ⟨SqL.of (cut_le _ _ hx), fun p hp => h _ _ (grow_upd hp) (.tup (.inl (.inl (new_cut d hp))) (t.mono (grow_cut (grow_upd hp))))⟩⟩
  · cases e; cases r with | cons r1 r2 =>
      cases r2
      cases r1 with
      | tup hx t => exact ⟨_, _, rfl, .inr ⟨sqT_mono cut_le hx, h _ _ (fun _ _ q => q) (.tup hx t)⟩⟩
  · cases e
abbrev rListOf (K : PySem.W.Frag) : List V → Hp → VK → Prop := fun xs H Q => ∃ p ys, xs = [.ref p] ∧ (SqL K H p ys ∨ SqT K H p ys) ∧ ∀ l, H l = none → Q (.ref l) (upd H l (.lst ys))
theorem call_list' (hK : X.K = K) : CallR X (.type "list") (rListOf K) := by subst hK; exact call_list_of
theorem pure_list : PureL G K (rListOf K) oList := fun H M xs z vs Q d r e h => by
  unfold oList at e
  split at e
  · cases e; cases r with | cons r1 r2 =>
      cases r2
      cases r1 with
      | lst hx t => exact ⟨_, _, rfl, .inl (SqL.of (cut_le _ _ hx)), fun p hp => h _ _ (grow_upd hp) (.lst (new_cut d hp) (t.mono (grow_cut (grow_upd hp))))⟩
  · cases e; cases r with | cons r1 r2 =>
      cases r2
      cases r1 with
      | tup hx t => exact ⟨_, _, rfl, .inr (sqT_mono cut_le hx), fun p hp => h _ _ (grow_upd hp) (.lst (new_cut d hp) (t.mono (grow_cut (grow_upd hp))))⟩
  · cases e
theorem pure_abs : PureL G K (fun xs H Q => ∃ i, xs = [.int i] ∧ Q (.int (if i < 0 then -i else i)) H) oAbs := fun H M xs z vs Q d r e h => by
  unfold oAbs at e
  split at e
  · cases e; cases r with | cons r1 r2 => cases r2; cases r1; exact ⟨_, rfl, h _ _ (fun _ _ q => q) (.int _)⟩
  · cases e
theorem pure_min : PureL G K (fun xs H Q => ∃ i j, xs = [.int i, .int j] ∧ Q (.int (if j < i then j else i)) H) oMin := fun H M xs z vs Q d r e h => by
  unfold oMin at e
  split at e
  · cases e; cases r with | cons r1 r2 => cases r2 with | cons r2 r3 => cases r3; cases r1; cases r2; exact ⟨_, _, rfl, h _ _ (fun _ _ q => q) (.int _)⟩
  · cases e
theorem pure_max : PureL G K (fun xs H Q => ∃ i j, xs = [.int i, .int j] ∧ Q (.int (if j > i then j else i)) H) oMax := fun H M xs z vs Q d r e h => by
  unfold oMax at e
  split at e
  · cases e; cases r with | cons r1 r2 => cases r2 with | cons r2 r3 => cases r3; cases r1; cases r2; exact ⟨_, _, rfl, h _ _ (fun _ _ q => q) (.int _)⟩
  · cases e
theorem pure_divmod : PureL G K (fun xs H Q => ∃ i j, xs = [.int i, .int j] ∧ CDiv i j ∧ ∀ p, H p = none → Q (.ref p) (upd H p (.tup [.int (i / j), .int (i % j)]))) oDivmod := fun H M xs z vs Q d r e h => by
  unfold oDivmod at e
  split at e
  · split at e
    · rename_i hc
      rw [Bool.and_eq_true] at hc
      cases e; cases r with | cons r1 r2 => cases r2 with | cons r2 r3 =>
        cases r3; cases r1; cases r2
        exact ⟨_, _, rfl, ⟨of_decide_eq_true hc.1, of_decide_eq_true hc.2⟩, fun p hp => h _ _ (grow_upd hp) (.tup (.inl (.inl (new_cut d hp))) (.cons (.int _) (.cons (.int _) .nil)))⟩
    · cases e
  · cases e
theorem bls_rep {H : Hp} : ∀ {xs : List D} {vs : List V} {bs : List Bool}, RepL G K H xs vs → blsD xs = some bs → vs = bs.map V.bl
  | _, _, bs, .nil, e => by
    have : bs = [] := by simpa [blsD] using e.symm
    subst this; rfl
  | _, _, bs, .cons (x := x) h t, e => by
    cases h with
    | bl b =>
      simp only [blsD, Option.map_eq_some_iff] at e
      obtain ⟨cs, e1, e2⟩ := e
      subst e2
      rw [bls_rep t e1]
      rfl
    | _ => cases e
theorem call_all' (hK : X.K = K) (hc : X.calm = true) : CallR X (.builtin "all") (rAll K) := by subst hK; exact cr_all hc
theorem call_any' (hK : X.K = K) (hc : X.calm = true) : CallR X (.builtin "any") (rAny K) := by subst hK; exact cr_any hc
theorem pure_all : PureL G K (rAll K) oAll := fun H M xs z vs Q d r e h => by
  unfold oAll at e
  split at e
  · obtain ⟨bs, e1, e2⟩ := Option.map_eq_some_iff.mp e
    subst e2
    cases r with | cons r1 r2 =>
      cases r2
      cases r1 with
      | lst hx t =>
        have := bls_rep t e1
        subst this
        exact ⟨_, bs, rfl, SqL.of (cut_le _ _ hx), h _ _ (fun _ _ q => q) (.bl _)⟩
  · cases e
theorem pure_any : PureL G K (rAny K) oAny := fun H M xs z vs Q d r e h => by
  unfold oAny at e
  split at e
  · obtain ⟨bs, e1, e2⟩ := Option.map_eq_some_iff.mp e
    subst e2
    cases r with | cons r1 r2 =>
      cases r2
      cases r1 with
      | lst hx t =>
        have := bls_rep t e1
        subst this
        exact ⟨_, bs, rfl, SqL.of (cut_le _ _ hx), h _ _ (fun _ _ q => q) (.bl _)⟩
  · cases e
end

/-! ### isinstance -/
inductive T5 where
  | int | bool | str | tuple | list
def T5.name : T5 → String
  | .int => "int" | .bool => "bool" | .str => "str" | .tuple => "tuple" | .list => "list"
def T5.isList : T5 → Bool
  | .list => true | _ => false
def isT : T5 → D → Option Bool
  | .int, .int _ => some true | .int, .bl _ => some true | .bool, .bl _ => some true | .str, .str _ => some true
  | .tuple, .tup _ => some true | .list, .lst _ => some true | .list, .lsk _ => some true
  | _, .glo _ => none | _, .ty _ => none
  | _, _ => some false
/-- what must be known of the classes of instances -/
structure InsTy (G : Gv) (K : PySem.W.Frag) (c : Nat) : Prop where
  cl : Cls K (G.ad c)
  ha : PySem.W.findIn K (.ref (G.ad c)) "__class__" = some (some (.builtin "object.__class__"))
  hn : PySem.W.specialIn K (.builtin "object.__class__") "__get__" = some (some (.builtin "getset_descriptor.__get__"))
  htk : PySem.W.takesIn K (.builtin "object.__class__") = some true
  hm : PySem.W.mroIn K (G.ad c) (.type "object") = some true
/-- the classes of instances that are met: known, and none of them a built-in type's heir -/
def InsOk (G : Gv) (K : PySem.W.Frag) : Prop := ∀ c ∈ G.cs, InsTy G K c ∧ ∀ t : T5, PySem.W.kitOne K (.ref (G.ad c)) (.type t.name) = some false
/-- own classes beside built-in values, beside one another -/
def OwnOk (G : Gv) (K : PySem.W.Frag) (k : Nat) : Prop :=
  (∀ n ∈ ["NoneType", "bool", "int", "str", "list", "tuple"], PySem.W.kitOne K (.type n) (.ref (G.ad k)) = some false) ∧ ∀ c ∈ G.cs, InsTy G K c ∧ PySem.W.kitOne K (.ref (G.ad c)) (.ref (G.ad k)) = some (c == k)
def vIsi (t : T5) : W → Store → RW := fun w S => match w with
  | .d x => (match isT t x with
    | some b => .ok (.d (.bl b)) S
    | none => .bad)
  | .h n => (match S[n]? with
    | some (.lst _) => .ok (.d (.bl t.isList)) S
    | some (.ins _ _) => .ok (.d (.bl false)) S
    | _ => .bad)
def isC (k : Nat) : D → Option Bool
  | .ins c _ => some (c == k)
  | .glo _ => none | .ty _ => none
  | _ => some false
def vIsC (k : Nat) : W → Store → RW := fun w S => match w with
  | .d x => (match isC k x with
    | some b => .ok (.d (.bl b)) S
    | none => .bad)
  | .h n => (match S[n]? with
    | some (.lst _) => .ok (.d (.bl false)) S
    | some (.ins c _) => .ok (.d (.bl (c == k))) S
    | _ => .bad)
def tyN : D → String
  | .non => "NoneType" | .bl _ => "bool" | .int _ => "int" | .str _ => "str" | .tup _ => "tuple" | .lst _ => "list" | .lsk _ => "list" | _ => ""
theorem isT_kit {t : T5} {x : D} {b : Bool} (h : isT t x = some b) (hi : ∀ c fs, x ≠ .ins c fs) : kitB (tyN x) t.name = some b := by
  cases x with
  | ins c fs => exact (hi _ _ rfl).elim
  | glo k => cases t <;> cases h
  | ty n => cases t <;> cases h
  | _ => cases t <;> (cases h; simp only [tyN, T5.name]; decide +kernel)
section
variable {X : Cx} {G : Gv} {K : PySem.W.Frag}
theorem tyx_rep {H : Hp} {M : Addr → Bool} {x : D} {v : V} (r : Rep G K (cut H M) x v) (hi : ∀ c fs, x ≠ .ins c fs) (hg : ∀ k, x ≠ .glo k) (ht : ∀ n, x ≠ .ty n) : TyX K H v (.type (tyN x)) := by
  cases r with
  | non => exact .base .non
  | bl b => exact .base (.bl b)
  | int i => exact .base (.int i)
  | str z => exact .base (.str z)
  | tup h t =>
    rcases sqT_mono cut_le h with (h | ⟨o, h⟩) | ⟨o, its, n, h1, h2, _⟩
    · exact .base (.tup h)
    · exact .fTuple h
    · exact .kTuple h1 h2
  | lst h t => exact .base (.lst (cut_le _ _ h))
  | lsk h t =>
    rcases sqL_mono cut_le h with (h | ⟨o, h⟩) | ⟨o, its, n, h1, h2, _⟩
    · exact .base (.lst h)
    · exact .base (.frz h)
    · exact .kList h1 h2
  | ins hc h e t => exact (hi _ _ rfl).elim
  | glo k => exact (hg _ rfl).elim
  | ty n => exact (ht _ rfl).elim
theorem tyx_ins {H : Hp} {a dx : Addr} {c : Nat} {fvs : List (Str × V)} (t : InsTy G K c) (h : H a = some (.ins (G.ad c) dx fvs)) : TyX K H (.ref a) (.ref (G.ad c)) := .base (.ins h t.cl t.ha t.hn t.htk t.hm)
theorem op_isi {t : T5} (hi : InsOk G K) : Op1 G K (fun x H Q => rIsi K [x, .ty t.name] H Q) (vIsi t) := fun φ M S H w v Q E s r p => by
  unfold vIsi at p
  cases w with
  | d x =>
    simp only at p
    cases q : isT t x with
    | none => simp only [q] at p; exact p.elim
    | some b =>
      simp only [q] at p
      have r : Rep G K (cut H M) x v := r
      cases x with
      | ins c fs =>
        cases r with
        | ins hcc h e t' =>
          have hb : b = false := by cases t <;> cases q <;> rfl
          subst hb
          exact ⟨_, _, _, _, false, rfl, .ty _, tyx_ins (hi c hcc).1 (cut_le _ _ h), (hi c hcc).2 t, post_ok p s (.bl false)⟩
      | glo k => cases t <;> cases q
      | ty n => cases t <;> cases q
      | _ => exact ⟨_, _, _, _, b, rfl, .ty _, tyx_rep (M := M) r (fun _ _ z => by cases z) (fun _ z => by cases z) (fun _ z => by cases z), kit_ty (isT_kit q (fun _ _ z => by cases z)), post_ok p s (.bl b)⟩
  | h n =>
    obtain ⟨a, ha, rfl⟩ := r
    cases q : S[n]? with
    | none => simp only [q] at p; exact p.elim
    | some c =>
      have cr := s.cells n c a q ha
      cases c with
      | dead => simp only [q] at p; exact p.elim
      | dct kvs => simp only [q] at p; exact p.elim
      | lst xs =>
        simp only [q] at p
        obtain ⟨m, vs, hl, tt⟩ := cr
        refine ⟨_, _, _, _, _, rfl, .ty _, .base (.lst hl), kit_ty (b := t.name) (r := t.isList) ?_, post_ok p s (.bl _)⟩
        cases t <;> (simp only [T5.name, T5.isList]; decide +kernel)
      | ins c fs =>
        simp only [q] at p
        obtain ⟨m, dx, fvs, hl, tt⟩ := cr
        exact ⟨_, _, _, _, false, rfl, .ty _, tyx_ins (hi c m.2).1 hl, (hi c m.2).2 t, post_ok p s (.bl false)⟩
theorem op_isC {k : Nat} (hi : OwnOk G K k) : Op1 G K (fun x H Q => rIsi K [x, .ref (G.ad k)] H Q) (vIsC k) := fun φ M S H w v Q E s r p => by
  unfold vIsC at p
  cases w with
  | d x =>
    simp only at p
    cases q : isC k x with
    | none => simp only [q] at p; exact p.elim
    | some b =>
      simp only [q] at p
      have r : Rep G K (cut H M) x v := r
      cases x with
      | ins c fs =>
        cases r with
        | ins hcc h e t' =>
          cases q
          exact ⟨_, _, _, _, _, rfl, .own _, tyx_ins (hi.2 c hcc).1 (cut_le _ _ h), (hi.2 c hcc).2, post_ok p s (.bl _)⟩
      | glo k => cases q
      | ty n => cases q
      | _ =>
        cases q
        exact ⟨_, _, _, _, false, rfl, .own _, tyx_rep (M := M) r (fun _ _ z => by cases z) (fun _ z => by cases z) (fun _ z => by cases z), hi.1 _ (by simp only [tyN]; decide), post_ok p s (.bl false)⟩
  | h n =>
    obtain ⟨a, ha, rfl⟩ := r
    cases q : S[n]? with
    | none => simp only [q] at p; exact p.elim
    | some c =>
      have cr := s.cells n c a q ha
      cases c with
      | dead => simp only [q] at p; exact p.elim
      | dct kvs => simp only [q] at p; exact p.elim
      | lst xs =>
        simp only [q] at p
        obtain ⟨m, vs, hl, tt⟩ := cr
        exact ⟨_, _, _, _, false, rfl, .own _, .base (.lst hl), hi.1 _ (by simp), post_ok p s (.bl false)⟩
      | ins c fs =>
        simp only [q] at p
        obtain ⟨m, dx, fvs, hl, tt⟩ := cr
        exact ⟨_, _, _, _, _, rfl, .own _, tyx_ins (hi.2 c m.2).1 hl, (hi.2 c m.2).2, post_ok p s (.bl _)⟩
variable {Wx : WX} {a : Expr} {ta : TE} {ma : EM} {x : Str} {p p2 pos : Pos}
theorem call_isi' (hK : X.K = K) : CallR X (.builtin "isinstance") (rIsi K) := by subst hK; exact call_isi
/-- isinstance(a, T), T a built-in type -/
theorem de_isi (t : T5) (hK : X.K = K) (hi : InsOk G K) (hg : Gl X "isinstance") (hm : X.mg "isinstance" = none) (ha : DE X G K Wx a ta ma) (gx : Gl X x) (mx : X.mg x = none) (vx : bootBuiltins x = some (.type t.name)) (hn : x ≠ "__name__" := by decide) (hd : (x == ("__debug__" : Str)) = false := by decide)
    (he : starEach (a :: [.Name x p2]) X.env = (false, eval a X.env) :: starEach [.Name x p2] X.env := by rfl) (he2 : starEach [.Name x p2] X.env = (false, eval (.Name x p2) X.env) :: starEach [] X.env := by rfl) (hpl : (backTo pos (starEach [.Name x p2] X.env)).any (·.1) = false := by rfl) :
    DE X G K Wx (.Call (.Name "isinstance" p) [a, .Name x p2] [] pos) (tCB (rIsi K) (tCons ta (tCons (tC (.ty t.name)) tNil))) (eU (vIsi t) ma) :=
  ⟨pe_callB (call_isi' hK) hg hm (by decide +kernel) (pa_cons ha.pe (pa_cons (pe_bltn (v := .ty t.name) gx mx vx rfl hn hd) pa_nil he2) he) (by decide) (by decide) he hpl, dx_u (op_isi hi) ha.dx⟩
theorem de_isC (k : Nat) (hK : X.K = K) (hi : OwnOk G K k) (hg : Gl X "isinstance") (hm : X.mg "isinstance" = none) (ha : DE X G K Wx a ta ma) (gx : Gl X x) (mx : X.mg x = some (.ref (G.ad k))) (hd : (x == ("__debug__" : Str)) = false := by decide)
    (he : starEach (a :: [.Name x p2]) X.env = (false, eval a X.env) :: starEach [.Name x p2] X.env := by rfl) (he2 : starEach [.Name x p2] X.env = (false, eval (.Name x p2) X.env) :: starEach [] X.env := by rfl) (hpl : (backTo pos (starEach [.Name x p2] X.env)).any (·.1) = false := by rfl) :
    DE X G K Wx (.Call (.Name "isinstance" p) [a, .Name x p2] [] pos) (tCB (rIsi K) (tCons ta (tCons (tC (.ref (G.ad k))) tNil))) (eU (vIsC k) ma) :=
  ⟨pe_callB (call_isi' hK) hg hm (by decide +kernel) (pa_cons ha.pe (pa_cons (pe_glob (v := .ref (G.ad k)) gx mx rfl hd) pa_nil he2) he) (by decide) (by decide) he hpl, dx_u (op_isC hi) ha.dx⟩
end
end DN

/-! enumerate of a tuple; a loop over a list or a tuple -/
namespace PySem
open Sem (wp)
open AutoSeq1 (wpAny_loadPart')
theorem DN_enum1 {v : Value} {o : Obj} {H : Heap → Prop} (B : Begins v o H) :
    Meets (Builtin.«enumerate.__new__» ⟨[.type "enumerate", v], []⟩) (fun _ R s => H s.heap ∧
      R (.ok (.ret (.ref (s.heap.push o).objs.size))) { s with heap := (s.heap.push o).push { cls := .type "enumerate", data := .fields #[.none, .bool false, .ref s.heap.objs.size, rawInt 0, .none, .none] } }) :=
  .of_wp fun prog w A R s h => by
    obtain ⟨hp, g, d, tk, os⟩ := s; obtain ⟨h1, h⟩ := h
    have hsub := sub_enumerate
    have q1 : ∀ {A' : Around} {E : Value → Shared → Prop} {Q : Value → Shared → Prop}, Q (.ref hp.objs.size) ⟨hp.push o, g, d, tk, os⟩ → wpAny (model prog w) A' (pyIter v) Q E ⟨hp, g, d, tk, os⟩ :=
      fun q => B.iter prog w _ _ ⟨hp, g, d, tk, os⟩ _ h1 q
    wp_walk using q1
    refine wpAny_stack_any fun st => wpAny_pure ?_
    split
    · rename_i c _ _ _ _ _
      cases (c == Value.type "enumerate")
      · wp_walk using q1
        exact ⟨_, rfl, h⟩
      · wp_walk using q1
        exact ⟨_, rfl, h⟩
    · wp_walk using q1
      exact ⟨_, rfl, h⟩
section
variable {prog : Program} {w : World} {A : Around} {E : Value → Shared → Prop} {s : Shared}
theorem DN_call_enum {v : Value} {o : Obj} {H : Heap → Prop} {Q : Value → Shared → Prop} (B : Begins v o H) (h1 : H s.heap)
    (h : ∀ h', IsEnum h' (s.heap.objs.size + 1) s.heap.objs.size 0 .none → h'.get? s.heap.objs.size = some o → h'.objs.size = s.heap.objs.size + 2 →
      (∀ b o, s.heap.get? b = some o → h'.get? b = some o) → Q (.ref (s.heap.objs.size + 1)) { s with heap := h' }) :
    wpAny (model prog w) A (call (.type "enumerate") [v]) Q E s := by
  refine callType_new F.called_enumerate (by decide) (F.typeCall_enumerate_1 _) (F.newCall_enumerate_1 _) (fun obj => F.args_object_init_2 obj _) F.entry_enumerate_new
    (DN_enum1 B) ⟨h1, ?_⟩
  have hz : (s.heap.push o).objs.size = s.heap.objs.size + 1 := Heap.size_push ..
  show _ ∧ _
  rw [hz]
  have he : IsEnum ((s.heap.push o).push { cls := .type "enumerate", data := .fields #[.none, .bool false, .ref s.heap.objs.size, rawInt 0, .none, .none] }) (s.heap.objs.size + 1) s.heap.objs.size 0 .none := by
    have := Heap.get?_push_size (s.heap.push o) (o := { cls := .type "enumerate", data := .fields #[.none, .bool false, .ref s.heap.objs.size, rawInt 0, .none, .none] }) rfl
    rw [hz] at this; exact this
  exact ⟨⟨_, he, rfl⟩, h _ he (Heap.get?_push_of_some _ (Heap.get?_push_size _ B.free)) (by rw [Heap.size_push, hz]) fun b o x => Heap.get?_push_of_some _ (Heap.get?_push_of_some _ x)⟩
end
end PySem
namespace DN
open PySem PySem.Spec PyProof.Rows L2
def Itet (K : PySem.W.Frag) (a : Addr) : It :=
  ⟨fun i H => ∃ (xs : List V) (x : V), SqT K H a xs ∧ xs[i]? = some x, fun i H v H' => ∃ T x, v = .ref T ∧ H T = none ∧ H' = upd H T (.tup [.int (i : Nat), x]) ∧ ∀ xs, SqT K H a xs → xs[i]? = some x, fun i H => ∃ xs : List V, SqT K H a xs ∧ xs.length ≤ i⟩
theorem turn_enumT {P : Program} {w : World} {K : PySem.W.Frag} {elts : List Expr} {kk : Nat} {tpos : Pos} (a e it : Addr) :
    Turn P w K (.Tuple elts kk tpos) (Itet K a) [e, it] e (fun i h => (∃ old, IsEnum h e it ((i : Nat) : Int) old) ∧ h.IsTupleIter it a i ∧ e ≠ it) where
  mem := by simp
  obj := fun i h st b hb => by
    obtain ⟨⟨old, he⟩, ⟨o, ho, hc, hd⟩, _⟩ := st
    have e' : b = e ∨ b = it := by simpa using hb
    rcases e' with z | z
    · rw [z]; exact ⟨_, he, fun v q => nomatch q⟩
    · rw [z]; exact ⟨o, ho, fun v q => by rw [hd] at q; cases q⟩
  keep := fun i h h' st k => let ⟨⟨old, he⟩, hi, hne⟩ := st; ⟨⟨old, k e (by simp) _ he⟩, hi.at fun o q => k it (by simp) o q, hne⟩
  item := by
    intro X hP hw hK hc i pins s σ H E I hf st hg
    subst hP hw hK
    obtain ⟨⟨old, he⟩, hit, hne⟩ := st
    obtain ⟨xs, x, hq, hx⟩ := hg
    obtain ⟨its, rv, p, hz⟩ := I.tuple hq
    obtain ⟨u, hu, ru⟩ := rv.get hx
    have hel : e < s.heap.objs.size := Heap.lt_size he
    have hil : it < s.heap.objs.size := by obtain ⟨_, q, _⟩ := hit; exact Heap.lt_size q
    have hai : a ≠ it := by
      rintro rfl
      obtain ⟨o1, q1, c1, _⟩ := hit
      obtain ⟨o2, q2, c2, _⟩ := p
      rw [q1] at q2; cases q2
      rw [c1] at c2; exact absurd c2 (by decide)
    have hae : a ≠ e := by
      rintro rfl
      obtain ⟨o2, q2, c2, _⟩ := p
      have he' : s.heap.get? a = some _ := he
      rw [he'] at q2; cases q2
      exact absurd (show Value.type "enumerate" = Value.type "tuple" from c2) (by decide)
    refine wpAny_pyNext_enum_itemD (Draws.tuple (A := X.A.in1) (I.ok.hd hc) it a hai its.toArray) he ⟨hit, p⟩ (by have := (List.getElem?_eq_some_iff.mp hu).1; simpa using this) hne (by simp; exact ⟨hne, fun z => hae z.symm⟩) fun x' h' tk hP ho hst' hT hsz hk => ?_
    have hxu : x' = u := by
      have h1 : its[i]? = some x' := by simpa using hP
      rw [hu] at h1; exact (Option.some.inj h1).symm
    subst hxu
    refine ⟨_, rfl, wpAny_letOwnedTupleGo_enum (s := { s with heap := h', toks := tk + 1 }) ho fun h'' he' sb => ?_⟩
    have hT2 : h''.get? s.heap.objs.size = some { cls := .type "tuple", data := .seq #[.int i tk, x'] } := (sb.2 _ (Nat.ne_of_gt hel)).trans hT
    have new : ObjOk X.prog X.w (upd H s.heap.objs.size (.tup [.int (i : Nat), x])) h'' s.heap.objs.size (.tup [.int (i : Nat), x]) :=
      ⟨by show 2 ≤ sizeLine; decide, [.int i tk, x'], .cons ⟨_, rfl⟩ (.cons ru .nil), ⟨_, hT2, rfl, _, rfl⟩⟩
    have I1 : Inv X pins σ (upd H s.heap.objs.size (.tup [.int (i : Nat), x])) { s with heap := h'', toks := tk + 1 } :=
      I.turnedNew (ch := [e, it]) (fun b ob hb q => (sb.2 b (fun z => hb (by simp [z]))).trans (hk b ob (fun z => hb (by simp [z])) (fun z => hb (by simp [z])) q)) hf (Nat.le_refl _) new
    refine ⟨.ref s.heap.objs.size, _, I1, rfl, ⟨_, x, rfl, I.hok.fresh (Nat.le_refl _), rfl, fun ys hy => by rw [I.tuple_inj hy hq]; exact hx⟩, ⟨⟨x', ?_⟩, hst'.1.at fun o q => (sb.2 it (Ne.symm hne)).trans q, hne⟩, fun b hb => ?_⟩
    · have e1 : ((i + 1 : Nat) : Int) = (i : Int) + 1 := by omega
      rw [e1]; exact he'
    · have hb' : b < s.heap.objs.size := by
        have e' : b = e ∨ b = it := by simpa using hb
        rcases e' with z | z
        · rw [z]; exact hel
        · rw [z]; exact hil
      rw [upd_ne (Nat.ne_of_lt hb')]
      exact (hf b hb).1
  done := by
    intro X hP hw hK hc i pins s σ H E I hf st hg
    subst hP hw hK
    obtain ⟨⟨old, he⟩, hit, hne⟩ := st
    obtain ⟨xs, hq, hx⟩ := hg
    obtain ⟨its, rv, p, hz⟩ := I.tuple hq
    obtain ⟨f0, f1, f2, f3, f4, f5⟩ := hf it (by simp)
    have hl := rv.length
    have hai : a ≠ it := by
      rintro rfl
      obtain ⟨o1, q1, c1, _⟩ := hit
      obtain ⟨o2, q2, c2, _⟩ := p
      rw [q1] at q2; cases q2
      rw [c1] at c2; exact absurd c2 (by decide)
    unfold pyNext
    have hT : s.TypeIs (.ref e) "enumerate" := ⟨_, he, rfl⟩
    refine wpAny_bind (wpAny_attempt (wpAny_callSpecial?_slot (name := Str.ofString "__next__") hT F.slot_enumerate_next
      (wpAny_call_entry F.slot_enumerate_next hT F.entry_enumerate_next ?_ (F.args_enumerate_next_1 _))))
    show wpAny _ _ (field (.ref e) 2 >>= _) _ _ _
    refine wpAny_bind (wpAny_field he rfl (x := .ref it) rfl ?_)
    refine wpAny_bind (wpAny_nextOf_tuple_end (I.ok.hd hc) hit p (by simp; omega) fun h' x he' hx' => ?_)
    obtain ⟨o, ho, hc'⟩ := hx'
    refine wpAny_bind (wpAny_isInstance (T := "StopIteration") (b := true) ⟨o, ho, hc'⟩ isSubtype_stop ?_)
    exact wpAny_pure ⟨rfl, I.turned (t' := s.toks) (fun b o hb q => he' b o hb q) f0 f1 f3 f4 f5⟩
  self := fun A i s Q E st h => let ⟨⟨_, he⟩, _⟩ := st; wpAny_pyIter_enum he h
/-- enumerate of a list or a tuple -/
def iEnum2 (K : PySem.W.Frag) (ta : TA) : TI := fun σ H R => ta σ H fun vs H1 => ∃ a xs, vs = [.ref a] ∧ ((SqL K H1 a xs ∧ R (Ite K a) H1) ∨ (SqT K H1 a xs ∧ R (Itet K a) H1))
theorem pi_enum2 {X : Cx} {e : Expr} {ta : TA} {p pos tpos : Pos} {elts : List Expr} {kk : Nat} (hg : Gl X "enumerate") (hm : X.mg "enumerate" = none) (ha : PA X [e] ta) (hs : starEach [e] X.env = [(false, eval e X.env)] := by rfl) :
    PI X (.Tuple elts kk tpos) (.Call (.Name "enumerate" p) [e] [] pos) (iEnum2 X.K ta) := by
  refine ⟨fun pins s σ H R I h => ?_⟩
  refine Call_ (ld_blt I hg hm boot_enumerate (PyProof.Rows.callWith_type1 (thn (ha.run pos pins s σ H _ I h) fun us s1 ⟨vs, H1, I1, r1, q1⟩ => ?_) hs rfl))
  obtain ⟨a, xs, ex, q1⟩ := q1
  subst ex
  cases r1 with
  | cons r rr =>
    cases rr
    cases r
    rcases q1 with ⟨hq, q⟩ | ⟨hq, q⟩
    · obtain ⟨its, rv, p', hz⟩ := I1.list hq
      refine call_enumerate_list p'.isList fun h' he hit hsz hk => wpAny_pyIter_enum he ?_
      have I2 : Inv X pins σ H1 { s1 with heap := h' } := I1.kept (t' := s1.toks) hk
      refine ⟨s1.heap.objs.size + 1, [s1.heap.objs.size + 1, s1.heap.objs.size], _, _, H1, rfl, I2, turn_enum a (s1.heap.objs.size + 1) s1.heap.objs.size, ⟨⟨.none, he⟩, hit, Nat.succ_ne_self _⟩, fun b hb => ?_, q⟩
      have e' : b = s1.heap.objs.size + 1 ∨ b = s1.heap.objs.size := by simpa using hb
      have hle : s1.heap.objs.size ≤ b := by
        rcases e' with z | z
        · rw [z]; exact Nat.le_add_right _ _
        · rw [z]; exact Nat.le_refl _
      exact I1.fpOk hle (I1.hok.fresh hle)
    · obtain ⟨its, rv, p', hz⟩ := I1.tuple hq
      refine DN_call_enum (begins_tuple a its.toArray) (show s1.heap.IsTuple a its.toArray from p') fun h' he hit hsz hk => wpAny_pyIter_enum he ?_
      have I2 : Inv X pins σ H1 { s1 with heap := h' } := I1.kept (t' := s1.toks) hk
      refine ⟨s1.heap.objs.size + 1, [s1.heap.objs.size + 1, s1.heap.objs.size], _, _, H1, rfl, I2, turn_enumT a (s1.heap.objs.size + 1) s1.heap.objs.size, ⟨⟨.none, he⟩, ⟨_, hit, rfl, rfl⟩, Nat.succ_ne_self _⟩, fun b hb => ?_, q⟩
      have e' : b = s1.heap.objs.size + 1 ∨ b = s1.heap.objs.size := by simpa using hb
      have hle : s1.heap.objs.size ≤ b := by
        rcases e' with z | z
        · rw [z]; exact Nat.le_add_right _ _
        · rw [z]; exact Nat.le_refl _
      exact I1.fpOk hle (I1.hok.fresh hle)
/-- a list or a tuple -/
def iSeq (K : PySem.W.Frag) (tl : TE) : TI := fun σ H R => tl σ H fun x H1 => ∃ a xs, x = .ref a ∧ ((SqL K H1 a xs ∧ R (Itl K a) H1) ∨ (SqT K H1 a xs ∧ R (Itt K a) H1))
theorem pi_seq {X : Cx} {tg l : Expr} {tl : TE} (hl : PE X l tl) : PI X tg l (iSeq X.K tl) := by
  refine ⟨fun pins s σ H R I h => ?_⟩
  refine thn (hl.run pins s σ H _ I h) fun v s1 ⟨x, H1, I1, r1, q1⟩ => ?_
  obtain ⟨a, xs, e, q1⟩ := q1
  subst e
  cases r1
  rcases q1 with ⟨hq, q⟩ | ⟨hq, q⟩
  · obtain ⟨its, rv, p, hz⟩ := I1.list hq
    refine wpAny_pyIter_list p.isList ?_
    refine ⟨s1.heap.objs.size, [s1.heap.objs.size], _, _, H1, rfl, I1.kept (t' := s1.toks) fun b o e => Heap.get?_push_of_some _ e, turn_list a _, ⟨_, Heap.get?_push_size _ rfl, rfl, rfl⟩, fun b hb => ?_, q⟩
    have e : b = s1.heap.objs.size := by simpa using hb
    subst e
    exact I1.fpOk (Nat.le_refl _) (I1.hok.fresh (Nat.le_refl _))
  · obtain ⟨its, rv, p, hz⟩ := I1.tuple hq
    refine wpAny_pyIter_tuple (show s1.heap.IsTuple a its.toArray from p) ?_
    refine ⟨s1.heap.objs.size, [s1.heap.objs.size], _, _, H1, rfl, I1.kept (t' := s1.toks) fun b o e => Heap.get?_push_of_some _ e, turn_tuple a _, ⟨_, Heap.get?_push_size _ rfl, rfl, rfl⟩, fun b hb => ?_, q⟩
    have e : b = s1.heap.objs.size := by simpa using hb
    subst e
    exact I1.fpOk (Nat.le_refl _) (I1.hok.fresh (Nat.le_refl _))
end DN

namespace DN
open PySem PySem.Spec PyProof.Rows L2

/-! ### statements -/
def sE (m : EM) : SM := fun ρ S => match m ρ S with
  | .ok _ S' => .nx ρ S'
  | .exc c fs S' => .exc ρ c fs S'
  | .bad => .bad
def sR (m : EM) : SM := fun ρ S => match m ρ S with
  | .ok w S' => .rt w S'
  | .exc c fs S' => .exc ρ c fs S'
  | .bad => .bad
def sRN : SM := fun _ S => .rt (.d .non) S
def sP : SM := fun ρ S => .nx ρ S
def sBk : SM := fun ρ S => .bk ρ S
def sCt : SM := fun ρ S => .ct ρ S
def sQ (a b : SM) : SM := fun ρ S => match a ρ S with
  | .nx ρ' S' => b ρ' S'
  | o => o
def sI (c : EM) (a b : SM) : SM := fun ρ S => match c ρ S with
  | .ok (.d (.bl true)) S' => a ρ S'
  | .ok (.d (.bl false)) S' => b ρ S'
  | .exc c fs S' => .exc ρ c fs S'
  | _ => .bad
/-- targets -/
abbrev TM := W → Env → Store → Option (Env × Store)
abbrev TMs := List D → Env → Store → Option (Env × Store)
def gN (i : Nat) : TM := fun w ρ S => some (ρ.set i (some w), S)
def gT (n : Nat) (t : TMs) : TM := fun w ρ S => match w with
  | .d (.tup xs) => if xs.length = n then t xs ρ S else none
  | _ => none
def gs0 : TMs := fun xs ρ S => match xs with
  | [] => some (ρ, S)
  | _ => none
def gsC (g : TM) (t : TMs) : TMs := fun xs ρ S => match xs with
  | [] => none
  | x :: r => (match g (.d x) ρ S with
    | some (ρ', S') => t r ρ' S'
    | none => none)
/-- o[i] = .., o a list among the cells -/
def gX (o i : EM) : TM := fun w ρ S => match o ρ S with
  | .ok (.h n) S1 => (match i ρ S1 with
    | .ok (.d (.int k)) S2 => (match cellL S2 n, w with
      | some xs, .d y => (match ixN xs.length k with
        | some j => some (ρ, S2.set n (.lst (xs.set j y)))
        | none => none)
      | _, _ => none)
    | _ => none)
  | _ => none
def sA (m : EM) (g : TM) : SM := fun ρ S => match m ρ S with
  | .ok w S' => (match g w ρ S' with
    | some (ρ', S2) => .nx ρ' S2
    | none => .bad)
  | .exc c fs S' => .exc ρ c fs S'
  | .bad => .bad
abbrev sS (i : Nat) (m : EM) : SM := sA m (gN i)
/-- a, b = x, y; a, b, c = x, y, z with plain names -/
def sPar (is : List Nat) (m : LM) : SM := fun ρ S => match m ρ S with
  | .ok ws S' => if ws.length = is.length then .nx ((is.zip ws).foldl (fun ρ p => ρ.set p.1 (some p.2)) ρ) S' else .bad
  | .exc c fs S' => .exc ρ c fs S'
  | .bad => .bad

section
variable {G : Gv} {K : PySem.W.Frag} {Wx : WX}
/-- what an expression's end gives for a statement -/
theorem stE {t : TE} {m : EM} (h : DEx G K Wx t m) {φ M ρ S σ H} {D : Ends} {R : VK} {f : W → Store → Out} (s : Sto G K φ M S H) (e : EnvR G K φ M H ρ σ)
    (p : PostS G K φ M H (match m ρ S with | .ok w S' => f w S' | .exc c fs S' => .exc ρ c fs S' | .bad => .bad) D Wx)
    (k : ∀ w S1 φ1 M1 H1 v, Ge φ M H φ1 M1 H1 → Sto G K φ1 M1 S1 H1 → EnvR G K φ1 M1 H1 ρ σ → RepW G K φ1 (cut H1 M1) w v → PostS G K φ1 M1 H1 (f w S1) D Wx → R v H1) : t σ H R := by
  refine h φ M ρ S σ H R s e ?_
  cases q : m ρ S with
  | bad => rw [q] at p; exact p
  | exc c fs S1 => rw [q] at p; exact fun φ1 M1 H1 od g s1 x => p φ1 M1 H1 od σ g s1 (e.ge g) x
  | ok w S1 => rw [q] at p; exact fun φ1 M1 H1 v g s1 r => k w S1 φ1 M1 H1 v g s1 (e.ge g) r (PostS.ge g p)
theorem dsx_e {t : TE} {m : EM} (h : DEx G K Wx t m) : DSx G K Wx (tDrop t) (sE m) := fun φ M ρ S σ H D s e p =>
  stE h (f := fun _ S' => .nx ρ S') s e p fun w S1 φ1 M1 H1 v g s1 e1 r p1 => p1 φ1 M1 H1 σ s1.ge s1 e1
theorem dsx_r {t : TE} {m : EM} (h : DEx G K Wx t m) : DSx G K Wx (tRet t) (sR m) := fun φ M ρ S σ H D s e p =>
  stE h (f := fun w S' => .rt w S') s e p fun w S1 φ1 M1 H1 v g s1 e1 r p1 => p1 φ1 M1 H1 v s1.ge s1 r
theorem dsx_rn : DSx G K Wx tRetN sRN := fun φ M ρ S σ H D s e p => p φ M H .non s.ge s .non
theorem dsx_p : DSx G K Wx tNext sP := fun φ M ρ S σ H D s e p => p φ M H σ s.ge s e
theorem dsx_bk : DSx G K Wx tBreak sBk := fun φ M ρ S σ H D s e p => p φ M H σ s.ge s e
theorem dsx_ct : DSx G K Wx tCont sCt := fun φ M ρ S σ H D s e p => p φ M H σ s.ge s e
theorem dsx_q {t u : TS} {a b : SM} (ha : DSx G K Wx t a) (hb : DSx G K Wx u b) : DSx G K Wx (tSeq t u) (sQ a b) := fun φ M ρ S σ H D s e p => by
  refine ha φ M ρ S σ H _ s e ?_
  unfold sQ at p
  cases q : a ρ S with
  | nx ρ' S' => simp only [q] at p; exact fun φ1 M1 H1 σ' g s1 e1 => hb φ1 M1 ρ' S' σ' H1 D s1 e1 (PostS.ge g p)
  | rt w S' => simp only [q] at p; exact p
  | bk ρ' S' => simp only [q] at p; exact p
  | ct ρ' S' => simp only [q] at p; exact p
  | exc ρ' c fs S' => simp only [q] at p; exact p
  | bad => simp only [q] at p; exact p
theorem dsx_i {c : TT} {t u : TS} {mc : EM} {a b : SM} (hc : DTx G K Wx c mc) (ha : DSx G K Wx t a) (hb : DSx G K Wx u b) : DSx G K Wx (tIfS c t u) (sI mc a b) := fun φ M ρ S σ H D s e p => by
  unfold sI at p
  refine bindT_ok (f := fun _ _ => .bad) (P := fun _ _ _ _ => True) hc s e (fun c fs S1 q => ?_) (fun r q h1 h2 => ?_) (fun k S1 φ1 M1 H1 q g s1 e1 => ?_)
  · simp only [q] at p; exact fun φ1 M1 H1 od g s1 x => p φ1 M1 H1 od σ g s1 (e.ge g) x
  · simp only [q] at p
    cases r with
    | bad => exact p
    | exc c fs S1 => exact (h2 _ _ _ rfl).elim
    | ok w S1 => cases w with
      | h n => exact p
      | d x => cases x with
        | bl k => exact (h1 _ _ rfl).elim
        | _ => exact p
  · simp only [q] at p
    cases k with
    | true => rw [if_pos rfl]; exact ha φ1 M1 ρ S1 σ H1 D s1 e1 (PostS.ge g p)
    | false => rw [if_neg (by decide)]; exact hb φ1 M1 ρ S1 σ H1 D s1 e1 (PostS.ge g p)

/-! ### targets -/
def DGx (G : Gv) (K : PySem.W.Frag) (is : List Nat) (g : TG) (f : TM) : Prop := ∀ φ M ρ S σ H w v Q ρ' S', Sto G K φ M S H → EnvR G K φ M H ρ σ → RepW G K φ (cut H M) w v → f w ρ S = some (ρ', S') →
  (∀ φ' M' H' σ', Ge φ M H φ' M' H' → Sto G K φ' M' S' H' → EnvR G K φ' M' H' ρ' σ' → σ'.length = σ.length → (∀ j, j ∉ is → σ'[j]? = σ[j]?) → Q σ' H') → g v σ H Q
def DGsx (G : Gv) (K : PySem.W.Frag) (is : List Nat) (g : TGs) (f : TMs) : Prop := ∀ φ M ρ S σ H xs vs Q ρ' S', Sto G K φ M S H → EnvR G K φ M H ρ σ → RepL G K (cut H M) xs vs → f xs ρ S = some (ρ', S') →
  (∀ φ' M' H' σ', Ge φ M H φ' M' H' → Sto G K φ' M' S' H' → EnvR G K φ' M' H' ρ' σ' → σ'.length = σ.length → (∀ j, j ∉ is → σ'[j]? = σ[j]?) → Q σ' H') → g vs σ H Q
theorem dgx_n {i : Nat} : DGx G K [i] (gName i) (gN i) := fun φ M ρ S σ H w v Q ρ' S' s e r q h => by
  cases q
  exact h φ M H _ s.ge s (e.set r i) (by simp) fun j hj => List.getElem?_set_ne (fun z => hj (by simp [z]))
theorem dgs_nil : DGsx G K [] gNil gs0 := fun φ M ρ S σ H xs vs Q ρ' S' s e r q h => by
  cases r with
  | nil => cases q; exact ⟨rfl, h φ M H σ s.ge s e rfl fun _ _ => rfl⟩
  | cons h1 t => cases q
theorem dgs_cons {is js : List Nat} {g : TG} {t : TGs} {f : TM} {fs : TMs} (hg : DGx G K is g f) (ht : DGsx G K js t fs) : DGsx G K (is ++ js) (gCons g t) (gsC f fs) := fun φ M ρ S σ H xs vs Q ρ' S' s e r q h => by
  cases r with
  | nil => cases q
  | cons h1 tt =>
    unfold gsC at q
    dsimp only at q
    rename_i x v xs vs
    cases q1 : f (.d x) ρ S with
    | none => rw [q1] at q; cases q
    | some o =>
      obtain ⟨ρ1, S1⟩ := o
      rw [q1] at q
      refine ⟨_, _, rfl, hg φ M ρ S σ H (.d x) _ _ ρ1 S1 s e h1 q1 fun φ1 M1 H1 σ1 g1 s1 e1 l1 o1 => ?_⟩
      refine ht φ1 M1 ρ1 S1 σ1 H1 xs _ _ ρ' S' s1 e1 (RepL.mono g1.cut tt) q fun φ2 M2 H2 σ2 g2 s2 e2 l2 o2 => ?_
      exact h φ2 M2 H2 σ2 (g1.trans g2) s2 e2 (l2.trans l1) fun j hj => (o2 j fun z => hj (List.mem_append_right _ z)).trans (o1 j fun z => hj (List.mem_append_left _ z))
theorem dgx_t {is : List Nat} {n : Nat} {t : TGs} {f : TMs} (h : DGsx G K is t f) : DGx G K is (gTup K n t) (gT n f) := fun φ M ρ S σ H w v Q ρ' S' s e r q k => by
  unfold gT at q
  split at q
  · split at q
    · rename_i hl
      cases r with
      | tup hx rx => exact ⟨_, _, rfl, sqT_mono cut_le hx, by rw [← rx.length]; exact hl, h φ M ρ S σ H _ _ _ ρ' S' s e rx q k⟩
    · cases q
  · cases q

/-- a tracked list is written -/
theorem Sto.write {φ : List Addr} {M : Addr → Bool} {S : Store} {H : Hp} {n : Nat} {a : Addr} {c : Cell} {o : HO} (s : Sto G K φ M S H) (ha : φ[n]? = some a) (m : M a = true) (ho : ∀ xs, o ≠ .tup xs) (hc : CellRep G K φ M (upd H a o) a c) : Sto G K φ M (S.set n c) (upd H a o) ∧ Ge φ M H φ M (upd H a o) := by
  have hcut : cut (upd H a o) M = cut H M := by
    funext b
    cases q : M b with
    | true => rw [cut_t q, cut_t q]
    | false =>
      rw [cut_f q, cut_f q, upd_ne]
      rintro rfl
      rw [m] at q; cases q
  have hmem : a ∈ φ := List.mem_of_getElem? ha
  refine ⟨⟨by simp [s.len], s.nd, fun b hb => ?_, fun b hb => ?_, fun k c' b e1 e2 => ?_⟩, ⟨⟨[], by simp⟩, s.dom, fun b u h1 h2 => ?_, fun b h1 h2 => ?_, fun b h1 h2 => (h2 h1).elim⟩⟩
  · by_cases hba : b = a
    · subst hba; rw [upd_same]; exact mob_of ho
    · rw [upd_ne hba]; exact s.dom b hb
  · by_cases hba : b = a
    · subst hba; rw [upd_same]; simp
    · rw [upd_ne hba]; exact s.inn b hb
  · by_cases hk : k = n
    · subst hk
      rw [ha] at e2; cases e2
      have hl : k < S.length := by rw [← s.len]; exact (List.getElem?_eq_some_iff.mp ha).1
      rw [List.getElem?_set_self hl] at e1
      cases e1
      exact hc
    · rw [List.getElem?_set_ne (Ne.symm hk)] at e1
      have hba : b ≠ a := fun z => by
        subst z
        have h1 := List.getElem?_eq_some_iff.mp e2
        have h2 := List.getElem?_eq_some_iff.mp ha
        exact hk ((List.getElem_inj s.nd).mp (h1.2.trans h2.2.symm))
      have := s.cells k c' b e1 e2
      cases c' with
      | dead => trivial
      | lst xs => obtain ⟨m', vs, h, r⟩ := this; exact ⟨m', vs, by rw [upd_ne hba]; exact h, by rw [hcut]; exact r⟩
      | dct kvs => obtain ⟨m', vs, h, r⟩ := this; exact ⟨m', vs, by rw [upd_ne hba]; exact h, r⟩
      | ins c fs => obtain ⟨m', dx, fvs, h, r⟩ := this; exact ⟨m', dx, fvs, by rw [upd_ne hba]; exact h, by rw [hcut]; exact r⟩
  · refine ⟨?_, h2⟩
    rw [upd_ne]
    · exact h1
    · rintro rfl; rw [m] at h2; cases h2
  · refine ⟨upd_ne fun z => h2 (z ▸ hmem), h1⟩
theorem cut_upd {M : Addr → Bool} {H : Hp} {a : Addr} {o : HO} (m : M a = true) : cut (upd H a o) M = cut H M := by
  funext b
  cases q : M b with
  | true => rw [cut_t q, cut_t q]
  | false =>
    rw [cut_f q, cut_f q, upd_ne]
    rintro rfl
    rw [m] at q; cases q
theorem cellL_some {S : Store} {n : Nat} {xs : List D} (h : cellL S n = some xs) : S[n]? = some (.lst xs) := by
  unfold cellL at h
  split at h
  · cases h; assumption
  · cases h
theorem dgx_x {to ti : TE} {mo mi : EM} (ho : DEx G K (fun _ _ _ _ => False) to mo) (hi : DEx G K (fun _ _ _ _ => False) ti mi) : DGx G K [] (gSub to ti rSetL) (gX mo mi) := fun φ M ρ S σ H w v Q ρ' S' s e r q h => by
  unfold gX at q
  refine ho φ M ρ S σ H _ s e ?_
  cases q1 : mo ρ S with
  | bad => simp only [q1] at q; cases q
  | exc c fs S1 => simp only [q1] at q; cases q
  | ok wo S1 =>
    cases wo with
    | d x => simp only [q1] at q; cases q
    | h n =>
      simp only [q1] at q
      refine fun φ1 M1 H1 vo g1 s1 ro => hi φ1 M1 ρ S1 σ H1 _ s1 (e.ge g1) ?_
      cases q2 : mi ρ S1 with
      | bad => simp only [q2] at q; cases q
      | exc c fs S2 => simp only [q2] at q; cases q
      | ok wi S2 =>
        cases wi with
        | h k => simp only [q2] at q; cases q
        | d x =>
          cases x with
          | int k =>
            simp only [q2] at q
            refine fun φ2 M2 H2 vi g2 s2 ri => ?_
            cases ri
            cases q3 : cellL S2 n with
            | none => simp only [q3] at q; cases q
            | some xs =>
              simp only [q3] at q
              cases w with
              | h m => cases q
              | d y =>
                simp only at q
                cases q4 : ixN xs.length k with
                | none => simp only [q4] at q; cases q
                | some j =>
                  simp only [q4] at q
                  cases q
                  obtain ⟨a, ha, rfl⟩ := (RepW.ge (w := .h n) g2 ro)
                  obtain ⟨m, vs, hl, rl⟩ := s2.cells n _ a (cellL_some q3) ha
                  have ry : Rep G K (cut H2 M2) y v := RepW.ge (w := .d y) (g1.trans g2) r
                  refine ⟨a, vs, k, j, rfl, rfl, hl, by rw [← rl.length]; exact q4, ?_⟩
                  obtain ⟨s3, g3⟩ := s2.write (c := .lst (xs.set j y)) (o := .lst (vs.set j v)) ha m (by intro _ h; cases h) ⟨m, _, upd_same, by rw [cut_upd m]; exact rl.set ry j⟩
                  exact h φ2 M2 _ σ (g1.trans (g2.trans g3)) s3 (e.ge (g1.trans (g2.trans g3))) rfl fun _ _ => rfl
          | _ => simp only [q2] at q; cases q
theorem dsx_a {t : TE} {m : EM} {is : List Nat} {g : TG} {f : TM} (h : DEx G K Wx t m) (hg : DGx G K is g f) : DSx G K Wx (tAsg t g) (sA m f) := fun φ M ρ S σ H D s e p =>
  stE h (f := fun w S' => match f w ρ S' with | some (ρ', S2) => .nx ρ' S2 | none => .bad) s e p fun w S1 φ1 M1 H1 v g1 s1 e1 r p1 => by
    cases q : f w ρ S1 with
    | none => rw [q] at p1; exact p1.elim
    | some o =>
      obtain ⟨ρ', S2⟩ := o
      rw [q] at p1
      exact hg φ1 M1 ρ S1 σ H1 w v _ ρ' S2 s1 e1 r q fun φ2 M2 H2 σ' g2 s2 e2 _ _ => p1 φ2 M2 H2 σ' g2 s2 e2
theorem dsx_par2 {i j : Nat} {ta : TA} {m : LM} (h : DLx G K Wx ta m) : DSx G K Wx (tPar i j ta) (sPar [i, j] m) := fun φ M ρ S σ H D s e p => by
  refine h φ M ρ S σ H _ s e ?_
  unfold sPar at p
  cases q : m ρ S with
  | bad => simp only [q] at p; exact p
  | exc c fs S1 => simp only [q] at p; exact fun φ1 M1 H1 od g s1 x => p φ1 M1 H1 od σ g s1 (e.ge g) x
  | ok ws S1 =>
    simp only [q] at p
    refine fun φ1 M1 H1 vs g s1 r => ?_
    split at p
    · rename_i hl
      match ws, vs, r, hl with
      | [w1, w2], _, .cons (b := v1) r1 (.cons (b := v2) r2 .nil), _ =>
        refine ⟨v1, v2, rfl, ?_⟩
        exact p φ1 M1 H1 _ g s1 (((e.ge g).set r1 i).set r2 j)
    · exact p.elim
theorem dsx_par3 {i j l : Nat} {ta : TA} {m : LM} (h : DLx G K Wx ta m) : DSx G K Wx (tPar3 i j l ta) (sPar [i, j, l] m) := fun φ M ρ S σ H D s e p => by
  refine h φ M ρ S σ H _ s e ?_
  unfold sPar at p
  cases q : m ρ S with
  | bad => simp only [q] at p; exact p
  | exc c fs S1 => simp only [q] at p; exact fun φ1 M1 H1 od g s1 x => p φ1 M1 H1 od σ g s1 (e.ge g) x
  | ok ws S1 =>
    simp only [q] at p
    refine fun φ1 M1 H1 vs g s1 r => ?_
    split at p
    · rename_i hl
      match ws, vs, r, hl with
      | [w1, w2, w3], _, .cons (b := v1) r1 (.cons (b := v2) r2 (.cons (b := v3) r3 .nil)), _ =>
        refine ⟨v1, v2, v3, rfl, ?_⟩
        exact p φ1 M1 H1 _ g s1 ((((e.ge g).set r1 i).set r2 j).set r3 l)
    · exact p.elim
end

/-! ### what is walked -/
inductive RI where
  | ok (xs : List D) (S : Store) | exc (c : Nat) (fs : List (Str × D)) (S : Store) | bad
abbrev IM := Env → Store → RI
structure WalkD (G : Gv) (K : PySem.W.Frag) (J : It) (M : Addr → Bool) (H : Hp) (xs : List D) : Prop where
  go : ∀ i H2, i < xs.length → (∀ a o, H a = some o → M a = false → H2 a = some o) → J.go i H2
  stop : ∀ H2, (∀ a o, H a = some o → M a = false → H2 a = some o) → J.stop xs.length H2
  yld : ∀ i H2 M2 x H3, i < xs.length → (∀ a o, H a = some o → M a = false → H2 a = some o ∧ M2 a = false) → Dom M2 H2 → J.yld i H2 x H3 → Grow H2 H3 ∧ ∃ d, xs[i]? = some d ∧ Rep G K (cut H3 M2) d x
def DIx (G : Gv) (K : PySem.W.Frag) (Wx : WX) (wi : TI) (m : IM) : Prop := ∀ φ M ρ S σ H R, Sto G K φ M S H → EnvR G K φ M H ρ σ →
  (match m ρ S with
    | .ok xs S' => ∀ φ' M' H' J, Ge φ M H φ' M' H' → Sto G K φ' M' S' H' → WalkD G K J M' H' xs → R J H'
    | .exc c fs S' => PostX G K φ M H c fs S' (fun c d H' => Wx c d σ H')
    | .bad => False) → wi σ H R
structure DI (X : Cx) (G : Gv) (K : PySem.W.Frag) (Wx : WX) (tg iter : Expr) (wi : TI) (m : IM) : Prop where
  pi : PI X tg iter wi
  dx : DIx G K Wx wi m
def seqD : D → Option (List D)
  | .tup xs => some xs
  | .lst xs => some xs
  | .lsk xs => some xs
  | _ => none
def enumD (xs : List D) : List D := (List.range xs.length).zipWith (fun i x => .tup [.int (i : Nat), x]) xs
def iS (m : EM) : IM := fun ρ S => match m ρ S with
  | .ok (.d x) S' => (match seqD x with
    | some xs => .ok xs S'
    | none => .bad)
  | .exc c fs S' => .exc c fs S'
  | _ => .bad
def iEn (m : EM) : IM := fun ρ S => match m ρ S with
  | .ok (.d x) S' => (match seqD x with
    | some xs => .ok (enumD xs) S'
    | none => .bad)
  | .exc c fs S' => .exc c fs S'
  | _ => .bad
def rangeD (lo : Int) (n : Nat) : List D := (List.range n).map fun i => .int (lo + (i : Nat))
def okR (i : Int) : Bool := decide (-(2 ^ 62) ≤ i) && decide (i < 2 ^ 62)
def iR1 (m : EM) : IM := fun ρ S => match m ρ S with
  | .ok (.d (.int j)) S' => if okR j then .ok (rangeD 0 j.toNat) S' else .bad
  | .exc c fs S' => .exc c fs S'
  | _ => .bad
def iR2 (m m2 : EM) : IM := fun ρ S => match m ρ S with
  | .ok (.d (.int i)) S1 => (match m2 ρ S1 with
    | .ok (.d (.int j)) S' => if okR i && okR j then .ok (rangeD i (j - i).toNat) S' else .bad
    | .exc c fs S' => .exc c fs S'
    | _ => .bad)
  | .exc c fs S' => .exc c fs S'
  | _ => .bad
section
variable {G : Gv} {K : PySem.W.Frag} {Wx : WX}
theorem okR_ok {i : Int} (h : okR i = true) : -(2 ^ 62) ≤ i ∧ i < 2 ^ 62 := by
  unfold okR at h
  rw [Bool.and_eq_true] at h
  exact ⟨of_decide_eq_true h.1, of_decide_eq_true h.2⟩
theorem imm_cut {M M2 : Addr → Bool} {H H2 : Hp} (h : ∀ a o, H a = some o → M a = false → H2 a = some o ∧ M2 a = false) : Grow (cut H M) (cut H2 M2) := fun a o e => by
  obtain ⟨m, q⟩ := cut_some e
  obtain ⟨h1, h2⟩ := h a o q m
  rw [cut_f h2]; exact h1
theorem imm_le {M : Addr → Bool} {H H2 : Hp} (h : ∀ a o, H a = some o → M a = false → H2 a = some o) : Grow (cut H M) H2 := fun a o e => by
  obtain ⟨m, q⟩ := cut_some e
  exact h a o q m
theorem sqT_inj {K : PySem.W.Frag} {H : Hp} {a : Addr} {xs : List V} (h : SqT K H a xs) {J : Nat → Prop} : True := trivial
theorem walkD_list {M : Addr → Bool} {H : Hp} {a : Addr} {vs : List V} {xs : List D} (h : SqL K (cut H M) a vs) (r : RepL G K (cut H M) xs vs) : WalkD G K (Itl K a) M H xs where
  go := fun i H2 hi k => ⟨vs, vs[i]'(by rw [← r.length]; exact hi), sqL_mono (imm_le k) h, List.getElem?_eq_getElem _⟩
  stop := fun H2 k => ⟨vs, sqL_mono (imm_le k) h, by rw [r.length]; exact Nat.le_refl _⟩
  yld := fun i H2 M2 x H3 hi k d y => by
    obtain ⟨rfl, y⟩ := y
    have hx := y vs (sqL_mono (imm_le fun a o e m => (k a o e m).1) h)
    obtain ⟨z, e1, e2⟩ := r.getV hx
    exact ⟨fun _ _ q => q, z, e1, Rep.mono (imm_cut k) e2⟩
theorem walkD_tup {M : Addr → Bool} {H : Hp} {a : Addr} {vs : List V} {xs : List D} (h : SqT K (cut H M) a vs) (r : RepL G K (cut H M) xs vs) : WalkD G K (Itt K a) M H xs where
  go := fun i H2 hi k => ⟨vs, vs[i]'(by rw [← r.length]; exact hi), sqT_mono (imm_le k) h, List.getElem?_eq_getElem _⟩
  stop := fun H2 k => ⟨vs, sqT_mono (imm_le k) h, by rw [r.length]; exact Nat.le_refl _⟩
  yld := fun i H2 M2 x H3 hi k d y => by
    obtain ⟨rfl, y⟩ := y
    have hx := y vs (sqT_mono (imm_le fun a o e m => (k a o e m).1) h)
    obtain ⟨z, e1, e2⟩ := r.getV hx
    exact ⟨fun _ _ q => q, z, e1, Rep.mono (imm_cut k) e2⟩
theorem enumD_len (xs : List D) : (enumD xs).length = xs.length := by simp [enumD]
theorem enumD_get {xs : List D} {i : Nat} {x : D} (h : xs[i]? = some x) : (enumD xs)[i]? = some (.tup [.int (i : Nat), x]) := by
  have hl := (List.getElem?_eq_some_iff.mp h).1
  unfold enumD
  rw [List.getElem?_zipWith, h, List.getElem?_range hl]
theorem walkD_enum {M : Addr → Bool} {H : Hp} {a : Addr} {vs : List V} {xs : List D} (h : SqL K (cut H M) a vs) (r : RepL G K (cut H M) xs vs) : WalkD G K (Ite K a) M H (enumD xs) where
  go := fun i H2 hi k => ⟨vs, vs[i]'(by rw [← r.length, ← enumD_len]; exact hi), sqL_mono (imm_le k) h, List.getElem?_eq_getElem _⟩
  stop := fun H2 k => ⟨vs, sqL_mono (imm_le k) h, by rw [enumD_len, r.length]; exact Nat.le_refl _⟩
  yld := fun i H2 M2 x H3 hi k d y => by
    obtain ⟨T, v, rfl, hT, rfl, y⟩ := y
    have hx := y vs (sqL_mono (imm_le fun a o e m => (k a o e m).1) h)
    obtain ⟨z, e1, e2⟩ := r.getV hx
    exact ⟨grow_upd hT, _, enumD_get e1, .tup (.inl (.inl (new_cut d hT))) (.cons (.int _) (.cons (Rep.mono (grow_cut (grow_upd hT)) (Rep.mono (imm_cut k) e2)) .nil))⟩
theorem walkD_enumT {M : Addr → Bool} {H : Hp} {a : Addr} {vs : List V} {xs : List D} (h : SqT K (cut H M) a vs) (r : RepL G K (cut H M) xs vs) : WalkD G K (Itet K a) M H (enumD xs) where
  go := fun i H2 hi k => ⟨vs, vs[i]'(by rw [← r.length, ← enumD_len]; exact hi), sqT_mono (imm_le k) h, List.getElem?_eq_getElem _⟩
  stop := fun H2 k => ⟨vs, sqT_mono (imm_le k) h, by rw [enumD_len, r.length]; exact Nat.le_refl _⟩
  yld := fun i H2 M2 x H3 hi k d y => by
    obtain ⟨T, v, rfl, hT, rfl, y⟩ := y
    have hx := y vs (sqT_mono (imm_le fun a o e m => (k a o e m).1) h)
    obtain ⟨z, e1, e2⟩ := r.getV hx
    exact ⟨grow_upd hT, _, enumD_get e1, .tup (.inl (.inl (new_cut d hT))) (.cons (.int _) (.cons (Rep.mono (grow_cut (grow_upd hT)) (Rep.mono (imm_cut k) e2)) .nil))⟩
theorem rangeD_len (lo : Int) (n : Nat) : (rangeD lo n).length = n := by simp [rangeD]
theorem walkD_range {M : Addr → Bool} {H : Hp} {lo : Int} {n : Nat} : WalkD G K (Itr lo n) M H (rangeD lo n) where
  go := fun i H2 hi k => by rw [rangeD_len] at hi; exact hi
  stop := fun H2 k => by rw [rangeD_len]; exact Nat.le_refl _
  yld := fun i H2 M2 x H3 hi k d y => by
    obtain ⟨rfl, rfl⟩ := y
    rw [rangeD_len] at hi
    exact ⟨fun _ _ q => q, .int (lo + (i : Nat)), by simp [rangeD, hi], .int _⟩
theorem dix_s {t : TE} {m : EM} (h : DEx G K Wx t m) : DIx G K Wx (iSeq K t) (iS m) := fun φ M ρ S σ H R s e p => by
  refine h φ M ρ S σ H _ s e ?_
  unfold iS at p
  cases q : m ρ S with
  | bad => simp only [q] at p
  | exc c fs S1 => simp only [q] at p; exact p
  | ok w S1 =>
    cases w with
    | h n => simp only [q] at p
    | d x =>
      simp only [q] at p
      refine fun φ1 M1 H1 v g s1 r => ?_
      have r : Rep G K (cut H1 M1) x v := r
      cases r with
      | tup hx rx => exact ⟨_, _, rfl, .inr ⟨sqT_mono cut_le hx, p φ1 M1 H1 _ g s1 (walkD_tup hx rx)⟩⟩
      | lst hx rx => exact ⟨_, _, rfl, .inl ⟨SqL.of (cut_le _ _ hx), p φ1 M1 H1 _ g s1 (walkD_list (SqL.of hx) rx)⟩⟩
      | lsk hx rx => exact ⟨_, _, rfl, .inl ⟨sqL_mono cut_le hx, p φ1 M1 H1 _ g s1 (walkD_list hx rx)⟩⟩
      | _ => exact p.elim
theorem dix_en {t : TE} {m : EM} (h : DEx G K Wx t m) : DIx G K Wx (iEnum2 K (tCons t tNil)) (iEn m) := fun φ M ρ S σ H R s e p => by
  refine h φ M ρ S σ H _ s e ?_
  unfold iEn at p
  cases q : m ρ S with
  | bad => simp only [q] at p
  | exc c fs S1 => simp only [q] at p; exact p
  | ok w S1 =>
    cases w with
    | h n => simp only [q] at p
    | d x =>
      simp only [q] at p
      refine fun φ1 M1 H1 v g s1 r => ?_
      have r : Rep G K (cut H1 M1) x v := r
      cases r with
      | tup hx rx => exact ⟨_, _, rfl, .inr ⟨sqT_mono cut_le hx, p φ1 M1 H1 _ g s1 (walkD_enumT hx rx)⟩⟩
      | lst hx rx => exact ⟨_, _, rfl, .inl ⟨SqL.of (cut_le _ _ hx), p φ1 M1 H1 _ g s1 (walkD_enum (SqL.of hx) rx)⟩⟩
      | lsk hx rx => exact ⟨_, _, rfl, .inl ⟨sqL_mono cut_le hx, p φ1 M1 H1 _ g s1 (walkD_enum hx rx)⟩⟩
      | _ => exact p.elim
theorem dix_r1 {t : TE} {m : EM} (h : DEx G K Wx t m) : DIx G K Wx (iRng1 (tCons t tNil)) (iR1 m) := fun φ M ρ S σ H R s e p => by
  refine h φ M ρ S σ H _ s e ?_
  unfold iR1 at p
  cases q : m ρ S with
  | bad => simp only [q] at p
  | exc c fs S1 => simp only [q] at p; exact p
  | ok w S1 =>
    cases w with
    | h n => simp only [q] at p
    | d x =>
      cases x with
      | int j =>
        simp only [q] at p
        refine fun φ1 M1 H1 v g s1 r => ?_
        cases r
        by_cases hj : okR j = true
        · rw [if_pos hj] at p
          exact ⟨j, rfl, (okR_ok hj).1, (okR_ok hj).2, p φ1 M1 H1 _ g s1 walkD_range⟩
        · rw [if_neg hj] at p; exact p.elim
      | _ => simp only [q] at p
theorem dix_r2 {t u : TE} {m m2 : EM} (h : DEx G K Wx t m) (h2 : DEx G K Wx u m2) : DIx G K Wx (iRng2 (tCons t (tCons u tNil))) (iR2 m m2) := fun φ M ρ S σ H R s e p => by
  refine h φ M ρ S σ H _ s e ?_
  unfold iR2 at p
  cases q : m ρ S with
  | bad => simp only [q] at p
  | exc c fs S1 => simp only [q] at p; exact p
  | ok w S1 =>
    cases w with
    | h n => simp only [q] at p
    | d x =>
      cases x with
      | int i =>
        simp only [q] at p
        refine fun φ1 M1 H1 v g s1 r => ?_
        cases r
        refine h2 φ1 M1 ρ S1 σ H1 _ s1 (e.ge g) ?_
        cases q2 : m2 ρ S1 with
        | bad => simp only [q2] at p
        | exc c fs S2 => simp only [q2] at p; exact PostX.ge g p
        | ok w2 S2 =>
          cases w2 with
          | h n => simp only [q2] at p
          | d y =>
            cases y with
            | int j =>
              simp only [q2] at p
              refine fun φ2 M2 H2 v2 g2 s2 r2 => ?_
              cases r2
              by_cases hj : (okR i && okR j) = true
              · rw [if_pos hj] at p
                rw [Bool.and_eq_true] at hj
                exact ⟨i, j, rfl, ⟨(okR_ok hj.1).1, (okR_ok hj.1).2, (okR_ok hj.2).1, (okR_ok hj.2).2⟩, p φ2 M2 H2 _ (g.trans g2) s2 walkD_range⟩
              · rw [if_neg hj] at p; exact p.elim
            | _ => simp only [q2] at p
      | _ => simp only [q] at p
end

/-! ### for -/
def loopM (g : TM) (b : SM) : List D → Env → Store → Out
  | [], ρ, S => .nx ρ S
  | x :: xs, ρ, S => match g (.d x) ρ S with
    | none => .bad
    | some (ρ1, S1) => (match b ρ1 S1 with
      | .nx ρ2 S2 => loopM g b xs ρ2 S2
      | .ct ρ2 S2 => loopM g b xs ρ2 S2
      | .bk ρ2 S2 => .nx ρ2 S2
      | o => o)
def sF (i : IM) (g : TM) (b : SM) : SM := fun ρ S => match i ρ S with
  | .ok xs S' => loopM g b xs ρ S'
  | .exc c fs S' => .exc ρ c fs S'
  | .bad => .bad
section
variable {G : Gv} {K : PySem.W.Frag} {Wx : WX}
theorem dsx_f {wi : TI} {g : TG} {tb : TS} {mi : IM} {mg : TM} {mb : SM} {is : List Nat} (hi : DIx G K Wx wi mi) (hg : DGx G K is g mg) (hb : DSx G K Wx tb mb) : DSx G K Wx (tFor wi g tb) (sF mi mg mb) := fun φ M ρ S σ H D s e p => by
  refine hi φ M ρ S σ H _ s e ?_
  unfold sF at p
  cases q : mi ρ S with
  | bad => simp only [q] at p; exact p
  | exc c fs S1 => simp only [q] at p; exact fun φ1 M1 H1 od g s1 x => p φ1 M1 H1 od σ g s1 (e.ge g) x
  | ok xs S1 =>
    simp only [q] at p
    refine fun φ1 M1 H1 J g1 s1 wd => ?_
    refine ⟨fun i m σ' H' => m = xs.length - i ∧ i ≤ xs.length ∧ ∃ φ2 M2 ρ2 S2, Ge φ1 M1 H1 φ2 M2 H' ∧ Sto G K φ2 M2 S2 H' ∧ EnvR G K φ2 M2 H' ρ2 σ' ∧ PostS G K φ2 M2 H' (loopM mg mb (xs.drop i) ρ2 S2) D Wx, ⟨_, rfl, Nat.zero_le _, φ1, M1, ρ, S1, s1.ge, s1, e.ge g1, PostS.ge g1 p⟩, ?_⟩
    rintro i m σ' H' ⟨rfl, hle, φ2, M2, ρ2, S2, g2, s2, e2, p2⟩
    have imm : ∀ a o, H1 a = some o → M1 a = false → H' a = some o := fun a o h m => (g2.imm a o h m).1
    by_cases hn : i = xs.length
    · subst hn
      rw [List.drop_of_length_le (Nat.le_refl _)] at p2
      exact .inl ⟨wd.stop H' imm, p2 φ2 M2 H' σ' s2.ge s2 e2⟩
    · have hlt : i < xs.length := by omega
      refine .inr ⟨wd.go i H' hlt imm, fun σ3 H3 => ∃ m', m' < xs.length - i ∧ (m' = xs.length - (i + 1) ∧ i + 1 ≤ xs.length ∧ ∃ φ2 M2 ρ2 S2, Ge φ1 M1 H1 φ2 M2 H3 ∧ Sto G K φ2 M2 S2 H3 ∧ EnvR G K φ2 M2 H3 ρ2 σ3 ∧ PostS G K φ2 M2 H3 (loopM mg mb (xs.drop (i + 1)) ρ2 S2) D Wx), fun σ3 H3 h => h, fun x H3 y => ?_⟩
      obtain ⟨gr, d, hd, rd⟩ := wd.yld i H' M2 x H3 hlt (fun a o h m => g2.imm a o h m) s2.dom y
      have hdrop : xs.drop i = d :: xs.drop (i + 1) := by
        have h1 := List.drop_eq_getElem_cons hlt
        have h2 := (List.getElem?_eq_some_iff.mp hd).2
        rw [h1, h2]
      rw [hdrop] at p2
      have g3 : Ge φ2 M2 H' φ2 M2 H3 := gr.ge s2.dom
      have s3 := s2.grow gr
      have p3 := PostS.ge g3 p2
      unfold loopM at p3
      cases q3 : mg (.d d) ρ2 S2 with
      | none => rw [q3] at p3; exact p3.elim
      | some o =>
        obtain ⟨ρ4, S4⟩ := o
        simp only [q3] at p3
        refine hg φ2 M2 ρ2 S2 σ' H3 (.d d) x _ ρ4 S4 s3 (e2.ge g3) rd q3 fun φ4 M4 H4 σ4 g4 s4 e4 _ _ => ?_
        refine hb φ4 M4 ρ4 S4 σ4 H4 _ s4 e4 ?_
        have p4 := PostS.ge g4 p3
        have gg : Ge φ1 M1 H1 φ4 M4 H4 := g2.trans (g3.trans g4)
        cases q4 : mb ρ4 S4 with
        | nx ρ5 S5 => simp only [q4] at p4; exact fun φ5 M5 H5 σ5 g5 s5 e5 => ⟨_, by omega, rfl, by omega, φ5, M5, ρ5, S5, gg.trans g5, s5, e5, PostS.ge g5 p4⟩
        | ct ρ5 S5 => simp only [q4] at p4; exact fun φ5 M5 H5 σ5 g5 s5 e5 => ⟨_, by omega, rfl, by omega, φ5, M5, ρ5, S5, gg.trans g5, s5, e5, PostS.ge g5 p4⟩
        | bk ρ5 S5 => simp only [q4] at p4; exact p4
        | rt w S5 => simp only [q4] at p4; exact p4
        | exc ρ5 c fs S5 => simp only [q4] at p4; exact p4
        | bad => simp only [q4] at p4; exact p4
end

/-! ### rules for statements -/
structure DG (X : Cx) (G : Gv) (K : PySem.W.Frag) (is : List Nat) (tg : Expr) (g : TG) (f : TM) : Prop where
  pg : PG X tg g
  dx : DGx G K is g f
structure DGs (X : Cx) (G : Gv) (K : PySem.W.Frag) (is : List Nat) (tg : List Expr) (g : TGs) (f : TMs) : Prop where
  pg : PGs X tg g
  dx : DGsx G K is g f
section
variable {X : Cx} {G : Gv} {K : PySem.W.Frag} {Wx : WX} {e o : Expr} {te to ti : TE} {m mo mi : EM} {pos : Pos} {st : Stmt} {rest : List Stmt} {t u : TS} {a b : SM}
theorem ds_e (he : DE X G K Wx e te m) (hs : swapsWith e none pos.line X.env = pure false := by rfl) : DS X G K Wx (.Expr e pos) (tDrop te) (sE m) := ⟨ps_expr he.pe hs, dsx_e he.dx⟩
theorem ds_r (he : DE X G K Wx e te m) : DS X G K Wx (.Return (some e) pos) (tRet te) (sR m) := ⟨ps_ret he.pe, dsx_r he.dx⟩
theorem ds_rn : DS X G K Wx (.Return none pos) tRetN sRN := ⟨ps_retN, dsx_rn⟩
theorem ds_p : DS X G K Wx (.Pass pos) tNext sP := ⟨ps_pass, dsx_p⟩
theorem ds_bk : DS X G K Wx (.Break pos) tBreak sBk := ⟨ps_break, dsx_bk⟩
theorem ds_ct : DS X G K Wx (.Continue pos) tCont sCt := ⟨ps_continue, dsx_ct⟩
theorem db_nil : DB X G K Wx [] tNext sP := ⟨pss_nil, dsx_p⟩
theorem db_cons (h1 : DS X G K Wx st t a) (h2 : DB X G K Wx rest u b) : DB X G K Wx (st :: rest) (tSeq t u) (sQ a b) := ⟨pss_cons h1.ps h2.ps, dsx_q h1.dx h2.dx⟩
theorem db_one (h1 : DS X G K Wx st t a) : DB X G K Wx [st] t a := ⟨pss_one h1.ps, h1.dx⟩
theorem ds_i {c : Expr} {x y : List Stmt} {tc : TT} {mc : EM} (hc : DT X G K Wx c tc mc) (ha : DB X G K Wx x t a) (hb : DB X G K Wx y u b) : DS X G K Wx (.If c x y pos) (tIfS tc t u) (sI mc a b) := ⟨ps_if hc.pt ha.ps hb.ps, dsx_i hc.dx ha.dx hb.dx⟩
theorem dg_n {i : Nat} {x : Str} (hN : X.N.Nodup) (hi : X.N[i]? = some x := by rfl) (hx : Loc X.env.scope x := by first | exact Or.inl rfl | exact Or.inr rfl) (hf : X.fn x = true ∨ X.env.scope.names.lookup x = some .local := by first | exact .inl rfl | exact .inr rfl) : DG X G K [i] (.Name x pos) (gName i) (gN i) := ⟨pg_name hN hi hx hf, dgx_n⟩
theorem dgs_0 : DGs X G K [] [] gNil gs0 := ⟨pgs_nil, dgs_nil⟩
theorem dgs_c {is js : List Nat} {es : List Expr} {g : TG} {gs : TGs} {f : TM} {fs : TMs} (h1 : DG X G K is e g f) (h2 : DGs X G K js es gs fs) (hs : (assignEach (e :: es) X.env).map (·.2) = assign e X.env :: (assignEach es X.env).map (·.2) := by rfl) : DGs X G K (is ++ js) (e :: es) (gCons g gs) (gsC f fs) := ⟨pgs_cons h1.pg h2.pg hs, dgs_cons h1.dx h2.dx⟩
theorem dg_t {is : List Nat} {es : List Expr} {k n : Nat} {gs : TGs} {fs : TMs} (hK : X.K = K) (hc : X.calm = true) (h : DGs X G K is es gs fs) (hn : (assignEach es X.env).length = n := by rfl) (hst : (assignEach es X.env).findIdx? (·.1) = none := by rfl) : DG X G K is (.Tuple es k pos) (gTup K n gs) (gT n fs) := by
  subst hK; exact ⟨pg_tup hc h.pg hn hst, dgx_t h.dx⟩
theorem dg_x {i : Expr} (ho : DE X G K (fun _ _ _ _ => False) o to mo) (hi : DE X G K (fun _ _ _ _ => False) i ti mi) (ha : ∀ v, assign (.Subscript o i pos) X.env v = (do let ov ← holding [v] (eval o X.env); let iv ← holding [v, ov] (eval i X.env); standAt pos; holding [v, ov, iv] (setItem ov iv v); release [v, ov, iv] []) := by intro _; rfl) : DG X G K [] (.Subscript o i pos) (gSub to ti rSetL) (gX mo mi) := ⟨pg_sub ho.pe hi.pe set_list ha, dgx_x ho.dx hi.dx⟩
theorem ds_a {tg : Expr} {is : List Nat} {g : TG} {f : TM} (he : DE X G K Wx e te m) (hg : DG X G K is tg g f) (hs : swapsWithSole [tg] e pos.line X.env = pure false := by rfl) (hw : swappedStores [tg] e X.env = pure none := by rfl) (h1 : (assignEach [tg] X.env).map (·.2) = [assign tg X.env] := by rfl) : DS X G K Wx (.Assign [tg] e pos) (tAsg te g) (sA m f) := ⟨ps_asg he.pe hg.pg hs hw h1, dsx_a he.dx hg.dx⟩
theorem ds_s {i : Nat} {x : Str} {p2 : Pos} (hN : X.N.Nodup) (he : DE X G K Wx e te m) (hi : X.N[i]? = some x := by rfl) (hx : Loc X.env.scope x := by first | exact Or.inl rfl | exact Or.inr rfl) (hs : swapsWith e (some (.Name x p2)) pos.line X.env = pure false := by rfl) (hf : X.fn x = true ∨ X.env.scope.names.lookup x = some .local := by first | exact .inl rfl | exact .inr rfl) : DS X G K Wx (.Assign [.Name x p2] e pos) (tAsg te (gName i)) (sA m (gN i)) := ⟨ps_set hN hi hx he.pe hs hf, dsx_a he.dx dgx_n⟩
theorem ds_par2 {i j : Nat} {x y : Str} {c d : Expr} {ta : TA} {ml : LM} {px py pt : Pos} {kt k2 pt2} (hc : X.calm = true) (hN : X.N.Nodup) (ha : DA X G K Wx [c, d] ta ml) (hi : X.N[i]? = some x := by rfl) (hj : X.N[j]? = some y := by rfl) (hij : i ≠ j := by decide) (hx : X.env.scope.names.lookup x = some .local := by rfl) (hy : X.env.scope.names.lookup y = some .local := by rfl) (hw : swappedStores [.Tuple [.Name x px, .Name y py] kt pt] (.Tuple [c, d] k2 pt2) X.env = pure (some [x, y]) := by rfl) (hs : swapsWithSole [.Tuple [.Name x px, .Name y py] kt pt] (.Tuple [c, d] k2 pt2) pos.line X.env = pure false := by rfl) : DS X G K Wx (.Assign [.Tuple [.Name x px, .Name y py] kt pt] (.Tuple [c, d] k2 pt2) pos) (tPar i j ta) (sPar [i, j] ml) := ⟨ps_par hc hN hi hj hij hx hy ha.pa hw hs, dsx_par2 ha.dx⟩
theorem ds_par3 {i j l : Nat} {x y z : Str} {c d e' : Expr} {ta : TA} {ml : LM} {px py pz pt : Pos} {kt k2 pt2} (hc : X.calm = true) (hN : X.N.Nodup) (ha : DA X G K Wx [c, d, e'] ta ml) (hi : X.N[i]? = some x := by rfl) (hj : X.N[j]? = some y := by rfl) (hl : X.N[l]? = some z := by rfl) (hij : i ≠ j := by decide) (hil : i ≠ l := by decide) (hjl : j ≠ l := by decide) (hx : X.env.scope.names.lookup x = some .local := by rfl) (hy : X.env.scope.names.lookup y = some .local := by rfl) (hz : X.env.scope.names.lookup z = some .local := by rfl) (hw : swappedStores [.Tuple [.Name x px, .Name y py, .Name z pz] kt pt] (.Tuple [c, d, e'] k2 pt2) X.env = pure (some [x, y, z]) := by rfl) (hs : swapsWithSole [.Tuple [.Name x px, .Name y py, .Name z pz] kt pt] (.Tuple [c, d, e'] k2 pt2) pos.line X.env = pure false := by rfl) : DS X G K Wx (.Assign [.Tuple [.Name x px, .Name y py, .Name z pz] kt pt] (.Tuple [c, d, e'] k2 pt2) pos) (tPar3 i j l ta) (sPar [i, j, l] ml) := ⟨ps_par3 hc hN hi hj hl hij hil hjl hx hy hz ha.pa hw hs, dsx_par3 ha.dx⟩
theorem ds_f {tg iter : Expr} {body : List Stmt} {is : List Nat} {wi : TI} {g : TG} {mw : IM} {f : TM} (hp : PassesOwn (model X.prog X.w) X.A X.env X.xe) (hc : X.calm = true) (hi : DI X G K Wx tg iter wi mw) (hg : DG X G K is tg g f) (hb : DB X G K Wx body t a) (hs : ∀ x, foldedSetIterable iter X.env x = pure x := by intro _; rfl) : DS X G K Wx (.For tg iter body [] pos) (tFor wi g t) (sF mw f a) := ⟨ps_for hp hc hi.pi hg.pg hb.ps hs, dsx_f hi.dx hg.dx hb.dx⟩
variable {tg : Expr} {p : Pos}
theorem di_s (hK : X.K = K) (he : DE X G K Wx e te m) : DI X G K Wx tg e (iSeq K te) (iS m) := by subst hK; exact ⟨pi_seq he.pe, dix_s he.dx⟩
theorem di_en {elts : List Expr} {kk : Nat} {tpos : Pos} (hK : X.K = K) (hg : Gl X "enumerate") (hm : X.mg "enumerate" = none) (he : DE X G K Wx e te m) (h0 : starEach (e :: []) X.env = (false, eval e X.env) :: starEach [] X.env := by rfl) (hs : starEach [e] X.env = [(false, eval e X.env)] := by rfl) : DI X G K Wx (.Tuple elts kk tpos) (.Call (.Name "enumerate" p) [e] [] pos) (iEnum2 K (tCons te tNil)) (iEn m) := by subst hK; exact ⟨pi_enum2 hg hm (pa_cons he.pe pa_nil h0) hs, dix_en he.dx⟩
theorem di_r1 (hg : Gl X "range") (hm : X.mg "range" = none) (he : DE X G K Wx e te m) (h0 : starEach (e :: []) X.env = (false, eval e X.env) :: starEach [] X.env := by rfl) (hs : starEach [e] X.env = [(false, eval e X.env)] := by rfl) : DI X G K Wx tg (.Call (.Name "range" p) [e] [] pos) (iRng1 (tCons te tNil)) (iR1 m) := ⟨pi_range1 hg hm (pa_cons he.pe pa_nil h0) hs, dix_r1 he.dx⟩
theorem di_r2 (hg : Gl X "range") (hm : X.mg "range" = none) (ho : DE X G K Wx o to mo) (he : DE X G K Wx e te m) (h0 : starEach (o :: [e]) X.env = (false, eval o X.env) :: starEach [e] X.env := by rfl) (h1 : starEach (e :: []) X.env = (false, eval e X.env) :: starEach [] X.env := by rfl) (hs : starEach [o, e] X.env = [(false, eval o X.env), (false, eval e X.env)] := by rfl) (hs2 : starEach [e] X.env = [(false, eval e X.env)] := by rfl) : DI X G K Wx tg (.Call (.Name "range" p) [o, e] [] pos) (iRng2 (tCons to (tCons te tNil))) (iR2 mo m) := ⟨pi_range2 hg hm (pa_cons ho.pe (pa_cons he.pe pa_nil h1) h0) hs hs2, dix_r2 ho.dx he.dx⟩
end

/-! ### list comprehensions -/
def wipeE (ρ : Env) : List Nat → Env
  | [] => ρ
  | v :: vs => (wipeE ρ vs).set v none
def lcM (fin : List D → Store → RW) (g : TM) (c e : EM) (ρ : Env) : List D → List D → Store → RW
  | [], acc, S => fin acc S
  | x :: xs, acc, S => match g (.d x) ρ S with
    | none => .bad
    | some (ρ1, S1) => (match c ρ1 S1 with
      | .ok (.d (.bl true)) S2 => (match e ρ1 S2 with
        | .ok (.d y) S3 => lcM fin g c e ρ xs (acc ++ [y]) S3
        | _ => .bad)
      | .ok (.d (.bl false)) S2 => lcM fin g c e ρ xs acc S2
      | _ => .bad)
def finF : List D → Store → RW := fun acc S => .ok (.d (.lst acc)) S
def finC : List D → Store → RW := fun acc S => .ok (.h S.length) (S ++ [.lst acc])
def eLcG (fin : List D → Store → RW) (vs : List Nat) (i : IM) (g : TM) (c e : EM) : EM := fun ρ S => match i ρ S with
  | .ok xs S' => if xs.length ≤ sizeLine then lcM fin g c e (wipeE ρ vs) xs [] S' else .bad
  | .exc c fs S' => .exc c fs S'
  | .bad => .bad
abbrev eLc := eLcG finF
abbrev eLcC := eLcG finC
def eYes : EM := fun _ S => .ok (.d (.bl true)) S
section
variable {G : Gv} {K : PySem.W.Frag} {Wx : WX}
theorem wipeE_len (ρ : Env) : ∀ vs, (wipeE ρ vs).length = ρ.length
  | [] => rfl
  | v :: vs => by rw [wipeE, List.length_set, wipeE_len]
theorem EnvR.wipe {φ M H ρ σ} (e : EnvR G K φ M H ρ σ) : ∀ vs, EnvR G K φ M H (wipeE ρ vs) (L2.wipe σ vs)
  | [] => e
  | v :: vs => (EnvR.wipe e vs).unset v none
theorem wipe_get {σ : L2.St} {j : Nat} : ∀ {vs : List Nat}, j ∈ vs → j < σ.length → (L2.wipe σ vs)[j]? = some none
  | [], h, _ => by cases h
  | v :: vs, h, hl => by
    by_cases hj : j = v
    · subst hj
      rw [L2.wipe, List.getElem?_set_self (by rw [wipe_length]; exact hl)]
    · rw [L2.wipe, List.getElem?_set_ne (Ne.symm hj)]
      exact wipe_get (by
        rcases List.mem_cons.mp h with z | z
        · exact (hj z).elim
        · exact z) hl
theorem wipe_eq {σ τ : L2.St} {vs : List Nat} (hl : σ.length = τ.length) (h : ∀ j, j ∉ vs → σ[j]? = τ[j]?) : L2.wipe σ vs = L2.wipe τ vs := by
  refine List.ext_getElem? fun j => ?_
  by_cases hj : j ∈ vs
  · by_cases hlt : j < σ.length
    · rw [wipe_get hj hlt, wipe_get hj (hl ▸ hlt)]
    · rw [List.getElem?_eq_none (by rw [wipe_length]; omega), List.getElem?_eq_none (by rw [wipe_length]; omega)]
  · rw [wipe_out hj, wipe_out hj, h j hj]
theorem wipe_wipe (σ : L2.St) (vs : List Nat) : L2.wipe (L2.wipe σ vs) vs = L2.wipe σ vs := wipe_eq (wipe_length σ vs) fun j hj => by rw [wipe_out hj]
/-- one address less that may change -/
def unM (M : Addr → Bool) (a : Addr) : Addr → Bool := fun b => M b && !decide (b = a)
theorem unM_self {M : Addr → Bool} {a : Addr} : unM M a a = false := by simp [unM]
theorem unM_ne {M : Addr → Bool} {a b : Addr} (h : b ≠ a) : unM M a b = M b := by simp [unM, h]
theorem unM_t {M : Addr → Bool} {a b : Addr} (h : unM M a b = true) : M b = true ∧ b ≠ a := by
  simpa [unM] using h
theorem unM_f {M : Addr → Bool} {a b : Addr} (h : M b = false) : unM M a b = false := by simp [unM, h]
theorem unM_cut {M : Addr → Bool} {H : Hp} {a : Addr} : Grow (cut H M) (cut H (unM M a)) := fun b o e => by
  obtain ⟨m, h⟩ := cut_some e
  rw [cut_f (unM_f m)]; exact h
theorem RepWL.mono' {φ : List Addr} {H H' : Hp} (k : Grow H H') {ws : List W} {vs : List V} (r : RepWL G K φ H ws vs) : RepWL G K φ H' ws vs := Paired.mapP r fun w v h => by
  cases w with
  | d x => exact Rep.mono k h
  | h n => exact h
theorem RepW.mono' {φ : List Addr} {H H' : Hp} (k : Grow H H') {w : W} {v : V} (h : RepW G K φ H w v) : RepW G K φ H' w v := by
  cases w with
  | d x => exact Rep.mono k h
  | h n => exact h
/-- an address that is no live cell's is let go -/
theorem Sto.unM {φ : List Addr} {M : Addr → Bool} {S : Store} {H : Hp} {a : Addr} (s : Sto G K φ M S H) (h : ∀ n : Nat, φ[n]? = some a → S[n]? = some Cell.dead) : Sto G K φ (DN.unM M a) S H := by
  refine ⟨s.len, s.nd, fun b hb => s.dom b (unM_t hb).1, s.inn, fun n c b e1 e2 => ?_⟩
  have cr := s.cells n c b e1 e2
  by_cases hb : b = a
  · subst hb
    rw [h n e2] at e1
    cases e1
    trivial
  · cases c with
    | dead => trivial
    | lst xs => obtain ⟨m, vs, hl, r⟩ := cr; exact ⟨by rw [unM_ne hb]; exact m, vs, hl, RepL.mono unM_cut r⟩
    | dct kvs => obtain ⟨m, vs, hl, r⟩ := cr; exact ⟨by rw [unM_ne hb]; exact m, vs, hl, r⟩
    | ins c fs => obtain ⟨m, dx, fvs, hl, r⟩ := cr; exact ⟨by rw [unM_ne hb]; exact m, dx, fvs, hl, Paired.mapP r fun p q z => ⟨z.1, RepW.mono' unM_cut z.2⟩⟩
/-- a foreign mutable object is written -/
theorem Sto.foreign {φ : List Addr} {M : Addr → Bool} {S : Store} {H : Hp} {a : Addr} {o : HO} (s : Sto G K φ M S H) (m : M a = true) (h : a ∉ φ) (ho : ∀ xs, o ≠ .tup xs) : Sto G K φ M S (upd H a o) := by
  refine ⟨s.len, s.nd, fun b hb => ?_, fun b hb => ?_, fun n c b e1 e2 => ?_⟩
  · by_cases hba : b = a
    · subst hba; rw [upd_same]; exact mob_of ho
    · rw [upd_ne hba]; exact s.dom b hb
  · by_cases hba : b = a
    · subst hba; rw [upd_same]; simp
    · rw [upd_ne hba]; exact s.inn b hb
  · have cr := s.cells n c b e1 e2
    have hba : b ≠ a := fun z => h (z ▸ List.mem_of_getElem? e2)
    cases c with
    | dead => trivial
    | lst xs => obtain ⟨m', vs, hl, r⟩ := cr; exact ⟨m', vs, by rw [upd_ne hba]; exact hl, by rw [cut_upd m]; exact r⟩
    | dct kvs => obtain ⟨m', vs, hl, r⟩ := cr; exact ⟨m', vs, by rw [upd_ne hba]; exact hl, r⟩
    | ins c fs => obtain ⟨m', dx, fvs, hl, r⟩ := cr; exact ⟨m', dx, fvs, by rw [upd_ne hba]; exact hl, by rw [cut_upd m]; exact r⟩
def addM (M : Addr → Bool) (a : Addr) : Addr → Bool := fun b => decide (b = a) || M b
theorem addM_self {M : Addr → Bool} {a : Addr} : addM M a a = true := by simp [addM]
theorem addM_ne {M : Addr → Bool} {a b : Addr} (h : b ≠ a) : addM M a b = M b := by simp [addM, h]
theorem addM_cut {M : Addr → Bool} {H : Hp} {a : Addr} {o : HO} (h : H a = none) : Grow (cut H M) (cut (upd H a o) (addM M a)) := fun b u e => by
  obtain ⟨m, q⟩ := cut_some e
  have hb : b ≠ a := ne_of_none q h
  rw [cut_f (by rw [addM_ne hb]; exact m), upd_ne hb]; exact q
/-- a new object that is tracked beside -/
theorem Sto.addM {φ : List Addr} {M : Addr → Bool} {S : Store} {H : Hp} {a : Addr} {o : HO} (s : Sto G K φ M S H) (h : H a = none) (ho : ∀ xs, o ≠ .tup xs) : Sto G K φ (DN.addM M a) S (upd H a o) ∧ Ge φ M H φ (DN.addM M a) (upd H a o) ∧ a ∉ φ := by
  have hφ : a ∉ φ := fun z => s.inn a z h
  refine ⟨⟨s.len, s.nd, fun b hb => ?_, fun b hb => ?_, fun n c b e1 e2 => ?_⟩, ⟨⟨[], by simp⟩, s.dom, fun b u e m => ?_, fun b m n => ?_, fun b z n => (n z).elim⟩, hφ⟩
  · by_cases hba : b = a
    · subst hba; rw [upd_same]; exact mob_of ho
    · rw [upd_ne hba]; exact s.dom b (by rw [addM_ne hba] at hb; exact hb)
  · by_cases hba : b = a
    · subst hba; rw [upd_same]; simp
    · rw [upd_ne hba]; exact s.inn b hb
  · have cr := s.cells n c b e1 e2
    have hba : b ≠ a := fun z => hφ (z ▸ List.mem_of_getElem? e2)
    cases c with
    | dead => trivial
    | lst xs => obtain ⟨m', vs, hl, r⟩ := cr; exact ⟨by rw [addM_ne hba]; exact m', vs, by rw [upd_ne hba]; exact hl, RepL.mono (addM_cut h) r⟩
    | dct kvs => obtain ⟨m', vs, hl, r⟩ := cr; exact ⟨by rw [addM_ne hba]; exact m', vs, by rw [upd_ne hba]; exact hl, r⟩
    | ins c fs => obtain ⟨m', dx, fvs, hl, r⟩ := cr; exact ⟨by rw [addM_ne hba]; exact m', dx, fvs, by rw [upd_ne hba]; exact hl, Paired.mapP r fun p q z => ⟨z.1, RepW.mono' (addM_cut h) z.2⟩⟩
  · have hb : b ≠ a := ne_of_none e h
    exact ⟨by rw [upd_ne hb]; exact e, by rw [addM_ne hb]; exact m⟩
  · have hb : b ≠ a := fun z => (s.dom b m).1 (z ▸ h)
    exact ⟨by rw [upd_ne hb], by rw [addM_ne hb]; exact m⟩
theorem dx_lcG {fin : List D → Store → RW} (hfin : ∀ φ1 M1 H1 φ2 M2 S2 H' acc vacc Dn Q E, Ge φ1 M1 H1 φ2 M2 H' → Sto G K φ2 M2 S2 H' → M1 Dn = false → H1 Dn = none → M2 Dn = true → Dn ∉ φ2 → H' Dn = some (.lst vacc) → RepL G K (cut H' M2) acc vacc → PostE G K φ1 M1 H1 (fin acc S2) Q E → Q (.ref Dn) H')
    {wi : TI} {g : TG} {tt : TT} {te : TE} {vs is : List Nat} {mi : IM} {mg : TM} {mc me : EM} (hi : DIx G K Wx wi mi) (hg : DGx G K is g mg) (hv : ∀ j ∈ is, j ∈ vs) (hc : DTx G K (fun _ _ _ _ => False) tt mc) (he : DEx G K (fun _ _ _ _ => False) te me) : DEx G K Wx (tLc wi g tt te vs) (eLcG fin vs mi mg mc me) := fun φ M ρ S σ H Q s e p => by
  refine hi φ M ρ S σ H _ s e ?_
  unfold eLcG at p
  cases q : mi ρ S with
  | bad => simp only [q] at p; exact p
  | exc c fs S1 => simp only [q] at p; exact p
  | ok xs S1 =>
    simp only [q] at p
    refine fun φ1 M1 H1 J g1 s1 wd Dn hD => ?_
    by_cases hsz : xs.length ≤ sizeLine
    · rw [if_pos hsz] at p
      have pp := PostE.ge g1 p
      have e1 := e.ge g1
      have hDM : M1 Dn = false := new_M s1.dom hD
      obtain ⟨s0, g0, hDφ⟩ := s1.addM (o := .lst []) hD (by intro _ h; cases h)
      refine ⟨fun i m H' => m = xs.length - i ∧ i ≤ xs.length ∧ ∃ φ2 M2 S2 acc vacc, Ge φ1 M1 H1 φ2 M2 H' ∧ Sto G K φ2 M2 S2 H' ∧ M2 Dn = true ∧ Dn ∉ φ2 ∧ H' Dn = some (.lst vacc) ∧ RepL G K (cut H' M2) acc vacc ∧ acc.length ≤ i ∧
        PostE G K φ1 M1 H1 (lcM fin mg mc me (wipeE ρ vs) (xs.drop i) acc S2) Q (fun c d H' => Wx c d σ H'),
        ⟨_, rfl, Nat.zero_le _, φ1, addM M1 Dn, S1, [], [], g0, s0, addM_self, hDφ, upd_same, .nil, Nat.le_refl _, pp⟩, ?_⟩
      rintro i m H' ⟨rfl, hle, φ2, M2, S2, acc, vacc, g2, s2, mD, nD, hl, rl, hal, p2⟩
      have imm : ∀ a o, H1 a = some o → M1 a = false → H' a = some o := fun a o h m => (g2.imm a o h m).1
      by_cases hn : i = xs.length
      · subst hn
        rw [List.drop_of_length_le (Nat.le_refl _)] at p2
        exact .inl ⟨wd.stop H' imm, hfin φ1 M1 H1 φ2 M2 S2 H' acc vacc Dn Q _ g2 s2 hDM hD mD nD hl rl p2⟩
      · have hlt : i < xs.length := by omega
        refine .inr ⟨wd.go i H' hlt imm, fun H3 => ∃ m', m' < xs.length - i ∧ (m' = xs.length - (i + 1) ∧ i + 1 ≤ xs.length ∧ ∃ φ2 M2 S2 acc vacc, Ge φ1 M1 H1 φ2 M2 H3 ∧ Sto G K φ2 M2 S2 H3 ∧ M2 Dn = true ∧ Dn ∉ φ2 ∧ H3 Dn = some (.lst vacc) ∧ RepL G K (cut H3 M2) acc vacc ∧ acc.length ≤ i + 1 ∧
          PostE G K φ1 M1 H1 (lcM fin mg mc me (wipeE ρ vs) (xs.drop (i + 1)) acc S2) Q (fun c d H' => Wx c d σ H')), fun H3 h => h, fun x H3 y => ?_⟩
        obtain ⟨gr, d, hd, rd⟩ := wd.yld i H' M2 x H3 hlt (fun a o h m => g2.imm a o h m) s2.dom y
        have hdrop : xs.drop i = d :: xs.drop (i + 1) := by
          have h1 := List.drop_eq_getElem_cons hlt
          have h2 := (List.getElem?_eq_some_iff.mp hd).2
          rw [h1, h2]
        rw [hdrop] at p2
        have g3 : Ge φ2 M2 H' φ2 M2 H3 := gr.ge s2.dom
        have s3 := s2.grow gr
        -- what stays through the turn
        have stay : ∀ {φ5 M5 H5}, Ge φ2 M2 H' φ5 M5 H5 → H5 Dn = some (.lst vacc) ∧ M5 Dn = true ∧ Dn ∉ φ5 := fun {φ5 M5 H5} g5 => by
          have h1 := g5.frn Dn mD nD
          refine ⟨h1.1.trans hl, h1.2, fun z => ?_⟩
          have := g5.new Dn z nD
          rw [hl] at this; cases this
        unfold lcM at p2
        cases q3 : mg (.d d) (wipeE ρ vs) S2 with
        | none => rw [q3] at p2; exact p2.elim
        | some o =>
          obtain ⟨ρ4, S4⟩ := o
          simp only [q3] at p2
          have ew : EnvR G K φ2 M2 H3 (wipeE ρ vs) (L2.wipe σ vs) := (e1.wipe vs).ge (g2.trans g3)
          refine hg φ2 M2 _ S2 _ H3 (.d d) x _ ρ4 S4 s3 ew rd q3 fun φ4 M4 H4 σ4 g4 s4 e4 l4 o4 => ?_
          refine ⟨?_, ?_⟩
          · rw [← wipe_wipe σ vs]
            exact wipe_eq l4 fun j hj => o4 j fun z => hj (hv j z)
          · refine hc φ4 M4 ρ4 S4 σ4 H4 _ s4 e4 ?_
            cases q4 : mc ρ4 S4 with
            | bad => simp only [q4] at p2; exact p2.elim
            | exc c fs S5 => simp only [q4] at p2; exact p2.elim
            | ok wc S5 =>
              cases wc with
              | h n => simp only [q4] at p2; exact p2.elim
              | d xc =>
                cases xc with
                | bl b =>
                  cases b with
                  | false =>
                    simp only [q4] at p2
                    refine fun φ5 M5 H5 g5 s5 => iteF ?_
                    have gt := g3.trans (g4.trans g5)
                    obtain ⟨h1, h2, h3⟩ := stay gt
                    exact ⟨_, by omega, rfl, by omega, φ5, M5, S5, acc, vacc, g2.trans gt, s5, h2, h3, h1, RepL.mono gt.cut rl, by omega, p2⟩
                  | true =>
                    simp only [q4] at p2
                    refine fun φ5 M5 H5 g5 s5 => iteT ?_
                    refine he φ5 M5 ρ4 S5 σ4 H5 _ s5 (e4.ge g5) ?_
                    cases q5 : me ρ4 S5 with
                    | bad => simp only [q5] at p2; exact p2.elim
                    | exc c fs S6 => simp only [q5] at p2; exact p2.elim
                    | ok we S6 =>
                      cases we with
                      | h n => simp only [q5] at p2; exact p2.elim
                      | d y =>
                        simp only [q5] at p2
                        refine fun φ6 M6 H6 vy g6 s6 ry => ?_
                        have gt := g3.trans (g4.trans (g5.trans g6))
                        obtain ⟨h1, h2, h3⟩ := stay gt
                        have rl6 := RepL.mono gt.cut rl
                        refine ⟨vacc, h1, by rw [← rl.length]; omega, _, by omega, rfl, by omega, φ6, M6, S6, acc ++ [y], vacc ++ [vy], ?_, s6.foreign h2 h3 (by intro _ h; cases h), h2, h3, upd_same, by rw [cut_upd h2]; exact rl6.append (.cons ry .nil), by simp; omega, p2⟩
                        have gg := g2.trans gt
                        refine ⟨gg.pre, gg.dom, fun a o h m => ?_, fun a m n => ?_, gg.new⟩
                        · have hb : a ≠ Dn := ne_of_none h hD
                          rw [upd_ne hb]; exact gg.imm a o h m
                        · have hb : a ≠ Dn := fun z => by rw [z, hDM] at m; cases m
                          rw [upd_ne hb]; exact gg.frn a m n
                | _ => simp only [q4] at p2; exact p2.elim
    · rw [if_neg hsz] at p; exact p.elim
theorem finF_ok : ∀ φ1 M1 H1 φ2 M2 S2 H' acc vacc Dn Q E, Ge φ1 M1 H1 φ2 M2 H' → Sto G K φ2 M2 S2 H' → M1 Dn = false → H1 Dn = none → M2 Dn = true → Dn ∉ φ2 → H' Dn = some (.lst vacc) → RepL G K (cut H' M2) acc vacc → PostE G K φ1 M1 H1 (finF acc S2) Q E → Q (.ref Dn) H' := by
  intro φ1 M1 H1 φ2 M2 S2 H' acc vacc Dn Q E g2 s2 hDM hD mD nD hl rl p2
  refine p2 φ2 (unM M2 Dn) H' (.ref Dn) ?_ (s2.unM fun n hn => (nD (List.mem_of_getElem? hn)).elim) (.lst (by rw [cut_f unM_self]; exact hl) (RepL.mono unM_cut rl))
  refine ⟨g2.pre, g2.dom, fun a o h m => ⟨(g2.imm a o h m).1, unM_f (g2.imm a o h m).2⟩, fun a m n => ?_, g2.new⟩
  have h1 := g2.frn a m n
  exact ⟨h1.1, by rw [unM_ne (fun z => by rw [z, hDM] at m; cases m)]; exact h1.2⟩
/-- a foreign mutable object becomes a cell -/
theorem Sto.cell {φ : List Addr} {M : Addr → Bool} {S : Store} {H : Hp} {a : Addr} {c : Cell} (s : Sto G K φ M S H) (h : a ∉ φ) (hn : H a ≠ none) (cr : CellRep G K (φ ++ [a]) M H a c) : Sto G K (φ ++ [a]) M (S ++ [c]) H := by
  refine ⟨by simp [s.len], ?_, s.dom, fun b hb => ?_, fun n c' b e1 e2 => ?_⟩
  · refine List.nodup_append.mpr ⟨s.nd, by simp, fun x hx y hy => ?_⟩
    have : y = a := by simpa using hy
    subst this
    exact fun z => h (z ▸ hx)
  · rcases List.mem_append.mp hb with z | z
    · exact s.inn b z
    · have : b = a := by simpa using z
      subst this; exact hn
  · by_cases hlt : n < φ.length
    · rw [List.getElem?_append_left hlt] at e2
      rw [List.getElem?_append_left (by rw [← s.len]; exact hlt)] at e1
      have cr' := s.cells n c' b e1 e2
      cases c' with
      | dead => trivial
      | lst xs => exact cr'
      | dct kvs =>
        obtain ⟨m, vs, h1, t⟩ := cr'
        refine ⟨m, vs, h1, Paired.mapP t fun p q z => ⟨z.1, ?_⟩⟩
        obtain ⟨a', e, q'⟩ := z.2
        exact ⟨a', by rw [List.getElem?_append_left (List.getElem?_eq_some_iff.mp e).1]; exact e, q'⟩
      | ins k fs =>
        obtain ⟨m, dx, fvs, h1, t⟩ := cr'
        refine ⟨m, dx, fvs, h1, Paired.mapP t fun p q z => ⟨z.1, ?_⟩⟩
        have z2 := z.2
        cases hp : p.2 with
        | d x => rw [hp] at z2; exact z2
        | h k' =>
          rw [hp] at z2
          obtain ⟨a', e, q'⟩ := z2
          exact ⟨a', by rw [List.getElem?_append_left (List.getElem?_eq_some_iff.mp e).1]; exact e, q'⟩
    · have hge : φ.length ≤ n := Nat.le_of_not_lt hlt
      rw [List.getElem?_append_right hge] at e2
      rw [List.getElem?_append_right (by rw [← s.len]; exact hge)] at e1
      have h0 : n - φ.length = 0 := by
        have := (List.getElem?_eq_some_iff.mp e2).1
        simp at this; omega
      rw [h0] at e2
      rw [← s.len, h0] at e1
      have e1' : c = c' := by simpa using e1
      have e2' : a = b := by simpa using e2
      subst e1' e2'
      exact cr
theorem finC_ok : ∀ φ1 M1 H1 φ2 M2 S2 H' acc vacc Dn Q E, Ge φ1 M1 H1 φ2 M2 H' → Sto G K φ2 M2 S2 H' → M1 Dn = false → H1 Dn = none → M2 Dn = true → Dn ∉ φ2 → H' Dn = some (.lst vacc) → RepL G K (cut H' M2) acc vacc → PostE G K φ1 M1 H1 (finC acc S2) Q E → Q (.ref Dn) H' := by
  intro φ1 M1 H1 φ2 M2 S2 H' acc vacc Dn Q E g2 s2 hDM hD mD nD hl rl p2
  refine p2 (φ2 ++ [Dn]) M2 H' (.ref Dn) ?_ (s2.cell nD (by rw [hl]; simp) ⟨mD, vacc, hl, rl⟩) ⟨Dn, by rw [← s2.len]; simp, rfl⟩
  refine ⟨?_, g2.dom, g2.imm, g2.frn, fun a h n => ?_⟩
  · obtain ⟨r, e⟩ := g2.pre
    exact ⟨r ++ [Dn], by rw [e, List.append_assoc]⟩
  · rcases List.mem_append.mp h with z | z
    · exact g2.new a z n
    · have : a = Dn := by simpa using z
      rw [this]; exact hD
theorem dtx_yes : DTx G K Wx tYes eYes := fun φ M ρ S σ H Q s e p => p φ M H s.ge s
end
section
variable {X : Cx} {G : Gv} {K : PySem.W.Frag} {Wx : WX} {tg iter elt : Expr} {ifs : List Expr} {scope : Scope} {own : List (Str × Nat)} {pos : Pos} {wi : TI} {g : TG} {tt : TT} {te : TE} {mi : IM} {mg : TM} {mc me : EM} {is : List Nat}
abbrev W0 : WX := fun _ _ _ _ => False
structure DTs (X : Cx) (G : Gv) (K : PySem.W.Frag) (Wx : WX) (ifs : List Expr) (t : TT) (m : EM) : Prop where
  pt : PTs X ifs t
  dx : DTx G K Wx t m
theorem dts_0 : DTs X G K Wx [] tYes eYes := ⟨pts_nil, dtx_yes⟩
theorem dts_1 {c : Expr} {t : TT} {m : EM} (h : DT X G K Wx c t m) : DTs X G K Wx [c] t m := ⟨pts_one h.pt, h.dx⟩
theorem de_lcG {fin : List D → Store → RW} (hfin : ∀ φ1 M1 H1 φ2 M2 S2 H' acc vacc Dn Q E, Ge φ1 M1 H1 φ2 M2 H' → Sto G K φ2 M2 S2 H' → M1 Dn = false → H1 Dn = none → M2 Dn = true → Dn ∉ φ2 → H' Dn = some (.lst vacc) → RepL G K (cut H' M2) acc vacc → PostE G K φ1 M1 H1 (fin acc S2) Q E → Q (.ref Dn) H') (hc : X.calm = true) (hN : X.N.Nodup) (hi : DI X G K Wx tg iter wi mi) (ok : blkC X.N X.env.scope scope own = true) (hv : is.all (fun j => (own.map (·.2)).contains j) = true)
    (hg : ∀ (s : Shared) (H : Hp) (C : Addr) (cl : List (Str × Addr)) (fp : List Addr), DG (X.blk s H scope (compEnvC scope cl C X.env) fp) G K is tg g mg)
    (ht : ∀ (s : Shared) (H : Hp) (C : Addr) (cl : List (Str × Addr)) (fp : List Addr), DTs (X.blk s H scope (compEnvC scope cl C X.env) fp) G K W0 ifs tt mc)
    (he : ∀ (s : Shared) (H : Hp) (C : Addr) (cl : List (Str × Addr)) (fp : List Addr), DE (X.blk s H scope (compEnvC scope cl C X.env) fp) G K W0 elt te me)
    (hs : ∀ x, foldedSetIterable iter X.env x = pure x := by intro _; rfl) : DE X G K Wx (.ListComp elt [⟨tg, iter, ifs, 0⟩] scope pos) (tLc wi g tt te (own.map (·.2))) (eLcG fin (own.map (·.2)) mi mg mc me) := by
  have z : Shared := X.s_0
  exact ⟨pe_lc hc hN hi.pi (blkOk_by ok) (fun s H C cl fp => (hg s H C cl fp).pg) (fun s H C cl fp => (ht s H C cl fp).pt) (fun s H C cl fp => (he s H C cl fp).pe) hs, dx_lcG hfin hi.dx (hg z (fun _ => none) 0 [] []).dx (fun j hj => by simpa using List.all_eq_true.mp hv j hj) (ht z (fun _ => none) 0 [] []).dx (he z (fun _ => none) 0 [] []).dx⟩
theorem de_lc (hc : X.calm = true) (hN : X.N.Nodup) (hi : DI X G K Wx tg iter wi mi) (ok : blkC X.N X.env.scope scope own = true) (hv : is.all (fun j => (own.map (·.2)).contains j) = true)
    (hg : ∀ (s : Shared) (H : Hp) (C : Addr) (cl : List (Str × Addr)) (fp : List Addr), DG (X.blk s H scope (compEnvC scope cl C X.env) fp) G K is tg g mg)
    (ht : ∀ (s : Shared) (H : Hp) (C : Addr) (cl : List (Str × Addr)) (fp : List Addr), DTs (X.blk s H scope (compEnvC scope cl C X.env) fp) G K W0 ifs tt mc)
    (he : ∀ (s : Shared) (H : Hp) (C : Addr) (cl : List (Str × Addr)) (fp : List Addr), DE (X.blk s H scope (compEnvC scope cl C X.env) fp) G K W0 elt te me)
    (hs : ∀ x, foldedSetIterable iter X.env x = pure x := by intro _; rfl) : DE X G K Wx (.ListComp elt [⟨tg, iter, ifs, 0⟩] scope pos) (tLc wi g tt te (own.map (·.2))) (eLc (own.map (·.2)) mi mg mc me) := de_lcG finF_ok hc hN hi ok hv hg ht he hs
/-- y = [..] on one line -/
theorem ds_lcG {fin : List D → Store → RW} (hfin : ∀ φ1 M1 H1 φ2 M2 S2 H' acc vacc Dn Q E, Ge φ1 M1 H1 φ2 M2 H' → Sto G K φ2 M2 S2 H' → M1 Dn = false → H1 Dn = none → M2 Dn = true → Dn ∉ φ2 → H' Dn = some (.lst vacc) → RepL G K (cut H' M2) acc vacc → PostE G K φ1 M1 H1 (fin acc S2) Q E → Q (.ref Dn) H') {i : Nat} {y : Str} {py spos : Pos} (hc : X.calm = true) (hN : X.N.Nodup) (hi : DI X G K Wx tg iter wi mi) (ok : blkC X.N X.env.scope scope own = true) (hv : is.all (fun j => (own.map (·.2)).contains j) = true)
    (hg : ∀ (s : Shared) (H : Hp) (C : Addr) (cl : List (Str × Addr)) (fp : List Addr), DG (X.blk s H scope (compEnvC scope cl C X.env) fp) G K is tg g mg)
    (ht : ∀ (s : Shared) (H : Hp) (C : Addr) (cl : List (Str × Addr)) (fp : List Addr), DTs (X.blk s H scope (compEnvC scope cl C X.env) fp) G K W0 ifs tt mc)
    (he : ∀ (s : Shared) (H : Hp) (C : Addr) (cl : List (Str × Addr)) (fp : List Addr), DE (X.blk s H scope (compEnvC scope cl C X.env) fp) G K W0 elt te me)
    (hy : X.N[i]? = some y := by rfl) (hyl : X.env.scope.names.lookup y = some .local := by rfl) (hsw : swapsWith (.ListComp elt [⟨tg, iter, ifs, 0⟩] scope pos) (some (.Name y py)) spos.line X.env = pure true := by exact sw_true rfl rfl rfl (by decide +kernel))
    (hs : ∀ x, foldedSetIterable iter X.env x = pure x := by intro _; rfl) : DS X G K Wx (.Assign [.Name y py] (.ListComp elt [⟨tg, iter, ifs, 0⟩] scope pos) spos) (tAsg (tLc wi g tt te (own.map (·.2))) (gName i)) (sA (eLcG fin (own.map (·.2)) mi mg mc me) (gN i)) := by
  have z : Shared := X.s_0
  exact ⟨ps_setLc hc hN hy hyl hsw hi.pi (blkOk_by ok) (fun s H C cl fp => (hg s H C cl fp).pg) (fun s H C cl fp => (ht s H C cl fp).pt) (fun s H C cl fp => (he s H C cl fp).pe) hs, dsx_a (dx_lcG hfin hi.dx (hg z (fun _ => none) 0 [] []).dx (fun j hj => by simpa using List.all_eq_true.mp hv j hj) (ht z (fun _ => none) 0 [] []).dx (he z (fun _ => none) 0 [] []).dx) dgx_n⟩
end
end DN

namespace DN
open PySem PySem.Spec PyProof.Rows L2

/-! ### defs -/
def mRun (n : Nat) (b : SM) : List W → Store → RW := fun ws S => match b (ws.map some ++ List.replicate (n - ws.length) none) S with
  | .nx _ S' => .ok (.d .non) S'
  | .rt w S' => .ok w S'
  | .exc _ c fs S' => .exc c fs S'
  | _ => .bad
def spD (G : Gv) (K : PySem.W.Frag) (n : Nat) (m : List W → Store → RW) : Sp := fun vs H Q E => ∃ φ M S ws, ws.length = n ∧ Sto G K φ M S H ∧ RepWL G K φ (cut H M) ws vs ∧ PostE G K φ M H (m ws S) Q E
section
variable {G : Gv} {K : PySem.W.Frag}
theorem RepWL.length {φ : List Addr} {H : Hp} {ws : List W} {vs : List V} (r : RepWL G K φ H ws vs) : ws.length = vs.length := Paired.length r
theorem paired_get {α β : Type} {F : α → β → Prop} : ∀ {l : List α} {m : List β} {i : Nat} {x : α}, Paired F l m → l[i]? = some x → ∃ y, m[i]? = some y ∧ F x y
  | _, _, _, _, .nil, e => by simp at e
  | _, _, 0, _, .cons h _, e => by simp at e; subst e; exact ⟨_, rfl, h⟩
  | _, _, i + 1, x, .cons _ t, e => by
    obtain ⟨v, h1, h2⟩ := paired_get (i := i) (x := x) t (by simpa using e)
    exact ⟨v, by simpa using h1, h2⟩
theorem env_start {φ : List Addr} {M : Addr → Bool} {H : Hp} {N : List Str} {ws : List W} {vs : List V} (r : RepWL G K φ (cut H M) ws vs) : EnvR G K φ M H (ws.map some ++ List.replicate (N.length - ws.length) none) (L2.start N vs) := by
  have hl := r.length
  refine ⟨by simp [L2.start, hl], fun i w h => ?_⟩
  by_cases hi : i < ws.length
  · rw [List.getElem?_append_left (by simpa using hi), List.getElem?_map] at h
    obtain ⟨w', h1, h2⟩ := Option.map_eq_some_iff.mp h
    cases h2
    obtain ⟨v, h3, h4⟩ := paired_get r h1
    refine ⟨v, ?_, h4⟩
    unfold L2.start
    rw [List.getElem?_append_left (by simp; omega), List.getElem?_map, h3]
    rfl
  · rw [List.getElem?_append_right (by simp; omega), List.getElem?_replicate] at h
    split at h <;> cases h
theorem body_ok {P : Program} {w : World} {mg : Str → Option Value} {base : Heap} {x qual : Str} {params : Arguments} {body : List Stmt} {scope : Scope} {dvs : List V} {kws : List (Str × V)} {f : Addr} {fd : FuncData} {N ps : List Str} {k : Nat} {b : SM}
    (F : FunD K x qual params body scope dvs kws f fd) (S : FnScope N ps scope)
    (hb : ∀ (cdv : Value) (A : Around) (outer : List PySem.Env) (s : Shared) (H : Hp) (E : XK), Room k (A.deeper (envOfC qual scope s.heap.objs.size f cdv)) → ∃ t, DB (cxOf (L2.CX P w) P w K mg base N qual scope f cdv A outer s H E) G K (fun c d _ H' => E c d H') body t b) :
    FnOk P w K mg base (L2.CX P w) (k + 1) f fd ps (spD G K ps.length (mRun N.length b)) := by
  refine F.ok S (fun vs H Q E h => ?_) (fun cdv A outer s H vs Q E hr h => ?_)
  · obtain ⟨φ, M, S, ws, hl, s, r, p⟩ := h
    rw [← r.length]; exact hl
  · obtain ⟨φ, M, St, ws, hl, st, r, p⟩ := h
    obtain ⟨t, d⟩ := hb cdv A outer s H E hr
    refine ⟨t, d.ps, d.dx φ M _ St _ H _ st (env_start r) ?_⟩
    unfold mRun at p
    cases q : b (ws.map some ++ List.replicate (N.length - ws.length) none) St with
    | nx ρ' S' => simp only [q] at p; exact fun φ' M' H' σ' g s' e' => p φ' M' H' .non g s' .non
    | rt w' S' => simp only [q] at p; exact p
    | exc ρ' c fs S' => simp only [q] at p; exact fun φ' M' H' od σ' g s' e' x' => p φ' M' H' od g s' x'
    | bk ρ' S' => simp only [q] at p; exact p.elim
    | ct ρ' S' => simp only [q] at p; exact p.elim
    | bad => simp only [q] at p; exact p.elim
end

/-! ### calls -/
def keepW (n : Nat) : W → Bool
  | .d _ => true
  | .h k => decide (k < n)
def keepC (n : Nat) : Cell → Bool
  | .ins _ fs => fs.all fun p => keepW n p.2
  | .dct kvs => kvs.all fun p => decide (p.2 < n)
  | _ => true
/-- behind a call its own new cells are forgotten -/
def back (n : Nat) (r : RW) : RW := match r with
  | .ok w S' => if keepW n w && (S'.take n).all (keepC n) then .ok w (S'.take n) else .bad
  | .exc c fs S' => if (S'.take n).all (keepC n) then .exc c fs (S'.take n) else .bad
  | .bad => .bad
def vC (m : List W → Store → RW) : List W → Store → RW := fun ws S => back S.length (m ws S)
/-- a def of data alone -/
inductive RP where
  | ok (x : D) | exc (c : Nat) (fs : List (Str × D)) | bad
abbrev PF := List D → RP
def toP (m : List W → Store → RW) : PF := fun xs => match m (xs.map W.d) [] with
  | .ok (.d x) _ => .ok x
  | .exc c fs _ => .exc c fs
  | _ => .bad
def vP (f : PF) : List W → Store → RW := fun ws S => match dats ws with
  | some xs => (match f xs with
    | .ok x => .ok (.d x) S
    | .exc c fs => .exc c fs S
    | .bad => .bad)
  | none => .bad
abbrev eP (f : PF) (m : LM) : EM := eA (vP f) m
abbrev eS (f : List W → Store → RW) (m : LM) : EM := eA (vC f) m
section
variable {G : Gv} {K : PySem.W.Frag}
theorem keepW_rep {φ r : List Addr} {H : Hp} {w : W} {v : V} (k : keepW φ.length w = true) (h : RepW G K (φ ++ r) H w v) : RepW G K φ H w v := by
  cases w with
  | d x => exact h
  | h n =>
    obtain ⟨a, e, q⟩ := h
    rw [List.getElem?_append_left (of_decide_eq_true k)] at e
    exact ⟨a, e, q⟩
theorem Sto.take {φ r : List Addr} {M : Addr → Bool} {S : Store} {H : Hp} (s : Sto G K (φ ++ r) M S H) (k : (S.take φ.length).all (keepC φ.length) = true) : Sto G K φ M (S.take φ.length) H := by
  have hl : φ.length ≤ S.length := by rw [← s.len]; simp
  refine ⟨by simp [hl], (List.nodup_append.mp s.nd).1, s.dom, fun a h => s.inn a (List.mem_append_left _ h), fun n c a e1 e2 => ?_⟩
  have hn := (List.getElem?_eq_some_iff.mp e2).1
  have e1' : S[n]? = some c := by rw [List.getElem?_take] at e1; rw [if_pos hn] at e1; exact e1
  have cr := s.cells n c a e1' (by rw [List.getElem?_append_left hn]; exact e2)
  cases c with
  | dead => trivial
  | lst xs => exact cr
  | dct kvs =>
    obtain ⟨m, vs, h, t⟩ := cr
    have kc : keepC φ.length (.dct kvs) = true := List.all_eq_true.mp k _ (List.mem_of_getElem? e1)
    have kc' : ∀ p ∈ kvs, p.2 < φ.length := fun p hp => of_decide_eq_true (List.all_eq_true.mp kc p hp)
    refine ⟨m, vs, h, ?_⟩
    clear h e1 e1' kc
    induction t with
    | nil => exact .nil
    | cons h t ih =>
      obtain ⟨h1, b, hb, h2⟩ := h
      rw [List.getElem?_append_left (kc' _ List.mem_cons_self)] at hb
      exact .cons ⟨h1, b, hb, h2⟩ (ih fun p hp => kc' p (List.mem_cons_of_mem _ hp))
  | ins c fs =>
    obtain ⟨m, dx, fvs, h, t⟩ := cr
    have kc : keepC φ.length (.ins c fs) = true := List.all_eq_true.mp k _ (List.mem_of_getElem? e1)
    have kc' : ∀ p ∈ fs, keepW φ.length p.2 = true := fun p hp => List.all_eq_true.mp kc p hp
    refine ⟨m, dx, fvs, h, ?_⟩
    clear h e1 e1' kc
    induction t with
    | nil => exact .nil
    | cons h t ih => exact .cons ⟨h.1, keepW_rep (kc' _ List.mem_cons_self) h.2⟩ (ih fun p hp => kc' p (List.mem_cons_of_mem _ hp))
theorem Ge.take {φ r : List Addr} {M M' : Addr → Bool} {H H' : Hp} (g : Ge φ M H (φ ++ r) M' H') : Ge φ M H φ M' H' := ⟨⟨[], by simp⟩, g.dom, g.imm, g.frn, fun a h n => (n h).elim⟩
theorem back_ok {φ : List Addr} {M : Addr → Bool} {S : Store} {H : Hp} {r : RW} {Q : VK} {E : XK} (s : Sto G K φ M S H) (p : PostE G K φ M H (back S.length r) Q E) : PostE G K φ M H r Q E := by
  have hl := s.len
  unfold back at p
  cases r with
  | bad => exact p
  | ok w S' =>
    simp only at p
    split at p
    · rename_i hk
      rw [Bool.and_eq_true] at hk
      intro φ' M' H' v g s' r
      obtain ⟨r', rfl⟩ := g.pre
      rw [← hl] at p hk
      exact p φ M' H' v g.take (s'.take hk.2) (keepW_rep hk.1 r)
    · exact p.elim
  | exc c fs S' =>
    simp only at p
    split at p
    · rename_i hk
      intro φ' M' H' od g s' x
      obtain ⟨r', rfl⟩ := g.pre
      rw [← hl] at p hk
      exact p φ M' H' od g.take (s'.take hk) x
    · exact p.elim
theorem op_call {n : Nat} {m : List W → Store → RW} {φ M S H ws vs Q E} (hn : ws.length = n) (s : Sto G K φ M S H) (r : RepWL G K φ (cut H M) ws vs) (p : PostE G K φ M H (vC m ws S) Q E) : spD G K n m vs H Q E := ⟨φ, M, S, ws, hn, s, r, back_ok s p⟩
theorem sto_nil {M : Addr → Bool} {H : Hp} (d : Dom M H) : Sto G K [] M [] H := ⟨rfl, List.nodup_nil, d, fun a h => (by cases h), fun n c a e1 e2 => (by simp at e1)⟩
theorem repL_w {φ : List Addr} {H : Hp} : ∀ {xs : List D} {vs : List V}, RepL G K H xs vs → RepWL G K φ H (xs.map W.d) vs
  | _, _, .nil => .nil
  | _, _, .cons h t => .cons h (repL_w t)
theorem dats_len : ∀ {ws : List W} {xs : List D}, dats ws = some xs → xs.length = ws.length
  | [], xs, e => by have : xs = [] := by simpa [dats] using e.symm
                    subst this; rfl
  | .d x :: r, xs, e => by
    simp only [dats, Option.map_eq_some_iff] at e
    obtain ⟨ys, e1, e2⟩ := e
    subst e2
    simp [dats_len e1]
  | .h n :: r, xs, e => by simp [dats] at e
theorem pure_call {n : Nat} {m : List W → Store → RW} {φ M S H ws vs Q E} (hn : ws.length = n) (s : Sto G K φ M S H) (r : RepWL G K φ (cut H M) ws vs) (p : PostE G K φ M H (vP (toP m) ws S) Q E) : spD G K n m vs H Q E := by
  unfold vP at p
  cases e : dats ws with
  | none => simp only [e] at p; exact p.elim
  | some xs =>
    simp only [e] at p
    have rl := dats_rep r e
    refine ⟨[], M, [], xs.map W.d, by rw [List.length_map, dats_len e]; exact hn, sto_nil s.dom, repL_w rl, ?_⟩
    unfold toP at p
    have hge : ∀ {φ' M' H'}, Ge [] M H φ' M' H' → Ge φ M H φ M' H' := fun {φ' M' H'} g => ⟨⟨[], by simp⟩, g.dom, g.imm, fun a m _ => g.frn a m (by simp), fun a h n => (n h).elim⟩
    have hst : ∀ {φ' M' H' S'}, Ge [] M H φ' M' H' → Sto G K φ' M' S' H' → Sto G K φ M' S H' := fun {φ' M' H' S'} g s' => by
      refine ⟨s.len, s.nd, s'.dom, fun a h => ?_, fun n c a e1 e2 => ?_⟩
      · cases m : M a with
        | true => rw [(g.frn a m (by simp)).1]; exact s.inn a h
        | false =>
          cases q : H a with
          | none => exact (s.inn a h q).elim
          | some o => rw [(g.imm a o q m).1]; simp
      · have cr := s.cells n c a e1 e2
        cases c with
        | dead => trivial
        | lst ys =>
          obtain ⟨m, us, h, t⟩ := cr
          have := g.frn a m (by simp)
          exact ⟨this.2, us, this.1.trans h, RepL.mono g.cut t⟩
        | dct kvs =>
          obtain ⟨m, vs, h, t⟩ := cr
          have := g.frn a m (by simp)
          exact ⟨this.2, vs, this.1.trans h, t⟩
        | ins c fs =>
          obtain ⟨m, dx, fvs, h, t⟩ := cr
          have := g.frn a m.1 (by simp)
          exact ⟨⟨this.2, m.2⟩, dx, fvs, this.1.trans h, Paired.mapP t fun p q z => ⟨z.1, RepW.mono' g.cut z.2⟩⟩
    cases q : m (xs.map W.d) [] with
    | bad => simp only [q] at p; exact p
    | exc c fs S' => simp only [q] at p; exact fun φ' M' H' od g s' x => p φ M' H' od (hge g) (hst g s') x
    | ok w S' =>
      cases w with
      | h k => simp only [q] at p; exact p.elim
      | d x => simp only [q] at p; exact fun φ' M' H' v g s' r' => p φ M' H' v (hge g) (hst g s') r'
end
/-- the number of arguments is looked at -/
def nArg (n : Nat) (f : List W → Store → RW) : List W → Store → RW := fun ws S => if ws.length = n then f ws S else .bad
section
variable {X : Cx} {G : Gv} {K : PySem.W.Frag} {Wx : WX} {k n : Nat} {f : Addr} {fd : FuncData} {ps : List Str} {m : List W → Store → RW} {x : Str} {p pos : Pos} {e : Expr} {es : List Expr} {t : TA} {ml : LM}
theorem dx_call {f : List W → Store → RW} (hf : ∀ φ M S H ws vs Q E, ws.length = n → Sto G K φ M S H → RepWL G K φ (cut H M) ws vs → PostE G K φ M H (f ws S) Q E → spD G K n m vs H Q E) (ha : DLx G K Wx t ml) : DEx G K Wx (tCallS (spD G K n m) (WE Wx) t) (eA (nArg n f) ml) := fun φ M ρ S σ H Q s e p =>
  bindL_ok ha s e p fun ws S1 φ1 M1 H1 vs g s1 e1 r p1 => by
    unfold nArg at p1
    split at p1
    · rename_i hn
      exact hf φ1 M1 S1 H1 ws vs Q _ hn s1 r p1
    · exact p1.elim
theorem de_call {f' : List W → Store → RW} (hf : ∀ φ M S H ws vs Q E, ws.length = n → Sto G K φ M S H → RepWL G K φ (cut H M) ws vs → PostE G K φ M H (f' ws S) Q E → spD G K n m vs H Q E) (tk : Takes X Wx) (F : FnOk X.prog X.w X.K X.mg X.base (L2.CX X.prog X.w) k f fd ps (spD G K n m)) (hr : Room k X.A) (hg : Gl X x) (hm : X.mg x = some (.ref f)) (hk : PySem.W.keepIn X.K (.ref f) = true) (hb : Binds X.K fd ps []) (ha : DA X G K Wx (e :: es) t ml) (hdb : (x == ("__debug__" : Str)) = false := by decide)
    (he : starEach (e :: es) X.env = (false, eval e X.env) :: starEach es X.env := by rfl) (hpl : (backTo pos (starEach es X.env)).any (·.1) = false := by rfl) : DE X G K Wx (.Call (.Name x p) (e :: es) [] pos) (tCallS (spD G K n m) (WE Wx) t) (eA (nArg n f') ml) :=
  ⟨pe_callS F hr hg hm hk hb (fun σ => passAt tk σ) ha.pa hdb he hpl, dx_call hf ha.dx⟩
/-- f(e, ..) of a def over the same cells -/
theorem de_callS (tk : Takes X Wx) (F : FnOk X.prog X.w X.K X.mg X.base (L2.CX X.prog X.w) k f fd ps (spD G K n m)) (hr : Room k X.A) (hg : Gl X x) (hm : X.mg x = some (.ref f)) (hk : PySem.W.keepIn X.K (.ref f) = true) (hb : Binds X.K fd ps []) (ha : DA X G K Wx (e :: es) t ml) (hdb : (x == ("__debug__" : Str)) = false := by decide)
    (he : starEach (e :: es) X.env = (false, eval e X.env) :: starEach es X.env := by rfl) (hpl : (backTo pos (starEach es X.env)).any (·.1) = false := by rfl) : DE X G K Wx (.Call (.Name x p) (e :: es) [] pos) (tCallS (spD G K n m) (WE Wx) t) (eA (nArg n (vC m)) ml) := de_call (fun φ M S H ws vs Q E hn s r p => op_call hn s r p) tk F hr hg hm hk hb ha hdb he hpl
/-- f(e, ..) of a def of data alone -/
theorem de_callP (tk : Takes X Wx) (F : FnOk X.prog X.w X.K X.mg X.base (L2.CX X.prog X.w) k f fd ps (spD G K n m)) (hr : Room k X.A) (hg : Gl X x) (hm : X.mg x = some (.ref f)) (hk : PySem.W.keepIn X.K (.ref f) = true) (hb : Binds X.K fd ps []) (ha : DA X G K Wx (e :: es) t ml) (hdb : (x == ("__debug__" : Str)) = false := by decide)
    (he : starEach (e :: es) X.env = (false, eval e X.env) :: starEach es X.env := by rfl) (hpl : (backTo pos (starEach es X.env)).any (·.1) = false := by rfl) : DE X G K Wx (.Call (.Name x p) (e :: es) [] pos) (tCallS (spD G K n m) (WE Wx) t) (eA (nArg n (vP (toP m))) ml) := de_call (fun φ M S H ws vs Q E hn s r p => pure_call hn s r p) tk F hr hg hm hk hb ha hdb he hpl
end

/-! ### keywords: k names given, in which order -/
def perm {α : Type} (a b : Nat) (π : List Nat) (us ws : List α) : List α := if us.length = a ∧ ws.length = b then π.filterMap ((us ++ ws)[·]?) else []
theorem paired_pick {α β : Type} {F : α → β → Prop} {l : List α} {m : List β} (h : Paired F l m) : ∀ π : List Nat, Paired F (π.filterMap (l[·]?)) (π.filterMap (m[·]?))
  | [] => .nil
  | i :: π => by
    cases q : l[i]? with
    | none =>
      have hm : m[i]? = none := List.getElem?_eq_none (by have := List.getElem?_eq_none_iff.mp q; rw [← Paired.length h]; exact this)
      simp only [List.filterMap_cons, q, hm]
      exact paired_pick h π
    | some x =>
      obtain ⟨y, e1, e2⟩ := paired_get h q
      simp only [List.filterMap_cons, q, e1]
      exact .cons e2 (paired_pick h π)
theorem paired_app {α β : Type} {F : α → β → Prop} : ∀ {l : List α} {m : List β} {l' : List α} {m' : List β}, Paired F l m → Paired F l' m' → Paired F (l ++ l') (m ++ m')
  | _, _, _, _, .nil, s => s
  | _, _, _, _, .cons h t, s => .cons h (paired_app t s)
theorem paired_perm {α β : Type} {F : α → β → Prop} {l : List α} {m : List β} {l' : List α} {m' : List β} (h : Paired F l m) (h' : Paired F l' m') (a b : Nat) (π : List Nat) : Paired F (perm a b π l l') (perm a b π m m') := by
  unfold perm
  rw [Paired.length h, Paired.length h']
  split
  · exact paired_pick (paired_app h h') π
  · exact .nil
theorem kbinds_of {K : PySem.W.Frag} {fd : FuncData} {ps ks : List Str} {a b : Nat} {π : List Nat} (h0 : 0 < ps.length) (h : ∀ (us ws : List Value), us.length = a → ws.length = b → bindArgs fd ⟨us, ks.zip ws⟩ = pure (ps.zip (perm a b π us ws))) : KBinds K fd ps ks (perm a b π) (perm a b π) where
  to := fun s us ws _ hl => by
    by_cases hc : us.length = a ∧ ws.length = b
    · exact .of_eq (h us ws hc.1 hc.2)
    · unfold perm at hl
      rw [if_neg hc] at hl
      simp at hl; omega
  rel := fun r rz => paired_perm r rz a b π
section
variable {X : Cx} {CX : CXT} {k : Nat} {f : Addr} {fd : FuncData} {ps ks : List Str} {sp : Sp} {E : XK} {x : Str} {p pos kpos : Pos} {kws : List Keyword} {tk : TA} {g : List Value → List Value → List Value} {gV : List V → List V → List V}
/-- f(k = v, ..) -/
theorem pe_callK0 (F : FnOk X.prog X.w X.K X.mg X.base CX k f fd ps sp) (hr : Room k X.A) (hg : Gl X x) (hm : X.mg x = some (.ref f)) (hk : PySem.W.keepIn X.K (.ref f) = true) (hb : KBinds X.K fd ps ks g gV) (hx : Passes CX X E)
    (hkw : PK X kws tk) (hall : (backToKw pos (keywordEach kws X.env)).all (·.1.isSome) = true := by rfl) (hks : (backToKw pos (keywordEach kws X.env)).filterMap (·.1) = ks := by rfl)
    (hdb : (x == ("__debug__" : Str)) = false := by decide)
    (hpl : ((backTo pos (starEach [] X.env)).any (·.1) || (backToKw pos (keywordEach kws X.env)).any (·.1.isNone)) = false := by rfl) :
    PE X (.Call (.Name x p) [] kws pos) (tCallK sp gV E tNil tk) := by
  refine ⟨fun pins s σ H Q I h => ?_⟩
  refine wpAny_Call_Name_kw (ld_glob I hg hm ?_ hdb)
  refine PySem.W.callWith_KW0 (h₀ := X.base) I.ok.mod.kin hk hall (thn (hkw.run pos pins s σ H _ I h) fun ws s2 ⟨zs, H2, I2, rz, q2⟩ => ⟨I2.kIn, ?_⟩) hpl
  rw [hks]
  exact run_fnk F hr hb hx I2 .nil rz q2
end
structure DK (X : Cx) (G : Gv) (K : PySem.W.Frag) (Wx : WX) (kws : List Keyword) (t : TA) (m : LM) : Prop where
  pk : PK X kws t
  dx : DLx G K Wx t m
/-- positional values, then keywords' values -/
def eK (f : List W → Store → RW) (a b : Nat) (π : List Nat) (m mk : LM) : EM := fun ρ S => (m ρ S).bind fun ws S1 => (mk ρ S1).bind fun zs S2 => f (perm a b π ws zs) S2
section
variable {X : Cx} {G : Gv} {K : PySem.W.Frag} {E : XK} {k n a b : Nat} {π : List Nat} {f : Addr} {fd : FuncData} {ps ks : List Str} {m : List W → Store → RW} {x : Str} {p pos kpos : Pos} {e : Expr} {es : List Expr} {kws : List Keyword} {te : TE} {t tk : TA} {me : EM} {ml mk : LM} {nm : Option Str}
variable {Wx : WX}
theorem dk_nil : DK X G K Wx [] tNil lN := ⟨pk_nil, dlx_nil⟩
theorem dk_cons (ha : DE X G K Wx e te me) (hr : DK X G K Wx kws t ml) : DK X G K Wx (⟨nm, e, kpos⟩ :: kws) (tCons te t) (lC me ml) := ⟨pk_cons ha.pe hr.pk, dlx_cons ha.dx hr.dx⟩
abbrev WE' (E : XK) : WX := fun c d _ H => E c d H
theorem dx_callK {f : List W → Store → RW} (hf : ∀ φ M S H ws vs Q E, ws.length = n → Sto G K φ M S H → RepWL G K φ (cut H M) ws vs → PostE G K φ M H (f ws S) Q E → spD G K n m vs H Q E) (ha : DLx G K (WE' E) t ml) (hk : DLx G K (WE' E) tk mk) : DEx G K (WE' E) (tCallK (spD G K n m) (perm a b π) E t tk) (eK (nArg n f) a b π ml mk) := fun φ M ρ S σ H Q s e p =>
  bindL_ok ha s e p fun ws S1 φ1 M1 H1 vs g s1 e1 r p1 => bindL_ok hk s1 e1 p1 fun zs S2 φ2 M2 H2 us g2 s2 e2 r2 p2 => by
    unfold nArg at p2
    split at p2
    · rename_i hn
      exact hf φ2 M2 S2 H2 _ _ Q _ hn s2 (paired_perm (r.ge g2) r2 a b π) p2
    · exact p2.elim
theorem de_callKP (tkx : Takes X (WE' E)) (F : FnOk X.prog X.w X.K X.mg X.base (L2.CX X.prog X.w) k f fd ps (spD G K n m)) (hr : Room k X.A) (hg : Gl X x) (hm : X.mg x = some (.ref f)) (hk : PySem.W.keepIn X.K (.ref f) = true) (hb : KBinds X.K fd ps ks (perm a b π) (perm a b π)) (ha : DA X G K (WE' E) (e :: es) t ml) (hkw : DK X G K (WE' E) kws tk mk)
    (hall : (backToKw pos (keywordEach kws X.env)).all (·.1.isSome) = true := by rfl) (hks : (backToKw pos (keywordEach kws X.env)).filterMap (·.1) = ks := by rfl) (hdb : (x == ("__debug__" : Str)) = false := by decide) (he : starEach (e :: es) X.env = (false, eval e X.env) :: starEach es X.env := by rfl)
    (hpl : ((backTo pos (starEach (e :: es) X.env)).any (·.1) || (backToKw pos (keywordEach kws X.env)).any (·.1.isNone)) = false := by rfl) :
    DE X G K (WE' E) (.Call (.Name x p) (e :: es) kws pos) (tCallK (spD G K n m) (perm a b π) E t tk) (eK (nArg n (vP (toP m))) a b π ml mk) :=
  ⟨pe_callK F hr hg hm hk hb (passes_call tkx fun _ _ _ _ h => h) ha.pa hkw.pk hall hks hdb he hpl, dx_callK (fun φ M S H ws vs Q E hn s r p => pure_call hn s r p) ha.dx hkw.dx⟩
theorem de_callK0P (tkx : Takes X (WE' E)) (F : FnOk X.prog X.w X.K X.mg X.base (L2.CX X.prog X.w) k f fd ps (spD G K n m)) (hr : Room k X.A) (hg : Gl X x) (hm : X.mg x = some (.ref f)) (hk : PySem.W.keepIn X.K (.ref f) = true) (hb : KBinds X.K fd ps ks (perm a b π) (perm a b π)) (hkw : DK X G K (WE' E) kws tk mk)
    (hall : (backToKw pos (keywordEach kws X.env)).all (·.1.isSome) = true := by rfl) (hks : (backToKw pos (keywordEach kws X.env)).filterMap (·.1) = ks := by rfl) (hdb : (x == ("__debug__" : Str)) = false := by decide)
    (hpl : ((backTo pos (starEach [] X.env)).any (·.1) || (backToKw pos (keywordEach kws X.env)).any (·.1.isNone)) = false := by rfl) :
    DE X G K (WE' E) (.Call (.Name x p) [] kws pos) (tCallK (spD G K n m) (perm a b π) E tNil tk) (eK (nArg n (vP (toP m))) a b π lN mk) :=
  ⟨pe_callK0 F hr hg hm hk hb (passes_call tkx fun _ _ _ _ h => h) hkw.pk hall hks hdb hpl, dx_callK (fun φ M S H ws vs Q E hn s r p => pure_call hn s r p) dlx_nil hkw.dx⟩
end

/-! ### fields -/
def lookF (f : Str) : List Str → List D → Option D
  | n :: ns, x :: xs => if n = f then some x else lookF f ns xs
  | _, _ => none
/-- e.f of an instance of the class c: data, or a cell -/
def vFld (c : Nat) (fl : List Str) (f : Str) : W → Store → RW := fun w S => match w with
  | .d (.ins c' fs) => if c' = c then giveO (lookF f fl fs) S else .bad
  | .h n => (match S[n]? with
    | some (.ins c' fs) => if c' = c then (match fs.lookup f with
      | some w' => .ok w' S
      | none => .bad) else .bad
    | _ => .bad)
  | _ => .bad
section
variable {X : Cx} {G : Gv} {K : PySem.W.Frag} {Wx : WX} {e : Expr} {te : TE} {me : EM} {pos : Pos} {f : Str}
theorem lookF_rep {H : Hp} : ∀ {ns : List Str} {xs : List D} {fvs : List (Str × V)} {z : D}, fvs.map (·.1) = ns → RepL G K H xs (fvs.map (·.2)) → lookF f ns xs = some z → ∃ v, fvs.lookup f = some v ∧ Rep G K H z v
  | ns, xs, [], z, h1, h2, h3 => by
    simp at h1; subst h1
    cases xs <;> simp [lookF] at h3
  | ns, xs, (n, v) :: r, z, h1, h2, h3 => by
    cases ns with
    | nil => simp at h1
    | cons n' ns =>
      simp only [List.map_cons, List.cons.injEq] at h1
      obtain ⟨rfl, h1⟩ := h1
      cases h2 with
      | cons hx ht =>
        unfold lookF at h3
        by_cases hn : n = f
        · rw [if_pos hn] at h3
          cases h3
          subst hn
          exact ⟨v, by simp [List.lookup], hx⟩
        · rw [if_neg hn] at h3
          obtain ⟨v', e1, e2⟩ := lookF_rep h1 ht h3
          have : (f == n) = false := by simpa using fun z => hn z.symm
          exact ⟨v', by simp [List.lookup, this, e1], e2⟩
theorem lookP_rep {φ : List Addr} {H : Hp} {fs : List (Str × W)} {fvs : List (Str × V)} {w : W} (t : Paired (fun (p : Str × W) (q : Str × V) => p.1 = q.1 ∧ RepW G K φ H p.2 q.2) fs fvs) (h : fs.lookup f = some w) : ∃ v, fvs.lookup f = some v ∧ RepW G K φ H w v := by
  induction t with
  | nil => simp at h
  | cons hp t ih =>
    rename_i a b l m
    obtain ⟨n, w'⟩ := a
    obtain ⟨n', v'⟩ := b
    obtain ⟨rfl, hr⟩ := hp
    simp only [List.lookup] at h ⊢
    split at h
    · cases h
      exact ⟨v', rfl, hr⟩
    · exact ih h
theorem op_fld {c : Nat} (cl : Cls K (G.ad c)) (na : NoAttr K (G.ad c) f) : Op1 G K (fun x H Q => ∃ a C dx fs v, x = .ref a ∧ H a = some (.ins C dx fs) ∧ Cls K C ∧ NoAttr K C f ∧ fs.lookup f = some v ∧ Q v H) (vFld c (G.fl c) f) := fun φ M S H w v Q E s r p => by
  unfold vFld at p
  cases w with
  | d x =>
    cases x with
    | ins c' fs =>
      simp only at p
      split at p
      · rename_i hc
        subst hc
        cases r with
        | ins hc h e t =>
          unfold giveO at p
          cases q : lookF f (G.fl c') fs with
          | none => simp only [q] at p; exact p.elim
          | some z =>
            simp only [q] at p
            obtain ⟨v', e1, e2⟩ := lookF_rep e t q
            exact ⟨_, _, _, _, v', rfl, cut_le _ _ h, cl, na, e1, post_ok (w := .d z) p s e2⟩
      · exact p.elim
    | _ => exact p.elim
  | h n =>
    obtain ⟨a, ha, rfl⟩ := r
    cases q : S[n]? with
    | none => simp only [q] at p; exact p.elim
    | some cc =>
      have cr := s.cells n cc a q ha
      cases cc with
      | ins c' fs =>
        simp only [q] at p
        split at p
        · rename_i hc
          subst hc
          obtain ⟨m, dx, fvs, h, t⟩ := cr
          cases q2 : fs.lookup f with
          | none => simp only [q2] at p; exact p.elim
          | some w' =>
            simp only [q2] at p
            obtain ⟨v', e1, e2⟩ := lookP_rep t q2
            exact ⟨_, _, _, _, v', rfl, h, cl, na, e1, post_ok p s e2⟩
        · exact p.elim
      | _ => simp only [q] at p; exact p.elim
theorem de_fld (c : Nat) (fl : List Str) (hfl : G.fl c = fl) (hK : X.K = K) (cl : Cls K (G.ad c)) (na : NoAttr K (G.ad c) f) (he : DE X G K Wx e te me) (hb : attributeBase e f X.env (eval e X.env) = eval e X.env := by rfl) : DE X G K Wx (.Attribute e f pos) (tFld K te f) (eU (vFld c fl f) me) := by
  subst hK hfl; exact ⟨pe_fld he.pe hb, dx_u (op_fld cl na) he.dx⟩
end
end DN

namespace DN
open PySem PySem.Spec PyProof.Rows L2

/-! ### sorted(xs) of alike data -/
def keyD (b : V × D) : PyData := pyD b.2
def leD : D → D → Bool := fun x y => PySem.W.dataLe false pyD x y
def rSortD (K : PySem.W.Frag) : List V → Hp → VK → Prop := fun us H Q => ∃ (a : Addr) (bs : List (V × D)), us = [.ref a] ∧ SqL K H a (bs.map (·.1)) ∧ (∀ b ∈ bs, Dp K H b.1 (keyD b) ∧ (keyD b).depth ≤ 64) ∧ PySem.W.AllAlike (bs.map keyD) ∧ PySem.W.Sortable (bs.map keyD) ∧
  ∀ p, H p = none → Q (.ref p) (upd H p (.lst ((bs.mergeSort (PySem.W.dataLe false keyD)).map (·.1))))
theorem vals_c {x : V} {xs : List V} {us : List Value} (h : Vals (x :: xs) us) : ∃ u t, us = u :: t ∧ RelV x u ∧ Vals xs t := by
  cases h with
  | cons r t => exact ⟨_, _, rfl, r, t⟩
theorem vals_n {us : List Value} (h : Vals [] us) : us = [] := by
  cases h; rfl
theorem each_reads {X : Cx} {pins : List (Addr × Obj)} {σ : L2.St} {H : Hp} {s : Shared} (I : Inv X pins σ H s) : ∀ {bs : List (V × D)} {its : List Value}, Vals (bs.map (·.1)) its → (∀ b ∈ bs, Dp X.K H b.1 (keyD b)) → PySem.W.EachIs (fun v b => ∃ as, Reads s.heap v (keyD b) as) its bs
  | [], its, v, _ => by rw [vals_n v]; exact .nil
  | b :: bs, its, v, h => by
    obtain ⟨u, t, rfl, r, v'⟩ := vals_c v
    exact .cons (Dp.reads I _ _ _ (h b List.mem_cons_self) r) (each_reads I v' fun c hc => h c (List.mem_cons_of_mem _ hc))
theorem each_vals : ∀ {bs : List (V × D)} {its : List Value}, Vals (bs.map (·.1)) its → PySem.W.EachIs (fun v (b : V × D) => RelV b.1 v) its bs
  | [], its, v => by rw [vals_n v]; exact .nil
  | b :: bs, its, v => by
    obtain ⟨u, t, rfl, r, v'⟩ := vals_c v
    exact .cons r (each_vals v')
theorem vals_each : ∀ {bs : List (V × D)} {its : List Value}, PySem.W.EachIs (fun v (b : V × D) => RelV b.1 v) its bs → Vals (bs.map (·.1)) its
  | [], its, e => by cases e; exact .nil
  | b :: bs, its, e => by
    cases e with
    | cons r t => exact .cons r (vals_each t)
theorem cr_sortedD {X : Cx} (hu : X.A.units + 100 < cLine) : CallR X (.builtin "sorted") (rSortD X.K) := by
  intro pins s σ H vs us Q I r h
  obtain ⟨a, bs, rfl, hs, hd, hal, hso, q⟩ := h
  obtain ⟨its, rv, hl, hz⟩ := I.list hs
  obtain ⟨u, rfl, ru⟩ := vals1 r
  obtain rfl : u = Value.ref a := ru
  rw [List.length_map] at hz
  refine PySem.W.sorted_data hl.isList (each_vals rv) (each_reads I rv fun b hb => (hd b hb).1) hal hso hz (fun b hb => ?_) fun out ho eo => ?_
  · have := (hd b hb).2; omega
  · obtain ⟨n, hn⟩ := sortedAll_at s.heap its out.toArray
    refine ⟨.ref (s.heap.objs.size + 1), upd H (s.heap.objs.size + 1) (.lst ((bs.mergeSort (PySem.W.dataLe false keyD)).map (·.1))), I.laid (t' := s.toks) (fun b o z => sortedAll_old z) (Nat.le_succ _) ⟨?_, out, n, vals_each eo, hn⟩, rfl, q _ ?_⟩
    · rw [List.length_map, List.length_mergeSort]; exact hz
    · exact I.hok.fresh (Nat.le_succ _)
def alikeAllD (xs : List D) : Bool := xs.all fun x => xs.all fun y => PySem.W.alike (pyD x) (pyD y)
def sortableD (xs : List D) : Bool := (xs.all fun x => match x with | .tup (_ :: _) => true | _ => false) || xs.all fun x => match x with | .int _ => true | .str _ => true | .bl _ => true | _ => false
def sortD (xs : List D) : Option D := if xs.all okD && alikeAllD xs && sortableD xs then some (.lst (xs.mergeSort leD)) else none
def oSorted : List D → Option D
  | [.lst xs] => sortD xs
  | [.lsk xs] => sortD xs
  | _ => none
theorem sortable_of {xs : List D} (h : sortableD xs = true) : PySem.W.Sortable (xs.map pyD) := by
  rcases Bool.or_eq_true_iff.mp h with h | h
  · refine .inl fun d hd => ?_
    obtain ⟨x, hx, rfl⟩ := List.mem_map.mp hd
    have := List.all_eq_true.mp h x hx
    split at this
    · rename_i y r
      exact ⟨pyD y, pyL r, by rw [pyD, pyL]⟩
    · cases this
  · refine .inr fun d hd => ?_
    obtain ⟨x, hx, rfl⟩ := List.mem_map.mp hd
    have := List.all_eq_true.mp h x hx
    split at this
    · exact ⟨by rw [pyD]; simp, by intro xs; rw [pyD]; simp⟩
    · exact ⟨by rw [pyD]; simp, by intro xs; rw [pyD]; simp⟩
    · exact ⟨by rw [pyD]; simp, by intro xs; rw [pyD]; simp⟩
    · cases this
section
variable {G : Gv} {K : PySem.W.Frag}
theorem RepL.zip {H : Hp} : ∀ {xs : List D} {vs : List V}, RepL G K H xs vs → (vs.zip xs).map (·.1) = vs ∧ (vs.zip xs).map (·.2) = xs ∧ ∀ b ∈ vs.zip xs, Rep G K H b.2 b.1
  | _, _, .nil => ⟨rfl, rfl, by simp⟩
  | _, _, .cons h t => by
    obtain ⟨a, b, c⟩ := RepL.zip t
    refine ⟨by simp [a], by simp [b], fun p hp => ?_⟩
    rcases List.mem_cons.mp (by simpa using hp) with rfl | hp
    · exact h
    · exact c _ hp
theorem repL_of {H : Hp} : ∀ {bs : List (V × D)}, (∀ b ∈ bs, Rep G K H b.2 b.1) → RepL G K H (bs.map (·.2)) (bs.map (·.1))
  | [], _ => .nil
  | b :: bs, h => .cons (h b List.mem_cons_self) (repL_of fun c hc => h c (List.mem_cons_of_mem _ hc))
theorem sort_rep {H : Hp} {M : Addr → Bool} {a : Addr} {xs : List D} {vs : List V} {z : D} {Q : VK} (d : Dom M H) (h : SqL K (cut H M) a vs) (r : RepL G K (cut H M) xs vs) (e : sortD xs = some z) (k : ∀ v H1, Grow H H1 → Rep G K (cut H1 M) z v → Q v H1) : rSortD K [.ref a] H Q := by
  unfold sortD at e
  split at e
  · rename_i hc
    rw [Bool.and_eq_true, Bool.and_eq_true] at hc
    obtain ⟨⟨h1, h2⟩, h3⟩ := hc
    cases e
    obtain ⟨z1, z2, z3⟩ := r.zip
    have km : (vs.zip xs).map keyD = xs.map pyD := (List.map_map (f := fun b : V × D => b.2) (g := pyD) (l := vs.zip xs)).symm.trans (congrArg (List.map pyD) z2)
    refine ⟨a, vs.zip xs, rfl, by rw [z1]; exact sqL_mono cut_le h, fun b hb => ?_, ?_, by rw [km]; exact sortable_of h3, fun p hp => ?_⟩
    · have hx : b.2 ∈ xs := by rw [← z2]; exact List.mem_map_of_mem hb
      have ho : okD b.2 = true := List.all_eq_true.mp h1 _ hx
      exact ⟨(z3 b hb).dpc ho, SeqAt.depth_of_shaped ho⟩
    · rw [km]
      intro x hx y hy
      obtain ⟨x', hx', rfl⟩ := List.mem_map.mp hx
      obtain ⟨y', hy', rfl⟩ := List.mem_map.mp hy
      exact List.all_eq_true.mp (List.all_eq_true.mp h2 _ hx') _ hy'
    · refine k _ _ (grow_upd hp) (.lst (new_cut d hp) ?_)
      have hm : ((vs.zip xs).mergeSort (PySem.W.dataLe false keyD)).map (·.2) = xs.mergeSort leD := (List.map_mergeSort (r := PySem.W.dataLe false keyD) (s := leD) (f := fun b : V × D => b.2) (l := vs.zip xs) (fun a _ b _ => rfl)).trans (congrArg (fun l => l.mergeSort leD) z2)
      rw [← hm]
      exact RepL.mono (grow_cut (grow_upd hp)) (repL_of fun b hb => z3 b ((List.mergeSort_perm _ _).mem_iff.mp hb))
  · cases e
theorem pure_sorted : PureL G K (rSortD K) oSorted := fun H M xs z vs Q d r e h => by
  unfold oSorted at e
  split at e
  · cases r with | cons r1 r2 =>
      cases r2
      cases r1 with
      | lst hx t => exact sort_rep d (SqL.of hx) t e h
  · cases r with | cons r1 r2 =>
      cases r2
      cases r1 with
      | lsk hx t => exact sort_rep d hx t e h
  · cases e
end
section
variable {X : Cx} {K : PySem.W.Frag}
theorem call_sorted' (hK : X.K = K) (hu : X.A.units + 100 < cLine) : CallR X (.builtin "sorted") (rSortD K) := by subst hK; exact cr_sortedD hu
end

/-! ### cells: a list held by a name -/
/-- a value that is a cell becomes data, the cell is gone -/
def vFz : W → Store → RW := fun w S => match w with
  | .h n => (match cellL S n with
    | some xs => .ok (.d (.lst xs)) (S.set n .dead)
    | none => .bad)
  | w => .ok w S
section
variable {G : Gv} {K : PySem.W.Frag} {φ : List Addr} {M : Addr → Bool} {S : Store} {H : Hp}
theorem Sto.dead {n : Nat} (s : Sto G K φ M S H) : Sto G K φ M (S.set n .dead) H := by
  refine ⟨by simp [s.len], s.nd, s.dom, s.inn, fun k c b e1 e2 => ?_⟩
  by_cases hk : k = n
  · subst hk
    by_cases hl : k < S.length
    · rw [List.getElem?_set_self hl] at e1; cases e1; trivial
    · rw [List.getElem?_eq_none (by simp; omega)] at e1; cases e1
  · rw [List.getElem?_set_ne (Ne.symm hk)] at e1
    exact s.cells k c b e1 e2
theorem fz_ok {n : Nat} {a : Addr} {xs : List D} (s : Sto G K φ M S H) (ha : φ[n]? = some a) (h : cellL S n = some xs) : Ge φ M H φ (unM M a) H ∧ Sto G K φ (unM M a) (S.set n .dead) H ∧ Rep G K (cut H (unM M a)) (.lst xs) (.ref a) := by
  obtain ⟨m, vs, hl, rl⟩ := s.cells n _ a (cellL_some h) ha
  refine ⟨⟨⟨[], by simp⟩, s.dom, fun b o e m => ⟨e, unM_f m⟩, fun b m hb => ⟨rfl, by
    have hne : b ≠ a := fun z => hb (by rw [z]; exact List.mem_of_getElem? ha)
    rw [unM_ne hne]; exact m⟩, fun b e hb => (hb e).elim⟩, ?_, .lst (by rw [cut_f unM_self]; exact hl) (RepL.mono unM_cut rl)⟩
  refine s.dead.unM fun k hk => ?_
  have : k = n := by
    have h1 := List.getElem?_eq_some_iff.mp hk
    have h2 := List.getElem?_eq_some_iff.mp ha
    exact (List.getElem_inj s.nd).mp (h1.2.trans h2.2.symm)
  subst this
  have hl : k < S.length := by rw [← s.len]; exact (List.getElem?_eq_some_iff.mp ha).1
  rw [List.getElem?_set_self hl]
theorem dx_fz {Wx : WX} {t : TE} {m : EM} (h : DEx G K Wx t m) : DEx G K Wx t (eU vFz m) := fun φ M ρ S σ H Q s e p => by
  refine h φ M ρ S σ H Q s e ?_
  unfold eU at p
  cases q : m ρ S with
  | bad => rw [q] at p; exact p.elim
  | exc c fs S1 => rw [q] at p; exact p
  | ok w S1 =>
    rw [q] at p
    cases w with
    | d x => exact p
    | h n =>
      simp only [RW.bind, vFz] at p
      cases q2 : cellL S1 n with
      | none => simp only [q2] at p; exact p.elim
      | some xs =>
        simp only [q2] at p
        refine fun φ1 M1 H1 v g s1 r => ?_
        obtain ⟨a, ha, rfl⟩ := r
        obtain ⟨g2, s2, r2⟩ := fz_ok s1 ha q2
        exact p φ1 _ H1 _ (g.trans g2) s2 r2
/-- a new list becomes a cell -/
theorem new_cell {xs : List D} {vs : List V} {p : Addr} {Q : VK} {E : XK} (s : Sto G K φ M S H) (r : RepL G K (cut H M) xs vs) (hp : H p = none) (k : PostE G K φ M H (.ok (.h S.length) (S ++ [.lst xs])) Q E) : Q (.ref p) (upd H p (.lst vs)) := by
  obtain ⟨s1, g1, hφ⟩ := s.addM (o := .lst vs) hp (by intro _ h; cases h)
  refine k (φ ++ [p]) (addM M p) _ (.ref p) ⟨⟨[p], rfl⟩, s.dom, fun a o h m => g1.imm a o h m, fun a m n => g1.frn a m n, fun a h n => ?_⟩ (s1.cell hφ (by rw [upd_same]; simp) ⟨addM_self, vs, upd_same, RepL.mono (addM_cut hp) r⟩) ⟨p, by rw [← s.len]; simp, rfl⟩
  rcases List.mem_append.mp h with z | z
  · exact (n z).elim
  · have : a = p := by simpa using z
    rw [this]; exact hp
/-- [a, b, ..] as a cell -/
def vLstC : List W → Store → RW := fun ws S => match dats ws with
  | some xs => if xs.length ≤ sizeLine then .ok (.h S.length) (S ++ [.lst xs]) else .bad
  | none => .bad
theorem op_lstC : OpL G K (fun xs H Q => xs.length ≤ sizeLine ∧ ∀ p, H p = none → Q (.ref p) (upd H p (.lst xs))) vLstC := fun φ M S H ws vs Q E s r p => by
  unfold vLstC at p
  cases q : dats ws with
  | none => simp only [q] at p; exact p.elim
  | some xs =>
    simp only [q] at p
    have rl := dats_rep r q
    split at p
    · rename_i hl
      exact ⟨by rw [← rl.length]; exact hl, fun a ha => new_cell s rl ha p⟩
    · exact p.elim
/-- list(xs) as a cell -/
def vListC : List W → Store → RW := fun ws S => match ws with
  | [.d x] => (match seqD x with
    | some xs => .ok (.h S.length) (S ++ [.lst xs])
    | none => .bad)
  | [.h n] => (match cellL S n with
    | some xs => .ok (.h S.length) (S ++ [.lst xs])
    | none => .bad)
  | _ => .bad
theorem op_listC : OpL G K (rListOf K) vListC := fun φ M S H ws vs Q E s r p => by
  unfold vListC at p
  split at p
  · rename_i x
    cases r with
    | cons r1 r2 =>
      cases r2
      have r1 : Rep G K (cut H M) x _ := r1
      cases r1 with
      | tup hx t => exact ⟨_, _, rfl, .inr (sqT_mono cut_le hx), fun a ha => new_cell s t ha p⟩
      | lst hx t => exact ⟨_, _, rfl, .inl (SqL.of (cut_le _ _ hx)), fun a ha => new_cell s t ha p⟩
      | lsk hx t => exact ⟨_, _, rfl, .inl (sqL_mono cut_le hx), fun a ha => new_cell s t ha p⟩
      | _ => exact p.elim
  · rename_i n
    cases r with
    | cons r1 r2 =>
      cases r2
      obtain ⟨a, ha, rfl⟩ := r1
      cases q : cellL S n with
      | none => simp only [q] at p; exact p.elim
      | some xs =>
        simp only [q] at p
        obtain ⟨m, us, hl, t⟩ := s.cells n _ a (cellL_some q) ha
        exact ⟨_, _, rfl, .inl (SqL.of hl), fun b hb => new_cell s t hb p⟩
  · exact p.elim
/-- xs[i], xs may be a cell -/
def vIx : W → W → Store → RW := fun w u S => match w, u with
  | .h n, .d (.int i) => (match cellL S n with
    | some xs => giveO (atI xs i) S
    | none => .bad)
  | .d x, .d y => giveO (oIx x y) S
  | _, _ => .bad
theorem op_ix : Op2 G K (rIx K) vIx := fun φ M S H w v u vu Q E s rw_ ru p => by
  unfold vIx at p
  split at p
  · rename_i n i
    obtain ⟨a, ha, rfl⟩ := rw_
    have ru : Rep G K (cut H M) (.int i) vu := ru
    cases ru
    cases q : cellL S n with
    | none => simp only [q] at p; exact p.elim
    | some xs =>
      simp only [q] at p
      obtain ⟨m, us, hl, t⟩ := s.cells n _ a (cellL_some q) ha
      cases q2 : atI xs i with
      | none => rw [q2] at p; exact p.elim
      | some z =>
        rw [q2] at p
        have : ∃ v, atI us i = some v ∧ Rep G K (cut H M) z v := by
          unfold atI at q2 ⊢
          rw [← t.length]
          cases q3 : ixN xs.length i with
          | none => rw [q3] at q2; cases q2
          | some j =>
            rw [q3] at q2
            exact t.get q2
        obtain ⟨v, e1, e2⟩ := this
        exact .inl ⟨a, us, i, v, rfl, rfl, SqL.of hl, e1, post_ok (w := .d z) p s e2⟩
  · rename_i x y
    exact pure_ix.op φ M S H (.d x) v (.d y) vu Q E s rw_ ru p
  · exact p.elim
/-- a method of a built-in type, of data or of a cell -/
def eBM (chk : W → Store → Bool) (f : W → List W → Store → RW) (a : EM) (m : LM) : EM := fun ρ S => (a ρ S).bind fun x S1 => if chk x S1 then (m ρ S1).bind fun ys S2 => f x ys S2 else .bad
def chkS : W → Store → Bool := fun w _ => match w with
  | .d (.str _) => true
  | _ => false
def chkL : W → Store → Bool := fun w S => match w with
  | .h n => (cellL S n).isSome
  | .d (.lst _) => true
  | .d (.lsk _) => true
  | _ => false
def ChkOk (G : Gv) (K : PySem.W.Frag) (T : String) (chk : W → Store → Bool) : Prop := ∀ φ M S H w v, Sto G K φ M S H → RepW G K φ (cut H M) w v → chk w S = true → tyV K T v H
theorem chkS_ok : ChkOk G K "str" chkS := fun φ M S H w v s r c => by
  unfold chkS at c
  split at c
  · have r : Rep G K (cut H M) _ v := r
    cases r; rfl
  · cases c
theorem chkL_ok : ChkOk G K "list" chkL := fun φ M S H w v s r c => by
  unfold chkL at c
  split at c
  · rename_i n
    obtain ⟨a, ha, rfl⟩ := r
    cases q : cellL S n with
    | none => rw [q] at c; cases c
    | some xs =>
      obtain ⟨m, us, hl, t⟩ := s.cells n _ a (cellL_some q) ha
      exact .inl ⟨rfl, us, SqL.of hl⟩
  · have r : Rep G K (cut H M) _ v := r
    cases r with
    | lst h t => exact .inl ⟨rfl, _, SqL.of (cut_le _ _ h)⟩
  · have r : Rep G K (cut H M) _ v := r
    cases r with
    | lsk h t => exact .inl ⟨rfl, _, sqL_mono cut_le h⟩
  · cases c
theorem dx_bm {Wx : WX} {T : String} {chk : W → Store → Bool} {r : V → List V → Hp → VK → Prop} {f : W → List W → Store → RW} {to : TE} {t : TA} {mo : EM} {m : LM} (hc : ChkOk G K T chk) (h : OpM G K r f) (ho : DEx G K Wx to mo) (ha : DLx G K Wx t m) : DEx G K Wx (tBM K T r to t) (eBM chk f mo m) := fun φ M ρ S σ H Q s e p =>
  bind_ok ho s e p fun w S1 φ1 M1 H1 v g s1 e1 rw_ p1 => by
    by_cases hk : chk w S1 = true
    · rw [if_pos hk] at p1
      exact ⟨hc φ1 M1 S1 H1 w v s1 rw_ hk, bindL_ok ha s1 e1 p1 fun ws S2 φ2 M2 H2 vs g2 s2 e2 rs p2 => h φ2 M2 S2 H2 w v ws vs Q _ s2 (rw_.ge g2) rs p2⟩
    · rw [if_neg hk] at p1; exact p1.elim
theorem dx_bm0 {Wx : WX} {T : String} {chk : W → Store → Bool} {r : V → List V → Hp → VK → Prop} {f : W → List W → Store → RW} {to : TE} {mo : EM} (hc : ChkOk G K T chk) (h : OpM G K r f) (ho : DEx G K Wx to mo) : DEx G K Wx (tBM0 K T r to) (eBM chk f mo lN) := fun φ M ρ S σ H Q s e p =>
  bind_ok ho s e p fun w S1 φ1 M1 H1 v g s1 e1 rw_ p1 => by
    by_cases hk : chk w S1 = true
    · rw [if_pos hk] at p1
      exact ⟨hc φ1 M1 S1 H1 w v s1 rw_ hk, h φ1 M1 S1 H1 w v [] [] Q _ s1 rw_ .nil p1⟩
    · rw [if_neg hk] at p1; exact p1.elim
/-- append, pop -/
def vAppend : W → List W → Store → RW := fun w ws S => match w, ws with
  | .h n, [.d y] => (match cellL S n with
    | some xs => if xs.length < sizeLine then .ok (.d .non) (S.set n (.lst (xs ++ [y]))) else .bad
    | none => .bad)
  | _, _ => .bad
def vPop0 : W → List W → Store → RW := fun w ws S => match w, ws with
  | .h n, [] => (match cellL S n with
    | some xs => (match xs[xs.length - 1]? with
      | some y => .ok (.d y) (S.set n (.lst xs.dropLast))
      | none => .bad)
    | none => .bad)
  | _, _ => .bad
def vPopAt : W → List W → Store → RW := fun w ws S => match w, ws with
  | .h n, [.d (.int i)] => (match cellL S n with
    | some xs => if decide (-(2 ^ 63) ≤ i) && decide (i < 2 ^ 63) then (match seqIndex? i xs.length with
      | some k => (match xs[k]? with
        | some y => .ok (.d y) (S.set n (.lst (xs.eraseIdx k)))
        | none => .bad)
      | none => .bad) else .bad
    | none => .bad)
  | _, _ => .bad
theorem op_append : OpM G K rAppend vAppend := fun φ M S H w v ws vs Q E s rw_ rs p => by
  unfold vAppend at p
  split at p
  · rename_i n y
    obtain ⟨a, ha, rfl⟩ := rw_
    cases rs with
    | cons r1 r2 =>
      cases r2
      cases q : cellL S n with
      | none => simp only [q] at p; exact p.elim
      | some xs =>
        simp only [q] at p
        obtain ⟨m, us, hl, t⟩ := s.cells n _ a (cellL_some q) ha
        split at p
        · rename_i hz
          obtain ⟨s3, g3⟩ := s.write (c := .lst (xs ++ [y])) (o := .lst (us ++ [_])) ha m (by intro _ h; cases h) ⟨m, _, upd_same, by rw [cut_upd m]; exact t.append (.cons r1 .nil)⟩
          exact ⟨a, us, _, rfl, rfl, hl, by rw [← t.length]; exact hz, p φ M _ .non g3 s3 .non⟩
        · exact p.elim
  · exact p.elim
theorem op_pop0 : OpM G K rPop vPop0 := fun φ M S H w v ws vs Q E s rw_ rs p => by
  unfold vPop0 at p
  split at p
  · rename_i n
    obtain ⟨a, ha, rfl⟩ := rw_
    cases rs
    cases q : cellL S n with
    | none => simp only [q] at p; exact p.elim
    | some xs =>
      simp only [q] at p
      obtain ⟨m, us, hl, t⟩ := s.cells n _ a (cellL_some q) ha
      cases q2 : xs[xs.length - 1]? with
      | none => simp only [q2] at p; exact p.elim
      | some y =>
        simp only [q2] at p
        obtain ⟨vy, e1, e2⟩ := t.get q2
        obtain ⟨s3, g3⟩ := s.write (c := .lst xs.dropLast) (o := .lst us.dropLast) ha m (by intro _ h; cases h) ⟨m, _, upd_same, by
          rw [cut_upd m, List.dropLast_eq_take, List.dropLast_eq_take, ← t.length]; exact t.take _⟩
        exact ⟨a, us, vy, rfl, rfl, hl, by rw [← t.length]; exact e1, p φ M _ vy g3 s3 (by rw [cut_upd m]; exact e2)⟩
  · exact p.elim
theorem op_popAt : OpM G K rPopAt vPopAt := fun φ M S H w v ws vs Q E s rw_ rs p => by
  unfold vPopAt at p
  split at p
  · rename_i n i
    obtain ⟨a, ha, rfl⟩ := rw_
    cases rs with
    | cons r1 r2 =>
      cases r2
      have r1 : Rep G K (cut H M) (.int i) _ := r1
      cases r1
      cases q : cellL S n with
      | none => simp only [q] at p; exact p.elim
      | some xs =>
        simp only [q] at p
        obtain ⟨m, us, hl, t⟩ := s.cells n _ a (cellL_some q) ha
        split at p
        · rename_i hz
          rw [Bool.and_eq_true] at hz
          cases q1 : seqIndex? i xs.length with
          | none => simp only [q1] at p; exact p.elim
          | some k =>
            simp only [q1] at p
            cases q2 : xs[k]? with
            | none => simp only [q2] at p; exact p.elim
            | some y =>
              simp only [q2] at p
              obtain ⟨vy, e1, e2⟩ := t.get q2
              obtain ⟨s3, g3⟩ := s.write (c := .lst (xs.eraseIdx k)) (o := .lst (us.eraseIdx k)) ha m (by intro _ h; cases h) ⟨m, _, upd_same, by
                rw [cut_upd m]; exact t.erase k⟩
              exact ⟨a, us, i, k, vy, rfl, rfl, hl, of_decide_eq_true hz.1, of_decide_eq_true hz.2, by rw [← t.length]; exact q1, e1, p φ M _ vy g3 s3 (by rw [cut_upd m]; exact e2)⟩
        · exact p.elim
  · exact p.elim
end
section
variable {X : Cx} {G : Gv} {K : PySem.W.Frag} {Wx : WX} {a b e o : Expr} {es : List Expr} {ta tb te to : TE} {ma mb me mo : EM} {t : TA} {ml : LM} {pos apos cpos : Pos}
theorem de_fz (h : DE X G K Wx e te me) : DE X G K Wx e te (eU vFz me) := ⟨h.pe, dx_fz h.dx⟩
theorem de_lstC (ha : DA X G K Wx es t ml) : DE X G K Wx (.List es pos) (tLst t) (eA vLstC ml) := ⟨pe_lst ha.pa, dx_a op_lstC ha.dx⟩
theorem de_ixC (hK : X.K = K) (ha : DE X G K Wx a ta ma) (hb : DE X G K Wx b tb mb) (hs : PlainIx b := by exact fun _ _ => rfl) : DE X G K Wx (.Subscript a b pos) (tOp (rIx K) ta tb) (eO vIx ma mb) := de_ix (ix_seq' hK) op_ix ha hb hs
theorem de_bm {T id : String} {name : Str} {r : V → List V → Hp → VK → Prop} {chk : W → Store → Bool} {f : W → List W → Store → RW} (hK : X.K = K) (pa : PlainAttrs T) (slot : Slot T name id) (hty : typeOf (.builtin id) = pure (.type "method_descriptor")) (hm : MtR X id r) (hc : ChkOk G K T chk) (h : OpM G K r f) (ho : DE X G K Wx o to mo) (ha : DA X G K Wx (e :: es) t ml)
    (hbase : attributeBase o name X.env (eval o X.env) = eval o X.env := by rfl) (hfew : ((backTo cpos (starEach (e :: es) X.env)).all (fun x => !x.1) && (backToKw cpos (keywordEach [] X.env)).all (fun x => x.1.isSome) && decide ((e :: es).length + ([] : List Keyword).length + (if ([] : List Keyword).isEmpty then 0 else 1) < 30)) = true := by rfl)
    (hline : (apos.endLine == cpos.line) = true := by rfl) (hs : starEach (e :: es) X.env = (false, eval e X.env) :: starEach es X.env := by rfl) (hplain : (backTo cpos (starEach es X.env)).any (·.1) = false := by rfl) : DE X G K Wx (.Call (.Attribute o name apos) (e :: es) [] cpos) (tBM K T r to t) (eBM chk f mo ml) := by
  subst hK; exact ⟨pe_bm pa slot hty hm ho.pe ha.pa hbase hfew hline hs hplain, dx_bm hc h ho.dx ha.dx⟩
theorem de_bm0 {T id : String} {name : Str} {r : V → List V → Hp → VK → Prop} {chk : W → Store → Bool} {f : W → List W → Store → RW} (hK : X.K = K) (pa : PlainAttrs T) (slot : Slot T name id) (hty : typeOf (.builtin id) = pure (.type "method_descriptor")) (hm : MtR X id r) (hc : ChkOk G K T chk) (h : OpM G K r f) (ho : DE X G K Wx o to mo)
    (hbase : attributeBase o name X.env (eval o X.env) = eval o X.env := by rfl) (hline : (apos.endLine == cpos.line) = true := by rfl) : DE X G K Wx (.Call (.Attribute o name apos) [] [] cpos) (tBM0 K T r to) (eBM chk f mo lN) := by
  subst hK; exact ⟨pe_bm0 pa slot hty hm ho.pe hbase hline, dx_bm0 hc h ho.dx⟩
end
end DN

namespace DN
open PySem PySem.Spec PyProof.Rows L2

/-- a statement that is never reached -/
def sBad : SM := fun _ _ => .bad
theorem ds_bad {X : Cx} {G : Gv} {K : PySem.W.Frag} {Wx : WX} {st : Stmt} : DS X G K Wx st (fun _ _ _ => False) sBad := ⟨⟨fun pins s σ H D I h => h.elim⟩, fun φ M ρ S σ H D s e p => p.elim⟩

/-! ### split, join -/
def strsD : List D → Option (List Str)
  | [] => some []
  | .str y :: r => (strsD r).map (y :: ·)
  | _ :: _ => none
def oSplit : D → List D → Option D := fun x ys => match x, ys with
  | .str a, [.str b] => if (b.length != 0) && decide (a.length + 2 ≤ sizeLine) then some (.lst ((Txt.split a b).map .str)) else none
  | _, _ => none
def oJoin : D → List D → Option D := fun x ys => match x, ys with
  | .str a, [.lst xs] => (match strsD xs with
    | some zs => if (zs.map (·.length)).sum + zs.length * a.length ≤ 16777216 then some (.str (Txt.join a zs)) else none
    | none => none)
  | .str a, [.tup xs] => (match strsD xs with
    | some zs => if (zs.map (·.length)).sum + zs.length * a.length ≤ 16777216 then some (.str (Txt.join a zs)) else none
    | none => none)
  | _, _ => none
abbrev rSplit : V → List V → Hp → VK → Prop := fun x xs H Q => ∃ a b, x = .str a ∧ xs = [.str b] ∧ (b.length == 0) = false ∧ a.length + 2 ≤ sizeLine ∧ rNewStrs (Txt.split a b) H Q
abbrev rJoin (K : PySem.W.Frag) : V → List V → Hp → VK → Prop := fun x xs H Q => ∃ a p, ∃ ys : List Str, x = .str a ∧ xs = [.ref p] ∧ (SqL K H p (ys.map V.str) ∨ SqT K H p (ys.map V.str)) ∧
    (ys.map (·.length)).sum + ys.length * a.length ≤ 16777216 ∧ Q (.str (Txt.join a ys)) H
section
variable {G : Gv} {K : PySem.W.Frag}
theorem strsD_rep {H : Hp} : ∀ {xs : List D} {vs : List V} {zs : List Str}, RepL G K H xs vs → strsD xs = some zs → vs = zs.map V.str
  | [], _, zs, .nil, e => by
    have : zs = [] := by simpa [strsD] using e.symm
    subst this; rfl
  | x :: xs, _, zs, .cons h t, e => by
    cases h with
    | str y =>
      simp only [strsD, Option.map_eq_some_iff] at e
      obtain ⟨r, e1, rfl⟩ := e
      rw [strsD_rep t e1]; rfl
    | _ => simp [strsD] at e
theorem pure_split : PureM G K rSplit oSplit := fun H M x xs z vx vs Q d rx rs e h => by
  unfold oSplit at e
  split at e
  · split at e
    · rename_i a b hc
      cases e
      cases rx
      cases rs with
      | cons r1 r2 =>
        cases r2; cases r1
        rw [Bool.and_eq_true] at hc
        refine ⟨a, b, rfl, rfl, by simpa using hc.1, of_decide_eq_true hc.2, fun p hp => h _ _ (grow_upd hp) (.lst (new_cut d hp) (RepL.strs _))⟩
    · cases e
  · cases e
theorem pure_join : PureM G K (rJoin K) oJoin := fun H M x xs z vx vs Q d rx rs e h => by
  unfold oJoin at e
  split at e
  · cases rx
    cases rs with
    | cons r1 r2 =>
      cases r2
      split at e
      · rename_i zs hz
        split at e
        · rename_i hc
          cases e
          cases r1 with
          | lst hx t =>
            have := strsD_rep t hz
            subst this
            exact ⟨_, _, zs, rfl, rfl, .inl (SqL.of (cut_le _ _ hx)), hc, h _ _ (fun _ _ q => q) (.str _)⟩
        · cases e
      · cases e
  · cases rx
    cases rs with
    | cons r1 r2 =>
      cases r2
      split at e
      · rename_i zs hz
        split at e
        · rename_i hc
          cases e
          cases r1 with
          | tup hx t =>
            have := strsD_rep t hz
            subst this
            exact ⟨_, _, zs, rfl, rfl, .inr (sqT_mono cut_le hx), hc, h _ _ (fun _ _ q => q) (.str _)⟩
        · cases e
      · cases e
  · cases e
theorem mt_join' {X : Cx} (hK : X.K = K) : MtR X "str.join" (rJoin K) := by subst hK; exact mt_join
end

/-! ### defs held by a name -/
theorem nox_of {P : Program} {w : World} {K : PySem.W.Frag} {mg : Str → Option Value} {base : Heap} {k : Nat} {f : Addr} {fd : FuncData} {ps : List Str} {sp : Sp} (F : FnOk P w K mg base (L2.CX P w) k f fd ps sp) :
    FnOk P w K mg base (fun _ _ _ _ _ _ => False) k f fd ps (fun vs H Q _ => sp vs H Q (fun _ _ _ => False)) where
  len := fun vs H Q E h => F.len vs H Q _ h
  run := fun A outer s H args us vs Q E hr he hb hv h => codeAny_mono (F.run A outer s H args us vs Q _ hr he hb hv h) fun r s' c => by
    cases r with
    | ok fl => cases fl <;> exact c
    | error e => obtain ⟨a, B, H', cls, d, _, _, _, _, _, _, _, x⟩ := c; exact x.elim
/-- the table of what the name may hold: the def's number, its arguments' number, what it does with data -/
abbrev Tab := List (Nat × Nat × PF)
def vA (tab : Tab) : W → List W → Store → RW := fun w ws S => match w with
  | .d (.glo k) => (match tab.lookup k with
    | some (n, f) => if ws.length = n then (match vP f ws S with
      | .exc _ _ _ => .bad
      | r => r) else .bad
    | none => .bad)
  | _ => .bad
def eCA (tab : Tab) (i : Nat) (m : LM) : EM := fun ρ S => match ρ[i]? with
  | some (some (.d (.glo k))) => (match tab.lookup k with
    | some (n, f) => (m ρ S).bind fun ws S1 => if ws.length = n then (match vP f ws S1 with
      | .exc _ _ _ => .bad
      | r => r) else .bad
    | none => .bad)
  | _ => .bad
abbrev Tab' := List (Nat × Nat × (List W → Store → RW))
def tabOf (t : Tab') : Tab := t.map fun p => (p.1, p.2.1, toP p.2.2)
def tabF (G : Gv) (t : Tab') (a : Addr) : Option (Nat × Nat × (List W → Store → RW)) := t.find? fun p => decide (G.ad p.1 = a)
theorem tab_look {G : Gv} {k n : Nat} {f : PF} : ∀ {t : Tab'}, (∀ p ∈ t, G.ad p.1 = G.ad k → p.1 = k) → (tabOf t).lookup k = some (n, f) → ∃ m, tabF G t (G.ad k) = some (k, n, m) ∧ f = toP m
  | [], _, h => by cases h
  | (a, b, m) :: t, hi, h => by
    unfold tabOf at h
    rw [List.map_cons, List.lookup] at h
    split at h
    · rename_i hk
      cases h
      have : k = a := by simpa using hk
      subst this
      exact ⟨m, by unfold tabF; rw [List.find?_cons_of_pos (by simp)], rfl⟩
    · rename_i hk
      have hne : ¬ k = a := by simpa using hk
      obtain ⟨m', h1, h2⟩ := tab_look (t := t) (fun p hp => hi p (List.mem_cons_of_mem _ hp)) h
      refine ⟨m', ?_, h2⟩
      unfold tabF at h1 ⊢
      rw [List.find?_cons_of_neg]
      · exact h1
      · have := hi (a, b, m) List.mem_cons_self
        simp only [decide_eq_true_eq]
        exact fun z => hne (this z).symm
abbrev tabS (G : Gv) (K : PySem.W.Frag) (t : Tab') : Addr → Option Sp := fun a => (tabF G t a).map fun p => fun vs H Q _ => spD G K p.2.1 p.2.2 vs H Q (fun _ _ _ => False)
section
variable {X : Cx} {G : Gv} {K : PySem.W.Frag} {Wx : WX} {t : Tab'} {i k : Nat} {x : Str} {p pos : Pos} {e : Expr} {es : List Expr} {ta : TA} {ml : LM}
theorem dx_callA (hi : ∀ p ∈ t, ∀ k, (∃ q ∈ t, q.1 = k) → G.ad p.1 = G.ad k → p.1 = k) (ha : DLx G K Wx ta ml) : DEx G K Wx (tCallA i (tabS G K t) ta) (eCA (tabOf t) i ml) := fun φ M ρ S σ H Q s e pp => by
  unfold eCA at pp
  split at pp
  · rename_i k hk
    obtain ⟨v, hv, r⟩ := e.at_ i _ hk
    have r : Rep G K (cut H M) (.glo k) v := r
    cases r
    split at pp
    · rename_i n f hf
      have hin : ∃ q ∈ t, q.1 = k := by
        clear hv hk pp e s
        induction t with
        | nil => cases hf
        | cons p t ih =>
          obtain ⟨a, b, m⟩ := p
          unfold tabOf at hf
          rw [List.map_cons, List.lookup] at hf
          split at hf
          · rename_i hk
            exact ⟨_, List.mem_cons_self, by simpa using (show k = a by simpa using hk).symm⟩
          · obtain ⟨q, hq, e⟩ := ih (fun p hp k' hk' => hi p (List.mem_cons_of_mem _ hp) k' (by obtain ⟨q, hq, e⟩ := hk'; exact ⟨q, List.mem_cons_of_mem _ hq, e⟩)) hf
            exact ⟨q, List.mem_cons_of_mem _ hq, e⟩
      obtain ⟨m, h1, rfl⟩ := tab_look (G := G) (fun p hp => hi p hp k hin) hf
      refine ⟨G.ad k, _, hv, by unfold tabS; rw [h1]; rfl, ?_⟩
      refine bindL_ok ha s e pp fun ws S1 φ1 M1 H1 vs g s1 e1 rs p1 => ?_
      split at p1
      · rename_i hn
        refine pure_call (E := fun _ _ _ => False) hn s1 rs ?_
        split at p1
        · exact p1.elim
        · rename_i hne
          cases q : vP (toP m) ws S1 with
          | ok w S2 => rw [q] at p1; exact p1
          | exc c fs S2 => exact (hne _ _ _ q).elim
          | bad => rw [q] at p1; exact p1
      · exact p1.elim
    · exact pp.elim
  · exact pp.elim
/-- what the entries of the table must have -/
def TabOk (X : Cx) (G : Gv) (K : PySem.W.Frag) (k : Nat) (t : Tab') : Prop := ∀ p ∈ t, ∃ (fd : FuncData) (ps : List Str), FnOk X.prog X.w X.K X.mg X.base (L2.CX X.prog X.w) k (G.ad p.1) fd ps (spD G K p.2.1 p.2.2) ∧ PySem.W.keepIn X.K (.ref (G.ad p.1)) = true ∧ Binds X.K fd ps []
theorem de_callA (t : Tab') (hi : ∀ p ∈ t, ∀ k, (∃ q ∈ t, q.1 = k) → G.ad p.1 = G.ad k → p.1 = k) (A : TabOk X G K k t) (hr : Room k X.A) (i : Nat) (ha : DA X G K Wx (e :: es) ta ml) (hN : X.N[i]? = some x := by rfl) (hv : Vis X.env.scope x := by first | exact Or.inl rfl | exact Or.inr (Or.inl rfl) | exact Or.inr (Or.inr rfl)) (hdb : (x == ("__debug__" : Str)) = false := by decide) (hcd : (x == ("__classdict__" : Str)) = false := by decide)
    (he : starEach (e :: es) X.env = (false, eval e X.env) :: starEach es X.env := by rfl) (hpl : (backTo pos (starEach es X.env)).any (·.1) = false := by rfl) : DE X G K Wx (.Call (.Name x p) (e :: es) [] pos) (tCallA i (tabS G K t) ta) (eCA (tabOf t) i ml) := by
  refine ⟨pe_callA (k := k) (S := tabS G K t) (fun f sp h => ?_) hr hN hv ha.pa hdb hcd he hpl, dx_callA hi ha.dx⟩
  unfold tabS at h
  obtain ⟨p, h1, rfl⟩ := Option.map_eq_some_iff.mp h
  have hm := List.mem_of_find?_eq_some h1
  have hf : G.ad p.1 = f := by
    have := List.find?_some h1
    simpa using this
  obtain ⟨fd, ps, F, hk, hb⟩ := A p hm
  subst hf
  exact ⟨fd, ps, nox_of F, hk, hb⟩
end

/-! ### ==, != of instances by an own __eq__ -/
section
open PySem.W
theorem tryNe_K {prog : Program} {w : World} {A : Around} {E : Value → Shared → Prop} {s : Shared} {K : PySem.W.Frag} {x C f : Addr} {ox : Obj} {od : Option Obj} {b : Value} (hu : A.units + 1 < cLine) (X : K.In s.heap) (I : PySem.W.InstAt s.heap x ox C od) (top : mroIn K C (.type "object") = some true)
    (hn : findIn K (.ref C) "__ne__" = some (some (.builtin "object.__ne__"))) (hs : findIn K (.ref C) "__eq__" = some (some (.ref f))) (hf : isFn K (.ref f) = true) {Q : Option Value → Shared → Prop}
    (h : wpAny (model prog w) A.in1 (call (.ref f) [.ref x, b]) (fun v s' => ∃ k, v = .bool k ∧ Q (some (.bool (!k))) s') E s) : wpAny (model prog w) A (tryCompare (.ref x) "__ne__" b) Q E s := by
  have t1 := I.type (M := model prog w)
  have body : wpAny (model prog w) A (call (.builtin "object.__ne__") [.ref x, b]) (fun v s' => ∃ k, v = .bool k ∧ Q (some (.bool k)) s') E s := by
    refine wpAny_call (codeAny_call_builtin F.cmp_object.ne.plain F.cmpEntry_ne (@check_slot (model prog w) _ _ _ "object.__ne__" "object" "__ne__" (.ref x) [b] [] _ F.cmpKind_ne F.cmpSplit_ne (t1.andThen (looks_mroIn X top)) (F.cmpArgs_ne _ _) ?_))
    unfold Builtin.«object.__ne__»
    refine wpAny_bind (m := slotArgs "__ne__" 1 _) (wpAny_pure ?_)
    refine wpAny_bind (wpAny_cRoomFor (by rw [Around.in1_units]; exact hu) ?_)
    refine wpAny_bind (m := callSpecialIfBound? (.ref x) (Str.ofString "__eq__") [b]) (ifBound_K (args := [b]) X I hs hf (wpAny_mono h (fun r s' hr => ?_) fun _ _ e => e))
    obtain ⟨k, rfl, hq⟩ := hr
    refine wpAny_bind (m := truthy (.bool k)) (wpAny_truthy_bool ?_)
    exact wpAny_pure ⟨!k, rfl, hq⟩
  have bd : bindSpecial (.builtin "object.__ne__") (.ref x) = pure (.builtin "object.__ne__", [.ref x]) := F.cmp_object.ne.bind (.ref x)
  have one : wpAny (model prog w) A (callSpecialIfBound? (.ref x) "__ne__" [b]) (fun r s' => ∃ k, r = some (.bool k) ∧ Q (some (.bool k)) s') E s := by
    unfold callSpecialIfBound? bindSpecialIfBound?
    refine wpAny_holding (wpAny_bind (wpAny_bind (wpAny_bind (t1.here ((looks_findIn X hn).here ?_)))))
    refine wpAny_bind (wpAny_askSetting (wpAny_ite ?_))
    have fin : wpAny (model prog w) A (call (.builtin "object.__ne__") ([.ref x] ++ [b]) >>= fun v => pure (some v)) (fun r s' => ∃ k, r = some (.bool k) ∧ Q (some (.bool k)) s') E s := wpAny_bind (wpAny_mono body (fun v s' h' => by
      obtain ⟨k, rfl, hq⟩ := h'
      exact wpAny_pure ⟨k, rfl, hq⟩) fun _ _ h' => h')
    split
    · rw [bd]
      exact wpAny_bind (wpAny_pure (wpAny_pure (by exact fin)))
    · rw [bd]
      exact wpAny_tryCatch (wpAny_bind (wpAny_pure (wpAny_pure (by exact fin))))
  unfold tryCompare
  refine wpAny_bind (wpAny_mono one (fun r s' h' => ?_) fun _ _ e => e)
  obtain ⟨k, rfl, hq⟩ := h'
  exact wpAny_pure hq
theorem ne_K {prog : Program} {w : World} {A : Around} {E : Value → Shared → Prop} {s : Shared} {K : PySem.W.Frag} {x y C f : Addr} {ox : Obj} {od : Option Obj} {Q : Value → Shared → Prop} (hu : A.units + 1 < cLine) (X : K.In s.heap) (I : PySem.W.InstAt s.heap x ox C od) (J : Looks (model prog w) s.heap (typeOf (.ref y)) (.ref C)) (top : PySem.W.mroIn K C (.type "object") = some true)
    (hn : PySem.W.findIn K (.ref C) "__ne__" = some (some (.builtin "object.__ne__"))) (hs : PySem.W.findIn K (.ref C) "__eq__" = some (some (.ref f))) (hf : PySem.W.isFn K (.ref f) = true)
    (h : wpAny (model prog w) A.in1 (call (.ref f) [.ref x, .ref y]) (fun v s' => ∃ k, v = .bool k ∧ Q (.bool (!k)) s') E s) : wpAny (model prog w) A (richCompare .NotEq (.ref x) (.ref y)) Q E s := by
  unfold richCompare
  simp only [oneThing_ref]
  refine wpAny_holding (wpAny_bind (wpAny_cRoomFor (Nat.lt_of_succ_lt hu) ?_))
  rw [cmpInfo_NotEq]
  dsimp only
  refine wpAny_bind (I.type.here (wpAny_bind (J.here ?_)))
  rw [show (Value.ref C != Value.ref C) = false from by simp]
  simp only [Bool.false_eq_true, if_false]
  refine wpAny_bind (wpAny_pure ?_)
  simp only [Bool.false_eq_true, if_false]
  refine wpAny_bind (tryNe_K hu X I top hn hs hf (wpAny_mono h (fun v s' hv => ?_) fun _ _ e => e))
  obtain ⟨k, rfl, hq⟩ := hv
  exact ⟨k, rfl, wpAny_pure hq⟩
end
/-- what is asked of a class with an own == -/
structure EqC (K : PySem.W.Frag) (C f : Addr) : Prop where
  eq : PySem.W.findIn K (.ref C) "__eq__" = some (some (.ref f))
  ne : PySem.W.findIn K (.ref C) "__ne__" = some (some (.builtin "object.__ne__"))
  fn : PySem.W.isFn K (.ref f) = true
  top : PySem.W.mroIn K C (.type "object") = some true
/-- x == y (neg: x != y) of two instances of C by its own == -/
def rEqI (G : Gv) (K : PySem.W.Frag) (C : Addr) (m : List W → Store → RW) (neg : Bool) : R2 := fun x y H Q => ∃ a b dx dy fs gs, x = .ref a ∧ y = .ref b ∧ H a = some (.ins C dx fs) ∧ H b = some (.ins C dy gs) ∧ spD G K 2 m [x, y] H (fun v H' => ∃ k, v = .bl k ∧ Q (.bl (if neg then !k else k)) H') (fun _ _ _ => False)
section
variable {X : Cx} {G : Gv} {K : PySem.W.Frag} {C f : Addr} {fd : FuncData} {ps : List Str} {m : List W → Store → RW} {k : Nat}
theorem insAt {pins : List (Addr × Obj)} {σ : L2.St} {H : Hp} {s : Shared} {a C dx : Addr} {fs : List (Str × V)} (I : Inv X pins σ H s) (ha : H a = some (.ins C dx fs)) : ∃ o od, PySem.W.InstAt s.heap a o C od := by
  obtain ⟨mA, J, _⟩ := ins_get I.hok ha
  obtain ⟨od, J, _⟩ := J.look
  exact ⟨_, _, J⟩
theorem call_eqI {A : Around} {pins : List (Addr × Obj)} {σ : L2.St} {H : Hp} {s : Shared} {a b : Addr} {Q : VK} (F : FnOk X.prog X.w X.K X.mg X.base (L2.CX X.prog X.w) k f fd ps (spD G K 2 m)) (hb : Binds X.K fd ps []) (hr : Room k A) (hfr : A.frames = X.A.frames) (I : Inv X pins σ H s)
    (h : spD G K 2 m [.ref a, .ref b] H Q (fun _ _ _ => False)) : wpAny (model X.prog X.w) A (call (.ref f) [.ref a, .ref b]) (EP X pins σ Q) X.xe s := by
  have e0 : Env0 X.prog X.w X.K X.mg X.base A X.stack s H := by
    have e := I.env0
    exact ⟨by rw [hfr]; exact e.frames, e.mod, e.bs, e.bsz, e.funs, e.frf, e.hok, e.bare⟩
  have hl := F.len _ _ _ _ h
  have r2 : Vals [V.ref a, V.ref b] [Value.ref a, Value.ref b] := .cons rfl (.cons rfl .nil)
  refine wpAny_call (codeAny_mono (F.run A X.stack s H ⟨[.ref a, .ref b], []⟩ [.ref a, .ref b] [.ref a, .ref b] _ _ hr e0 (by
    have := hb s [.ref a, .ref b] I.kIn (by simpa using hl)
    simpa using this) r2 h) fun r s' hq => ?_)
  cases r with
  | error e => obtain ⟨a, B, H', cls, d, _, _, _, _, _, _, _, x⟩ := hq; exact x.elim
  | ok fl =>
    cases fl with
    | ret w =>
      obtain ⟨z, H', I', rz, q⟩ := I.after hq
      exact ⟨z, H', I', rz, q⟩
    | next => exact False.elim hq
    | brk => exact False.elim hq
    | cont => exact False.elim hq
theorem op_eqI (F : FnOk X.prog X.w X.K X.mg X.base (L2.CX X.prog X.w) k f fd ps (spD G K 2 m)) (hb : Binds X.K fd ps []) (hr : Room k X.A) (c : EqC X.K C f) : OpR X (compareOp .Eq) (rEqI G K C m false) := by
  intro pins s σ H x y v u Q I rx ry hq
  obtain ⟨a, b, dx, dy, fs, gs, rfl, rfl, ha, hb', hs⟩ := hq
  cases rx
  cases ry
  show wpAny (model X.prog X.w) X.A (richCompare .Eq (.ref a) (.ref b)) (EP X pins σ Q) X.xe s
  obtain ⟨oa, oda, Ia⟩ := insAt I ha
  obtain ⟨ob, odb, Ib⟩ := insAt I hb'
  obtain ⟨mm, hF⟩ := I.fr
  refine PySem.W.cmp_K (op := .Eq) (tb := .ref C) hr.units0 hF I.ok.mod.kin Ia Ib.type (by simp [PySem.W.notFirst]) c.eq c.fn ?_
  refine wpAny_mono (call_eqI F hb hr rfl I hs) (fun v s' z => ?_) fun _ _ e => e
  obtain ⟨w, H', I', rw_, k, rfl, q⟩ := z
  cases rw_
  exact ⟨.bl k, H', I', rfl, q⟩
theorem op_neI (F : FnOk X.prog X.w X.K X.mg X.base (L2.CX X.prog X.w) k f fd ps (spD G K 2 m)) (hb : Binds X.K fd ps []) (hr : Room (k + 1) X.A) (c : EqC X.K C f) : OpR X (compareOp .NotEq) (rEqI G K C m true) := by
  intro pins s σ H x y v u Q I rx ry hq
  obtain ⟨a, b, dx, dy, fs, gs, rfl, rfl, ha, hb', hs⟩ := hq
  cases rx
  cases ry
  show wpAny (model X.prog X.w) X.A (richCompare .NotEq (.ref a) (.ref b)) (EP X pins σ Q) X.xe s
  obtain ⟨oa, oda, Ia⟩ := insAt I ha
  obtain ⟨ob, odb, Ib⟩ := insAt I hb'
  refine ne_K (by have := hr.un; omega) I.kIn Ia Ib.type c.top c.ne c.eq c.fn ?_
  refine wpAny_mono (call_eqI F hb (hr.in1) rfl I hs) (fun v s' z => ?_) fun _ _ e => e
  obtain ⟨w, H', I', rw_, k, rfl, q⟩ := z
  cases rw_
  exact ⟨k, rfl, .bl (!k), H', I', rfl, q⟩
end
def oEqI (c : Nat) (f : PF) (neg : Bool) : D → D → Option D := fun x y => match x, y with
  | .ins c1 _, .ins c2 _ => if c1 = c ∧ c2 = c then (match f [x, y] with
    | .ok (.bl k) => some (.bl (if neg then !k else k))
    | _ => none) else none
  | _, _ => none
section
variable {G : Gv} {K : PySem.W.Frag}
theorem pure_eqI {c : Nat} {m : List W → Store → RW} {neg : Bool} : Pure2 G K (rEqI G K (G.ad c) m neg) (oEqI c (toP m) neg) := fun H M x y z vx vy Q d rx ry e h => by
  unfold oEqI at e
  split at e
  · split at e
    · rename_i c1 fs c2 gs hc
      obtain ⟨h1, h2⟩ := hc
      subst h1
      subst h2
      have rx' := rx
      have ry' := ry
      cases rx with
      | ins hc1 h1 e1 t1 =>
        cases ry with
        | ins hc2 h2 e2 t2 =>
          refine ⟨_, _, _, _, _, _, rfl, rfl, cut_le _ _ h1, cut_le _ _ h2, ?_⟩
          refine pure_call (φ := []) (S := []) (ws := [.d _, .d _]) rfl (sto_nil d) (.cons rx' (.cons ry' .nil)) ?_
          unfold vP dats dats dats
          dsimp only [Option.map]
          split at e
          · rename_i k hk
            cases e
            rw [hk]
            refine fun φ' M' H' v g s' r => ?_
            have r : Rep G K (cut H' M') (.bl k) v := r
            cases r
            refine ⟨k, rfl, h _ _ (fun a o q => ?_) (.bl _)⟩
            cases q2 : M a with
            | true => rw [(g.frn a q2 (by simp)).1]; exact q
            | false => exact (g.imm a o q q2).1
          · cases e
    · cases e
  · cases e
end
end DN

namespace DN
open PySem PySem.Spec PyProof.Rows L2

section
variable {G : Gv} {K : PySem.W.Frag} {φ : List Addr} {M M' : Addr → Bool} {S : Store} {H H' : Hp}
/-- what lay there lies there still -/
theorem frame_ok (s : Sto G K φ M S H) (h : ∀ a o, H a = some o → H' a = some o ∧ M' a = M a) (d : Dom M' H') : Ge φ M H φ M' H' ∧ Sto G K φ M' S H' := by
  have gc : Grow (cut H M) (cut H' M') := fun a o e => by
    obtain ⟨m, q⟩ := cut_some e
    rw [cut_f ((h a o q).2.trans m)]; exact (h a o q).1
  have hn : ∀ a, H a ≠ none → ∃ o, H a = some o := fun a q => by
    cases e : H a with
    | none => exact (q e).elim
    | some o => exact ⟨o, rfl⟩
  refine ⟨⟨⟨[], by simp⟩, s.dom, fun a o e m => ⟨(h a o e).1, (h a o e).2.trans m⟩, fun a m n => ?_, fun a e n => (n e).elim⟩, ⟨s.len, s.nd, d, fun a e => ?_, fun n c a e1 e2 => ?_⟩⟩
  · obtain ⟨o, e⟩ := hn a (s.dom a m).1
    exact ⟨(h a o e).1.trans e.symm, (h a o e).2.trans m⟩
  · obtain ⟨o, q⟩ := hn a (s.inn a e)
    rw [(h a o q).1]; simp
  · have cr := s.cells n c a e1 e2
    cases c with
    | dead => trivial
    | lst ys =>
      obtain ⟨m, us, q, t⟩ := cr
      exact ⟨(h a _ q).2.trans m, us, (h a _ q).1, RepL.mono gc t⟩
    | dct kvs =>
      obtain ⟨m, vs, q, t⟩ := cr
      exact ⟨(h a _ q).2.trans m, vs, (h a _ q).1, t⟩
    | ins c fs =>
      obtain ⟨m, dx, fvs, q, t⟩ := cr
      exact ⟨⟨(h a _ q).2.trans m.1, m.2⟩, dx, fvs, (h a _ q).1, Paired.mapP t fun p q z => ⟨z.1, RepW.mono' gc z.2⟩⟩
end

/-! ### C(a, b, ..): an instance of data -/
def datsF : List (Str × W) → Option (List D)
  | [] => some []
  | (_, .d x) :: r => (datsF r).map (x :: ·)
  | (_, .h _) :: _ => none
def mkD (c : Nat) (fl : List Str) (m : List W → Store → RW) : PF := fun xs => match m (.h 0 :: xs.map W.d) [.ins c []] with
  | .ok (.d .non) S' => (match (S'[0]? : Option Cell) with
    | some (.ins c' fs) => if c' = c ∧ fs.map (·.1) = fl then (match datsF fs with
      | some ds => .ok (.ins c ds)
      | none => .bad) else .bad
    | _ => .bad)
  | .exc e fs _ => .exc e fs
  | _ => .bad
section
variable {G : Gv} {K : PySem.W.Frag}
theorem datsF_rep {φ : List Addr} {H : Hp} {fs : List (Str × W)} {fvs : List (Str × V)} {ds : List D} (t : Paired (fun (p : Str × W) (q : Str × V) => p.1 = q.1 ∧ RepW G K φ H p.2 q.2) fs fvs) (e : datsF fs = some ds) : fvs.map (·.1) = fs.map (·.1) ∧ RepL G K H ds (fvs.map (·.2)) := by
  induction t generalizing ds with
  | nil =>
    have : ds = [] := by simpa [datsF] using e.symm
    subst this
    exact ⟨rfl, .nil⟩
  | cons h t ih =>
    rename_i p q l m
    obtain ⟨n, w⟩ := p
    cases w with
    | h k => simp [datsF] at e
    | d x =>
      simp only [datsF, Option.map_eq_some_iff] at e
      obtain ⟨ys, e1, rfl⟩ := e
      obtain ⟨i1, i2⟩ := ih e1
      exact ⟨by simp [i1, (show n = q.1 from h.1).symm], .cons h.2 i2⟩
theorem make_ok {c n : Nat} {fl : List Str} {m : List W → Store → RW} (hcs : c ∈ G.cs) (hfl : G.fl c = fl) {φ M S H ws vs Q E} (hn : ws.length + 1 = n) (s : Sto G K φ M S H) (r : RepWL G K φ (cut H M) ws vs) (p : PostE G K φ M H (vP (mkD c fl m) ws S) Q E) {x dx : Addr} (hx : H x = none) (hd : H dx = none) (hne : dx ≠ x) :
    spD G K n m (.ref x :: (vs ++ [])) (upd (upd H dx (.own x)) x (.ins (G.ad c) dx [])) (fun v H2 => v = .non ∧ Q (.ref x) H2) E := by
  unfold vP at p
  cases e : dats ws with
  | none => simp only [e] at p; exact p.elim
  | some xs =>
    simp only [e] at p
    have rl := dats_rep r e
    have hold : ∀ a o, H a = some o → upd (upd H dx (.own x)) x (.ins (G.ad c) dx []) a = some o ∧ addM M x a = M a := fun a o q => by
      have h1 : a ≠ x := ne_of_none q hx
      have h2 : a ≠ dx := ne_of_none q hd
      exact ⟨by rw [upd_ne h1, upd_ne h2]; exact q, addM_ne h1⟩
    have hdom : Dom (addM M x) (upd (upd H dx (.own x)) x (.ins (G.ad c) dx [])) := fun a q => by
      by_cases h1 : a = x
      · rw [h1, upd_same]; exact mob_of (by intro _ h; cases h)
      · rw [addM_ne h1] at q
        cases q2 : H a with
        | none => exact ((s.dom a q).1 q2).elim
        | some o => rw [(hold a o q2).1, ← q2]; exact s.dom a q
    have s0 : Sto G K [x] (addM M x) [.ins c []] (upd (upd H dx (.own x)) x (.ins (G.ad c) dx [])) := by
      refine ⟨rfl, by simp, hdom, fun a h => ?_, fun k cc a e1 e2 => ?_⟩
      · have : a = x := by simpa using h
        rw [this, upd_same]; simp
      · cases k with
        | succ k => simp at e1
        | zero =>
          have h1 : Cell.ins c [] = cc := by simpa using e1
          have h2 : x = a := by simpa using e2
          subst h1 h2
          exact ⟨⟨addM_self, hcs⟩, dx, [], upd_same, .nil⟩
    have gc : Grow (cut H M) (cut (upd (upd H dx (.own x)) x (.ins (G.ad c) dx [])) (addM M x)) := fun a o z => by
      obtain ⟨z1, z2⟩ := cut_some z
      rw [cut_f ((hold a o z2).2.trans z1)]; exact (hold a o z2).1
    refine ⟨[x], addM M x, [.ins c []], .h 0 :: xs.map W.d, by simp [dats_len e, hn], s0, .cons ⟨x, rfl, rfl⟩ (by rw [List.append_nil]; exact repL_w (RepL.mono gc rl)), ?_⟩
    have stay : ∀ {φ' M' H'}, Ge [x] (addM M x) (upd (upd H dx (.own x)) x (.ins (G.ad c) dx [])) φ' M' H' → ∀ a o, H a = some o → H' a = some o ∧ M' a = M a := fun {φ' M' H'} g a o q => by
      obtain ⟨q1, q2⟩ := hold a o q
      have h1 : a ≠ x := ne_of_none q hx
      cases hm : M a with
      | false => exact g.imm a o q1 (q2.trans hm)
      | true =>
        have := g.frn a (q2.trans hm) (by simpa using h1)
        exact ⟨this.1.trans q1, this.2⟩
    unfold mkD at p
    cases q : m (.h 0 :: xs.map W.d) [.ins c []] with
    | bad => simp only [q] at p; exact p.elim
    | exc c' fs S' =>
      simp only [q] at p
      refine fun φ' M' H' od g s' er => ?_
      obtain ⟨g2, s2⟩ := frame_ok s (stay g) s'.dom
      exact p φ M' H' od g2 s2 er
    | ok w S' =>
      simp only [q] at p
      cases w with
      | h k => exact p.elim
      | d wx =>
        cases wx with
        | non =>
          cases h0 : (S'[0]? : Option Cell) with
          | none => simp only [h0] at p; exact p.elim
          | some cc =>
            cases cc with
            | ins c' fs =>
              simp only [h0] at p
              by_cases hc : c' = c ∧ fs.map (·.1) = fl
              · rw [if_pos hc] at p
                obtain ⟨hc1, hfs⟩ := hc
                subst hc1
                cases hds : datsF fs with
                | none => simp only [hds] at p; exact p.elim
                | some ds =>
                  simp only [hds] at p
                  refine fun φ' M' H' v g s' rv => ?_
                  have rv : Rep G K (cut H' M') .non v := rv
                  cases rv
                  refine ⟨rfl, ?_⟩
                  have hx0 : φ'[0]? = some x := by
                    obtain ⟨rr, hr⟩ := g.pre
                    rw [hr]; rfl
                  obtain ⟨m1, dx', fvs, hh, pp⟩ := s'.cells 0 _ x h0 hx0
                  obtain ⟨k1, k2⟩ := datsF_rep pp hds
                  have hst : ∀ a o, H a = some o → H' a = some o ∧ unM M' x a = M a := fun a o z => by
                    have h1 : a ≠ x := ne_of_none z hx
                    exact ⟨(stay g a o z).1, by rw [unM_ne h1]; exact (stay g a o z).2⟩
                  obtain ⟨g2, s2⟩ := frame_ok s hst (fun a z => s'.dom a (unM_t z).1)
                  exact p φ (unM M' x) H' (.ref x) g2 s2 (.ins m1.2 (by rw [cut_f unM_self]; exact hh) (by rw [k1, hfs, hfl]) (RepL.mono unM_cut k2))
              · rw [if_neg hc] at p; exact p.elim
            | _ => simp only [h0] at p; exact p.elim
        | _ => simp only at p; exact p.elim
end
section
variable {X : Cx} {G : Gv} {K : PySem.W.Frag} {Wx : WX} {E : XK} {k n c : Nat} {f : Addr} {fd : FuncData} {ps : List Str} {fl : List Str} {m : List W → Store → RW} {x : Str} {p pos : Pos} {e : Expr} {es : List Expr} {t : TA} {ml : LM}
theorem de_make (hcs : c ∈ G.cs) (hfl : G.fl c = fl) (tk : Takes X (WE' E)) (Mc : Mk X.K (G.ad c) f) (F : FnOk X.prog X.w X.K X.mg X.base (L2.CX X.prog X.w) k f fd ps (spD G K (n + 1) m)) (hr : Room (k + 1) X.A) (hg : Gl X x) (hm : X.mg x = some (.ref (G.ad c))) (hb : Binds X.K fd ps []) (ha : DA X G K (WE' E) (e :: es) t ml) (hdb : (x == ("__debug__" : Str)) = false := by decide)
    (he : starEach (e :: es) X.env = (false, eval e X.env) :: starEach es X.env := by rfl) (hpl : (backTo pos (starEach es X.env)).any (·.1) = false := by rfl) : DE X G K (WE' E) (.Call (.Name x p) (e :: es) [] pos) (tMake (G.ad c) (spD G K (n + 1) m) [] E t) (eA (nArg n (vP (mkD c fl m))) ml) := by
  refine ⟨pe_make Mc F hr hg hm hb .nil (passes_call tk fun _ _ _ _ h => h) ha.pa hdb he hpl, fun φ M ρ S σ H Q s env p => bindL_ok ha.dx s env p fun ws S1 φ1 M1 H1 vs g s1 e1 r p1 => ?_⟩
  intro y dx hy hd hne
  unfold nArg at p1
  split at p1
  · rename_i hn
    exact make_ok hcs hfl (by omega) s1 r p1 hy hd hne
  · exact p1.elim
end

/-! ### o.f = v -/
def putW (f : Str) (y : W) : List (Str × W) → List (Str × W)
  | [] => [(f, y)]
  | (g, x) :: r => if g = f then (g, y) :: r else (g, x) :: putW f y r
def sFl (c0 : Nat) (f : Str) (mo m : EM) : SM := fun ρ S => match m ρ S with
  | .ok w S1 => (match mo ρ S1 with
    | .ok (.h n) S2 => (match (S2[n]? : Option Cell) with
      | some (.ins c fs) => if c = c0 ∧ fs.length < 1000 then .nx ρ (S2.set n (.ins c (putW f w fs))) else .bad
      | _ => .bad)
    | .exc c fs S2 => .exc ρ c fs S2
    | _ => .bad)
  | .exc c fs S1 => .exc ρ c fs S1
  | .bad => .bad
section
variable {G : Gv} {K : PySem.W.Frag} {Wx : WX}
theorem putW_rep {φ : List Addr} {H : Hp} {f : Str} {w : W} {v : V} (r : RepW G K φ H w v) : ∀ {fs : List (Str × W)} {fvs : List (Str × V)}, Paired (fun (p : Str × W) (q : Str × V) => p.1 = q.1 ∧ RepW G K φ H p.2 q.2) fs fvs → Paired (fun (p : Str × W) (q : Str × V) => p.1 = q.1 ∧ RepW G K φ H p.2 q.2) (putW f w fs) (putF f v fvs)
  | _, _, .nil => .cons ⟨rfl, r⟩ .nil
  | (g, x) :: r', (g', x') :: r'', .cons h t => by
    have hg : g = g' := h.1
    subst hg
    unfold putW putF
    by_cases hk : g = f
    · rw [if_pos hk, if_pos hk]; exact .cons ⟨rfl, r⟩ t
    · rw [if_neg hk, if_neg hk]; exact .cons h (putW_rep r t)
theorem dsx_fl {c : Nat} {f : Str} {to tv : TE} {mo m : EM} (cl : Cls K (G.ad c)) (na : NoAttr K (G.ad c) f) (ho : DEx G K Wx to mo) (hv : DEx G K Wx tv m) : DSx G K Wx (sFld K to tv f) (sFl c f mo m) := fun φ M ρ S σ H D s e p => by
  refine hv φ M ρ S σ H _ s e ?_
  unfold sFl at p
  cases q : m ρ S with
  | bad => simp only [q] at p; exact p.elim
  | exc c fs S1 => simp only [q] at p; exact fun φ1 M1 H1 od g s1 x => p φ1 M1 H1 od σ g s1 (e.ge g) x
  | ok w S1 =>
    simp only [q] at p
    refine fun φ1 M1 H1 v g1 s1 r => ho φ1 M1 ρ S1 σ H1 _ s1 (e.ge g1) ?_
    cases q2 : mo ρ S1 with
    | bad => simp only [q2] at p; exact p.elim
    | exc c fs S2 => simp only [q2] at p; exact fun φ2 M2 H2 od g s2 x => p φ2 M2 H2 od σ (g1.trans g) s2 (e.ge (g1.trans g)) x
    | ok wo S2 =>
      cases wo with
      | d x => simp only [q2] at p; exact p.elim
      | h n =>
        simp only [q2] at p
        refine fun φ2 M2 H2 vo g2 s2 ro => ?_
        obtain ⟨a, ha, rfl⟩ := ro
        cases q3 : (S2[n]? : Option Cell) with
        | none => simp only [q3] at p; exact p.elim
        | some cc =>
          cases cc with
          | ins c' fs =>
            simp only [q3] at p
            by_cases hc : c' = c ∧ fs.length < 1000
            · rw [if_pos hc] at p
              obtain ⟨hc1, hl⟩ := hc
              subst hc1
              obtain ⟨m1, dx, fvs, hh, pp⟩ := s2.cells n _ a q3 ha
              obtain ⟨s3, g3⟩ := s2.write (c := .ins c' (putW f w fs)) (o := .ins (G.ad c') dx (putF f v fvs)) ha m1.1 (by intro _ h; cases h) ⟨m1, dx, _, upd_same, by rw [cut_upd m1.1]; exact putW_rep (r.ge g2) pp⟩
              exact ⟨a, G.ad c', dx, fvs, rfl, hh, cl, na, by rw [← Paired.length pp]; exact hl, p φ2 M2 _ σ (g1.trans (g2.trans g3)) s3 (e.ge (g1.trans (g2.trans g3)))⟩
            · rw [if_neg hc] at p; exact p.elim
          | _ => simp only [q3] at p; exact p.elim
end
section
variable {X : Cx} {G : Gv} {K : PySem.W.Frag} {Wx : WX} {o e : Expr} {to te : TE} {mo m : EM} {f : Str} {pos pos' : Pos}
theorem ds_fl (c : Nat) (hK : X.K = K) (cl : Cls K (G.ad c)) (na : NoAttr K (G.ad c) f) (ho : DE X G K Wx o to mo) (he : DE X G K Wx e te m) (hs : swapsWith e (some (.Attribute o f pos')) pos.line X.env = pure false := by rfl) : DS X G K Wx (.Assign [.Attribute o f pos'] e pos) (sFld K to te f) (sFl c f mo m) := by
  subst hK; exact ⟨ps_fld ho.pe he.pe hs, dsx_fl cl na ho.dx he.dx⟩
end
end DN

namespace DN
open PySem PySem.Spec PyProof.Rows L2

def oMulI : D → D → Option D
  | .int i, .int j => if smallI i || smallI j then some (.int (i * j)) else none
  | _, _ => none
theorem pure_mulI {G : Gv} {K : PySem.W.Frag} : Pure2 G K (rI CMul fun i j => .int (i * j)) oMulI := fun H M x y z vx vy Q d rx ry e h => by
  unfold oMulI at e
  split at e
  · split at e
    · rename_i hc
      cases e; cases rx; cases ry
      refine ⟨_, _, rfl, rfl, ?_, h _ _ (fun _ _ q => q) (.int _)⟩
      rcases Bool.or_eq_true_iff.mp hc with hc | hc
      · exact .inl (smallI_ok hc)
      · exact .inr (smallI_ok hc)
    · cases e
  · cases e
/-! ### a op b op c -/
def eCh (f g : W → W → Store → RW) (a b c : EM) : EM := fun ρ S => (a ρ S).bind fun x S1 => (b ρ S1).bind fun y S2 => (f x y S2).bind fun z S3 => match z with
  | .d (.bl true) => (c ρ S3).bind fun w S4 => g y w S4
  | .d (.bl false) => .ok (.d (.bl false)) S3
  | _ => .bad
section
variable {X : Cx} {G : Gv} {K : PySem.W.Frag} {Wx : WX} {a b c : Expr} {ta tb tc : TE} {ma mb mc : EM} {pos : Pos}
theorem dx_ch {r r' : R2} {f g : W → W → Store → RW} (h : Op2 G K r f) (h' : Op2 G K r' g) (ha : DEx G K Wx ta ma) (hb : DEx G K Wx tb mb) (hc : DEx G K Wx tc mc) : DEx G K Wx (tChain r r' ta tb tc) (eCh f g ma mb mc) := fun φ M ρ S σ H Q s e p =>
  bind_ok ha s e p fun w S1 φ1 M1 H1 v g1 s1 e1 rw_ p1 => bind_ok hb s1 e1 p1 fun w2 S2 φ2 M2 H2 v2 g2 s2 e2 rw2 p2 => by
    refine h φ2 M2 S2 H2 w v w2 v2 _ (fun c d H' => Wx c d σ H') s2 (rw_.ge g2) rw2 ?_
    cases q : f w w2 S2 with
    | bad => rw [q] at p2; exact p2
    | exc c fs S3 => rw [q] at p2; exact p2
    | ok z S3 =>
      rw [q] at p2
      refine fun φ3 M3 H3 vz g3 s3 rz => ?_
      have p3 := PostE.ge g3 p2
      have e3 := e2.ge g3
      simp only [RW.bind] at p3
      split at p3
      · have rz : Rep G K (cut H3 M3) (.bl true) vz := rz
        cases rz
        refine ⟨true, rfl, ?_⟩
        rw [if_pos rfl]
        exact bind_ok hc s3 e3 p3 fun w4 S4 φ4 M4 H4 v4 g4 s4 e4 r4 p4 => h' φ4 M4 S4 H4 w2 v2 w4 v4 Q _ s4 (rw2.ge (g3.trans g4)) r4 p4
      · have rz : Rep G K (cut H3 M3) (.bl false) vz := rz
        cases rz
        refine ⟨false, rfl, ?_⟩
        rw [if_neg (by decide)]
        exact post_ok p3 s3 (.bl false)
      · exact p3.elim
theorem de_ch {op op' : CmpOp} {r r' : R2} {f g : W → W → Store → RW} (ho : OpR X (compareOp op) r) (h : Op2 G K r f) (ho' : OpR X (compareOp op') r') (h' : Op2 G K r' g) (ha : DE X G K Wx a ta ma) (hb : DE X G K Wx b tb mb) (hc : DE X G K Wx c tc mc) (hm : lastMarks [op, op'] [b, c] = false := by with_unfolding_all rfl) : DE X G K Wx (.Compare a [op, op'] [b, c] pos) (tChain r r' ta tb tc) (eCh f g ma mb mc) := ⟨pe_chain ho ho' ha.pe hb.pe hc.pe hm, dx_ch h h' ha.dx hb.dx hc.dx⟩
theorem dt_ch {op op' : CmpOp} {r r' : R2} {f g : W → W → Store → RW} (ho : OpR X (compareOp op) r) (h : Op2 G K r f) (ho' : OpR X (compareOp op') r') (h' : Op2 G K r' g) (ha : DE X G K Wx a ta ma) (hb : DE X G K Wx b tb mb) (hc : DE X G K Wx c tc mc) (hm : lastMarks [op, op'] [b, c] = false := by with_unfolding_all rfl) : DT X G K Wx (.Compare a [op, op'] [b, c] pos) (tTest (tChain r r' ta tb tc)) (eCh f g ma mb mc) := ⟨pt_chain ho ho' ha.pe hb.pe hc.pe hm, dtx_val (dx_ch h h' ha.dx hb.dx hc.dx)⟩
end

/-! ### walking a str -/
def chD (x : Str) : List D := x.cps.toList.map fun c => .str ⟨#[c]⟩
def iSt (m : EM) : IM := fun ρ S => match m ρ S with
  | .ok (.d (.str x)) S' => .ok (chD x) S'
  | .exc c fs S' => .exc c fs S'
  | _ => .bad
section
variable {X : Cx} {G : Gv} {K : PySem.W.Frag} {Wx : WX} {tg e : Expr} {te : TE} {m : EM}
theorem walkD_str {M : Addr → Bool} {H : Hp} {x : Str} : WalkD G K (Its x) M H (chD x) where
  go := fun i H2 hi k => show i < x.cps.size by simpa [chD] using hi
  stop := fun H2 k => show x.cps.size ≤ (chD x).length by simp [chD]
  yld := fun i H2 M2 v H3 hi k d y => by
    obtain ⟨rfl, c, hc, rfl⟩ := y
    exact ⟨fun _ _ q => q, .str ⟨#[c]⟩, by simp [chD, hc], .str _⟩
theorem dix_str {t : TE} (h : DEx G K Wx t m) : DIx G K Wx (iStr t) (iSt m) := fun φ M ρ S σ H R s e p => by
  refine h φ M ρ S σ H _ s e ?_
  unfold iSt at p
  cases q : m ρ S with
  | bad => simp only [q] at p
  | exc c fs S1 => simp only [q] at p; exact p
  | ok w S1 =>
    cases w with
    | h n => simp only [q] at p
    | d x =>
      cases x with
      | str x =>
        simp only [q] at p
        refine fun φ1 M1 H1 v g s1 r => ?_
        cases r
        exact ⟨x, rfl, p φ1 M1 H1 _ g s1 walkD_str⟩
      | _ => simp only [q] at p
theorem di_str (he : DE X G K Wx e te m) : DI X G K Wx tg e (iStr te) (iSt m) := ⟨pi_str he.pe, dix_str he.dx⟩
end

/-! ### a def of the program, its promise -/
abbrev FnD (K : PySem.W.Frag) (x qual : Str) (st : Stmt) (f : Addr) (fd : FuncData) : Prop := FunD K x qual (defArgs st) (defBody st) (defScope st) [] [] f fd
/-- a call by names: so many by position, so many names, which value for which parameter, the names -/
abbrev KB := Nat × Nat × List Nat × List Str
abbrev BindOk (x qual : Str) (st : Stmt) (ps : List Str) (q : KB) : Prop := ∀ (kV doc pm : Value) (an : Option Addr) (cdv ct : Value) (us ws : List Value), us.length = q.1 → ws.length = q.2.1 → bindArgs (PySem.W.fnOf x qual (defArgs st) (defBody st) (defScope st) .none kV doc pm an cdv ct) ⟨us, q.2.2.2.zip ws⟩ = pure (ps.zip (perm q.1 q.2.1 q.2.2.1 us ws))
inductive BindsOk (x qual : Str) (st : Stmt) (ps : List Str) : List KB → Prop
  | nil : BindsOk x qual st ps []
  | cons {q : KB} {r : List KB} (h : BindOk x qual st ps q) (t : BindsOk x qual st ps r) : BindsOk x qual st ps (q :: r)
theorem BindsOk.at {x qual : Str} {st : Stmt} {ps : List Str} {q : KB} : ∀ {l : List KB}, BindsOk x qual st ps l → q ∈ l → BindOk x qual st ps q
  | _, .cons h t, hq => by
    rcases List.mem_cons.mp hq with e | e
    · rw [e]; exact h
    · exact t.at e
theorem kb_of {K : PySem.W.Frag} {x qual : Str} {st : Stmt} {f : Addr} {fd : FuncData} {ps : List Str} {q : KB} (F : FnD K x qual st f fd) (h0 : 0 < ps.length) (h : BindOk x qual st ps q) : KBinds K fd ps q.2.2.2 (perm q.1 q.2.1 q.2.2.1) (perm q.1 q.2.1 q.2.2.1) := by
  obtain ⟨oc, od, dV, kV, doc, pm, an, cdv, ct, osl, rfl, lk, hcd, hD, hK⟩ := F.ex
  rcases hD with ⟨_, rfl⟩ | ⟨e, _⟩
  · exact kbinds_of h0 (h kV doc pm an cdv ct)
  · exact absurd rfl e
def fdOf (K : PySem.W.Frag) (f : Addr) : Option FuncData := match K.lookup f with
  | some ⟨_, _, .func fd, _⟩ => some fd
  | _ => none
theorem fdOf_of {K : PySem.W.Frag} {x qual : Str} {st : Stmt} {f : Addr} {fd : FuncData} (F : FnD K x qual st f fd) : fdOf K f = some fd := by
  obtain ⟨oc, od, dV, kV, doc, pm, an, cdv, ct, osl, rfl, lk, hcd, hD, hK⟩ := F.ex
  unfold fdOf
  rw [lk]
/-- the def number g keeps its promise: level, parameters, what it computes; how its arguments are bound by names -/
structure OkF (P : Program) (w : World) (K : PySem.W.Frag) (mg : Str → Option Value) (base : Heap) (G : Gv) (k g : Nat) (ps : List Str) (kbs : List KB) (m : List W → Store → RW) : Prop where
  ex : ∃ fd, fdOf K (G.ad g) = some fd ∧ FnOk P w K mg base (L2.CX P w) k (G.ad g) fd ps (spD G K ps.length m) ∧ PySem.W.keepIn K (.ref (G.ad g)) = true ∧ Binds K fd ps [] ∧ ∀ q ∈ kbs, 0 < ps.length → KBinds K fd ps q.2.2.2 (perm q.1 q.2.1 q.2.2.1) (perm q.1 q.2.1 q.2.2.1)
section
variable {P : Program} {w : World} {K : PySem.W.Frag} {mg : Str → Option Value} {base : Heap} {x qual : Str} {st : Stmt} {f : Addr} {fd : FuncData} {N ps : List Str} {k g : Nat} {b : SM} {G : Gv} {kbs : List KB}
/-- within a body -/
structure InB (P : Program) (w : World) (K : PySem.W.Frag) (mg : Str → Option Value) (base : Heap) (k : Nat) (X : Cx) : Prop where
  pr : X.prog = P
  wo : X.w = w
  kk : X.K = K
  mm : X.mg = mg
  bb : X.base = base
  hr : Room k X.A
  cm : X.calm = true
theorem okF_of (hf : G.ad g = f) (F : FnD K x qual st f fd) (S : FnScope N ps (defScope st))
    (hbind : ∀ (kV doc pm : Value) (an : Option Addr) (cdv ct : Value) (us : List Value), us.length = ps.length → bindArgs (PySem.W.fnOf x qual (defArgs st) (defBody st) (defScope st) .none kV doc pm an cdv ct) ⟨us, []⟩ = pure (ps.zip us))
    (hk : BindsOk x qual st ps kbs)
    (hb : ∀ (cdv : Value) (A : Around) (outer : List PySem.Env) (s : Shared) (H : Hp) (E : XK) (hr : Room k (A.deeper (envOfC qual (defScope st) s.heap.objs.size f cdv))), ∃ t, DB (cxOf (L2.CX P w) P w K mg base N qual (defScope st) f cdv A outer s H E) G K (fun c d _ H' => E c d H') (defBody st) t b) :
    OkF P w K mg base G (k + 1) g ps kbs (mRun N.length b) := by
  subst hf
  exact ⟨fd, fdOf_of F, body_ok F S hb, F.kp, F.bindsN hbind, fun q hq h0 => kb_of F h0 (hk.at hq)⟩
theorem OkF.up {m : List W → Store → RW} {j : Nat} (o : OkF P w K mg base G j g ps kbs m) (h : j ≤ k) : OkF P w K mg base G k g ps kbs m := by
  obtain ⟨fd, _, F, h1, h2, h3⟩ := o.ex
  exact ⟨fd, by assumption, F.mono h, h1, h2, h3⟩
end
section
variable {P : Program} {w : World} {K : PySem.W.Frag} {mg : Str → Option Value} {base : Heap} {N : List Str} {qual : Str} {scope : Scope} {f : Addr} {cdv : Value} {A : Around} {outer : List PySem.Env} {s : Shared} {H : Hp} {E : XK}
theorem tk_cx : Takes (cxOf (L2.CX P w) P w K mg base N qual scope f cdv A outer s H E) (fun c d _ H' => E c d H') := takes_of rfl rfl rfl rfl
theorem hp_cx : PassesOwn (model P w) (A.deeper (envOfC qual scope s.heap.objs.size f cdv)) (envOfC qual scope s.heap.objs.size f cdv) (cxOf (L2.CX P w) P w K mg base N qual scope f cdv A outer s H E).xe := passes_of rfl
end
/-- a def that is never called -/
theorem okF_bad {P : Program} {w : World} {K : PySem.W.Frag} {mg : Str → Option Value} {base : Heap} {G : Gv} {x qual : Str} {st : Stmt} {f : Addr} {fd : FuncData} {ps : List Str} {k g : Nat} {kbs : List KB} (hf : G.ad g = f) (F : FnD K x qual st f fd)
    (hbind : ∀ (kV doc pm : Value) (an : Option Addr) (cdv ct : Value) (us : List Value), us.length = ps.length → bindArgs (PySem.W.fnOf x qual (defArgs st) (defBody st) (defScope st) .none kV doc pm an cdv ct) ⟨us, []⟩ = pure (ps.zip us)) (hk : BindsOk x qual st ps kbs) : OkF P w K mg base G k g ps kbs (fun _ _ => .bad) := by
  subst hf
  refine ⟨fd, fdOf_of F, ⟨fun vs H Q E h => ?_, fun A outer s H args us vs Q E hr he hb hv h => ?_⟩, F.kp, F.bindsN hbind, fun q hq h0 => kb_of F h0 (hk.at hq)⟩
  · obtain ⟨_, _, _, _, _, _, _, p⟩ := h; exact p.elim
  · obtain ⟨_, _, _, _, _, _, _, p⟩ := h; exact p.elim
/-! ### facts of the top -/
structure Hyp (fa : List He.Fa) (fn : List He.DefD) (ex : PySem.W.Frag → Bool) (K : PySem.W.Frag) (mg : Str → Option Value) : Prop where
  ex : ∃ h : Heap, K.In h ∧ h.Ns mainGlobals mg ∧ He.SaysD fa fn K ∧ ex K = true
section
variable {fa : List He.Fa} {fn : List He.DefD} {ex : PySem.W.Frag → Bool} {K : PySem.W.Frag} {mg : Str → Option Value}
theorem Hyp.says (Y : Hyp fa fn ex K mg) : He.SaysD fa fn K := let ⟨_, _, _, c, _⟩ := Y.ex; c
theorem Hyp.more (Y : Hyp fa fn ex K mg) : ex K = true := let ⟨_, _, _, _, c⟩ := Y.ex; c
theorem Hyp.glo (Y : Hyp fa fn ex K mg) (i : Nat) {x : Str} (h : fa[i]? = some (.glo x) := by rfl) : mg x = some (.ref (He.ga K x)) := by
  obtain ⟨h0, X, N, c, _⟩ := Y.ex
  exact He.glo_ok X N (c.fact i h)
theorem Hyp.free (Y : Hyp fa fn ex K mg) (i : Nat) {x : Str} (h : fa[i]? = some (.free x) := by rfl) : mg x = none := by
  obtain ⟨h0, X, N, c, _⟩ := Y.ex
  exact He.free_ok X N (c.fact i h)
theorem Hyp.int (Y : Hyp fa fn ex K mg) (i : Nat) {x : Str} {z : Int} (h : fa[i]? = some (.int x z) := by rfl) : ∃ t, mg x = some (.int z t) := by
  obtain ⟨h0, X, N, c, _⟩ := Y.ex
  exact He.int_ok X N (c.fact i h)
theorem Hyp.str (Y : Hyp fa fn ex K mg) (i : Nat) {x z : Str} (h : fa[i]? = some (.str x z) := by rfl) : ∃ t, mg x = some (.str z t) := by
  obtain ⟨h0, X, N, c, _⟩ := Y.ex
  exact He.str_ok X N (c.fact i h)
/-- a tuple of the top of ints -/
theorem tupG {G : Gv} {x : Str} {ns : List Int} (h : He.tupB K x (ns.map He.Dv.int) = true) : ∀ H, Rep G K H (.tup (ns.map D.int)) (.ref (He.ga K x)) := fun H => by
  have := He.tupB_ok h H
  refine .tup this ?_
  rw [List.map_map]
  exact RepL.ints ns
end
/-! ### facts of classes, looked at -/
def insTyB (K : PySem.W.Frag) (C : Addr) : Bool := (PySem.W.plainGet K C Str.empty && (PySem.W.hasDictIn K C && (PySem.W.plainOver K C && He.eqO (PySem.W.findIn K (.ref C) "__setattr__") (some (some (.builtin "object.__setattr__")))))) &&
  (He.eqO (PySem.W.findIn K (.ref C) "__class__") (some (some (.builtin "object.__class__"))) && (He.eqO (PySem.W.specialIn K (.builtin "object.__class__") "__get__") (some (some (.builtin "getset_descriptor.__get__"))) && (decide (PySem.W.takesIn K (.builtin "object.__class__") = some true) && decide (PySem.W.mroIn K C (.type "object") = some true))))
def insOkB (G : Gv) (K : PySem.W.Frag) : Bool := G.cs.all fun c => insTyB K (G.ad c) && [T5.int, .bool, .str, .tuple, .list].all fun t => decide (PySem.W.kitOne K (.ref (G.ad c)) (.type t.name) = some false)
def ownOkB (G : Gv) (K : PySem.W.Frag) (k : Nat) : Bool := (["NoneType", "bool", "int", "str", "list", "tuple"].all fun n => decide (PySem.W.kitOne K (.type n) (.ref (G.ad k)) = some false)) && G.cs.all fun c => insTyB K (G.ad c) && decide (PySem.W.kitOne K (.ref (G.ad c)) (.ref (G.ad k)) = some (c == k))
def eqCB (K : PySem.W.Frag) (C f : Addr) : Bool := He.eqO (PySem.W.findIn K (.ref C) "__eq__") (some (some (.ref f))) && (He.eqO (PySem.W.findIn K (.ref C) "__ne__") (some (some (.builtin "object.__ne__"))) && (PySem.W.isFn K (.ref f) && decide (PySem.W.mroIn K C (.type "object") = some true)))
section
variable {G : Gv} {K : PySem.W.Frag}
theorem insTyB_ok {c : Nat} (h : insTyB K (G.ad c) = true) : InsTy G K c := by
  unfold insTyB at h
  obtain ⟨h1, h2⟩ := He.ba h
  obtain ⟨c1, h1⟩ := He.ba h1
  obtain ⟨c2, h1⟩ := He.ba h1
  obtain ⟨c3, c4⟩ := He.ba h1
  obtain ⟨d1, h2⟩ := He.ba h2
  obtain ⟨d2, h2⟩ := He.ba h2
  obtain ⟨d3, d4⟩ := He.ba h2
  exact ⟨⟨c1, c2, c3, He.eqO_ok c4⟩, He.eqO_ok d1, He.eqO_ok d2, of_decide_eq_true d3, of_decide_eq_true d4⟩
theorem insOkB_ok (h : insOkB G K = true) : InsOk G K := fun c hc => by
  have := List.all_eq_true.mp h c hc
  obtain ⟨h1, h2⟩ := He.ba this
  refine ⟨insTyB_ok h1, fun t => ?_⟩
  have := List.all_eq_true.mp h2 t (by cases t <;> simp)
  exact of_decide_eq_true this
theorem ownOkB_ok {k : Nat} (h : ownOkB G K k = true) : OwnOk G K k := by
  obtain ⟨h1, h2⟩ := He.ba h
  refine ⟨fun n hn => of_decide_eq_true (List.all_eq_true.mp h1 n hn), fun c hc => ?_⟩
  obtain ⟨h3, h4⟩ := He.ba (List.all_eq_true.mp h2 c hc)
  exact ⟨insTyB_ok h3, of_decide_eq_true h4⟩
theorem eqCB_ok {C f : Addr} (h : eqCB K C f = true) : EqC K C f := by
  obtain ⟨h1, h⟩ := He.ba h
  obtain ⟨h2, h⟩ := He.ba h
  obtain ⟨h3, h4⟩ := He.ba h
  exact ⟨He.eqO_ok h1, He.eqO_ok h2, h3, of_decide_eq_true h4⟩
end
theorem takesN {X : Cx} : Takes X W0 := takes_none5
section
variable {X : Cx} {G : Gv} {Wx : WX} {k j g : Nat} {ps : List Str} {m : List W → Store → RW} {x : Str} {p pos kpos : Pos} {e : Expr} {es : List Expr} {kws : List Keyword} {t ta tk' : TA} {ml mk : LM} {kbs : List KB} {E : XK}
/-- calls, with the promise bundled; by: how the callee's function is used on the cells -/
theorem de_cS {K : PySem.W.Frag} {n : Nat} (o : OkF X.prog X.w X.K X.mg X.base G j g ps kbs m) (tk : Takes X Wx) (hr : Room k X.A) (hj : j ≤ k) (hg : Gl X x) (hm : X.mg x = some (.ref (G.ad g))) (ha : DA X G K Wx (e :: es) t ml) (hdb : (x == ("__debug__" : Str)) = false := by decide)
    (he : starEach (e :: es) X.env = (false, eval e X.env) :: starEach es X.env := by rfl) (hpl : (backTo pos (starEach es X.env)).any (·.1) = false := by rfl) (hn : ps.length = n := by rfl) (hK : X.K = K := by rfl) : DE X G K Wx (.Call (.Name x p) (e :: es) [] pos) (tCallS (spD G K ps.length m) (WE Wx) t) (eA (nArg n (vC m)) ml) := by
  subst hn
  subst hK
  obtain ⟨fd, _, F, h1, h2, _⟩ := o.ex
  exact de_callS tk (F.mono hj) hr hg hm h1 h2 ha hdb he hpl
theorem de_cN {K : PySem.W.Frag} {n : Nat} (o : OkF X.prog X.w X.K X.mg X.base G j g ps kbs m) (tk : Takes X Wx) (hr : Room k X.A) (hj : j ≤ k) (hg : Gl X x) (hm : X.mg x = some (.ref (G.ad g))) (ha : DA X G K Wx (e :: es) t ml) (hdb : (x == ("__debug__" : Str)) = false := by decide)
    (he : starEach (e :: es) X.env = (false, eval e X.env) :: starEach es X.env := by rfl) (hpl : (backTo pos (starEach es X.env)).any (·.1) = false := by rfl) (hn : ps.length = n := by rfl) (hK : X.K = K := by rfl) : DE X G K Wx (.Call (.Name x p) (e :: es) [] pos) (tCallS (spD G K ps.length m) (WE Wx) t) (eA (nArg n m) ml) := by
  subst hn
  subst hK
  obtain ⟨fd, _, F, h1, h2, _⟩ := o.ex
  exact de_call (fun φ M S H ws vs Q E hn s r p => ⟨φ, M, S, ws, hn, s, r, p⟩) tk (F.mono hj) hr hg hm h1 h2 ha hdb he hpl
theorem de_cP {K : PySem.W.Frag} {n : Nat} (o : OkF X.prog X.w X.K X.mg X.base G j g ps kbs m) (tk : Takes X Wx) (hr : Room k X.A) (hj : j ≤ k) (hg : Gl X x) (hm : X.mg x = some (.ref (G.ad g))) (ha : DA X G K Wx (e :: es) t ml) (hdb : (x == ("__debug__" : Str)) = false := by decide)
    (he : starEach (e :: es) X.env = (false, eval e X.env) :: starEach es X.env := by rfl) (hpl : (backTo pos (starEach es X.env)).any (·.1) = false := by rfl) (hn : ps.length = n := by rfl) (hK : X.K = K := by rfl) : DE X G K Wx (.Call (.Name x p) (e :: es) [] pos) (tCallS (spD G K ps.length m) (WE Wx) t) (eA (nArg n (vP (toP m))) ml) := by
  subst hn
  subst hK
  obtain ⟨fd, _, F, h1, h2, _⟩ := o.ex
  exact de_callP tk (F.mono hj) hr hg hm h1 h2 ha hdb he hpl
theorem de_cK0 {K : PySem.W.Frag} {n : Nat} {a b : Nat} {π : List Nat} {ks : List Str} (o : OkF X.prog X.w X.K X.mg X.base G j g ps kbs m) (hq : (a, b, π, ks) ∈ kbs) (h0 : 0 < ps.length) (tk : Takes X (WE' E)) (hr : Room k X.A) (hj : j ≤ k) (hg : Gl X x) (hm : X.mg x = some (.ref (G.ad g))) (hkw : DK X G K (WE' E) kws tk' mk)
    (hall : (backToKw pos (keywordEach kws X.env)).all (·.1.isSome) = true := by rfl) (hks : (backToKw pos (keywordEach kws X.env)).filterMap (·.1) = ks := by rfl) (hdb : (x == ("__debug__" : Str)) = false := by decide)
    (hpl : ((backTo pos (starEach [] X.env)).any (·.1) || (backToKw pos (keywordEach kws X.env)).any (·.1.isNone)) = false := by rfl) (hn : ps.length = n := by rfl) (hK : X.K = K := by rfl) :
    DE X G K (WE' E) (.Call (.Name x p) [] kws pos) (tCallK (spD G K ps.length m) (perm a b π) E tNil tk') (eK (nArg n (vP (toP m))) a b π lN mk) := by
  subst hn
  subst hK
  obtain ⟨fd, _, F, h1, h2, h3⟩ := o.ex
  exact de_callK0P tk (F.mono hj) hr hg hm h1 (h3 _ hq h0) hkw hall hks hdb hpl
theorem de_cK {K : PySem.W.Frag} {n : Nat} {a b : Nat} {π : List Nat} {ks : List Str} (o : OkF X.prog X.w X.K X.mg X.base G j g ps kbs m) (hq : (a, b, π, ks) ∈ kbs) (h0 : 0 < ps.length) (tk : Takes X (WE' E)) (hr : Room k X.A) (hj : j ≤ k) (hg : Gl X x) (hm : X.mg x = some (.ref (G.ad g))) (ha : DA X G K (WE' E) (e :: es) t ml) (hkw : DK X G K (WE' E) kws tk' mk)
    (hall : (backToKw pos (keywordEach kws X.env)).all (·.1.isSome) = true := by rfl) (hks : (backToKw pos (keywordEach kws X.env)).filterMap (·.1) = ks := by rfl) (hdb : (x == ("__debug__" : Str)) = false := by decide) (he : starEach (e :: es) X.env = (false, eval e X.env) :: starEach es X.env := by rfl)
    (hpl : ((backTo pos (starEach (e :: es) X.env)).any (·.1) || (backToKw pos (keywordEach kws X.env)).any (·.1.isNone)) = false := by rfl) (hn : ps.length = n := by rfl) (hK : X.K = K := by rfl) :
    DE X G K (WE' E) (.Call (.Name x p) (e :: es) kws pos) (tCallK (spD G K ps.length m) (perm a b π) E t tk') (eK (nArg n (vP (toP m))) a b π ml mk) := by
  subst hn
  subst hK
  obtain ⟨fd, _, F, h1, h2, h3⟩ := o.ex
  exact de_callKP tk (F.mono hj) hr hg hm h1 (h3 _ hq h0) ha hkw hall hks hdb he hpl
theorem de_mkP {K : PySem.W.Frag} {c n : Nat} {fl : List Str} (hcs : c ∈ G.cs) (hfl : G.fl c = fl) (o : OkF X.prog X.w X.K X.mg X.base G j g ps kbs m) (hn : ps.length = n + 1) (tk : Takes X (WE' E)) (Mc : Mk X.K (G.ad c) (G.ad g)) (hr : Room k X.A) (hj : j + 1 ≤ k) (hg : Gl X x) (hm : X.mg x = some (.ref (G.ad c))) (ha : DA X G K (WE' E) (e :: es) t ml) (hdb : (x == ("__debug__" : Str)) = false := by decide)
    (he : starEach (e :: es) X.env = (false, eval e X.env) :: starEach es X.env := by rfl) (hpl : (backTo pos (starEach es X.env)).any (·.1) = false := by rfl) (hK : X.K = K := by rfl) : DE X G K (WE' E) (.Call (.Name x p) (e :: es) [] pos) (tMake (G.ad c) (spD G K (n + 1) m) [] E t) (eA (nArg n (vP (mkD c fl m))) ml) := by
  subst hK
  obtain ⟨fd, _, F, h1, h2, h3⟩ := o.ex
  rw [hn] at F
  exact de_make hcs hfl tk Mc F (hr.mono hj) hg hm h2 ha hdb he hpl
theorem okF_eqI {A : Around} {C : Addr} : True := trivial
end
/-- the entries of a table of defs -/
theorem tabOk_nil {X : Cx} {G : Gv} {k : Nat} : TabOk X G X.K k [] := fun p h => by cases h
theorem tabOk_cons {X : Cx} {G : Gv} {k j g n : Nat} {ps : List Str} {kbs : List KB} {m : List W → Store → RW} {t : Tab'} (o : OkF X.prog X.w X.K X.mg X.base G j g ps kbs m) (hn : ps.length = n) (hj : j ≤ k) (r : TabOk X G X.K k t) : TabOk X G X.K k ((g, n, m) :: t) := fun p h => by
  rcases List.mem_cons.mp h with rfl | h
  · obtain ⟨fd, _, F, h1, h2, h3⟩ := o.ex
    subst hn
    exact ⟨fd, ps, F.mono hj, h1, h2⟩
  · exact r p h
section
variable {X : Cx} {G : Gv} {k j g c : Nat} {ps : List Str} {kbs : List KB} {m : List W → Store → RW} {a b : Expr} {ta tb : TE} {ma mb : EM} {pos : Pos} {Wx : WX}
theorem op_eqF (o : OkF X.prog X.w X.K X.mg X.base G j g ps kbs m) (hn : ps.length = 2) (hr : Room k X.A) (hj : j ≤ k) (q : EqC X.K (G.ad c) (G.ad g)) : OpR X (compareOp .Eq) (rEqI G X.K (G.ad c) m false) := by
  obtain ⟨fd, _, F, h1, h2, h3⟩ := o.ex
  rw [hn] at F
  exact op_eqI F h2 (hr.mono hj) q
theorem op_neF (o : OkF X.prog X.w X.K X.mg X.base G j g ps kbs m) (hn : ps.length = 2) (hr : Room k X.A) (hj : j + 1 ≤ k) (q : EqC X.K (G.ad c) (G.ad g)) : OpR X (compareOp .NotEq) (rEqI G X.K (G.ad c) m true) := by
  obtain ⟨fd, _, F, h1, h2, h3⟩ := o.ex
  rw [hn] at F
  exact op_neI F h2 (hr.mono hj) q
end
/-! ### the law's end -/
section
variable {G : Gv} {K : PySem.W.Frag} {H : Hp} {a : Addr} {ns : List Int} {m : List W → Store → RW}
theorem repl_ints {M : Addr → Bool} : RepL G K (cut H M) (ns.map D.int) (ns.map V.int) := RepL.ints ns
theorem law_sp (h : toP m [.lsk (ns.map D.int)] = .ok (.bl true)) (hS : SqL K H a (ns.map V.int)) : spD G K 1 m [.ref a] H (fun v _ => v = .bl true) (fun _ _ _ => False) := by
  have hc : cut H (fun _ => false) = H := by funext b; rfl
  refine pure_call (φ := []) (M := fun _ => false) (S := []) (ws := [.d (.lsk (ns.map D.int))]) rfl (sto_nil fun b hb => by cases hb) (.cons ?_ .nil) ?_
  · show Rep G K (cut H _) _ _
    rw [hc]
    exact .lsk hS (RepL.ints ns)
  · unfold vP
    simp only [dats, Option.map]
    rw [h]
    intro φ' M' H' v g s r
    have r : Rep G K (cut H' M') (.bl true) v := r
    cases r
    rfl
theorem OkF.law {P : Program} {w : World} {mg : Str → Option Value} {base : Heap} {k g : Nat} {kbs : List KB} {x : Str} {f : Addr} {fd : FuncData} (o : OkF P w K mg base G k g [x] kbs m) (e : fdOf K (G.ad g) = some fd) (hf : G.ad g = f) : FnOk P w K mg base (L2.CX P w) k f fd [x] (spD G K 1 m) := by
  obtain ⟨fd', e', F, _⟩ := o.ex
  rw [e] at e'
  cases e'
  subst hf
  exact F
end
theorem cx_none {P : Program} {w : World} (H : Hp) (s : Shared) (e : Value) (s' : Shared) : L2.CX P w [] H s (fun _ _ _ => False) e s' → False := fun ⟨_, _, _, _, _, _, _, _, _, _, _, _, x⟩ => x
end DN

namespace DN
open PySem PySem.Spec PyProof.Rows L2

/-! ### dict(xs) of pairs whose keys are tuples, all unlike -/
abbrev KBs := List (List Key × Addr × V)
def rDictT (K : PySem.W.Frag) : List V → Hp → VK → Prop := fun us H Q => ∃ (a : Addr) (ps : List Addr) (bs : KBs), us = [.ref a] ∧ SqL K H a (ps.map V.ref) ∧ Paired (fun p (q : List Key × Addr × V) => H p = some (.tup [.ref q.2.1, q.2.2]) ∧ H q.2.1 = some (.tup (q.1.map kV))) ps bs ∧ (bs.map (·.1)).Nodup ∧
  ∀ d, H d = none → Q (.ref d) (upd H d (.dT (bs.map fun q => (q.1, q.2.2))))
theorem storedAllH_new {κ : Type} [DecidableEq κ] : ∀ (ps acc : List (κ × Addr × Value)), ((acc ++ ps).map (·.1)).Nodup → storedAllH acc ps = acc ++ ps
  | [], acc, _ => by simp [storedAllH]
  | (k, b, v) :: ps, acc, h => by
    have hn : atKey acc k = none := by
      unfold atKey
      rw [Option.map_eq_none_iff, List.find?_eq_none]
      intro x hx e
      have e : x.1 = k := by simpa using e
      rw [List.map_append] at h
      have := (List.nodup_append.mp h).2.2 x.1 (List.mem_map_of_mem hx) k (by simp)
      exact this e
    show storedAllH (storedH acc k b v) ps = _
    rw [storedH_new hn, storedAllH_new ps (acc ++ [(k, b, v)]) (by rw [List.append_assoc]; exact h), List.append_assoc]
    rfl
section
variable {X : Cx}
theorem pairsT_of {pins : List (Addr × Obj)} {σ : L2.St} {H : Hp} {s : Shared} (I : Inv X pins σ H s) : ∀ {ps : List Addr} {bs : KBs}, Paired (fun p (q : List Key × Addr × V) => H p = some (.tup [.ref q.2.1, q.2.2]) ∧ H q.2.1 = some (.tup (q.1.map kV))) ps bs →
    ∃ xs : List (List Key × Addr × Value), KT H (bs.map fun q => (q.1, q.2.2)) xs ∧ xs.length = ps.length ∧ xs.map (·.1) = bs.map (·.1) ∧ ∀ (j : Nat) (x : List Key × Addr × Value), xs[j]? = some x → ∃ p, ps[j]? = some p ∧ IsTup s.heap p #[.ref x.2.1, x.2.2]
  | _, _, .nil => ⟨[], .nil, rfl, rfl, fun j x e => by simp at e⟩
  | _, _, .cons (a := p) (b := q) h t => by
    obtain ⟨xs, k, hl, hm, hp⟩ := pairsT_of I t
    obtain ⟨its, rv, ht, _⟩ := I.tuple (SqT.of h.1)
    obtain ⟨u, y, rfl, ru, ry⟩ := vals2 rv
    obtain rfl : u = Value.ref q.2.1 := ru
    refine ⟨(q.1, q.2.1, y) :: xs, .cons ⟨rfl, h.2, ry⟩ k, by simp [hl], by simp [hm], fun j x e => ?_⟩
    cases j with
    | zero =>
      have e : (q.1, q.2.1, y) = x := by simpa using e
      subst e
      exact ⟨p, rfl, ht⟩
    | succ j =>
      obtain ⟨p', e1, e2⟩ := hp j x (by simpa using e)
      exact ⟨p', by simpa using e1, e2⟩
theorem cr_dictT (hcalm : X.calm = true) (hu : X.A.units + 100 < cLine) : CallR X (.type "dict") (rDictT X.K) := by
  intro pins s σ H vs us Q I r h
  obtain ⟨a, ps, bs, rfl, hs, hp, hnd, q⟩ := h
  obtain ⟨u, rfl, ru⟩ := vals1 r
  obtain rfl : u = Value.ref a := ru
  obtain ⟨its, rv, pl, hz⟩ := I.list hs
  have ei := refs_at rv
  subst ei
  rw [List.length_map] at hz
  obtain ⟨xs, kt, hl, hm, hx⟩ := pairsT_of I hp
  obtain ⟨o, n, ho, hc, hd, hdat⟩ := pl
  have hnx : (xs.map (·.1)).Nodup := by rw [hm]; exact hnd
  have lt_of : ∀ {b : Addr} {o : HO}, H b = some o → b < s.heap.objs.size := fun {b o} e => ObjOk.lt (I.hok b o e)
  have kis : ∀ x ∈ xs, (tupleKind (mixKind X.prog X.w)).is s.heap x.1 x.2.1 ∧ x.2.1 < s.heap.objs.size := by
    have : ∀ {l : List (List Key × V)} {m : List (List Key × Addr × Value)}, KT H l m → ∀ x ∈ m, (tupleKind (mixKind X.prog X.w)).is s.heap x.1 x.2.1 ∧ x.2.1 < s.heap.objs.size := by
      intro l m kt
      induction kt with
      | nil => intro x hx; cases hx
      | cons h t ih =>
        intro x hx
        rcases List.mem_cons.mp hx with rfl | hx
        · exact ⟨key_of I.hok (by rw [← h.1]; exact h.2.1), lt_of h.2.1⟩
        · exact ih x hx
    exact this kt
  refine call_dict_pairsH (knd := tupleKind (mixKind X.prog X.w)) (ps := xs) (PairArg.list a (ps.map Value.ref).toArray (fun j => (ps[j]?).getD 0) (xs.map fun x => (Value.ref x.2.1, x.2.2))) (I.ok.hd hcalm) (show X.A.units + 1 + 1 < cLine by omega)
    ⟨⟨o, n, ho, hc, hd, hdat⟩, by simp [hl], fun j k v e => ?_⟩ ⟨by simp, fun i key v e => ?_⟩ (fun h' hk x hx' => ?_) (by simpa [hl] using hz) fun h' tk dd k => ?_
  · rw [List.getElem?_map] at e
    obtain ⟨x, e1, e2⟩ := Option.map_eq_some_iff.mp e
    obtain ⟨p, e3, e4⟩ := hx j x e1
    cases e2
    exact ⟨by simp [e3], .inl (by
      show Heap.IsTuple s.heap ((ps[j]?).getD 0) _
      rw [e3]; exact e4)⟩
  · have e : (xs.map fun x => (Value.ref x.2.1, x.2.2))[i]? = some (key, v) := e
    rw [List.getElem?_map] at e
    obtain ⟨x, e1, e2⟩ := Option.map_eq_some_iff.mp e
    cases e2
    exact ⟨x.1, x.2.1, e1, rfl⟩
  · obtain ⟨⟨o', its', n', h1, h2, h3, h4⟩, hlt⟩ := kis x hx'
    exact ⟨o', its', n', hk _ _ (Nat.ne_of_lt hlt) (by simp) h1, h2, h3, h4⟩
  · rw [storedAllH_new xs [] (by simpa using hnx), List.nil_append] at dd
    obtain ⟨od, es, ep, d1, d2, d3, d4, d5, d6⟩ := dd
    have hmm : (s.heap.objs.size == sysModules) = false := beq_eq_false_iff_ne.mpr (Nat.ne_of_gt I.big)
    have hlen : (bs.map fun q => (q.1, q.2.2)).length ≤ sizeLine := by
      have := congrArg List.length hm
      simp at this
      simp [← this, hl, hz]
    have fr := I.hok.fresh (Nat.le_refl s.heap.objs.size)
    refine ⟨.ref s.heap.objs.size, upd H s.heap.objs.size (.dT (bs.map fun q => (q.1, q.2.2))), I.laid (t' := tk) (fun b o e => k b o (by simp) e) (Nat.le_refl _) ⟨hlen, hmm, xs, kt.keeps fun b ys e => ?_, od, es, ep, d1, d2, d3, d4, d6⟩, rfl, q _ fr⟩
    rw [upd_ne (ne_of_none e fr)]; exact e
end

/-! ### d[k], list(d), tuple(l) of cells -/
def tDGetS (K : PySem.W.Frag) (td ty : TE) : TE := fun σ H Q => td σ H fun x H1 => ty σ H1 fun y H2 => ∃ (a b : Addr) (kvs : List (List Key × V)) (k : List Key) (v : V), x = .ref a ∧ y = .ref b ∧ H2 a = some (.dT kvs) ∧ SqT K H2 b (k.map kV) ∧ valV kvs k = some v ∧ Q v H2
section
variable {X : Cx} {o i : Expr} {pos : Pos} {td ty : TE}
theorem pe_dgetS (hu : X.A.units + 1 < cLine) (ho : PE X o td) (hi : PE X i ty) (hs : NoSl i) : PE X (.Subscript o i pos) (tDGetS X.K td ty) := by
  refine ⟨fun pins s σ H Q I h => ?_⟩
  refine subD_of PySem.F.slot_dict_getitem.lookup hs (thn (ho.run pins s σ H _ I h) fun u s1 ⟨x, H1, I1, rx, q1⟩ => thn (hi.run pins s1 σ H1 _ I1 q1) fun iv s2 ⟨y, H2, I2, ry, a, b, kvs, k, v, ex, ey, ha, hb, hv, q2⟩ => ?_)
  subst ex ey
  obtain rfl : u = Value.ref a := rx
  obtain rfl : iv = Value.ref b := ry
  obtain ⟨z, hd, xs, rel, dd⟩ := dt_of I2.hok ha
  refine ⟨?_, ?_⟩
  · obtain ⟨o', _, _, h1, h2, _⟩ := id dd
    exact ⟨o', h1, h2.1⟩
  · obtain ⟨w', hw, rw'⟩ := RelO.some_of (v := v) (o := (atKey xs k).map (·.2)) (by rw [← hv]; exact rel.val k)
    obtain ⟨p, hp, hp2⟩ := Option.map_eq_some_iff.mp hw
    obtain ⟨its, rv, ⟨o', h1, h2, n, h3⟩, _⟩ := I2.tuple hb
    refine wpAny_getItem_heap (tupleKind_room_in1 hu) (show (tupleKind (mixKind X.prog X.w)).is _ k b from ⟨o', its.toArray, n, h1, h2, h3, by simpa using items_are rv⟩) dd hp ?_
    rw [hp2]
    exact ⟨v, H2, I2.tok _, rw', q2⟩
end
def intsD : List D → Option (List Int)
  | [] => some []
  | .int i :: r => (intsD r).map (i :: ·)
  | _ :: _ => none
def cellD (S : Store) (n : Nat) : Option (List (List Int × Nat)) := match S[n]? with
  | some (.dct kvs) => some kvs
  | _ => none
def vDG : W → W → Store → RW := fun w u S => match w, u with
  | .h n, .d (.tup ks) => (match cellD S n, intsD ks with
    | some kvs, some is => (match kvs.lookup is with
      | some j => .ok (.h j) S
      | none => .bad)
    | _, _ => .bad)
  | _, _ => .bad
def vLD : List W → Store → RW := fun ws S => match ws with
  | [.h n] => (match cellD S n with
    | some kvs => .ok (.d (.lst (kvs.map fun p => .tup (p.1.map .int)))) S
    | none => .bad)
  | _ => .bad
def vTupC : List W → Store → RW := fun ws S => match ws with
  | [.h n] => (match cellL S n with
    | some xs => .ok (.d (.tup xs)) S
    | none => .bad)
  | _ => .bad
section
variable {G : Gv} {K : PySem.W.Frag}
theorem cellD_some {S : Store} {n : Nat} {kvs} (h : cellD S n = some kvs) : S[n]? = some (.dct kvs) := by
  unfold cellD at h
  split at h
  · cases h; assumption
  · cases h
theorem intsD_rep {H : Hp} : ∀ {xs : List D} {vs : List V} {is : List Int}, RepL G K H xs vs → intsD xs = some is → vs = (is.map Sum.inl).map kV
  | [], _, zs, .nil, e => by
    have : zs = [] := by simpa [intsD] using e.symm
    subst this; rfl
  | x :: xs, _, zs, .cons h t, e => by
    cases h with
    | int y =>
      simp only [intsD, Option.map_eq_some_iff] at e
      obtain ⟨r, e1, rfl⟩ := e
      rw [intsD_rep t e1]; rfl
    | _ => simp [intsD] at e
theorem inl_inj {xs ys : List Int} (h : (xs.map Sum.inl : List Key) = ys.map Sum.inl) : xs = ys := by
  induction xs generalizing ys with
  | nil => cases ys with
    | nil => rfl
    | cons y ys => cases h
  | cons x xs ih => cases ys with
    | nil => cases h
    | cons y ys =>
      simp only [List.map_cons, List.cons.injEq, Sum.inl.injEq] at h
      rw [h.1, ih h.2]
theorem dct_val {φ : List Addr} {kvs : List (List Int × Nat)} {kvs' : List (List Key × V)} {is : List Int} {j : Nat} (t : Paired (fun (p : List Int × Nat) (q : List Key × V) => q.1 = p.1.map Sum.inl ∧ ∃ b, φ[p.2]? = some b ∧ q.2 = .ref b) kvs kvs') (h : kvs.lookup is = some j) : ∃ b, φ[j]? = some b ∧ valV kvs' (is.map Sum.inl) = some (.ref b) := by
  induction t with
  | nil => simp at h
  | cons hp t ih =>
    rename_i p q l m
    obtain ⟨ks, n⟩ := p
    obtain ⟨h1, b, hb, h2⟩ := hp
    have h1 : q.1 = ks.map Sum.inl := h1
    simp only [List.lookup] at h
    split at h
    · rename_i hk
      cases h
      have e : is = ks := by simpa using hk
      subst e
      exact ⟨b, hb, by rw [valV_pos h1, h2]⟩
    · rename_i hk
      obtain ⟨b', e1, e2⟩ := ih h
      have e : ¬ is = ks := by simpa using hk
      exact ⟨b', e1, by rw [valV_neg (fun z => e (inl_inj (z.symm.trans h1)))]; exact e2⟩
theorem dx_dgS {Wx : WX} {td ty : TE} {md my : EM} (hd : DEx G K Wx td md) (hy : DEx G K Wx ty my) : DEx G K Wx (tDGetS K td ty) (eO vDG md my) := fun φ M ρ S σ H Q s e p =>
  bind_ok hd s e p fun w S1 φ1 M1 H1 v g1 s1 e1 rw_ p1 => bind_ok hy s1 e1 p1 fun u S2 φ2 M2 H2 vu g2 s2 e2 ru p2 => by
    unfold vDG at p2
    split at p2
    · rename_i n ks
      obtain ⟨a, ha, rfl⟩ := RepW.ge (w := .h n) g2 rw_
      have ru : Rep G K (cut H2 M2) (.tup ks) vu := ru
      cases hk : cellD S2 n with
      | none => simp only [hk] at p2; exact p2.elim
      | some kvs =>
        cases hi : intsD ks with
        | none => simp only [hk, hi] at p2; exact p2.elim
        | some is =>
          simp only [hk, hi] at p2
          cases hl : kvs.lookup is with
          | none => simp only [hl] at p2; exact p2.elim
          | some j =>
            simp only [hl] at p2
            obtain ⟨m, kvs', hh, t⟩ := s2.cells n _ a (cellD_some hk) ha
            obtain ⟨b, hb, hv⟩ := dct_val t hl
            cases ru with
            | tup hx rx =>
              have := intsD_rep rx hi
              subst this
              exact ⟨a, _, kvs', is.map Sum.inl, .ref b, rfl, rfl, hh, sqT_mono cut_le hx, hv, post_ok (w := .h j) p2 s2 ⟨b, hb, rfl⟩⟩
    · exact p2.elim
abbrev rListDT : List V → Hp → VK → Prop := fun xs H Q => ∃ d kvs, xs = [V.ref d] ∧ Rd H d (.dT kvs) ∧ ∀ p bs, H p = none → IsKeys H kvs bs → Q (.ref p) (upd H p (.lst (bs.map V.ref)))
theorem keys_rep {φ : List Addr} {M : Addr → Bool} {H : Hp} (d : Dom M H) {kvs : List (List Int × Nat)} {kvs' : List (List Key × V)} {bs : List Addr} (t : Paired (fun (p : List Int × Nat) (q : List Key × V) => q.1 = p.1.map Sum.inl ∧ ∃ b, φ[p.2]? = some b ∧ q.2 = .ref b) kvs kvs') (k : IsKeys H kvs' bs) : RepL G K (cut H M) (kvs.map fun p => .tup (p.1.map .int)) (bs.map V.ref) := by
  unfold IsKeys at k
  induction t generalizing bs with
  | nil => cases k; exact .nil
  | cons hp t ih =>
    rename_i p q l m
    cases k with
    | cons hb k =>
      refine .cons ?_ (ih k)
      have hM : ∀ b ys, H b = some (.tup ys) → M b = false := fun b ys e => by
        cases q : M b with
        | false => rfl
        | true => exact ((d b q).2 ys e).elim
      have e : q.1.map kV = p.1.map V.int := by rw [hp.1, List.map_map]; rfl
      rw [e] at hb
      exact .tup (.inl (.inl (by rw [cut_f (hM _ _ hb)]; exact hb))) (RepL.ints _)
theorem op_LD : OpL G K rListDT vLD := fun φ M S H ws vs Q E s r p => by
  unfold vLD at p
  split at p
  · rename_i n
    cases r with
    | cons r1 r2 =>
      cases r2
      obtain ⟨a, ha, rfl⟩ := r1
      cases hk : cellD S n with
      | none => simp only [hk] at p; exact p.elim
      | some kvs =>
        simp only [hk] at p
        obtain ⟨m, kvs', hh, t⟩ := s.cells n _ a (cellD_some hk) ha
        refine ⟨a, kvs', rfl, .inl hh, fun x bs hx k => post_grow (w := .d _) p s (grow_upd hx) (.lst (new_cut s.dom hx) (RepL.mono (grow_cut (grow_upd hx)) (keys_rep s.dom t k)))⟩
  · exact p.elim
theorem op_tupC : OpL G K (rTupleOf K) vTupC := fun φ M S H ws vs Q E s r p => by
  unfold vTupC at p
  split at p
  · rename_i n
    cases r with
    | cons r1 r2 =>
      cases r2
      obtain ⟨a, ha, rfl⟩ := r1
      cases hk : cellL S n with
      | none => simp only [hk] at p; exact p.elim
      | some xs =>
        simp only [hk] at p
        obtain ⟨m, us, hl, t⟩ := s.cells n _ a (cellL_some hk) ha
        exact ⟨a, us, rfl, .inl ⟨SqL.of hl, fun x hx => post_grow (w := .d _) p s (grow_upd hx) (.tup (.inl (.inl (new_cut s.dom hx))) (RepL.mono (grow_cut (grow_upd hx)) t))⟩⟩
  · exact p.elim
end
section
variable {X : Cx} {G : Gv} {K : PySem.W.Frag} {Wx : WX} {o i : Expr} {pos : Pos} {td ty : TE} {md my : EM}
theorem de_dg (hK : X.K = K) (hu : X.A.units + 100 < cLine) (ho : DE X G K Wx o td md) (hi : DE X G K Wx i ty my) (hs : NoSl i) : DE X G K Wx (.Subscript o i pos) (tDGetS K td ty) (eO vDG md my) := by
  subst hK; exact ⟨pe_dgetS (by omega) ho.pe hi.pe hs, dx_dgS ho.dx hi.dx⟩
theorem call_LD (hc : X.calm = true) : CallR X (.type "list") rListDT := call_list_dT hc
end
end DN

namespace DN
open PySem PySem.Spec PyProof.Rows L2

/-! ### dict([((a, b), [..]) for .. in ..]): a dict of lists -/
def dcM (g : TM) (ka kb : EM) (mz : LM) (ρ : Env) : List D → List (List Int × Nat) → Store → Option (List (List Int × Nat) × Store)
  | [], acc, S => some (acc, S)
  | x :: xs, acc, S => match g (.d x) ρ S with
    | some (ρ1, S1) => (match ka ρ1 S1 with
      | .ok (.d (.int i)) S2 => (match kb ρ1 S2 with
        | .ok (.d (.int j)) S3 => (match mz ρ1 S3 with
          | .ok ws S4 => (match dats ws with
            | some zs => if zs.length ≤ sizeLine then dcM g ka kb mz ρ xs (acc ++ [([i, j], S4.length)]) (S4 ++ [.lst zs]) else none
            | none => none)
          | _ => none)
        | _ => none)
      | _ => none)
    | none => none
def dcF : Option (List (List Int × Nat) × Store) → RW
  | some (kvs, S2) => if (kvs.map (·.1)).Nodup then .ok (.h S2.length) (S2 ++ [.dct kvs]) else .bad
  | none => .bad
def eDC (vs : List Nat) (i : IM) (g : TM) (ka kb : EM) (mz : LM) : EM := fun ρ S => match i ρ S with
  | .ok xs S' => if xs.length ≤ sizeLine then dcF (dcM g ka kb mz (wipeE ρ vs) xs [] S') else .bad
  | .exc c fs S' => .exc c fs S'
  | .bad => .bad
section
variable {G : Gv} {K : PySem.W.Frag} {Wx : WX}
theorem new_cellG {φ : List Addr} {M : Addr → Bool} {S : Store} {H : Hp} {c : Cell} {o : HO} {p : Addr} (s : Sto G K φ M S H) (hp : H p = none) (ho : ∀ xs, o ≠ .tup xs) (hc : CellRep G K (φ ++ [p]) (addM M p) (upd H p o) p c) : Ge φ M H (φ ++ [p]) (addM M p) (upd H p o) ∧ Sto G K (φ ++ [p]) (addM M p) (S ++ [c]) (upd H p o) ∧ (φ ++ [p])[S.length]? = some p := by
  obtain ⟨s1, g1, hφ⟩ := s.addM (o := o) hp ho
  refine ⟨⟨⟨[p], rfl⟩, s.dom, fun a o h m => g1.imm a o h m, fun a m n => g1.frn a m n, fun a h n => ?_⟩, s1.cell hφ (by rw [upd_same]; simp) hc, by rw [← s.len]; simp⟩
  rcases List.mem_append.mp h with z | z
  · exact (n z).elim
  · have : a = p := by simpa using z
    rw [this]; exact hp
abbrev PPr (H : Hp) : Addr → (List Key × Addr × V) → Prop := fun p q => H p = some (.tup [.ref q.2.1, q.2.2]) ∧ H q.2.1 = some (.tup (q.1.map kV))
abbrev KKr (φ : List Addr) : (List Int × Nat) → (List Key × Addr × V) → Prop := fun p q => q.1 = p.1.map Sum.inl ∧ ∃ b, φ[p.2]? = some b ∧ q.2.2 = .ref b
theorem kk_nodup {φ : List Addr} : ∀ {acc : List (List Int × Nat)} {bs : KBs}, Paired (KKr φ) acc bs → (acc.map (·.1)).Nodup → (bs.map (·.1)).Nodup := fun {acc bs} t h => by
  have e : bs.map (·.1) = (acc.map (·.1)).map (fun l => (l.map Sum.inl : List Key)) := by
    clear h
    induction t with
    | nil => rfl
    | cons h t ih => simp [h.1, ih]
  rw [e]
  refine List.Pairwise.map _ (fun a b hne z => hne (inl_inj z)) h
theorem kk_dct {φ r : List Addr} : ∀ {acc : List (List Int × Nat)} {bs : KBs}, Paired (KKr φ) acc bs → Paired (fun (p : List Int × Nat) (q : List Key × V) => q.1 = p.1.map Sum.inl ∧ ∃ b, (φ ++ r)[p.2]? = some b ∧ q.2 = .ref b) acc (bs.map fun q => (q.1, q.2.2))
  | _, _, .nil => .nil
  | _, _, .cons h t => by
    obtain ⟨h1, b, h2, h3⟩ := h
    exact .cons ⟨h1, b, by rw [List.getElem?_append_left (List.getElem?_eq_some_iff.mp h2).1]; exact h2, h3⟩ (kk_dct t)
theorem dx_dc {wi : TI} {g : TG} {ta tb : TE} {tz : TA} {vs is : List Nat} {mi : IM} {mg : TM} {ka kb : EM} {mz : LM} (hi : DIx G K Wx wi mi) (hg : DGx G K is g mg) (hv : ∀ j ∈ is, j ∈ vs) (ha : DEx G K W0 ta ka) (hb : DEx G K W0 tb kb) (hz : DLx G K W0 tz mz) :
    DEx G K Wx (tCB (rDictT K) (tCons (tLc wi g tYes (tTup (tCons (tTup (tCons ta (tCons tb tNil))) (tCons (tLst tz) tNil))) vs) tNil)) (eDC vs mi mg ka kb mz) := fun φ M ρ S σ H Q s e p => by
  refine hi φ M ρ S σ H _ s e ?_
  unfold eDC at p
  cases q : mi ρ S with
  | bad => simp only [q] at p; exact p
  | exc c fs S1 => simp only [q] at p; exact p
  | ok xs S1 =>
    simp only [q] at p
    refine fun φ1 M1 H1 J g1 s1 wd Dn hD => ?_
    by_cases hsz : xs.length ≤ sizeLine
    · rw [if_pos hsz] at p
      have pp := PostE.ge g1 p
      have e1 := e.ge g1
      have hDM : M1 Dn = false := new_M s1.dom hD
      obtain ⟨s0, g0, hDφ⟩ := s1.addM (o := .lst []) hD (by intro _ h; cases h)
      refine ⟨fun i m H' => m = xs.length - i ∧ i ≤ xs.length ∧ ∃ φ2 M2 S2 acc ps bs, Ge φ1 M1 H1 φ2 M2 H' ∧ Sto G K φ2 M2 S2 H' ∧ M2 Dn = true ∧ Dn ∉ φ2 ∧ H' Dn = some (.lst (ps.map V.ref)) ∧ Paired (PPr (cut H' M2)) ps bs ∧ Paired (KKr φ2) acc bs ∧ ps.length ≤ i ∧
        PostE G K φ1 M1 H1 (dcF (dcM mg ka kb mz (wipeE ρ vs) (xs.drop i) acc S2)) Q (fun c d H' => Wx c d σ H'),
        ⟨_, rfl, Nat.zero_le _, φ1, addM M1 Dn, S1, [], [], [], g0, s0, addM_self, hDφ, upd_same, .nil, .nil, Nat.le_refl _, pp⟩, ?_⟩
      rintro i m H' ⟨rfl, hle, φ2, M2, S2, acc, ps, bs, g2, s2, mD, nD, hl, rp, rk, hal, p2⟩
      have imm : ∀ a o, H1 a = some o → M1 a = false → H' a = some o := fun a o h m => (g2.imm a o h m).1
      by_cases hn : i = xs.length
      · subst hn
        rw [List.drop_of_length_le (Nat.le_refl _)] at p2
        refine .inl ⟨wd.stop H' imm, ?_⟩
        unfold dcM dcF at p2
        by_cases hnd : (acc.map (·.1)).Nodup
        · simp only [hnd, if_true] at p2
          refine ⟨Dn, ps, bs, rfl, SqL.of hl, Paired.mapP rp fun _ _ z => ⟨cut_le _ _ z.1, cut_le _ _ z.2⟩, kk_nodup rk hnd, fun d hd => ?_⟩
          obtain ⟨g3, s3, at3⟩ := new_cellG (c := .dct acc) (o := .dT (bs.map fun q => (q.1, q.2.2))) s2 hd (by intro _ h; cases h) ⟨addM_self, _, upd_same, kk_dct rk⟩
          exact p2 _ _ _ (.ref d) (g2.trans g3) s3 ⟨d, at3, rfl⟩
        · simp only [hnd, if_false] at p2; exact p2.elim
      · have hlt : i < xs.length := by omega
        refine .inr ⟨wd.go i H' hlt imm, fun H3 => ∃ m', m' < xs.length - i ∧ (m' = xs.length - (i + 1) ∧ i + 1 ≤ xs.length ∧ ∃ φ2 M2 S2 acc ps bs, Ge φ1 M1 H1 φ2 M2 H3 ∧ Sto G K φ2 M2 S2 H3 ∧ M2 Dn = true ∧ Dn ∉ φ2 ∧ H3 Dn = some (.lst (ps.map V.ref)) ∧ Paired (PPr (cut H3 M2)) ps bs ∧ Paired (KKr φ2) acc bs ∧ ps.length ≤ i + 1 ∧
          PostE G K φ1 M1 H1 (dcF (dcM mg ka kb mz (wipeE ρ vs) (xs.drop (i + 1)) acc S2)) Q (fun c d H' => Wx c d σ H')), fun H3 h => h, fun x H3 y => ?_⟩
        obtain ⟨gr, d, hd, rd⟩ := wd.yld i H' M2 x H3 hlt (fun a o h m => g2.imm a o h m) s2.dom y
        have hdrop : xs.drop i = d :: xs.drop (i + 1) := by
          have h1 := List.drop_eq_getElem_cons hlt
          have h2 := (List.getElem?_eq_some_iff.mp hd).2
          rw [h1, h2]
        rw [hdrop] at p2
        have g3 : Ge φ2 M2 H' φ2 M2 H3 := gr.ge s2.dom
        have s3 := s2.grow gr
        have stay : ∀ {φ5 M5 H5}, Ge φ2 M2 H' φ5 M5 H5 → H5 Dn = some (.lst (ps.map V.ref)) ∧ M5 Dn = true ∧ Dn ∉ φ5 := fun {φ5 M5 H5} g5 => by
          have h1 := g5.frn Dn mD nD
          refine ⟨h1.1.trans hl, h1.2, fun z => ?_⟩
          have := g5.new Dn z nD
          rw [hl] at this; cases this
        unfold dcM at p2
        cases q3 : mg (.d d) (wipeE ρ vs) S2 with
        | none => simp only [q3] at p2; exact p2.elim
        | some o =>
          obtain ⟨ρ4, S4⟩ := o
          simp only [q3] at p2
          have ew : EnvR G K φ2 M2 H3 (wipeE ρ vs) (L2.wipe σ vs) := (e1.wipe vs).ge (g2.trans g3)
          refine hg φ2 M2 _ S2 _ H3 (.d d) x _ ρ4 S4 s3 ew rd q3 fun φ4 M4 H4 σ4 g4 s4 e4 l4 o4 => ?_
          refine ⟨?_, ?_⟩
          · rw [← wipe_wipe σ vs]
            exact wipe_eq l4 fun j hj => o4 j fun z => hj (hv j z)
          · unfold tYes
            dsimp only
            rw [if_pos rfl]
            refine ha φ4 M4 ρ4 S4 σ4 H4 _ s4 e4 ?_
            cases q5 : ka ρ4 S4 with
            | bad => simp only [q5] at p2; exact p2.elim
            | exc c fs S6 => simp only [q5] at p2; exact p2.elim
            | ok wa S5 =>
              cases wa with
              | h n => simp only [q5] at p2; exact p2.elim
              | d xa =>
                cases xa with
                | int ia =>
                  simp only [q5] at p2
                  refine fun φ5 M5 H5 va g5 s5 ra => hb φ5 M5 ρ4 S5 σ4 H5 _ s5 (e4.ge g5) ?_
                  have ra : Rep G K (cut H5 M5) (.int ia) va := ra
                  cases ra
                  cases q6 : kb ρ4 S5 with
                  | bad => simp only [q6] at p2; exact p2.elim
                  | exc c fs S6 => simp only [q6] at p2; exact p2.elim
                  | ok wb S6 =>
                    cases wb with
                    | h n => simp only [q6] at p2; exact p2.elim
                    | d xb =>
                      cases xb with
                      | int ib =>
                        simp only [q6] at p2
                        refine fun φ6 M6 H6 vb g6 s6 rb => ?_
                        have rb : Rep G K (cut H6 M6) (.int ib) vb := rb
                        cases rb
                        refine ⟨by rw [sizeLine_eq]; exact Nat.le_of_ble_eq_true rfl, fun kp hkp => ?_⟩
                        have g7 : Ge φ6 M6 H6 φ6 M6 (upd H6 kp (.tup [.int ia, .int ib])) := (grow_upd hkp).ge s6.dom
                        have s7 := s6.grow (grow_upd (o := .tup [.int ia, .int ib]) hkp)
                        refine hz φ6 M6 ρ4 S6 σ4 _ _ s7 (e4.ge (g5.trans (g6.trans g7))) ?_
                        cases q8 : mz ρ4 S6 with
                        | bad => simp only [q8] at p2; exact p2.elim
                        | exc c fs S6 => simp only [q8] at p2; exact p2.elim
                        | ok wz S8 =>
                          simp only [q8] at p2
                          cases q9 : dats wz with
                          | none => simp only [q9] at p2; exact p2.elim
                          | some zs =>
                            simp only [q9] at p2
                            by_cases hzs : zs.length ≤ sizeLine
                            · rw [if_pos hzs] at p2
                              refine fun φ8 M8 H8 vz g8 s8 rz => ?_
                              have rl := dats_rep rz q9
                              refine ⟨by rw [← rl.length]; exact hzs, fun lp hlp => ?_⟩
                              obtain ⟨g9, s9, at9⟩ := new_cellG (c := .lst zs) (o := .lst vz) s8 hlp (by intro _ h; cases h) ⟨addM_self, vz, upd_same, RepL.mono (addM_cut hlp) rl⟩
                              refine ⟨by rw [sizeLine_eq]; exact Nat.le_of_ble_eq_true rfl, fun tp htp => ?_⟩
                              have g10 : Ge (φ8 ++ [lp]) (addM M8 lp) (upd H8 lp (.lst vz)) (φ8 ++ [lp]) (addM M8 lp) (upd (upd H8 lp (.lst vz)) tp (.tup [.ref kp, .ref lp])) := (grow_upd htp).ge s9.dom
                              have s10 := s9.grow (grow_upd (o := .tup [.ref kp, .ref lp]) htp)
                              have gk := g8.trans (g9.trans g10)
                              have gt := g3.trans (g4.trans (g5.trans (g6.trans (g7.trans gk))))
                              obtain ⟨h1, h2, h3⟩ := stay gt
                              have nDt : tp ≠ Dn := fun z => by
                                obtain ⟨h4, _, _⟩ := stay (g3.trans (g4.trans (g5.trans (g6.trans (g7.trans (g8.trans g9))))))
                                rw [← z, htp] at h4; cases h4
                              have kc : cut (upd (upd H8 lp (.lst vz)) tp (.tup [.ref kp, .ref lp])) (addM M8 lp) kp = some (.tup [.int ia, .int ib]) := gk.cut kp _ (new_cut s6.dom hkp)
                              have tc : cut (upd (upd H8 lp (.lst vz)) tp (.tup [.ref kp, .ref lp])) (addM M8 lp) tp = some (.tup [.ref kp, .ref lp]) := new_cut s9.dom htp
                              refine ⟨ps.map V.ref, h1, by rw [List.length_map]; omega, _, by omega, rfl, by omega, φ8 ++ [lp], addM M8 lp, S8 ++ [.lst zs], acc ++ [([ia, ib], S8.length)], ps ++ [tp], bs ++ [([Sum.inl ia, Sum.inl ib], kp, .ref lp)], ?_, s10.foreign h2 h3 (by intro _ h; cases h), h2, h3, by rw [upd_same, List.map_append]; rfl, ?_, ?_, by simp; omega, p2⟩
                              · have gg := g2.trans gt
                                refine ⟨gg.pre, gg.dom, fun a o h m => ?_, fun a m n => ?_, gg.new⟩
                                · have hb : a ≠ Dn := ne_of_none h hD
                                  rw [upd_ne hb]; exact gg.imm a o h m
                                · have hb : a ≠ Dn := fun z => by rw [z, hDM] at m; cases m
                                  rw [upd_ne hb]; exact gg.frn a m n
                              · rw [cut_upd h2]
                                refine paired_app (Paired.mapP rp fun _ _ z => ⟨gt.cut _ _ z.1, gt.cut _ _ z.2⟩) (.cons ⟨tc, kc⟩ .nil)
                              · refine paired_app (Paired.mapP rk fun _ _ z => ?_) (.cons ⟨rfl, lp, at9, rfl⟩ .nil)
                                obtain ⟨z1, b, z2, z3⟩ := z
                                exact ⟨z1, b, gt.at_ z2, z3⟩
                            · rw [if_neg hzs] at p2; exact p2.elim
                      | _ => simp only [q6] at p2; exact p2.elim
                | _ => simp only [q5] at p2; exact p2.elim
    · rw [if_neg hsz] at p; exact p.elim
end
section
variable {X : Cx} {G : Gv} {K : PySem.W.Frag} {Wx : WX} {tg iter a b : Expr} {zs : List Expr} {k1 k2 : Nat} {scope : Scope} {own : List (Str × Nat)} {p pos lpos p1 p2 p3 : Pos} {wi : TI} {g : TG} {ta tb : TE} {tz : TA} {mi : IM} {mg : TM} {ka kb : EM} {mz : LM} {is : List Nat}
theorem de_dc (hK : X.K = K) (hu : X.A.units + 100 < cLine) (hc : X.calm = true) (hN : X.N.Nodup) (hgd : Gl X "dict") (hmd : X.mg "dict" = none) (hi : DI X G K Wx tg iter wi mi) (ok : blkC X.N X.env.scope scope own = true) (hv : is.all (fun j => (own.map (·.2)).contains j) = true)
    (hg : ∀ (s : Shared) (H : Hp) (C : Addr) (cl : List (Str × Addr)) (fp : List Addr), DG (X.blk s H scope (compEnvC scope cl C X.env) fp) G K is tg g mg)
    (ha : ∀ (s : Shared) (H : Hp) (C : Addr) (cl : List (Str × Addr)) (fp : List Addr), DE (X.blk s H scope (compEnvC scope cl C X.env) fp) G K W0 a ta ka)
    (hb : ∀ (s : Shared) (H : Hp) (C : Addr) (cl : List (Str × Addr)) (fp : List Addr), DE (X.blk s H scope (compEnvC scope cl C X.env) fp) G K W0 b tb kb)
    (hz : ∀ (s : Shared) (H : Hp) (C : Addr) (cl : List (Str × Addr)) (fp : List Addr), DA (X.blk s H scope (compEnvC scope cl C X.env) fp) G K W0 zs tz mz)
    (hs : ∀ x, foldedSetIterable iter X.env x = pure x := by intro _; rfl)
    (hst : ∀ (s : Shared) (H : Hp) (C : Addr) (cl : List (Str × Addr)) (fp : List Addr), starEach ([a, b]) (X.blk s H scope (compEnvC scope cl C X.env) fp).env = (false, eval a (X.blk s H scope (compEnvC scope cl C X.env) fp).env) :: starEach [b] (X.blk s H scope (compEnvC scope cl C X.env) fp).env := by intros; rfl)
    (hst2 : ∀ (s : Shared) (H : Hp) (C : Addr) (cl : List (Str × Addr)) (fp : List Addr), starEach ([b]) (X.blk s H scope (compEnvC scope cl C X.env) fp).env = (false, eval b (X.blk s H scope (compEnvC scope cl C X.env) fp).env) :: starEach [] (X.blk s H scope (compEnvC scope cl C X.env) fp).env := by intros; rfl) :
    DE X G K Wx (.Call (.Name "dict" p) [.ListComp (.Tuple [.Tuple [a, b] k1 p1, .List zs p2] k2 p3) [⟨tg, iter, [], 0⟩] scope lpos] [] pos) (tCB (rDictT K) (tCons (tLc wi g tYes (tTup (tCons (tTup (tCons ta (tCons tb tNil))) (tCons (tLst tz) tNil))) (own.map (·.2))) tNil)) (eDC (own.map (·.2)) mi mg ka kb mz) := by
  subst hK
  have z : Shared := X.s_0
  refine ⟨pe_callTy (cr_dictT hc hu) hgd hmd rfl (pa_cons (pe_lc hc hN hi.pi (blkOk_by ok) (fun s H C cl fp => (hg s H C cl fp).pg) (fun s H C cl fp => pts_nil) (fun s H C cl fp => pe_tup (pa_cons (pe_tup (pa_cons (ha s H C cl fp).pe (pa_cons (hb s H C cl fp).pe pa_nil (hst2 s H C cl fp)) (hst s H C cl fp))) (pa_cons (pe_lst (hz s H C cl fp).pa) pa_nil))) hs) pa_nil) (by decide) (by decide) rfl rfl, ?_⟩
  exact dx_dc hi.dx (hg z (fun _ => none) 0 [] []).dx (fun j hj => by simpa using List.all_eq_true.mp hv j hj) (ha z (fun _ => none) 0 [] []).dx (hb z (fun _ => none) 0 [] []).dx (hz z (fun _ => none) 0 [] []).dx
end

/-! ### a, b = x, y where a name is captured: through a tuple -/
def gNs : List Nat → TGs
  | [] => gNil
  | i :: is => gCons (gName i) (gNs is)
section
variable {X : Cx} {G : Gv} {K : PySem.W.Frag} {Wx : WX}
theorem gNs_ok {φ : List Addr} {M : Addr → Bool} {H : Hp} {Q : L2.St → Hp → Prop} : ∀ (is : List Nat) (ws : List W) (vs : List V) (ρ : Env) (σ : L2.St), RepWL G K φ (cut H M) ws vs → ws.length = is.length → EnvR G K φ M H ρ σ →
    (∀ σ', EnvR G K φ M H ((is.zip ws).foldl (fun ρ p => ρ.set p.1 (some p.2)) ρ) σ' → Q σ' H) → gNs is vs σ H Q
  | [], [], _, ρ, σ, .nil, _, e, k => ⟨rfl, k σ e⟩
  | i :: is, w :: ws, _, ρ, σ, .cons r t, hl, e, k => ⟨_, _, rfl, gNs_ok is ws _ _ _ t (by simpa using hl) (e.set r i) k⟩
theorem dsx_parW {is : List Nat} {ta : TA} {m : LM} (hl : is.length ≤ sizeLine) (h : DLx G K Wx ta m) : DSx G K Wx (tAsg (tTup ta) (gTup K is.length (gNs is))) (sPar is m) := fun φ M ρ S σ H D s e p => by
  refine h φ M ρ S σ H _ s e ?_
  unfold sPar at p
  cases q : m ρ S with
  | bad => simp only [q] at p; exact p
  | exc c fs S1 => simp only [q] at p; exact fun φ1 M1 H1 od g s1 x => p φ1 M1 H1 od σ g s1 (e.ge g) x
  | ok ws S1 =>
    simp only [q] at p
    refine fun φ1 M1 H1 vs g s1 r => ?_
    split at p
    · rename_i hn
      have hv : vs.length = is.length := by rw [← r.length]; exact hn
      refine ⟨by rw [hv]; exact hl, fun x hx => ?_⟩
      have g2 : Ge φ1 M1 H1 φ1 M1 (upd H1 x (.tup vs)) := (grow_upd hx).ge s1.dom
      exact ⟨x, vs, rfl, SqT.of upd_same, hv, gNs_ok is ws vs ρ σ (r.ge g2) hn (e.ge (g.trans g2)) fun σ' e' => p φ1 M1 _ σ' (g.trans g2) (s1.grow (grow_upd hx)) e'⟩
    · exact p.elim
theorem ds_parW {is : List Nat} {ts es : List Expr} {k1 k2 : Nat} {p1 p2 pos : Pos} {ta : TA} {m : LM} (hK : X.K = K) (hl : is.length ≤ sizeLine) (hc : X.calm = true) (hg : PGs X ts (gNs is)) (ha : DA X G K Wx es ta m)
    (hn : (assignEach ts X.env).length = is.length := by rfl) (hst : (assignEach ts X.env).findIdx? (·.1) = none := by rfl) (hs : swapsWithSole [.Tuple ts k1 p1] (.Tuple es k2 p2) pos.line X.env = pure false := by rfl) (hw : swappedStores [.Tuple ts k1 p1] (.Tuple es k2 p2) X.env = pure none := by rfl) (h1 : (assignEach [.Tuple ts k1 p1] X.env).map (·.2) = [assign (.Tuple ts k1 p1) X.env] := by rfl) :
    DS X G K Wx (.Assign [.Tuple ts k1 p1] (.Tuple es k2 p2) pos) (tAsg (tTup ta) (gTup K is.length (gNs is))) (sPar is m) := by
  subst hK; exact ⟨ps_asg (pe_tup ha.pa) (pg_tup hc hg hn hst) hs hw h1, dsx_parW hl ha.dx⟩
theorem pgs_ns0 : PGs X [] (gNs []) := pgs_nil
theorem pgs_nsC {i : Nat} {is : List Nat} {x : Str} {pos : Pos} {es : List Expr} (hN : X.N.Nodup) (h2 : PGs X es (gNs is)) (hi : X.N[i]? = some x := by rfl) (hx : Loc X.env.scope x := by first | exact Or.inl rfl | exact Or.inr rfl) (hf : X.fn x = true ∨ X.env.scope.names.lookup x = some .local := by first | exact .inl rfl | exact .inr rfl)
    (hs : (assignEach (.Name x pos :: es) X.env).map (·.2) = assign (.Name x pos) X.env :: (assignEach es X.env).map (·.2) := by rfl) : PGs X (.Name x pos :: es) (gNs (i :: is)) := pgs_cons (pg_name hN hi hx hf) h2 hs
end
end DN

namespace Mi
open PySem PySem.Spec L2 DN
def fl_Puzzle : List Str := ["rows", "columns", "pieces", "turning", "parts"]
def b_l_law_well_k83 : SM := sQ (sA (eIf (e2 oLt (eV 1) (eA wLen (lC (eV 0) (lN)))) (eL oInt (lC (e2 oIx (eV 0) (eV 1)) (lN))) (eC (.int 0))) (gN 2)) (sQ (sA (e2 oAdd (eC (.int 810737)) (e2 oMulI (eC (.int 449)) (eV 1))) (gN 3)) (sQ (sF (iS (e2 oAdd (eSl (eV 0) (pNone) (pSome (eC (.int 12)))) (eL vLst (lC (eV 2) (lN))))) (gN 4) (sA (e2 oMod (eL oInt (lC (e2 oAdd (e2 oAdd (e2 oMulI (eV 3) (eC (.int 17851))) (e2 oMod (eL oInt (lC (eV 4) (lN))) (eC (.int 2147480369)))) (eC (.int 227))) (lN))) (eC (.int 2147481151))) (gN 3))) (sR (eA vLstC (lC (eIf (eOr (e2 oLt (eV 2) (eC (.int 0))) (e2 oGe (eV 2) (e2 oPow (eC (.int 10)) (eC (.int 15))))) (e2 oMod (eL oAbs (lC (eV 2) (lN))) (e2 oPow (eC (.int 10)) (eC (.int 60)))) (eC (.int 0))) (lC (eV 3) (lC (eC (.int 0)) (lN))))))))
def m_l_law_well_k83 : List W → Store → RW := mRun 5 b_l_law_well_k83
def b_l_law_draw : SM := sQ (sI (e2 oGt (eO vIx (eV 0) (eC (.int 0))) (eC (.int 0))) (sQ (sA (eL oDivmod (lC (eO vIx (eV 0) (eC (.int 0))) (lC (eV 1) (lN)))) (gT 2 (gsC (gX (eV 0) (eC (.int 0))) (gsC (gN 2) (gs0))))) (sR (eV 2))) (sP)) (sQ (sA (e2 oAdd (eO vIx (eV 0) (eC (.int 2))) (eC (.int 1))) (gX (eV 0) (eC (.int 2)))) (sQ (sA (e2 oMod (eL oInt (lC (e2 oAdd (e2 oAdd (e2 oMulI (eO vIx (eV 0) (eC (.int 1))) (e2 oAdd (e2 oMod (eL oInt (lC (eO vIx (eV 0) (eC (.int 1))) (lN))) (eC (.int 8093))) (eC (.int 43019)))) (e2 oMulI (eC (.int 9631)) (eO vIx (eV 0) (eC (.int 2))))) (eC (.int 167))) (lN))) (eC (.int 2147480197))) (gX (eV 0) (eC (.int 1)))) (sR (e2 oMod (eL oInt (lC (e2 oFdiv (eO vIx (eV 0) (eC (.int 1))) (eC (.int 491))) (lN))) (eV 1)))))
def m_l_law_draw : List W → Store → RW := mRun 3 b_l_law_draw
def b_l_law_of : SM := sR (e2 oIx (eV 1) (eA (nArg 2 (vC m_l_law_draw)) (lC (eV 0) (lC (eA wLen (lC (eV 1) (lN))) (lN)))))
def m_l_law_of : List W → Store → RW := mRun 2 b_l_law_of
def b_l_law_cut_pieces : SM := sQ (sPar [3, 4] (lC (eDC [11] (iR1 (e2 oMulI (eV 0) (eV 1))) (gN 11) (e2 oFdiv (eV 11) (eV 1)) (e2 oMod (eL oInt (lC (eV 11) (lN))) (eV 1)) (lC (eC (.int 0)) (lC (eC (.int 0)) (lC (eC (.int 0)) (lC (eC (.int 0)) (lN)))))) (lC (eA vListC (lC (eV 2) (lN))) (lN)))) (sQ (sF (iS (eA vLD (lC (eV 3) (lN)))) (gT 2 (gsC (gN 5) (gsC (gN 6) (gs0)))) (sQ (sI (e2 oLt (e2 oAdd (eV 6) (eC (.int 1))) (eV 1)) (sQ (sPar [7, 8, 9] (lC (eBM chkL vPopAt (eV 4) (lC (eC (.int 0)) (lN))) (lC (eO vDG (eV 3) (eL vTup (lC (eV 5) (lC (eV 6) (lN))))) (lC (eO vDG (eV 3) (eL vTup (lC (eV 5) (lC (e2 oAdd (eV 6) (eC (.int 1))) (lN))))) (lN))))) (sA (eL vTup (lC (eV 7) (lC (e2 oSub (eC (.int 0)) (eV 7)) (lN)))) (gT 2 (gsC (gX (eV 8) (eC (.int 1))) (gsC (gX (eV 9) (eC (.int 3))) (gs0)))))) (sP)) (sI (e2 oLt (e2 oAdd (eV 5) (eC (.int 1))) (eV 0)) (sQ (sPar [7, 8, 9] (lC (eBM chkL vPopAt (eV 4) (lC (eC (.int 0)) (lN))) (lC (eO vDG (eV 3) (eL vTup (lC (eV 5) (lC (eV 6) (lN))))) (lC (eO vDG (eV 3) (eL vTup (lC (e2 oAdd (eV 5) (eC (.int 1))) (lC (eV 6) (lN))))) (lN))))) (sA (eL vTup (lC (eV 7) (lC (e2 oSub (eC (.int 0)) (eV 7)) (lN)))) (gT 2 (gsC (gX (eV 8) (eC (.int 2))) (gsC (gX (eV 9) (eC (.int 0))) (gs0)))))) (sP)))) (sR (eL oTuple (lC (eLcG finF [10] (iS (eA vLD (lC (eV 3) (lN)))) (gN 10) (eYes) (eA vTupC (lC (eO vDG (eV 3) (eV 10)) (lN)))) (lN)))))
def m_l_law_cut_pieces : List W → Store → RW := mRun 12 b_l_law_cut_pieces
def b_l_law_cut : SM := sQ (sA (e2 oAdd (e2 oMulI (eV 1) (e2 oSub (eV 2) (eC (.int 1)))) (e2 oMulI (eV 2) (e2 oSub (eV 1) (eC (.int 1))))) (gN 4)) (sR (eL oTuple (lC (eLcG finF [5] (iR1 (eV 4)) (gN 5) (eYes) (e2 oMulI (e2 oAdd (eC (.int 1)) (eA (nArg 2 (vC m_l_law_draw)) (lC (eV 0) (lC (eV 3) (lN))))) (eA (nArg 2 (vC m_l_law_of)) (lC (eV 0) (lC (eL vTup (lC (eC (.int 1)) (lC (e2 oSub (eC (.int 0)) (eC (.int 1))) (lN)))) (lN)))))) (lN))))
def m_l_law_cut : List W → Store → RW := mRun 6 b_l_law_cut
def b_l_law_turned : SM := sR (eL oTuple (lC (eLcG finF [2] (iR1 (eC (.int 4))) (gN 2) (eYes) (e2 oIx (eV 0) (e2 oMod (eL oInt (lC (e2 oSub (eV 2) (eV 1)) (lN))) (eC (.int 4))))) (lN)))
def m_l_law_turned : List W → Store → RW := mRun 3 b_l_law_turned
def b_l_law_puzzle : SM := sQ (sA (eA (nArg 2 (vC m_l_law_of)) (lC (eV 0) (lC (eLcG finF [8, 9] (iS (eL vTup (lC (eL vTup (lC (eC (.int 1)) (lC (eC (.int 1)) (lN)))) (lC (eL vTup (lC (eC (.int 1)) (lC (eC (.int 2)) (lN)))) (lC (eL vTup (lC (eC (.int 2)) (lC (eC (.int 1)) (lN)))) (lC (eL vTup (lC (eC (.int 1)) (lC (eC (.int 3)) (lN)))) (lC (eL vTup (lC (eC (.int 2)) (lC (eC (.int 2)) (lN)))) (lC (eL vTup (lC (eC (.int 2)) (lC (eC (.int 2)) (lN)))) (lC (eL vTup (lC (eC (.int 4)) (lC (eC (.int 1)) (lN)))) (lC (eL vTup (lC (eC (.int 1)) (lC (eC (.int 4)) (lN)))) (lC (eL vTup (lC (eC (.int 2)) (lC (eC (.int 2)) (lN)))) (lC (eL vTup (lC (eC (.int 3)) (lC (eC (.int 2)) (lN)))) (lC (eL vTup (lC (eC (.int 2)) (lC (eC (.int 3)) (lN)))) (lN)))))))))))))) (gT 2 (gsC (gN 8) (gsC (gN 9) (gs0)))) (e2 oLe (e2 oMulI (eV 8) (eV 9)) (eV 1)) (eL vTup (lC (eV 8) (lC (eV 9) (lN))))) (lN)))) (gT 2 (gsC (gN 2) (gsC (gN 3) (gs0))))) (sQ (sPar [4, 5] (lC (e2 oEq (eA (nArg 2 (vC m_l_law_draw)) (lC (eV 0) (lC (eC (.int 2)) (lN)))) (eC (.int 1))) (lC (eA vListC (lC (eA (nArg 3 (vP (toP (m_l_law_cut_pieces)))) (lC (eV 2) (lC (eV 3) (lC (eA (nArg 4 (vC m_l_law_cut)) (lC (eV 0) (lC (eV 2) (lC (eV 3) (lC (eA (nArg 2 (vC m_l_law_of)) (lC (eV 0) (lC (eL vTup (lC (eC (.int 1)) (lC (eC (.int 1)) (lC (eC (.int 2)) (lC (eC (.int 3)) (lC (eC (.int 9)) (lN))))))) (lN)))) (lN)))))) (lN))))) (lN))) (lN)))) (sQ (sI (eTru (eV 4)) (sA (eLcG finC [10] (iS (eU vFz (eV 5))) (gN 10) (eYes) (eA (nArg 2 (vP (toP (m_l_law_turned)))) (lC (eV 10) (lC (eA (nArg 2 (vC m_l_law_draw)) (lC (eV 0) (lC (eC (.int 4)) (lN)))) (lN))))) (gN 5)) (sP)) (sQ (sI (e2 oEq (eA (nArg 2 (vC m_l_law_draw)) (lC (eV 0) (lC (eC (.int 4)) (lN)))) (eC (.int 0))) (sQ (sPar [6, 7] (lC (eA (nArg 2 (vC m_l_law_draw)) (lC (eV 0) (lC (eA wLen (lC (eV 5) (lN))) (lN)))) (lC (eA (nArg 2 (vC m_l_law_draw)) (lC (eV 0) (lC (eC (.int 4)) (lN)))) (lN)))) (sA (e2 oAdd (e2 oAdd (eSl (eO vIx (eV 5) (eV 6)) (pNone) (pSome (eV 7))) (eL vTup (lC (eA (nArg 2 (vC m_l_law_of)) (lC (eV 0) (lC (eL vTup (lC (eC (.int 0)) (lC (eC (.int 1)) (lC (e2 oSub (eC (.int 0)) (eC (.int 1))) (lC (eC (.int 2)) (lC (e2 oSub (eC (.int 0)) (eC (.int 9))) (lN))))))) (lN)))) (lN)))) (eSl (eO vIx (eV 5) (eV 6)) (pSome (e2 oAdd (eV 7) (eC (.int 1)))) (pNone))) (gX (eV 5) (eV 6)))) (sP)) (sR (eL vTup (lC (eV 2) (lC (eV 3) (lC (eL oTuple (lC (eL oSorted (lC (eU vFz (eV 5)) (lN))) (lN))) (lC (eV 4) (lN))))))))))
def m_l_law_puzzle : List W → Store → RW := mRun 11 b_l_law_puzzle
def b_l_law_text : SM := sR (e2 oAdd (eL vTup (lC (e2 oAdd (e2 oAdd (e2 oAdd (e2 oAdd (e2 oAdd (eC (.str "frame ")) (eL oStr (lC (e2 oIx (eV 0) (eC (.int 0))) (lN)))) (eC (.str " "))) (eL oStr (lC (e2 oIx (eV 0) (eC (.int 1))) (lN)))) (eC (.str " "))) (eIf (eTru (e2 oIx (eV 0) (eC (.int 3)))) (eC (.str "turning")) (eC (.str "fixed")))) (lN))) (eL oTuple (lC (eLcG finF [1] (iS (e2 oIx (eV 0) (eC (.int 2)))) (gN 1) (eYes) (e2 oAdd (eC (.str "piece ")) (eBM chkS (vM oJoin) (eC (.str " ")) (lC (eLcG finF [2] (iS (eV 1)) (gN 2) (eYes) (eL oStr (lC (eV 2) (lN)))) (lN))))) (lN))))
def m_l_law_text : List W → Store → RW := mRun 3 b_l_law_text
def b_is_whole : SM := sR (eAnd (eU (vIsi .int) (eV 0)) (eNot (eU (vIsi .bool) (eV 0))))
def m_is_whole : List W → Store → RW := mRun 1 b_is_whole
def b_is_between : SM := sR (eAnd (eA (nArg 1 (vP (toP (m_is_whole)))) (lC (eV 0) (lN))) (eCh (v2 oLe) (v2 oLe) (eV 1) (eV 0) (eV 2)))
def m_is_between : List W → Store → RW := mRun 3 b_is_between
def b_check_rows : SM := sI (eNot (eA (nArg 3 (vP (toP (m_is_between)))) (lC (eV 0) (lC (eC (.int 1)) (lC (eC (.int 6)) (lN)))))) (sBad) (sP)
def m_check_rows : List W → Store → RW := mRun 1 b_check_rows
def b_check_columns : SM := sI (eOr (eNot (eA (nArg 3 (vP (toP (m_is_between)))) (lC (eV 1) (lC (eC (.int 1)) (lC (eC (.int 6)) (lN)))))) (e2 oGt (e2 oMulI (eV 0) (eV 1)) (eC (.int 6)))) (sBad) (sP)
def m_check_columns : List W → Store → RW := mRun 2 b_check_columns
def b_check_frame : SM := sQ (sE (eA (nArg 1 (vP (toP (m_check_rows)))) (lC (eV 0) (lN)))) (sE (eA (nArg 2 (vP (toP (m_check_columns)))) (lC (eV 0) (lC (eV 1) (lN)))))
def m_check_frame : List W → Store → RW := mRun 2 b_check_frame
def b_is_side : SM := sR (eA (nArg 3 (vP (toP (m_is_between)))) (lC (eV 1) (lC (e1 oNeg (eC (.int 9))) (lC (eC (.int 9)) (lN)))))
def m_is_side : List W → Store → RW := mRun 2 b_is_side
def tab_wrong_in_is_side_is_right : Tab' := [(423, 2, m_is_side)]
def b_wrong_in_is_side : SM := sQ (sI (eOr (eNot (eU (vIsi .tuple) (eV 0))) (e2 oLt (eA wLen (lC (eV 0) (lN))) (eV 1))) (sR (eL vLst (lC (eC .non) (lN)))) (sP)) (sQ (sF (iEn (eV 0)) (gT 2 (gsC (gN 4) (gsC (gN 5) (gs0)))) (sI (eOr (e2 oEq (eV 4) (eV 2)) (eNot (eCA (tabOf tab_wrong_in_is_side_is_right) 3 (lC (eSl (eV 0) (pNone) (pSome (eV 4))) (lC (eV 5) (lN)))))) (sR (eL vLst (lC (eV 4) (lN)))) (sP))) (sR (eL vLst (lN))))
def m_wrong_in_is_side : List W → Store → RW := mRun 6 b_wrong_in_is_side
def b_are_all_is_side : SM := sR (e2 oEq (eA (nArg 4 (vP (toP (m_wrong_in_is_side)))) (lC (eV 0) (lC (eV 1) (lC (eV 2) (lC (eV 3) (lN)))))) (eL vLst (lN)))
def m_are_all_is_side : List W → Store → RW := mRun 4 b_are_all_is_side
def b_is_piece : SM := sR (eA (nArg 4 (vP (toP (m_are_all_is_side)))) (lC (eV 0) (lC (eA wLen (lC (eC (.tup (List.map D.int [0, 1, 2, 3]))) (lN))) (lC (eA wLen (lC (eC (.tup (List.map D.int [0, 1, 2, 3]))) (lN))) (lC (eC (.glo 423)) (lN))))))
def m_is_piece : List W → Store → RW := mRun 1 b_is_piece
def b_is_next_piece : SM := sR (eAnd (eA (nArg 1 (vP (toP (m_is_piece)))) (lC (eV 1) (lN))) (eOr (e2 oEq (eV 0) (eL vTup (lN))) (e2 oLe (e2 oIx (eV 0) (e1 oNeg (eC (.int 1)))) (eV 1))))
def m_is_next_piece : List W → Store → RW := mRun 2 b_is_next_piece
def tab_wrong_in_is_next_piece_is_right : Tab' := [(404, 2, m_is_next_piece)]
def b_wrong_in_is_next_piece : SM := sQ (sI (eOr (eNot (eU (vIsi .tuple) (eV 0))) (e2 oLt (eA wLen (lC (eV 0) (lN))) (eV 1))) (sR (eL vLst (lC (eC .non) (lN)))) (sP)) (sQ (sF (iEn (eV 0)) (gT 2 (gsC (gN 4) (gsC (gN 5) (gs0)))) (sI (eOr (e2 oEq (eV 4) (eV 2)) (eNot (eCA (tabOf tab_wrong_in_is_next_piece_is_right) 3 (lC (eSl (eV 0) (pNone) (pSome (eV 4))) (lC (eV 5) (lN)))))) (sR (eL vLst (lC (eV 4) (lN)))) (sP))) (sR (eL vLst (lN))))
def m_wrong_in_is_next_piece : List W → Store → RW := mRun 6 b_wrong_in_is_next_piece
def b_wrong_piece : SM := sQ (sI (eOr (eNot (eU (vIsi .tuple) (eV 0))) (e2 oNe (eA wLen (lC (eV 0) (lN))) (eV 1))) (sR (eL vLst (lC (eC .non) (lN)))) (sP)) (sR (eA (nArg 4 (vP (toP (m_wrong_in_is_next_piece)))) (lC (eV 0) (lC (eV 1) (lC (eV 1) (lC (eC (.glo 404)) (lN)))))))
def m_wrong_piece : List W → Store → RW := mRun 2 b_wrong_piece
def b_check_turning : SM := sI (eNot (eU (vIsi .bool) (eV 0))) (sBad) (sP)
def m_check_turning : List W → Store → RW := mRun 1 b_check_turning
def b_Puzzle_init : SM := sQ (sE (eA (nArg 2 (vP (toP (m_check_frame)))) (lC (eV 1) (lC (eV 2) (lN))))) (sQ (sF (iS (eA (nArg 2 (vP (toP (m_wrong_piece)))) (lC (eV 3) (lC (e2 oMulI (eV 1) (eV 2)) (lN))))) (gN 5) (sBad)) (sQ (sE (eA (nArg 1 (vP (toP (m_check_turning)))) (lC (eV 4) (lN)))) (sQ (sFl 86 "rows" (eV 0) (eV 1)) (sQ (sFl 86 "columns" (eV 0) (eV 2)) (sQ (sFl 86 "pieces" (eV 0) (eV 3)) (sQ (sFl 86 "turning" (eV 0) (eV 4)) (sFl 86 "parts" (eV 0) (eL vTup (lC (eV 1) (lC (eV 2) (lC (eV 3) (lC (eV 4) (lN)))))))))))))
def m_Puzzle_init : List W → Store → RW := mRun 6 b_Puzzle_init
def b_l_law_made : SM := sR (eA (nArg 4 (vP (mkD 86 fl_Puzzle m_Puzzle_init))) (lC (e2 oIx (eV 0) (eC (.int 0))) (lC (e2 oIx (eV 0) (eC (.int 1))) (lC (e2 oIx (eV 0) (eC (.int 2))) (lC (e2 oIx (eV 0) (eC (.int 3))) (lN))))))
def m_l_law_made : List W → Store → RW := mRun 1 b_l_law_made
def b_l_law_same_k79 (mr : List W → Store → RW) : SM := sQ (sI (eOr (eU (vIsi .tuple) (eV 1)) (eU (vIsi .list) (eV 1))) (sQ (sA (eIf (eU (vIsi .tuple) (eV 1)) (eU (vIsi .tuple) (eV 0)) (eU (vIsi .list) (eV 0))) (gN 2)) (sR (eAnd (eV 2) (eAnd (e2 oEq (eA wLen (lC (eV 0) (lN))) (eA wLen (lC (eV 1) (lN)))) (eL oAll (lC (eLcG finF [3] (iR1 (eA wLen (lC (eV 1) (lN)))) (gN 3) (eYes) (eA (nArg 2 (vP (toP mr))) (lC (e2 oIx (eV 0) (eV 3)) (lC (e2 oIx (eV 1) (eV 3)) (lN))))) (lN))))))) (sP)) (sQ (sI (e2 oIsN (eV 1) (eC .non)) (sR (e2 oIsN (eV 0) (eC .non))) (sP)) (sQ (sI (eU (vIsi .bool) (eV 1)) (sR (eAnd (eU (vIsi .bool) (eV 0)) (e2 oEq (eV 0) (eV 1)))) (sP)) (sQ (sI (eU (vIsi .int) (eV 1)) (sR (eAnd (eU (vIsi .int) (eV 0)) (eAnd (eNot (eU (vIsi .bool) (eV 0))) (e2 oEq (eV 0) (eV 1))))) (sP)) (sR (eAnd (eU (vIsi .str) (eV 1)) (eAnd (eU (vIsi .str) (eV 0)) (e2 oEq (eV 0) (eV 1))))))))
def m_l_law_same_k79 : Nat → List W → Store → RW
  | 0 => fun _ _ => .bad
  | n + 1 => mRun 4 (b_l_law_same_k79 (m_l_law_same_k79 n))
def b_check_puzzle : SM := sI (eNot (eU (vIsC 86) (eV 0))) (sBad) (sP)
def m_check_puzzle : List W → Store → RW := mRun 1 b_check_puzzle
def b_puzzle_rows : SM := sQ (sE (eA (nArg 1 (vP (toP (m_check_puzzle)))) (lC (eV 0) (lN)))) (sQ (sA (eIf (eTru (eU (vFld 86 fl_Puzzle "turning") (eV 0))) (eC (.str "turning")) (eC (.str "fixed"))) (gN 1)) (sQ (sA (eBM chkS (vM oJoin) (eC (.str " ")) (lC (eL vLst (lC (eC (.str "frame")) (lC (eL oStr (lC (eU (vFld 86 fl_Puzzle "rows") (eV 0)) (lN))) (lC (eL oStr (lC (eU (vFld 86 fl_Puzzle "columns") (eV 0)) (lN))) (lC (eV 1) (lN)))))) (lN))) (gN 2)) (sR (e2 oAdd (eL vTup (lC (eV 2) (lN))) (eL oTuple (lC (eLcG finF [3] (iS (eU (vFld 86 fl_Puzzle "pieces") (eV 0))) (gN 3) (eYes) (eBM chkS (vM oJoin) (eC (.str " ")) (lC (e2 oAdd (eL vLst (lC (eC (.str "piece")) (lN))) (eLcG finF [4] (iS (eV 3)) (gN 4) (eYes) (eL oStr (lC (eV 4) (lN))))) (lN)))) (lN)))))))
def m_puzzle_rows : List W → Store → RW := mRun 5 b_puzzle_rows
def b_are_figures : SM := sQ (sI (eOr (e2 oEq (eV 0) (eC (.str ""))) (eNot (eL oAll (lC (eLcG finF [1] (iSt (eV 0)) (gN 1) (eYes) (e2 oIn (eV 1) (eC (.str "0123456789")))) (lN))))) (sR (eC (.bl false))) (sP)) (sR (eOr (e2 oEq (eV 0) (eC (.str "0"))) (e2 oNe (e2 oIx (eV 0) (eC (.int 0))) (eC (.str "0")))))
def m_are_figures : List W → Store → RW := mRun 2 b_are_figures
def b_is_frame_line : SM := sQ (sI (eOr (e2 oNe (eA wLen (lC (eV 0) (lN))) (eC (.int 4))) (e2 oNe (e2 oIx (eV 0) (eC (.int 0))) (eC (.str "frame")))) (sR (eC (.bl false))) (sP)) (sR (eAnd (eA (nArg 1 (vP (toP (m_are_figures)))) (lC (e2 oIx (eV 0) (eC (.int 1))) (lN))) (eAnd (eA (nArg 1 (vP (toP (m_are_figures)))) (lC (e2 oIx (eV 0) (eC (.int 2))) (lN))) (e2 oIn (e2 oIx (eV 0) (eC (.int 3))) (eL vTup (lC (eC (.str "turning")) (lC (eC (.str "fixed")) (lN))))))))
def m_is_frame_line : List W → Store → RW := mRun 1 b_is_frame_line
def b_is_number : SM := sQ (sI (eAnd (e2 oNe (eV 0) (eC (.str ""))) (e2 oEq (e2 oIx (eV 0) (eC (.int 0))) (eC (.str "-")))) (sR (eAnd (eA (nArg 1 (vP (toP (m_are_figures)))) (lC (eSl (eV 0) (pSome (eC (.int 1))) (pNone)) (lN))) (e2 oNe (eV 0) (eC (.str "-0"))))) (sP)) (sR (eA (nArg 1 (vP (toP (m_are_figures)))) (lC (eV 0) (lN))))
def m_is_number : List W → Store → RW := mRun 1 b_is_number
def b_is_piece_line : SM := sR (eAnd (e2 oEq (eA wLen (lC (eV 0) (lN))) (eC (.int 5))) (eAnd (e2 oEq (e2 oIx (eV 0) (eC (.int 0))) (eC (.str "piece"))) (eL oAll (lC (eLcG finF [1] (iS (eSl (eV 0) (pSome (eC (.int 1))) (pNone))) (gN 1) (eYes) (eA (nArg 1 (vP (toP (m_is_number)))) (lC (eV 1) (lN)))) (lN)))))
def m_is_piece_line : List W → Store → RW := mRun 2 b_is_piece_line
def b_is_line : SM := sQ (sI (eNot (eU (vIsi .str) (eV 1))) (sR (eC (.bl false))) (sP)) (sQ (sA (eBM chkS (vM oSplit) (eV 1) (lC (eC (.str " ")) (lN))) (gN 2)) (sR (eIf (e2 oEq (eV 0) (eC (.int 0))) (eA (nArg 1 (vP (toP (m_is_frame_line)))) (lC (eV 2) (lN))) (eA (nArg 1 (vP (toP (m_is_piece_line)))) (lC (eV 2) (lN))))))
def m_is_line : List W → Store → RW := mRun 3 b_is_line
def b_wrong_line : SM := sQ (sI (eOr (eNot (eU (vIsi .tuple) (eV 0))) (e2 oEq (eV 0) (eL vTup (lN)))) (sR (eL vLst (lC (eC .non) (lN)))) (sP)) (sQ (sF (iEn (eV 0)) (gT 2 (gsC (gN 1) (gsC (gN 2) (gs0)))) (sI (eNot (eA (nArg 2 (vP (toP (m_is_line)))) (lC (eV 1) (lC (eV 2) (lN))))) (sR (eL vLst (lC (eV 1) (lN)))) (sP))) (sR (eL vLst (lN))))
def m_wrong_line : List W → Store → RW := mRun 3 b_wrong_line
def b_pieces_in : SM := sR (eL oTuple (lC (eLcG finF [1] (iS (eSl (eV 0) (pSome (eC (.int 1))) (pNone))) (gN 1) (eYes) (eL oTuple (lC (eLcG finF [2] (iS (eSl (eBM chkS (vM oSplit) (eV 1) (lC (eC (.str " ")) (lN))) (pSome (eC (.int 1))) (pNone))) (gN 2) (eYes) (eL oInt (lC (eV 2) (lN)))) (lN)))) (lN)))
def m_pieces_in : List W → Store → RW := mRun 3 b_pieces_in
def b_read_puzzle : SM := sQ (sF (iS (eA (nArg 1 (vP (toP (m_wrong_line)))) (lC (eV 0) (lN)))) (gN 1) (sBad)) (sQ (sA (eBM chkS (vM oSplit) (e2 oIx (eV 0) (eC (.int 0))) (lC (eC (.str " ")) (lN))) (gN 2)) (sR (eA (nArg 4 (vP (mkD 86 fl_Puzzle m_Puzzle_init))) (lC (eL oInt (lC (e2 oIx (eV 2) (eC (.int 1))) (lN))) (lC (eL oInt (lC (e2 oIx (eV 2) (eC (.int 2))) (lN))) (lC (eA (nArg 1 (vP (toP (m_pieces_in)))) (lC (eV 0) (lN))) (lC (e2 oEq (e2 oIx (eV 2) (eC (.int 3))) (eC (.str "turning"))) (lN))))))))
def m_read_puzzle : List W → Store → RW := mRun 3 b_read_puzzle
def b_Puzzle_eq : SM := sR (eAnd (eU (vIsC 86) (eV 1)) (e2 oEq (eU (vFld 86 fl_Puzzle "parts") (eV 0)) (eU (vFld 86 fl_Puzzle "parts") (eV 1))))
def m_Puzzle_eq : List W → Store → RW := mRun 2 b_Puzzle_eq
def b_l_law_right_k83 : SM := sQ (sF (iR1 (eC (.int 4))) (gN 1) (sQ (sA (eA (nArg 2 (vC m_l_law_puzzle)) (lC (eV 0) (lC (eC (.int 6)) (lN)))) (gN 2)) (sQ (sPar [3, 4] (lC (eA (nArg 1 (vP (toP (m_l_law_made)))) (lC (eV 2) (lN))) (lC (eA (nArg 1 (vP (toP (m_l_law_text)))) (lC (eV 2) (lN))) (lN)))) (sQ (sI (eNot (eA (nArg 2 (vP (toP (m_l_law_same_k79 6)))) (lC (eL vLst (lC (eA (nArg 1 (vP (toP (m_puzzle_rows)))) (lC (eV 3) (lN))) (lC (eK (nArg 1 (vP (toP (m_puzzle_rows)))) 0 1 [0] (lN) (lC (eV 3) (lN))) (lN)))) (lC (eL vLst (lC (eV 4) (lC (eV 4) (lN)))) (lN))))) (sR (eC (.bl false))) (sP)) (sQ (sF (iS (eL vLst (lC (eA (nArg 1 (vP (toP (m_read_puzzle)))) (lC (eV 4) (lN))) (lC (eK (nArg 1 (vP (toP (m_read_puzzle)))) 0 1 [0] (lN) (lC (eV 4) (lN))) (lC (eA (nArg 1 (vP (toP (m_read_puzzle)))) (lC (eA (nArg 1 (vP (toP (m_puzzle_rows)))) (lC (eV 3) (lN))) (lN))) (lN)))))) (gN 5) (sI (eOr (e2 (oEqI 86 (toP m_Puzzle_eq) true) (eV 5) (eV 3)) (eNot (eA (nArg 2 (vP (toP (m_l_law_same_k79 6)))) (lC (eU (vFld 86 fl_Puzzle "parts") (eV 5)) (lC (eV 2) (lN)))))) (sR (eC (.bl false))) (sP))) (sF (iS (eL vLst (lC (eA (nArg 2 (vC m_l_law_puzzle)) (lC (eV 0) (lC (eC (.int 6)) (lN)))) (lC (e2 oAdd (eSl (eV 2) (pNone) (pSome (eC (.int 3)))) (eL vTup (lC (eNot (e2 oIx (eV 2) (eC (.int 3)))) (lN)))) (lC (e2 oAdd (eL vTup (lC (e2 oIx (eV 2) (eC (.int 1))) (lC (e2 oIx (eV 2) (eC (.int 0))) (lN)))) (eSl (eV 2) (pSome (eC (.int 2))) (pNone))) (lN)))))) (gN 6) (sQ (sA (eA (nArg 1 (vP (toP (m_puzzle_rows)))) (lC (eA (nArg 1 (vP (toP (m_l_law_made)))) (lC (eV 6) (lN))) (lN))) (gN 7)) (sI (eOr (e2 oNe (e2 oEq (eV 7) (eV 4)) (e2 oEq (eV 6) (eV 2))) (eNot (eA (nArg 2 (vP (toP (m_l_law_same_k79 6)))) (lC (eV 7) (lC (eA (nArg 1 (vP (toP (m_l_law_text)))) (lC (eV 6) (lN))) (lN)))))) (sR (eC (.bl false))) (sP))))))))) (sR (eC (.bl true)))
def m_l_law_right_k83 : List W → Store → RW := mRun 8 b_l_law_right_k83
def b_law_k83 : SM := sQ (sF (iR1 (eL oMax (lC (eC (.int 1)) (lC (eL oMin (lC (eA wLen (lC (eV 0) (lN))) (lC (eC (.int 3)) (lN)))) (lN))))) (gN 1) (sQ (sA (eA (nArg 2 m_l_law_well_k83) (lC (eV 0) (lC (eV 1) (lN)))) (gN 2)) (sI (eNot (eL oAll (lC (eLcG finF [3] (iR1 (eC (.int 4))) (gN 3) (eYes) (eA (nArg 1 (vC m_l_law_right_k83)) (lC (eV 2) (lN)))) (lN)))) (sR (eC (.bl false))) (sP)))) (sR (eC (.bl true)))
def m_law_k83 : List W → Store → RW := mRun 4 b_law_k83
end Mi

namespace DN
open PySem PySem.Spec L2
/-! ### evaluation of the functions, by simp -/
section
variable (ρ : Env) (S : Store) (f : W → Store → RW) (f2 g2 : W → W → Store → RW) (fl : List W → Store → RW) (fm : W → List W → Store → RW) (a b c : EM) (m mk : LM) (i n k : Nat) (w u : W) (ws : List W) (x y : D)
@[simp] theorem ev_V : eV i ρ S = (match ρ[i]? with | some (some w) => .ok w S | _ => .bad) := rfl
@[simp] theorem ev_C : eC x ρ S = .ok (.d x) S := rfl
@[simp] theorem ev_U : eU f a ρ S = (a ρ S).bind f := rfl
@[simp] theorem ev_O : eO f2 a b ρ S = (a ρ S).bind fun x S1 => (b ρ S1).bind fun y S2 => f2 x y S2 := rfl
@[simp] theorem ev_A : eA fl m ρ S = (m ρ S).bind fl := rfl
@[simp] theorem ev_BM (chk : W → Store → Bool) : eBM chk fm a m ρ S = (a ρ S).bind fun x S1 => if chk x S1 then (m ρ S1).bind fun ys S2 => fm x ys S2 else .bad := rfl
@[simp] theorem bind_o : (RW.ok w S).bind f = f w S := rfl
@[simp] theorem bind_b : RW.bad.bind f = .bad := rfl
@[simp] theorem bindL_o : (RL.ok ws S).bind fl = fl ws S := rfl
@[simp] theorem bindL_b : RL.bad.bind fl = .bad := rfl
@[simp] theorem ev_N : lN ρ S = .ok [] S := rfl
@[simp] theorem ev_lC : lC a m ρ S = (match a ρ S with | .ok w S1 => (match m ρ S1 with | .ok ws S2 => .ok (w :: ws) S2 | r => r) | .exc c fs S1 => .exc c fs S1 | .bad => .bad) := rfl
@[simp] theorem v1_d (g : D → Option D) : v1 g (.d x) S = giveO (g x) S := rfl
@[simp] theorem v2_d (g : D → D → Option D) : v2 g (.d x) (.d y) S = giveO (g x y) S := rfl
@[simp] theorem giveO_s (z : D) : giveO (some z) S = .ok (.d z) S := rfl
@[simp] theorem giveO_n : giveO none S = .bad := rfl
@[simp] theorem vL_e (g : List D → Option D) : vL g ws S = (match dats ws with | some xs => giveO (g xs) S | none => .bad) := rfl
@[simp] theorem vM_d (g : D → List D → Option D) : vM g (.d x) ws S = (match dats ws with | some xs => giveO (g x xs) S | none => .bad) := rfl
@[simp] theorem dats_0 : dats [] = some [] := rfl
@[simp] theorem dats_d : dats (.d x :: ws) = (dats ws).map (x :: ·) := rfl
@[simp] theorem ev_not : eNot a ρ S = (a ρ S).bind vNot := rfl
@[simp] theorem vNot_b (k : Bool) : vNot (.d (.bl k)) S = .ok (.d (.bl (!k))) S := rfl
@[simp] theorem ev_and : eAnd a b ρ S = (a ρ S).bind fun w S1 => (match w with | .d (.bl true) => b ρ S1 | .d (.bl false) => .ok (.d (.bl false)) S1 | _ => .bad) := rfl
@[simp] theorem ev_or : eOr a b ρ S = (a ρ S).bind fun w S1 => (match w with | .d (.bl true) => .ok (.d (.bl true)) S1 | .d (.bl false) => b ρ S1 | _ => .bad) := rfl
@[simp] theorem ev_if : eIf c a b ρ S = (c ρ S).bind fun w S1 => (match w with | .d (.bl true) => a ρ S1 | .d (.bl false) => b ρ S1 | _ => .bad) := rfl
@[simp] theorem ev_tru : eTru a ρ S = (a ρ S).bind vTru := rfl
@[simp] theorem vTru_b (k : Bool) : vTru (.d (.bl k)) S = .ok (.d (.bl k)) S := rfl
@[simp] theorem ev_ch : eCh f2 g2 a b c ρ S = (a ρ S).bind fun x S1 => (b ρ S1).bind fun y S2 => (f2 x y S2).bind fun z S3 => (match z with | .d (.bl true) => (c ρ S3).bind fun w S4 => g2 y w S4 | .d (.bl false) => .ok (.d (.bl false)) S3 | _ => .bad) := rfl
@[simp] theorem nArg_e : nArg n fl ws S = if ws.length = n then fl ws S else .bad := rfl
@[simp] theorem vP_e (p : PF) : vP p ws S = (match dats ws with | some xs => (match p xs with | .ok x => .ok (.d x) S | .exc c fs => .exc c fs S | .bad => .bad) | none => .bad) := rfl
@[simp] theorem ev_eK (π : List Nat) : eK fl i n π m mk ρ S = (m ρ S).bind fun ws S1 => (mk ρ S1).bind fun zs S2 => fl (perm i n π ws zs) S2 := rfl
-- statements
variable (s t : SM) (g : TM)
@[simp] theorem ev_sR : sR a ρ S = (match a ρ S with | .ok w S' => .rt w S' | .exc c fs S' => .exc ρ c fs S' | .bad => .bad) := rfl
@[simp] theorem ev_sE : sE a ρ S = (match a ρ S with | .ok _ S' => .nx ρ S' | .exc c fs S' => .exc ρ c fs S' | .bad => .bad) := rfl
@[simp] theorem ev_sP : sP ρ S = .nx ρ S := rfl
@[simp] theorem ev_sBad : sBad ρ S = .bad := rfl
@[simp] theorem ev_sQ : sQ s t ρ S = (match s ρ S with | .nx ρ' S' => t ρ' S' | o => o) := rfl
@[simp] theorem ev_sI : sI c s t ρ S = (match c ρ S with | .ok (.d (.bl true)) S' => s ρ S' | .ok (.d (.bl false)) S' => t ρ S' | .exc c fs S' => .exc ρ c fs S' | _ => .bad) := rfl
@[simp] theorem ev_sA : sA a g ρ S = (match a ρ S with | .ok w S' => (match g w ρ S' with | some (ρ', S2) => .nx ρ' S2 | none => .bad) | .exc c fs S' => .exc ρ c fs S' | .bad => .bad) := rfl
@[simp] theorem ev_gN : gN i w ρ S = some (ρ.set i (some w), S) := rfl
@[simp] theorem ev_gT (tt : TMs) (xs : List D) : gT n tt (.d (.tup xs)) ρ S = if xs.length = n then tt xs ρ S else none := rfl
@[simp] theorem ev_gs0 : gs0 [] ρ S = some (ρ, S) := rfl
@[simp] theorem ev_gsC (tt : TMs) (z : D) (zs : List D) : gsC g tt (z :: zs) ρ S = (match g (.d z) ρ S with | some (ρ', S') => tt zs ρ' S' | none => none) := rfl
@[simp] theorem ev_sF (ii : IM) (bb : SM) : sF ii g bb ρ S = (match ii ρ S with | .ok xs S' => loopM g bb xs ρ S' | .exc c fs S' => .exc ρ c fs S' | .bad => .bad) := rfl
@[simp] theorem toP_run (bb : SM) (xs : List D) : toP (mRun n bb) xs = (match bb (xs.map (fun x => some (W.d x)) ++ List.replicate (n - xs.length) none) [] with | .nx _ _ => .ok .non | .rt (.d x) _ => .ok x | .exc _ c fs _ => .exc c fs | _ => .bad) := by
  unfold toP mRun
  rw [List.map_map, List.length_map]
  cases h : bb (List.map (some ∘ W.d) xs ++ List.replicate (n - xs.length) none) [] with
  | rt w S => cases w <;> (show _ = _; simp only [Function.comp_def] at h; rw [h])
  | _ => (simp only [Function.comp_def] at h; rw [h])
end
end DN
namespace Mi
open PySem PySem.Spec L2 DN
theorem is_whole_int (i : Int) : toP m_is_whole [.int i] = .ok (.bl true) := rfl
theorem is_between_int (i j k : Int) : toP m_is_between [.int i, .int j, .int k] = .ok (.bl (decide (j ≤ i) && decide (i ≤ k))) := by
  simp [m_is_between, b_is_between, is_whole_int, oLe]
  cases decide (j ≤ i) <;> simp
end Mi

namespace Mi
open PySem PySem.Spec L2 DN
/-! ### the law's own well of numbers -/
def WellOk (xs : List D) : Prop := ∃ a b c : Int, xs = [.int a, .int b, .int c] ∧ 0 ≤ a ∧ 0 ≤ b ∧ b < 2147481151 ∧ 0 ≤ c
def Plain (S : Store) : Prop := ∀ c ∈ S, (∃ xs, c = Cell.lst xs) ∨ c = Cell.dead
theorem cellL_of {S : Store} {n : Nat} {xs : List D} (h : S[n]? = some (.lst xs)) : cellL S n = some xs := by unfold cellL; rw [h]
theorem cellL_set {S : Store} {n : Nat} {xs : List D} (h : n < S.length) : cellL (S.set n (.lst xs)) n = some xs := cellL_of (by rw [List.getElem?_set_self h])
theorem lt_of_cell {S : Store} {n : Nat} {c : Cell} (h : S[n]? = some c) : n < S.length := (List.getElem?_eq_some_iff.mp h).1
theorem plain_keep {S : Store} {k : Nat} (h : Plain S) : S.all (keepC k) = true := List.all_eq_true.mpr fun c hc => by
  rcases h c hc with ⟨xs, rfl⟩ | rfl <;> rfl
theorem plain_set {S : Store} {n : Nat} {xs : List D} (h : Plain S) : Plain (S.set n (.lst xs)) := fun c hc => by
  rcases List.mem_or_eq_of_mem_set hc with z | z
  · exact h c z
  · exact .inl ⟨xs, z⟩
theorem back_same {S S' : Store} {x : D} (hl : S'.length = S.length) (h : Plain S') : back S.length (.ok (.d x) S') = .ok (.d x) S' := by
  have ht : List.take S.length S' = S' := by rw [← hl, List.take_length]
  unfold back
  dsimp only
  rw [ht, plain_keep h]
  rfl
@[simp] theorem ix0 (x y z : D) : atI [x, y, z] 0 = some x := rfl
@[simp] theorem ix1 (x y z : D) : atI [x, y, z] 1 = some y := rfl
@[simp] theorem ix2 (x y z : D) : atI [x, y, z] 2 = some z := rfl
@[simp] theorem in0 : ixN 3 0 = some 0 := rfl
@[simp] theorem in1 : ixN 3 1 = some 1 := rfl
@[simp] theorem in2 : ixN 3 2 = some 2 := rfl
theorem oInt_i (i : Int) : oInt [.int i] = some (.int i) := rfl
theorem small_of {i : Int} (h : 0 ≤ i) (h2 : i < 18446744073709551616) : smallI i = true := by
  unfold smallI
  simp; omega
theorem draw_ok {S : Store} {n : Nat} {xs : List D} {many : Int} (h : S[n]? = some (.lst xs)) (w : WellOk xs) (m1 : 0 < many) (m2 : many < 1073741824) : ∃ (fig : Int) (xs' : List D), WellOk xs' ∧ 0 ≤ fig ∧ fig < many ∧ m_l_law_draw [.h n, .d (.int many)] S = .ok (.d (.int fig)) (S.set n (.lst xs')) := by
  obtain ⟨a, b, c, rfl, ha, hb, hb2, hc⟩ := w
  have hn := lt_of_cell h
  have hcell := cellL_of h
  by_cases h0 : 0 < a
  · refine ⟨a % many, [.int (a / many), .int b, .int c], ⟨_, _, _, rfl, Int.ediv_nonneg ha (Int.le_of_lt m1), hb, hb2, hc⟩, Int.emod_nonneg _ (by omega), Int.emod_lt_of_pos _ m1, ?_⟩
    simp [m_l_law_draw, mRun, b_l_law_draw, vIx, hcell, oGt, h0, oDivmod, m1, m2, gX]
  · refine ⟨_, [.int a, .int (((b * (b % 8093 + 43019) + 9631 * (c + 1)) + 167) % 2147480197), .int (c + 1)], ⟨_, _, _, rfl, ha, Int.emod_nonneg _ (by omega), ?_, by omega⟩, Int.emod_nonneg (((b * (b % 8093 + 43019) + 9631 * (c + 1)) + 167) % 2147480197 / 491) (by omega : many ≠ 0), Int.emod_lt_of_pos _ m1, ?_⟩
    · have := Int.emod_lt_of_pos (((b * (b % 8093 + 43019) + 9631 * (c + 1)) + 167)) (show (0 : Int) < 2147480197 by decide)
      omega
    · have hs : smallI b = true := small_of hb (by omega)
      have hs2 : smallI 9631 = true := by decide
      simp [m_l_law_draw, mRun, b_l_law_draw, vIx, hcell, cellL_set, hn, oGt, h0, gX, oAdd, oMulI, oMod, oFdiv, oInt_i, hs, hs2, m1]

theorem vC_draw {S : Store} {n : Nat} {xs : List D} {many : Int} (h : S[n]? = some (.lst xs)) (p : Plain S) (w : WellOk xs) (m1 : 0 < many) (m2 : many < 1073741824) : ∃ (fig : Int) (xs' : List D), WellOk xs' ∧ 0 ≤ fig ∧ fig < many ∧ vC m_l_law_draw [.h n, .d (.int many)] S = .ok (.d (.int fig)) (S.set n (.lst xs')) := by
  obtain ⟨fig, xs', w', f1, f2, e⟩ := draw_ok h w m1 m2
  refine ⟨fig, xs', w', f1, f2, ?_⟩
  unfold vC
  rw [e]
  exact back_same (by simp) (plain_set p)
/-- what a function with the well does: it gives what R says, the well stays a well -/
def Gives (r : RW) (S : Store) (n : Nat) (R : D → Prop) : Prop := ∃ (x : D) (xs' : List D), R x ∧ WellOk xs' ∧ r = .ok (.d x) (S.set n (.lst xs'))
theorem Gives.vC {m : List W → Store → RW} {ws : List W} {S : Store} {n : Nat} {R : D → Prop} (p : Plain S) (h : Gives (m ws S) S n R) : Gives (vC m ws S) S n R := by
  obtain ⟨x, xs', r, w, e⟩ := h
  refine ⟨x, xs', r, w, ?_⟩
  unfold DN.vC
  rw [e]
  exact back_same (by simp) (plain_set p)
theorem of_ok {S : Store} {n : Nat} {xs : List D} {some_ : D} {ys : List D} (hs : some_ = .tup ys ∨ some_ = .lst ys) (h : S[n]? = some (.lst xs)) (p : Plain S) (w : WellOk xs) (m1 : 0 < ys.length) (m2 : ys.length < 1073741824) : Gives (m_l_law_of [.h n, .d some_] S) S n (fun x => x ∈ ys) := by
  obtain ⟨fig, xs', w', f1, f2, e⟩ := vC_draw (many := (ys.length : Int)) h p w (by omega) (by omega)
  have hi : atI ys fig = some (ys[fig.toNat]'(by omega)) := by
    unfold atI ixN
    rw [if_pos f1, if_pos f2]
    exact List.getElem?_eq_getElem _
  refine ⟨ys[fig.toNat]'(by omega), xs', List.getElem_mem _, w', ?_⟩
  rcases hs with rfl | rfl
  · simp [m_l_law_of, mRun, b_l_law_of, wLen, lenD, e, oIx, hi]
  · simp [m_l_law_of, mRun, b_l_law_of, wLen, lenD, e, oIx, hi]
theorem turned_ok (a b c d many : Int) (h : 0 ≤ many ∧ many < 4) : ∃ a' b' c' d', toP m_l_law_turned [.tup [.int a, .int b, .int c, .int d], .int many] = .ok (.tup [.int a', .int b', .int c', .int d']) ∧ (∀ x ∈ [a', b', c', d'], x ∈ [a, b, c, d]) := by
  have : many = 0 ∨ many = 1 ∨ many = 2 ∨ many = 3 := by omega
  rcases this with rfl | rfl | rfl | rfl
  · exact ⟨a, b, c, d, rfl, by simp⟩
  · exact ⟨d, a, b, c, rfl, by simp⟩
  · exact ⟨c, d, a, b, rfl, by simp⟩
  · exact ⟨b, c, d, a, rfl, by simp⟩
end Mi

namespace Mi
open PySem PySem.Spec L2 DN
def In9 (v : Int) : Prop := -9 ≤ v ∧ v ≤ 9
def P4 (x : D) : Prop := ∃ a b c d : Int, x = .tup [.int a, .int b, .int c, .int d] ∧ In9 a ∧ In9 b ∧ In9 c ∧ In9 d
theorem len_0 {vs : List Int} (h : vs.length = 0) : vs = [] := List.length_eq_zero_iff.mp h
theorem len_1 {vs : List Int} (h : vs.length = 1) : ∃ v0, vs = [v0] := by
  match vs, h with
  | [v0], _ => exact ⟨v0, rfl⟩
theorem len_2 {vs : List Int} (h : vs.length = 2) : ∃ v0 v1, vs = [v0, v1] := by
  match vs, h with
  | [v0, v1], _ => exact ⟨v0, v1, rfl⟩
theorem len_3 {vs : List Int} (h : vs.length = 3) : ∃ v0 v1 v2, vs = [v0, v1, v2] := by
  match vs, h with
  | [v0, v1, v2], _ => exact ⟨v0, v1, v2, rfl⟩
theorem len_4 {vs : List Int} (h : vs.length = 4) : ∃ v0 v1 v2 v3, vs = [v0, v1, v2, v3] := by
  match vs, h with
  | [v0, v1, v2, v3], _ => exact ⟨v0, v1, v2, v3, rfl⟩
theorem len_7 {vs : List Int} (h : vs.length = 7) : ∃ v0 v1 v2 v3 v4 v5 v6, vs = [v0, v1, v2, v3, v4, v5, v6] := by
  match vs, h with
  | [v0, v1, v2, v3, v4, v5, v6], _ => exact ⟨v0, v1, v2, v3, v4, v5, v6, rfl⟩
theorem cp_11  : toP m_l_law_cut_pieces [.int 1, .int 1, .tup []] = .ok (.tup [.tup [.int 0, .int 0, .int 0, .int 0]]) := by kernel_rfl
theorem cp_12 (v0 : Int) : toP m_l_law_cut_pieces [.int 1, .int 2, .tup [.int v0]] = .ok (.tup [.tup [.int 0, .int v0, .int 0, .int 0], .tup [.int 0, .int 0, .int 0, .int (0 - v0)]]) := by kernel_rfl
theorem cp_21 (v0 : Int) : toP m_l_law_cut_pieces [.int 2, .int 1, .tup [.int v0]] = .ok (.tup [.tup [.int 0, .int 0, .int v0, .int 0], .tup [.int (0 - v0), .int 0, .int 0, .int 0]]) := by kernel_rfl
theorem cp_13 (v0 v1 : Int) : toP m_l_law_cut_pieces [.int 1, .int 3, .tup [.int v0, .int v1]] = .ok (.tup [.tup [.int 0, .int v0, .int 0, .int 0], .tup [.int 0, .int v1, .int 0, .int (0 - v0)], .tup [.int 0, .int 0, .int 0, .int (0 - v1)]]) := by kernel_rfl
theorem cp_22 (v0 v1 v2 v3 : Int) : toP m_l_law_cut_pieces [.int 2, .int 2, .tup [.int v0, .int v1, .int v2, .int v3]] = .ok (.tup [.tup [.int 0, .int v0, .int v1, .int 0], .tup [.int 0, .int 0, .int v2, .int (0 - v0)], .tup [.int (0 - v1), .int v3, .int 0, .int 0], .tup [.int (0 - v2), .int 0, .int 0, .int (0 - v3)]]) := by kernel_rfl
theorem cp_41 (v0 v1 v2 : Int) : toP m_l_law_cut_pieces [.int 4, .int 1, .tup [.int v0, .int v1, .int v2]] = .ok (.tup [.tup [.int 0, .int 0, .int v0, .int 0], .tup [.int (0 - v0), .int 0, .int v1, .int 0], .tup [.int (0 - v1), .int 0, .int v2, .int 0], .tup [.int (0 - v2), .int 0, .int 0, .int 0]]) := by kernel_rfl
theorem cp_14 (v0 v1 v2 : Int) : toP m_l_law_cut_pieces [.int 1, .int 4, .tup [.int v0, .int v1, .int v2]] = .ok (.tup [.tup [.int 0, .int v0, .int 0, .int 0], .tup [.int 0, .int v1, .int 0, .int (0 - v0)], .tup [.int 0, .int v2, .int 0, .int (0 - v1)], .tup [.int 0, .int 0, .int 0, .int (0 - v2)]]) := by kernel_rfl
theorem cp_32 (v0 v1 v2 v3 v4 v5 v6 : Int) : toP m_l_law_cut_pieces [.int 3, .int 2, .tup [.int v0, .int v1, .int v2, .int v3, .int v4, .int v5, .int v6]] = .ok (.tup [.tup [.int 0, .int v0, .int v1, .int 0], .tup [.int 0, .int 0, .int v2, .int (0 - v0)], .tup [.int (0 - v1), .int v3, .int v4, .int 0], .tup [.int (0 - v2), .int 0, .int v5, .int (0 - v3)], .tup [.int (0 - v4), .int v6, .int 0, .int 0], .tup [.int (0 - v5), .int 0, .int 0, .int (0 - v6)]]) := by kernel_rfl
theorem cp_23 (v0 v1 v2 v3 v4 v5 v6 : Int) : toP m_l_law_cut_pieces [.int 2, .int 3, .tup [.int v0, .int v1, .int v2, .int v3, .int v4, .int v5, .int v6]] = .ok (.tup [.tup [.int 0, .int v0, .int v1, .int 0], .tup [.int 0, .int v2, .int v3, .int (0 - v0)], .tup [.int 0, .int 0, .int v4, .int (0 - v2)], .tup [.int (0 - v1), .int v5, .int 0, .int 0], .tup [.int (0 - v3), .int v6, .int 0, .int (0 - v5)], .tup [.int (0 - v4), .int 0, .int 0, .int (0 - v6)]]) := by kernel_rfl
def frames : List (Int × Int) := [(1, 1), (1, 2), (2, 1), (1, 3), (2, 2), (4, 1), (1, 4), (3, 2), (2, 3)]
def IsFrame (r c : Int) : Prop := (r, c) ∈ frames
theorem cut_pieces_ok {r c : Int} {vs : List Int} (hf : IsFrame r c) (hl : (vs.length : Int) = r * (c - 1) + c * (r - 1)) (h9 : ∀ v ∈ vs, In9 v) : ∃ ps, toP m_l_law_cut_pieces [.int r, .int c, .tup (vs.map D.int)] = .ok (.tup ps) ∧ (ps.length : Int) = r * c ∧ ∀ p ∈ ps, P4 p := by
  simp only [IsFrame, frames, List.mem_cons, List.not_mem_nil, or_false, Prod.mk.injEq] at hf
  rcases hf with ⟨rfl, rfl⟩ | ⟨rfl, rfl⟩ | ⟨rfl, rfl⟩ | ⟨rfl, rfl⟩ | ⟨rfl, rfl⟩ | ⟨rfl, rfl⟩ | ⟨rfl, rfl⟩ | ⟨rfl, rfl⟩ | ⟨rfl, rfl⟩
  · obtain rfl := len_0 (vs := vs) (by simpa using hl)
    refine ⟨_, cp_11 , by simp, ?_⟩
    have z9 : In9 0 := by unfold In9; omega
    intro p hp
    simp only [List.mem_cons, List.not_mem_nil, or_false] at hp
    unfold In9 at h9
    subst hp; exact ⟨_, _, _, _, rfl, by unfold In9; omega, by unfold In9; omega, by unfold In9; omega, by unfold In9; omega⟩
  · obtain ⟨v0, rfl⟩ := len_1 (vs := vs) (by simp at hl; omega)
    refine ⟨_, cp_12 v0, by simp, ?_⟩
    simp only [List.mem_cons, List.not_mem_nil, or_false, forall_eq_or_imp, forall_eq] at h9
    have z9 : In9 0 := by unfold In9; omega
    intro p hp
    simp only [List.mem_cons, List.not_mem_nil, or_false] at hp
    unfold In9 at h9
    rcases hp with rfl | rfl <;> exact ⟨_, _, _, _, rfl, by unfold In9; omega, by unfold In9; omega, by unfold In9; omega, by unfold In9; omega⟩
  · obtain ⟨v0, rfl⟩ := len_1 (vs := vs) (by simp at hl; omega)
    refine ⟨_, cp_21 v0, by simp, ?_⟩
    simp only [List.mem_cons, List.not_mem_nil, or_false, forall_eq_or_imp, forall_eq] at h9
    have z9 : In9 0 := by unfold In9; omega
    intro p hp
    simp only [List.mem_cons, List.not_mem_nil, or_false] at hp
    unfold In9 at h9
    rcases hp with rfl | rfl <;> exact ⟨_, _, _, _, rfl, by unfold In9; omega, by unfold In9; omega, by unfold In9; omega, by unfold In9; omega⟩
  · obtain ⟨v0, v1, rfl⟩ := len_2 (vs := vs) (by simp at hl; omega)
    refine ⟨_, cp_13 v0 v1, by simp, ?_⟩
    simp only [List.mem_cons, List.not_mem_nil, or_false, forall_eq_or_imp, forall_eq] at h9
    have z9 : In9 0 := by unfold In9; omega
    intro p hp
    simp only [List.mem_cons, List.not_mem_nil, or_false] at hp
    unfold In9 at h9
    rcases hp with rfl | rfl | rfl <;> exact ⟨_, _, _, _, rfl, by unfold In9; omega, by unfold In9; omega, by unfold In9; omega, by unfold In9; omega⟩
  · obtain ⟨v0, v1, v2, v3, rfl⟩ := len_4 (vs := vs) (by simp at hl; omega)
    refine ⟨_, cp_22 v0 v1 v2 v3, by simp, ?_⟩
    simp only [List.mem_cons, List.not_mem_nil, or_false, forall_eq_or_imp, forall_eq] at h9
    have z9 : In9 0 := by unfold In9; omega
    intro p hp
    simp only [List.mem_cons, List.not_mem_nil, or_false] at hp
    unfold In9 at h9
    rcases hp with rfl | rfl | rfl | rfl <;> exact ⟨_, _, _, _, rfl, by unfold In9; omega, by unfold In9; omega, by unfold In9; omega, by unfold In9; omega⟩
  · obtain ⟨v0, v1, v2, rfl⟩ := len_3 (vs := vs) (by simp at hl; omega)
    refine ⟨_, cp_41 v0 v1 v2, by simp, ?_⟩
    simp only [List.mem_cons, List.not_mem_nil, or_false, forall_eq_or_imp, forall_eq] at h9
    have z9 : In9 0 := by unfold In9; omega
    intro p hp
    simp only [List.mem_cons, List.not_mem_nil, or_false] at hp
    unfold In9 at h9
    rcases hp with rfl | rfl | rfl | rfl <;> exact ⟨_, _, _, _, rfl, by unfold In9; omega, by unfold In9; omega, by unfold In9; omega, by unfold In9; omega⟩
  · obtain ⟨v0, v1, v2, rfl⟩ := len_3 (vs := vs) (by simp at hl; omega)
    refine ⟨_, cp_14 v0 v1 v2, by simp, ?_⟩
    simp only [List.mem_cons, List.not_mem_nil, or_false, forall_eq_or_imp, forall_eq] at h9
    have z9 : In9 0 := by unfold In9; omega
    intro p hp
    simp only [List.mem_cons, List.not_mem_nil, or_false] at hp
    unfold In9 at h9
    rcases hp with rfl | rfl | rfl | rfl <;> exact ⟨_, _, _, _, rfl, by unfold In9; omega, by unfold In9; omega, by unfold In9; omega, by unfold In9; omega⟩
  · obtain ⟨v0, v1, v2, v3, v4, v5, v6, rfl⟩ := len_7 (vs := vs) (by simp at hl; omega)
    refine ⟨_, cp_32 v0 v1 v2 v3 v4 v5 v6, by simp, ?_⟩
    simp only [List.mem_cons, List.not_mem_nil, or_false, forall_eq_or_imp, forall_eq] at h9
    have z9 : In9 0 := by unfold In9; omega
    intro p hp
    simp only [List.mem_cons, List.not_mem_nil, or_false] at hp
    unfold In9 at h9
    rcases hp with rfl | rfl | rfl | rfl | rfl | rfl <;> exact ⟨_, _, _, _, rfl, by unfold In9; omega, by unfold In9; omega, by unfold In9; omega, by unfold In9; omega⟩
  · obtain ⟨v0, v1, v2, v3, v4, v5, v6, rfl⟩ := len_7 (vs := vs) (by simp at hl; omega)
    refine ⟨_, cp_23 v0 v1 v2 v3 v4 v5 v6, by simp, ?_⟩
    simp only [List.mem_cons, List.not_mem_nil, or_false, forall_eq_or_imp, forall_eq] at h9
    have z9 : In9 0 := by unfold In9; omega
    intro p hp
    simp only [List.mem_cons, List.not_mem_nil, or_false] at hp
    unfold In9 at h9
    rcases hp with rfl | rfl | rfl | rfl | rfl | rfl <;> exact ⟨_, _, _, _, rfl, by unfold In9; omega, by unfold In9; omega, by unfold In9; omega, by unfold In9; omega⟩
/-! ### comprehensions with the well -/
theorem lc_gives {n j : Nat} {ρ : DN.Env} {e : EM} {R : D → Prop} {fin : List D → Store → RW} : ∀ (xs acc : List D) (S : Store) (ws : List D), S[n]? = some (.lst ws) → Plain S → WellOk ws →
    (∀ x ∈ xs, ∀ (S : Store) (ws : List D), S[n]? = some (.lst ws) → Plain S → WellOk ws → Gives (e (ρ.set j (some (.d x))) S) S n R) →
    ∃ ys ws', ys.length = xs.length ∧ (∀ y ∈ ys, R y) ∧ WellOk ws' ∧ lcM fin (gN j) eYes e ρ xs acc S = fin (acc ++ ys) (S.set n (.lst ws'))
  | [], acc, S, ws, h, p, w, _ => ⟨[], ws, rfl, by simp, w, by
      rw [lcM, List.append_nil]
      congr 1
      refine List.ext_getElem? fun k => ?_
      by_cases hk : k = n
      · subst hk; rw [h, List.getElem?_set_self (lt_of_cell h)]
      · rw [List.getElem?_set_ne (Ne.symm hk)]⟩
  | x :: xs, acc, S, ws, h, p, w, hx => by
    obtain ⟨y, ws1, r1, w1, e1⟩ := hx x List.mem_cons_self S ws h p w
    have hn := lt_of_cell h
    obtain ⟨ys, ws2, l2, r2, w2, e2⟩ := lc_gives xs (acc ++ [y]) (S.set n (.lst ws1)) ws1 (by rw [List.getElem?_set_self hn]) (plain_set p) w1 fun z hz => hx z (List.mem_cons_of_mem _ hz)
    refine ⟨y :: ys, ws2, by simp [l2], fun z hz => ?_, w2, ?_⟩
    · rcases List.mem_cons.mp hz with rfl | hz
      · exact r1
      · exact r2 z hz
    · rw [lcM]
      simp only [ev_gN, eYes, e1]
      rw [e2, List.append_assoc, List.set_set]
      rfl
theorem lc_map {j : Nat} {ρ : DN.Env} {e : EM} {f : D → D} {fin : List D → Store → RW} {S : Store} : ∀ (xs acc : List D), (∀ x ∈ xs, e (ρ.set j (some (.d x))) S = .ok (.d (f x)) S) → lcM fin (gN j) eYes e ρ xs acc S = fin (acc ++ xs.map f) S
  | [], acc, _ => by rw [lcM]; simp
  | x :: xs, acc, h => by
    rw [lcM]
    simp only [ev_gN, eYes, h x List.mem_cons_self]
    rw [lc_map xs _ fun z hz => h z (List.mem_cons_of_mem _ hz)]
    simp

theorem set_at {S : Store} {n : Nat} {xs ys : List D} (h : S[n]? = some (.lst xs)) : (S.set n (.lst ys))[n]? = some (.lst ys) := List.getElem?_set_self (lt_of_cell h)
theorem draw_g {S : Store} {n : Nat} {xs : List D} {many : Int} (h : S[n]? = some (.lst xs)) (p : Plain S) (w : WellOk xs) (m1 : 0 < many) (m2 : many < 1073741824) : Gives (vC m_l_law_draw [.h n, .d (.int many)] S) S n (fun x => ∃ f : Int, x = .int f ∧ 0 ≤ f ∧ f < many) := by
  obtain ⟨fig, xs', w', f1, f2, e⟩ := vC_draw h p w m1 m2
  exact ⟨_, xs', ⟨fig, rfl, f1, f2⟩, w', e⟩
theorem cut_ok {S : Store} {n : Nat} {xs : List D} {r c most : Int} (h : S[n]? = some (.lst xs)) (p : Plain S) (w : WellOk xs) (hf : IsFrame r c) (m1 : 0 < most) (m2 : most ≤ 9) :
    Gives (m_l_law_cut [.h n, .d (.int r), .d (.int c), .d (.int most)] S) S n (fun x => ∃ vs : List Int, x = .tup (vs.map D.int) ∧ (vs.length : Int) = r * (c - 1) + c * (r - 1) ∧ ∀ v ∈ vs, In9 v) := by
  have hb : smallI r = true ∧ smallI c = true ∧ okR (r * (c - 1) + c * (r - 1)) = true ∧ 0 ≤ r * (c - 1) + c * (r - 1) ∧ (r * (c - 1) + c * (r - 1)).toNat ≤ 7 := by
    simp only [IsFrame, frames, List.mem_cons, List.not_mem_nil, or_false, Prod.mk.injEq] at hf
    rcases hf with ⟨rfl, rfl⟩ | ⟨rfl, rfl⟩ | ⟨rfl, rfl⟩ | ⟨rfl, rfl⟩ | ⟨rfl, rfl⟩ | ⟨rfl, rfl⟩ | ⟨rfl, rfl⟩ | ⟨rfl, rfl⟩ | ⟨rfl, rfl⟩ <;> decide
  obtain ⟨s1, s2, h3, h4, h5⟩ := hb
  have hz : (rangeD 0 (r * (c - 1) + c * (r - 1)).toNat).length ≤ sizeLine := by
    rw [rangeD_len]; exact Nat.le_trans h5 (by rw [sizeLine_eq]; decide)
  obtain ⟨ys, ws', hl, hy, w', e⟩ := lc_gives (n := n) (j := 5) (ρ := [some (.h n), some (.d (.int r)), some (.d (.int c)), some (.d (.int most)), some (.d (.int (r * (c - 1) + c * (r - 1)))), none]) (fin := finF) (R := fun x => ∃ v : Int, x = .int v ∧ In9 v)
    (e := e2 oMulI (e2 oAdd (eC (.int 1)) (eA (nArg 2 (vC m_l_law_draw)) (lC (eV 0) (lC (eV 3) (lN))))) (eA (nArg 2 (vC m_l_law_of)) (lC (eV 0) (lC (eL vTup (lC (eC (.int 1)) (lC (e2 oSub (eC (.int 0)) (eC (.int 1))) (lN)))) (lN)))))
    (rangeD 0 (r * (c - 1) + c * (r - 1)).toNat) [] S xs h p w (fun x _ S ws h p w => by
      obtain ⟨_, x1, ⟨f, rfl, f1, f2⟩, w1, e1⟩ := draw_g h p w m1 (by omega : most < 1073741824)
      obtain ⟨z, x2, hz, w2, e2⟩ := (of_ok (some_ := .tup [.int 1, .int (-1)]) (ys := [.int 1, .int (-1)]) (.inl rfl) (set_at (ys := x1) h) (plain_set p) w1 (by decide) (by decide)).vC (plain_set p)
      simp only [List.mem_cons, List.not_mem_nil, or_false] at hz
      have hs : smallI (1 + f) = true := small_of (by omega) (by omega)
      rcases hz with rfl | rfl
      · refine ⟨.int (1 + f), x2, ⟨_, rfl, by unfold In9; omega⟩, w2, ?_⟩
        simp [wipeE, e1, vTup, oSub, sizeLine_eq, e2, oAdd, oMulI, hs, List.set_set]
      · refine ⟨.int (-(1 + f)), x2, ⟨_, rfl, by unfold In9; omega⟩, w2, ?_⟩
        simp [wipeE, e1, vTup, oSub, sizeLine_eq, e2, oAdd, oMulI, hs, List.set_set])
  have hv : ∃ vs : List Int, ys = vs.map D.int ∧ ∀ v ∈ vs, In9 v := by
    clear hl e
    induction ys with
    | nil => exact ⟨[], rfl, by simp⟩
    | cons y ys ih =>
      obtain ⟨v, rfl, h9⟩ := hy y List.mem_cons_self
      obtain ⟨vs, rfl, h⟩ := ih fun z hz => hy z (List.mem_cons_of_mem _ hz)
      exact ⟨v :: vs, rfl, fun z hz => by
        rcases List.mem_cons.mp hz with rfl | hz
        · exact h9
        · exact h z hz⟩
  obtain ⟨vs, rfl, h9⟩ := hv
  refine ⟨_, ws', ⟨vs, rfl, ?_, h9⟩, w', ?_⟩
  · rw [List.length_map, rangeD_len] at hl
    rw [hl]; omega
  · have e' := e
    simp [m_l_law_cut, mRun, b_l_law_cut, oMulI, oSub, oAdd, s1, s2, iR1, h3, eLcG, hz, wipeE, e', finF, oTuple]
end Mi

namespace Mi
open PySem PySem.Spec L2 DN
/-- the store within a function: the caller's cells with the well at n, then own ones -/
structure St (S0 : Store) (n : Nat) (S : Store) (ws : List D) : Prop where
  tk : S.take S0.length = S0.set n (.lst ws)
  le : S0.length ≤ S.length
  pl : Plain S
  ok : WellOk ws
  at_ : S[n]? = some (.lst ws)
  lt : n < S0.length
theorem St.start {S : Store} {n : Nat} {ws : List D} (h : S[n]? = some (.lst ws)) (p : Plain S) (w : WellOk ws) : St S n S ws where
  tk := by
    rw [List.take_length]
    refine List.ext_getElem? fun k => ?_
    by_cases hk : k = n
    · subst hk; rw [h, List.getElem?_set_self (lt_of_cell h)]
    · rw [List.getElem?_set_ne (Ne.symm hk)]
  le := Nat.le_refl _
  pl := p
  ok := w
  at_ := h
  lt := lt_of_cell h
theorem St.well {S0 S : Store} {n : Nat} {ws ws' : List D} (s : St S0 n S ws) (w : WellOk ws') : St S0 n (S.set n (.lst ws')) ws' where
  tk := by rw [List.take_set, s.tk, List.set_set]
  le := by simpa using s.le
  pl := plain_set s.pl
  ok := w
  at_ := set_at s.at_
  lt := s.lt
theorem St.add {S0 S : Store} {n : Nat} {ws xs : List D} (s : St S0 n S ws) : St S0 n (S ++ [.lst xs]) ws where
  tk := by rw [List.take_append_of_le_length s.le, s.tk]
  le := by simp; have := s.le; omega
  pl := fun c hc => by
    rcases List.mem_append.mp hc with z | z
    · exact s.pl c z
    · exact .inl ⟨xs, by simpa using z⟩
  ok := s.ok
  at_ := by rw [List.getElem?_append_left (lt_of_cell s.at_)]; exact s.at_
  lt := s.lt
theorem St.put {S0 S : Store} {n k : Nat} {ws : List D} {c : Cell} (s : St S0 n S ws) (hk : S0.length ≤ k) (hc : (∃ xs, c = .lst xs) ∨ c = .dead) : St S0 n (S.set k c) ws where
  tk := by rw [List.take_set_of_le hk, s.tk]
  le := by simpa using s.le
  pl := fun d hd => by
    rcases List.mem_or_eq_of_mem_set hd with z | z
    · exact s.pl d z
    · rw [z]; exact hc
  ok := s.ok
  at_ := by rw [List.getElem?_set_ne (by have := s.lt; omega)]; exact s.at_
  lt := s.lt
theorem St.back {S0 S : Store} {n : Nat} {ws : List D} {x : D} (s : St S0 n S ws) (p : Plain S0) : back S0.length (.ok (.d x) S) = .ok (.d x) (S0.set n (.lst ws)) := by
  unfold DN.back
  dsimp only
  rw [s.tk, plain_keep (plain_set p)]
  rfl
/-- the law's parts of a puzzle -/
def Good (most : Int) (x : D) : Prop := ∃ (r c : Int) (ps : List D) (t : Bool), x = .tup [.int r, .int c, .tup ps, .bl t] ∧ IsFrame r c ∧ r * c ≤ most ∧ (ps.length : Int) = r * c ∧ (∀ p ∈ ps, P4 p) ∧ ps.Pairwise (fun a b => leD a b = true)
@[simp] theorem oEq_int (i j : Int) : oEq (.int i) (.int j) = some (.bl (decide (i = j))) := by
  have h : PyData.eqv (pyD (.int i)) (pyD (.int j)) = decide (i = j) := by
    by_cases h : i = j
    · subst h; simp [pyD, PyData.eqv]
    · simp [pyD, PyData.eqv, h]
  unfold oEq
  rw [if_pos (by rfl), h]
theorem ok4 (a b c d : Int) : okD (.tup [.int a, .int b, .int c, .int d]) = true := by kernel_rfl
theorem al4 (a b c d a' b' c' d' : Int) : PySem.W.alike (pyD (.tup [.int a, .int b, .int c, .int d])) (pyD (.tup [.int a', .int b', .int c', .int d'])) = true := by kernel_rfl
open PySem.W PyProof.Rows in
theorem leD_tot : TotalLe leD := by
  have h := sortLe_total (listOrd itemOrd) false (fun b : D => keyToks (pyD b))
  exact ⟨h.trans, h.total⟩
theorem leD_total (x y : D) : leD x y = true ∨ leD y x = true := leD_tot.total x y
theorem leD_trans (x y z : D) (h : leD x y = true) (h2 : leD y z = true) : leD x z = true := leD_tot.trans x y z h h2
theorem sorted_pw (ps : List D) : (ps.mergeSort leD).Pairwise (fun a b => leD a b = true) := List.pairwise_mergeSort (fun a b c => leD_trans a b c) (fun a b => by
  rcases leD_total a b with h | h <;> simp [h]) ps
theorem sort4 {ps : List D} (h : ∀ p ∈ ps, P4 p) : sortD ps = some (.lst (ps.mergeSort leD)) := by
  unfold sortD
  rw [if_pos]
  have h1 : ps.all okD = true := List.all_eq_true.mpr fun p hp => by
    obtain ⟨a, b, c, d, rfl, _⟩ := h p hp; exact ok4 a b c d
  have h2 : alikeAllD ps = true := List.all_eq_true.mpr fun p hp => List.all_eq_true.mpr fun q hq => by
    obtain ⟨a, b, c, d, rfl, _⟩ := h p hp
    obtain ⟨a', b', c', d', rfl, _⟩ := h q hq
    exact al4 ..
  have h3 : sortableD ps = true := by
    unfold sortableD
    rw [Bool.or_eq_true]
    refine .inl (List.all_eq_true.mpr fun p hp => ?_)
    obtain ⟨a, b, c, d, rfl, _⟩ := h p hp
    rfl
  rw [h1, h2, h3]; rfl

def fl6 : List D := [.tup [.int 1, .int 1], .tup [.int 1, .int 2], .tup [.int 2, .int 1], .tup [.int 1, .int 3], .tup [.int 2, .int 2], .tup [.int 2, .int 2], .tup [.int 4, .int 1], .tup [.int 1, .int 4], .tup [.int 2, .int 2], .tup [.int 3, .int 2], .tup [.int 2, .int 3]]
def fl4 : List D := [.tup [.int 1, .int 1], .tup [.int 1, .int 2], .tup [.int 2, .int 1], .tup [.int 1, .int 3], .tup [.int 2, .int 2], .tup [.int 2, .int 2], .tup [.int 4, .int 1], .tup [.int 1, .int 4], .tup [.int 2, .int 2]]
def flM (most : Int) : List D := if most = 6 then fl6 else fl4
abbrev eFr : EM := (eLcG finF [8, 9] (iS (eL vTup (lC (eL vTup (lC (eC (.int 1)) (lC (eC (.int 1)) (lN)))) (lC (eL vTup (lC (eC (.int 1)) (lC (eC (.int 2)) (lN)))) (lC (eL vTup (lC (eC (.int 2)) (lC (eC (.int 1)) (lN)))) (lC (eL vTup (lC (eC (.int 1)) (lC (eC (.int 3)) (lN)))) (lC (eL vTup (lC (eC (.int 2)) (lC (eC (.int 2)) (lN)))) (lC (eL vTup (lC (eC (.int 2)) (lC (eC (.int 2)) (lN)))) (lC (eL vTup (lC (eC (.int 4)) (lC (eC (.int 1)) (lN)))) (lC (eL vTup (lC (eC (.int 1)) (lC (eC (.int 4)) (lN)))) (lC (eL vTup (lC (eC (.int 2)) (lC (eC (.int 2)) (lN)))) (lC (eL vTup (lC (eC (.int 3)) (lC (eC (.int 2)) (lN)))) (lC (eL vTup (lC (eC (.int 2)) (lC (eC (.int 3)) (lN)))) (lN)))))))))))))) (gT 2 (gsC (gN 8) (gsC (gN 9) (gs0)))) (e2 oLe (e2 oMulI (eV 8) (eV 9)) (eV 1)) (eL vTup (lC (eV 8) (lC (eV 9) (lN)))))
theorem frames_ev (n : Nat) (S : Store) {most : Int} (hm : most = 6 ∨ most = 4) : eFr [some (.h n), some (.d (.int most)), none, none, none, none, none, none, none, none, none] S = .ok (.d (.lst (flM most))) S := by
  rcases hm with rfl | rfl
  · show _ = RW.ok (.d (.lst fl6)) S
    kernel_rfl
  · show _ = RW.ok (.d (.lst fl4)) S
    kernel_rfl
theorem flM_mem {most : Int} (hm : most = 6 ∨ most = 4) {x : D} (h : x ∈ flM most) : ∃ r c : Int, x = .tup [.int r, .int c] ∧ IsFrame r c ∧ r * c ≤ most := by
  rcases hm with rfl | rfl
  · have h : x ∈ fl6 := h
    simp only [fl6, List.mem_cons, List.not_mem_nil, or_false] at h
    rcases h with rfl | rfl | rfl | rfl | rfl | rfl | rfl | rfl | rfl | rfl | rfl <;> exact ⟨_, _, rfl, by unfold IsFrame; decide, by decide⟩
  · have h : x ∈ fl4 := h
    simp only [fl4, List.mem_cons, List.not_mem_nil, or_false] at h
    rcases h with rfl | rfl | rfl | rfl | rfl | rfl | rfl | rfl | rfl <;> exact ⟨_, _, rfl, by unfold IsFrame; decide, by decide⟩
theorem frame_pos {r c : Int} (h : IsFrame r c) : 0 < r * c ∧ r * c ≤ 6 := by
  simp only [IsFrame, frames, List.mem_cons, List.not_mem_nil, or_false, Prod.mk.injEq] at h
  rcases h with ⟨rfl, rfl⟩ | ⟨rfl, rfl⟩ | ⟨rfl, rfl⟩ | ⟨rfl, rfl⟩ | ⟨rfl, rfl⟩ | ⟨rfl, rfl⟩ | ⟨rfl, rfl⟩ | ⟨rfl, rfl⟩ | ⟨rfl, rfl⟩ <;> decide
/-- the state within _law_puzzle -/
structure PzSt (S0 : Store) (n : Nat) (most r c : Int) (t : Bool) (ρ : DN.Env) (S : Store) : Prop where
  ex : ∃ (k : Nat) (ps ws : List D), ρ = [some (.h n), some (.d (.int most)), some (.d (.int r)), some (.d (.int c)), some (.d (.bl t)), some (.h k), none, none, none, none, none] ∧ St S0 n S ws ∧ S0.length ≤ k ∧ S[k]? = some (.lst ps) ∧ (ps.length : Int) = r * c ∧ ∀ p ∈ ps, P4 p
abbrev sP1 : SM := sA (eA (nArg 2 (vC m_l_law_of)) (lC (eV 0) (lC eFr (lN)))) (gT 2 (gsC (gN 2) (gsC (gN 3) (gs0))))
abbrev sP2 : SM := sPar [4, 5] (lC (e2 oEq (eA (nArg 2 (vC m_l_law_draw)) (lC (eV 0) (lC (eC (.int 2)) (lN)))) (eC (.int 1))) (lC (eA vListC (lC (eA (nArg 3 (vP (toP m_l_law_cut_pieces))) (lC (eV 2) (lC (eV 3) (lC (eA (nArg 4 (vC m_l_law_cut)) (lC (eV 0) (lC (eV 2) (lC (eV 3) (lC (eA (nArg 2 (vC m_l_law_of)) (lC (eV 0) (lC (eL vTup (lC (eC (.int 1)) (lC (eC (.int 1)) (lC (eC (.int 2)) (lC (eC (.int 3)) (lC (eC (.int 9)) (lN))))))) (lN)))) (lN)))))) (lN))))) (lN))) (lN)))
theorem p1_ok {S : Store} {n : Nat} {ws : List D} {most : Int} (hm : most = 6 ∨ most = 4) (h : S[n]? = some (.lst ws)) (p : Plain S) (w : WellOk ws) : ∃ (r c : Int) (S' : Store) (ws' : List D), IsFrame r c ∧ r * c ≤ most ∧ St S n S' ws' ∧
    sP1 [some (.h n), some (.d (.int most)), none, none, none, none, none, none, none, none, none] S = .nx [some (.h n), some (.d (.int most)), some (.d (.int r)), some (.d (.int c)), none, none, none, none, none, none, none] S' := by
  obtain ⟨x, ws', hx, w', e⟩ := (of_ok (some_ := .lst (flM most)) (ys := flM most) (.inr rfl) h p w (by rcases hm with rfl | rfl <;> decide) (by rcases hm with rfl | rfl <;> decide)).vC p
  obtain ⟨r, c, rfl, hf, hrc⟩ := flM_mem hm hx
  refine ⟨r, c, _, ws', hf, hrc, (St.start h p w).well w', ?_⟩
  have ef := frames_ev n S hm
  simp only [ev_sA, ev_A, ev_lC, ev_V, List.getElem?_cons_zero, ev_N, ef]
  simp [e]
theorem p2_ok {S0 S : Store} {n : Nat} {ws : List D} {most r c : Int} (hf : IsFrame r c) (s : St S0 n S ws) : ∃ (t : Bool) (ρ : DN.Env) (S' : Store), PzSt S0 n most r c t ρ S' ∧
    sP2 [some (.h n), some (.d (.int most)), some (.d (.int r)), some (.d (.int c)), none, none, none, none, none, none, none] S = .nx ρ S' := by
  obtain ⟨_, w1, ⟨f, rfl, f1, f2⟩, o1, e1⟩ := draw_g (many := 2) s.at_ s.pl s.ok (by decide) (by decide)
  have s1 := s.well o1
  obtain ⟨x, w2, hx, o2, e2'⟩ := (of_ok (some_ := .tup [.int 1, .int 1, .int 2, .int 3, .int 9]) (ys := [.int 1, .int 1, .int 2, .int 3, .int 9]) (.inl rfl) s1.at_ s1.pl s1.ok (by decide) (by decide)).vC s1.pl
  have s2 := s1.well o2
  have hx : ∃ m : Int, x = .int m ∧ 0 < m ∧ m ≤ 9 := by
    simp only [List.mem_cons, List.not_mem_nil, or_false] at hx
    rcases hx with rfl | rfl | rfl | rfl | rfl <;> exact ⟨_, rfl, by decide, by decide⟩
  obtain ⟨m, rfl, m1, m2⟩ := hx
  obtain ⟨_, w3, ⟨vs, rfl, hl, h9⟩, o3, e3⟩ := (cut_ok s2.at_ s2.pl s2.ok hf m1 m2).vC s2.pl
  have s3 := s2.well o3
  obtain ⟨ps, ep, hpl, hp⟩ := cut_pieces_ok hf hl h9
  simp only [List.set_set] at e2' e3 s3
  refine ⟨decide (f = 1), _, _, ⟨_, ps, w3, rfl, s3.add (xs := ps), s3.le, by simp, hpl, hp⟩, ?_⟩
  simp [sPar, e1, vTup, sizeLine_eq, e2', e3, ep, vListC, seqD]
end Mi

namespace Mi
open PySem PySem.Spec L2 DN
abbrev eTd : EM := eA (nArg 2 (vP (toP m_l_law_turned))) (lC (eV 10) (lC (eA (nArg 2 (vC m_l_law_draw)) (lC (eV 0) (lC (eC (.int 4)) (lN)))) (lN)))
abbrev sP3 : SM := sI (eTru (eV 4)) (sA (eLcG finC [10] (iS (eU vFz (eV 5))) (gN 10) (eYes) eTd) (gN 5)) (sP)
theorem frame_small {r c : Int} {ps : List D} (hf : IsFrame r c) (h : (ps.length : Int) = r * c) : ps.length ≤ 6 ∧ 0 < ps.length := by
  have := frame_pos hf
  omega
theorem p3_ok {S0 S : Store} {n : Nat} {most r c : Int} {t : Bool} {ρ : DN.Env} (hf : IsFrame r c) (s : PzSt S0 n most r c t ρ S) : ∃ (ρ' : DN.Env) (S' : Store), PzSt S0 n most r c t ρ' S' ∧ sP3 ρ S = .nx ρ' S' := by
  obtain ⟨k, ps, ws, rfl, st, hk, hc, hl, hp⟩ := s.ex
  cases t with
  | false => exact ⟨_, S, ⟨k, ps, ws, rfl, st, hk, hc, hl, hp⟩, by simp⟩
  | true =>
    have s1 : St S0 n (S.set k .dead) ws := st.put hk (.inr rfl)
    have hsz : ps.length ≤ sizeLine := Nat.le_trans (frame_small hf hl).1 (by rw [sizeLine_eq]; decide)
    obtain ⟨ys, ws', l2, r2, w2, e⟩ := lc_gives (n := n) (j := 10) (ρ := [some (.h n), some (.d (.int most)), some (.d (.int r)), some (.d (.int c)), some (.d (.bl true)), some (.h k), none, none, none, none, none]) (fin := finC) (R := P4) (e := eTd) ps [] (S.set k .dead) ws s1.at_ s1.pl s1.ok (fun x hx S ws h p w => by
      obtain ⟨a, b, c', d, rfl, h1, h2, h3, h4⟩ := hp x hx
      obtain ⟨_, x1, ⟨f, rfl, f1, f2⟩, w1, e1⟩ := draw_g (many := 4) h p w (by decide) (by decide)
      obtain ⟨a', b', c'', d', et, hm⟩ := turned_ok a b c' d f ⟨f1, f2⟩
      have h9 : ∀ x ∈ [a', b', c'', d'], In9 x := fun x hx => by
        have := hm x hx
        simp only [List.mem_cons, List.not_mem_nil, or_false] at this
        rcases this with rfl | rfl | rfl | rfl <;> assumption
      refine ⟨_, x1, ⟨a', b', c'', d', rfl, h9 _ (by simp), h9 _ (by simp), h9 _ (by simp), h9 _ (by simp)⟩, w1, ?_⟩
      simp [e1, et])
    have s2 := s1.well w2
    refine ⟨_, _, ⟨_, ys, ws', rfl, s2.add (xs := ys), s2.le, by simp, by rw [l2]; exact hl, r2⟩, ?_⟩
    have hcl := cellL_of hc
    simp [eLcG, iS, vFz, hcl, seqD, hsz, wipeE, e, finC]
abbrev eNw : EM := e2 oAdd (e2 oAdd (eSl (eO vIx (eV 5) (eV 6)) (pNone) (pSome (eV 7))) (eL vTup (lC (eA (nArg 2 (vC m_l_law_of)) (lC (eV 0) (lC (eL vTup (lC (eC (.int 0)) (lC (eC (.int 1)) (lC (e2 oSub (eC (.int 0)) (eC (.int 1))) (lC (eC (.int 2)) (lC (e2 oSub (eC (.int 0)) (eC (.int 9))) (lN))))))) (lN)))) (lN)))) (eSl (eO vIx (eV 5) (eV 6)) (pSome (e2 oAdd (eV 7) (eC (.int 1)))) (pNone))
abbrev sP4 : SM := sI (e2 oEq (eA (nArg 2 (vC m_l_law_draw)) (lC (eV 0) (lC (eC (.int 4)) (lN)))) (eC (.int 0))) (sQ (sPar [6, 7] (lC (eA (nArg 2 (vC m_l_law_draw)) (lC (eV 0) (lC (eA wLen (lC (eV 5) (lN))) (lN)))) (lC (eA (nArg 2 (vC m_l_law_draw)) (lC (eV 0) (lC (eC (.int 4)) (lN)))) (lN)))) (sA eNw (gX (eV 5) (eV 6)))) (sP)
theorem cut_side (a b c d g : Int) (h : 0 ≤ g ∧ g < 4) (v : Int) : ∃ (l m : List D), oSl (.tup [.int a, .int b, .int c, .int d]) none (some g) = some (.tup l) ∧ oSl (.tup [.int a, .int b, .int c, .int d]) (some (g + 1)) none = some (.tup m) ∧ ∃ a' b' c' d' : Int, l ++ [.int v] ++ m = [.int a', .int b', .int c', .int d'] ∧ ∀ x ∈ [a', b', c', d'], x ∈ [a, b, c, d, v] := by
  have : g = 0 ∨ g = 1 ∨ g = 2 ∨ g = 3 := by omega
  rcases this with rfl | rfl | rfl | rfl
  · exact ⟨[], [.int b, .int c, .int d], rfl, rfl, v, b, c, d, rfl, by simp⟩
  · exact ⟨[.int a], [.int c, .int d], rfl, rfl, a, v, c, d, rfl, by simp⟩
  · exact ⟨[.int a, .int b], [.int d], rfl, rfl, a, b, v, d, rfl, by simp⟩
  · exact ⟨[.int a, .int b, .int c], [], rfl, rfl, a, b, c, v, rfl, by simp⟩
theorem oAdd_tup (xs ys : List D) (h : xs.length + ys.length ≤ sizeLine) : oAdd (.tup xs) (.tup ys) = some (.tup (xs ++ ys)) := by
  unfold oAdd
  simp [h]
theorem oAdd_int (i j : Int) : oAdd (.int i) (.int j) = some (.int (i + j)) := rfl
theorem p4_ok {S0 S : Store} {n : Nat} {most r c : Int} {t : Bool} {ρ : DN.Env} (hf : IsFrame r c) (s : PzSt S0 n most r c t ρ S) : ∃ (k : Nat) (ps ws : List D) (o6 o7 : Option W) (S' : Store), St S0 n S' ws ∧ S0.length ≤ k ∧ S'[k]? = some (.lst ps) ∧ (ps.length : Int) = r * c ∧ (∀ p ∈ ps, P4 p) ∧
    sP4 ρ S = .nx [some (.h n), some (.d (.int most)), some (.d (.int r)), some (.d (.int c)), some (.d (.bl t)), some (.h k), o6, o7, none, none, none] S' := by
  obtain ⟨k, ps, ws, rfl, st, hk, hc, hl, hp⟩ := s.ex
  obtain ⟨_, w1, ⟨f, rfl, f1, f2⟩, o1, e1⟩ := draw_g (many := 4) st.at_ st.pl st.ok (by decide) (by decide)
  have s1 := st.well o1
  have hkn : k ≠ n := by have := st.lt; omega
  have hc1 : (S.set n (.lst w1))[k]? = some (.lst ps) := by rw [List.getElem?_set_ne (Ne.symm hkn)]; exact hc
  by_cases h0 : f = 0
  · subst h0
    obtain ⟨hs1, hs2⟩ := frame_small hf hl
    obtain ⟨_, w2, ⟨i, rfl, i1, i2⟩, o2, e2'⟩ := draw_g (many := (ps.length : Int)) s1.at_ s1.pl s1.ok (by omega) (by omega)
    have s2 := s1.well o2
    obtain ⟨_, w3, ⟨g, rfl, g1, g2⟩, o3, e3⟩ := draw_g (many := 4) s2.at_ s2.pl s2.ok (by decide) (by decide)
    have s3 := s2.well o3
    obtain ⟨v, w4, hv, o4, e4⟩ := (of_ok (some_ := .tup [.int 0, .int 1, .int (-1), .int 2, .int (-9)]) (ys := [.int 0, .int 1, .int (-1), .int 2, .int (-9)]) (.inl rfl) s3.at_ s3.pl s3.ok (by decide) (by decide)).vC s3.pl
    have s4 := s3.well o4
    have hv : ∃ m : Int, v = .int m ∧ In9 m := by
      simp only [List.mem_cons, List.not_mem_nil, or_false] at hv
      rcases hv with rfl | rfl | rfl | rfl | rfl <;> exact ⟨_, rfl, by unfold In9; decide⟩
    obtain ⟨m, rfl, m9⟩ := hv
    have hi : i.toNat < ps.length := by omega
    obtain ⟨a, b, c', d, epk, h1, h2, h3, h4⟩ := hp ps[i.toNat] (List.getElem_mem _)
    have hat : atI ps i = some (.tup [.int a, .int b, .int c', .int d]) := by
      unfold atI ixN
      rw [if_pos i1, if_pos i2]
      simp [List.getElem?_eq_getElem hi, epk]
    have hix : ixN ps.length i = some i.toNat := by unfold ixN; rw [if_pos i1, if_pos i2]
    obtain ⟨l, mm, el, em, a', b', c'', d', elm, hm⟩ := cut_side a b c' d g ⟨g1, g2⟩ m
    have hll : l.length + 1 + mm.length = 4 := by have := congrArg List.length elm; simp at this; omega
    have ead : oAdd (.tup l) (.tup [.int m]) = some (.tup (l ++ [.int m])) := oAdd_tup _ _ (by rw [sizeLine_eq]; simp; omega)
    have ead2 : oAdd (.tup (l ++ [.int m])) (.tup mm) = some (.tup [.int a', .int b', .int c'', .int d']) := by
      rw [oAdd_tup _ _ (by rw [sizeLine_eq]; simp; omega), elm]
    have h9 : ∀ x ∈ [a', b', c'', d'], In9 x := fun x hx => by
      have := hm x hx
      simp only [List.mem_cons, List.not_mem_nil, or_false] at this
      rcases this with rfl | rfl | rfl | rfl | rfl <;> assumption
    simp only [List.set_set] at e1 e2' e3 e4 s2 s3 s4
    have ck : ∀ w, cellL (S.set n (.lst w)) k = some ps := fun w => cellL_of (by rw [List.getElem?_set_ne (Ne.symm hkn)]; exact hc)
    refine ⟨k, ps.set i.toNat (.tup [.int a', .int b', .int c'', .int d']), w4, some (.d (.int i)), some (.d (.int g)), _, s4.put hk (.inl ⟨_, rfl⟩), hk, List.getElem?_set_self (by rw [List.length_set]; exact lt_of_cell hc), by rw [List.length_set]; exact hl, fun p hpp => ?_, ?_⟩
    · rcases List.mem_or_eq_of_mem_set hpp with z | z
      · exact hp p z
      · rw [z]; exact ⟨a', b', c'', d', rfl, h9 _ (by simp), h9 _ (by simp), h9 _ (by simp), h9 _ (by simp)⟩
    · simp [e1, sPar, wLen, ck, e2', e3, vIx, hat, eSl, pNone, pSome, el, vTup, sizeLine_eq, oSub, e4, ead, em, ead2, gX, hix, oAdd_int]
  · refine ⟨k, ps, w1, none, none, _, s1, hk, hc1, hl, hp, ?_⟩
    simp [e1, h0]

theorem puzzle_ok {S : Store} {n : Nat} {ws : List D} {most : Int} (hm : most = 6 ∨ most = 4) (h : S[n]? = some (.lst ws)) (p : Plain S) (w : WellOk ws) : Gives (vC m_l_law_puzzle [.h n, .d (.int most)] S) S n (Good most) := by
  obtain ⟨r, c, S1, w1, hf, hrc, s1, e1⟩ := p1_ok hm h p w
  obtain ⟨t, ρ2, S2, s2, e2'⟩ := p2_ok (most := most) hf s1
  obtain ⟨ρ3, S3, s3, e3⟩ := p3_ok hf s2
  obtain ⟨k, ps, w4, o6, o7, S4, s4, hk, hc, hl, hp, e4⟩ := p4_ok hf s3
  have hs := sort4 hp
  have hcl := cellL_of hc
  refine ⟨.tup [.int r, .int c, .tup (ps.mergeSort leD), .bl t], w4, ⟨r, c, _, t, rfl, hf, hrc, by rw [List.length_mergeSort]; exact hl, fun x hx => hp x ((List.mergeSort_perm ps leD).mem_iff.mp hx), sorted_pw ps⟩, s4.ok, ?_⟩
  have s5 : St S n (S4.set k .dead) w4 := s4.put hk (.inr rfl)
  have em : m_l_law_puzzle [.h n, .d (.int most)] S = .ok (.d (.tup [.int r, .int c, .tup (ps.mergeSort leD), .bl t])) (S4.set k .dead) := by
    have e0 : m_l_law_puzzle [.h n, .d (.int most)] S = (match (sQ sP1 (sQ sP2 (sQ sP3 (sQ sP4 (sR (eL vTup (lC (eV 2) (lC (eV 3) (lC (eL oTuple (lC (eL oSorted (lC (eU vFz (eV 5)) (lN))) (lN))) (lC (eV 4) (lN))))))))))) [some (.h n), some (.d (.int most)), none, none, none, none, none, none, none, none, none] S with
      | .nx _ S' => .ok (.d .non) S'
      | .rt w S' => .ok w S'
      | .exc _ c fs S' => .exc c fs S'
      | _ => .bad) := rfl
    rw [e0]
    rw [ev_sQ, e1]
    dsimp only
    rw [ev_sQ, e2']
    dsimp only
    rw [ev_sQ, e3]
    dsimp only
    rw [ev_sQ, e4]
    simp [vFz, hcl, oSorted, hs, oTuple, vTup, sizeLine_eq]
  unfold vC
  rw [em]
  exact s5.back p
end Mi

namespace Mi
open PySem PySem.Spec L2 DN
abbrev sWl : SM := sA (e2 oMod (eL oInt (lC (e2 oAdd (e2 oAdd (e2 oMulI (eV 3) (eC (.int 17851))) (e2 oMod (eL oInt (lC (eV 4) (lN))) (eC (.int 2147480369)))) (eC (.int 227))) (lN))) (eC (.int 2147481151))) (gN 3)
abbrev bWell (seed : Int) : SM := sQ (sA (eIf (e2 oLt (eV 1) (eA wLen (lC (eV 0) (lN)))) (eL oInt (lC (e2 oIx (eV 0) (eV 1)) (lN))) (eC (.int 0))) (gN 2)) (sQ (sA (e2 oAdd (eC (.int seed)) (e2 oMulI (eC (.int 449)) (eV 1))) (gN 3)) (sQ (sF (iS (e2 oAdd (eSl (eV 0) (pNone) (pSome (eC (.int 12)))) (eL vLst (lC (eV 2) (lN))))) (gN 4) sWl) (sR (eA vLstC (lC (eIf (eOr (e2 oLt (eV 2) (eC (.int 0))) (e2 oGe (eV 2) (e2 oPow (eC (.int 10)) (eC (.int 15))))) (e2 oMod (eL oAbs (lC (eV 2) (lN))) (e2 oPow (eC (.int 10)) (eC (.int 60)))) (eC (.int 0))) (lC (eV 3) (lC (eC (.int 0)) (lN))))))))
example : b_l_law_well_k83 = bWell 810737 := rfl
theorem well_loop (w0 w1 w2 : Option W) (S : Store) : ∀ (zs : List Int) (st : Int) (c4 : Option W), 0 ≤ st → st < 2147481151 → ∃ (st' : Int) (c4' : Option W), 0 ≤ st' ∧ st' < 2147481151 ∧ loopM (gN 4) sWl (zs.map D.int) [w0, w1, w2, some (.d (.int st)), c4] S = .nx [w0, w1, w2, some (.d (.int st')), c4'] S
  | [], st, c4, h1, h2 => ⟨st, c4, h1, h2, rfl⟩
  | z :: zs, st, c4, h1, h2 => by
    have hs : smallI st = true := small_of h1 (by omega)
    obtain ⟨st', c4', a, b, e⟩ := well_loop w0 w1 w2 S zs ((st * 17851 + z % 2147480369 + 227) % 2147481151) (some (.d (.int z))) (Int.emod_nonneg _ (by decide)) (Int.emod_lt_of_pos _ (by decide))
    refine ⟨st', c4', a, b, ?_⟩
    rw [List.map_cons, loopM]
    simp [oInt_i, oMulI, hs, oMod, oAdd_int, e]
theorem pow15 : oPow (.int 10) (.int 15) = some (.int 1000000000000000) := by rfl
theorem pow60 : oPow (.int 10) (.int 60) = some (.int 1000000000000000000000000000000000000000000000000000000000000) := by rfl
theorem cut_ints (ns : List Int) (lo hi : Option Int) : ∃ zs : List Int, cutD (ns.map D.int) lo hi = zs.map D.int ∧ zs.length ≤ ns.length := by
  unfold cutD
  rw [← List.map_drop, ← List.map_take]
  exact ⟨_, rfl, by rw [List.length_take, List.length_drop]; omega⟩
theorem bwell_ok (seed : Int) (h0 : 0 ≤ seed) (hs : seed < 1000000) (script : List Int) (lap : Nat) (hlap : lap < 3) (hl : script.length ≤ 63) (S : Store) : ∃ ws, WellOk ws ∧ mRun 5 (bWell seed) [.d (.lsk (script.map D.int)), .d (.int (lap : Int))] S = .ok (.h S.length) (S ++ [.lst ws]) := by
  obtain ⟨zs, ez, lz⟩ := cut_ints script none (some 12)
  have hown : ∃ own : Int, (eIf (e2 oLt (eV 1) (eA wLen (lC (eV 0) (lN)))) (eL oInt (lC (e2 oIx (eV 0) (eV 1)) (lN))) (eC (.int 0))) [some (.d (.lsk (script.map D.int))), some (.d (.int (lap : Int))), none, none, none] S = .ok (.d (.int own)) S := by
    by_cases h : lap < script.length
    · refine ⟨script[lap], ?_⟩
      have hi : atI (script.map D.int) (lap : Int) = some (.int script[lap]) := atI_nat (by simp [h])
      simp [wLen, lenD, oLt, h, oIx, hi, oInt_i]
    · refine ⟨0, ?_⟩
      have : ¬ ((lap : Int) < script.length) := by omega
      simp [wLen, lenD, oLt, this]
  obtain ⟨own, eo⟩ := hown
  obtain ⟨st, c4, a1, a2, el⟩ := well_loop (some (.d (.lsk (script.map D.int)))) (some (.d (.int (lap : Int)))) (some (.d (.int own))) S (zs ++ [own]) (seed + 449 * lap) none (by omega) (by omega)
  have eit : (iS (e2 oAdd (eSl (eV 0) (pNone) (pSome (eC (.int 12)))) (eL vLst (lC (eV 2) (lN))))) [some (.d (.lsk (script.map D.int))), some (.d (.int (lap : Int))), some (.d (.int own)), some (.d (.int (seed + 449 * lap))), none] S = .ok ((zs ++ [own]).map D.int) S := by
    have hh : (zs.map D.int).length + 1 ≤ sizeLine := by rw [sizeLine_eq, List.length_map]; omega
    have hh2 : zs.length + 1 ≤ 16777216 := by omega
    simp [iS, eSl, pNone, pSome, oSl, ez, vLst, sizeLine_eq, oAdd, hh2, seqD]
  have sm : smallI 449 = true := by decide
  have ew : ∃ a : Int, 0 ≤ a ∧ (eIf (eOr (e2 oLt (eV 2) (eC (.int 0))) (e2 oGe (eV 2) (e2 oPow (eC (.int 10)) (eC (.int 15))))) (e2 oMod (eL oAbs (lC (eV 2) (lN))) (e2 oPow (eC (.int 10)) (eC (.int 60)))) (eC (.int 0))) [some (.d (.lsk (script.map D.int))), some (.d (.int (lap : Int))), some (.d (.int own)), some (.d (.int st)), c4] S = .ok (.d (.int a)) S := by
    by_cases h1 : own < 0
    · exact ⟨_, Int.emod_nonneg (-own) (by decide : (1000000000000000000000000000000000000000000000000000000000000 : Int) ≠ 0), by simp [oLt, h1, oAbs, pow60, oMod]⟩
    · by_cases h2 : 1000000000000000 ≤ own
      · exact ⟨_, Int.emod_nonneg own (by decide : (1000000000000000000000000000000000000000000000000000000000000 : Int) ≠ 0), by simp [oLt, h1, oAbs, pow60, pow15, oGe, h2, oMod]⟩
      · exact ⟨0, by decide, by simp [oLt, h1, pow15, oGe, h2]⟩
  obtain ⟨aw, w1, w2⟩ := ew
  refine ⟨[.int aw, .int st, .int 0], ⟨aw, st, 0, rfl, w1, a1, a2, by decide⟩, ?_⟩
  have e0 : mRun 5 (bWell seed) [.d (.lsk (script.map D.int)), .d (.int (lap : Int))] S = (match bWell seed [some (.d (.lsk (script.map D.int))), some (.d (.int (lap : Int))), none, none, none] S with
      | .nx _ S' => .ok (.d .non) S'
      | .rt w S' => .ok w S'
      | .exc _ c fs S' => .exc c fs S'
      | _ => .bad) := rfl
  rw [e0]
  unfold bWell
  rw [ev_sQ, ev_sA, eo]
  simp only [ev_gN, List.set_cons_succ, List.set_cons_zero]
  rw [ev_sQ, ev_sA]
  simp only [ev_O, ev_C, ev_V, List.getElem?_cons_succ, List.getElem?_cons_zero, bind_o, v2_d, oMulI, sm, Bool.true_or, if_true, giveO_s, oAdd_int, ev_gN, List.set_cons_succ, List.set_cons_zero]
  rw [ev_sQ, ev_sF, eit]
  simp only [el]
  rw [ev_sR, ev_A, ev_lC, w2]
  simp [vLstC, sizeLine_eq]
end Mi

namespace Mi
open PySem PySem.Spec L2 DN
theorem oNeg_1 : oNeg (.int 1) = some (.int (-1)) := rfl
theorem is_whole_int' (i : Int) : toP m_is_whole [.int i] = .ok (.bl true) := rfl
theorem is_side_ok (x : D) (v : Int) (h : In9 v) : toP m_is_side [x, .int v] = .ok (.bl true) := by
  have e : toP m_is_between [.int v, .int (-9), .int 9] = .ok (.bl true) := by
    rw [is_between_int]
    have h1 : decide (-9 ≤ v) = true := decide_eq_true h.1
    have h2 : decide (v ≤ 9) = true := decide_eq_true h.2
    rw [h1, h2]; rfl
  have e9 : oNeg (.int 9) = some (.int (-9)) := rfl
  simp [m_is_side, b_is_side, e9, e]
/-! ### wrong_in -/
abbrev bWT (tab : Tab) : SM := sI (eOr (e2 oEq (eV 4) (eV 2)) (eNot (eCA tab 3 (lC (eSl (eV 0) (pNone) (pSome (eV 4))) (lC (eV 5) (lN)))))) (sR (eL vLst (lC (eV 4) (lN)))) (sP)
abbrev bWI (tab : Tab) : SM := sQ (sI (eOr (eNot (eU (vIsi .tuple) (eV 0))) (e2 oLt (eA wLen (lC (eV 0) (lN))) (eV 1))) (sR (eL vLst (lC (eC .non) (lN)))) (sP)) (sQ (sF (iEn (eV 0)) (gT 2 (gsC (gN 4) (gsC (gN 5) (gs0)))) (bWT tab)) (sR (eL vLst (lN))))
example : b_wrong_in_is_side = bWI (tabOf tab_wrong_in_is_side_is_right) := rfl
theorem enumD_mem {xs : List D} {e : D} (h : e ∈ enumD xs) : ∃ (i : Nat) (z : D), xs[i]? = some z ∧ e = .tup [.int (i : Nat), z] := by
  obtain ⟨i, hi, he⟩ := List.mem_iff_getElem.mp h
  have hi' : i < xs.length := by rw [enumD_len] at hi; exact hi
  have := enumD_get (List.getElem?_eq_getElem hi')
  rw [List.getElem?_eq_getElem hi] at this
  exact ⟨i, xs[i], List.getElem?_eq_getElem hi', by rw [← he]; exact Option.some.inj this⟩
theorem wi_loop {tab : Tab} {k : Nat} {f : PF} {xs : List D} {least most : Int} (ht : tab.lookup k = some (2, f)) (hm : most = xs.length) (h : ∀ (i : Nat) (z : D), xs[i]? = some z → f [.tup (cutD xs none (some (i : Int))), z] = .ok (.bl true)) :
    ∀ (es : List D) (o4 o5 : Option W), (∀ e ∈ es, ∃ (i : Nat) (z : D), xs[i]? = some z ∧ e = .tup [.int (i : Nat), z]) → ∃ o4' o5', loopM (gT 2 (gsC (gN 4) (gsC (gN 5) (gs0)))) (bWT tab) es [some (.d (.tup xs)), some (.d (.int least)), some (.d (.int most)), some (.d (.glo k)), o4, o5] [] = .nx [some (.d (.tup xs)), some (.d (.int least)), some (.d (.int most)), some (.d (.glo k)), o4', o5'] []
  | [], o4, o5, _ => ⟨o4, o5, rfl⟩
  | e :: es, o4, o5, he => by
    obtain ⟨i, z, hi, rfl⟩ := he e List.mem_cons_self
    obtain ⟨a, b, eq⟩ := wi_loop (least := least) ht hm h es (some (.d (.int (i : Nat)))) (some (.d z)) fun e hx => he e (List.mem_cons_of_mem _ hx)
    refine ⟨a, b, ?_⟩
    have hlt := (List.getElem?_eq_some_iff.mp hi).1
    have hne : ¬ ((i : Int) = most) := by omega
    rw [loopM]
    simp [hne, eCA, ht, eSl, pNone, pSome, oSl, h i z hi, eq]
theorem wi_ok {tab : Tab} {k : Nat} {f : PF} {xs : List D} {least most : Int} (ht : tab.lookup k = some (2, f)) (hl : least ≤ xs.length) (hm : most = xs.length) (h : ∀ (i : Nat) (z : D), xs[i]? = some z → f [.tup (cutD xs none (some (i : Int))), z] = .ok (.bl true)) :
    toP (mRun 6 (bWI tab)) [.tup xs, .int least, .int most, .glo k] = .ok (.lst []) := by
  obtain ⟨a, b, e⟩ := wi_loop (least := least) ht hm h (enumD xs) none none fun e he => enumD_mem he
  have hnl : ¬ ((xs.length : Int) < least) := by omega
  have e' := e
  rw [toP_run]
  unfold bWI
  simp [vIsi, isT, wLen, lenD, oLt, hnl, iEn, seqD, e', vLst, sizeLine_eq]
theorem is_piece_ok {p : D} (h : P4 p) : toP m_is_piece [p] = .ok (.bl true) := by
  obtain ⟨a, b, c, d, rfl, h1, h2, h3, h4⟩ := h
  have hw : toP m_wrong_in_is_side [.tup [.int a, .int b, .int c, .int d], .int 4, .int 4, .glo 423] = .ok (.lst []) := by
    refine wi_ok (tab := tabOf tab_wrong_in_is_side_is_right) (k := 423) (f := toP m_is_side) rfl (by simp) (by simp) fun i z hz => ?_
    match i, hz with
    | 0, hz => simp at hz; subst hz; exact is_side_ok _ _ h1
    | 1, hz => simp at hz; subst hz; exact is_side_ok _ _ h2
    | 2, hz => simp at hz; subst hz; exact is_side_ok _ _ h3
    | 3, hz => simp at hz; subst hz; exact is_side_ok _ _ h4
    | n + 4, hz => simp at hz
  have he : oEq (.lst []) (.lst []) = some (.bl true) := by kernel_rfl
  have ha : toP m_are_all_is_side [.tup [.int a, .int b, .int c, .int d], .int 4, .int 4, .glo 423] = .ok (.bl true) := by
    simp [m_are_all_is_side, b_are_all_is_side, hw, vLst, sizeLine_eq, he]
  simp [m_is_piece, b_is_piece, wLen, lenD, ha]
/-! ### tuples of pieces are data that == takes -/
theorem canLay_L : ∀ {xs : List D}, (∀ x ∈ xs, (pyD x).canLay0 = true) → PyData.canLayAll0 (pyL xs) = true
  | [], _ => rfl
  | x :: xs, h => by
    rw [pyL, PyData.canLayAll0, h x List.mem_cons_self, canLay_L fun y hy => h y (List.mem_cons_of_mem _ hy)]; rfl
theorem depth_L {n : Nat} : ∀ {xs : List D}, (∀ x ∈ xs, (pyD x).depth ≤ n) → PyData.depthAll (pyL xs) ≤ n
  | [], _ => Nat.zero_le _
  | x :: xs, h => by
    rw [pyL, PyData.depthAll]
    exact Nat.max_le.mpr ⟨h x List.mem_cons_self, depth_L fun y hy => h y (List.mem_cons_of_mem _ hy)⟩
theorem p4_lay {p : D} (h : P4 p) : (pyD p).canLay0 = true ∧ (pyD p).depth ≤ 3 := by
  obtain ⟨a, b, c, d, rfl, _⟩ := h
  exact ⟨by kernel_rfl, by
    have : (pyD (.tup [.int a, .int b, .int c, .int d])).depth = (pyD (.tup [.int 0, .int 0, .int 0, .int 0])).depth := by kernel_rfl
    rw [this]; decide +kernel⟩
theorem okP {ps : List D} (h : ∀ p ∈ ps, P4 p) : okD (.tup ps) = true := by
  unfold okD SeqAt.shaped
  rw [pyD, Bool.and_eq_true]
  refine ⟨canLay_L fun x hx => (p4_lay (h x hx)).1, ?_⟩
  have := depth_L (n := 3) fun x hx => (p4_lay (h x hx)).2
  refine decide_eq_true ?_
  rw [PyData.depth]
  omega

theorem oLe_p4 {q p : D} (hq : P4 q) (hp : P4 p) (h : leD q p = true) : oLe q p = some (.bl true) := by
  obtain ⟨a, b, c, d, rfl, _⟩ := hq
  obtain ⟨a', b', c', d', rfl, _⟩ := hp
  unfold oLe
  dsimp only
  rw [ok4, ok4, al4]
  simp only [Bool.and_self, if_true]
  exact congrArg (fun k => some (D.bl k)) h
theorem eqv_nil {x : D} {xs : List D} : PyData.eqv (pyD (.tup (x :: xs))) (pyD (.tup [])) = false := by
  rw [pyD, pyD, pyL, pyL]
  simp [PyData.eqv, PyData.eqvAll]
theorem next_ok {ps : List D} (h : ∀ p ∈ ps, P4 p) (hs : ps.Pairwise (fun a b => leD a b = true)) (i : Nat) (z : D) (hi : ps[i]? = some z) : toP m_is_next_piece [.tup (cutD ps none (some (i : Int))), z] = .ok (.bl true) := by
  have hlt := (List.getElem?_eq_some_iff.mp hi).1
  have hz : P4 z := h z (List.mem_of_getElem? hi)
  have hc : cutD ps none (some (i : Int)) = ps.take i := by
    unfold cutD
    rw [HT.sIx_none, HT.sIx_nat]
    simp [Nat.min_eq_left (Nat.le_of_lt hlt)]
  rw [hc]
  have hpz := is_piece_ok hz
  have he : okD (.tup []) = true := by kernel_rfl
  cases i with
  | zero =>
    have e0 : oEq (.tup []) (.tup []) = some (.bl true) := by kernel_rfl
    simp [m_is_next_piece, b_is_next_piece, hpz, vTup, sizeLine_eq, e0]
  | succ i =>
    have hq : ps[i]? = some (ps[i]'(by omega)) := List.getElem?_eq_getElem _
    have htk : ps.take (i + 1) = ps.take i ++ [ps[i]'(by omega)] := by rw [List.take_add_one, hq]; rfl
    have hal : ∀ x ∈ ps.take (i + 1), P4 x := fun x hx => h x (List.mem_of_mem_take hx)
    have e0 : oEq (.tup (ps.take (i + 1))) (.tup []) = some (.bl false) := by
      unfold oEq
      rw [okP hal, he]
      simp only [Bool.and_self, if_true]
      rw [htk]
      cases hx : ps.take i with
      | nil => rw [List.nil_append, eqv_nil]
      | cons y ys => rw [List.cons_append, eqv_nil]
    have hix : oIx (.tup (ps.take (i + 1))) (.int (-1)) = some (ps[i]'(by omega)) := by
      show atI _ _ = _
      rw [htk]; exact atI_last _ _
    have hz' : z = ps[i + 1] := by
      rw [List.getElem?_eq_getElem hlt] at hi; exact (Option.some.inj hi).symm
    have hle : leD (ps[i]'(by omega)) z = true := by
      rw [hz']; exact List.pairwise_iff_getElem.mp hs i (i + 1) (by omega) hlt (by omega)
    have hl := oLe_p4 (h _ (List.getElem_mem (by omega : i < ps.length))) hz hle
    simp [m_is_next_piece, b_is_next_piece, hpz, vTup, sizeLine_eq, e0, oNeg_1, hix, hl]
/-! ### a puzzle of good parts -/
theorem frame_bounds {r c : Int} (h : IsFrame r c) : 1 ≤ r ∧ r ≤ 6 ∧ 1 ≤ c ∧ c ≤ 6 ∧ r * c ≤ 6 := by
  simp only [IsFrame, frames, List.mem_cons, List.not_mem_nil, or_false, Prod.mk.injEq] at h
  rcases h with ⟨rfl, rfl⟩ | ⟨rfl, rfl⟩ | ⟨rfl, rfl⟩ | ⟨rfl, rfl⟩ | ⟨rfl, rfl⟩ | ⟨rfl, rfl⟩ | ⟨rfl, rfl⟩ | ⟨rfl, rfl⟩ | ⟨rfl, rfl⟩ <;> decide
theorem check_frame_ok {r c : Int} (h : 1 ≤ r ∧ r ≤ 6 ∧ 1 ≤ c ∧ c ≤ 6 ∧ r * c ≤ 6) : toP m_check_frame [.int r, .int c] = .ok .non := by
  obtain ⟨h1, h2, h3, h4, h5⟩ := h
  have b1 : toP m_is_between [.int r, .int 1, .int 6] = .ok (.bl true) := by rw [is_between_int]; simp [h1, h2]
  have b2 : toP m_is_between [.int c, .int 1, .int 6] = .ok (.bl true) := by rw [is_between_int]; simp [h3, h4]
  have r1 : toP m_check_rows [.int r] = .ok .non := by simp [m_check_rows, b_check_rows, b1]
  have hs : smallI r = true := small_of (by omega) (by omega)
  have hg : ¬ (6 < r * c) := by omega
  have r2 : toP m_check_columns [.int r, .int c] = .ok .non := by simp [m_check_columns, b_check_columns, b2, oMulI, hs, oGt, hg]
  simp [m_check_frame, b_check_frame, r1, r2]
theorem wrong_piece_ok {ps : List D} {k : Int} (hk : (ps.length : Int) = k) (h : ∀ p ∈ ps, P4 p) (hs : ps.Pairwise (fun a b => leD a b = true)) : toP m_wrong_piece [.tup ps, .int k] = .ok (.lst []) := by
  have hw : toP m_wrong_in_is_next_piece [.tup ps, .int k, .int k, .glo 404] = .ok (.lst []) :=
    wi_ok (tab := tabOf tab_wrong_in_is_next_piece_is_right) (k := 404) (f := toP m_is_next_piece) rfl (by omega) hk.symm fun i z hz => next_ok h hs i z hz
  have hne : oNe (.int (ps.length : Int)) (.int k) = some (.bl false) := by
    have := oEq_int (ps.length : Int) k
    unfold oEq at this
    unfold oNe
    rw [if_pos (by rfl)] at this ⊢
    have e : PyData.eqv (pyD (.int (ps.length : Int))) (pyD (.int k)) = decide ((ps.length : Int) = k) := by
      have := Option.some.inj this
      injection this
    rw [e, hk]; simp
  simp [m_wrong_piece, b_wrong_piece, vIsi, isT, wLen, lenD, hne, hw]
theorem n_01 : ¬ (Str.ofString "rows" = Str.ofString "columns") := by decide
theorem n_02 : ¬ (Str.ofString "rows" = Str.ofString "pieces") := by decide
theorem n_03 : ¬ (Str.ofString "rows" = Str.ofString "turning") := by decide
theorem n_04 : ¬ (Str.ofString "rows" = Str.ofString "parts") := by decide
theorem n_12 : ¬ (Str.ofString "columns" = Str.ofString "pieces") := by decide
theorem n_13 : ¬ (Str.ofString "columns" = Str.ofString "turning") := by decide
theorem n_14 : ¬ (Str.ofString "columns" = Str.ofString "parts") := by decide
theorem n_23 : ¬ (Str.ofString "pieces" = Str.ofString "turning") := by decide
theorem n_24 : ¬ (Str.ofString "pieces" = Str.ofString "parts") := by decide
theorem n_34 : ¬ (Str.ofString "turning" = Str.ofString "parts") := by decide
theorem init_ok {r c : Int} {ps : List D} {t : Bool} (hb : 1 ≤ r ∧ r ≤ 6 ∧ 1 ≤ c ∧ c ≤ 6 ∧ r * c ≤ 6) (hl : (ps.length : Int) = r * c) (hp : ∀ p ∈ ps, P4 p) (hs : ps.Pairwise (fun a b => leD a b = true)) :
    mkD 86 fl_Puzzle m_Puzzle_init [.int r, .int c, .tup ps, .bl t] = .ok (.ins 86 [.int r, .int c, .tup ps, .bl t, .tup [.int r, .int c, .tup ps, .bl t]]) := by
  have e1 := check_frame_ok hb
  have e2' := wrong_piece_ok hl hp hs
  have e3 : toP m_check_turning [.bl t] = .ok .non := by cases t <;> rfl
  have sm : smallI r = true := small_of (by omega) (by omega)
  unfold mkD
  simp [m_Puzzle_init, mRun, b_Puzzle_init, e1, oMulI, sm, e2', iS, seqD, loopM, e3, sFl, putW, vTup, sizeLine_eq, fl_Puzzle, datsF, n_01, n_02, n_03, n_04, n_12, n_13, n_14, n_23, n_24, n_34]
end Mi

namespace Mi
open PySem PySem.Spec L2 DN
/-- the parts, the puzzle -/
abbrev pt (r c : Int) (ps : List D) (t : Bool) : D := .tup [.int r, .int c, .tup ps, .bl t]
abbrev pz (r c : Int) (ps : List D) (t : Bool) : D := .ins 86 [.int r, .int c, .tup ps, .bl t, pt r c ps t]
theorem i4_0 (a b c d : D) : oIx (.tup [a, b, c, d]) (.int 0) = some a := rfl
theorem i4_1 (a b c d : D) : oIx (.tup [a, b, c, d]) (.int 1) = some b := rfl
theorem i4_2 (a b c d : D) : oIx (.tup [a, b, c, d]) (.int 2) = some c := rfl
theorem i4_3 (a b c d : D) : oIx (.tup [a, b, c, d]) (.int 3) = some d := rfl
structure GoodP (r c : Int) (ps : List D) : Prop where
  b : 1 ≤ r ∧ r ≤ 6 ∧ 1 ≤ c ∧ c ≤ 6 ∧ r * c ≤ 6
  l : (ps.length : Int) = r * c
  p : ∀ p ∈ ps, P4 p
  s : ps.Pairwise (fun a b => leD a b = true)
theorem made_ok {r c : Int} {ps : List D} {t : Bool} (g : GoodP r c ps) : toP m_l_law_made [pt r c ps t] = .ok (pz r c ps t) := by
  have e := init_ok (t := t) g.b g.l g.p g.s
  simp [m_l_law_made, b_l_law_made, i4_0, i4_1, i4_2, i4_3, e]
theorem good_of {most : Int} {x : D} (h : Good most x) : ∃ (r c : Int) (ps : List D) (t : Bool), x = pt r c ps t ∧ GoodP r c ps := by
  obtain ⟨r, c, ps, t, rfl, hf, _, hl, hp, hs⟩ := h
  exact ⟨r, c, ps, t, rfl, frame_bounds hf, hl, hp, hs⟩
/-! ### texts of numbers -/
abbrev sI9 (v : Int) : Str := toString v
theorem n9 {v : Int} (h : In9 v) : v = -9 ∨ v = -8 ∨ v = -7 ∨ v = -6 ∨ v = -5 ∨ v = -4 ∨ v = -3 ∨ v = -2 ∨ v = -1 ∨ v = 0 ∨ v = 1 ∨ v = 2 ∨ v = 3 ∨ v = 4 ∨ v = 5 ∨ v = 6 ∨ v = 7 ∨ v = 8 ∨ v = 9 := by
  unfold In9 at h; omega
theorem oStr9 {v : Int} (h : In9 v) : oStr [.int v] = some (.str (sI9 v)) ∧ (sI9 v).length ≤ 2 ∧ oInt [.str (sI9 v)] = some (.int v) ∧ toP m_is_number [.str (sI9 v)] = .ok (.bl true) ∧ 32 ∉ TL.tl (sI9 v) := by
  rcases n9 h with rfl | rfl | rfl | rfl | rfl | rfl | rfl | rfl | rfl | rfl | rfl | rfl | rfl | rfl | rfl | rfl | rfl | rfl | rfl <;> exact ⟨by kernel_rfl, by decide +kernel, by kernel_rfl, by kernel_rfl, by decide +kernel⟩
theorem fig6 {v : Int} (h : 1 ≤ v ∧ v ≤ 6) : toP m_are_figures [.str (sI9 v)] = .ok (.bl true) := by
  have : v = 1 ∨ v = 2 ∨ v = 3 ∨ v = 4 ∨ v = 5 ∨ v = 6 := by omega
  rcases this with rfl | rfl | rfl | rfl | rfl | rfl <;> kernel_rfl

/-! ### the lines -/
def sp : Str := " "
def pieceLine (a b c d : Int) : Str := Txt.join " " ["piece", sI9 a, sI9 b, sI9 c, sI9 d]
def wordT (t : Bool) : Str := if t then "turning" else "fixed"
def frameLine (r c : Int) (t : Bool) : Str := Txt.join " " ["frame", sI9 r, sI9 c, wordT t]
theorem piece_law (a b c d : Str) : ("piece " : Str) ++ Txt.join " " [a, b, c, d] = Txt.join " " ["piece", a, b, c, d] := by
  refine TL.ext_tl ?_
  have h : TL.tl ("piece " : Str) = TL.tl ("piece" : Str) ++ TL.tl (" " : Str) := by decide +kernel
  rw [TL.tl_append, TL.join_eq, TL.join_eq, TL.tl_join, TL.tl_join, h]
  simp [TL.joinL]
theorem frame_law (a b c : Str) : ("frame " : Str) ++ a ++ " " ++ b ++ " " ++ c = Txt.join " " ["frame", a, b, c] := by
  refine TL.ext_tl ?_
  have h : TL.tl ("frame " : Str) = TL.tl ("frame" : Str) ++ TL.tl (" " : Str) := by decide +kernel
  simp only [TL.tl_append]
  rw [TL.join_eq, TL.tl_join, h]
  simp [TL.joinL]
def pl : D → D
  | .tup [.int a, .int b, .int c, .int d] => .str (pieceLine a b c d)
  | _ => .non
def textD (r c : Int) (ps : List D) (t : Bool) : D := .tup (.str (frameLine r c t) :: ps.map pl)
theorem in9_of {v : Int} (h : 1 ≤ v ∧ v ≤ 6) : In9 v := ⟨by omega, by omega⟩
theorem oAdd_str (x y : Str) (h : x.length + y.length ≤ sizeLine) : oAdd (.str x) (.str y) = some (.str (x ++ y)) := by
  unfold oAdd; simp [h]
theorem oAdd_lst (xs ys : List D) (h : xs.length + ys.length ≤ sizeLine) : oAdd (.lst xs) (.lst ys) = some (.lst (xs ++ ys)) := by
  unfold oAdd; simp [h]
theorem join4 (x a b c d : Str) (hx : x.length ≤ 100) (ha : a.length ≤ 100) (hb : b.length ≤ 100) (hc : c.length ≤ 100) (hd : d.length ≤ 100) : oJoin (.str x) [.lst [.str a, .str b, .str c, .str d]] = some (.str (Txt.join x [a, b, c, d])) := by
  unfold oJoin
  simp only [strsD, Option.map_some, List.map_cons, List.map_nil, List.sum_cons, List.sum_nil, List.length_cons, List.length_nil]
  rw [if_pos (by omega)]
theorem join5 (x e a b c d : Str) (hx : x.length ≤ 100) (he : e.length ≤ 100) (ha : a.length ≤ 100) (hb : b.length ≤ 100) (hc : c.length ≤ 100) (hd : d.length ≤ 100) : oJoin (.str x) [.lst [.str e, .str a, .str b, .str c, .str d]] = some (.str (Txt.join x [e, a, b, c, d])) := by
  unfold oJoin
  simp only [strsD, Option.map_some, List.map_cons, List.map_nil, List.sum_cons, List.sum_nil, List.length_cons, List.length_nil]
  rw [if_pos (by omega)]
theorem len_sp : (" " : Str).length = 1 := by decide +kernel
theorem len_piece : ("piece" : Str).length = 5 := by decide +kernel
theorem len_frame : ("frame" : Str).length = 5 := by decide +kernel
theorem len_word (t : Bool) : (wordT t).length ≤ 7 := by cases t <;> decide +kernel
theorem rows_ok {r c : Int} {ps : List D} {t : Bool} (g : GoodP r c ps) : toP m_puzzle_rows [pz r c ps t] = .ok (textD r c ps t) := by
  obtain ⟨r1, r2, c1, c2, rc⟩ := g.b
  obtain ⟨er, lr, _⟩ := oStr9 (in9_of ⟨r1, r2⟩)
  obtain ⟨ec, lc, _⟩ := oStr9 (in9_of ⟨c1, c2⟩)
  have hps : ps.length ≤ sizeLine := by rw [sizeLine_eq]; have := g.l; omega
  have hcp : toP m_check_puzzle [pz r c ps t] = .ok .non := rfl
  have f1 : lookF "rows" fl_Puzzle [.int r, .int c, .tup ps, .bl t, pt r c ps t] = some (.int r) := by kernel_rfl
  have f2 : lookF "columns" fl_Puzzle [.int r, .int c, .tup ps, .bl t, pt r c ps t] = some (.int c) := by kernel_rfl
  have f3 : lookF "pieces" fl_Puzzle [.int r, .int c, .tup ps, .bl t, pt r c ps t] = some (.tup ps) := by kernel_rfl
  have f4 : lookF "turning" fl_Puzzle [.int r, .int c, .tup ps, .bl t, pt r c ps t] = some (.bl t) := by kernel_rfl
  have ej : oJoin (.str " ") [.lst [.str "frame", .str (sI9 r), .str (sI9 c), .str (wordT t)]] = some (.str (frameLine r c t)) := join4 " " "frame" (sI9 r) (sI9 c) (wordT t) (by rw [len_sp]; decide) (by rw [len_frame]; decide) (by omega) (by omega) (by have := len_word t; omega)
  have hm : ∀ x ∈ ps, (eBM chkS (vM oJoin) (eC (.str " ")) (lC (e2 oAdd (eL vLst (lC (eC (.str "piece")) (lN))) (eLcG finF [4] (iS (eV 3)) (gN 4) (eYes) (eL oStr (lC (eV 4) (lN))))) (lN))) ([some (.d (pz r c ps t)), some (.d (.str (wordT t))), some (.d (.str (frameLine r c t))), none, none].set 3 (some (.d x))) [] = .ok (.d (pl x)) [] := fun x hx => by
    obtain ⟨a, b, c', d, rfl, h1, h2, h3, h4⟩ := g.p x hx
    obtain ⟨ea, la, _⟩ := oStr9 h1
    obtain ⟨eb, lb, _⟩ := oStr9 h2
    obtain ⟨ec', lc', _⟩ := oStr9 h3
    obtain ⟨ed, ld, _⟩ := oStr9 h4
    have e5 := join5 " " "piece" (sI9 a) (sI9 b) (sI9 c') (sI9 d) (by rw [len_sp]; decide) (by rw [len_piece]; decide) (by omega) (by omega) (by omega) (by omega)
    simp [eLcG, iS, seqD, sizeLine_eq, wipeE, lcM, eYes, ea, eb, ec', ed, finF, vLst, oAdd_lst, e5, chkS, pl, pieceLine]
  have em := lc_map (fin := finF) (j := 3) (f := pl) ps [] hm
  have hps' : ps.length ≤ 16777216 := by have := g.l; omega
  have hl3 : 1 + ps.length ≤ 16777216 := by have := g.l; omega
  have hl2 : 1 + (ps.map pl).length ≤ sizeLine := by rw [sizeLine_eq, List.length_map]; have := g.l; omega
  have ew : eIf (eTru (eU (vFld 86 fl_Puzzle "turning") (eV 0))) (eC (.str "turning")) (eC (.str "fixed")) [some (.d (pz r c ps t)), none, none, none, none] [] = .ok (.d (.str (wordT t))) [] := by
    cases t <;> simp [vFld, f4, wordT]
  have ehead : toP m_puzzle_rows [pz r c ps t] = (match b_puzzle_rows [some (.d (pz r c ps t)), none, none, none, none] [] with | .nx _ _ => .ok .non | .rt (.d x) _ => .ok x | .exc _ c fs _ => .exc c fs | _ => .bad) := toP_run 5 b_puzzle_rows [pz r c ps t]
  rw [ehead]
  unfold b_puzzle_rows
  rw [ev_sQ]
  simp only [ev_sE, ev_A, ev_lC, ev_V, List.getElem?_cons_zero, ev_N, bindL_o, nArg_e, List.length_cons, List.length_nil, if_true, vP_e, dats_d, dats_0, Option.map_some, hcp]
  rw [ev_sQ, ev_sA, ew]
  simp only [ev_gN, List.set_cons_succ, List.set_cons_zero]
  simp [vFld, f1, f2, f3, er, ec, vLst, sizeLine_eq, ej, chkS, vTup, eLcG, iS, seqD, hps', wipeE, em, finF, oTuple, oAdd, hl3, textD]
end Mi

namespace Mi
open PySem PySem.Spec L2 DN
theorem len_join4 (x a b c d : Str) : (Txt.join x [a, b, c, d]).length = a.length + b.length + c.length + d.length + 3 * x.length := by
  have h : ∀ z : Str, z.length = (TL.tl z).length := fun z => by simp [TL.tl, Str.length]
  rw [h, TL.join_eq, TL.tl_join]
  simp only [List.map_cons, List.map_nil, TL.joinL, List.length_append, ← h]
  omega
theorem len_app (x y : Str) : (x ++ y).length = x.length + y.length := by
  have h : ∀ z : Str, z.length = (TL.tl z).length := fun z => by simp [TL.tl, Str.length]
  rw [h, TL.tl_append, List.length_append, ← h, ← h]
theorem len_pieceS : ("piece " : Str).length = 6 := by decide +kernel
theorem len_frameS : ("frame " : Str).length = 6 := by decide +kernel
theorem text_ok {r c : Int} {ps : List D} {t : Bool} (g : GoodP r c ps) : toP m_l_law_text [pt r c ps t] = .ok (textD r c ps t) := by
  obtain ⟨r1, r2, c1, c2, rc⟩ := g.b
  obtain ⟨er, lr, _⟩ := oStr9 (in9_of ⟨r1, r2⟩)
  obtain ⟨ec, lc, _⟩ := oStr9 (in9_of ⟨c1, c2⟩)
  have hps' : ps.length ≤ 16777216 := by have := g.l; omega
  have hl3 : 1 + ps.length ≤ 16777216 := by have := g.l; omega
  have lw := len_word t
  have hm : ∀ x ∈ ps, (e2 oAdd (eC (.str "piece ")) (eBM chkS (vM oJoin) (eC (.str " ")) (lC (eLcG finF [2] (iS (eV 1)) (gN 2) (eYes) (eL oStr (lC (eV 2) (lN)))) (lN)))) ([some (.d (pt r c ps t)), none, none].set 1 (some (.d x))) [] = .ok (.d (pl x)) [] := fun x hx => by
    obtain ⟨a, b, c', d, rfl, h1, h2, h3, h4⟩ := g.p x hx
    obtain ⟨ea, la, _⟩ := oStr9 h1
    obtain ⟨eb, lb, _⟩ := oStr9 h2
    obtain ⟨ec', lc', _⟩ := oStr9 h3
    obtain ⟨ed, ld, _⟩ := oStr9 h4
    have e4 := join4 " " (sI9 a) (sI9 b) (sI9 c') (sI9 d) (by rw [len_sp]; decide) (by omega) (by omega) (by omega) (by omega)
    have e6 : oAdd (.str "piece ") (.str (Txt.join " " [sI9 a, sI9 b, sI9 c', sI9 d])) = some (.str (pieceLine a b c' d)) := by
      rw [oAdd_str _ _ (by rw [sizeLine_eq, len_join4, len_pieceS, len_sp]; omega), piece_law]; rfl
    simp [eLcG, iS, seqD, sizeLine_eq, wipeE, lcM, eYes, ea, eb, ec', ed, finF, chkS, e4, e6, pl]
  have em := lc_map (fin := finF) (j := 1) (f := pl) ps [] hm
  have ew : eIf (eTru (e2 oIx (eV 0) (eC (.int 3)))) (eC (.str "turning")) (eC (.str "fixed")) [some (.d (pt r c ps t)), none, none] [] = .ok (.d (.str (wordT t))) [] := by
    cases t <;> simp [i4_3, wordT]
  have a1 : oAdd (.str "frame ") (.str (sI9 r)) = some (.str ("frame " ++ sI9 r)) := oAdd_str _ _ (by rw [sizeLine_eq, len_frameS]; omega)
  have a2 : oAdd (.str ("frame " ++ sI9 r)) (.str " ") = some (.str ("frame " ++ sI9 r ++ " ")) := oAdd_str _ _ (by simp only [len_app]; rw [sizeLine_eq, len_frameS, len_sp]; omega)
  have a3 : oAdd (.str ("frame " ++ sI9 r ++ " ")) (.str (sI9 c)) = some (.str ("frame " ++ sI9 r ++ " " ++ sI9 c)) := oAdd_str _ _ (by simp only [len_app]; rw [sizeLine_eq, len_frameS, len_sp]; omega)
  have a4 : oAdd (.str ("frame " ++ sI9 r ++ " " ++ sI9 c)) (.str " ") = some (.str ("frame " ++ sI9 r ++ " " ++ sI9 c ++ " ")) := oAdd_str _ _ (by simp only [len_app]; rw [sizeLine_eq, len_frameS, len_sp]; omega)
  have a5 : oAdd (.str ("frame " ++ sI9 r ++ " " ++ sI9 c ++ " ")) (.str (wordT t)) = some (.str (frameLine r c t)) := by
    rw [oAdd_str _ _ (by simp only [len_app]; rw [sizeLine_eq, len_frameS, len_sp]; omega), frame_law]; rfl
  have ehead : toP m_l_law_text [pt r c ps t] = (match b_l_law_text [some (.d (pt r c ps t)), none, none] [] with | .nx _ _ => .ok .non | .rt (.d x) _ => .ok x | .exc _ c fs _ => .exc c fs | _ => .bad) := toP_run 3 b_l_law_text [pt r c ps t]
  rw [ehead]
  unfold b_l_law_text
  cases t <;> simp only [wordT, Bool.false_eq_true, if_true, if_false] at a5 <;> simp [i4_0, i4_1, i4_2, i4_3, er, ec, a1, a2, a3, a4, a5, vTup, sizeLine_eq, eLcG, iS, seqD, hps', wipeE, em, finF, oTuple, oAdd_tup, hl3, textD]
end Mi

namespace Mi
open PySem PySem.Spec L2 DN
theorem tl_sp : TL.tl (" " : Str) = [32] := by decide +kernel
theorem split_sp {parts : List Str} (hne : parts ≠ []) (hp : ∀ p ∈ parts, 32 ∉ TL.tl p) : Txt.split (Txt.join " " parts) " " = parts := TL.split_join tl_sp (by decide +kernel) hne hp
theorem oSplit_j {parts : List Str} (hne : parts ≠ []) (hp : ∀ p ∈ parts, 32 ∉ TL.tl p) (hl : (Txt.join " " parts).length + 2 ≤ sizeLine) : oSplit (.str (Txt.join " " parts)) [.str " "] = some (.lst (parts.map .str)) := by
  unfold oSplit
  dsimp only
  have h1 : ((" " : Str).length != 0) = true := by rw [len_sp]; rfl
  rw [h1, decide_eq_true hl, split_sp hne hp]
  rfl
theorem len_join5 (x e a b c d : Str) : (Txt.join x [e, a, b, c, d]).length = e.length + a.length + b.length + c.length + d.length + 4 * x.length := by
  have h : ∀ z : Str, z.length = (TL.tl z).length := fun z => by simp [TL.tl, Str.length]
  rw [h, TL.join_eq, TL.tl_join]
  simp only [List.map_cons, List.map_nil, TL.joinL, List.length_append, ← h]
  omega
theorem no32_piece : 32 ∉ TL.tl ("piece" : Str) := by decide +kernel
theorem no32_frame : 32 ∉ TL.tl ("frame" : Str) := by decide +kernel
theorem no32_word (t : Bool) : 32 ∉ TL.tl (wordT t) := by cases t <;> decide +kernel
theorem split_piece {a b c d : Int} (h1 : In9 a) (h2 : In9 b) (h3 : In9 c) (h4 : In9 d) : oSplit (.str (pieceLine a b c d)) [.str " "] = some (.lst [.str "piece", .str (sI9 a), .str (sI9 b), .str (sI9 c), .str (sI9 d)]) := by
  obtain ⟨_, la, _, _, na⟩ := oStr9 h1
  obtain ⟨_, lb, _, _, nb⟩ := oStr9 h2
  obtain ⟨_, lc, _, _, nc⟩ := oStr9 h3
  obtain ⟨_, ld, _, _, nd⟩ := oStr9 h4
  refine oSplit_j (by simp) (fun p hp => ?_) (by rw [len_join5, len_piece, len_sp, sizeLine_eq]; omega)
  simp only [List.mem_cons, List.not_mem_nil, or_false] at hp
  rcases hp with rfl | rfl | rfl | rfl | rfl
  · exact no32_piece
  · exact na
  · exact nb
  · exact nc
  · exact nd
theorem split_frame {r c : Int} {t : Bool} (h1 : 1 ≤ r ∧ r ≤ 6) (h2 : 1 ≤ c ∧ c ≤ 6) : oSplit (.str (frameLine r c t)) [.str " "] = some (.lst [.str "frame", .str (sI9 r), .str (sI9 c), .str (wordT t)]) := by
  obtain ⟨_, la, _, _, na⟩ := oStr9 (in9_of h1)
  obtain ⟨_, lb, _, _, nb⟩ := oStr9 (in9_of h2)
  have lw := len_word t
  refine oSplit_j (by simp) (fun p hp => ?_) (by rw [len_join4, len_frame, len_sp, sizeLine_eq]; omega)
  simp only [List.mem_cons, List.not_mem_nil, or_false] at hp
  rcases hp with rfl | rfl | rfl | rfl
  · exact no32_frame
  · exact na
  · exact nb
  · exact no32_word t
theorem eq_ps : oEq (.str "piece") (.str "piece") = some (.bl true) := by kernel_rfl
theorem ne_fr : oNe (.str "frame") (.str "frame") = some (.bl false) := by kernel_rfl
theorem in_word (t : Bool) : oIn (.str (wordT t)) (.tup [.str "turning", .str "fixed"]) = some (.bl true) := by cases t <;> kernel_rfl
theorem eq_word (t : Bool) : oEq (.str (wordT t)) (.str "turning") = some (.bl t) := by cases t <;> kernel_rfl
theorem ne4 : oNe (.int 4) (.int 4) = some (.bl false) := by kernel_rfl
theorem l4_0 (a b c d : D) : oIx (.lst [a, b, c, d]) (.int 0) = some a := rfl
theorem l4_1 (a b c d : D) : oIx (.lst [a, b, c, d]) (.int 1) = some b := rfl
theorem l4_2 (a b c d : D) : oIx (.lst [a, b, c, d]) (.int 2) = some c := rfl
theorem l4_3 (a b c d : D) : oIx (.lst [a, b, c, d]) (.int 3) = some d := rfl
theorem l5_0 (a b c d e : D) : oIx (.lst [a, b, c, d, e]) (.int 0) = some a := rfl
theorem s5_1 (a b c d e : D) : oSl (.lst [a, b, c, d, e]) (some 1) none = some (.lst [b, c, d, e]) := rfl
theorem frame_line_ok {r c : Int} {t : Bool} (h1 : 1 ≤ r ∧ r ≤ 6) (h2 : 1 ≤ c ∧ c ≤ 6) : toP m_is_line [.int 0, .str (frameLine r c t)] = .ok (.bl true) := by
  have e1 := fig6 h1
  have e2' := fig6 h2
  have es := split_frame (t := t) h1 h2
  have e : toP m_is_frame_line [.lst [.str "frame", .str (sI9 r), .str (sI9 c), .str (wordT t)]] = .ok (.bl true) := by
    simp [m_is_frame_line, b_is_frame_line, wLen, lenD, ne4, l4_0, l4_1, l4_2, l4_3, ne_fr, e1, e2', vTup, sizeLine_eq, in_word]
  simp [m_is_line, b_is_line, vIsi, isT, es, chkS, e]
theorem piece_line_ok {a b c d : Int} (h1 : In9 a) (h2 : In9 b) (h3 : In9 c) (h4 : In9 d) (i : Nat) : toP m_is_line [.int ((i + 1 : Nat) : Int), .str (pieceLine a b c d)] = .ok (.bl true) := by
  obtain ⟨_, _, _, na, _⟩ := oStr9 h1
  obtain ⟨_, _, _, nb, _⟩ := oStr9 h2
  obtain ⟨_, _, _, nc, _⟩ := oStr9 h3
  obtain ⟨_, _, _, nd, _⟩ := oStr9 h4
  have es := split_piece h1 h2 h3 h4
  have e : toP m_is_piece_line [.lst [.str "piece", .str (sI9 a), .str (sI9 b), .str (sI9 c), .str (sI9 d)]] = .ok (.bl true) := by
    simp [m_is_piece_line, b_is_piece_line, wLen, lenD, l5_0, eq_ps, eSl, pSome, pNone, s5_1, eLcG, iS, seqD, sizeLine_eq, wipeE, lcM, eYes, na, nb, nc, nd, finF, oAll, blsD]
  have hne : ¬ (((i + 1 : Nat) : Int) = 0) := by omega
  have hne' : ¬ ((i : Int) + 1 = 0) := by omega
  simp [m_is_line, b_is_line, vIsi, isT, es, chkS, e, hne, hne']
end Mi

namespace Mi
open PySem PySem.Spec L2 DN
theorem strOk_of {x : Str} (h : ∀ c ∈ TL.tl x, c < 0x110000) : PyData.strOk x = true := by
  unfold PyData.strOk
  rw [← Array.all_toList]
  exact List.all_eq_true.mpr fun c hc => decide_eq_true (h c hc)
theorem of_strOk {x : Str} (h : PyData.strOk x = true) : ∀ c ∈ TL.tl x, c < 0x110000 := by
  unfold PyData.strOk at h
  rw [← Array.all_toList] at h
  exact fun c hc => of_decide_eq_true (List.all_eq_true.mp h c hc)
theorem joinL_mem {S : List Nat} {c : Nat} : ∀ {ps : List (List Nat)}, c ∈ TL.joinL S ps → c ∈ S ∨ ∃ p ∈ ps, c ∈ p
  | [], h => by simp [TL.joinL] at h
  | [p], h => .inr ⟨p, by simp, h⟩
  | p :: q :: r, h => by
    rw [TL.joinL] at h
    rcases List.mem_append.mp h with h | h
    · exact .inr ⟨p, by simp, h⟩
    · rcases List.mem_append.mp h with h | h
      · exact .inl h
      · rcases joinL_mem h with h | ⟨z, hz, h⟩
        · exact .inl h
        · exact .inr ⟨z, List.mem_cons_of_mem _ hz, h⟩
theorem strOk_join {parts : List Str} (h : ∀ p ∈ parts, PyData.strOk p = true) : PyData.strOk (Txt.join " " parts) = true := strOk_of fun c hc => by
  rw [TL.join_eq, TL.tl_join] at hc
  rcases joinL_mem hc with h1 | ⟨z, hz, h1⟩
  · rw [tl_sp] at h1
    have : c = 32 := by simpa using h1
    omega
  · obtain ⟨p, hp, rfl⟩ := List.mem_map.mp hz
    exact of_strOk (h p hp) c h1
theorem ok9 {v : Int} (h : In9 v) : PyData.strOk (sI9 v) = true := by
  rcases n9 h with rfl | rfl | rfl | rfl | rfl | rfl | rfl | rfl | rfl | rfl | rfl | rfl | rfl | rfl | rfl | rfl | rfl | rfl | rfl <;> decide +kernel
theorem ok_pieceLine {a b c d : Int} (h1 : In9 a) (h2 : In9 b) (h3 : In9 c) (h4 : In9 d) : PyData.strOk (pieceLine a b c d) = true := strOk_join fun p hp => by
  simp only [List.mem_cons, List.not_mem_nil, or_false] at hp
  rcases hp with rfl | rfl | rfl | rfl | rfl
  · decide +kernel
  · exact ok9 h1
  · exact ok9 h2
  · exact ok9 h3
  · exact ok9 h4
theorem ok_frameLine {r c : Int} {t : Bool} (h1 : 1 ≤ r ∧ r ≤ 6) (h2 : 1 ≤ c ∧ c ≤ 6) : PyData.strOk (frameLine r c t) = true := strOk_join fun p hp => by
  simp only [List.mem_cons, List.not_mem_nil, or_false] at hp
  rcases hp with rfl | rfl | rfl | rfl
  · decide +kernel
  · exact ok9 (in9_of h1)
  · exact ok9 (in9_of h2)
  · cases t <;> decide +kernel
/-- tuples of texts are data that == takes -/
theorem okS {xs : List D} (h : ∀ x ∈ xs, ∃ z, x = .str z ∧ PyData.strOk z = true) : okD (.tup xs) = true := by
  unfold okD SeqAt.shaped
  rw [pyD, Bool.and_eq_true]
  refine ⟨canLay_L fun x hx => ?_, ?_⟩
  · obtain ⟨z, rfl, hz⟩ := h x hx
    rw [pyD]; exact hz
  · have := depth_L (n := 3) (xs := xs) fun x hx => by
      obtain ⟨z, rfl, _⟩ := h x hx
      rw [pyD]; exact Nat.zero_le _
    refine decide_eq_true ?_
    rw [PyData.depth]
    omega
theorem text_strs {r c : Int} {ps : List D} {t : Bool} (g : GoodP r c ps) : ∀ x ∈ (.str (frameLine r c t) :: ps.map pl : List D), ∃ z, x = .str z ∧ PyData.strOk z = true := fun x hx => by
  rcases List.mem_cons.mp hx with rfl | hx
  · exact ⟨_, rfl, ok_frameLine ⟨g.b.1, g.b.2.1⟩ ⟨g.b.2.2.1, g.b.2.2.2.1⟩⟩
  · obtain ⟨p, hp, rfl⟩ := List.mem_map.mp hx
    obtain ⟨a, b, c', d, rfl, h1, h2, h3, h4⟩ := g.p p hp
    exact ⟨_, rfl, ok_pieceLine h1 h2 h3 h4⟩
abbrev bLn : SM := sI (eNot (eA (nArg 2 (vP (toP (m_is_line)))) (lC (eV 1) (lC (eV 2) (lN))))) (sR (eL vLst (lC (eV 1) (lN)))) (sP)
theorem wl_loop {v : W} : ∀ (es : List D) (o1 o2 : Option W), (∀ e ∈ es, ∃ (i : Nat) (z : D), e = .tup [.int (i : Nat), z] ∧ toP m_is_line [.int (i : Nat), z] = .ok (.bl true)) → ∃ o1' o2', loopM (gT 2 (gsC (gN 1) (gsC (gN 2) (gs0)))) bLn es [some v, o1, o2] [] = .nx [some v, o1', o2'] []
  | [], o1, o2, _ => ⟨o1, o2, rfl⟩
  | e :: es, o1, o2, he => by
    obtain ⟨i, z, rfl, hz⟩ := he e List.mem_cons_self
    obtain ⟨a, b, eq⟩ := wl_loop (v := v) es (some (.d (.int (i : Nat)))) (some (.d z)) fun e hx => he e (List.mem_cons_of_mem _ hx)
    refine ⟨a, b, ?_⟩
    rw [loopM]
    simp [hz, eq]
theorem wrong_line_ok {r c : Int} {ps : List D} {t : Bool} (g : GoodP r c ps) : toP m_wrong_line [textD r c ps t] = .ok (.lst []) := by
  have e0 : oEq (textD r c ps t) (.tup []) = some (.bl false) := by
    unfold oEq textD
    rw [okS (text_strs g), show okD (.tup []) = true by kernel_rfl]
    simp only [Bool.and_self, if_true]
    rw [eqv_nil]
  obtain ⟨a, b, e⟩ := wl_loop (v := .d (textD r c ps t)) (enumD (.str (frameLine r c t) :: ps.map pl)) none none fun e he => by
    obtain ⟨i, z, hi, rfl⟩ := enumD_mem he
    refine ⟨i, z, rfl, ?_⟩
    cases i with
    | zero =>
      have : z = .str (frameLine r c t) := by simpa using hi.symm
      subst this
      exact frame_line_ok ⟨g.b.1, g.b.2.1⟩ ⟨g.b.2.2.1, g.b.2.2.2.1⟩
    | succ i =>
      have hi : (ps.map pl)[i]? = some z := by simpa using hi
      obtain ⟨p, hp, rfl⟩ := List.mem_map.mp (List.mem_of_getElem? hi)
      obtain ⟨a, b, c', d, rfl, h1, h2, h3, h4⟩ := g.p p hp
      exact piece_line_ok h1 h2 h3 h4 i
  have e' := e
  unfold textD at e0 e' ⊢
  simp [m_wrong_line, b_wrong_line, vIsi, isT, vTup, sizeLine_eq, e0, iEn, seqD, e', vLst]
end Mi

namespace Mi
open PySem PySem.Spec L2 DN
theorem sl_tail (x : D) (xs : List D) : oSl (.tup (x :: xs)) (some 1) none = some (.tup xs) := by
  show some (D.tup (cutD (x :: xs) (some 1) none)) = _
  have h1 : HT.sIx (x :: xs).length 0 (some 1) = 1 := by
    have := HT.sIx_nat (x :: xs).length 0 1
    rw [show (some (1 : Int)) = some ((1 : Nat) : Int) from rfl, this]
    simp
  unfold cutD
  rw [h1, HT.sIx_none]
  simp
theorem unpl (p : D) (h : P4 p) : ∃ z : Str, pl p = .str z := by
  obtain ⟨a, b, c, d, rfl, _⟩ := h
  exact ⟨_, rfl⟩
theorem pieces_in_ok {r c : Int} {ps : List D} {t : Bool} (g : GoodP r c ps) : toP m_pieces_in [textD r c ps t] = .ok (.tup ps) := by
  have hps' : ps.length ≤ 16777216 := by have := g.l; have := g.b; omega
  -- each line gives its piece
  have hm : ∀ (xs acc : List D), (∀ p ∈ xs, P4 p) → lcM finF (gN 1) eYes (eL oTuple (lC (eLcG finF [2] (iS (eSl (eBM chkS (vM oSplit) (eV 1) (lC (eC (.str " ")) (lN))) (pSome (eC (.int 1))) (pNone))) (gN 2) (eYes) (eL oInt (lC (eV 2) (lN)))) (lN))) [some (.d (textD r c ps t)), none, none] (xs.map pl) acc [] = finF (acc ++ xs) [] := by
    intro xs
    induction xs with
    | nil => intro acc _; simp [lcM]
    | cons x xs ih =>
      intro acc hx
      obtain ⟨a, b, c', d, rfl, h1, h2, h3, h4⟩ := hx x List.mem_cons_self
      have es := split_piece h1 h2 h3 h4
      obtain ⟨_, _, ia, _⟩ := oStr9 h1
      obtain ⟨_, _, ib, _⟩ := oStr9 h2
      obtain ⟨_, _, ic, _⟩ := oStr9 h3
      obtain ⟨_, _, id', _⟩ := oStr9 h4
      have ih' := ih (acc ++ [.tup [.int a, .int b, .int c', .int d]]) fun p hp => hx p (List.mem_cons_of_mem _ hp)
      rw [List.map_cons, lcM]
      simp [eYes, pl, chkS, es, eSl, pSome, pNone, s5_1, eLcG, iS, seqD, sizeLine_eq, wipeE, lcM, ia, ib, ic, id', finF, oTuple]
      simpa [finF] using ih'
  have hm' := hm ps [] g.p
  unfold textD at hm' ⊢
  simp [m_pieces_in, b_pieces_in, eSl, pSome, pNone, sl_tail, eLcG, iS, seqD, sizeLine_eq, hps', wipeE, hm', finF, oTuple]
theorem ix_head (x : D) (xs : List D) : oIx (.tup (x :: xs)) (.int 0) = some x := by
  show atI (x :: xs) 0 = _
  exact atI_nat (j := 0) rfl
theorem read_ok {r c : Int} {ps : List D} {t : Bool} (g : GoodP r c ps) : toP m_read_puzzle [textD r c ps t] = .ok (pz r c ps t) := by
  have e1 := wrong_line_ok (t := t) g
  have e2' := pieces_in_ok (t := t) g
  have e3 := split_frame (t := t) ⟨g.b.1, g.b.2.1⟩ ⟨g.b.2.2.1, g.b.2.2.2.1⟩
  obtain ⟨_, _, ir, _⟩ := oStr9 (in9_of ⟨g.b.1, g.b.2.1⟩)
  obtain ⟨_, _, ic, _⟩ := oStr9 (in9_of ⟨g.b.2.2.1, g.b.2.2.2.1⟩)
  have e4 := init_ok (t := t) g.b g.l g.p g.s
  have ehead : toP m_read_puzzle [textD r c ps t] = (match b_read_puzzle [some (.d (textD r c ps t)), none, none] [] with | .nx _ _ => .ok .non | .rt (.d x) _ => .ok x | .exc _ c fs _ => .exc c fs | _ => .bad) := toP_run 3 b_read_puzzle [textD r c ps t]
  rw [ehead]
  unfold b_read_puzzle
  have ei : oIx (textD r c ps t) (.int 0) = some (.str (frameLine r c t)) := ix_head _ _
  simp [iS, e1, seqD, loopM, ei, chkS, e3, l4_1, l4_2, l4_3, ir, ic, e2', eq_word, e4]
end Mi

namespace Mi
open PySem PySem.Spec L2 DN
/-- plain values, at most so deep -/
inductive Nice : Nat → D → Prop
  | non {n} : Nice (n + 1) .non
  | bl {n} (b : Bool) : Nice (n + 1) (.bl b)
  | int {n} (i : Int) : Nice (n + 1) (.int i)
  | str {n} (x : Str) (h : PyData.strOk x = true) : Nice (n + 1) (.str x)
  | tup {n} (xs : List D) (hl : xs.length ≤ 16777216) (h : ∀ x ∈ xs, Nice n x) : Nice (n + 1) (.tup xs)
  | lst {n} (xs : List D) (hl : xs.length ≤ 16777216) (h : ∀ x ∈ xs, Nice n x) : Nice (n + 1) (.lst xs)
theorem bls_true : ∀ {α : Type} (l : List α), oAll [.lst (l.map fun _ => .bl true)] = some (.bl true) := fun {α} l => by
  have : blsD (l.map fun _ => D.bl true) = some (l.map fun _ => true) := by
    induction l with
    | nil => rfl
    | cons x l ih => simp [blsD, ih]
  show Option.map (fun bs => D.bl (bs.all id)) (blsD (l.map fun _ => D.bl true)) = _
  rw [this]
  simp
theorem rng_mem {n : Nat} {x : D} (h : x ∈ rangeD 0 n) : ∃ i : Nat, i < n ∧ x = .int (i : Int) := by
  unfold rangeD at h
  obtain ⟨i, hi, rfl⟩ := List.mem_map.mp h
  exact ⟨i, List.mem_range.mp hi, by simp⟩
abbrev eSm (mr : List W → Store → RW) : EM := eLcG finF [3] (iR1 (eA wLen (lC (eV 1) (lN)))) (gN 3) (eYes) (eA (nArg 2 (vP (toP mr))) (lC (e2 oIx (eV 0) (eV 3)) (lC (e2 oIx (eV 1) (eV 3)) (lN))))
theorem okR_nat {n : Nat} (h : n ≤ 16777216) : okR (n : Int) = true := by
  unfold okR
  have h1 : (-(2 ^ 62) : Int) ≤ (n : Int) := by
    have : (0 : Int) ≤ 2 ^ 62 := by decide
    omega
  have h2 : (n : Int) < 2 ^ 62 := by
    have : (2 ^ 62 : Int) = 4611686018427387904 := by decide
    omega
  rw [decide_eq_true h1, decide_eq_true h2]; rfl
theorem same_in {mr : List W → Store → RW} {xs : List D} {D0 : List D → D} (hD : D0 = D.tup ∨ D0 = D.lst) (hl : xs.length ≤ 16777216) (h : ∀ x ∈ xs, toP mr [x, x] = .ok (.bl true)) (o2 : Option W) : eSm mr [some (.d (D0 xs)), some (.d (D0 xs)), o2, none] [] = .ok (.d (.lst ((rangeD 0 xs.length).map fun _ => .bl true))) [] := by
  have hw : wLen [.d (D0 xs)] [] = .ok (.d (.int xs.length)) [] := by rcases hD with rfl | rfl <;> rfl
  have hr : (rangeD 0 xs.length).length ≤ sizeLine := by rw [rangeD_len, sizeLine_eq]; exact hl
  have hm : ∀ x ∈ rangeD 0 xs.length, (eA (nArg 2 (vP (toP mr))) (lC (e2 oIx (eV 0) (eV 3)) (lC (e2 oIx (eV 1) (eV 3)) (lN)))) ([some (.d (D0 xs)), some (.d (D0 xs)), o2, none].set 3 (some (.d x))) [] = .ok (.d (.bl true)) [] := fun x hx => by
    obtain ⟨i, hi, rfl⟩ := rng_mem hx
    have hix : oIx (D0 xs) (.int (i : Int)) = some xs[i] := by
      rcases hD with rfl | rfl
      · exact atI_nat (List.getElem?_eq_getElem hi)
      · exact atI_nat (List.getElem?_eq_getElem hi)
    simp [hix, h xs[i] (List.getElem_mem hi)]
  have em := lc_map (fin := finF) (j := 3) (f := fun _ => .bl true) (rangeD 0 xs.length) [] hm
  simp [eLcG, iR1, hw, okR_nat hl, hr, wipeE, em, finF]
theorem eq_str {x : Str} (h : PyData.strOk x = true) : oEq (.str x) (.str x) = some (.bl true) := by
  have ho : okD (.str x) = true := by
    unfold okD SeqAt.shaped
    rw [pyD, PyData.canLay0, h]; rfl
  unfold oEq
  rw [ho]
  simp [pyD, PyData.eqv]
theorem eq_bl (b : Bool) : oEq (.bl b) (.bl b) = some (.bl true) := by cases b <;> kernel_rfl
theorem eq_len (n : Nat) : oEq (.int (n : Int)) (.int (n : Int)) = some (.bl true) := by rw [oEq_int]; simp
abbrev ρ2 (x : D) : DN.Env := [some (.d x), some (.d x), none, none]
theorem same_run (mr : List W → Store → RW) (x : D) : toP (mRun 4 (b_l_law_same_k79 mr)) [x, x] = (match b_l_law_same_k79 mr (ρ2 x) [] with | .nx _ _ => .ok .non | .rt (.d x) _ => .ok x | .exc _ c fs _ => .exc c fs | _ => .bad) := toP_run 4 (b_l_law_same_k79 mr) [x, x]
theorem same_seq (mr : List W → Store → RW) {xs : List D} {D0 : List D → D} (hD : D0 = D.tup ∨ D0 = D.lst) (hl : xs.length ≤ 16777216) (h : ∀ x ∈ xs, toP mr [x, x] = .ok (.bl true)) : toP (mRun 4 (b_l_law_same_k79 mr)) [D0 xs, D0 xs] = .ok (.bl true) := by
  have ih := same_in (mr := mr) hD hl h (some (.d (.bl true)))
  have hb := bls_true (rangeD 0 xs.length)
  have hw : wLen [.d (D0 xs)] [] = .ok (.d (.int xs.length)) [] := by rcases hD with rfl | rfl <;> rfl
  have c1 : eOr (eU (vIsi .tuple) (eV 1)) (eU (vIsi .list) (eV 1)) (ρ2 (D0 xs)) [] = .ok (.d (.bl true)) [] := by rcases hD with rfl | rfl <;> rfl
  have c2 : eIf (eU (vIsi .tuple) (eV 1)) (eU (vIsi .tuple) (eV 0)) (eU (vIsi .list) (eV 0)) (ρ2 (D0 xs)) [] = .ok (.d (.bl true)) [] := by rcases hD with rfl | rfl <;> rfl
  have c3 : (eAnd (eV 2) (eAnd (e2 oEq (eA wLen (lC (eV 0) (lN))) (eA wLen (lC (eV 1) (lN)))) (eL oAll (lC (eSm mr) (lN))))) [some (.d (D0 xs)), some (.d (D0 xs)), some (.d (.bl true)), none] [] = .ok (.d (.bl true)) [] := by
    have e1 : (e2 oEq (eA wLen (lC (eV 0) (lN))) (eA wLen (lC (eV 1) (lN)))) [some (.d (D0 xs)), some (.d (D0 xs)), some (.d (.bl true)), none] [] = .ok (.d (.bl true)) [] := by
      simp [hw]
    have e3 : (eL oAll (lC (eSm mr) (lN))) [some (.d (D0 xs)), some (.d (D0 xs)), some (.d (.bl true)), none] [] = .ok (.d (.bl true)) [] := by
      show eA (vL oAll) (lC (eSm mr) lN) _ _ = _
      rw [ev_A, ev_lC, ih]
      simp [hb]
    rw [ev_and, ev_V]
    simp only [List.getElem?_cons_succ, List.getElem?_cons_zero, bind_o]
    rw [ev_and, e1]
    simp only [bind_o]
    exact e3
  rw [same_run]
  unfold b_l_law_same_k79
  rw [ev_sQ, ev_sI, c1]
  dsimp only
  rw [ev_sQ, ev_sA, c2]
  simp only [ev_gN, List.set_cons_succ, List.set_cons_zero]
  rw [ev_sR]
  unfold eSm at c3
  rw [c3]
theorem same_flat (mr : List W → Store → RW) {x : D} (hx : x = .non ∨ (∃ b, x = .bl b) ∨ (∃ i, x = .int i) ∨ ∃ z, x = .str z ∧ PyData.strOk z = true) : toP (mRun 4 (b_l_law_same_k79 mr)) [x, x] = .ok (.bl true) := by
  rw [same_run]
  unfold b_l_law_same_k79
  rcases hx with rfl | ⟨b, rfl⟩ | ⟨i, rfl⟩ | ⟨z, rfl, hz⟩
  · rfl
  · cases b <;> kernel_rfl
  · have e : oEq (.int i) (.int i) = some (.bl true) := by rw [oEq_int]; simp
    have c1 : eOr (eU (vIsi .tuple) (eV 1)) (eU (vIsi .list) (eV 1)) (ρ2 (.int i)) [] = .ok (.d (.bl false)) [] := rfl
    have c2 : e2 oIsN (eV 1) (eC .non) (ρ2 (.int i)) [] = .ok (.d (.bl false)) [] := rfl
    have c3 : eU (vIsi .bool) (eV 1) (ρ2 (.int i)) [] = .ok (.d (.bl false)) [] := rfl
    have c4 : eU (vIsi .int) (eV 1) (ρ2 (.int i)) [] = .ok (.d (.bl true)) [] := rfl
    have c5 : (eAnd (eU (vIsi .int) (eV 0)) (eAnd (eNot (eU (vIsi .bool) (eV 0))) (e2 oEq (eV 0) (eV 1)))) (ρ2 (.int i)) [] = .ok (.d (.bl true)) [] := by
      show (e2 oEq (eV 0) (eV 1)) (ρ2 (.int i)) [] = _
      simp [e]
    rw [ev_sQ, ev_sI, c1]
    dsimp only
    rw [ev_sP]
    dsimp only
    rw [ev_sQ, ev_sI, c2]
    dsimp only
    rw [ev_sP]
    dsimp only
    rw [ev_sQ, ev_sI, c3]
    dsimp only
    rw [ev_sP]
    dsimp only
    rw [ev_sQ, ev_sI, c4]
    dsimp only
    rw [ev_sR, c5]
  · have e := eq_str hz
    have c1 : eOr (eU (vIsi .tuple) (eV 1)) (eU (vIsi .list) (eV 1)) (ρ2 (.str z)) [] = .ok (.d (.bl false)) [] := rfl
    have c2 : e2 oIsN (eV 1) (eC .non) (ρ2 (.str z)) [] = .ok (.d (.bl false)) [] := rfl
    have c3 : eU (vIsi .bool) (eV 1) (ρ2 (.str z)) [] = .ok (.d (.bl false)) [] := rfl
    have c4 : eU (vIsi .int) (eV 1) (ρ2 (.str z)) [] = .ok (.d (.bl false)) [] := rfl
    have c5 : (eAnd (eU (vIsi .str) (eV 1)) (eAnd (eU (vIsi .str) (eV 0)) (e2 oEq (eV 0) (eV 1)))) (ρ2 (.str z)) [] = .ok (.d (.bl true)) [] := by
      show (e2 oEq (eV 0) (eV 1)) (ρ2 (.str z)) [] = _
      simp [e]
    rw [ev_sQ, ev_sI, c1]
    dsimp only
    rw [ev_sP]
    dsimp only
    rw [ev_sQ, ev_sI, c2]
    dsimp only
    rw [ev_sP]
    dsimp only
    rw [ev_sQ, ev_sI, c3]
    dsimp only
    rw [ev_sP]
    dsimp only
    rw [ev_sQ, ev_sI, c4]
    dsimp only
    rw [ev_sP]
    dsimp only
    rw [ev_sR, c5]
theorem same_ok {n : Nat} {x : D} (h : Nice n x) : toP (m_l_law_same_k79 n) [x, x] = .ok (.bl true) := by
  induction h with
  | non => exact same_flat _ (.inl rfl)
  | bl b => exact same_flat _ (.inr (.inl ⟨b, rfl⟩))
  | int i => exact same_flat _ (.inr (.inr (.inl ⟨i, rfl⟩)))
  | str x h => exact same_flat _ (.inr (.inr (.inr ⟨x, rfl, h⟩)))
  | tup xs hl h ih => exact same_seq _ (.inl rfl) hl ih
  | lst xs hl h ih => exact same_seq _ (.inr rfl) hl ih
end Mi

namespace Mi
open PySem PySem.Spec L2 DN
/-- == says that they are the same -/
def EqI (x y : D) : Prop := PyData.eqv (pyD x) (pyD y) = true ↔ x = y
theorem eqI_int (i j : Int) : EqI (.int i) (.int j) := by
  unfold EqI
  rw [pyD, pyD]
  simp [PyData.eqv]
theorem eqI_bl (a b : Bool) : EqI (.bl a) (.bl b) := by
  unfold EqI
  cases a <;> cases b <;> simp [pyD, PyData.eqv]
theorem eqI_str (a b : Str) : EqI (.str a) (.str b) := by
  unfold EqI
  rw [pyD, pyD]
  simp [PyData.eqv]
theorem eqL : ∀ {xs ys : List D}, (∀ x ∈ xs, ∀ y ∈ ys, EqI x y) → (PyData.eqvAll (pyL xs) (pyL ys) = true ↔ xs = ys)
  | [], [], _ => by simp [pyL, PyData.eqvAll]
  | [], y :: ys, _ => by simp [pyL, PyData.eqvAll]
  | x :: xs, [], _ => by simp [pyL, PyData.eqvAll]
  | x :: xs, y :: ys, h => by
    have h1 : EqI x y := h x List.mem_cons_self y List.mem_cons_self
    have h2 := eqL (xs := xs) (ys := ys) fun a ha b hb => h a (List.mem_cons_of_mem _ ha) b (List.mem_cons_of_mem _ hb)
    unfold EqI at h1
    rw [pyL, pyL, PyData.eqvAll, Bool.and_eq_true, h1, h2, List.cons.injEq]
theorem eqI_tup {xs ys : List D} (h : ∀ x ∈ xs, ∀ y ∈ ys, EqI x y) : EqI (.tup xs) (.tup ys) := by
  unfold EqI
  rw [pyD, pyD, PyData.eqv, eqL h, D.tup.injEq]
theorem eqP {xs ys : List D} (h : Paired EqI xs ys) : PyData.eqvAll (pyL xs) (pyL ys) = true ↔ xs = ys := by
  induction h with
  | nil => simp [pyL, PyData.eqvAll]
  | cons h1 t ih =>
    unfold EqI at h1
    rw [pyL, pyL, PyData.eqvAll, Bool.and_eq_true, h1, ih, List.cons.injEq]
theorem eqI_tupP {xs ys : List D} (h : Paired EqI xs ys) : EqI (.tup xs) (.tup ys) := by
  unfold EqI
  rw [pyD, pyD, PyData.eqv, eqP h, D.tup.injEq]
theorem eqI_p4 {p q : D} (hp : P4 p) (hq : P4 q) : EqI p q := by
  obtain ⟨a, b, c, d, rfl, _⟩ := hp
  obtain ⟨a', b', c', d', rfl, _⟩ := hq
  refine eqI_tup fun x hx y hy => ?_
  simp only [List.mem_cons, List.not_mem_nil, or_false] at hx hy
  rcases hx with rfl | rfl | rfl | rfl <;> rcases hy with rfl | rfl | rfl | rfl <;> exact eqI_int _ _
theorem eqI_pt {r c r' c' : Int} {ps ps' : List D} {t t' : Bool} (g : GoodP r c ps) (g' : GoodP r' c' ps') : EqI (pt r c ps t) (pt r' c' ps' t') := by
  have h3 : EqI (.tup ps) (.tup ps') := eqI_tup fun x hx y hy => eqI_p4 (g.p x hx) (g'.p y hy)
  exact eqI_tupP (.cons (eqI_int _ _) (.cons (eqI_int _ _) (.cons h3 (.cons (eqI_bl _ _) .nil))))
theorem eqI_text {r c r' c' : Int} {ps ps' : List D} {t t' : Bool} (g : GoodP r c ps) (g' : GoodP r' c' ps') : EqI (textD r c ps t) (textD r' c' ps' t') := eqI_tup fun x hx y hy => by
  obtain ⟨z, rfl, _⟩ := text_strs g x hx
  obtain ⟨w, rfl, _⟩ := text_strs g' y hy
  exact eqI_str z w
theorem text_inj {r c r' c' : Int} {ps ps' : List D} {t t' : Bool} (g : GoodP r c ps) (g' : GoodP r' c' ps') (h : textD r c ps t = textD r' c' ps' t') : pt r c ps t = pt r' c' ps' t' := by
  have e1 := read_ok (t := t) g
  rw [h, read_ok (t := t') g'] at e1
  injection e1 with e1
  injection e1 with _ e1
  injection e1 with h1 e1
  injection e1 with h2 e1
  injection e1 with h3 e1
  injection e1 with h4 e1
  injection e1 with h5 e1
  exact h5.symm
theorem okPt {r c : Int} {ps : List D} {t : Bool} (g : GoodP r c ps) : okD (pt r c ps t) = true := by
  have h := okP g.p
  unfold okD SeqAt.shaped at h ⊢
  rw [Bool.and_eq_true] at h ⊢
  have hd := of_decide_eq_true h.2
  have hl := h.1
  have hd3 : (pyD (.tup ps)).depth ≤ 4 := by
    rw [pyD, PyData.depth]
    have := depth_L (n := 3) fun x hx => (p4_lay (g.p x hx)).2
    omega
  refine ⟨?_, decide_eq_true ?_⟩
  · rw [pyD, pyL, pyL, pyL, pyL, pyL, PyData.canLay0, PyData.canLayAll0, PyData.canLayAll0, PyData.canLayAll0, PyData.canLayAll0, PyData.canLayAll0, hl]
    rfl
  · rw [pyD, pyL, pyL, pyL, pyL, pyL, PyData.depth, PyData.depthAll, PyData.depthAll, PyData.depthAll, PyData.depthAll, PyData.depthAll]
    have h1 : (pyD (.int r)).depth = 0 := rfl
    have h2 : (pyD (.int c)).depth = 0 := rfl
    have h3 : (pyD (.bl t)).depth = 0 := rfl
    rw [h1, h2, h3]
    omega
/-- unlike puzzles have unlike texts -/
theorem eq_both {r c r' c' : Int} {ps ps' : List D} {t t' : Bool} (g : GoodP r c ps) (g' : GoodP r' c' ps') : ∃ b : Bool, oEq (textD r c ps t) (textD r' c' ps' t') = some (.bl b) ∧ oEq (pt r c ps t) (pt r' c' ps' t') = some (.bl b) := by
  have e1 : okD (textD r c ps t) = true := okS (text_strs g)
  have e2 : okD (textD r' c' ps' t') = true := okS (text_strs g')
  have hb : PyData.eqv (pyD (textD r c ps t)) (pyD (textD r' c' ps' t')) = PyData.eqv (pyD (pt r c ps t)) (pyD (pt r' c' ps' t')) := by
    have q1 : PyData.eqv (pyD (textD r c ps t)) (pyD (textD r' c' ps' t')) = true ↔ textD r c ps t = textD r' c' ps' t' := eqI_text g g'
    have q2 : PyData.eqv (pyD (pt r c ps t)) (pyD (pt r' c' ps' t')) = true ↔ pt r c ps t = pt r' c' ps' t' := eqI_pt g g'
    rw [Bool.eq_iff_iff, q1, q2]
    refine ⟨fun h => text_inj g g' h, fun h => ?_⟩
    injection h with h
    injection h with h1 h
    injection h1 with h1
    injection h with h2 h
    injection h2 with h2
    injection h with h3 h
    injection h3 with h3
    injection h with h4 h
    injection h4 with h4
    rw [h1, h2, h3, h4]
  refine ⟨_, by unfold oEq; rw [e1, e2]; rfl, ?_⟩
  unfold oEq
  rw [okPt g, okPt g', ← hb]
  rfl
end Mi

namespace Mi
open PySem PySem.Spec L2 DN
theorem Nice.up {n : Nat} {x : D} (h : Nice n x) : Nice (n + 1) x := by
  induction h with
  | non => exact .non
  | bl b => exact .bl b
  | int i => exact .int i
  | str x h => exact .str x h
  | tup xs hl h ih => exact .tup xs hl ih
  | lst xs hl h ih => exact .lst xs hl ih
theorem nice_p4 {p : D} (h : P4 p) : Nice 2 p := by
  obtain ⟨a, b, c, d, rfl, _⟩ := h
  refine .tup _ (by simp) fun x hx => ?_
  simp only [List.mem_cons, List.not_mem_nil, or_false] at hx
  rcases hx with rfl | rfl | rfl | rfl <;> exact .int _
theorem good_len {r c : Int} {ps : List D} (g : GoodP r c ps) : ps.length ≤ 6 := by
  have := g.l; have := g.b; omega
theorem nice_pt {r c : Int} {ps : List D} {t : Bool} (g : GoodP r c ps) : Nice 6 (pt r c ps t) := by
  refine .tup _ (by simp) fun x hx => ?_
  simp only [List.mem_cons, List.not_mem_nil, or_false] at hx
  rcases hx with rfl | rfl | rfl | rfl
  · exact .int _
  · exact .int _
  · exact .tup _ (by have := good_len g; omega) fun y hy => (nice_p4 (g.p y hy)).up.up
  · exact .bl _
theorem nice_text {r c : Int} {ps : List D} {t : Bool} (g : GoodP r c ps) : Nice 5 (textD r c ps t) := by
  refine .tup _ (by have := good_len g; simp; omega) fun x hx => ?_
  obtain ⟨z, rfl, hz⟩ := text_strs g x hx
  exact .str z hz
theorem nice_two {x : D} (h : Nice 5 x) : Nice 6 (.lst [x, x]) := .lst _ (by simp) fun y hy => by
  simp only [List.mem_cons, List.not_mem_nil, or_false, or_self] at hy
  rw [hy]; exact h
theorem f_parts {r c : Int} {ps : List D} {t : Bool} : lookF "parts" fl_Puzzle [.int r, .int c, .tup ps, .bl t, pt r c ps t] = some (pt r c ps t) := by kernel_rfl
theorem eq_self {r c : Int} {ps : List D} {t : Bool} (g : GoodP r c ps) : oEq (pt r c ps t) (pt r c ps t) = some (.bl true) := by
  have h : PyData.eqv (pyD (pt r c ps t)) (pyD (pt r c ps t)) = true := (show _ = true ↔ _ from eqI_pt g g).mpr rfl
  unfold oEq
  rw [okPt g, h]; rfl
theorem puzzle_eq {r c : Int} {ps : List D} {t : Bool} (g : GoodP r c ps) : toP m_Puzzle_eq [pz r c ps t, pz r c ps t] = .ok (.bl true) := by
  have e := eq_self (t := t) g
  simp [m_Puzzle_eq, b_Puzzle_eq, vIsC, isC, vFld, f_parts, e]
theorem ne_made {r c : Int} {ps : List D} {t : Bool} (g : GoodP r c ps) : oEqI 86 (toP m_Puzzle_eq) true (pz r c ps t) (pz r c ps t) = some (.bl false) := by
  have e := puzzle_eq (t := t) g
  simp [oEqI, e]
theorem good_not {r c : Int} {ps : List D} {t : Bool} (g : GoodP r c ps) : True := trivial
theorem good_swap {r c : Int} {ps : List D} (g : GoodP r c ps) : GoodP c r ps where
  b := ⟨g.b.2.2.1, g.b.2.2.2.1, g.b.1, g.b.2.1, by have := g.b.2.2.2.2; rw [Int.mul_comm]; exact this⟩
  l := by rw [Int.mul_comm]; exact g.l
  p := g.p
  s := g.s
end Mi

namespace Mi
open PySem PySem.Spec L2 DN
abbrev bA : SM := sI (eOr (e2 (oEqI 86 (toP m_Puzzle_eq) true) (eV 5) (eV 3)) (eNot (eA (nArg 2 (vP (toP (m_l_law_same_k79 6)))) (lC (eU (vFld 86 fl_Puzzle "parts") (eV 5)) (lC (eV 2) (lN)))))) (sR (eC (.bl false))) (sP)
theorem bA_ok {r c : Int} {ps : List D} {t : Bool} (g : GoodP r c ps) (w0 w1 o4 o6 o7 : Option W) (S : Store) : bA [w0, w1, some (.d (pt r c ps t)), some (.d (pz r c ps t)), o4, some (.d (pz r c ps t)), o6, o7] S = .nx [w0, w1, some (.d (pt r c ps t)), some (.d (pz r c ps t)), o4, some (.d (pz r c ps t)), o6, o7] S := by
  have e1 := ne_made (t := t) g
  have e2' := same_ok (nice_pt (t := t) g)
  have e3 : vFld 86 fl_Puzzle "parts" (.d (pz r c ps t)) S = .ok (.d (pt r c ps t)) S := by
    simp [vFld, f_parts]
  simp [e1, e3, e2']
abbrev bB : SM := sQ (sA (eA (nArg 1 (vP (toP (m_puzzle_rows)))) (lC (eA (nArg 1 (vP (toP (m_l_law_made)))) (lC (eV 6) (lN))) (lN))) (gN 7)) (sI (eOr (e2 oNe (e2 oEq (eV 7) (eV 4)) (e2 oEq (eV 6) (eV 2))) (eNot (eA (nArg 2 (vP (toP (m_l_law_same_k79 6)))) (lC (eV 7) (lC (eA (nArg 1 (vP (toP (m_l_law_text)))) (lC (eV 6) (lN))) (lN)))))) (sR (eC (.bl false))) (sP))
theorem oNe_bl (b : Bool) : oNe (.bl b) (.bl b) = some (.bl false) := by cases b <;> kernel_rfl
theorem bB_ok {r c r' c' : Int} {ps ps' : List D} {t t' : Bool} (g : GoodP r c ps) (g' : GoodP r' c' ps') (w0 w1 o3 o5 o7 : Option W) (S : Store) : bB [w0, w1, some (.d (pt r c ps t)), o3, some (.d (textD r c ps t)), o5, some (.d (pt r' c' ps' t')), o7] S = .nx [w0, w1, some (.d (pt r c ps t)), o3, some (.d (textD r c ps t)), o5, some (.d (pt r' c' ps' t')), some (.d (textD r' c' ps' t'))] S := by
  have e1 := made_ok (t := t') g'
  have e2' := rows_ok (t := t') g'
  have e3 := text_ok (t := t') g'
  obtain ⟨b, e4, e5⟩ := eq_both (t := t') (t' := t) g' g
  have e6 := same_ok (nice_text (t := t') g').up
  have e7 := oNe_bl b
  simp [e1, e2', e3, e4, e5, e6, e7]
theorem loopB {r c : Int} {ps : List D} {t : Bool} (g : GoodP r c ps) (w0 w1 o3 o5 : Option W) (S : Store) : ∀ (xs : List D) (o6 o7 : Option W), (∀ x ∈ xs, ∃ r' c' ps' t', x = pt r' c' ps' t' ∧ GoodP r' c' ps') → ∃ o6' o7', loopM (gN 6) bB xs [w0, w1, some (.d (pt r c ps t)), o3, some (.d (textD r c ps t)), o5, o6, o7] S = .nx [w0, w1, some (.d (pt r c ps t)), o3, some (.d (textD r c ps t)), o5, o6', o7'] S
  | [], o6, o7, _ => ⟨o6, o7, rfl⟩
  | x :: xs, o6, o7, h => by
    obtain ⟨r', c', ps', t', rfl, g'⟩ := h x List.mem_cons_self
    obtain ⟨a, b, e⟩ := loopB g w0 w1 o3 o5 S xs (some (.d (pt r' c' ps' t'))) (some (.d (textD r' c' ps' t'))) fun x hx => h x (List.mem_cons_of_mem _ hx)
    refine ⟨a, b, ?_⟩
    have e1 := bB_ok (t := t) (t' := t') g g' w0 w1 o3 o5 o7 S
    rw [loopM]
    simp only [ev_gN, List.set_cons_succ, List.set_cons_zero]
    rw [e1]
    exact e
theorem loopA {r c : Int} {ps : List D} {t : Bool} (g : GoodP r c ps) (w0 w1 o4 o5 o6 o7 : Option W) (S : Store) : loopM (gN 5) bA [pz r c ps t, pz r c ps t, pz r c ps t] [w0, w1, some (.d (pt r c ps t)), some (.d (pz r c ps t)), o4, o5, o6, o7] S = .nx [w0, w1, some (.d (pt r c ps t)), some (.d (pz r c ps t)), o4, some (.d (pz r c ps t)), o6, o7] S := by
  have e := bA_ok (t := t) g w0 w1 o4 o6 o7 S
  rw [loopM]
  simp only [ev_gN, List.set_cons_succ, List.set_cons_zero]
  rw [e]
  dsimp only
  rw [loopM]
  simp only [ev_gN, List.set_cons_succ, List.set_cons_zero]
  rw [e]
  dsimp only
  rw [loopM]
  simp only [ev_gN, List.set_cons_succ, List.set_cons_zero]
  rw [e]
  rfl
end Mi

namespace Mi
open PySem PySem.Spec L2 DN
abbrev sT1 : SM := sA (eA (nArg 2 (vC m_l_law_puzzle)) (lC (eV 0) (lC (eC (.int 6)) (lN)))) (gN 2)
abbrev sT2 : SM := sPar [3, 4] (lC (eA (nArg 1 (vP (toP (m_l_law_made)))) (lC (eV 2) (lN))) (lC (eA (nArg 1 (vP (toP (m_l_law_text)))) (lC (eV 2) (lN))) (lN)))
abbrev sT3 : SM := sI (eNot (eA (nArg 2 (vP (toP (m_l_law_same_k79 6)))) (lC (eL vLst (lC (eA (nArg 1 (vP (toP (m_puzzle_rows)))) (lC (eV 3) (lN))) (lC (eK (nArg 1 (vP (toP (m_puzzle_rows)))) 0 1 [0] (lN) (lC (eV 3) (lN))) (lN)))) (lC (eL vLst (lC (eV 4) (lC (eV 4) (lN)))) (lN))))) (sR (eC (.bl false))) (sP)
abbrev iA : IM := iS (eL vLst (lC (eA (nArg 1 (vP (toP (m_read_puzzle)))) (lC (eV 4) (lN))) (lC (eK (nArg 1 (vP (toP (m_read_puzzle)))) 0 1 [0] (lN) (lC (eV 4) (lN))) (lC (eA (nArg 1 (vP (toP (m_read_puzzle)))) (lC (eA (nArg 1 (vP (toP (m_puzzle_rows)))) (lC (eV 3) (lN))) (lN))) (lN)))))
abbrev iB : IM := iS (eL vLst (lC (eA (nArg 2 (vC m_l_law_puzzle)) (lC (eV 0) (lC (eC (.int 6)) (lN)))) (lC (e2 oAdd (eSl (eV 2) (pNone) (pSome (eC (.int 3)))) (eL vTup (lC (eNot (e2 oIx (eV 2) (eC (.int 3)))) (lN)))) (lC (e2 oAdd (eL vTup (lC (e2 oIx (eV 2) (eC (.int 1))) (lC (e2 oIx (eV 2) (eC (.int 0))) (lN)))) (eSl (eV 2) (pSome (eC (.int 2))) (pNone))) (lN)))))
abbrev bT : SM := sQ sT1 (sQ sT2 (sQ sT3 (sQ (sF iA (gN 5) bA) (sF iB (gN 6) bB))))
example : b_l_law_right_k83 = sQ (sF (iR1 (eC (.int 4))) (gN 1) bT) (sR (eC (.bl true))) := rfl
theorem perm1 (x : W) : perm 0 1 [0] [] [x] = [x] := rfl
theorem s4_3 (a b c d : D) : oSl (.tup [a, b, c, d]) none (some 3) = some (.tup [a, b, c]) := rfl
theorem s4_2 (a b c d : D) : oSl (.tup [a, b, c, d]) (some 2) none = some (.tup [c, d]) := rfl
theorem turn_ok {S : Store} {n : Nat} {ws : List D} (h : S[n]? = some (.lst ws)) (p : Plain S) (w : WellOk ws) (o1 o2 o3 o4 o5 o6 o7 : Option W) : ∃ (ws' : List D) (q2 q3 q4 q5 q6 q7 : Option W), WellOk ws' ∧ bT [some (.h n), o1, o2, o3, o4, o5, o6, o7] S = .nx [some (.h n), o1, q2, q3, q4, q5, q6, q7] (S.set n (.lst ws')) := by
  obtain ⟨_, w1, hg, k1, e1⟩ := puzzle_ok (.inl rfl) h p w
  obtain ⟨r, c, ps, t, rfl, g⟩ := good_of hg
  have h1 := set_at (ys := w1) h
  have p1 := plain_set (n := n) (xs := w1) p
  obtain ⟨_, w2, hg2, k2, e2'⟩ := puzzle_ok (.inl rfl) h1 p1 k1
  obtain ⟨r', c', ps', t', rfl, g'⟩ := good_of hg2
  rw [List.set_set] at e2'
  have m1 := made_ok (t := t) g
  have m2 := text_ok (t := t) g
  have m3 := rows_ok (t := t) g
  have m4 := read_ok (t := t) g
  have m5 := same_ok (nice_two (nice_text (t := t) g))
  obtain ⟨a, b, eB⟩ := loopB (t := t) g (some (.h n)) o1 (some (.d (pz r c ps t))) (some (.d (pz r c ps t))) (S.set n (.lst w2)) [pt r' c' ps' t', pt r c ps (!t), pt c r ps t] o6 o7 fun x hx => by
    simp only [List.mem_cons, List.not_mem_nil, or_false] at hx
    rcases hx with rfl | rfl | rfl
    · exact ⟨_, _, _, _, rfl, g'⟩
    · exact ⟨_, _, _, _, rfl, g⟩
    · exact ⟨_, _, _, _, rfl, good_swap g⟩
  have eA := loopA (t := t) g (some (.h n)) o1 (some (.d (textD r c ps t))) o5 o6 o7 (S.set n (.lst w1))
  have x1 : sT1 [some (.h n), o1, o2, o3, o4, o5, o6, o7] S = .nx [some (.h n), o1, some (.d (pt r c ps t)), o3, o4, o5, o6, o7] (S.set n (.lst w1)) := by
    simp [e1]
  have x2 : sT2 [some (.h n), o1, some (.d (pt r c ps t)), o3, o4, o5, o6, o7] (S.set n (.lst w1)) = .nx [some (.h n), o1, some (.d (pt r c ps t)), some (.d (pz r c ps t)), some (.d (textD r c ps t)), o5, o6, o7] (S.set n (.lst w1)) := by
    simp [sPar, m1, m2]
  have x3 : sT3 [some (.h n), o1, some (.d (pt r c ps t)), some (.d (pz r c ps t)), some (.d (textD r c ps t)), o5, o6, o7] (S.set n (.lst w1)) = .nx [some (.h n), o1, some (.d (pt r c ps t)), some (.d (pz r c ps t)), some (.d (textD r c ps t)), o5, o6, o7] (S.set n (.lst w1)) := by
    simp [m3, perm1, vLst, sizeLine_eq, m5]
  have x4 : iA [some (.h n), o1, some (.d (pt r c ps t)), some (.d (pz r c ps t)), some (.d (textD r c ps t)), o5, o6, o7] (S.set n (.lst w1)) = .ok [pz r c ps t, pz r c ps t, pz r c ps t] (S.set n (.lst w1)) := by
    simp [iS, m3, m4, perm1, vLst, sizeLine_eq, seqD]
  have x5 : iB [some (.h n), o1, some (.d (pt r c ps t)), some (.d (pz r c ps t)), some (.d (textD r c ps t)), some (.d (pz r c ps t)), o6, o7] (S.set n (.lst w1)) = .ok [pt r' c' ps' t', pt r c ps (!t), pt c r ps t] (S.set n (.lst w2)) := by
    simp [iS, e2', eSl, pNone, pSome, s4_3, s4_2, i4_0, i4_1, i4_3, vTup, sizeLine_eq, oAdd, vLst, seqD]
  refine ⟨w2, some (.d (pt r c ps t)), some (.d (pz r c ps t)), some (.d (textD r c ps t)), some (.d (pz r c ps t)), a, b, k2, ?_⟩
  unfold bT
  rw [ev_sQ, x1]
  dsimp only
  rw [ev_sQ, x2]
  dsimp only
  rw [ev_sQ, x3]
  dsimp only
  rw [ev_sQ, ev_sF, x4]
  dsimp only
  rw [eA]
  dsimp only
  rw [ev_sF, x5]
  exact eB

theorem right_loop {n : Nat} : ∀ (xs : List D) (S : Store) (ws : List D) (o1 o2 o3 o4 o5 o6 o7 : Option W), S[n]? = some (.lst ws) → Plain S → WellOk ws → ∃ (ws' : List D) (q1 q2 q3 q4 q5 q6 q7 : Option W), WellOk ws' ∧ loopM (gN 1) bT xs [some (.h n), o1, o2, o3, o4, o5, o6, o7] S = .nx [some (.h n), q1, q2, q3, q4, q5, q6, q7] (S.set n (.lst ws'))
  | [], S, ws, o1, o2, o3, o4, o5, o6, o7, h, p, w => by
    refine ⟨ws, o1, o2, o3, o4, o5, o6, o7, w, ?_⟩
    rw [loopM]
    have := (St.start h p w).tk
    rw [List.take_length] at this
    rw [← this]
  | x :: xs, S, ws, o1, o2, o3, o4, o5, o6, o7, h, p, w => by
    obtain ⟨w1, q2, q3, q4, q5, q6, q7, k1, e1⟩ := turn_ok h p w (some (.d x)) o2 o3 o4 o5 o6 o7
    obtain ⟨w2, z1, z2, z3, z4, z5, z6, z7, k2, e2'⟩ := right_loop (n := n) xs (S.set n (.lst w1)) w1 (some (.d x)) q2 q3 q4 q5 q6 q7 (set_at h) (plain_set p) k1
    rw [List.set_set] at e2'
    refine ⟨w2, z1, z2, z3, z4, z5, z6, z7, k2, ?_⟩
    rw [loopM]
    simp only [ev_gN, List.set_cons_succ, List.set_cons_zero]
    rw [e1]
    exact e2'
theorem right_ok {S : Store} {n : Nat} {ws : List D} (h : S[n]? = some (.lst ws)) (p : Plain S) (w : WellOk ws) : Gives (vC m_l_law_right_k83 [.h n] S) S n (fun x => x = .bl true) := by
  refine Gives.vC p ?_
  obtain ⟨w1, q1, q2, q3, q4, q5, q6, q7, k1, e1⟩ := right_loop (n := n) (rangeD 0 4) S ws none none none none none none none h p w
  refine ⟨.bl true, w1, rfl, k1, ?_⟩
  have ei : iR1 (eC (.int 4)) [some (.h n), none, none, none, none, none, none, none] S = .ok (rangeD 0 4) S := rfl
  have e0 : m_l_law_right_k83 [.h n] S = (match (sQ (sF (iR1 (eC (.int 4))) (gN 1) bT) (sR (eC (.bl true)))) [some (.h n), none, none, none, none, none, none, none] S with
      | .nx _ S' => .ok (.d .non) S'
      | .rt w S' => .ok w S'
      | .exc _ c fs S' => .exc c fs S'
      | _ => .bad) := rfl
  rw [e0, ev_sQ, ev_sF, ei]
  dsimp only
  rw [e1]
  rfl
end Mi

namespace Mi
open PySem PySem.Spec L2 DN
abbrev bL : SM := sQ (sA (eA (nArg 2 m_l_law_well_k83) (lC (eV 0) (lC (eV 1) (lN)))) (gN 2)) (sI (eNot (eL oAll (lC (eLcG finF [3] (iR1 (eC (.int 4))) (gN 3) (eYes) (eA (nArg 1 (vC m_l_law_right_k83)) (lC (eV 2) (lN)))) (lN)))) (sR (eC (.bl false))) (sP))
theorem all_bl {ys : List D} (h : ∀ y ∈ ys, y = .bl true) : oAll [.lst ys] = some (.bl true) := by
  have : ys = ys.map fun _ => .bl true := by
    induction ys with
    | nil => rfl
    | cons y ys ih => rw [List.map_cons, ← ih fun z hz => h z (List.mem_cons_of_mem _ hz), h y List.mem_cons_self]
  rw [this]; exact bls_true ys
theorem lap_ok (script : List Int) (hl : script.length ≤ 63) (lap : Nat) (hlap : lap < 3) (S : Store) (p : Plain S) (o2 : Option W) : ∃ (q2 : Option W) (S' : Store), Plain S' ∧ bL [some (.d (.lsk (script.map D.int))), some (.d (.int (lap : Int))), o2, none] S = .nx [some (.d (.lsk (script.map D.int))), some (.d (.int (lap : Int))), q2, none] S' := by
  obtain ⟨ws, kw, ew⟩ := bwell_ok 810737 (by decide) (by decide) script lap hlap hl S
  have ew : m_l_law_well_k83 [.d (.lsk (script.map D.int)), .d (.int (lap : Int))] S = .ok (.h S.length) (S ++ [.lst ws]) := ew
  have pS : Plain (S ++ [.lst ws]) := fun c hc => by
    rcases List.mem_append.mp hc with z | z
    · exact p c z
    · exact .inl ⟨ws, by simpa using z⟩
  obtain ⟨ys, ws', hyl, hy, w', e⟩ := lc_gives (n := S.length) (j := 3) (ρ := [some (.d (.lsk (script.map D.int))), some (.d (.int (lap : Int))), some (.h S.length), none]) (fin := finF) (R := fun x => x = .bl true) (e := eA (nArg 1 (vC m_l_law_right_k83)) (lC (eV 2) (lN))) (rangeD 0 4) [] (S ++ [.lst ws]) ws (by simp) pS kw (fun x _ S2 ws2 h2 p2 w2 => by
    obtain ⟨y, w3, hy, k3, e3⟩ := right_ok h2 p2 w2
    refine ⟨y, w3, hy, k3, ?_⟩
    simp [e3])
  have hb := all_bl hy
  refine ⟨some (.h S.length), (S ++ [Cell.lst ws]).set S.length (Cell.lst ws'), plain_set pS, ?_⟩
  have er : iR1 (eC (.int 4)) [some (.d (.lsk (script.map D.int))), some (.d (.int (lap : Int))), some (.h S.length), none] (S ++ [.lst ws]) = .ok (rangeD 0 4) (S ++ [.lst ws]) := rfl
  have ez : (rangeD 0 4).length ≤ sizeLine := by rw [rangeD_len, sizeLine_eq]; decide
  have ec : eLcG finF [3] (iR1 (eC (.int 4))) (gN 3) (eYes) (eA (nArg 1 (vC m_l_law_right_k83)) (lC (eV 2) (lN))) [some (.d (.lsk (script.map D.int))), some (.d (.int (lap : Int))), some (.h S.length), none] (S ++ [.lst ws]) = .ok (.d (.lst ys)) ((S ++ [Cell.lst ws]).set S.length (Cell.lst ws')) := by
    unfold eLcG
    rw [er]
    dsimp only
    rw [if_pos ez]
    exact e
  unfold bL
  rw [ev_sQ, ev_sA]
  have x1 : (eA (nArg 2 m_l_law_well_k83) (lC (eV 0) (lC (eV 1) (lN)))) [some (.d (.lsk (script.map D.int))), some (.d (.int (lap : Int))), o2, none] S = .ok (.h S.length) (S ++ [.lst ws]) := by
    simp [ew]
  rw [x1]
  simp only [ev_gN, List.set_cons_succ, List.set_cons_zero]
  have x2 : eNot (eL oAll (lC (eLcG finF [3] (iR1 (eC (.int 4))) (gN 3) (eYes) (eA (nArg 1 (vC m_l_law_right_k83)) (lC (eV 2) (lN)))) (lN))) [some (.d (.lsk (script.map D.int))), some (.d (.int (lap : Int))), some (.h S.length), none] (S ++ [.lst ws]) = .ok (.d (.bl false)) ((S ++ [Cell.lst ws]).set S.length (Cell.lst ws')) := by
    rw [ev_not]
    show (eA (vL oAll) _ _ _).bind vNot = _
    rw [ev_A, ev_lC, ec]
    simp [hb]
  rw [ev_sI, x2]
  rfl
theorem law_loop (script : List Int) (hl : script.length ≤ 63) : ∀ (xs : List D) (S : Store) (o1 o2 : Option W), (∀ x ∈ xs, ∃ lap : Nat, lap < 3 ∧ x = .int (lap : Int)) → Plain S → ∃ (q1 q2 : Option W) (S' : Store), loopM (gN 1) bL xs [some (.d (.lsk (script.map D.int))), o1, o2, none] S = .nx [some (.d (.lsk (script.map D.int))), q1, q2, none] S'
  | [], S, o1, o2, _, _ => ⟨o1, o2, S, rfl⟩
  | x :: xs, S, o1, o2, h, p => by
    obtain ⟨lap, hlap, rfl⟩ := h x List.mem_cons_self
    obtain ⟨q2, S', p', e1⟩ := lap_ok script hl lap hlap S p o2
    obtain ⟨a, b, S2, e2'⟩ := law_loop script hl xs S' (some (.d (.int (lap : Int)))) q2 (fun x hx => h x (List.mem_cons_of_mem _ hx)) p'
    refine ⟨a, b, S2, ?_⟩
    rw [loopM]
    simp only [ev_gN, List.set_cons_succ, List.set_cons_zero]
    rw [e1]
    exact e2'
theorem law_k83_spec (ns : List Int) (hl : ns.length ≤ 63) : toP m_law_k83 [.lsk (ns.map D.int)] = .ok (.bl true) := by
  have hk : ∃ k : Nat, k ≤ 3 ∧ iR1 (eL oMax (lC (eC (.int 1)) (lC (eL oMin (lC (eA wLen (lC (eV 0) (lN))) (lC (eC (.int 3)) (lN)))) (lN)))) [some (.d (.lsk (ns.map D.int))), none, none, none] [] = .ok (rangeD 0 k) [] := by
    refine ⟨(if (if (3 : Int) < ns.length then 3 else (ns.length : Int)) > 1 then (if (3 : Int) < ns.length then 3 else (ns.length : Int)) else 1).toNat, ?_, ?_⟩
    · split <;> (try split) <;> omega
    · have ho : ∀ j : Int, 0 ≤ j → j ≤ 3 → okR j = true := fun j h1 h2 => by
        have := okR_nat (n := j.toNat) (by omega)
        rwa [Int.toNat_of_nonneg h1] at this
      have := ho (if (if (3 : Int) < ns.length then 3 else (ns.length : Int)) > 1 then (if (3 : Int) < ns.length then 3 else (ns.length : Int)) else 1) (by split <;> (try split) <;> omega) (by split <;> (try split) <;> omega)
      simp only [iR1, ev_A, ev_lC, ev_C, ev_V, List.getElem?_cons_zero, ev_N, bindL_o, wLen, lenD, List.length_map, vL_e, dats_d, dats_0, Option.map_some, oMin, giveO_s, oMax, this, if_true]
  obtain ⟨k, hk3, ek⟩ := hk
  obtain ⟨a, b, S', e⟩ := law_loop ns hl (rangeD 0 k) [] none none (fun x hx => by
    obtain ⟨i, hi, rfl⟩ := rng_mem hx
    exact ⟨i, by omega, rfl⟩) (fun c hc => by cases hc)
  have ehead : toP m_law_k83 [.lsk (ns.map D.int)] = (match (sQ (sF (iR1 (eL oMax (lC (eC (.int 1)) (lC (eL oMin (lC (eA wLen (lC (eV 0) (lN))) (lC (eC (.int 3)) (lN)))) (lN))))) (gN 1) bL) (sR (eC (.bl true)))) [some (.d (.lsk (ns.map D.int))), none, none, none] [] with | .nx _ _ => .ok .non | .rt (.d x) _ => .ok x | .exc _ c fs _ => .exc c fs | _ => .bad) := toP_run 4 b_law_k83 [.lsk (ns.map D.int)]
  rw [ehead, ev_sQ, ev_sF, ek]
  dsimp only
  rw [e]
  rfl
end Mi

namespace W83
open PySem PySem.Spec PyProof.Rows L2 DN Mi
def top (i : Nat) : Stmt := PySem.Challenge.pw_sidefits_k83_whole_texts_of_puzzles.main.body.getD i (.Pass ⟨0, 0, 0, 0⟩)

def d40 : He.DefD := ⟨("InvalidNumber", some "__init__"), "__init__", "InvalidNumber.__init__", defArgs (inClass (top 2) 0), defBody (inClass (top 2) 0), defScope (inClass (top 2) 0), [], []⟩
def d50 : He.DefD := ⟨("InvalidWord", some "__init__"), "__init__", "InvalidWord.__init__", defArgs (inClass (top 3) 0), defBody (inClass (top 3) 0), defScope (inClass (top 3) 0), [], []⟩
def d75 : He.DefD := ⟨("NotAPuzzle", some "__init__"), "__init__", "NotAPuzzle.__init__", defArgs (inClass (top 4) 0), defBody (inClass (top 4) 0), defScope (inClass (top 4) 0), [], []⟩
def d44 : He.DefD := ⟨("InvalidPieces", some "__init__"), "__init__", "InvalidPieces.__init__", defArgs (inClass (top 5) 0), defBody (inClass (top 5) 0), defScope (inClass (top 5) 0), [], []⟩
def d48 : He.DefD := ⟨("InvalidText", some "__init__"), "__init__", "InvalidText.__init__", defArgs (inClass (top 6) 0), defBody (inClass (top 6) 0), defScope (inClass (top 6) 0), [], []⟩
def d430 : He.DefD := ⟨("is_whole", none), "is_whole", "is_whole", defArgs (top 8), defBody (top 8), defScope (top 8), [], []⟩
def d383 : He.DefD := ⟨("is_between", none), "is_between", "is_between", defArgs (top 9), defBody (top 9), defScope (top 9), [], []⟩
def d677 : He.DefD := ⟨("wrong_in", none), "wrong_in", "wrong_in", defArgs (top 10), defBody (top 10), defScope (top 10), [], []⟩
def d201 : He.DefD := ⟨("are_all", none), "are_all", "are_all", defArgs (top 11), defBody (top 11), defScope (top 11), [], []⟩
def d423 : He.DefD := ⟨("is_side", none), "is_side", "is_side", defArgs (top 20), defBody (top 20), defScope (top 20), [], []⟩
def d412 : He.DefD := ⟨("is_piece", none), "is_piece", "is_piece", defArgs (top 21), defBody (top 21), defScope (top 21), [], []⟩
def d404 : He.DefD := ⟨("is_next_piece", none), "is_next_piece", "is_next_piece", defArgs (top 22), defBody (top 22), defScope (top 22), [], []⟩
def d680 : He.DefD := ⟨("wrong_piece", none), "wrong_piece", "wrong_piece", defArgs (top 23), defBody (top 23), defScope (top 23), [], []⟩
def d284 : He.DefD := ⟨("check_rows", none), "check_rows", "check_rows", defArgs (top 25), defBody (top 25), defScope (top 25), [], []⟩
def d271 : He.DefD := ⟨("check_columns", none), "check_columns", "check_columns", defArgs (top 26), defBody (top 26), defScope (top 26), [], []⟩
def d273 : He.DefD := ⟨("check_frame", none), "check_frame", "check_frame", defArgs (top 27), defBody (top 27), defScope (top 27), [], []⟩
def d294 : He.DefD := ⟨("check_turning", none), "check_turning", "check_turning", defArgs (top 28), defBody (top 28), defScope (top 28), [], []⟩
def d88 : He.DefD := ⟨("Puzzle", some "__init__"), "__init__", "Puzzle.__init__", defArgs (inClass (top 29) 0), defBody (inClass (top 29) 0), defScope (inClass (top 29) 0), [], []⟩
def d87 : He.DefD := ⟨("Puzzle", some "__eq__"), "__eq__", "Puzzle.__eq__", defArgs (inClass (top 29) 1), defBody (inClass (top 29) 1), defScope (inClass (top 29) 1), [], []⟩
def d282 : He.DefD := ⟨("check_puzzle", none), "check_puzzle", "check_puzzle", defArgs (top 30), defBody (top 30), defScope (top 30), [], []⟩
def d204 : He.DefD := ⟨("are_figures", none), "are_figures", "are_figures", defArgs (top 39), defBody (top 39), defScope (top 39), [], []⟩
def d405 : He.DefD := ⟨("is_number", none), "is_number", "is_number", defArgs (top 40), defBody (top 40), defScope (top 40), [], []⟩
def d392 : He.DefD := ⟨("is_frame_line", none), "is_frame_line", "is_frame_line", defArgs (top 41), defBody (top 41), defScope (top 41), [], []⟩
def d413 : He.DefD := ⟨("is_piece_line", none), "is_piece_line", "is_piece_line", defArgs (top 42), defBody (top 42), defScope (top 42), [], []⟩
def d400 : He.DefD := ⟨("is_line", none), "is_line", "is_line", defArgs (top 43), defBody (top 43), defScope (top 43), [], []⟩
def d678 : He.DefD := ⟨("wrong_line", none), "wrong_line", "wrong_line", defArgs (top 44), defBody (top 44), defScope (top 44), [], []⟩
def d499 : He.DefD := ⟨("pieces_in", none), "pieces_in", "pieces_in", defArgs (top 45), defBody (top 45), defScope (top 45), [], []⟩
def d510 : He.DefD := ⟨("puzzle_rows", none), "puzzle_rows", "puzzle_rows", defArgs (top 47), defBody (top 47), defScope (top 47), [], []⟩
def d514 : He.DefD := ⟨("read_puzzle", none), "read_puzzle", "read_puzzle", defArgs (top 48), defBody (top 48), defScope (top 48), [], []⟩
def d187 : He.DefD := ⟨("_law_well", none), "_law_well", "_law_well", defArgs (top 50), defBody (top 50), defScope (top 50), [], []⟩
def d128 : He.DefD := ⟨("_law_draw", none), "_law_draw", "_law_draw", defArgs (top 51), defBody (top 51), defScope (top 51), [], []⟩
def d157 : He.DefD := ⟨("_law_of", none), "_law_of", "_law_of", defArgs (top 52), defBody (top 52), defScope (top 52), [], []⟩
def d178 : He.DefD := ⟨("_law_same", none), "_law_same", "_law_same", defArgs (top 53), defBody (top 53), defScope (top 53), [], []⟩
def d186 : He.DefD := ⟨("_law_turned", none), "_law_turned", "_law_turned", defArgs (top 54), defBody (top 54), defScope (top 54), [], []⟩
def d126 : He.DefD := ⟨("_law_cut", none), "_law_cut", "_law_cut", defArgs (top 55), defBody (top 55), defScope (top 55), [], []⟩
def d127 : He.DefD := ⟨("_law_cut_pieces", none), "_law_cut_pieces", "_law_cut_pieces", defArgs (top 56), defBody (top 56), defScope (top 56), [], []⟩
def d168 : He.DefD := ⟨("_law_puzzle", none), "_law_puzzle", "_law_puzzle", defArgs (top 57), defBody (top 57), defScope (top 57), [], []⟩
def d148 : He.DefD := ⟨("_law_made", none), "_law_made", "_law_made", defArgs (top 58), defBody (top 58), defScope (top 58), [], []⟩
def d184 : He.DefD := ⟨("_law_text", none), "_law_text", "_law_text", defArgs (top 59), defBody (top 59), defScope (top 59), [], []⟩
def d171 : He.DefD := ⟨("_law_right", none), "_law_right", "_law_right", defArgs (top 60), defBody (top 60), defScope (top 60), [], []⟩
def d440 : He.DefD := ⟨("law", none), "law", "law", defArgs (top 61), defBody (top 61), defScope (top 61), [], []⟩
def fn : List He.DefD := [d87, d88, d126, d127, d128, d148, d157, d168, d171, d178, d184, d186, d187, d201, d204, d271, d273, d282, d284, d294, d383, d392, d400, d404, d405, d412, d413, d423, d430, d440, d499, d510, d514, d677, d678, d680]
def ad (K : PySem.W.Frag) : Nat → Addr
  | 40 => He.fAd K ("InvalidNumber", some "__init__")
  | 50 => He.fAd K ("InvalidWord", some "__init__")
  | 75 => He.fAd K ("NotAPuzzle", some "__init__")
  | 44 => He.fAd K ("InvalidPieces", some "__init__")
  | 48 => He.fAd K ("InvalidText", some "__init__")
  | 430 => He.fAd K ("is_whole", none)
  | 383 => He.fAd K ("is_between", none)
  | 677 => He.fAd K ("wrong_in", none)
  | 201 => He.fAd K ("are_all", none)
  | 423 => He.fAd K ("is_side", none)
  | 412 => He.fAd K ("is_piece", none)
  | 404 => He.fAd K ("is_next_piece", none)
  | 680 => He.fAd K ("wrong_piece", none)
  | 284 => He.fAd K ("check_rows", none)
  | 271 => He.fAd K ("check_columns", none)
  | 273 => He.fAd K ("check_frame", none)
  | 294 => He.fAd K ("check_turning", none)
  | 88 => He.fAd K ("Puzzle", some "__init__")
  | 87 => He.fAd K ("Puzzle", some "__eq__")
  | 282 => He.fAd K ("check_puzzle", none)
  | 204 => He.fAd K ("are_figures", none)
  | 405 => He.fAd K ("is_number", none)
  | 392 => He.fAd K ("is_frame_line", none)
  | 413 => He.fAd K ("is_piece_line", none)
  | 400 => He.fAd K ("is_line", none)
  | 678 => He.fAd K ("wrong_line", none)
  | 499 => He.fAd K ("pieces_in", none)
  | 510 => He.fAd K ("puzzle_rows", none)
  | 514 => He.fAd K ("read_puzzle", none)
  | 187 => He.fAd K ("_law_well", none)
  | 128 => He.fAd K ("_law_draw", none)
  | 157 => He.fAd K ("_law_of", none)
  | 178 => He.fAd K ("_law_same", none)
  | 186 => He.fAd K ("_law_turned", none)
  | 126 => He.fAd K ("_law_cut", none)
  | 127 => He.fAd K ("_law_cut_pieces", none)
  | 168 => He.fAd K ("_law_puzzle", none)
  | 148 => He.fAd K ("_law_made", none)
  | 184 => He.fAd K ("_law_text", none)
  | 171 => He.fAd K ("_law_right", none)
  | 440 => He.fAd K ("law", none)
  | 29 => He.ga K "FitError"
  | 39 => He.ga K "InvalidNumber"
  | 49 => He.ga K "InvalidWord"
  | 74 => He.ga K "NotAPuzzle"
  | 43 => He.ga K "InvalidPieces"
  | 47 => He.ga K "InvalidText"
  | 86 => He.ga K "Puzzle"
  | _ => 0
def flN : Nat → List Str
  | 86 => fl_Puzzle
  | _ => []
def csL : List Nat := [86]
def G (K : PySem.W.Frag) : Gv := ⟨ad K, flN, fun _ => .none, csL⟩
def fa : List He.Fa := [.free "len", .free "min", .free "max", .free "range", .glo "_law_well", .glo "_law_right", .free "all", .free "int", .free "abs", .glo "_law_puzzle", .glo "_law_text", .glo "_law_made", .glo "puzzle_rows", .glo "_law_same", .glo "read_puzzle", .noat "Puzzle" "parts", .glo "_law_of", .glo "_law_cut", .glo "_law_cut_pieces", .free "list", .glo "_law_draw", .glo "_law_turned", .free "sorted", .free "tuple", .free "divmod", .free "dict", .free "str", .glo "Puzzle", .glo "check_frame", .glo "wrong_piece", .glo "check_turning", .noat "Puzzle" "rows", .noat "Puzzle" "columns", .noat "Puzzle" "pieces", .noat "Puzzle" "turning", .glo "check_rows", .glo "check_columns", .int "MOST_CELLS" 6, .glo "is_between", .glo "is_whole", .free "isinstance", .free "bool", .glo "is_next_piece", .glo "wrong_in", .glo "is_piece", .glo "is_side", .glo "SIDES", .glo "are_all", .int "MOST_SORT" 9, .free "enumerate", .glo "check_puzzle", .str "TURNING" "turning", .str "FIXED" "fixed", .str "FRAME" "frame", .str "PIECE" "piece", .glo "wrong_line", .glo "pieces_in", .glo "is_line", .glo "is_frame_line", .glo "is_piece_line", .int "FRAME_WORDS" 4, .glo "are_figures", .str "FIGURES" "0123456789", .int "PIECE_WORDS" 5, .glo "is_number", .cls "Puzzle", .mkr "Puzzle", .glo "law"]
def exs (K : PySem.W.Frag) : List Bool := [insOkB (G K) K, ownOkB (G K) K 86, eqCB K (ad K 86) (ad K 87), He.tupB K "SIDES" (List.map He.Dv.int [0, 1, 2, 3])]
def ex (K : PySem.W.Frag) : Bool := (exs K).all id
abbrev Hy := Hyp fa fn ex
section
variable {K : PySem.W.Frag} {mg : Str → Option Value}
theorem exAt (Y : Hy K mg) (i : Nat) {b : Bool} (h : (exs K)[i]? = some b := by rfl) : b = true := List.all_eq_true.mp (show (exs K).all id = true from Y.more) b (List.mem_of_getElem? h)
theorem insOk (Y : Hy K mg) : InsOk (G K) K := insOkB_ok (exAt Y 0)
theorem ownOk_Puzzle (Y : Hy K mg) : OwnOk (G K) K 86 := ownOkB_ok (exAt Y 1)
theorem eqC_Puzzle (Y : Hy K mg) : EqC K ((G K).ad 86) ((G K).ad 87) := eqCB_ok (exAt Y 2)
theorem tup_SIDES (Y : Hy K mg) : ∀ H, Rep (G K) K H (.tup (List.map D.int [0, 1, 2, 3])) (.ref (He.ga K "SIDES")) := tupG (exAt Y 3)
theorem cls_Puzzle (Y : Hy K mg) : Cls K ((G K).ad 86) := He.cls_ok (Y.says.fact 65 (f := .cls "Puzzle"))
theorem mk_Puzzle (Y : Hy K mg) : Mk K ((G K).ad 86) ((G K).ad 88) := He.mkr_ok (Y.says.fact 66 (f := .mkr "Puzzle"))
end
section
variable {P : Program} {w : World} {K : PySem.W.Frag} {mg : Str → Option Value} {base : Heap}
def N_l_law_well_k83 : List Str := ["script", "lap", "own", "stir", "cell"]
def ps_l_law_well_k83 : List Str := ["script", "lap"]
theorem sc_l_law_well_k83 : FnScope N_l_law_well_k83 ps_l_law_well_k83 (defScope (top 50)) := ⟨rfl, rfl, rfl, by decide +kernel, rfl, by decide +kernel, by decide +kernel⟩
def kb_l_law_well_k83 : List KB := []
theorem kbp_l_law_well_k83 : BindsOk "_law_well" "_law_well" (top 50) ps_l_law_well_k83 kb_l_law_well_k83 := .nil
theorem ok_l_law_well_k83 (Y : Hy K mg) : OkF P w K mg base (G K) 1 187 ps_l_law_well_k83 kb_l_law_well_k83 m_l_law_well_k83 := by
  obtain ⟨fd, FF⟩ := Y.says.def_ 12 (d := d187)
  have FD : FnD K "_law_well" "_law_well" (top 50) ((G K).ad 187) fd := FF
  refine okF_of rfl FD sc_l_law_well_k83 (fun _ _ _ _ _ _ us hl => match us, hl with | [_, _], _ => rfl) kbp_l_law_well_k83 ?_
  intro cdv A outer s H E hr
  have hu : (A.deeper (envOfC "_law_well" (defScope (top 50)) s.heap.objs.size ((G K).ad 187) cdv)).units + 100 < cLine := by have := hr.un; omega
  have tk := tk_cx (P := P) (w := w) (K := K) (mg := mg) (base := base) (N := N_l_law_well_k83) (qual := "_law_well") (scope := defScope (top 50)) (f := (G K).ad 187) (cdv := cdv) (A := A) (outer := outer) (s := s) (H := H) (E := E)
  apply Exists.intro
  exact db_cons (ds_s sc_l_law_well_k83.nd (de_ifE (dt_cmp op_lt pure_lt.op (de_v 1) (de_callB (call_len' rfl) op_len rfl (Y.free 0) rfl (da_cons (de_v 0) (da_nil))) rfl) (de_callTy call_int' pure_int.op rfl (Y.free 7) rfl (da_cons (de_ix (ix_seq' rfl) pure_ix.op (de_v 0) (de_v 1)) (da_nil))) (de_int)))
        (db_cons (ds_s sc_l_law_well_k83.nd (de_op (op_add4 rfl) pure_add.op (de_int) (de_op op_mul pure_mulI.op (de_int) (de_v 1))))
        (db_cons (ds_f hp_cx rfl (di_s rfl (de_op (op_add4 rfl) pure_add.op (de_sl rfl (de_v 0) (dp_none) (dp_some (de_int))) (de_lst (da_cons (de_v 2) (da_nil))))) (dg_n sc_l_law_well_k83.nd) (db_one (ds_s sc_l_law_well_k83.nd (de_op op_mod pure_mod.op (de_callTy call_int' pure_int.op rfl (Y.free 7) rfl (da_cons (de_op (op_add4 rfl) pure_add.op (de_op (op_add4 rfl) pure_add.op (de_op op_mul pure_mulI.op (de_v 3) (de_int)) (de_op op_mod pure_mod.op (de_callTy call_int' pure_int.op rfl (Y.free 7) rfl (da_cons (de_v 4) (da_nil))) (de_int))) (de_int)) (da_nil))) (de_int)))))
        (db_one (ds_r (de_lstC (da_cons (de_ifE (dt_bool (dw_or (dt_cmp op_lt pure_lt.op (de_v 2) (de_int) rfl) (dw_or1 (dt_cmp op_ge pure_ge.op (de_v 2) (de_op op_pow pure_pow.op (de_int) (de_int)) rfl)))) (de_op op_mod pure_mod.op (de_callB call_abs pure_abs.op rfl (Y.free 8) rfl (da_cons (de_v 2) (da_nil))) (de_op op_pow pure_pow.op (de_int) (de_int))) (de_int)) (da_cons (de_v 3) (da_cons (de_int) (da_nil)))))))))
def N_l_law_draw : List Str := ["well", "many", "figure"]
def ps_l_law_draw : List Str := ["well", "many"]
theorem sc_l_law_draw : FnScope N_l_law_draw ps_l_law_draw (defScope (top 51)) := ⟨rfl, rfl, rfl, by decide +kernel, rfl, by decide +kernel, by decide +kernel⟩
def kb_l_law_draw : List KB := []
theorem kbp_l_law_draw : BindsOk "_law_draw" "_law_draw" (top 51) ps_l_law_draw kb_l_law_draw := .nil
theorem ok_l_law_draw (Y : Hy K mg) : OkF P w K mg base (G K) 1 128 ps_l_law_draw kb_l_law_draw m_l_law_draw := by
  obtain ⟨fd, FF⟩ := Y.says.def_ 4 (d := d128)
  have FD : FnD K "_law_draw" "_law_draw" (top 51) ((G K).ad 128) fd := FF
  refine okF_of rfl FD sc_l_law_draw (fun _ _ _ _ _ _ us hl => match us, hl with | [_, _], _ => rfl) kbp_l_law_draw ?_
  intro cdv A outer s H E hr
  have hu : (A.deeper (envOfC "_law_draw" (defScope (top 51)) s.heap.objs.size ((G K).ad 128) cdv)).units + 100 < cLine := by have := hr.un; omega
  have tk := tk_cx (P := P) (w := w) (K := K) (mg := mg) (base := base) (N := N_l_law_draw) (qual := "_law_draw") (scope := defScope (top 51)) (f := (G K).ad 128) (cdv := cdv) (A := A) (outer := outer) (s := s) (H := H) (E := E)
  apply Exists.intro
  exact db_cons (ds_i (dt_cmp op_gt pure_gt.op (de_ixC rfl (de_v 0) (de_int)) (de_int) rfl) (db_cons (ds_a (de_callB call_divmod pure_divmod.op rfl (Y.free 24) rfl (da_cons (de_ixC rfl (de_v 0) (de_int)) (da_cons (de_v 1) (da_nil)))) (dg_t rfl rfl (dgs_c (dg_x (de_v 0) (de_int)) (dgs_c (dg_n sc_l_law_draw.nd) (dgs_0)))))
        (db_one (ds_r (de_v 2)))) (db_nil))
        (db_cons (ds_a (de_op (op_add4 rfl) pure_add.op (de_ixC rfl (de_v 0) (de_int)) (de_int)) (dg_x (de_v 0) (de_int)))
        (db_cons (ds_a (de_op op_mod pure_mod.op (de_callTy call_int' pure_int.op rfl (Y.free 7) rfl (da_cons (de_op (op_add4 rfl) pure_add.op (de_op (op_add4 rfl) pure_add.op (de_op op_mul pure_mulI.op (de_ixC rfl (de_v 0) (de_int)) (de_op (op_add4 rfl) pure_add.op (de_op op_mod pure_mod.op (de_callTy call_int' pure_int.op rfl (Y.free 7) rfl (da_cons (de_ixC rfl (de_v 0) (de_int)) (da_nil))) (de_int)) (de_int))) (de_op op_mul pure_mulI.op (de_int) (de_ixC rfl (de_v 0) (de_int)))) (de_int)) (da_nil))) (de_int)) (dg_x (de_v 0) (de_int)))
        (db_one (ds_r (de_op op_mod pure_mod.op (de_callTy call_int' pure_int.op rfl (Y.free 7) rfl (da_cons (de_op op_fdiv pure_fdiv.op (de_ixC rfl (de_v 0) (de_int)) (de_int)) (da_nil))) (de_v 1))))))
def N_l_law_of : List Str := ["well", "some"]
def ps_l_law_of : List Str := ["well", "some"]
theorem sc_l_law_of : FnScope N_l_law_of ps_l_law_of (defScope (top 52)) := ⟨rfl, rfl, rfl, by decide +kernel, rfl, by decide +kernel, by decide +kernel⟩
def kb_l_law_of : List KB := []
theorem kbp_l_law_of : BindsOk "_law_of" "_law_of" (top 52) ps_l_law_of kb_l_law_of := .nil
theorem ok_l_law_of (Y : Hy K mg) : OkF P w K mg base (G K) 2 157 ps_l_law_of kb_l_law_of m_l_law_of := by
  obtain ⟨fd, FF⟩ := Y.says.def_ 6 (d := d157)
  have FD : FnD K "_law_of" "_law_of" (top 52) ((G K).ad 157) fd := FF
  refine okF_of rfl FD sc_l_law_of (fun _ _ _ _ _ _ us hl => match us, hl with | [_, _], _ => rfl) kbp_l_law_of ?_
  intro cdv A outer s H E hr
  have hu : (A.deeper (envOfC "_law_of" (defScope (top 52)) s.heap.objs.size ((G K).ad 157) cdv)).units + 100 < cLine := by have := hr.un; omega
  have tk := tk_cx (P := P) (w := w) (K := K) (mg := mg) (base := base) (N := N_l_law_of) (qual := "_law_of") (scope := defScope (top 52)) (f := (G K).ad 157) (cdv := cdv) (A := A) (outer := outer) (s := s) (H := H) (E := E)
  apply Exists.intro
  exact db_one (ds_r (de_ix (ix_seq' rfl) pure_ix.op (de_v 1) (de_cS (ok_l_law_draw Y) tk hr (by decide) rfl (Y.glo 20) (da_cons (de_v 0) (da_cons (de_callB (call_len' rfl) op_len rfl (Y.free 0) rfl (da_cons (de_v 1) (da_nil))) (da_nil))))))
def N_l_law_cut_pieces : List Str := ["rows", "columns", "cut", "sides", "left", "row", "column", "number", "one", "other", "cell", "k"]
def ps_l_law_cut_pieces : List Str := ["rows", "columns", "cut"]
theorem sc_l_law_cut_pieces : FnScope N_l_law_cut_pieces ps_l_law_cut_pieces (defScope (top 56)) := ⟨rfl, rfl, rfl, by decide +kernel, rfl, by decide +kernel, by decide +kernel⟩
def kb_l_law_cut_pieces : List KB := []
theorem kbp_l_law_cut_pieces : BindsOk "_law_cut_pieces" "_law_cut_pieces" (top 56) ps_l_law_cut_pieces kb_l_law_cut_pieces := .nil
theorem ok_l_law_cut_pieces (Y : Hy K mg) : OkF P w K mg base (G K) 1 127 ps_l_law_cut_pieces kb_l_law_cut_pieces m_l_law_cut_pieces := by
  obtain ⟨fd, FF⟩ := Y.says.def_ 3 (d := d127)
  have FD : FnD K "_law_cut_pieces" "_law_cut_pieces" (top 56) ((G K).ad 127) fd := FF
  refine okF_of rfl FD sc_l_law_cut_pieces (fun _ _ _ _ _ _ us hl => match us, hl with | [_, _, _], _ => rfl) kbp_l_law_cut_pieces ?_
  intro cdv A outer s H E hr
  have hu : (A.deeper (envOfC "_law_cut_pieces" (defScope (top 56)) s.heap.objs.size ((G K).ad 127) cdv)).units + 100 < cLine := by have := hr.un; omega
  have tk := tk_cx (P := P) (w := w) (K := K) (mg := mg) (base := base) (N := N_l_law_cut_pieces) (qual := "_law_cut_pieces") (scope := defScope (top 56)) (f := (G K).ad 127) (cdv := cdv) (A := A) (outer := outer) (s := s) (H := H) (E := E)
  apply Exists.intro
  exact db_cons (ds_parW (is := [3, 4]) rfl (by rw [sizeLine_eq]; decide) rfl (pgs_nsC sc_l_law_cut_pieces.nd (pgs_nsC sc_l_law_cut_pieces.nd (pgs_ns0))) (da_cons (de_dc (own := [("k", 11)]) rfl hu rfl sc_l_law_cut_pieces.nd rfl (Y.free 25) (di_r1 rfl (Y.free 3) (de_op op_mul pure_mulI.op (de_v 0) (de_v 1))) rfl (by decide) (fun s H C cl fp => dg_n sc_l_law_cut_pieces.nd) (fun s H C cl fp => de_op op_fdiv pure_fdiv.op (de_v 11) (de_v 1)) (fun s H C cl fp => de_op op_mod pure_mod.op (de_callTy call_int' pure_int.op rfl (Y.free 7) rfl (da_cons (de_v 11) (da_nil))) (de_v 1)) (fun s H C cl fp => da_cons (de_int) (da_cons (de_int) (da_cons (de_int) (da_cons (de_int) (da_nil)))))) (da_cons (de_callTy (call_list' rfl) op_listC rfl (Y.free 19) rfl (da_cons (de_v 2) (da_nil))) (da_nil))))
        (db_cons (ds_f hp_cx rfl (di_s rfl (de_callTy (call_LD rfl) op_LD rfl (Y.free 19) rfl (da_cons (de_v 3) (da_nil)))) (dg_t rfl rfl (dgs_c (dg_n sc_l_law_cut_pieces.nd) (dgs_c (dg_n sc_l_law_cut_pieces.nd) (dgs_0)))) (db_cons (ds_i (dt_cmp op_lt pure_lt.op (de_op (op_add4 rfl) pure_add.op (de_v 6) (de_int)) (de_v 1) rfl) (db_cons (ds_par3 rfl sc_l_law_cut_pieces.nd (da_cons (de_bm rfl F.plainAttrs_list F.slot_list_pop F.type_list_pop mt_popAt chkL_ok op_popAt (de_v 4) (da_cons (de_int) (da_nil))) (da_cons (de_dg rfl hu (de_v 3) (de_tup (da_cons (de_v 5) (da_cons (de_v 6) (da_nil)))) (fun _ _ => rfl)) (da_cons (de_dg rfl hu (de_v 3) (de_tup (da_cons (de_v 5) (da_cons (de_op (op_add4 rfl) pure_add.op (de_v 6) (de_int)) (da_nil)))) (fun _ _ => rfl)) (da_nil)))))
        (db_one (ds_a (de_tup (da_cons (de_v 7) (da_cons (de_op op_sub pure_sub.op (de_int) (de_v 7)) (da_nil)))) (dg_t rfl rfl (dgs_c (dg_x (de_v 8) (de_int)) (dgs_c (dg_x (de_v 9) (de_int)) (dgs_0))))))) (db_nil))
        (db_one (ds_i (dt_cmp op_lt pure_lt.op (de_op (op_add4 rfl) pure_add.op (de_v 5) (de_int)) (de_v 0) rfl) (db_cons (ds_par3 rfl sc_l_law_cut_pieces.nd (da_cons (de_bm rfl F.plainAttrs_list F.slot_list_pop F.type_list_pop mt_popAt chkL_ok op_popAt (de_v 4) (da_cons (de_int) (da_nil))) (da_cons (de_dg rfl hu (de_v 3) (de_tup (da_cons (de_v 5) (da_cons (de_v 6) (da_nil)))) (fun _ _ => rfl)) (da_cons (de_dg rfl hu (de_v 3) (de_tup (da_cons (de_op (op_add4 rfl) pure_add.op (de_v 5) (de_int)) (da_cons (de_v 6) (da_nil)))) (fun _ _ => rfl)) (da_nil)))))
        (db_one (ds_a (de_tup (da_cons (de_v 7) (da_cons (de_op op_sub pure_sub.op (de_int) (de_v 7)) (da_nil)))) (dg_t rfl rfl (dgs_c (dg_x (de_v 8) (de_int)) (dgs_c (dg_x (de_v 9) (de_int)) (dgs_0))))))) (db_nil)))))
        (db_one (ds_r (de_callTy (call_tuple' rfl) pure_tuple.op rfl (Y.free 23) rfl (da_cons (de_lcG (own := [("cell", 10)]) finF_ok rfl sc_l_law_cut_pieces.nd (di_s rfl (de_callTy (call_LD rfl) op_LD rfl (Y.free 19) rfl (da_cons (de_v 3) (da_nil)))) rfl (by decide) (fun s H C cl fp => dg_n sc_l_law_cut_pieces.nd) (fun s H C cl fp => dts_0) (fun s H C cl fp => de_callTy (call_tuple' rfl) op_tupC rfl (Y.free 23) rfl (da_cons (de_dg rfl hu (de_v 3) (de_v 10) (fun _ _ => rfl)) (da_nil)))) (da_nil))))))
def N_l_law_cut : List Str := ["well", "rows", "columns", "most", "many", "k"]
def ps_l_law_cut : List Str := ["well", "rows", "columns", "most"]
theorem sc_l_law_cut : FnScope N_l_law_cut ps_l_law_cut (defScope (top 55)) := ⟨rfl, rfl, rfl, by decide +kernel, rfl, by decide +kernel, by decide +kernel⟩
def kb_l_law_cut : List KB := []
theorem kbp_l_law_cut : BindsOk "_law_cut" "_law_cut" (top 55) ps_l_law_cut kb_l_law_cut := .nil
theorem ok_l_law_cut (Y : Hy K mg) : OkF P w K mg base (G K) 3 126 ps_l_law_cut kb_l_law_cut m_l_law_cut := by
  obtain ⟨fd, FF⟩ := Y.says.def_ 2 (d := d126)
  have FD : FnD K "_law_cut" "_law_cut" (top 55) ((G K).ad 126) fd := FF
  refine okF_of rfl FD sc_l_law_cut (fun _ _ _ _ _ _ us hl => match us, hl with | [_, _, _, _], _ => rfl) kbp_l_law_cut ?_
  intro cdv A outer s H E hr
  have hu : (A.deeper (envOfC "_law_cut" (defScope (top 55)) s.heap.objs.size ((G K).ad 126) cdv)).units + 100 < cLine := by have := hr.un; omega
  have tk := tk_cx (P := P) (w := w) (K := K) (mg := mg) (base := base) (N := N_l_law_cut) (qual := "_law_cut") (scope := defScope (top 55)) (f := (G K).ad 126) (cdv := cdv) (A := A) (outer := outer) (s := s) (H := H) (E := E)
  apply Exists.intro
  exact db_cons (ds_s sc_l_law_cut.nd (de_op (op_add4 rfl) pure_add.op (de_op op_mul pure_mulI.op (de_v 1) (de_op op_sub pure_sub.op (de_v 2) (de_int))) (de_op op_mul pure_mulI.op (de_v 2) (de_op op_sub pure_sub.op (de_v 1) (de_int)))))
        (db_one (ds_r (de_callTy (call_tuple' rfl) pure_tuple.op rfl (Y.free 23) rfl (da_cons (de_lcG (own := [("k", 5)]) finF_ok rfl sc_l_law_cut.nd (di_r1 rfl (Y.free 3) (de_v 4)) rfl (by decide) (fun s H C cl fp => dg_n sc_l_law_cut.nd) (fun s H C cl fp => dts_0) (fun s H C cl fp => de_op op_mul pure_mulI.op (de_op (op_add4 rfl) pure_add.op (de_int) (de_cS (ok_l_law_draw Y) takesN hr (by decide) rfl (Y.glo 20) (da_cons (de_v 0) (da_cons (de_v 3) (da_nil))))) (de_cS (ok_l_law_of Y) takesN hr (by decide) rfl (Y.glo 16) (da_cons (de_v 0) (da_cons (de_tup (da_cons (de_int) (da_cons (de_op op_sub pure_sub.op (de_int) (de_int)) (da_nil)))) (da_nil)))))) (da_nil)))))
def N_l_law_turned : List Str := ["piece", "many", "k"]
def ps_l_law_turned : List Str := ["piece", "many"]
theorem sc_l_law_turned : FnScope N_l_law_turned ps_l_law_turned (defScope (top 54)) := ⟨rfl, rfl, rfl, by decide +kernel, rfl, by decide +kernel, by decide +kernel⟩
def kb_l_law_turned : List KB := []
theorem kbp_l_law_turned : BindsOk "_law_turned" "_law_turned" (top 54) ps_l_law_turned kb_l_law_turned := .nil
theorem ok_l_law_turned (Y : Hy K mg) : OkF P w K mg base (G K) 1 186 ps_l_law_turned kb_l_law_turned m_l_law_turned := by
  obtain ⟨fd, FF⟩ := Y.says.def_ 11 (d := d186)
  have FD : FnD K "_law_turned" "_law_turned" (top 54) ((G K).ad 186) fd := FF
  refine okF_of rfl FD sc_l_law_turned (fun _ _ _ _ _ _ us hl => match us, hl with | [_, _], _ => rfl) kbp_l_law_turned ?_
  intro cdv A outer s H E hr
  have hu : (A.deeper (envOfC "_law_turned" (defScope (top 54)) s.heap.objs.size ((G K).ad 186) cdv)).units + 100 < cLine := by have := hr.un; omega
  have tk := tk_cx (P := P) (w := w) (K := K) (mg := mg) (base := base) (N := N_l_law_turned) (qual := "_law_turned") (scope := defScope (top 54)) (f := (G K).ad 186) (cdv := cdv) (A := A) (outer := outer) (s := s) (H := H) (E := E)
  apply Exists.intro
  exact db_one (ds_r (de_callTy (call_tuple' rfl) pure_tuple.op rfl (Y.free 23) rfl (da_cons (de_lcG (own := [("k", 2)]) finF_ok rfl sc_l_law_turned.nd (di_r1 rfl (Y.free 3) (de_int)) rfl (by decide) (fun s H C cl fp => dg_n sc_l_law_turned.nd) (fun s H C cl fp => dts_0) (fun s H C cl fp => de_ix (ix_seq' rfl) pure_ix.op (de_v 0) (de_op op_mod pure_mod.op (de_callTy call_int' pure_int.op rfl (Y.free 7) rfl (da_cons (de_op op_sub pure_sub.op (de_v 2) (de_v 1)) (da_nil))) (de_int)))) (da_nil))))
def N_l_law_puzzle : List Str := ["well", "most", "rows", "columns", "turning", "pieces", "k", "side", "row", "column", "piece"]
def ps_l_law_puzzle : List Str := ["well", "most"]
theorem sc_l_law_puzzle : FnScope N_l_law_puzzle ps_l_law_puzzle (defScope (top 57)) := ⟨rfl, rfl, rfl, by decide +kernel, rfl, by decide +kernel, by decide +kernel⟩
def kb_l_law_puzzle : List KB := []
theorem kbp_l_law_puzzle : BindsOk "_law_puzzle" "_law_puzzle" (top 57) ps_l_law_puzzle kb_l_law_puzzle := .nil
theorem ok_l_law_puzzle (Y : Hy K mg) : OkF P w K mg base (G K) 4 168 ps_l_law_puzzle kb_l_law_puzzle m_l_law_puzzle := by
  obtain ⟨fd, FF⟩ := Y.says.def_ 7 (d := d168)
  have FD : FnD K "_law_puzzle" "_law_puzzle" (top 57) ((G K).ad 168) fd := FF
  refine okF_of rfl FD sc_l_law_puzzle (fun _ _ _ _ _ _ us hl => match us, hl with | [_, _], _ => rfl) kbp_l_law_puzzle ?_
  intro cdv A outer s H E hr
  have hu : (A.deeper (envOfC "_law_puzzle" (defScope (top 57)) s.heap.objs.size ((G K).ad 168) cdv)).units + 100 < cLine := by have := hr.un; omega
  have tk := tk_cx (P := P) (w := w) (K := K) (mg := mg) (base := base) (N := N_l_law_puzzle) (qual := "_law_puzzle") (scope := defScope (top 57)) (f := (G K).ad 168) (cdv := cdv) (A := A) (outer := outer) (s := s) (H := H) (E := E)
  apply Exists.intro
  exact db_cons (ds_a (de_cS (ok_l_law_of Y) tk hr (by decide) rfl (Y.glo 16) (da_cons (de_v 0) (da_cons (de_lcG (own := [("row", 8), ("column", 9)]) finF_ok rfl sc_l_law_puzzle.nd (di_s rfl (de_tup (da_cons (de_tup (da_cons (de_int) (da_cons (de_int) (da_nil)))) (da_cons (de_tup (da_cons (de_int) (da_cons (de_int) (da_nil)))) (da_cons (de_tup (da_cons (de_int) (da_cons (de_int) (da_nil)))) (da_cons (de_tup (da_cons (de_int) (da_cons (de_int) (da_nil)))) (da_cons (de_tup (da_cons (de_int) (da_cons (de_int) (da_nil)))) (da_cons (de_tup (da_cons (de_int) (da_cons (de_int) (da_nil)))) (da_cons (de_tup (da_cons (de_int) (da_cons (de_int) (da_nil)))) (da_cons (de_tup (da_cons (de_int) (da_cons (de_int) (da_nil)))) (da_cons (de_tup (da_cons (de_int) (da_cons (de_int) (da_nil)))) (da_cons (de_tup (da_cons (de_int) (da_cons (de_int) (da_nil)))) (da_cons (de_tup (da_cons (de_int) (da_cons (de_int) (da_nil)))) (da_nil)))))))))))))) rfl (by decide) (fun s H C cl fp => dg_t rfl rfl (dgs_c (dg_n sc_l_law_puzzle.nd) (dgs_c (dg_n sc_l_law_puzzle.nd) (dgs_0)))) (fun s H C cl fp => dts_1 (dt_cmp (op_le2 rfl hu) pure_le.op (de_op op_mul pure_mulI.op (de_v 8) (de_v 9)) (de_v 1) rfl)) (fun s H C cl fp => de_tup (da_cons (de_v 8) (da_cons (de_v 9) (da_nil))))) (da_nil)))) (dg_t rfl rfl (dgs_c (dg_n sc_l_law_puzzle.nd) (dgs_c (dg_n sc_l_law_puzzle.nd) (dgs_0)))))
        (db_cons (ds_par2 rfl sc_l_law_puzzle.nd (da_cons (de_cmp (op_eqD' rfl hu) pure_eq.op (de_cS (ok_l_law_draw Y) tk hr (by decide) rfl (Y.glo 20) (da_cons (de_v 0) (da_cons (de_int) (da_nil)))) (de_int) rfl) (da_cons (de_callTy (call_list' rfl) op_listC rfl (Y.free 19) rfl (da_cons (de_cP (ok_l_law_cut_pieces Y) tk hr (by decide) rfl (Y.glo 18) (da_cons (de_v 2) (da_cons (de_v 3) (da_cons (de_cS (ok_l_law_cut Y) tk hr (by decide) rfl (Y.glo 17) (da_cons (de_v 0) (da_cons (de_v 2) (da_cons (de_v 3) (da_cons (de_cS (ok_l_law_of Y) tk hr (by decide) rfl (Y.glo 16) (da_cons (de_v 0) (da_cons (de_tup (da_cons (de_int) (da_cons (de_int) (da_cons (de_int) (da_cons (de_int) (da_cons (de_int) (da_nil))))))) (da_nil)))) (da_nil)))))) (da_nil))))) (da_nil))) (da_nil))))
        (db_cons (ds_i (dt_tru rfl (de_v 4)) (db_one (ds_lcG (own := [("piece", 10)]) finC_ok rfl sc_l_law_puzzle.nd (di_s rfl (de_fz (de_v 5))) rfl (by decide) (fun s H C cl fp => dg_n sc_l_law_puzzle.nd) (fun s H C cl fp => dts_0) (fun s H C cl fp => de_cP (ok_l_law_turned Y) takesN hr (by decide) rfl (Y.glo 21) (da_cons (de_v 10) (da_cons (de_cS (ok_l_law_draw Y) takesN hr (by decide) rfl (Y.glo 20) (da_cons (de_v 0) (da_cons (de_int) (da_nil)))) (da_nil)))))) (db_nil))
        (db_cons (ds_i (dt_cmp (op_eqD' rfl hu) pure_eq.op (de_cS (ok_l_law_draw Y) tk hr (by decide) rfl (Y.glo 20) (da_cons (de_v 0) (da_cons (de_int) (da_nil)))) (de_int) rfl) (db_cons (ds_par2 rfl sc_l_law_puzzle.nd (da_cons (de_cS (ok_l_law_draw Y) tk hr (by decide) rfl (Y.glo 20) (da_cons (de_v 0) (da_cons (de_callB (call_len' rfl) op_len rfl (Y.free 0) rfl (da_cons (de_v 5) (da_nil))) (da_nil)))) (da_cons (de_cS (ok_l_law_draw Y) tk hr (by decide) rfl (Y.glo 20) (da_cons (de_v 0) (da_cons (de_int) (da_nil)))) (da_nil))))
        (db_one (ds_a (de_op (op_add4 rfl) pure_add.op (de_op (op_add4 rfl) pure_add.op (de_sl rfl (de_ixC rfl (de_v 5) (de_v 6)) (dp_none) (dp_some (de_v 7))) (de_tup (da_cons (de_cS (ok_l_law_of Y) tk hr (by decide) rfl (Y.glo 16) (da_cons (de_v 0) (da_cons (de_tup (da_cons (de_int) (da_cons (de_int) (da_cons (de_op op_sub pure_sub.op (de_int) (de_int)) (da_cons (de_int) (da_cons (de_op op_sub pure_sub.op (de_int) (de_int)) (da_nil))))))) (da_nil)))) (da_nil)))) (de_sl rfl (de_ixC rfl (de_v 5) (de_v 6)) (dp_some (de_op (op_add4 rfl) pure_add.op (de_v 7) (de_int))) (dp_none))) (dg_x (de_v 5) (de_v 6))))) (db_nil))
        (db_one (ds_r (de_tup (da_cons (de_v 2) (da_cons (de_v 3) (da_cons (de_callTy (call_tuple' rfl) pure_tuple.op rfl (Y.free 23) rfl (da_cons (de_callB (call_sorted' rfl hu) pure_sorted.op rfl (Y.free 22) rfl (da_cons (de_fz (de_v 5)) (da_nil))) (da_nil))) (da_cons (de_v 4) (da_nil)))))))))))
def N_l_law_text : List Str := ["parts", "piece", "side"]
def ps_l_law_text : List Str := ["parts"]
theorem sc_l_law_text : FnScope N_l_law_text ps_l_law_text (defScope (top 59)) := ⟨rfl, rfl, rfl, by decide +kernel, rfl, by decide +kernel, by decide +kernel⟩
def kb_l_law_text : List KB := []
theorem kbp_l_law_text : BindsOk "_law_text" "_law_text" (top 59) ps_l_law_text kb_l_law_text := .nil
theorem ok_l_law_text (Y : Hy K mg) : OkF P w K mg base (G K) 1 184 ps_l_law_text kb_l_law_text m_l_law_text := by
  obtain ⟨fd, FF⟩ := Y.says.def_ 10 (d := d184)
  have FD : FnD K "_law_text" "_law_text" (top 59) ((G K).ad 184) fd := FF
  refine okF_of rfl FD sc_l_law_text (fun _ _ _ _ _ _ us hl => match us, hl with | [_], _ => rfl) kbp_l_law_text ?_
  intro cdv A outer s H E hr
  have hu : (A.deeper (envOfC "_law_text" (defScope (top 59)) s.heap.objs.size ((G K).ad 184) cdv)).units + 100 < cLine := by have := hr.un; omega
  have tk := tk_cx (P := P) (w := w) (K := K) (mg := mg) (base := base) (N := N_l_law_text) (qual := "_law_text") (scope := defScope (top 59)) (f := (G K).ad 184) (cdv := cdv) (A := A) (outer := outer) (s := s) (H := H) (E := E)
  apply Exists.intro
  exact db_one (ds_r (de_op (op_add4 rfl) pure_add.op (de_tup (da_cons (de_op (op_add4 rfl) pure_add.op (de_op (op_add4 rfl) pure_add.op (de_op (op_add4 rfl) pure_add.op (de_op (op_add4 rfl) pure_add.op (de_op (op_add4 rfl) pure_add.op (de_str) (de_callTy call_str' pure_str.op rfl (Y.free 26) rfl (da_cons (de_ix (ix_seq' rfl) pure_ix.op (de_v 0) (de_int)) (da_nil)))) (de_str)) (de_callTy call_str' pure_str.op rfl (Y.free 26) rfl (da_cons (de_ix (ix_seq' rfl) pure_ix.op (de_v 0) (de_int)) (da_nil)))) (de_str)) (de_ifE (dt_tru rfl (de_ix (ix_seq' rfl) pure_ix.op (de_v 0) (de_int))) (de_str) (de_str))) (da_nil))) (de_callTy (call_tuple' rfl) pure_tuple.op rfl (Y.free 23) rfl (da_cons (de_lcG (own := [("piece", 1)]) finF_ok rfl sc_l_law_text.nd (di_s rfl (de_ix (ix_seq' rfl) pure_ix.op (de_v 0) (de_int))) rfl (by decide) (fun s H C cl fp => dg_n sc_l_law_text.nd) (fun s H C cl fp => dts_0) (fun s H C cl fp => de_op (op_add4 rfl) pure_add.op (de_str) (de_bm rfl F.plainAttrs_str F.slot_str_join F.type_str_join (mt_join' rfl) chkS_ok pure_join.op (de_str) (da_cons (de_lcG (own := [("side", 2)]) finF_ok rfl sc_l_law_text.nd (di_s rfl (de_v 1)) rfl (by decide) (fun s H C cl fp => dg_n sc_l_law_text.nd) (fun s H C cl fp => dts_0) (fun s H C cl fp => de_callTy call_str' pure_str.op rfl (Y.free 26) rfl (da_cons (de_v 2) (da_nil)))) (da_nil))))) (da_nil)))))
def N_is_whole : List Str := ["value"]
def ps_is_whole : List Str := ["value"]
theorem sc_is_whole : FnScope N_is_whole ps_is_whole (defScope (top 8)) := ⟨rfl, rfl, rfl, by decide +kernel, rfl, by decide +kernel, by decide +kernel⟩
def kb_is_whole : List KB := []
theorem kbp_is_whole : BindsOk "is_whole" "is_whole" (top 8) ps_is_whole kb_is_whole := .nil
theorem ok_is_whole (Y : Hy K mg) : OkF P w K mg base (G K) 1 430 ps_is_whole kb_is_whole m_is_whole := by
  obtain ⟨fd, FF⟩ := Y.says.def_ 28 (d := d430)
  have FD : FnD K "is_whole" "is_whole" (top 8) ((G K).ad 430) fd := FF
  refine okF_of rfl FD sc_is_whole (fun _ _ _ _ _ _ us hl => match us, hl with | [_], _ => rfl) kbp_is_whole ?_
  intro cdv A outer s H E hr
  have hu : (A.deeper (envOfC "is_whole" (defScope (top 8)) s.heap.objs.size ((G K).ad 430) cdv)).units + 100 < cLine := by have := hr.un; omega
  have tk := tk_cx (P := P) (w := w) (K := K) (mg := mg) (base := base) (N := N_is_whole) (qual := "is_whole") (scope := defScope (top 8)) (f := (G K).ad 430) (cdv := cdv) (A := A) (outer := outer) (s := s) (H := H) (E := E)
  apply Exists.intro
  exact db_one (ds_r (de_and (de_isi .int rfl (insOk Y) rfl (Y.free 40) (de_v 0) rfl (Y.free 7) rfl) (de_one (de_not (de_isi .bool rfl (insOk Y) rfl (Y.free 40) (de_v 0) rfl (Y.free 41) rfl)))))
def N_is_between : List Str := ["value", "least", "most"]
def ps_is_between : List Str := ["value", "least", "most"]
theorem sc_is_between : FnScope N_is_between ps_is_between (defScope (top 9)) := ⟨rfl, rfl, rfl, by decide +kernel, rfl, by decide +kernel, by decide +kernel⟩
def kb_is_between : List KB := []
theorem kbp_is_between : BindsOk "is_between" "is_between" (top 9) ps_is_between kb_is_between := .nil
theorem ok_is_between (Y : Hy K mg) : OkF P w K mg base (G K) 2 383 ps_is_between kb_is_between m_is_between := by
  obtain ⟨fd, FF⟩ := Y.says.def_ 20 (d := d383)
  have FD : FnD K "is_between" "is_between" (top 9) ((G K).ad 383) fd := FF
  refine okF_of rfl FD sc_is_between (fun _ _ _ _ _ _ us hl => match us, hl with | [_, _, _], _ => rfl) kbp_is_between ?_
  intro cdv A outer s H E hr
  have hu : (A.deeper (envOfC "is_between" (defScope (top 9)) s.heap.objs.size ((G K).ad 383) cdv)).units + 100 < cLine := by have := hr.un; omega
  have tk := tk_cx (P := P) (w := w) (K := K) (mg := mg) (base := base) (N := N_is_between) (qual := "is_between") (scope := defScope (top 9)) (f := (G K).ad 383) (cdv := cdv) (A := A) (outer := outer) (s := s) (H := H) (E := E)
  apply Exists.intro
  exact db_one (ds_r (de_and (de_cP (ok_is_whole Y) tk hr (by decide) rfl (Y.glo 39) (da_cons (de_v 0) (da_nil))) (de_one (de_ch (op_le2 rfl hu) pure_le.op (op_le2 rfl hu) pure_le.op (de_v 1) (de_v 0) (de_v 2)))))
def N_check_rows : List Str := ["rows"]
def ps_check_rows : List Str := ["rows"]
theorem sc_check_rows : FnScope N_check_rows ps_check_rows (defScope (top 25)) := ⟨rfl, rfl, rfl, by decide +kernel, rfl, by decide +kernel, by decide +kernel⟩
def kb_check_rows : List KB := []
theorem kbp_check_rows : BindsOk "check_rows" "check_rows" (top 25) ps_check_rows kb_check_rows := .nil
theorem ok_check_rows (Y : Hy K mg) : OkF P w K mg base (G K) 3 284 ps_check_rows kb_check_rows m_check_rows := by
  obtain ⟨fd, FF⟩ := Y.says.def_ 18 (d := d284)
  have FD : FnD K "check_rows" "check_rows" (top 25) ((G K).ad 284) fd := FF
  obtain ⟨t_MOST_CELLS, g_MOST_CELLS⟩ := Y.int 37 (x := "MOST_CELLS") (z := 6)
  refine okF_of rfl FD sc_check_rows (fun _ _ _ _ _ _ us hl => match us, hl with | [_], _ => rfl) kbp_check_rows ?_
  intro cdv A outer s H E hr
  have hu : (A.deeper (envOfC "check_rows" (defScope (top 25)) s.heap.objs.size ((G K).ad 284) cdv)).units + 100 < cLine := by have := hr.un; omega
  have tk := tk_cx (P := P) (w := w) (K := K) (mg := mg) (base := base) (N := N_check_rows) (qual := "check_rows") (scope := defScope (top 25)) (f := (G K).ad 284) (cdv := cdv) (A := A) (outer := outer) (s := s) (H := H) (E := E)
  apply Exists.intro
  exact db_one (ds_i (dt_not (dt_val (de_cP (ok_is_between Y) tk hr (by decide) rfl (Y.glo 38) (da_cons (de_v 0) (da_cons (de_int) (da_cons (de_glob (v := .int 6) (d := .int 6) rfl g_MOST_CELLS ⟨_, rfl⟩ (fun _ => .int _)) (da_nil))))))) (db_one (ds_bad)) (db_nil))
def N_check_columns : List Str := ["rows", "columns"]
def ps_check_columns : List Str := ["rows", "columns"]
theorem sc_check_columns : FnScope N_check_columns ps_check_columns (defScope (top 26)) := ⟨rfl, rfl, rfl, by decide +kernel, rfl, by decide +kernel, by decide +kernel⟩
def kb_check_columns : List KB := []
theorem kbp_check_columns : BindsOk "check_columns" "check_columns" (top 26) ps_check_columns kb_check_columns := .nil
theorem ok_check_columns (Y : Hy K mg) : OkF P w K mg base (G K) 3 271 ps_check_columns kb_check_columns m_check_columns := by
  obtain ⟨fd, FF⟩ := Y.says.def_ 15 (d := d271)
  have FD : FnD K "check_columns" "check_columns" (top 26) ((G K).ad 271) fd := FF
  obtain ⟨t_MOST_CELLS, g_MOST_CELLS⟩ := Y.int 37 (x := "MOST_CELLS") (z := 6)
  refine okF_of rfl FD sc_check_columns (fun _ _ _ _ _ _ us hl => match us, hl with | [_, _], _ => rfl) kbp_check_columns ?_
  intro cdv A outer s H E hr
  have hu : (A.deeper (envOfC "check_columns" (defScope (top 26)) s.heap.objs.size ((G K).ad 271) cdv)).units + 100 < cLine := by have := hr.un; omega
  have tk := tk_cx (P := P) (w := w) (K := K) (mg := mg) (base := base) (N := N_check_columns) (qual := "check_columns") (scope := defScope (top 26)) (f := (G K).ad 271) (cdv := cdv) (A := A) (outer := outer) (s := s) (H := H) (E := E)
  apply Exists.intro
  exact db_one (ds_i (dt_bool (dw_or (dt_not (dt_val (de_cP (ok_is_between Y) tk hr (by decide) rfl (Y.glo 38) (da_cons (de_v 1) (da_cons (de_int) (da_cons (de_glob (v := .int 6) (d := .int 6) rfl g_MOST_CELLS ⟨_, rfl⟩ (fun _ => .int _)) (da_nil))))))) (dw_or1 (dt_cmp op_gt pure_gt.op (de_op op_mul pure_mulI.op (de_v 0) (de_v 1)) (de_glob (v := .int 6) (d := .int 6) rfl g_MOST_CELLS ⟨_, rfl⟩ (fun _ => .int _)) rfl)))) (db_one (ds_bad)) (db_nil))
def N_check_frame : List Str := ["rows", "columns"]
def ps_check_frame : List Str := ["rows", "columns"]
theorem sc_check_frame : FnScope N_check_frame ps_check_frame (defScope (top 27)) := ⟨rfl, rfl, rfl, by decide +kernel, rfl, by decide +kernel, by decide +kernel⟩
def kb_check_frame : List KB := []
theorem kbp_check_frame : BindsOk "check_frame" "check_frame" (top 27) ps_check_frame kb_check_frame := .nil
theorem ok_check_frame (Y : Hy K mg) : OkF P w K mg base (G K) 4 273 ps_check_frame kb_check_frame m_check_frame := by
  obtain ⟨fd, FF⟩ := Y.says.def_ 16 (d := d273)
  have FD : FnD K "check_frame" "check_frame" (top 27) ((G K).ad 273) fd := FF
  refine okF_of rfl FD sc_check_frame (fun _ _ _ _ _ _ us hl => match us, hl with | [_, _], _ => rfl) kbp_check_frame ?_
  intro cdv A outer s H E hr
  have hu : (A.deeper (envOfC "check_frame" (defScope (top 27)) s.heap.objs.size ((G K).ad 273) cdv)).units + 100 < cLine := by have := hr.un; omega
  have tk := tk_cx (P := P) (w := w) (K := K) (mg := mg) (base := base) (N := N_check_frame) (qual := "check_frame") (scope := defScope (top 27)) (f := (G K).ad 273) (cdv := cdv) (A := A) (outer := outer) (s := s) (H := H) (E := E)
  apply Exists.intro
  exact db_cons (ds_e (de_cP (ok_check_rows Y) tk hr (by decide) rfl (Y.glo 35) (da_cons (de_v 0) (da_nil))))
        (db_one (ds_e (de_cP (ok_check_columns Y) tk hr (by decide) rfl (Y.glo 36) (da_cons (de_v 0) (da_cons (de_v 1) (da_nil))))))
def N_is_side : List Str := ["ahead", "value"]
def ps_is_side : List Str := ["ahead", "value"]
theorem sc_is_side : FnScope N_is_side ps_is_side (defScope (top 20)) := ⟨rfl, rfl, rfl, by decide +kernel, rfl, by decide +kernel, by decide +kernel⟩
def kb_is_side : List KB := []
theorem kbp_is_side : BindsOk "is_side" "is_side" (top 20) ps_is_side kb_is_side := .nil
theorem ok_is_side (Y : Hy K mg) : OkF P w K mg base (G K) 3 423 ps_is_side kb_is_side m_is_side := by
  obtain ⟨fd, FF⟩ := Y.says.def_ 27 (d := d423)
  have FD : FnD K "is_side" "is_side" (top 20) ((G K).ad 423) fd := FF
  obtain ⟨t_MOST_SORT, g_MOST_SORT⟩ := Y.int 48 (x := "MOST_SORT") (z := 9)
  refine okF_of rfl FD sc_is_side (fun _ _ _ _ _ _ us hl => match us, hl with | [_, _], _ => rfl) kbp_is_side ?_
  intro cdv A outer s H E hr
  have hu : (A.deeper (envOfC "is_side" (defScope (top 20)) s.heap.objs.size ((G K).ad 423) cdv)).units + 100 < cLine := by have := hr.un; omega
  have tk := tk_cx (P := P) (w := w) (K := K) (mg := mg) (base := base) (N := N_is_side) (qual := "is_side") (scope := defScope (top 20)) (f := (G K).ad 423) (cdv := cdv) (A := A) (outer := outer) (s := s) (H := H) (E := E)
  apply Exists.intro
  exact db_one (ds_r (de_cP (ok_is_between Y) tk hr (by decide) rfl (Y.glo 38) (da_cons (de_v 1) (da_cons (de_un un_neg pure_neg.op (de_glob (v := .int 9) (d := .int 9) rfl g_MOST_SORT ⟨_, rfl⟩ (fun _ => .int _))) (da_cons (de_glob (v := .int 9) (d := .int 9) rfl g_MOST_SORT ⟨_, rfl⟩ (fun _ => .int _)) (da_nil))))))
def N_wrong_in : List Str := ["value", "least", "most", "is_right", "index", "each"]
def ps_wrong_in : List Str := ["value", "least", "most", "is_right"]
theorem sc_wrong_in : FnScope N_wrong_in ps_wrong_in (defScope (top 10)) := ⟨rfl, rfl, rfl, by decide +kernel, rfl, by decide +kernel, by decide +kernel⟩
def kb_wrong_in : List KB := []
theorem kbp_wrong_in : BindsOk "wrong_in" "wrong_in" (top 10) ps_wrong_in kb_wrong_in := .nil
theorem tab_wrong_in_is_side_is_right_hi : ∀ p ∈ tab_wrong_in_is_side_is_right, ∀ k, (∃ q ∈ tab_wrong_in_is_side_is_right, q.1 = k) → (G K).ad p.1 = (G K).ad k → p.1 = k := by
  intro p hp k hk _
  obtain ⟨q, hq, rfl⟩ := hk
  rw [List.mem_singleton.mp hp, List.mem_singleton.mp hq]
theorem tab_wrong_in_is_side_is_right_ok {X : Cx} (Y : Hy X.K X.mg) : TabOk X (G X.K) X.K 3 tab_wrong_in_is_side_is_right := tabOk_cons (ok_is_side Y) rfl (by decide) tabOk_nil
theorem ok_wrong_in_is_side (Y : Hy K mg) : OkF P w K mg base (G K) 4 677 ps_wrong_in kb_wrong_in m_wrong_in_is_side := by
  obtain ⟨fd, FF⟩ := Y.says.def_ 33 (d := d677)
  have FD : FnD K "wrong_in" "wrong_in" (top 10) ((G K).ad 677) fd := FF
  refine okF_of rfl FD sc_wrong_in (fun _ _ _ _ _ _ us hl => match us, hl with | [_, _, _, _], _ => rfl) kbp_wrong_in ?_
  intro cdv A outer s H E hr
  have hu : (A.deeper (envOfC "wrong_in" (defScope (top 10)) s.heap.objs.size ((G K).ad 677) cdv)).units + 100 < cLine := by have := hr.un; omega
  have tk := tk_cx (P := P) (w := w) (K := K) (mg := mg) (base := base) (N := N_wrong_in) (qual := "wrong_in") (scope := defScope (top 10)) (f := (G K).ad 677) (cdv := cdv) (A := A) (outer := outer) (s := s) (H := H) (E := E)
  apply Exists.intro
  exact db_cons (ds_i (dt_bool (dw_or (dt_not (dt_val (de_isi .tuple rfl (insOk Y) rfl (Y.free 40) (de_v 0) rfl (Y.free 23) rfl))) (dw_or1 (dt_cmp op_lt pure_lt.op (de_callB (call_len' rfl) op_len rfl (Y.free 0) rfl (da_cons (de_v 0) (da_nil))) (de_v 1) rfl)))) (db_one (ds_r (de_lst (da_cons (de_non) (da_nil))))) (db_nil))
        (db_cons (ds_f hp_cx rfl (di_en rfl rfl (Y.free 49) (de_v 0)) (dg_t rfl rfl (dgs_c (dg_n sc_wrong_in.nd) (dgs_c (dg_n sc_wrong_in.nd) (dgs_0)))) (db_one (ds_i (dt_bool (dw_or (dt_cmp (op_eqD' rfl hu) pure_eq.op (de_v 4) (de_v 2) rfl) (dw_or1 (dt_not (dt_val (de_callA tab_wrong_in_is_side_is_right (tab_wrong_in_is_side_is_right_hi) (tab_wrong_in_is_side_is_right_ok Y) (hr.mono (by decide)) 3 (da_cons (de_sl rfl (de_v 0) (dp_none) (dp_some (de_v 4))) (da_cons (de_v 5) (da_nil))))))))) (db_one (ds_r (de_lst (da_cons (de_v 4) (da_nil))))) (db_nil))))
        (db_one (ds_r (de_lst (da_nil)))))
def N_are_all : List Str := ["value", "least", "most", "is_right"]
def ps_are_all : List Str := ["value", "least", "most", "is_right"]
theorem sc_are_all : FnScope N_are_all ps_are_all (defScope (top 11)) := ⟨rfl, rfl, rfl, by decide +kernel, rfl, by decide +kernel, by decide +kernel⟩
def kb_are_all : List KB := []
theorem kbp_are_all : BindsOk "are_all" "are_all" (top 11) ps_are_all kb_are_all := .nil
theorem ok_are_all_is_side (Y : Hy K mg) : OkF P w K mg base (G K) 5 201 ps_are_all kb_are_all m_are_all_is_side := by
  obtain ⟨fd, FF⟩ := Y.says.def_ 13 (d := d201)
  have FD : FnD K "are_all" "are_all" (top 11) ((G K).ad 201) fd := FF
  refine okF_of rfl FD sc_are_all (fun _ _ _ _ _ _ us hl => match us, hl with | [_, _, _, _], _ => rfl) kbp_are_all ?_
  intro cdv A outer s H E hr
  have hu : (A.deeper (envOfC "are_all" (defScope (top 11)) s.heap.objs.size ((G K).ad 201) cdv)).units + 100 < cLine := by have := hr.un; omega
  have tk := tk_cx (P := P) (w := w) (K := K) (mg := mg) (base := base) (N := N_are_all) (qual := "are_all") (scope := defScope (top 11)) (f := (G K).ad 201) (cdv := cdv) (A := A) (outer := outer) (s := s) (H := H) (E := E)
  apply Exists.intro
  exact db_one (ds_r (de_cmp (op_eqD' rfl hu) pure_eq.op (de_cP (ok_wrong_in_is_side Y) tk hr (by decide) rfl (Y.glo 43) (da_cons (de_v 0) (da_cons (de_v 1) (da_cons (de_v 2) (da_cons (de_v 3) (da_nil)))))) (de_lst (da_nil)) rfl))
def N_is_piece : List Str := ["value"]
def ps_is_piece : List Str := ["value"]
theorem sc_is_piece : FnScope N_is_piece ps_is_piece (defScope (top 21)) := ⟨rfl, rfl, rfl, by decide +kernel, rfl, by decide +kernel, by decide +kernel⟩
def kb_is_piece : List KB := []
theorem kbp_is_piece : BindsOk "is_piece" "is_piece" (top 21) ps_is_piece kb_is_piece := .nil
theorem ok_is_piece (Y : Hy K mg) : OkF P w K mg base (G K) 6 412 ps_is_piece kb_is_piece m_is_piece := by
  obtain ⟨fd, FF⟩ := Y.says.def_ 25 (d := d412)
  have FD : FnD K "is_piece" "is_piece" (top 21) ((G K).ad 412) fd := FF
  refine okF_of rfl FD sc_is_piece (fun _ _ _ _ _ _ us hl => match us, hl with | [_], _ => rfl) kbp_is_piece ?_
  intro cdv A outer s H E hr
  have hu : (A.deeper (envOfC "is_piece" (defScope (top 21)) s.heap.objs.size ((G K).ad 412) cdv)).units + 100 < cLine := by have := hr.un; omega
  have tk := tk_cx (P := P) (w := w) (K := K) (mg := mg) (base := base) (N := N_is_piece) (qual := "is_piece") (scope := defScope (top 21)) (f := (G K).ad 412) (cdv := cdv) (A := A) (outer := outer) (s := s) (H := H) (E := E)
  apply Exists.intro
  exact db_one (ds_r (de_cP (ok_are_all_is_side Y) tk hr (by decide) rfl (Y.glo 47) (da_cons (de_v 0) (da_cons (de_callB (call_len' rfl) op_len rfl (Y.free 0) rfl (da_cons (de_glob (v := .ref (He.ga K "SIDES")) (d := .tup (List.map D.int [0, 1, 2, 3])) rfl (Y.glo 46) rfl (tup_SIDES Y)) (da_nil))) (da_cons (de_callB (call_len' rfl) op_len rfl (Y.free 0) rfl (da_cons (de_glob (v := .ref (He.ga K "SIDES")) (d := .tup (List.map D.int [0, 1, 2, 3])) rfl (Y.glo 46) rfl (tup_SIDES Y)) (da_nil))) (da_cons (de_glob (v := .ref ((G K).ad 423)) (d := .glo 423) rfl (Y.glo 45) rfl (fun _ => .glo 423)) (da_nil)))))))
def N_is_next_piece : List Str := ["ahead", "value"]
def ps_is_next_piece : List Str := ["ahead", "value"]
theorem sc_is_next_piece : FnScope N_is_next_piece ps_is_next_piece (defScope (top 22)) := ⟨rfl, rfl, rfl, by decide +kernel, rfl, by decide +kernel, by decide +kernel⟩
def kb_is_next_piece : List KB := []
theorem kbp_is_next_piece : BindsOk "is_next_piece" "is_next_piece" (top 22) ps_is_next_piece kb_is_next_piece := .nil
theorem ok_is_next_piece (Y : Hy K mg) : OkF P w K mg base (G K) 7 404 ps_is_next_piece kb_is_next_piece m_is_next_piece := by
  obtain ⟨fd, FF⟩ := Y.says.def_ 23 (d := d404)
  have FD : FnD K "is_next_piece" "is_next_piece" (top 22) ((G K).ad 404) fd := FF
  refine okF_of rfl FD sc_is_next_piece (fun _ _ _ _ _ _ us hl => match us, hl with | [_, _], _ => rfl) kbp_is_next_piece ?_
  intro cdv A outer s H E hr
  have hu : (A.deeper (envOfC "is_next_piece" (defScope (top 22)) s.heap.objs.size ((G K).ad 404) cdv)).units + 100 < cLine := by have := hr.un; omega
  have tk := tk_cx (P := P) (w := w) (K := K) (mg := mg) (base := base) (N := N_is_next_piece) (qual := "is_next_piece") (scope := defScope (top 22)) (f := (G K).ad 404) (cdv := cdv) (A := A) (outer := outer) (s := s) (H := H) (E := E)
  apply Exists.intro
  exact db_one (ds_r (de_and (de_cP (ok_is_piece Y) tk hr (by decide) rfl (Y.glo 44) (da_cons (de_v 1) (da_nil))) (de_one (de_or (de_cmp (op_eqD' rfl hu) pure_eq.op (de_v 0) (de_tup (da_nil)) rfl) (de_one (de_cmp (op_le2 rfl hu) pure_le.op (de_ix (ix_seq' rfl) pure_ix.op (de_v 0) (de_un un_neg pure_neg.op (de_int))) (de_v 1) rfl))))))
theorem tab_wrong_in_is_next_piece_is_right_hi : ∀ p ∈ tab_wrong_in_is_next_piece_is_right, ∀ k, (∃ q ∈ tab_wrong_in_is_next_piece_is_right, q.1 = k) → (G K).ad p.1 = (G K).ad k → p.1 = k := by
  intro p hp k hk _
  obtain ⟨q, hq, rfl⟩ := hk
  rw [List.mem_singleton.mp hp, List.mem_singleton.mp hq]
theorem tab_wrong_in_is_next_piece_is_right_ok {X : Cx} (Y : Hy X.K X.mg) : TabOk X (G X.K) X.K 7 tab_wrong_in_is_next_piece_is_right := tabOk_cons (ok_is_next_piece Y) rfl (by decide) tabOk_nil
theorem ok_wrong_in_is_next_piece (Y : Hy K mg) : OkF P w K mg base (G K) 8 677 ps_wrong_in kb_wrong_in m_wrong_in_is_next_piece := by
  obtain ⟨fd, FF⟩ := Y.says.def_ 33 (d := d677)
  have FD : FnD K "wrong_in" "wrong_in" (top 10) ((G K).ad 677) fd := FF
  refine okF_of rfl FD sc_wrong_in (fun _ _ _ _ _ _ us hl => match us, hl with | [_, _, _, _], _ => rfl) kbp_wrong_in ?_
  intro cdv A outer s H E hr
  have hu : (A.deeper (envOfC "wrong_in" (defScope (top 10)) s.heap.objs.size ((G K).ad 677) cdv)).units + 100 < cLine := by have := hr.un; omega
  have tk := tk_cx (P := P) (w := w) (K := K) (mg := mg) (base := base) (N := N_wrong_in) (qual := "wrong_in") (scope := defScope (top 10)) (f := (G K).ad 677) (cdv := cdv) (A := A) (outer := outer) (s := s) (H := H) (E := E)
  apply Exists.intro
  exact db_cons (ds_i (dt_bool (dw_or (dt_not (dt_val (de_isi .tuple rfl (insOk Y) rfl (Y.free 40) (de_v 0) rfl (Y.free 23) rfl))) (dw_or1 (dt_cmp op_lt pure_lt.op (de_callB (call_len' rfl) op_len rfl (Y.free 0) rfl (da_cons (de_v 0) (da_nil))) (de_v 1) rfl)))) (db_one (ds_r (de_lst (da_cons (de_non) (da_nil))))) (db_nil))
        (db_cons (ds_f hp_cx rfl (di_en rfl rfl (Y.free 49) (de_v 0)) (dg_t rfl rfl (dgs_c (dg_n sc_wrong_in.nd) (dgs_c (dg_n sc_wrong_in.nd) (dgs_0)))) (db_one (ds_i (dt_bool (dw_or (dt_cmp (op_eqD' rfl hu) pure_eq.op (de_v 4) (de_v 2) rfl) (dw_or1 (dt_not (dt_val (de_callA tab_wrong_in_is_next_piece_is_right (tab_wrong_in_is_next_piece_is_right_hi) (tab_wrong_in_is_next_piece_is_right_ok Y) (hr.mono (by decide)) 3 (da_cons (de_sl rfl (de_v 0) (dp_none) (dp_some (de_v 4))) (da_cons (de_v 5) (da_nil))))))))) (db_one (ds_r (de_lst (da_cons (de_v 4) (da_nil))))) (db_nil))))
        (db_one (ds_r (de_lst (da_nil)))))
def N_wrong_piece : List Str := ["pieces", "many"]
def ps_wrong_piece : List Str := ["pieces", "many"]
theorem sc_wrong_piece : FnScope N_wrong_piece ps_wrong_piece (defScope (top 23)) := ⟨rfl, rfl, rfl, by decide +kernel, rfl, by decide +kernel, by decide +kernel⟩
def kb_wrong_piece : List KB := []
theorem kbp_wrong_piece : BindsOk "wrong_piece" "wrong_piece" (top 23) ps_wrong_piece kb_wrong_piece := .nil
theorem ok_wrong_piece (Y : Hy K mg) : OkF P w K mg base (G K) 9 680 ps_wrong_piece kb_wrong_piece m_wrong_piece := by
  obtain ⟨fd, FF⟩ := Y.says.def_ 35 (d := d680)
  have FD : FnD K "wrong_piece" "wrong_piece" (top 23) ((G K).ad 680) fd := FF
  refine okF_of rfl FD sc_wrong_piece (fun _ _ _ _ _ _ us hl => match us, hl with | [_, _], _ => rfl) kbp_wrong_piece ?_
  intro cdv A outer s H E hr
  have hu : (A.deeper (envOfC "wrong_piece" (defScope (top 23)) s.heap.objs.size ((G K).ad 680) cdv)).units + 100 < cLine := by have := hr.un; omega
  have tk := tk_cx (P := P) (w := w) (K := K) (mg := mg) (base := base) (N := N_wrong_piece) (qual := "wrong_piece") (scope := defScope (top 23)) (f := (G K).ad 680) (cdv := cdv) (A := A) (outer := outer) (s := s) (H := H) (E := E)
  apply Exists.intro
  exact db_cons (ds_i (dt_bool (dw_or (dt_not (dt_val (de_isi .tuple rfl (insOk Y) rfl (Y.free 40) (de_v 0) rfl (Y.free 23) rfl))) (dw_or1 (dt_cmp (op_neD' rfl hu) pure_ne.op (de_callB (call_len' rfl) op_len rfl (Y.free 0) rfl (da_cons (de_v 0) (da_nil))) (de_v 1) rfl)))) (db_one (ds_r (de_lst (da_cons (de_non) (da_nil))))) (db_nil))
        (db_one (ds_r (de_cP (ok_wrong_in_is_next_piece Y) tk hr (by decide) rfl (Y.glo 43) (da_cons (de_v 0) (da_cons (de_v 1) (da_cons (de_v 1) (da_cons (de_glob (v := .ref ((G K).ad 404)) (d := .glo 404) rfl (Y.glo 42) rfl (fun _ => .glo 404)) (da_nil))))))))
def N_check_turning : List Str := ["turning"]
def ps_check_turning : List Str := ["turning"]
theorem sc_check_turning : FnScope N_check_turning ps_check_turning (defScope (top 28)) := ⟨rfl, rfl, rfl, by decide +kernel, rfl, by decide +kernel, by decide +kernel⟩
def kb_check_turning : List KB := []
theorem kbp_check_turning : BindsOk "check_turning" "check_turning" (top 28) ps_check_turning kb_check_turning := .nil
theorem ok_check_turning (Y : Hy K mg) : OkF P w K mg base (G K) 1 294 ps_check_turning kb_check_turning m_check_turning := by
  obtain ⟨fd, FF⟩ := Y.says.def_ 19 (d := d294)
  have FD : FnD K "check_turning" "check_turning" (top 28) ((G K).ad 294) fd := FF
  refine okF_of rfl FD sc_check_turning (fun _ _ _ _ _ _ us hl => match us, hl with | [_], _ => rfl) kbp_check_turning ?_
  intro cdv A outer s H E hr
  have hu : (A.deeper (envOfC "check_turning" (defScope (top 28)) s.heap.objs.size ((G K).ad 294) cdv)).units + 100 < cLine := by have := hr.un; omega
  have tk := tk_cx (P := P) (w := w) (K := K) (mg := mg) (base := base) (N := N_check_turning) (qual := "check_turning") (scope := defScope (top 28)) (f := (G K).ad 294) (cdv := cdv) (A := A) (outer := outer) (s := s) (H := H) (E := E)
  apply Exists.intro
  exact db_one (ds_i (dt_not (dt_val (de_isi .bool rfl (insOk Y) rfl (Y.free 40) (de_v 0) rfl (Y.free 41) rfl))) (db_one (ds_bad)) (db_nil))
def N_Puzzle_init : List Str := ["self", "rows", "columns", "pieces", "turning", "index"]
def ps_Puzzle_init : List Str := ["self", "rows", "columns", "pieces", "turning"]
theorem sc_Puzzle_init : FnScope N_Puzzle_init ps_Puzzle_init (defScope (inClass (top 29) 0)) := ⟨rfl, rfl, rfl, by decide +kernel, rfl, by decide +kernel, by decide +kernel⟩
def kb_Puzzle_init : List KB := []
theorem kbp_Puzzle_init : BindsOk "__init__" "Puzzle.__init__" (inClass (top 29) 0) ps_Puzzle_init kb_Puzzle_init := .nil
theorem ok_Puzzle_init (Y : Hy K mg) : OkF P w K mg base (G K) 10 88 ps_Puzzle_init kb_Puzzle_init m_Puzzle_init := by
  obtain ⟨fd, FF⟩ := Y.says.def_ 1 (d := d88)
  have FD : FnD K "__init__" "Puzzle.__init__" (inClass (top 29) 0) ((G K).ad 88) fd := FF
  refine okF_of rfl FD sc_Puzzle_init (fun _ _ _ _ _ _ us hl => match us, hl with | [_, _, _, _, _], _ => rfl) kbp_Puzzle_init ?_
  intro cdv A outer s H E hr
  have hu : (A.deeper (envOfC "Puzzle.__init__" (defScope (inClass (top 29) 0)) s.heap.objs.size ((G K).ad 88) cdv)).units + 100 < cLine := by have := hr.un; omega
  have tk := tk_cx (P := P) (w := w) (K := K) (mg := mg) (base := base) (N := N_Puzzle_init) (qual := "Puzzle.__init__") (scope := defScope (inClass (top 29) 0)) (f := (G K).ad 88) (cdv := cdv) (A := A) (outer := outer) (s := s) (H := H) (E := E)
  apply Exists.intro
  exact db_cons (ds_e (de_cP (ok_check_frame Y) tk hr (by decide) rfl (Y.glo 28) (da_cons (de_v 1) (da_cons (de_v 2) (da_nil)))))
        (db_cons (ds_f hp_cx rfl (di_s rfl (de_cP (ok_wrong_piece Y) tk hr (by decide) rfl (Y.glo 29) (da_cons (de_v 3) (da_cons (de_op op_mul pure_mulI.op (de_v 1) (de_v 2)) (da_nil))))) (dg_n sc_Puzzle_init.nd) (db_one (ds_bad)))
        (db_cons (ds_e (de_cP (ok_check_turning Y) tk hr (by decide) rfl (Y.glo 30) (da_cons (de_v 4) (da_nil))))
        (db_cons (ds_fl 86 rfl (cls_Puzzle Y) (He.noat_ok (Y.says.fact 31 (f := .noat "Puzzle" "rows"))) (de_v 0) (de_v 1))
        (db_cons (ds_fl 86 rfl (cls_Puzzle Y) (He.noat_ok (Y.says.fact 32 (f := .noat "Puzzle" "columns"))) (de_v 0) (de_v 2))
        (db_cons (ds_fl 86 rfl (cls_Puzzle Y) (He.noat_ok (Y.says.fact 33 (f := .noat "Puzzle" "pieces"))) (de_v 0) (de_v 3))
        (db_cons (ds_fl 86 rfl (cls_Puzzle Y) (He.noat_ok (Y.says.fact 34 (f := .noat "Puzzle" "turning"))) (de_v 0) (de_v 4))
        (db_one (ds_fl 86 rfl (cls_Puzzle Y) (He.noat_ok (Y.says.fact 15 (f := .noat "Puzzle" "parts"))) (de_v 0) (de_tup (da_cons (de_v 1) (da_cons (de_v 2) (da_cons (de_v 3) (da_cons (de_v 4) (da_nil))))))))))))))
def N_l_law_made : List Str := ["parts"]
def ps_l_law_made : List Str := ["parts"]
theorem sc_l_law_made : FnScope N_l_law_made ps_l_law_made (defScope (top 58)) := ⟨rfl, rfl, rfl, by decide +kernel, rfl, by decide +kernel, by decide +kernel⟩
def kb_l_law_made : List KB := []
theorem kbp_l_law_made : BindsOk "_law_made" "_law_made" (top 58) ps_l_law_made kb_l_law_made := .nil
theorem ok_l_law_made (Y : Hy K mg) : OkF P w K mg base (G K) 13 148 ps_l_law_made kb_l_law_made m_l_law_made := by
  obtain ⟨fd, FF⟩ := Y.says.def_ 5 (d := d148)
  have FD : FnD K "_law_made" "_law_made" (top 58) ((G K).ad 148) fd := FF
  refine okF_of rfl FD sc_l_law_made (fun _ _ _ _ _ _ us hl => match us, hl with | [_], _ => rfl) kbp_l_law_made ?_
  intro cdv A outer s H E hr
  have hu : (A.deeper (envOfC "_law_made" (defScope (top 58)) s.heap.objs.size ((G K).ad 148) cdv)).units + 100 < cLine := by have := hr.un; omega
  have tk := tk_cx (P := P) (w := w) (K := K) (mg := mg) (base := base) (N := N_l_law_made) (qual := "_law_made") (scope := defScope (top 58)) (f := (G K).ad 148) (cdv := cdv) (A := A) (outer := outer) (s := s) (H := H) (E := E)
  apply Exists.intro
  exact db_one (ds_r (de_mkP (c := 86) (fl := fl_Puzzle) (show _ ∈ csL by decide) rfl (ok_Puzzle_init Y) rfl tk (mk_Puzzle Y) hr (by decide) rfl (Y.glo 27) (da_cons (de_ix (ix_seq' rfl) pure_ix.op (de_v 0) (de_int)) (da_cons (de_ix (ix_seq' rfl) pure_ix.op (de_v 0) (de_int)) (da_cons (de_ix (ix_seq' rfl) pure_ix.op (de_v 0) (de_int)) (da_cons (de_ix (ix_seq' rfl) pure_ix.op (de_v 0) (de_int)) (da_nil)))))))
def N_l_law_same_k79 : List Str := ["told", "due", "fits", "k"]
def ps_l_law_same_k79 : List Str := ["told", "due"]
theorem sc_l_law_same_k79 : FnScope N_l_law_same_k79 ps_l_law_same_k79 (defScope (top 53)) := ⟨rfl, rfl, rfl, by decide +kernel, rfl, by decide +kernel, by decide +kernel⟩
def kb_l_law_same_k79 : List KB := []
theorem kbp_l_law_same_k79 : BindsOk "_law_same" "_law_same" (top 53) ps_l_law_same_k79 kb_l_law_same_k79 := .nil
theorem ok_l_law_same_k79 (Y : Hy K mg) : ∀ n : Nat, OkF P w K mg base (G K) (1 + n) 178 ps_l_law_same_k79 kb_l_law_same_k79 (m_l_law_same_k79 n)
  | 0 => by
    obtain ⟨fd, F⟩ := Y.says.def_ 9 (d := d178)
    exact okF_bad rfl F (fun _ _ _ _ _ _ us hl => match us, hl with | [_, _], _ => rfl) kbp_l_law_same_k79
  | n + 1 => by
    have ih := ok_l_law_same_k79 Y n
    obtain ⟨fd, FF⟩ := Y.says.def_ 9 (d := d178)
    have FD : FnD K "_law_same" "_law_same" (top 53) ((G K).ad 178) fd := FF
    refine okF_of rfl FD sc_l_law_same_k79 (fun _ _ _ _ _ _ us hl => match us, hl with | [_, _], _ => rfl) kbp_l_law_same_k79 ?_
    intro cdv A outer s H E hr
    have hr : Room (1 + n) _ := hr
    have hu : (A.deeper (envOfC "_law_same" (defScope (top 53)) s.heap.objs.size ((G K).ad 178) cdv)).units + 100 < cLine := by have := hr.un; omega
    have tk := tk_cx (P := P) (w := w) (K := K) (mg := mg) (base := base) (N := N_l_law_same_k79) (qual := "_law_same") (scope := defScope (top 53)) (f := (G K).ad 178) (cdv := cdv) (A := A) (outer := outer) (s := s) (H := H) (E := E)
    apply Exists.intro
    exact db_cons (ds_i (dt_bool (dw_or (dt_val (de_isi .tuple rfl (insOk Y) rfl (Y.free 40) (de_v 1) rfl (Y.free 23) rfl)) (dw_or1 (dt_val (de_isi .list rfl (insOk Y) rfl (Y.free 40) (de_v 1) rfl (Y.free 19) rfl))))) (db_cons (ds_s sc_l_law_same_k79.nd (de_ifE (dt_val (de_isi .tuple rfl (insOk Y) rfl (Y.free 40) (de_v 1) rfl (Y.free 23) rfl)) (de_isi .tuple rfl (insOk Y) rfl (Y.free 40) (de_v 0) rfl (Y.free 23) rfl) (de_isi .list rfl (insOk Y) rfl (Y.free 40) (de_v 0) rfl (Y.free 19) rfl)))
        (db_one (ds_r (de_and (de_v 2) (de_and (de_cmp (op_eqD' rfl hu) pure_eq.op (de_callB (call_len' rfl) op_len rfl (Y.free 0) rfl (da_cons (de_v 0) (da_nil))) (de_callB (call_len' rfl) op_len rfl (Y.free 0) rfl (da_cons (de_v 1) (da_nil))) rfl) (de_one (de_callB (call_all' rfl rfl) pure_all.op rfl (Y.free 6) rfl (da_cons (de_lcG (own := [("k", 3)]) finF_ok rfl sc_l_law_same_k79.nd (di_r1 rfl (Y.free 3) (de_callB (call_len' rfl) op_len rfl (Y.free 0) rfl (da_cons (de_v 1) (da_nil)))) rfl (by decide) (fun s H C cl fp => dg_n sc_l_law_same_k79.nd) (fun s H C cl fp => dts_0) (fun s H C cl fp => de_cP ih takesN hr (by omega) rfl (Y.glo 13) (da_cons (de_ix (ix_seq' rfl) pure_ix.op (de_v 0) (de_v 3)) (da_cons (de_ix (ix_seq' rfl) pure_ix.op (de_v 1) (de_v 3)) (da_nil))))) (da_nil))))))))) (db_nil))
        (db_cons (ds_i (dt_cmp op_isN pure_isN.op (de_v 1) (de_non) rfl) (db_one (ds_r (de_cmp op_isN pure_isN.op (de_v 0) (de_non) rfl))) (db_nil))
        (db_cons (ds_i (dt_val (de_isi .bool rfl (insOk Y) rfl (Y.free 40) (de_v 1) rfl (Y.free 41) rfl)) (db_one (ds_r (de_and (de_isi .bool rfl (insOk Y) rfl (Y.free 40) (de_v 0) rfl (Y.free 41) rfl) (de_one (de_cmp (op_eqD' rfl hu) pure_eq.op (de_v 0) (de_v 1) rfl))))) (db_nil))
        (db_cons (ds_i (dt_val (de_isi .int rfl (insOk Y) rfl (Y.free 40) (de_v 1) rfl (Y.free 7) rfl)) (db_one (ds_r (de_and (de_isi .int rfl (insOk Y) rfl (Y.free 40) (de_v 0) rfl (Y.free 7) rfl) (de_and (de_not (de_isi .bool rfl (insOk Y) rfl (Y.free 40) (de_v 0) rfl (Y.free 41) rfl)) (de_one (de_cmp (op_eqD' rfl hu) pure_eq.op (de_v 0) (de_v 1) rfl)))))) (db_nil))
        (db_one (ds_r (de_and (de_isi .str rfl (insOk Y) rfl (Y.free 40) (de_v 1) rfl (Y.free 26) rfl) (de_and (de_isi .str rfl (insOk Y) rfl (Y.free 40) (de_v 0) rfl (Y.free 26) rfl) (de_one (de_cmp (op_eqD' rfl hu) pure_eq.op (de_v 0) (de_v 1) rfl)))))))))
def N_check_puzzle : List Str := ["puzzle"]
def ps_check_puzzle : List Str := ["puzzle"]
theorem sc_check_puzzle : FnScope N_check_puzzle ps_check_puzzle (defScope (top 30)) := ⟨rfl, rfl, rfl, by decide +kernel, rfl, by decide +kernel, by decide +kernel⟩
def kb_check_puzzle : List KB := []
theorem kbp_check_puzzle : BindsOk "check_puzzle" "check_puzzle" (top 30) ps_check_puzzle kb_check_puzzle := .nil
theorem ok_check_puzzle (Y : Hy K mg) : OkF P w K mg base (G K) 1 282 ps_check_puzzle kb_check_puzzle m_check_puzzle := by
  obtain ⟨fd, FF⟩ := Y.says.def_ 17 (d := d282)
  have FD : FnD K "check_puzzle" "check_puzzle" (top 30) ((G K).ad 282) fd := FF
  refine okF_of rfl FD sc_check_puzzle (fun _ _ _ _ _ _ us hl => match us, hl with | [_], _ => rfl) kbp_check_puzzle ?_
  intro cdv A outer s H E hr
  have hu : (A.deeper (envOfC "check_puzzle" (defScope (top 30)) s.heap.objs.size ((G K).ad 282) cdv)).units + 100 < cLine := by have := hr.un; omega
  have tk := tk_cx (P := P) (w := w) (K := K) (mg := mg) (base := base) (N := N_check_puzzle) (qual := "check_puzzle") (scope := defScope (top 30)) (f := (G K).ad 282) (cdv := cdv) (A := A) (outer := outer) (s := s) (H := H) (E := E)
  apply Exists.intro
  exact db_one (ds_i (dt_not (dt_val (de_isC 86 rfl (ownOk_Puzzle Y) rfl (Y.free 40) (de_v 0) rfl (Y.glo 27)))) (db_one (ds_bad)) (db_nil))
def N_puzzle_rows : List Str := ["puzzle", "word", "first", "piece", "side"]
def ps_puzzle_rows : List Str := ["puzzle"]
theorem sc_puzzle_rows : FnScope N_puzzle_rows ps_puzzle_rows (defScope (top 47)) := ⟨rfl, rfl, rfl, by decide +kernel, rfl, by decide +kernel, by decide +kernel⟩
def kb_puzzle_rows : List KB := [(0, 1, [0], ["puzzle"])]
theorem kbp_puzzle_rows : BindsOk "puzzle_rows" "puzzle_rows" (top 47) ps_puzzle_rows kb_puzzle_rows := .cons (fun _ _ _ _ _ _ us ws h1 h2 => match us, ws, h1, h2 with | [], [_], _, _ => rfl) (.nil)
theorem ok_puzzle_rows (Y : Hy K mg) : OkF P w K mg base (G K) 2 510 ps_puzzle_rows kb_puzzle_rows m_puzzle_rows := by
  obtain ⟨fd, FF⟩ := Y.says.def_ 31 (d := d510)
  have FD : FnD K "puzzle_rows" "puzzle_rows" (top 47) ((G K).ad 510) fd := FF
  obtain ⟨t_TURNING, g_TURNING⟩ := Y.str 51 (x := "TURNING") (z := "turning")
  obtain ⟨t_FIXED, g_FIXED⟩ := Y.str 52 (x := "FIXED") (z := "fixed")
  obtain ⟨t_FRAME, g_FRAME⟩ := Y.str 53 (x := "FRAME") (z := "frame")
  obtain ⟨t_PIECE, g_PIECE⟩ := Y.str 54 (x := "PIECE") (z := "piece")
  refine okF_of rfl FD sc_puzzle_rows (fun _ _ _ _ _ _ us hl => match us, hl with | [_], _ => rfl) kbp_puzzle_rows ?_
  intro cdv A outer s H E hr
  have hu : (A.deeper (envOfC "puzzle_rows" (defScope (top 47)) s.heap.objs.size ((G K).ad 510) cdv)).units + 100 < cLine := by have := hr.un; omega
  have tk := tk_cx (P := P) (w := w) (K := K) (mg := mg) (base := base) (N := N_puzzle_rows) (qual := "puzzle_rows") (scope := defScope (top 47)) (f := (G K).ad 510) (cdv := cdv) (A := A) (outer := outer) (s := s) (H := H) (E := E)
  apply Exists.intro
  exact db_cons (ds_e (de_cP (ok_check_puzzle Y) tk hr (by decide) rfl (Y.glo 50) (da_cons (de_v 0) (da_nil))))
        (db_cons (ds_s sc_puzzle_rows.nd (de_ifE (dt_tru rfl (de_fld 86 fl_Puzzle rfl rfl (cls_Puzzle Y) (He.noat_ok (Y.says.fact 34 (f := .noat "Puzzle" "turning"))) (de_v 0))) (de_glob (v := .str "turning") (d := .str "turning") rfl g_TURNING ⟨_, rfl⟩ (fun _ => .str _)) (de_glob (v := .str "fixed") (d := .str "fixed") rfl g_FIXED ⟨_, rfl⟩ (fun _ => .str _))))
        (db_cons (ds_s sc_puzzle_rows.nd (de_bm rfl F.plainAttrs_str F.slot_str_join F.type_str_join (mt_join' rfl) chkS_ok pure_join.op (de_str) (da_cons (de_lst (da_cons (de_glob (v := .str "frame") (d := .str "frame") rfl g_FRAME ⟨_, rfl⟩ (fun _ => .str _)) (da_cons (de_callTy call_str' pure_str.op rfl (Y.free 26) rfl (da_cons (de_fld 86 fl_Puzzle rfl rfl (cls_Puzzle Y) (He.noat_ok (Y.says.fact 31 (f := .noat "Puzzle" "rows"))) (de_v 0)) (da_nil))) (da_cons (de_callTy call_str' pure_str.op rfl (Y.free 26) rfl (da_cons (de_fld 86 fl_Puzzle rfl rfl (cls_Puzzle Y) (He.noat_ok (Y.says.fact 32 (f := .noat "Puzzle" "columns"))) (de_v 0)) (da_nil))) (da_cons (de_v 1) (da_nil)))))) (da_nil))))
        (db_one (ds_r (de_op (op_add4 rfl) pure_add.op (de_tup (da_cons (de_v 2) (da_nil))) (de_callTy (call_tuple' rfl) pure_tuple.op rfl (Y.free 23) rfl (da_cons (de_lcG (own := [("piece", 3)]) finF_ok rfl sc_puzzle_rows.nd (di_s rfl (de_fld 86 fl_Puzzle rfl rfl (cls_Puzzle Y) (He.noat_ok (Y.says.fact 33 (f := .noat "Puzzle" "pieces"))) (de_v 0))) rfl (by decide) (fun s H C cl fp => dg_n sc_puzzle_rows.nd) (fun s H C cl fp => dts_0) (fun s H C cl fp => de_bm rfl F.plainAttrs_str F.slot_str_join F.type_str_join (mt_join' rfl) chkS_ok pure_join.op (de_str) (da_cons (de_op (op_add4 rfl) pure_add.op (de_lst (da_cons (de_glob (v := .str "piece") (d := .str "piece") rfl g_PIECE ⟨_, rfl⟩ (fun _ => .str _)) (da_nil))) (de_lcG (own := [("side", 4)]) finF_ok rfl sc_puzzle_rows.nd (di_s rfl (de_v 3)) rfl (by decide) (fun s H C cl fp => dg_n sc_puzzle_rows.nd) (fun s H C cl fp => dts_0) (fun s H C cl fp => de_callTy call_str' pure_str.op rfl (Y.free 26) rfl (da_cons (de_v 4) (da_nil))))) (da_nil)))) (da_nil))))))))
def N_are_figures : List Str := ["word", "sign"]
def ps_are_figures : List Str := ["word"]
theorem sc_are_figures : FnScope N_are_figures ps_are_figures (defScope (top 39)) := ⟨rfl, rfl, rfl, by decide +kernel, rfl, by decide +kernel, by decide +kernel⟩
def kb_are_figures : List KB := []
theorem kbp_are_figures : BindsOk "are_figures" "are_figures" (top 39) ps_are_figures kb_are_figures := .nil
theorem ok_are_figures (Y : Hy K mg) : OkF P w K mg base (G K) 1 204 ps_are_figures kb_are_figures m_are_figures := by
  obtain ⟨fd, FF⟩ := Y.says.def_ 14 (d := d204)
  have FD : FnD K "are_figures" "are_figures" (top 39) ((G K).ad 204) fd := FF
  obtain ⟨t_FIGURES, g_FIGURES⟩ := Y.str 62 (x := "FIGURES") (z := "0123456789")
  refine okF_of rfl FD sc_are_figures (fun _ _ _ _ _ _ us hl => match us, hl with | [_], _ => rfl) kbp_are_figures ?_
  intro cdv A outer s H E hr
  have hu : (A.deeper (envOfC "are_figures" (defScope (top 39)) s.heap.objs.size ((G K).ad 204) cdv)).units + 100 < cLine := by have := hr.un; omega
  have tk := tk_cx (P := P) (w := w) (K := K) (mg := mg) (base := base) (N := N_are_figures) (qual := "are_figures") (scope := defScope (top 39)) (f := (G K).ad 204) (cdv := cdv) (A := A) (outer := outer) (s := s) (H := H) (E := E)
  apply Exists.intro
  exact db_cons (ds_i (dt_bool (dw_or (dt_cmp (op_eqD' rfl hu) pure_eq.op (de_v 0) (de_str) rfl) (dw_or1 (dt_not (dt_val (de_callB (call_all' rfl rfl) pure_all.op rfl (Y.free 6) rfl (da_cons (de_lcG (own := [("sign", 1)]) finF_ok rfl sc_are_figures.nd (di_str (de_v 0)) rfl (by decide) (fun s H C cl fp => dg_n sc_are_figures.nd) (fun s H C cl fp => dts_0) (fun s H C cl fp => de_cmp (op_in3 rfl hu) pure_in.op (de_v 1) (de_glob (v := .str "0123456789") (d := .str "0123456789") rfl g_FIGURES ⟨_, rfl⟩ (fun _ => .str _)) rfl)) (da_nil)))))))) (db_one (ds_r (de_bl))) (db_nil))
        (db_one (ds_r (de_or (de_cmp (op_eqD' rfl hu) pure_eq.op (de_v 0) (de_str) rfl) (de_one (de_cmp (op_neD' rfl hu) pure_ne.op (de_ix (ix_seq' rfl) pure_ix.op (de_v 0) (de_int)) (de_str) rfl)))))
def N_is_frame_line : List Str := ["words"]
def ps_is_frame_line : List Str := ["words"]
theorem sc_is_frame_line : FnScope N_is_frame_line ps_is_frame_line (defScope (top 41)) := ⟨rfl, rfl, rfl, by decide +kernel, rfl, by decide +kernel, by decide +kernel⟩
def kb_is_frame_line : List KB := []
theorem kbp_is_frame_line : BindsOk "is_frame_line" "is_frame_line" (top 41) ps_is_frame_line kb_is_frame_line := .nil
theorem ok_is_frame_line (Y : Hy K mg) : OkF P w K mg base (G K) 2 392 ps_is_frame_line kb_is_frame_line m_is_frame_line := by
  obtain ⟨fd, FF⟩ := Y.says.def_ 21 (d := d392)
  have FD : FnD K "is_frame_line" "is_frame_line" (top 41) ((G K).ad 392) fd := FF
  obtain ⟨t_FRAME_WORDS, g_FRAME_WORDS⟩ := Y.int 60 (x := "FRAME_WORDS") (z := 4)
  obtain ⟨t_FRAME, g_FRAME⟩ := Y.str 53 (x := "FRAME") (z := "frame")
  obtain ⟨t_FIXED, g_FIXED⟩ := Y.str 52 (x := "FIXED") (z := "fixed")
  obtain ⟨t_TURNING, g_TURNING⟩ := Y.str 51 (x := "TURNING") (z := "turning")
  refine okF_of rfl FD sc_is_frame_line (fun _ _ _ _ _ _ us hl => match us, hl with | [_], _ => rfl) kbp_is_frame_line ?_
  intro cdv A outer s H E hr
  have hu : (A.deeper (envOfC "is_frame_line" (defScope (top 41)) s.heap.objs.size ((G K).ad 392) cdv)).units + 100 < cLine := by have := hr.un; omega
  have tk := tk_cx (P := P) (w := w) (K := K) (mg := mg) (base := base) (N := N_is_frame_line) (qual := "is_frame_line") (scope := defScope (top 41)) (f := (G K).ad 392) (cdv := cdv) (A := A) (outer := outer) (s := s) (H := H) (E := E)
  apply Exists.intro
  exact db_cons (ds_i (dt_bool (dw_or (dt_cmp (op_neD' rfl hu) pure_ne.op (de_callB (call_len' rfl) op_len rfl (Y.free 0) rfl (da_cons (de_v 0) (da_nil))) (de_glob (v := .int 4) (d := .int 4) rfl g_FRAME_WORDS ⟨_, rfl⟩ (fun _ => .int _)) rfl) (dw_or1 (dt_cmp (op_neD' rfl hu) pure_ne.op (de_ix (ix_seq' rfl) pure_ix.op (de_v 0) (de_int)) (de_glob (v := .str "frame") (d := .str "frame") rfl g_FRAME ⟨_, rfl⟩ (fun _ => .str _)) rfl)))) (db_one (ds_r (de_bl))) (db_nil))
        (db_one (ds_r (de_and (de_cP (ok_are_figures Y) tk hr (by decide) rfl (Y.glo 61) (da_cons (de_ix (ix_seq' rfl) pure_ix.op (de_v 0) (de_int)) (da_nil))) (de_and (de_cP (ok_are_figures Y) tk hr (by decide) rfl (Y.glo 61) (da_cons (de_ix (ix_seq' rfl) pure_ix.op (de_v 0) (de_int)) (da_nil))) (de_one (de_cmp (op_in3 rfl hu) pure_in.op (de_ix (ix_seq' rfl) pure_ix.op (de_v 0) (de_int)) (de_tup (da_cons (de_glob (v := .str "turning") (d := .str "turning") rfl g_TURNING ⟨_, rfl⟩ (fun _ => .str _)) (da_cons (de_glob (v := .str "fixed") (d := .str "fixed") rfl g_FIXED ⟨_, rfl⟩ (fun _ => .str _)) (da_nil)))) rfl))))))
def N_is_number : List Str := ["word"]
def ps_is_number : List Str := ["word"]
theorem sc_is_number : FnScope N_is_number ps_is_number (defScope (top 40)) := ⟨rfl, rfl, rfl, by decide +kernel, rfl, by decide +kernel, by decide +kernel⟩
def kb_is_number : List KB := []
theorem kbp_is_number : BindsOk "is_number" "is_number" (top 40) ps_is_number kb_is_number := .nil
theorem ok_is_number (Y : Hy K mg) : OkF P w K mg base (G K) 2 405 ps_is_number kb_is_number m_is_number := by
  obtain ⟨fd, FF⟩ := Y.says.def_ 24 (d := d405)
  have FD : FnD K "is_number" "is_number" (top 40) ((G K).ad 405) fd := FF
  refine okF_of rfl FD sc_is_number (fun _ _ _ _ _ _ us hl => match us, hl with | [_], _ => rfl) kbp_is_number ?_
  intro cdv A outer s H E hr
  have hu : (A.deeper (envOfC "is_number" (defScope (top 40)) s.heap.objs.size ((G K).ad 405) cdv)).units + 100 < cLine := by have := hr.un; omega
  have tk := tk_cx (P := P) (w := w) (K := K) (mg := mg) (base := base) (N := N_is_number) (qual := "is_number") (scope := defScope (top 40)) (f := (G K).ad 405) (cdv := cdv) (A := A) (outer := outer) (s := s) (H := H) (E := E)
  apply Exists.intro
  exact db_cons (ds_i (dt_bool (dw_and (dt_cmp (op_neD' rfl hu) pure_ne.op (de_v 0) (de_str) rfl) (dw_and1 (dt_cmp (op_eqD' rfl hu) pure_eq.op (de_ix (ix_seq' rfl) pure_ix.op (de_v 0) (de_int)) (de_str) rfl)))) (db_one (ds_r (de_and (de_cP (ok_are_figures Y) tk hr (by decide) rfl (Y.glo 61) (da_cons (de_sl rfl (de_v 0) (dp_some (de_int)) (dp_none)) (da_nil))) (de_one (de_cmp (op_neD' rfl hu) pure_ne.op (de_v 0) (de_str) rfl))))) (db_nil))
        (db_one (ds_r (de_cP (ok_are_figures Y) tk hr (by decide) rfl (Y.glo 61) (da_cons (de_v 0) (da_nil)))))
def N_is_piece_line : List Str := ["words", "word"]
def ps_is_piece_line : List Str := ["words"]
theorem sc_is_piece_line : FnScope N_is_piece_line ps_is_piece_line (defScope (top 42)) := ⟨rfl, rfl, rfl, by decide +kernel, rfl, by decide +kernel, by decide +kernel⟩
def kb_is_piece_line : List KB := []
theorem kbp_is_piece_line : BindsOk "is_piece_line" "is_piece_line" (top 42) ps_is_piece_line kb_is_piece_line := .nil
theorem ok_is_piece_line (Y : Hy K mg) : OkF P w K mg base (G K) 3 413 ps_is_piece_line kb_is_piece_line m_is_piece_line := by
  obtain ⟨fd, FF⟩ := Y.says.def_ 26 (d := d413)
  have FD : FnD K "is_piece_line" "is_piece_line" (top 42) ((G K).ad 413) fd := FF
  obtain ⟨t_PIECE_WORDS, g_PIECE_WORDS⟩ := Y.int 63 (x := "PIECE_WORDS") (z := 5)
  obtain ⟨t_PIECE, g_PIECE⟩ := Y.str 54 (x := "PIECE") (z := "piece")
  refine okF_of rfl FD sc_is_piece_line (fun _ _ _ _ _ _ us hl => match us, hl with | [_], _ => rfl) kbp_is_piece_line ?_
  intro cdv A outer s H E hr
  have hu : (A.deeper (envOfC "is_piece_line" (defScope (top 42)) s.heap.objs.size ((G K).ad 413) cdv)).units + 100 < cLine := by have := hr.un; omega
  have tk := tk_cx (P := P) (w := w) (K := K) (mg := mg) (base := base) (N := N_is_piece_line) (qual := "is_piece_line") (scope := defScope (top 42)) (f := (G K).ad 413) (cdv := cdv) (A := A) (outer := outer) (s := s) (H := H) (E := E)
  apply Exists.intro
  exact db_one (ds_r (de_and (de_cmp (op_eqD' rfl hu) pure_eq.op (de_callB (call_len' rfl) op_len rfl (Y.free 0) rfl (da_cons (de_v 0) (da_nil))) (de_glob (v := .int 5) (d := .int 5) rfl g_PIECE_WORDS ⟨_, rfl⟩ (fun _ => .int _)) rfl) (de_and (de_cmp (op_eqD' rfl hu) pure_eq.op (de_ix (ix_seq' rfl) pure_ix.op (de_v 0) (de_int)) (de_glob (v := .str "piece") (d := .str "piece") rfl g_PIECE ⟨_, rfl⟩ (fun _ => .str _)) rfl) (de_one (de_callB (call_all' rfl rfl) pure_all.op rfl (Y.free 6) rfl (da_cons (de_lcG (own := [("word", 1)]) finF_ok rfl sc_is_piece_line.nd (di_s rfl (de_sl rfl (de_v 0) (dp_some (de_int)) (dp_none))) rfl (by decide) (fun s H C cl fp => dg_n sc_is_piece_line.nd) (fun s H C cl fp => dts_0) (fun s H C cl fp => de_cP (ok_is_number Y) takesN hr (by decide) rfl (Y.glo 64) (da_cons (de_v 1) (da_nil)))) (da_nil)))))))
def N_is_line : List Str := ["index", "value", "words"]
def ps_is_line : List Str := ["index", "value"]
theorem sc_is_line : FnScope N_is_line ps_is_line (defScope (top 43)) := ⟨rfl, rfl, rfl, by decide +kernel, rfl, by decide +kernel, by decide +kernel⟩
def kb_is_line : List KB := []
theorem kbp_is_line : BindsOk "is_line" "is_line" (top 43) ps_is_line kb_is_line := .nil
theorem ok_is_line (Y : Hy K mg) : OkF P w K mg base (G K) 4 400 ps_is_line kb_is_line m_is_line := by
  obtain ⟨fd, FF⟩ := Y.says.def_ 22 (d := d400)
  have FD : FnD K "is_line" "is_line" (top 43) ((G K).ad 400) fd := FF
  refine okF_of rfl FD sc_is_line (fun _ _ _ _ _ _ us hl => match us, hl with | [_, _], _ => rfl) kbp_is_line ?_
  intro cdv A outer s H E hr
  have hu : (A.deeper (envOfC "is_line" (defScope (top 43)) s.heap.objs.size ((G K).ad 400) cdv)).units + 100 < cLine := by have := hr.un; omega
  have tk := tk_cx (P := P) (w := w) (K := K) (mg := mg) (base := base) (N := N_is_line) (qual := "is_line") (scope := defScope (top 43)) (f := (G K).ad 400) (cdv := cdv) (A := A) (outer := outer) (s := s) (H := H) (E := E)
  apply Exists.intro
  exact db_cons (ds_i (dt_not (dt_val (de_isi .str rfl (insOk Y) rfl (Y.free 40) (de_v 1) rfl (Y.free 26) rfl))) (db_one (ds_r (de_bl))) (db_nil))
        (db_cons (ds_s sc_is_line.nd (de_bm rfl F.plainAttrs_str F.slot_str_split F.type_str_split mt_split chkS_ok pure_split.op (de_v 1) (da_cons (de_str) (da_nil))))
        (db_one (ds_r (de_ifE (dt_cmp (op_eqD' rfl hu) pure_eq.op (de_v 0) (de_int) rfl) (de_cP (ok_is_frame_line Y) tk hr (by decide) rfl (Y.glo 58) (da_cons (de_v 2) (da_nil))) (de_cP (ok_is_piece_line Y) tk hr (by decide) rfl (Y.glo 59) (da_cons (de_v 2) (da_nil)))))))
def N_wrong_line : List Str := ["rows", "index", "line"]
def ps_wrong_line : List Str := ["rows"]
theorem sc_wrong_line : FnScope N_wrong_line ps_wrong_line (defScope (top 44)) := ⟨rfl, rfl, rfl, by decide +kernel, rfl, by decide +kernel, by decide +kernel⟩
def kb_wrong_line : List KB := []
theorem kbp_wrong_line : BindsOk "wrong_line" "wrong_line" (top 44) ps_wrong_line kb_wrong_line := .nil
theorem ok_wrong_line (Y : Hy K mg) : OkF P w K mg base (G K) 5 678 ps_wrong_line kb_wrong_line m_wrong_line := by
  obtain ⟨fd, FF⟩ := Y.says.def_ 34 (d := d678)
  have FD : FnD K "wrong_line" "wrong_line" (top 44) ((G K).ad 678) fd := FF
  refine okF_of rfl FD sc_wrong_line (fun _ _ _ _ _ _ us hl => match us, hl with | [_], _ => rfl) kbp_wrong_line ?_
  intro cdv A outer s H E hr
  have hu : (A.deeper (envOfC "wrong_line" (defScope (top 44)) s.heap.objs.size ((G K).ad 678) cdv)).units + 100 < cLine := by have := hr.un; omega
  have tk := tk_cx (P := P) (w := w) (K := K) (mg := mg) (base := base) (N := N_wrong_line) (qual := "wrong_line") (scope := defScope (top 44)) (f := (G K).ad 678) (cdv := cdv) (A := A) (outer := outer) (s := s) (H := H) (E := E)
  apply Exists.intro
  exact db_cons (ds_i (dt_bool (dw_or (dt_not (dt_val (de_isi .tuple rfl (insOk Y) rfl (Y.free 40) (de_v 0) rfl (Y.free 23) rfl))) (dw_or1 (dt_cmp (op_eqD' rfl hu) pure_eq.op (de_v 0) (de_tup (da_nil)) rfl)))) (db_one (ds_r (de_lst (da_cons (de_non) (da_nil))))) (db_nil))
        (db_cons (ds_f hp_cx rfl (di_en rfl rfl (Y.free 49) (de_v 0)) (dg_t rfl rfl (dgs_c (dg_n sc_wrong_line.nd) (dgs_c (dg_n sc_wrong_line.nd) (dgs_0)))) (db_one (ds_i (dt_not (dt_val (de_cP (ok_is_line Y) tk hr (by decide) rfl (Y.glo 57) (da_cons (de_v 1) (da_cons (de_v 2) (da_nil)))))) (db_one (ds_r (de_lst (da_cons (de_v 1) (da_nil))))) (db_nil))))
        (db_one (ds_r (de_lst (da_nil)))))
def N_pieces_in : List Str := ["rows", "line", "word"]
def ps_pieces_in : List Str := ["rows"]
theorem sc_pieces_in : FnScope N_pieces_in ps_pieces_in (defScope (top 45)) := ⟨rfl, rfl, rfl, by decide +kernel, rfl, by decide +kernel, by decide +kernel⟩
def kb_pieces_in : List KB := []
theorem kbp_pieces_in : BindsOk "pieces_in" "pieces_in" (top 45) ps_pieces_in kb_pieces_in := .nil
theorem ok_pieces_in (Y : Hy K mg) : OkF P w K mg base (G K) 1 499 ps_pieces_in kb_pieces_in m_pieces_in := by
  obtain ⟨fd, FF⟩ := Y.says.def_ 30 (d := d499)
  have FD : FnD K "pieces_in" "pieces_in" (top 45) ((G K).ad 499) fd := FF
  refine okF_of rfl FD sc_pieces_in (fun _ _ _ _ _ _ us hl => match us, hl with | [_], _ => rfl) kbp_pieces_in ?_
  intro cdv A outer s H E hr
  have hu : (A.deeper (envOfC "pieces_in" (defScope (top 45)) s.heap.objs.size ((G K).ad 499) cdv)).units + 100 < cLine := by have := hr.un; omega
  have tk := tk_cx (P := P) (w := w) (K := K) (mg := mg) (base := base) (N := N_pieces_in) (qual := "pieces_in") (scope := defScope (top 45)) (f := (G K).ad 499) (cdv := cdv) (A := A) (outer := outer) (s := s) (H := H) (E := E)
  apply Exists.intro
  exact db_one (ds_r (de_callTy (call_tuple' rfl) pure_tuple.op rfl (Y.free 23) rfl (da_cons (de_lcG (own := [("line", 1)]) finF_ok rfl sc_pieces_in.nd (di_s rfl (de_sl rfl (de_v 0) (dp_some (de_int)) (dp_none))) rfl (by decide) (fun s H C cl fp => dg_n sc_pieces_in.nd) (fun s H C cl fp => dts_0) (fun s H C cl fp => de_callTy (call_tuple' rfl) pure_tuple.op rfl (Y.free 23) rfl (da_cons (de_lcG (own := [("word", 2)]) finF_ok rfl sc_pieces_in.nd (di_s rfl (de_sl rfl (de_bm rfl F.plainAttrs_str F.slot_str_split F.type_str_split mt_split chkS_ok pure_split.op (de_v 1) (da_cons (de_str) (da_nil))) (dp_some (de_int)) (dp_none))) rfl (by decide) (fun s H C cl fp => dg_n sc_pieces_in.nd) (fun s H C cl fp => dts_0) (fun s H C cl fp => de_callTy call_int' pure_int.op rfl (Y.free 7) rfl (da_cons (de_v 2) (da_nil)))) (da_nil)))) (da_nil))))
def N_read_puzzle : List Str := ["rows", "index", "words"]
def ps_read_puzzle : List Str := ["rows"]
theorem sc_read_puzzle : FnScope N_read_puzzle ps_read_puzzle (defScope (top 48)) := ⟨rfl, rfl, rfl, by decide +kernel, rfl, by decide +kernel, by decide +kernel⟩
def kb_read_puzzle : List KB := [(0, 1, [0], ["rows"])]
theorem kbp_read_puzzle : BindsOk "read_puzzle" "read_puzzle" (top 48) ps_read_puzzle kb_read_puzzle := .cons (fun _ _ _ _ _ _ us ws h1 h2 => match us, ws, h1, h2 with | [], [_], _, _ => rfl) (.nil)
theorem ok_read_puzzle (Y : Hy K mg) : OkF P w K mg base (G K) 13 514 ps_read_puzzle kb_read_puzzle m_read_puzzle := by
  obtain ⟨fd, FF⟩ := Y.says.def_ 32 (d := d514)
  have FD : FnD K "read_puzzle" "read_puzzle" (top 48) ((G K).ad 514) fd := FF
  obtain ⟨t_TURNING, g_TURNING⟩ := Y.str 51 (x := "TURNING") (z := "turning")
  refine okF_of rfl FD sc_read_puzzle (fun _ _ _ _ _ _ us hl => match us, hl with | [_], _ => rfl) kbp_read_puzzle ?_
  intro cdv A outer s H E hr
  have hu : (A.deeper (envOfC "read_puzzle" (defScope (top 48)) s.heap.objs.size ((G K).ad 514) cdv)).units + 100 < cLine := by have := hr.un; omega
  have tk := tk_cx (P := P) (w := w) (K := K) (mg := mg) (base := base) (N := N_read_puzzle) (qual := "read_puzzle") (scope := defScope (top 48)) (f := (G K).ad 514) (cdv := cdv) (A := A) (outer := outer) (s := s) (H := H) (E := E)
  apply Exists.intro
  exact db_cons (ds_f hp_cx rfl (di_s rfl (de_cP (ok_wrong_line Y) tk hr (by decide) rfl (Y.glo 55) (da_cons (de_v 0) (da_nil)))) (dg_n sc_read_puzzle.nd) (db_one (ds_bad)))
        (db_cons (ds_s sc_read_puzzle.nd (de_bm rfl F.plainAttrs_str F.slot_str_split F.type_str_split mt_split chkS_ok pure_split.op (de_ix (ix_seq' rfl) pure_ix.op (de_v 0) (de_int)) (da_cons (de_str) (da_nil))))
        (db_one (ds_r (de_mkP (c := 86) (fl := fl_Puzzle) (show _ ∈ csL by decide) rfl (ok_Puzzle_init Y) rfl tk (mk_Puzzle Y) hr (by decide) rfl (Y.glo 27) (da_cons (de_callTy call_int' pure_int.op rfl (Y.free 7) rfl (da_cons (de_ix (ix_seq' rfl) pure_ix.op (de_v 2) (de_int)) (da_nil))) (da_cons (de_callTy call_int' pure_int.op rfl (Y.free 7) rfl (da_cons (de_ix (ix_seq' rfl) pure_ix.op (de_v 2) (de_int)) (da_nil))) (da_cons (de_cP (ok_pieces_in Y) tk hr (by decide) rfl (Y.glo 56) (da_cons (de_v 0) (da_nil))) (da_cons (de_cmp (op_eqD' rfl hu) pure_eq.op (de_ix (ix_seq' rfl) pure_ix.op (de_v 2) (de_int)) (de_glob (v := .str "turning") (d := .str "turning") rfl g_TURNING ⟨_, rfl⟩ (fun _ => .str _)) rfl) (da_nil)))))))))
def N_Puzzle_eq : List Str := ["self", "other"]
def ps_Puzzle_eq : List Str := ["self", "other"]
theorem sc_Puzzle_eq : FnScope N_Puzzle_eq ps_Puzzle_eq (defScope (inClass (top 29) 1)) := ⟨rfl, rfl, rfl, by decide +kernel, rfl, by decide +kernel, by decide +kernel⟩
def kb_Puzzle_eq : List KB := []
theorem kbp_Puzzle_eq : BindsOk "__eq__" "Puzzle.__eq__" (inClass (top 29) 1) ps_Puzzle_eq kb_Puzzle_eq := .nil
theorem ok_Puzzle_eq (Y : Hy K mg) : OkF P w K mg base (G K) 1 87 ps_Puzzle_eq kb_Puzzle_eq m_Puzzle_eq := by
  obtain ⟨fd, FF⟩ := Y.says.def_ 0 (d := d87)
  have FD : FnD K "__eq__" "Puzzle.__eq__" (inClass (top 29) 1) ((G K).ad 87) fd := FF
  refine okF_of rfl FD sc_Puzzle_eq (fun _ _ _ _ _ _ us hl => match us, hl with | [_, _], _ => rfl) kbp_Puzzle_eq ?_
  intro cdv A outer s H E hr
  have hu : (A.deeper (envOfC "Puzzle.__eq__" (defScope (inClass (top 29) 1)) s.heap.objs.size ((G K).ad 87) cdv)).units + 100 < cLine := by have := hr.un; omega
  have tk := tk_cx (P := P) (w := w) (K := K) (mg := mg) (base := base) (N := N_Puzzle_eq) (qual := "Puzzle.__eq__") (scope := defScope (inClass (top 29) 1)) (f := (G K).ad 87) (cdv := cdv) (A := A) (outer := outer) (s := s) (H := H) (E := E)
  apply Exists.intro
  exact db_one (ds_r (de_and (de_isC 86 rfl (ownOk_Puzzle Y) rfl (Y.free 40) (de_v 1) rfl (Y.glo 27)) (de_one (de_cmp (op_eqD' rfl hu) pure_eq.op (de_fld 86 fl_Puzzle rfl rfl (cls_Puzzle Y) (He.noat_ok (Y.says.fact 15 (f := .noat "Puzzle" "parts"))) (de_v 0)) (de_fld 86 fl_Puzzle rfl rfl (cls_Puzzle Y) (He.noat_ok (Y.says.fact 15 (f := .noat "Puzzle" "parts"))) (de_v 1)) rfl))))
def N_l_law_right_k83 : List Str := ["well", "lap", "parts", "made", "rows", "told", "other", "text"]
def ps_l_law_right_k83 : List Str := ["well"]
theorem sc_l_law_right_k83 : FnScope N_l_law_right_k83 ps_l_law_right_k83 (defScope (top 60)) := ⟨rfl, rfl, rfl, by decide +kernel, rfl, by decide +kernel, by decide +kernel⟩
def kb_l_law_right_k83 : List KB := []
theorem kbp_l_law_right_k83 : BindsOk "_law_right" "_law_right" (top 60) ps_l_law_right_k83 kb_l_law_right_k83 := .nil
theorem ok_l_law_right_k83 (Y : Hy K mg) : OkF P w K mg base (G K) 14 171 ps_l_law_right_k83 kb_l_law_right_k83 m_l_law_right_k83 := by
  obtain ⟨fd, FF⟩ := Y.says.def_ 8 (d := d171)
  have FD : FnD K "_law_right" "_law_right" (top 60) ((G K).ad 171) fd := FF
  refine okF_of rfl FD sc_l_law_right_k83 (fun _ _ _ _ _ _ us hl => match us, hl with | [_], _ => rfl) kbp_l_law_right_k83 ?_
  intro cdv A outer s H E hr
  have hu : (A.deeper (envOfC "_law_right" (defScope (top 60)) s.heap.objs.size ((G K).ad 171) cdv)).units + 100 < cLine := by have := hr.un; omega
  have tk := tk_cx (P := P) (w := w) (K := K) (mg := mg) (base := base) (N := N_l_law_right_k83) (qual := "_law_right") (scope := defScope (top 60)) (f := (G K).ad 171) (cdv := cdv) (A := A) (outer := outer) (s := s) (H := H) (E := E)
  apply Exists.intro
  exact db_cons (ds_f hp_cx rfl (di_r1 rfl (Y.free 3) (de_int)) (dg_n sc_l_law_right_k83.nd) (db_cons (ds_s sc_l_law_right_k83.nd (de_cS (ok_l_law_puzzle Y) tk hr (by decide) rfl (Y.glo 9) (da_cons (de_v 0) (da_cons (de_int) (da_nil)))))
        (db_cons (ds_par2 rfl sc_l_law_right_k83.nd (da_cons (de_cP (ok_l_law_made Y) tk hr (by decide) rfl (Y.glo 11) (da_cons (de_v 2) (da_nil))) (da_cons (de_cP (ok_l_law_text Y) tk hr (by decide) rfl (Y.glo 10) (da_cons (de_v 2) (da_nil))) (da_nil))))
        (db_cons (ds_i (dt_not (dt_val (de_cP (ok_l_law_same_k79 Y 6) tk hr (by decide) rfl (Y.glo 13) (da_cons (de_lst (da_cons (de_cP (ok_puzzle_rows Y) tk hr (by decide) rfl (Y.glo 12) (da_cons (de_v 3) (da_nil))) (da_cons (de_cK0 (ks := ["puzzle"]) (a := 0) (b := 1) (π := [0]) (ok_puzzle_rows Y) (by decide) (by decide) tk hr (by decide) rfl (Y.glo 12) (dk_cons (de_v 3) (dk_nil))) (da_nil)))) (da_cons (de_lst (da_cons (de_v 4) (da_cons (de_v 4) (da_nil)))) (da_nil)))))) (db_one (ds_r (de_bl))) (db_nil))
        (db_cons (ds_f hp_cx rfl (di_s rfl (de_lst (da_cons (de_cP (ok_read_puzzle Y) tk hr (by decide) rfl (Y.glo 14) (da_cons (de_v 4) (da_nil))) (da_cons (de_cK0 (ks := ["rows"]) (a := 0) (b := 1) (π := [0]) (ok_read_puzzle Y) (by decide) (by decide) tk hr (by decide) rfl (Y.glo 14) (dk_cons (de_v 4) (dk_nil))) (da_cons (de_cP (ok_read_puzzle Y) tk hr (by decide) rfl (Y.glo 14) (da_cons (de_cP (ok_puzzle_rows Y) tk hr (by decide) rfl (Y.glo 12) (da_cons (de_v 3) (da_nil))) (da_nil))) (da_nil)))))) (dg_n sc_l_law_right_k83.nd) (db_one (ds_i (dt_bool (dw_or (dt_cmp (op_neF (ok_Puzzle_eq Y) rfl hr (by decide) (eqC_Puzzle Y)) (pure_eqI (c := 86) (m := m_Puzzle_eq) (neg := true)).op (de_v 5) (de_v 3) rfl) (dw_or1 (dt_not (dt_val (de_cP (ok_l_law_same_k79 Y 6) tk hr (by decide) rfl (Y.glo 13) (da_cons (de_fld 86 fl_Puzzle rfl rfl (cls_Puzzle Y) (He.noat_ok (Y.says.fact 15 (f := .noat "Puzzle" "parts"))) (de_v 5)) (da_cons (de_v 2) (da_nil))))))))) (db_one (ds_r (de_bl))) (db_nil))))
        (db_one (ds_f hp_cx rfl (di_s rfl (de_lst (da_cons (de_cS (ok_l_law_puzzle Y) tk hr (by decide) rfl (Y.glo 9) (da_cons (de_v 0) (da_cons (de_int) (da_nil)))) (da_cons (de_op (op_add4 rfl) pure_add.op (de_sl rfl (de_v 2) (dp_none) (dp_some (de_int))) (de_tup (da_cons (de_not (de_ix (ix_seq' rfl) pure_ix.op (de_v 2) (de_int))) (da_nil)))) (da_cons (de_op (op_add4 rfl) pure_add.op (de_tup (da_cons (de_ix (ix_seq' rfl) pure_ix.op (de_v 2) (de_int)) (da_cons (de_ix (ix_seq' rfl) pure_ix.op (de_v 2) (de_int)) (da_nil)))) (de_sl rfl (de_v 2) (dp_some (de_int)) (dp_none))) (da_nil)))))) (dg_n sc_l_law_right_k83.nd) (db_cons (ds_s sc_l_law_right_k83.nd (de_cP (ok_puzzle_rows Y) tk hr (by decide) rfl (Y.glo 12) (da_cons (de_cP (ok_l_law_made Y) tk hr (by decide) rfl (Y.glo 11) (da_cons (de_v 6) (da_nil))) (da_nil))))
        (db_one (ds_i (dt_bool (dw_or (dt_cmp (op_neD' rfl hu) pure_ne.op (de_cmp (op_eqD' rfl hu) pure_eq.op (de_v 7) (de_v 4) rfl) (de_cmp (op_eqD' rfl hu) pure_eq.op (de_v 6) (de_v 2) rfl) rfl) (dw_or1 (dt_not (dt_val (de_cP (ok_l_law_same_k79 Y 6) tk hr (by decide) rfl (Y.glo 13) (da_cons (de_v 7) (da_cons (de_cP (ok_l_law_text Y) tk hr (by decide) rfl (Y.glo 10) (da_cons (de_v 6) (da_nil))) (da_nil))))))))) (db_one (ds_r (de_bl))) (db_nil)))))))))))
        (db_one (ds_r (de_bl)))
def N_law_k83 : List Str := ["script", "lap", "well", "again"]
def ps_law_k83 : List Str := ["script"]
theorem sc_law_k83 : FnScope N_law_k83 ps_law_k83 (defScope (top 61)) := ⟨rfl, rfl, rfl, by decide +kernel, rfl, by decide +kernel, by decide +kernel⟩
def kb_law_k83 : List KB := []
theorem kbp_law_k83 : BindsOk "law" "law" (top 61) ps_law_k83 kb_law_k83 := .nil
theorem ok_law_k83 (Y : Hy K mg) : OkF P w K mg base (G K) 15 440 ps_law_k83 kb_law_k83 m_law_k83 := by
  obtain ⟨fd, FF⟩ := Y.says.def_ 29 (d := d440)
  have FD : FnD K "law" "law" (top 61) ((G K).ad 440) fd := FF
  refine okF_of rfl FD sc_law_k83 (fun _ _ _ _ _ _ us hl => match us, hl with | [_], _ => rfl) kbp_law_k83 ?_
  intro cdv A outer s H E hr
  have hu : (A.deeper (envOfC "law" (defScope (top 61)) s.heap.objs.size ((G K).ad 440) cdv)).units + 100 < cLine := by have := hr.un; omega
  have tk := tk_cx (P := P) (w := w) (K := K) (mg := mg) (base := base) (N := N_law_k83) (qual := "law") (scope := defScope (top 61)) (f := (G K).ad 440) (cdv := cdv) (A := A) (outer := outer) (s := s) (H := H) (E := E)
  apply Exists.intro
  exact db_cons (ds_f hp_cx rfl (di_r1 rfl (Y.free 3) (de_callB (call_max2 rfl) pure_max.op rfl (Y.free 2) rfl (da_cons (de_int) (da_cons (de_callB (call_min2 rfl) pure_min.op rfl (Y.free 1) rfl (da_cons (de_callB (call_len' rfl) op_len rfl (Y.free 0) rfl (da_cons (de_v 0) (da_nil))) (da_cons (de_int) (da_nil)))) (da_nil))))) (dg_n sc_law_k83.nd) (db_cons (ds_s sc_law_k83.nd (de_cN (ok_l_law_well_k83 Y) tk hr (by decide) rfl (Y.glo 4) (da_cons (de_v 0) (da_cons (de_v 1) (da_nil)))))
        (db_one (ds_i (dt_not (dt_val (de_callB (call_all' rfl rfl) pure_all.op rfl (Y.free 6) rfl (da_cons (de_lcG (own := [("again", 3)]) finF_ok rfl sc_law_k83.nd (di_r1 rfl (Y.free 3) (de_int)) rfl (by decide) (fun s H C cl fp => dg_n sc_law_k83.nd) (fun s H C cl fp => dts_0) (fun s H C cl fp => de_cS (ok_l_law_right_k83 Y) takesN hr (by decide) rfl (Y.glo 5) (da_cons (de_v 2) (da_nil)))) (da_nil))))) (db_one (ds_r (de_bl))) (db_nil)))))
        (db_one (ds_r (de_bl)))
end
end W83

namespace W83
open PySem PySem.Spec PyProof.Rows L2 DN
def nm0 : List Str := ["__name__", "FitError", "InvalidNumber", "InvalidWord", "NotAPuzzle", "InvalidPieces", "InvalidText", "is_whole", "is_between", "wrong_in", "are_all", "NORTH", "EAST", "SOUTH", "WEST", "SIDES", "MOST_SORT", "MOST_CELLS", "is_side", "is_piece", "is_next_piece", "wrong_piece", "check_rows", "check_columns", "check_frame", "check_turning", "Puzzle", "check_puzzle", "FIGURES", "FRAME"]
def nm1 : List Str := ["PIECE", "TURNING", "FIXED", "FRAME_WORDS", "PIECE_WORDS", "are_figures", "is_number", "is_frame_line", "is_piece_line", "is_line", "wrong_line", "pieces_in", "puzzle_rows", "read_puzzle", "_law_well", "_law_draw", "_law_of", "_law_same", "_law_turned", "_law_cut", "_law_cut_pieces", "_law_puzzle", "_law_made", "_law_text", "_law_right"]
def names : List Str := nm0 ++ nm1
abbrev R : PySem.W.OpenRow := PySem.W.OpenLaw.row PySem.Challenge.rw_sidefits_k83_whole_texts_of_puzzles
abbrev hk : PySem.W.Hook := He.hookX 5 fa fn [] [] ex
def ob (s : PySem.W.SharedT) : He.AlX := He.obsX 5 fa fn [] [] ex (HandSHeadRun.getT s)
theorem ob_eq (s : PySem.W.SharedT) : ob s = hk.obs s.abs := He.obsX_eq (HandSHeadRun.getT_eq s)
theorem run (w : World) : HandSHeadRun.RunEq R (PySem.W.view R.prog [61]) hk ob 20000 names w := by
  intro os
  kernel_rfl
end W83
open PySem PySem.W PySem.Calls PyProof.Rows in
theorem PySem.Challenge.cw_sidefits_k83_whole_texts_of_puzzles_holds : PySem.Challenge.rw_sidefits_k83_whole_texts_of_puzzles.Holds := by
  w_on; o_law
  refine HandSHeadRun.head_any (r := OpenLaw.row PySem.Challenge.rw_sidefits_k83_whole_texts_of_puzzles) (q := view (OpenLaw.row PySem.Challenge.rw_sidefits_k83_whole_texts_of_puzzles).prog [61]) (H := W83.hk) (ob := W83.ob) (M := 20000) (loose := W83.names) (d := HandSHeadRun.topDef (OpenLaw.row PySem.Challenge.rw_sidefits_k83_whole_texts_of_puzzles).prog 61) (kwd := []) W83.ob_eq
    (by kernel_rfl) (fun s => by kernel_rfl) W83.run (by kernel_rfl) (by kernel_rfl) (by kernel_rfl) (by rfl) (by first | assumption | decide +kernel) (by decide +kernel) ⟨rfl, rfl, rfl, rfl, rfl, by decide +kernel⟩ ?hw ?hc
  case hw => w_witness2
  case hc =>
    refine L2.walk_ofE (l := PySem.Challenge.rw_sidefits_k83_whole_texts_of_puzzles) (n := 63) (k := 15) (x := "script") (CX := L2.CX0) rfl (by decide) (by kernel_rfl) ⟨rfl, by decide, by decide⟩ ?F (fun _ _ _ _ z => z)
    intro w mg fa h Y G hmg0
    obtain ⟨K, KX, c⟩ := Y
    have hmg : mg ("law" : PySem.Str) = some (.ref fa) := by
      have e : (HandSHeadRun.topDef (OpenLaw.row PySem.Challenge.rw_sidefits_k83_whole_texts_of_puzzles).prog 61).name = ("law" : PySem.Str) := by kernel_rfl
      rw [← e]
      exact hmg0
    have Yh : W83.Hy K mg := ⟨h, KX, G, c.t.d, c.more⟩
    obtain ⟨fd, F⟩ := Yh.says.def_ 29 (d := W83.d440)
    have F : DN.FnD K "law" "law" (W83.top 61) ((W83.G K).ad 440) fd := F
    have e := hmg.symm.trans (Yh.glo 67 (x := "law"))
    cases e
    have b := L2.FunD.bindsA (ps := ["script"]) F fun _ _ _ _ _ _ us hl => match us, hl with | [_], _ => rfl
    refine ⟨K, fd, fun vs H Q _ => DN.spD (W83.G K) K 1 Mi.m_law_k83 vs H Q (fun _ _ _ => False), KX, fun s v => b s [v] rfl, fun H a ns hl _ hS => DN.law_sp (Mi.law_k83_spec ns hl) hS, fun base _ _ => ?_⟩
    exact DN.nox_of ((W83.ok_law_k83 Yh).law (DN.fdOf_of F) rfl)

