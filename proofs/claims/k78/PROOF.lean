import PyProof.Rows.All
import Wide.All
import OpenK.AllK
import Wide.FinOn
import HandS.ForMost
import HandS.Text
import HandS.WordsExc
import HandS.TupAny
import HandS.IsInst
import HandS.Style
import HandS.TupMul
import HandS.Zip
import HandS.DictComp
import HandS.Defaults
import HandS.WordsDict
import HandS.WordsList
import KE.GoesMore
import HandS.Dict
import HandS.Nested
import HandS.ExcInit
import HandS.ExcSuper
import HandS.ExcOwn
import KE.KExcSuper
import HandS.NestedHot
import HandS.HotCalls
import HandS.ExcInitHot
import HandS.RaiseFrom
import HandS.SuiteRaise
import HandS.TryOnly
import HandS.ExcField
import HandS.ExcCtx
import KE.KAsSuite
import HandS.Small
import HandS.Head0
import HandS.Head1
import HandS.Head2
import HandS.HeadEnd
import HandS.HeadHook1
import HandS.HeadHook2
import PySem.Challenge.RW_nocases_k78_modules_and_nodes
section
set_option Elab.async false
set_option linter.all false
set_option maxRecDepth 100000
set_option maxHeartbeats 2000000
/-! The data layer, 1: values as trees, what stands in the heap for them, the judgements. -/
namespace DL
open PySem PySem.Spec PyProof.Rows L2

inductive D where
  | non | bl (b : Bool) | int (i : Int) | str (x : Str) | raw (v : V)
  | tup (xs : List D) | lst (xs : List D) | dct (ks : List Key) (xs : List D)
  /-- an exception that is handled: its object, its dict, its fields -/
  | exn (a dd : Addr) (ks : List Str) (xs : List D)
  /-- a list that no one writes -/
  | frl (xs : List D)

/-- a tuple that is to be read at a: a tracked one outside B, or one of the written part -/
def TupA (K : PySem.W.Frag) (H : Hp) (B : List Addr) (a : Addr) (vs : List V) : Prop :=
  (a ∉ B ∧ H a = some (.tup vs)) ∨
    ∃ (o : Obj) (its : Array Value) (n : Nat), K.lookup a = some o ∧ o.cls = .type "tuple" ∧ o.data = .seq its n ∧ its.size ≤ sizeLine ∧ Vals vs its.toList
/-- a list that is to be read at a, and never written -/
def FrlA (K : PySem.W.Frag) (H : Hp) (B : List Addr) (a : Addr) (vs : List V) : Prop :=
  (a ∉ B ∧ Rd H a (.lst vs)) ∨
    ∃ (o : Obj) (its : Array Value) (n : Nat), K.lookup a = some o ∧ o.cls = .type "list" ∧ o.dict = none ∧ o.data = .seq its n ∧ its.size ≤ sizeLine ∧ Vals vs its.toList
mutual
/-- a value stands for a tree; no part of it lies at an address of B -/
inductive Rep (K : PySem.W.Frag) (H : Hp) (B : List Addr) : D → V → Prop
  | non : Rep K H B .non .non
  | bl (b : Bool) : Rep K H B (.bl b) (.bl b)
  | int (i : Int) : Rep K H B (.int i) (.int i)
  | str (x : Str) : Rep K H B (.str x) (.str x)
  | raw (v : V) : Rep K H B (.raw v) v
  | tup {a : Addr} {xs : List D} {vs : List V} : TupA K H B a vs → Reps K H B xs vs → Rep K H B (.tup xs) (.ref a)
  | lst {a : Addr} {xs : List D} {vs : List V} : a ∉ B → H a = some (.lst vs) → Reps K H B xs vs → Rep K H B (.lst xs) (.ref a)
  | dct {a : Addr} {xs : List D} {kvs : List (Key × V)} : a ∉ B → H a = some (.dK kvs) → Reps K H B xs (kvs.map (·.2)) → Rep K H B (.dct (kvs.map (·.1)) xs) (.ref a)
  | frl {a : Addr} {xs : List D} {vs : List V} : FrlA K H B a vs → Reps K H B xs vs → Rep K H B (.frl xs) (.ref a)
  | exn {a dd : Addr} {xs : List D} {kvs : List (Str × V)} : dd ∉ B → H dd = some (.xd kvs) → Reps K H B xs (kvs.map (·.2)) → Rep K H B (.exn a dd (kvs.map (·.1)) xs) (.ref a)
inductive Reps (K : PySem.W.Frag) (H : Hp) (B : List Addr) : List D → List V → Prop
  | nil : Reps K H B [] []
  | cons {d : D} {ds : List D} {v : V} {vs : List V} : Rep K H B d v → Reps K H B ds vs → Reps K H B (d :: ds) (v :: vs)
end

/-- what is tracked outside B stands as it stood -/
def Evo (B : List Addr) (H H' : Hp) : Prop := ∀ b, b ∉ B → H b ≠ none → H' b = H b
theorem Evo.refl {B : List Addr} {H : Hp} : Evo B H H := fun _ _ _ => rfl
theorem Evo.trans {B : List Addr} {H H1 H2 : Hp} (e : Evo B H H1) (f : Evo B H1 H2) : Evo B H H2 := fun b nb t => by
  rw [f b nb (by rw [e b nb t]; exact t), e b nb t]
theorem Evo.mono {B B' : List Addr} {H H' : Hp} (e : Evo B H H') (s : ∀ b ∈ B, b ∈ B') : Evo B' H H' := fun b nb t => e b (fun z => nb (s b z)) t
theorem Evo.new {B : List Addr} {H : Hp} {p : Addr} {o : HO} (n : H p = none) : Evo B H (upd H p o) := fun b _ t => upd_ne (fun e => t (by rw [e]; exact n))
theorem Evo.write {B : List Addr} {H : Hp} {p : Addr} {o : HO} (n : p ∈ B) : Evo B H (upd H p o) := fun b nb _ => upd_ne (fun e => nb (by rw [e]; exact n))
theorem Evo.at_ {B : List Addr} {H H' : Hp} (e : Evo B H H') {a : Addr} {o : HO} (nb : a ∉ B) (h : H a = some o) : H' a = some o := by
  rw [e a nb (by rw [h]; simp)]; exact h

theorem TupA.evo {K : PySem.W.Frag} {H H' : Hp} {B B' : List Addr} {a : Addr} {vs : List V} (t : TupA K H B a vs) (e : Evo B H H') (s : ∀ b ∈ B', b ∈ B ∨ H b = none) : TupA K H' B' a vs := by
  rcases t with ⟨nb, h⟩ | h
  · refine .inl ⟨fun z => ?_, e.at_ nb h⟩
    rcases s a z with z | z
    · exact nb z
    · rw [h] at z; cases z
  · exact .inr h
theorem TupA.sq {K : PySem.W.Frag} {H : Hp} {B : List Addr} {a : Addr} {vs : List V} (t : TupA K H B a vs) : SqT K H a vs := by
  rcases t with ⟨_, h⟩ | h
  · exact .inl (.inl h)
  · exact .inr h
theorem FrlA.evo {K : PySem.W.Frag} {H H' : Hp} {B B' : List Addr} {a : Addr} {vs : List V} (t : FrlA K H B a vs) (e : Evo B H H') (s : ∀ b ∈ B', b ∈ B ∨ H b = none) : FrlA K H' B' a vs := by
  rcases t with ⟨nb, h⟩ | h
  · have ne : H a ≠ none := by rcases h with h | ⟨o, h⟩ <;> rw [h] <;> simp
    refine .inl ⟨fun z => ?_, ?_⟩
    · rcases s a z with z | z
      · exact nb z
      · exact ne z
    · rcases h with h | ⟨o, h⟩
      · exact .inl (e.at_ nb h)
      · exact .inr ⟨o, e.at_ nb h⟩
  · exact .inr h
theorem FrlA.sq {K : PySem.W.Frag} {H : Hp} {B : List Addr} {a : Addr} {vs : List V} (t : FrlA K H B a vs) : SqL K H a vs := by
  rcases t with ⟨_, h⟩ | h
  · exact .inl h
  · exact .inr h
mutual
theorem Rep.evo {K : PySem.W.Frag} {H H' : Hp} {B B' : List Addr} (e : Evo B H H') (s : ∀ b ∈ B', b ∈ B ∨ H b = none) : ∀ (d : D) (v : V), Rep K H B d v → Rep K H' B' d v
  | .non, _, h => by cases h; exact .non
  | .bl b, _, h => by cases h; exact .bl b
  | .int i, _, h => by cases h; exact .int i
  | .str x, _, h => by cases h; exact .str x
  | .raw v, _, h => by cases h; exact .raw v
  | .tup xs, _, h => by
    cases h with
    | tup t r => exact .tup (t.evo e s) (Reps.evo e s xs _ r)
  | .lst xs, _, h => by
    cases h with
    | lst nb t r =>
      refine .lst (fun z => ?_) (e.at_ nb t) (Reps.evo e s xs _ r)
      rcases s _ z with z | z
      · exact nb z
      · rw [t] at z; cases z
  | .dct ks xs, _, h => by
    cases h with
    | dct nb t r =>
      refine .dct (fun z => ?_) (e.at_ nb t) (Reps.evo e s xs _ r)
      rcases s _ z with z | z
      · exact nb z
      · rw [t] at z; cases z
  | .frl xs, _, h => by
    cases h with
    | frl t r => exact .frl (t.evo e s) (Reps.evo e s xs _ r)
  | .exn a dd ks xs, _, h => by
    cases h with
    | exn nb t r =>
      refine .exn (fun z => ?_) (e.at_ nb t) (Reps.evo e s xs _ r)
      rcases s _ z with z | z
      · exact nb z
      · rw [t] at z; cases z
theorem Reps.evo {K : PySem.W.Frag} {H H' : Hp} {B B' : List Addr} (e : Evo B H H') (s : ∀ b ∈ B', b ∈ B ∨ H b = none) : ∀ (ds : List D) (vs : List V), Reps K H B ds vs → Reps K H' B' ds vs
  | [], _, h => by cases h; exact .nil
  | d :: ds, _, h => by
    cases h with
    | cons h1 h2 => exact .cons (Rep.evo e s d _ h1) (Reps.evo e s ds _ h2)
end
section
variable {K : PySem.W.Frag} {H H' : Hp} {B B' : List Addr}
theorem Rep.keep {d : D} {v : V} (h : Rep K H B d v) (e : Evo B H H') : Rep K H' B d v := Rep.evo e (fun _ z => .inl z) d v h
theorem Reps.keep {ds : List D} {vs : List V} (h : Reps K H B ds vs) (e : Evo B H H') : Reps K H' B ds vs := Reps.evo e (fun _ z => .inl z) ds vs h
theorem Rep.less {d : D} {v : V} (h : Rep K H B d v) (s : ∀ b ∈ B', b ∈ B) : Rep K H B' d v := Rep.evo Evo.refl (fun b z => .inl (s b z)) d v h
theorem Reps.less {ds : List D} {vs : List V} (h : Reps K H B ds vs) (s : ∀ b ∈ B', b ∈ B) : Reps K H B' ds vs := Reps.evo Evo.refl (fun b z => .inl (s b z)) ds vs h
theorem Reps.length : ∀ {ds : List D} {vs : List V}, Reps K H B ds vs → ds.length = vs.length
  | [], _, h => by cases h; rfl
  | _ :: _, _, h => by
    cases h with
    | cons h1 h2 => rw [List.length_cons, List.length_cons, Reps.length h2]
theorem Reps.get : ∀ {ds : List D} {vs : List V} {i : Nat} {v : V}, Reps K H B ds vs → vs[i]? = some v → ∃ d, ds[i]? = some d ∧ Rep K H B d v
  | _, _, _, _, .nil, e => by simp at e
  | _, _, 0, v, .cons h1 h2, e => by simp at e; subst e; exact ⟨_, rfl, h1⟩
  | _, _, i + 1, v, .cons h1 h2, e => by
    obtain ⟨d, e1, r⟩ := Reps.get (i := i) h2 (by simpa using e)
    exact ⟨d, by simpa using e1, r⟩
theorem Reps.at_ : ∀ {ds : List D} {vs : List V} {i : Nat} {d : D}, Reps K H B ds vs → ds[i]? = some d → ∃ v, vs[i]? = some v ∧ Rep K H B d v
  | _, _, _, _, .nil, e => by simp at e
  | _, _, 0, v, .cons h1 h2, e => by simp at e; subst e; exact ⟨_, rfl, h1⟩
  | _, _, i + 1, v, .cons h1 h2, e => by
    obtain ⟨d, e1, r⟩ := Reps.at_ (i := i) h2 (by simpa using e)
    exact ⟨d, by simpa using e1, r⟩
theorem Reps.append : ∀ {ds es : List D} {vs ws : List V}, Reps K H B ds vs → Reps K H B es ws → Reps K H B (ds ++ es) (vs ++ ws)
  | [], _, _, _, .nil, s => s
  | _ :: _, _, _, _, .cons r t, s => .cons r (Reps.append t s)
theorem Reps.take : ∀ {ds : List D} {vs : List V} (n : Nat), Reps K H B ds vs → Reps K H B (ds.take n) (vs.take n)
  | _, _, 0, _ => .nil
  | _, _, _ + 1, .nil => .nil
  | _, _, n + 1, .cons r t => .cons r (Reps.take n t)
theorem Reps.drop : ∀ {ds : List D} {vs : List V} (n : Nat), Reps K H B ds vs → Reps K H B (ds.drop n) (vs.drop n)
  | _, _, 0, r => r
  | _, _, _ + 1, .nil => .nil
  | _, _, n + 1, .cons _ t => Reps.drop n t
theorem Reps.reverse : ∀ {ds : List D} {vs : List V}, Reps K H B ds vs → Reps K H B ds.reverse vs.reverse
  | [], _, .nil => .nil
  | d :: ds, v :: vs, .cons r t => by
    rw [List.reverse_cons, List.reverse_cons]
    exact (Reps.reverse t).append (.cons r .nil)
theorem Reps.rep {ds : List D} {vs : List V} (h : Reps K H B ds vs) : ∀ k : Nat, Reps K H B (List.replicate k ds).flatten (List.replicate k vs).flatten
  | 0 => .nil
  | k + 1 => by
    rw [List.replicate_succ, List.replicate_succ, List.flatten_cons, List.flatten_cons]
    exact h.append (Reps.rep h k)
theorem Reps.split : ∀ {ds es : List D} {ws : List V}, Reps K H B (ds ++ es) ws → ∃ us vs, ws = us ++ vs ∧ Reps K H B ds us ∧ Reps K H B es vs
  | [], _, ws, h => ⟨[], ws, rfl, .nil, h⟩
  | d :: ds, es, _, .cons r t => by
    obtain ⟨us, vs, rfl, h1, h2⟩ := Reps.split (ds := ds) t
    exact ⟨_ :: us, vs, rfl, .cons r h1, h2⟩
end

/-! ### where one stands -/
abbrev Env := List (Option D)
/-- the part of the heap that the functions with a state of their own change: its addresses, its state, what stands there -/
structure Wd (ρ : Type) where
  inv : List Addr → ρ → Hp → Prop
  at_ : ∀ {W : List Addr} {r : ρ} {H : Hp}, inv W r H → ∀ b ∈ W, H b ≠ none
  keep : ∀ {W : List Addr} {r : ρ} {H H' : Hp}, inv W r H → (∀ b ∈ W, H' b = H b) → inv W r H'
abbrev Own := List (Nat × Addr)
abbrev Own.ad (A : Own) : List Addr := A.map (·.2)
structure Lc {ρ : Type} (I : Wd ρ) (K : PySem.W.Frag) (W B : List Addr) (H0 : Hp) (A : Own) (env : Env) (r : ρ) (σ : L2.St) (H : Hp) : Prop where
  wi : I.inv W r H
  wb : ∀ b ∈ W, b ∈ B
  wt : ∀ b ∈ W, H0 b ≠ none
  bt : ∀ b ∈ B, H b ≠ none
  evo : Evo W H0 H
  vals : ∀ i d, env[i]? = some (some d) → i ∉ A.map (·.1) → ∃ v, σ[i]? = some (some v) ∧ Rep K H (B ++ A.ad) d v
  owns : ∀ p ∈ A, ∃ xs vs, env[p.1]? = some (some (.lst xs)) ∧ σ[p.1]? = some (some (V.ref p.2)) ∧ H p.2 = some (.lst vs) ∧ Reps K H (B ++ A.ad) xs vs
  fresh : ∀ p ∈ A, H0 p.2 = none
  nb : ∀ p ∈ A, p.2 ∉ B
  nd : A.Pairwise fun p q => p.1 ≠ q.1 ∧ p.2 ≠ q.2
  len : env.length = σ.length
section
variable {ρ : Type} {I : Wd ρ} {K : PySem.W.Frag} {W B : List Addr} {H0 : Hp} {A : Own} {env : Env} {r r' : ρ} {σ : L2.St} {H H' : Hp}
theorem Lc.bx (l : Lc I K W B H0 A env r σ H) : ∀ b ∈ B ++ A.ad, H b ≠ none := fun b hb => by
  rcases List.mem_append.mp hb with hb | hb
  · exact l.bt b hb
  · obtain ⟨p, hp, rfl⟩ := List.mem_map.mp hb
    obtain ⟨_, _, _, _, e, _⟩ := l.owns p hp
    rw [e]; simp
theorem Lc.now (l : Lc I K W B H0 A env r σ H) {p : Nat × Addr} (hp : p ∈ A) : p.2 ∉ W := fun z => by
  exact l.wt _ z (l.fresh p hp)
/-- the heap has grown, the state may have changed -/
theorem Lc.step (l : Lc I K W B H0 A env r σ H) (wi : I.inv W r' H') (e : Evo W H H') : Lc I K W B H0 A env r' σ H' := by
  have e2 : Evo (B ++ A.ad) H H' := e.mono fun b z => List.mem_append_left _ (l.wb b z)
  refine ⟨wi, l.wb, l.wt, fun b hb => ?_, l.evo.trans e, fun i d h1 h2 => ?_, fun p hp => ?_, l.fresh, l.nb, l.nd, l.len⟩
  · by_cases hw : b ∈ W
    · exact I.at_ wi b hw
    · rw [e b hw (l.bt b hb)]; exact l.bt b hb
  · obtain ⟨v, h3, h4⟩ := l.vals i d h1 h2
    exact ⟨v, h3, h4.keep e2⟩
  · obtain ⟨xs, vs, h1, h2, h3, h4⟩ := l.owns p hp
    exact ⟨xs, vs, h1, h2, e.at_ (l.now hp) h3, h4.keep e2⟩
theorem Lc.grow (l : Lc I K W B H0 A env r σ H) {p : Addr} {o : HO} (n : H p = none) : Lc I K W B H0 A env r σ (upd H p o) :=
  l.step (I.keep l.wi fun b hb => upd_ne fun z => by rw [z] at hb; exact I.at_ l.wi _ hb n) (Evo.new n)
theorem Lc.notin (l : Lc I K W B H0 A env r σ H) {p : Addr} (n : H p = none) : p ∉ B ++ A.ad := fun z => l.bx p z n
end

/-! ### judgements -/
abbrev SE (ρ : Type) := Env → ρ → Option (D × ρ)
abbrev SB (ρ : Type) := Env → ρ → Option (Bool × ρ)
abbrev SA (ρ : Type) := Env → ρ → Option (List D × ρ)
inductive Out (ρ : Type) where
  | nx (env : Env) (r : ρ)
  | ret (d : D) (r : ρ)
abbrev SS (ρ : Type) := Env → ρ → Option (Out ρ)
/-- what a statement may change: the world, the lists that slots own, what is new -/
def Fr (W : List Addr) (A A' : Own) (H H' : Hp) : Prop := Evo (W ++ A.ad) H H' ∧ ∀ p ∈ A', p.2 ∈ A.ad ∨ H p.2 = none
/-- the value may be a list that a slot owns -/
def RepT (K : PySem.W.Frag) (H : Hp) (B : List Addr) (A : Own) (d : D) (v : V) : Prop :=
  Rep K H (B ++ A.ad) d v ∨ ∃ p ∈ A, ∃ xs vs, d = .lst xs ∧ v = V.ref p.2 ∧ H p.2 = some (.lst vs) ∧ Reps K H (B ++ A.ad) xs vs
section
variable {ρ : Type} (I : Wd ρ) (K : PySem.W.Frag) (O : List Nat)
def tE (f : SE ρ) : TE := fun σ H Q => ∃ W B H0 A env r d r', Lc I K W B H0 A env r σ H ∧ A.map (·.1) = O ∧ f env r = some (d, r') ∧
  ∀ v H', Lc I K W B H0 A env r' σ H' → Evo W H H' → Rep K H' (B ++ A.ad) d v → Q v H'
def tB (f : SE ρ) : TE := fun σ H Q => ∃ W B H0 A env r d r', Lc I K W B H0 A env r σ H ∧ A.map (·.1) = O ∧ f env r = some (d, r') ∧
  ∀ v H', Lc I K W B H0 A env r' σ H' → Evo W H H' → RepT K H' B A d v → Q v H'
def tF (f : SE ρ) : TE := fun σ H Q => ∃ W B H0 A env r d r', Lc I K W B H0 A env r σ H ∧ A.map (·.1) = O ∧ f env r = some (d, r') ∧
  ∀ a xs vs H', d = .lst xs → Lc I K W B H0 A env r' σ H' → Evo W H H' → H a = none → H' a = some (.lst vs) → Reps K H' (a :: (B ++ A.ad)) xs vs → Q (.ref a) H'
def tT (f : SB ρ) : TT := fun σ H Q => ∃ W B H0 A env r b r', Lc I K W B H0 A env r σ H ∧ A.map (·.1) = O ∧ f env r = some (b, r') ∧
  ∀ H', Lc I K W B H0 A env r' σ H' → Evo W H H' → Q b H'
def tAr (f : SA ρ) : TA := fun σ H Q => ∃ W B H0 A env r ds r', Lc I K W B H0 A env r σ H ∧ A.map (·.1) = O ∧ f env r = some (ds, r') ∧
  ∀ vs H', Lc I K W B H0 A env r' σ H' → Evo W H H' → Reps K H' (B ++ A.ad) ds vs → Q vs H'
def tS (f : SS ρ) (O' : List Nat) : TS := fun D σ H => ∃ W B H0 A env r, Lc I K W B H0 A env r σ H ∧ A.map (·.1) = O ∧
  match f env r with
  | none => False
  | some (.nx env' r') => ∀ A' σ' H', A'.map (·.1) = O' → Lc I K W B H0 A' env' r' σ' H' → Fr W A A' H H' → D.nx σ' H'
  | some (.ret d r') => ∀ v H', Evo W H0 H' → I.inv W r' H' → Rep K H' B d v → D.rt v H'
end
section
variable {ρ : Type} (I : Wd ρ) (X : Cx) (O : List Nat)
def Ed (e : Expr) (f : SE ρ) : Prop := PE X e (tE I X.K O f)
def Eb (e : Expr) (f : SE ρ) : Prop := PE X e (tB I X.K O f)
def Ef (e : Expr) (f : SE ρ) : Prop := PE X e (tF I X.K O f)
def Td (e : Expr) (f : SB ρ) : Prop := PT X e (tT I X.K O f)
def Wt (e : Expr) (f : SB ρ) : Prop := PW X e (tT I X.K O f)
def Ad (es : List Expr) (f : SA ρ) : Prop := PA X es (tAr I X.K O f)
def Sd (st : Stmt) (f : SS ρ) (O' : List Nat) : Prop := PS X st (tS I X.K O f O')
def Bd (st : List Stmt) (f : SS ρ) (O' : List Nat) : Prop := PSs X st (tS I X.K O f O')
end
theorem PE.weak {X : Cx} {e : Expr} {t u : TE} (h : PE X e t) (w : ∀ σ H Q, u σ H Q → t σ H Q) : PE X e u := ⟨fun pins s σ H Q i q => h.run pins s σ H Q i (w σ H Q q)⟩
theorem PT.weak {X : Cx} {e : Expr} {t u : TT} (h : PT X e t) (w : ∀ σ H Q, u σ H Q → t σ H Q) : PT X e u := ⟨fun pins s σ H Q i q => h.run pins s σ H Q i (w σ H Q q)⟩
theorem PW.weak {X : Cx} {e : Expr} {t u : TT} (h : PW X e t) (w : ∀ σ H Q, u σ H Q → t σ H Q) : PW X e u := ⟨fun wh pins s σ H Q i q => h.run wh pins s σ H Q i (w σ H Q q)⟩
theorem PA.weak {X : Cx} {e : List Expr} {t u : TA} (h : PA X e t) (w : ∀ σ H Q, u σ H Q → t σ H Q) : PA X e u := ⟨fun p pins s σ H Q i q => h.run p pins s σ H Q i (w σ H Q q)⟩
theorem PS.weak {X : Cx} {e : Stmt} {t u : TS} (h : PS X e t) (w : ∀ D σ H, u D σ H → t D σ H) : PS X e u := ⟨fun pins s σ H D i q => h.run pins s σ H D i (w D σ H q)⟩
theorem PSs.weak {X : Cx} {e : List Stmt} {t u : TS} (h : PSs X e t) (w : ∀ D σ H, u D σ H → t D σ H) : PSs X e u := ⟨fun pins s σ H D i q => h.run pins s σ H D i (w D σ H q)⟩
end DL
end
section
set_option Elab.async false
set_option linter.all false
set_option maxRecDepth 100000
set_option maxHeartbeats 2000000
/-! The data layer, 2: expressions. -/
namespace DL
open PySem PySem.Spec PyProof.Rows L2

/-! ### operators by trees -/
def RepA (K : PySem.W.Frag) (H : Hp) (B : List Addr) (d : D) (v : V) : Prop :=
  Rep K H B d v ∨ ∃ a xs vs, d = .lst xs ∧ v = V.ref a ∧ H a = some (.lst vs) ∧ Reps K H B xs vs
def Ext (H H' : Hp) : Prop := H' = H ∨ ∃ p o, H p = none ∧ H' = upd H p o
theorem Ext.refl {H : Hp} : Ext H H := .inl rfl
theorem Ext.new {H : Hp} {p : Addr} {o : HO} (n : H p = none) : Ext H (upd H p o) := .inr ⟨p, o, n, rfl⟩
theorem Ext.evo {B : List Addr} {H H' : Hp} (e : Ext H H') : Evo B H H' := by
  rcases e with rfl | ⟨p, o, n, rfl⟩
  · exact Evo.refl
  · exact Evo.new n
section
variable {K : PySem.W.Frag} {H : Hp} {B : List Addr} {v : V} {xs : List D}
theorem RepA.lst (h : RepA K H B (.lst xs) v) : ∃ a vs, v = V.ref a ∧ H a = some (.lst vs) ∧ Reps K H B xs vs := by
  rcases h with h | ⟨a, ys, vs, e, h1, h2, h3⟩
  · cases h with
    | lst nb t r => exact ⟨_, _, rfl, t, r⟩
  · cases e; exact ⟨a, vs, h1, h2, h3⟩
theorem RepA.tup (h : RepA K H B (.tup xs) v) : ∃ a vs, v = V.ref a ∧ TupA K H B a vs ∧ Reps K H B xs vs := by
  rcases h with h | ⟨a, ys, vs, e, h1, h2, h3⟩
  · cases h with
    | tup t r => exact ⟨_, _, rfl, t, r⟩
  · cases e
theorem RepA.tupR (h : RepA K H B (.tup xs) v) : Rep K H B (.tup xs) v := by
  rcases h with h | ⟨a, ys, vs, e, h1, h2, h3⟩
  · exact h
  · cases e
theorem RepA.dct {ks : List Key} (h : RepA K H B (.dct ks xs) v) : ∃ a kvs, v = V.ref a ∧ H a = some (.dK kvs) ∧ ks = kvs.map (·.1) ∧ Reps K H B xs (kvs.map (·.2)) := by
  rcases h with h | ⟨a, ys, vs, e, h1, h2, h3⟩
  · cases h with
    | dct nb t r => exact ⟨_, _, rfl, t, rfl, r⟩
  · cases e
theorem RepA.int {i : Int} (h : RepA K H B (.int i) v) : v = .int i := by
  rcases h with h | ⟨a, ys, vs, e, h1, h2, h3⟩
  · cases h; rfl
  · cases e
theorem RepA.bl {i : Bool} (h : RepA K H B (.bl i) v) : v = .bl i := by
  rcases h with h | ⟨a, ys, vs, e, h1, h2, h3⟩
  · cases h; rfl
  · cases e
theorem RepA.str {i : Str} (h : RepA K H B (.str i) v) : v = .str i := by
  rcases h with h | ⟨a, ys, vs, e, h1, h2, h3⟩
  · cases h; rfl
  · cases e
theorem RepA.non (h : RepA K H B .non v) : v = .non := by
  rcases h with h | ⟨a, ys, vs, e, h1, h2, h3⟩
  · cases h; rfl
  · cases e
end
/-- trees without an address of their own -/
def D.sc : D → Option V
  | .non => some .non
  | .bl b => some (.bl b)
  | .int i => some (.int i)
  | .str x => some (.str x)
  | _ => none
theorem RepA.sc {K : PySem.W.Frag} {H : Hp} {B : List Addr} {v u : V} {d : D} (h : RepA K H B d v) (e : d.sc = some u) : v = u := by
  cases d with
  | non => cases e; exact h.non
  | bl b => cases e; exact h.bl
  | int i => cases e; exact h.int
  | str x => cases e; exact h.str
  | _ => cases e

def OpD (X : Cx) (f : Value → Value → Sem Value) (g : D → D → Option D) : Prop :=
  OpR X f (fun x y H Q => ∃ B d e d', (∀ b ∈ B, H b ≠ none) ∧ RepA X.K H B d x ∧ RepA X.K H B e y ∧ g d e = some d' ∧ ∀ v H', Ext H H' → Rep X.K H' B d' v → Q v H')
theorem notin_of {B : List Addr} {H : Hp} {p : Addr} (t : ∀ b ∈ B, H b ≠ none) (n : H p = none) : p ∉ B := fun z => t p z n
def big : Nat := 100000
theorem big_le : big ≤ sizeLine := by decide
theorem big_lt {n : Nat} (h : n ≤ big) : n < sizeLine := Nat.lt_of_le_of_lt h (by decide)
section
variable {X : Cx}
def addD : D → D → Option D
  | .int i, .int j => some (.int (i + j))
  | .tup xs, .tup ys => if xs.length + ys.length ≤ big then some (.tup (xs ++ ys)) else none
  | .lst xs, .lst ys => if xs.length + ys.length ≤ big then some (.lst (xs ++ ys)) else none
  | .str x, .str y => if x.length + y.length ≤ big then some (.str (x ++ y)) else none
  | _, _ => none
theorem opd_add : OpD X (binaryOp .Add) addD := by
  intro pins s σ H x y v u Q I rx ry ⟨B, d, e, d', tr, r1, r2, hg, q⟩
  cases d <;> cases e <;> simp only [addD] at hg <;> try contradiction
  case int.int i j =>
    cases hg
    exact op_add pins s σ H x y v u Q I rx ry ⟨i, j, r1.int, r2.int, q _ _ Ext.refl (.int _)⟩
  case str.str i j =>
    split at hg
    case isTrue hl =>
      cases hg
      exact op_add_str pins s σ H x y v u Q I rx ry ⟨i, j, r1.str, r2.str, Nat.le_trans hl big_le, q _ _ Ext.refl (.str _)⟩
    case isFalse => cases hg
  case tup.tup xs ys =>
    split at hg
    case isTrue hl =>
      cases hg
      obtain ⟨a, vs, rfl, t1, s1⟩ := r1.tup
      obtain ⟨b, ws, rfl, t2, s2⟩ := r2.tup
      refine op_catA pins s σ H _ _ v u Q I rx ry ⟨a, b, vs, ws, rfl, rfl, t1.sq, t2.sq, ?_, fun e => ?_, fun ne e => ?_, fun n1 n2 p np => ?_⟩
      · rw [← s1.length, ← s2.length]; exact Nat.le_trans hl big_le
      · subst e
        cases s1
        exact q _ _ Ext.refl (.tup t2 s2)
      · subst e
        cases s2
        rw [List.append_nil] at q
        exact q _ _ Ext.refl (.tup t1 s1)
      · exact q _ _ (Ext.new np) (.tup (.inl ⟨notin_of tr np, upd_same⟩) ((s1.append s2).keep (Evo.new np)))
    case isFalse => cases hg
  case lst.lst xs ys =>
    split at hg
    case isTrue hl =>
      cases hg
      obtain ⟨a, vs, rfl, t1, s1⟩ := r1.lst
      obtain ⟨b, ws, rfl, t2, s2⟩ := r2.lst
      refine op_cat pins s σ H _ _ v u Q I rx ry ⟨a, b, vs, ws, rfl, rfl, t1, t2, ?_, fun p np => ?_⟩
      · rw [← s1.length, ← s2.length]; exact Nat.le_trans hl big_le
      · exact q _ _ (Ext.new np) (.lst (notin_of tr np) upd_same ((s1.append s2).keep (Evo.new np)))
    case isFalse => cases hg
def subD : D → D → Option D
  | .int i, .int j => some (.int (i - j))
  | _, _ => none
theorem opd_sub : OpD X (binaryOp .Sub) subD := by
  intro pins s σ H x y v u Q I rx ry ⟨B, d, e, d', tr, r1, r2, hg, q⟩
  cases d <;> cases e <;> simp only [subD] at hg <;> try contradiction
  cases hg
  exact op_sub pins s σ H x y v u Q I rx ry ⟨_, _, r1.int, r2.int, q _ _ Ext.refl (.int _)⟩
def modD : D → D → Option D
  | .int i, .int j => if 0 < j then some (.int (i % j)) else none
  | _, _ => none
theorem opd_mod : OpD X (binaryOp .Mod) modD := by
  intro pins s σ H x y v u Q I rx ry ⟨B, d, e, d', tr, r1, r2, hg, q⟩
  cases d <;> cases e <;> simp only [modD] at hg <;> try contradiction
  split at hg
  case isTrue hl =>
    cases hg
    exact op_mod pins s σ H x y v u Q I rx ry ⟨_, _, r1.int, r2.int, hl, q _ _ Ext.refl (.int _)⟩
  case isFalse => cases hg
def fdivD : D → D → Option D
  | .int i, .int j => if 0 < j ∧ j < 1073741824 then some (.int (i / j)) else none
  | _, _ => none
theorem opd_fdiv : OpD X (binaryOp .FloorDiv) fdivD := by
  intro pins s σ H x y v u Q I rx ry ⟨B, d, e, d', tr, r1, r2, hg, q⟩
  cases d <;> cases e <;> simp only [fdivD] at hg <;> try contradiction
  split at hg
  case isTrue hl =>
    cases hg
    exact op_fdiv pins s σ H x y v u Q I rx ry ⟨_, _, r1.int, r2.int, hl, q _ _ Ext.refl (.int _)⟩
  case isFalse => cases hg
def powD : D → D → Option D
  | .int i, .int j => if 0 ≤ j ∧ j ≤ 1000000 ∧ i.natAbs < 2 ^ 64 then some (.int (i ^ j.toNat)) else none
  | _, _ => none
theorem opd_pow : OpD X (binaryOp .Pow) powD := by
  intro pins s σ H x y v u Q I rx ry ⟨B, d, e, d', tr, r1, r2, hg, q⟩
  cases d <;> cases e <;> simp only [powD] at hg <;> try contradiction
  split at hg
  case isTrue hl =>
    cases hg
    exact op_pow pins s σ H x y v u Q I rx ry ⟨_, _, r1.int, r2.int, hl, q _ _ Ext.refl (.int _)⟩
  case isFalse => cases hg
def ltD : D → D → Option D
  | .int i, .int j => some (.bl (decide (i < j)))
  | .str i, .str j => some (.bl (decide (i.cps.toList < j.cps.toList)))
  | _, _ => none
theorem opd_lt : OpD X (compareOp .Lt) ltD := by
  intro pins s σ H x y v u Q I rx ry ⟨B, d, e, d', tr, r1, r2, hg, q⟩
  cases d <;> cases e <;> simp only [ltD] at hg <;> try contradiction
  case int.int =>
    cases hg
    exact op_lt pins s σ H x y v u Q I rx ry ⟨_, _, r1.int, r2.int, q _ _ Ext.refl (.bl _)⟩
  case str.str =>
    cases hg
    exact op_lt_str pins s σ H x y v u Q I rx ry ⟨_, _, r1.str, r2.str, q _ _ Ext.refl (.bl _)⟩
def leD : D → D → Option D
  | .int i, .int j => some (.bl (decide (i ≤ j)))
  | .str i, .str j => some (.bl (!decide (j.cps.toList < i.cps.toList)))
  | _, _ => none
theorem opd_le : OpD X (compareOp .LtE) leD := by
  intro pins s σ H x y v u Q I rx ry ⟨B, d, e, d', tr, r1, r2, hg, q⟩
  cases d <;> cases e <;> simp only [leD] at hg <;> try contradiction
  case int.int =>
    cases hg
    exact op_le pins s σ H x y v u Q I rx ry ⟨_, _, r1.int, r2.int, q _ _ Ext.refl (.bl _)⟩
  case str.str =>
    cases hg
    exact op_le_str pins s σ H x y v u Q I rx ry ⟨_, _, r1.str, r2.str, q _ _ Ext.refl (.bl _)⟩
def gtD : D → D → Option D
  | .int i, .int j => some (.bl (decide (j < i)))
  | _, _ => none
theorem opd_gt : OpD X (compareOp .Gt) gtD := by
  intro pins s σ H x y v u Q I rx ry ⟨B, d, e, d', tr, r1, r2, hg, q⟩
  cases d <;> cases e <;> simp only [gtD] at hg <;> try contradiction
  cases hg
  exact op_gt pins s σ H x y v u Q I rx ry ⟨_, _, r1.int, r2.int, q _ _ Ext.refl (.bl _)⟩
def geD : D → D → Option D
  | .int i, .int j => some (.bl (decide (j ≤ i)))
  | _, _ => none
theorem opd_ge : OpD X (compareOp .GtE) geD := by
  intro pins s σ H x y v u Q I rx ry ⟨B, d, e, d', tr, r1, r2, hg, q⟩
  cases d <;> cases e <;> simp only [geD] at hg <;> try contradiction
  cases hg
  exact op_ge pins s σ H x y v u Q I rx ry ⟨_, _, r1.int, r2.int, q _ _ Ext.refl (.bl _)⟩
end

/-! ### == and != : plain ones, a list or a tuple beside an empty one -/
def eqB : D → D → Option Bool
  | .lst xs, .lst [] => some xs.isEmpty
  | .tup xs, .tup [] => some xs.isEmpty
  | .tup [], .tup (y :: ys) => some false
  | d, e => match d.sc, e.sc with
    | some x, some y => if scal x y = true then some (decide (x = y)) else none
    | _, _ => none
def eqD (d e : D) : Option D := (eqB d e).map .bl
def neD (d e : D) : Option D := (eqB d e).map fun b => .bl (!b)
theorem isEmpty_len {α β : Type} : ∀ {xs : List α} {ys : List β}, xs.length = ys.length → xs.isEmpty = ys.isEmpty
  | [], [], _ => rfl
  | _ :: _, _ :: _, _ => rfl
theorem all0 (e : Nat → Bool) : (List.range 0).all e = true := rfl
section
variable {X : Cx} {pins : List (Addr × Obj)} {s : Shared} {σ : L2.St} {H : Hp} {a b : Addr} {vs : List V} {Q : Value → Shared → Prop} {E : Value → Shared → Prop}
theorem rc_lists (hu : X.A.units < cLine) (I : Inv X pins σ H s) (h1 : H a = some (.lst vs)) (h2 : H b = some (.lst [])) : SeqAt.RcAt X.A s (.ref a) (.ref b) vs.isEmpty ∧ SeqAt.RcNeAt X.A s (.ref a) (.ref b) (!vs.isEmpty) := by
  obtain ⟨its, r1, l1, _⟩ := I.list (SqL.of h1)
  obtain ⟨it2, r2, l2, _⟩ := I.list (SqL.of h2)
  cases r2
  cases vs with
  | nil =>
    cases r1
    exact ⟨SeqAt.RcAt.lists l1.isList l2.isList rfl hu (e := fun _ => true) fun j h _ => absurd h (by simp),
      SeqAt.RcNeAt.lists l1.isList l2.isList rfl hu (e := fun _ => true) fun j h _ => absurd h (by simp)⟩
  | cons x r =>
    cases r1
    exact ⟨SeqAt.RcAt.lists_lengths l1.isList l2.isList (by simp) hu, SeqAt.RcNeAt.lists_lengths l1.isList l2.isList (by simp) hu⟩
theorem IsTup.isTuple {h : Heap} {a : Addr} {its : Array Value} (t : IsTup h a its) : h.IsTuple a its := by
  obtain ⟨o, e, c, n, d⟩ := t
  exact ⟨o, e, c, n, d⟩
theorem rc_tuples {ws : List V} (hu : X.A.units < cLine) (I : Inv X pins σ H s) (h1 : SqT X.K H a vs) (h2 : SqT X.K H b ws) (h0 : vs = [] ∨ ws = []) : SeqAt.RcAt X.A s (.ref a) (.ref b) (decide (vs.length = ws.length)) ∧ SeqAt.RcNeAt X.A s (.ref a) (.ref b) (!decide (vs.length = ws.length)) := by
  obtain ⟨its, r1, l1, _⟩ := I.tuple h1
  obtain ⟨it2, r2, l2, _⟩ := I.tuple h2
  have e1 := r1.length
  have e2 := r2.length
  have m0 : min its.toArray.size it2.toArray.size = 0 := by
    rcases h0 with rfl | rfl
    · simp at e1; simp [← e1]
    · simp at e2; simp [← e2]
  have k : (its.toArray.size == it2.toArray.size) = decide (vs.length = ws.length) := by
    rw [e1, e2, List.size_toArray, List.size_toArray]
    by_cases z : its.length = it2.length <;> simp [z]
  have q1 := SeqAt.RcAt.tuples (A := X.A) (s := s) (e := fun _ => true) (IsTup.isTuple l1) (IsTup.isTuple l2) hu (fun j h h' => by
    have : j < min its.toArray.size it2.toArray.size := Nat.lt_min.mpr ⟨h, h'⟩
    omega)
  have q2 := SeqAt.RcNeAt.tuples (A := X.A) (s := s) (e := fun _ => true) (IsTup.isTuple l1) (IsTup.isTuple l2) hu (fun j h h' => by
    have : j < min its.toArray.size it2.toArray.size := Nat.lt_min.mpr ⟨h, h'⟩
    omega)
  rw [m0, k] at q1 q2
  exact ⟨q1, q2⟩
end
section
variable {X : Cx}
theorem eqB_cases {K : PySem.W.Frag} {H : Hp} {B : List Addr} {d e : D} {x y : V} {k : Bool} (hg : eqB d e = some k) (r1 : RepA K H B d x) (r2 : RepA K H B e y) :
    (scal x y = true ∧ k = decide (x = y)) ∨ (∃ a b vs, x = V.ref a ∧ y = V.ref b ∧ H a = some (.lst vs) ∧ H b = some (.lst []) ∧ k = vs.isEmpty) ∨
      (∃ a b vs ws, x = V.ref a ∧ y = V.ref b ∧ SqT K H a vs ∧ SqT K H b ws ∧ (vs = [] ∨ ws = []) ∧ k = decide (vs.length = ws.length)) := by
  unfold eqB at hg
  split at hg
  · cases hg
    obtain ⟨a, vs, rfl, t1, s1⟩ := r1.lst
    obtain ⟨b, ws, rfl, t2, s2⟩ := r2.lst
    cases s2
    exact .inr (.inl ⟨a, b, vs, rfl, rfl, t1, t2, isEmpty_len s1.length⟩)
  · cases hg
    obtain ⟨a, vs, rfl, t1, s1⟩ := r1.tup
    obtain ⟨b, ws, rfl, t2, s2⟩ := r2.tup
    cases s2
    refine .inr (.inr ⟨a, b, vs, [], rfl, rfl, t1.sq, t2.sq, .inr rfl, ?_⟩)
    rw [isEmpty_len s1.length]
    cases vs <;> simp
  · cases hg
    obtain ⟨a, vs, rfl, t1, s1⟩ := r1.tup
    obtain ⟨b, ws, rfl, t2, s2⟩ := r2.tup
    cases s1
    refine .inr (.inr ⟨a, b, [], ws, rfl, rfl, t1.sq, t2.sq, .inl rfl, ?_⟩)
    cases s2
    simp
  · split at hg
    case h_1 u w e1 e2 =>
      split at hg
      case isTrue hs =>
        cases hg
        rw [r1.sc e1, r2.sc e2]
        exact .inl ⟨hs, rfl⟩
      case isFalse => cases hg
    case h_2 => cases hg
theorem opd_eq (hu : X.A.units < cLine) : OpD X (compareOp .Eq) eqD := by
  intro pins s σ H x y v u Q I rx ry ⟨B, d, e, d', tr, r1, r2, hg, q⟩
  unfold eqD at hg
  obtain ⟨k, hk, rfl⟩ := Option.map_eq_some_iff.mp hg
  have qq := q _ _ Ext.refl (.bl k)
  rcases eqB_cases hk r1 r2 with ⟨hs, e⟩ | ⟨a, b, vs, rfl, rfl, h1, h2, e⟩ | ⟨a, b, vs, ws, rfl, rfl, h1, h2, h0, e⟩
  · exact op_eq pins s σ H x y v u Q I rx ry ⟨hs, by rw [← e]; exact qq⟩
  · cases rx; cases ry
    exact (rc_lists hu I h1 h2).1 _ _ _ _ ⟨.bl k, H, I, by rw [e]; rfl, qq⟩
  · cases rx; cases ry
    exact (rc_tuples hu I h1 h2 h0).1 _ _ _ _ ⟨.bl k, H, I, by rw [e]; rfl, qq⟩
theorem opd_ne (hu : X.A.units < cLine) : OpD X (compareOp .NotEq) neD := by
  intro pins s σ H x y v u Q I rx ry ⟨B, d, e, d', tr, r1, r2, hg, q⟩
  unfold neD at hg
  obtain ⟨k, hk, rfl⟩ := Option.map_eq_some_iff.mp hg
  have qq := q _ _ Ext.refl (.bl (!k))
  rcases eqB_cases hk r1 r2 with ⟨hs, e⟩ | ⟨a, b, vs, rfl, rfl, h1, h2, e⟩ | ⟨a, b, vs, ws, rfl, rfl, h1, h2, h0, e⟩
  · exact op_ne pins s σ H x y v u Q I rx ry ⟨hs, by rw [← e]; exact qq⟩
  · cases rx; cases ry
    exact (rc_lists hu I h1 h2).2 _ _ _ _ ⟨.bl (!k), H, I, by rw [e]; rfl, qq⟩
  · cases rx; cases ry
    exact (rc_tuples hu I h1 h2 h0).2 _ _ _ _ ⟨.bl (!k), H, I, by rw [e]; rfl, qq⟩
end
end DL
end
section
set_option Elab.async false
set_option linter.all false
set_option maxRecDepth 100000
set_option maxHeartbeats 2000000
/-! The data layer, 3: rules of expressions. -/
namespace DL
open PySem PySem.Spec PyProof.Rows L2
section
variable {ρ : Type} {I : Wd ρ} {K : PySem.W.Frag} {W B : List Addr} {H0 : Hp} {A : Own} {env : Env} {r r' : ρ} {σ : L2.St} {H H' : Hp}
theorem RepT.repA {d : D} {v : V} (h : RepT K H B A d v) : RepA K H (B ++ A.ad) d v := by
  rcases h with h | ⟨p, hp, xs, vs, h1, h2, h3, h4⟩
  · exact .inl h
  · exact .inr ⟨p.2, xs, vs, h1, h2, h3, h4⟩
theorem RepT.keep {d : D} {v : V} (h : RepT K H B A d v) (l : Lc I K W B H0 A env r σ H) (e : Evo W H H') : RepT K H' B A d v := by
  have e2 : Evo (B ++ A.ad) H H' := e.mono fun b z => List.mem_append_left _ (l.wb b z)
  rcases h with h | ⟨p, hp, xs, vs, h1, h2, h3, h4⟩
  · exact .inl (h.keep e2)
  · exact .inr ⟨p, hp, xs, vs, h1, h2, e.at_ (l.now hp) h3, h4.keep e2⟩
theorem Lc.ev (l : Lc I K W B H0 A env r σ H) (e : Evo W H H') : Evo (B ++ A.ad) H H' := e.mono fun b z => List.mem_append_left _ (l.wb b z)
theorem Lc.ext (l : Lc I K W B H0 A env r σ H) (e : Ext H H') : Lc I K W B H0 A env r σ H' := by
  rcases e with rfl | ⟨p, o, n, rfl⟩
  · exact l
  · exact l.grow n
end

/-! ### the functions -/
section
variable {ρ : Type}
def eVar (i : Nat) : SE ρ := fun env r => match env[i]? with
  | some (some d) => some (d, r)
  | _ => none
def eC (d : D) : SE ρ := fun _ r => some (d, r)
def eTup (f : SA ρ) : SE ρ := fun env r => (f env r).map fun p => (.tup p.1, p.2)
def eLst (f : SA ρ) : SE ρ := fun env r => (f env r).map fun p => (.lst p.1, p.2)
def aNil : SA ρ := fun _ r => some ([], r)
def aCons (f : SE ρ) (g : SA ρ) : SA ρ := fun env r => (f env r).bind fun p => (g env p.2).map fun q => (p.1 :: q.1, q.2)
def eBin (g : D → D → Option D) (f1 f2 : SE ρ) : SE ρ := fun env r => (f1 env r).bind fun p => (f2 env p.2).bind fun q => (g p.1 q.1).map fun x => (x, q.2)
def eUn (g : D → Option D) (f : SE ρ) : SE ρ := fun env r => (f env r).bind fun p => (g p.1).map fun x => (x, p.2)
def toB : D → Option Bool
  | .bl b => some b
  | _ => none
def bOf (f : SE ρ) : SB ρ := fun env r => (f env r).bind fun p => (toB p.1).map fun b => (b, p.2)
def bNot (f : SB ρ) : SB ρ := fun env r => (f env r).map fun p => (!p.1, p.2)
def bAnd (f g : SB ρ) : SB ρ := fun env r => (f env r).bind fun p => if p.1 = true then g env p.2 else some (false, p.2)
def bOr (f g : SB ρ) : SB ρ := fun env r => (f env r).bind fun p => if p.1 = true then some (true, p.2) else g env p.2
def eOf (f : SB ρ) : SE ρ := fun env r => (f env r).map fun p => (.bl p.1, p.2)
def eIf (c : SB ρ) (f g : SE ρ) : SE ρ := fun env r => (c env r).bind fun p => if p.1 = true then f env p.2 else g env p.2
def bChain (g h : D → D → Option D) (f1 f2 f3 : SE ρ) : SB ρ := fun env r => (f1 env r).bind fun p => (f2 env p.2).bind fun q => (g p.1 q.1).bind fun x => (toB x).bind fun b =>
  if b = true then (f3 env q.2).bind fun s => (h q.1 s.1).bind fun y => (toB y).map fun c => (c, s.2) else some (false, q.2)
end
theorem toB_some {d : D} {b : Bool} (h : toB d = some b) : d = .bl b := by
  cases d <;> simp only [toB] at h <;> try contradiction
  cases h; rfl

section
variable {ρ : Type} {I : Wd ρ} {X : Cx} {O : List Nat} {pos : Pos}
theorem Ed.b {e : Expr} {f : SE ρ} (h : Ed I X O e f) : Eb I X O e f :=
  PE.weak h fun σ H Q ⟨W, B, H0, A, env, r, d, r', l, ho, hf, q⟩ => ⟨W, B, H0, A, env, r, d, r', l, ho, hf, fun v H' l1 e1 rp => q v H' l1 e1 (.inl rp)⟩
theorem Ef.d {e : Expr} {f : SE ρ} (hd : ∀ env r d r', f env r = some (d, r') → ∃ xs, d = .lst xs) (h : Ef I X O e f) : Ed I X O e f :=
  PE.weak h fun σ H Q ⟨W, B, H0, A, env, r, d, r', l, ho, hf, q⟩ => ⟨W, B, H0, A, env, r, d, r', l, ho, hf, fun a xs vs H' e l1 e1 na ha rs => q _ H' l1 e1 (by rw [e]; exact .lst (l.notin na) ha (rs.less fun b z => List.mem_cons_of_mem _ z))⟩
theorem ed_var {i : Nat} {x : Str} (hi : (O.contains i) = false := by rfl) (hN : X.N[i]? = some x := by rfl) (hv : Vis X.env.scope x := by first | exact Or.inl rfl | exact Or.inr (Or.inl rfl) | exact Or.inr (Or.inr rfl)) (hd : (x == ("__debug__" : Str)) = false := by decide)
    (hcd : (x == ("__classdict__" : Str)) = false := by decide) : Ed I X O (.Name x pos) (eVar i) :=
  PE.weak (pv i hN hv hd hcd) fun σ H Q ⟨W, B, H0, A, env, r, d, r', l, ho, hf, q⟩ => by
    unfold eVar at hf
    split at hf
    case h_1 d2 he =>
      cases hf
      have hn : i ∉ A.map (·.1) := by
        rw [ho]
        intro z
        rw [List.contains_iff_mem.mpr z] at hi
        cases hi
      obtain ⟨v, h1, h2⟩ := l.vals i _ he hn
      exact ⟨v, h1, q v H l Evo.refl h2⟩
    case h_2 => cases hf
theorem eb_var {i : Nat} {x : Str} (hN : X.N[i]? = some x := by rfl) (hv : Vis X.env.scope x := by first | exact Or.inl rfl | exact Or.inr (Or.inl rfl) | exact Or.inr (Or.inr rfl)) (hd : (x == ("__debug__" : Str)) = false := by decide)
    (hcd : (x == ("__classdict__" : Str)) = false := by decide) : Eb I X O (.Name x pos) (eVar i) :=
  PE.weak (pv i hN hv hd hcd) fun σ H Q ⟨W, B, H0, A, env, r, d, r', l, ho, hf, q⟩ => by
    unfold eVar at hf
    split at hf
    case h_1 d2 he =>
      cases hf
      by_cases hn : i ∈ A.map (·.1)
      · obtain ⟨p, hp, rfl⟩ := List.mem_map.mp hn
        obtain ⟨xs, vs, h1, h2, h3, h4⟩ := l.owns p hp
        rw [h1] at he
        cases he
        exact ⟨_, h2, q _ H l Evo.refl (.inr ⟨p, hp, xs, vs, rfl, rfl, h3, h4⟩)⟩
      · obtain ⟨v, h1, h2⟩ := l.vals i _ he hn
        exact ⟨v, h1, q v H l Evo.refl (.inl h2)⟩
    case h_2 => cases hf
theorem ed_c {e : Expr} {v : V} {d : D} (h : PE X e (tC v)) (hr : ∀ H B, Rep X.K H B d v) : Ed I X O e (eC d) :=
  PE.weak h fun σ H Q ⟨W, B, H0, A, env, r, d, r', l, ho, hf, q⟩ => by
    cases hf
    exact q v H l Evo.refl (hr _ _)
theorem ed_int {i : Int} {j} : Ed I X O (.Constant (.int i) j pos) (eC (.int i)) := ed_c pe_int fun _ _ => .int i
theorem ed_bl {i : Bool} {j} : Ed I X O (.Constant (.bool i) j pos) (eC (.bl i)) := ed_c pe_bl fun _ _ => .bl i
theorem ed_non {j} : Ed I X O (.Constant .none j pos) (eC .non) := ed_c pe_non fun _ _ => .non
theorem ed_str {x : Str} {j} : Ed I X O (.Constant (.str x) j pos) (eC (.str x)) := ed_c pe_str fun _ _ => .str x
theorem ed_glob {x : Str} {v : V} {u : Value} {d : D} (hg : Gl X x) (hm : X.mg x = some u) (rv : RelV v u) (hr : ∀ H B, Rep X.K H B d v) (hd : (x == ("__debug__" : Str)) = false := by decide) : Ed I X O (.Name x pos) (eC d) := ed_c (pe_glob hg hm rv hd) hr

/-! arguments -/
structure Adl (I : Wd ρ) (X : Cx) (O : List Nat) (es : List Expr) (f : SA ρ) : Prop where
  run : PA X es (tAr I X.K O f)
  len : ∀ env r ds r', f env r = some (ds, r') → ds.length = es.length
theorem ad_nil : Adl I X O [] aNil :=
  ⟨PA.weak pa_nil fun σ H Q ⟨W, B, H0, A, env, r, d, r', l, ho, hf, q⟩ => by
    cases hf
    exact q [] H l Evo.refl .nil, fun env r ds r' h => by cases h; rfl⟩
theorem ad_cons {e : Expr} {es : List Expr} {f : SE ρ} {g : SA ρ} (h : Ed I X O e f) (hs : Adl I X O es g) (hst : starEach (e :: es) X.env = (false, eval e X.env) :: starEach es X.env := by rfl) : Adl I X O (e :: es) (aCons f g) :=
  ⟨PA.weak (pa_cons h hs.run hst) fun σ H Q ⟨W, B, H0, A, env, r, d, r', l, ho, hf, q⟩ => by
    unfold aCons at hf
    obtain ⟨⟨d1, r1⟩, e1, hf⟩ := Option.bind_eq_some_iff.mp hf
    obtain ⟨⟨d2, r2⟩, e2, hf⟩ := Option.map_eq_some_iff.mp hf
    cases hf
    refine ⟨W, B, H0, A, env, r, d1, r1, l, ho, e1, fun v1 H1 l1 v1e rp1 => ?_⟩
    exact ⟨W, B, H0, A, env, r1, d2, r2, l1, ho, e2, fun vs H2 l2 v2e rp2 => q _ H2 l2 (v1e.trans v2e) (.cons (rp1.keep (l1.ev v2e)) rp2)⟩,
  fun env r ds r' hf => by
    unfold aCons at hf
    obtain ⟨⟨d1, r1⟩, e1, hf⟩ := Option.bind_eq_some_iff.mp hf
    obtain ⟨⟨d2, r2⟩, e2, hf⟩ := Option.map_eq_some_iff.mp hf
    cases hf
    rw [List.length_cons, List.length_cons, hs.len _ _ _ _ e2]⟩
theorem ed_tup {es : List Expr} {k} {f : SA ρ} (h : Adl I X O es f) (hl : es.length ≤ big := by decide) : Ed I X O (.Tuple es k pos) (eTup f) :=
  PE.weak (pe_tup h.run) fun σ H Q ⟨W, B, H0, A, env, r, d, r', l, ho, hf, q⟩ => by
    unfold eTup at hf
    obtain ⟨⟨ds, r1⟩, e1, hf⟩ := Option.map_eq_some_iff.mp hf
    cases hf
    refine ⟨W, B, H0, A, env, r, ds, r1, l, ho, e1, fun vs H1 l1 ev rs => ⟨?_, fun p np => ?_⟩⟩
    · rw [← rs.length, h.len _ _ _ _ e1]; exact Nat.le_trans hl big_le
    · exact q _ _ (l1.grow np) (ev.trans (Evo.new np)) (.tup (.inl ⟨l1.notin np, upd_same⟩) (rs.keep (Evo.new np)))
theorem ef_lst {es : List Expr} {f : SA ρ} (h : Adl I X O es f) (hl : es.length ≤ big := by decide) : Ef I X O (.List es pos) (eLst f) :=
  PE.weak (pe_lst h.run) fun σ H Q ⟨W, B, H0, A, env, r, d, r', l, ho, hf, q⟩ => by
    unfold eLst at hf
    obtain ⟨⟨ds, r1⟩, e1, hf⟩ := Option.map_eq_some_iff.mp hf
    cases hf
    refine ⟨W, B, H0, A, env, r, ds, r1, l, ho, e1, fun vs H1 l1 ev rs => ⟨?_, fun p np => ?_⟩⟩
    · rw [← rs.length, h.len _ _ _ _ e1]; exact Nat.le_trans hl big_le
    · have hn : H p = none := by
        cases z : H p with
        | none => rfl
        | some o =>
          by_cases hw : p ∈ W
          · exact absurd np (I.at_ l1.wi p hw)
          · rw [ev.at_ hw z] at np; cases np
      exact q p ds vs _ rfl (l1.grow np) (ev.trans (Evo.new np)) hn upd_same (Reps.evo (Evo.new np) (fun b z => (List.mem_cons.mp z).elim (fun e => .inr (by rw [e]; exact np)) .inl) _ _ rs)
theorem eLst_lst {f : SA ρ} (env : Env) (r : ρ) (d : D) (r' : ρ) (h : eLst f env r = some (d, r')) : ∃ xs, d = .lst xs := by
  unfold eLst at h
  obtain ⟨⟨ds, r1⟩, e1, hf⟩ := Option.map_eq_some_iff.mp h
  cases hf
  exact ⟨ds, rfl⟩
theorem ed_lst {es : List Expr} {f : SA ρ} (h : Adl I X O es f) (hl : es.length ≤ big := by decide) : Ed I X O (.List es pos) (eLst f) := Ef.d eLst_lst (ef_lst h hl)

/-! operators -/
theorem bin_core {e0 a b : Expr} {f1 f2 : SE ρ} {g : D → D → Option D} {f : Value → Value → Sem Value} (h : ∀ r : R2, OpR X f r → PE X e0 (tOp r (tB I X.K O f1) (tB I X.K O f2))) (ho : OpD X f g) : Ed I X O e0 (eBin g f1 f2) :=
  PE.weak (h _ ho) fun σ H Q ⟨W, B, H0, A, env, r, d, r', l, ho, hf, q⟩ => by
    unfold eBin at hf
    obtain ⟨⟨d1, r1⟩, e1, hf⟩ := Option.bind_eq_some_iff.mp hf
    obtain ⟨⟨d2, r2⟩, e2, hf⟩ := Option.bind_eq_some_iff.mp hf
    obtain ⟨x, e3, hf⟩ := Option.map_eq_some_iff.mp hf
    cases hf
    refine ⟨W, B, H0, A, env, r, d1, r1, l, ho, e1, fun v1 H1 l1 v1e rp1 => ?_⟩
    refine ⟨W, B, H0, A, env, r1, d2, r2, l1, ho, e2, fun v2 H2 l2 v2e rp2 => ?_⟩
    exact ⟨B ++ A.ad, d1, d2, _, l2.bx, (rp1.keep l1 v2e).repA, rp2.repA, e3, fun v H' ex rp => q v H' (l2.ext ex) ((v1e.trans v2e).trans ex.evo) rp⟩
theorem ed_op {a b : Expr} {op : Operator} {f1 f2 : SE ρ} {g : D → D → Option D} (ho : OpD X (binaryOp op) g) (ha : Eb I X O a f1) (hb : Eb I X O b f2) : Ed I X O (.BinOp a op b pos) (eBin g f1 f2) :=
  bin_core (a := a) (b := b) (fun r h => pe_op h ha hb) ho
theorem ed_cmp {a b : Expr} {op : CmpOp} {f1 f2 : SE ρ} {g : D → D → Option D} (ho : OpD X (compareOp op) g) (ha : Eb I X O a f1) (hb : Eb I X O b f2) (hm : behindInMarks op b = false := by first | exact nomark _ | rfl) : Ed I X O (.Compare a [op] [b] pos) (eBin g f1 f2) :=
  bin_core (a := a) (b := b) (fun r h => pe_cmpR h ha hb hm) ho
theorem pt_of_tTest {e : Expr} {f : SE ρ} (h : PT X e (tTest (tE I X.K O f))) : Td I X O e (bOf f) :=
  PT.weak h fun σ H Q ⟨W, B, H0, A, env, r, d, r', l, ho, hf, q⟩ => by
    unfold bOf at hf
    obtain ⟨⟨d1, r1⟩, e1, hf⟩ := Option.bind_eq_some_iff.mp hf
    obtain ⟨b, e2, hf⟩ := Option.map_eq_some_iff.mp hf
    cases hf
    refine ⟨W, B, H0, A, env, r, d1, r1, l, ho, e1, fun v1 H1 l1 v1e rp1 => ?_⟩
    (have hz := toB_some e2; (try dsimp only at hz); rw [hz] at rp1)
    cases rp1
    exact ⟨_, rfl, q H1 l1 v1e⟩
theorem tTest_weak {e : Expr} {t u : TE} (h : PT X e (tTest t)) (w : ∀ σ H Q, u σ H Q → t σ H Q) : PT X e (tTest u) := PT.weak h fun σ H Q q => w σ H _ q
theorem td_cmp {a b : Expr} {op : CmpOp} {f1 f2 : SE ρ} {g : D → D → Option D} (ho : OpD X (compareOp op) g) (ha : Eb I X O a f1) (hb : Eb I X O b f2) (hm : behindInMarks op b = false := by first | exact nomark _ | rfl) : Td I X O (.Compare a [op] [b] pos) (bOf (eBin g f1 f2)) :=
  pt_of_tTest (tTest_weak (pt_cmpR ho ha hb hm) fun σ H Q ⟨W, B, H0, A, env, r, d, r', l, ho, hf, q⟩ => by
    unfold eBin at hf
    obtain ⟨⟨d1, r1⟩, e1, hf⟩ := Option.bind_eq_some_iff.mp hf
    obtain ⟨⟨d2, r2⟩, e2, hf⟩ := Option.bind_eq_some_iff.mp hf
    obtain ⟨x, e3, hf⟩ := Option.map_eq_some_iff.mp hf
    cases hf
    refine ⟨W, B, H0, A, env, r, d1, r1, l, ho, e1, fun v1 H1 l1 v1e rp1 => ?_⟩
    refine ⟨W, B, H0, A, env, r1, d2, r2, l1, ho, e2, fun v2 H2 l2 v2e rp2 => ?_⟩
    exact ⟨B ++ A.ad, d1, d2, _, l2.bx, (rp1.keep l1 v2e).repA, rp2.repA, e3, fun v H' ex rp => q v H' (l2.ext ex) ((v1e.trans v2e).trans ex.evo) rp⟩)
/-- a test that is a value -/
theorem td_val {e : Expr} {f : SE ρ} (h : Ed I X O e f) (he : ∀ whole, isTrue e X.env whole = (do let v ← whole; standAt e.pos; holding [v] (truthy v)) := by intro _; rfl) : Td I X O e (bOf f) := pt_of_tTest (pt_val h he)
theorem td_not {e : Expr} {f : SB ρ} (h : Td I X O e f) : Td I X O (.UnaryOp .Not e pos) (bNot f) :=
  PT.weak (pt_not h) fun σ H Q ⟨W, B, H0, A, env, r, d, r', l, ho, hf, q⟩ => by
    unfold bNot at hf
    obtain ⟨⟨d1, r1⟩, e1, hf⟩ := Option.map_eq_some_iff.mp hf
    cases hf
    exact ⟨W, B, H0, A, env, r, d1, r1, l, ho, e1, fun H1 l1 ev => q H1 l1 ev⟩
theorem wt_and1 {a : Expr} {f : SB ρ} (h : Td I X O a f) : Wt I X O (.BoolOp .And [a] pos) f := pw_and1 h
theorem wt_or1 {a : Expr} {f : SB ρ} (h : Td I X O a f) : Wt I X O (.BoolOp .Or [a] pos) f := pw_or1 h
theorem wt_and {a b : Expr} {rest : List Expr} {f g : SB ρ} (h : Td I X O a f) (hs : Wt I X O (.BoolOp .And (b :: rest) pos) g) : Wt I X O (.BoolOp .And (a :: b :: rest) pos) (bAnd f g) :=
  PW.weak (pw_and h hs) fun σ H Q ⟨W, B, H0, A, env, r, d, r', l, ho, hf, q⟩ => by
    unfold bAnd at hf
    obtain ⟨⟨d1, r1⟩, e1, hf⟩ := Option.bind_eq_some_iff.mp hf
    refine ⟨W, B, H0, A, env, r, d1, r1, l, ho, e1, fun H1 l1 ev => ?_⟩
    cases d1
    · cases hf
      exact q H1 l1 ev
    · exact ⟨W, B, H0, A, env, r1, d, r', l1, ho, hf, fun H2 l2 ev2 => q H2 l2 (ev.trans ev2)⟩
theorem wt_or {a b : Expr} {rest : List Expr} {f g : SB ρ} (h : Td I X O a f) (hs : Wt I X O (.BoolOp .Or (b :: rest) pos) g) : Wt I X O (.BoolOp .Or (a :: b :: rest) pos) (bOr f g) :=
  PW.weak (pw_or h hs) fun σ H Q ⟨W, B, H0, A, env, r, d, r', l, ho, hf, q⟩ => by
    unfold bOr at hf
    obtain ⟨⟨d1, r1⟩, e1, hf⟩ := Option.bind_eq_some_iff.mp hf
    refine ⟨W, B, H0, A, env, r, d1, r1, l, ho, e1, fun H1 l1 ev => ?_⟩
    cases d1
    · exact ⟨W, B, H0, A, env, r1, d, r', l1, ho, hf, fun H2 l2 ev2 => q H2 l2 (ev.trans ev2)⟩
    · cases hf
      exact q H1 l1 ev
theorem td_bool {e : Expr} {f : SB ρ} (h : Wt I X O e f) : Td I X O e f := PW.pt h
theorem chain_core {e0 : Expr} {f1 f2 f3 : SE ρ} {g h : D → D → Option D} {op op' : CmpOp} (ho : OpD X (compareOp op) g) (ho' : OpD X (compareOp op') h)
    (hp : ∀ r r' : R2, OpR X (compareOp op) r → OpR X (compareOp op') r' → PT X e0 (tTest (tChain r r' (tB I X.K O f1) (tB I X.K O f2) (tB I X.K O f3)))) : Td I X O e0 (bChain g h f1 f2 f3) :=
  PT.weak (hp _ _ ho ho') fun σ H Q ⟨W, B, H0, A, env, r, d, r', l, ho, hf, q⟩ => by
    unfold bChain at hf
    obtain ⟨⟨d1, r1⟩, e1, hf⟩ := Option.bind_eq_some_iff.mp hf
    obtain ⟨⟨d2, r2⟩, e2, hf⟩ := Option.bind_eq_some_iff.mp hf
    obtain ⟨x, e3, hf⟩ := Option.bind_eq_some_iff.mp hf
    obtain ⟨b, e4, hf⟩ := Option.bind_eq_some_iff.mp hf
    refine ⟨W, B, H0, A, env, r, d1, r1, l, ho, e1, fun v1 H1 l1 v1e rp1 => ?_⟩
    refine ⟨W, B, H0, A, env, r1, d2, r2, l1, ho, e2, fun v2 H2 l2 v2e rp2 => ?_⟩
    refine ⟨B ++ A.ad, d1, d2, _, l2.bx, (rp1.keep l1 v2e).repA, rp2.repA, e3, fun v H3 ex rp => ?_⟩
    (have hz := toB_some e4; (try dsimp only at hz); rw [hz] at rp)
    cases rp
    have l3 := l2.ext ex
    have ev3 : Evo W H2 H3 := ex.evo
    refine ⟨b, rfl, ?_⟩
    cases b
    · cases hf
      exact ⟨_, rfl, q H3 l3 ((v1e.trans v2e).trans ev3)⟩
    · have hf2 : ((f3 env r2).bind fun s => (h d2 s.1).bind fun y => (toB y).map fun c => (c, s.2)) = some (d, r') := hf
      obtain ⟨⟨d3, r3⟩, e5, hf2⟩ := Option.bind_eq_some_iff.mp hf2
      obtain ⟨y, e6, hf2⟩ := Option.bind_eq_some_iff.mp hf2
      obtain ⟨c, e7, hf2⟩ := Option.map_eq_some_iff.mp hf2
      cases hf2
      refine ⟨W, B, H0, A, env, r2, d3, r3, l3, ho, e5, fun v3 H4 l4 v4e rp3 => ?_⟩
      refine ⟨B ++ A.ad, d2, d3, _, l4.bx, ((rp2.keep l2 ev3).keep l3 v4e).repA, rp3.repA, e6, fun v H5 ex5 rp5 => ?_⟩
      (have hz := toB_some e7; (try dsimp only at hz); rw [hz] at rp5)
      cases rp5
      exact ⟨_, rfl, q H5 (l4.ext ex5) (((v1e.trans v2e).trans ev3).trans (v4e.trans ex5.evo))⟩
theorem td_chain {a b c : Expr} {op op' : CmpOp} {f1 f2 f3 : SE ρ} {g h : D → D → Option D} (ho : OpD X (compareOp op) g) (ho' : OpD X (compareOp op') h) (ha : Eb I X O a f1) (hb : Eb I X O b f2) (hc : Eb I X O c f3)
    (hm : lastMarks [op, op'] [b, c] = false := by with_unfolding_all rfl) : Td I X O (.Compare a [op, op'] [b, c] pos) (bChain g h f1 f2 f3) := chain_core ho ho' fun r r' h1 h2 => pt_chain h1 h2 ha hb hc hm

/-! truth values as values -/
theorem ed_notV {e : Expr} {f : SE ρ} (h : Ed I X O e f) : Ed I X O (.UnaryOp .Not e pos) (eOf (bNot (bOf f))) :=
  PE.weak (pe_not h) fun σ H Q ⟨W, B, H0, A, env, r, d, r', l, ho, hf, q⟩ => by
    unfold eOf bNot bOf at hf
    obtain ⟨⟨d1, r1⟩, e1, hf⟩ := Option.map_eq_some_iff.mp hf
    obtain ⟨⟨d2, r2⟩, e2, e1⟩ := Option.map_eq_some_iff.mp e1
    obtain ⟨⟨d3, r3⟩, e3, e2⟩ := Option.bind_eq_some_iff.mp e2
    obtain ⟨b, e4, e2⟩ := Option.map_eq_some_iff.mp e2
    cases hf; cases e1; cases e2
    refine ⟨W, B, H0, A, env, r, d3, r3, l, ho, e3, fun v1 H1 l1 v1e rp1 => ?_⟩
    (have hz := toB_some e4; (try dsimp only at hz); rw [hz] at rp1)
    cases rp1
    exact ⟨_, rfl, q _ H1 l1 v1e (.bl _)⟩
theorem ed_one {op} {a : Expr} {f : SE ρ} (h : Ed I X O a f) : Ed I X O (.BoolOp op [a] pos) f := pe_one h
theorem ed_and {a b : Expr} {rest : List Expr} {f g : SE ρ} (h : Ed I X O a f) (hs : Ed I X O (.BoolOp .And (b :: rest) pos) g) : Ed I X O (.BoolOp .And (a :: b :: rest) pos) (eIf (bOf f) g (eC (.bl false))) :=
  PE.weak (pe_and h hs) fun σ H Q ⟨W, B, H0, A, env, r, d, r', l, ho, hf, q⟩ => by
    unfold eIf bOf at hf
    obtain ⟨⟨d1, r1⟩, e1, hf⟩ := Option.bind_eq_some_iff.mp hf
    obtain ⟨⟨d2, r2⟩, e2, e1⟩ := Option.bind_eq_some_iff.mp e1
    obtain ⟨b, e4, e1⟩ := Option.map_eq_some_iff.mp e1
    cases e1
    refine ⟨W, B, H0, A, env, r, d2, r2, l, ho, e2, fun v1 H1 l1 v1e rp1 => ?_⟩
    (have hz := toB_some e4; (try dsimp only at hz); rw [hz] at rp1)
    cases rp1
    refine ⟨_, rfl, ?_⟩
    cases d1
    · cases hf
      exact q _ H1 l1 v1e (.bl _)
    · exact ⟨W, B, H0, A, env, r2, d, r', l1, ho, hf, fun v H2 l2 ev2 rp => q v H2 l2 (v1e.trans ev2) rp⟩
theorem ed_or {a b : Expr} {rest : List Expr} {f g : SE ρ} (h : Ed I X O a f) (hs : Ed I X O (.BoolOp .Or (b :: rest) pos) g) : Ed I X O (.BoolOp .Or (a :: b :: rest) pos) (eIf (bOf f) (eC (.bl true)) g) :=
  PE.weak (pe_or h hs) fun σ H Q ⟨W, B, H0, A, env, r, d, r', l, ho, hf, q⟩ => by
    unfold eIf bOf at hf
    obtain ⟨⟨d1, r1⟩, e1, hf⟩ := Option.bind_eq_some_iff.mp hf
    obtain ⟨⟨d2, r2⟩, e2, e1⟩ := Option.bind_eq_some_iff.mp e1
    obtain ⟨b, e4, e1⟩ := Option.map_eq_some_iff.mp e1
    cases e1
    refine ⟨W, B, H0, A, env, r, d2, r2, l, ho, e2, fun v1 H1 l1 v1e rp1 => ?_⟩
    (have hz := toB_some e4; (try dsimp only at hz); rw [hz] at rp1)
    cases rp1
    refine ⟨_, rfl, ?_⟩
    cases d1
    · exact ⟨W, B, H0, A, env, r2, d, r', l1, ho, hf, fun v H2 l2 ev2 rp => q v H2 l2 (v1e.trans ev2) rp⟩
    · cases hf
      exact q _ H1 l1 v1e (.bl _)
theorem ed_if {c a b : Expr} {f : SB ρ} {g h : SE ρ} (hc : Td I X O c f) (ha : Ed I X O a g) (hb : Ed I X O b h) : Ed I X O (.IfExp c a b pos) (eIf f g h) :=
  PE.weak (pe_ifExp hc ha hb) fun σ H Q ⟨W, B, H0, A, env, r, d, r', l, ho, hf, q⟩ => by
    unfold eIf at hf
    obtain ⟨⟨d1, r1⟩, e1, hf⟩ := Option.bind_eq_some_iff.mp hf
    refine ⟨W, B, H0, A, env, r, d1, r1, l, ho, e1, fun H1 l1 v1e => ?_⟩
    cases d1
    · exact ⟨W, B, H0, A, env, r1, d, r', l1, ho, hf, fun v H2 l2 ev2 rp => q v H2 l2 (v1e.trans ev2) rp⟩
    · exact ⟨W, B, H0, A, env, r1, d, r', l1, ho, hf, fun v H2 l2 ev2 rp => q v H2 l2 (v1e.trans ev2) rp⟩
end
end DL
end
section
set_option Elab.async false
set_option linter.all false
set_option maxRecDepth 100000
set_option maxHeartbeats 2000000
/-! The data layer, 4: subscripts, slices, in, is, built-in functions. -/
namespace HT
open PySem PyProof.Rows
section
variable {prog : Program} {w : World} {A : Around} {E : Value → Shared → Prop} {s : Shared}
theorem fm_congr {α β : Type} {f g : α → Option β} : ∀ {l : List α}, (∀ x ∈ l, f x = g x) → l.filterMap f = l.filterMap g
  | [], _ => rfl
  | x :: r, h => by
    rw [List.filterMap_cons, List.filterMap_cons, h x (by simp), fm_congr (l := r) fun y hy => h y (by simp [hy])]
theorem pick_rev (xs : Array Value) : (List.range xs.size).filterMap (fun (m : Nat) => xs[(((xs.size : Int) - 1) + (m : Int) * (-1)).toNat]?) = xs.toList.reverse := by
  apply List.ext_getElem?
  intro i
  by_cases h : i < xs.size
  · have e : ∀ m ∈ List.range xs.size, (fun (m : Nat) => xs[(((xs.size : Int) - 1) + (m : Int) * (-1)).toNat]?) m = some (xs.toList.reverse.getD m default) := by
      intro m hm
      have hm' := List.mem_range.mp hm
      have e1 : (((xs.size : Int) - 1) + (m : Int) * (-1)).toNat = xs.size - 1 - m := by omega
      simp only [e1]
      have h2 : xs.size - 1 - m < xs.size := by omega
      rw [Array.getElem?_eq_getElem h2, List.getD_eq_getElem?_getD, List.getElem?_reverse (by simpa using hm')]
      simp [h2]
    have e2 : (List.range xs.size).filterMap (fun (m : Nat) => xs[(((xs.size : Int) - 1) + (m : Int) * (-1)).toNat]?) = (List.range xs.size).map fun m => xs.toList.reverse.getD m default := by
      rw [← List.filterMap_eq_map]
      exact fm_congr fun m hm => e m hm
    rw [e2, List.getElem?_map, List.getElem?_range h]
    simp only [Option.map_some, List.getD_eq_getElem?_getD]
    rw [List.getElem?_eq_getElem (by simpa using h)]
    rfl
  · have h1 : xs.toList.reverse[i]? = none := List.getElem?_eq_none (by simpa using h)
    rw [h1, List.getElem?_eq_none_iff]
    refine Nat.le_trans (List.length_filterMap_le _ _) ?_
    simp; omega
theorem getItem_tuple_rev {t sl : Addr} {items : Array Value} {vk : Value} {Q : Value → Shared → Prop} (ht : IsTup s.heap t items) (hs : s.heap.IsSliceOf sl .none .none vk) (pk : IsPart vk (some (-1)))
    (h : Q (.ref s.heap.objs.size) { s with heap := s.heap.push { cls := .type "tuple", data := .seq items.toList.reverse.toArray } })
    (hsz : items.size ≤ sizeLine) : wpAny (model prog w) A (getItem (.ref t) (.ref sl)) Q E s := by
  have htake : sizeOk (.seq items.toList.reverse.toArray) := by
    show items.toList.reverse.toArray.size ≤ sizeLine
    simpa using hsz
  obtain ⟨os, hos, hcs, hds⟩ := id hs
  have hTs : s.TypeIs (.ref sl) "slice" := ⟨os, hos, hcs⟩
  unfold getItem
  try with_reducible refine wpAny_holding ?_
  first | refine wpAny_bind (wpAny_pure ?_) | skip
  refine wpAny_bind (wpAny_sequenceKey ht.typeIs (by decide) ?_)
  refine wpAny_bind (wpAny_callSpecial?_slot (name := Str.ofString "__getitem__") ht.typeIs PyProof.Rows.slot_tuple_getitem
    (wpAny_call_entry PyProof.Rows.slot_tuple_getitem ht.typeIs entry_tuple_getitem ?_ (args_tuple_getitem _ _)))
  show wpAny _ _ (Builtin.Tuple.tupleItemsOf (.ref t) >>= _) _ _ s
  refine wpAny_bind (tupleItemsOf_ ht ?_)
  refine wpAny_bind (wpAny_typeOf hTs ?_)
  rw [if_pos (by decide)]
  have hsl : ∀ {Q' : Int × Int × Nat → Shared → Prop}, Q' ((items.size : Int) - 1, -1, items.size) s → wpAny (model prog w) A.in1 (Builtin.Slice.sliceApplied (.ref sl) (pure (items.size : Int))) Q' (fun _ _ => False) s := by
    intro Q' hQ
    unfold Builtin.Slice.sliceApplied Builtin.Slice.sliceFields
    refine wpAny_bind (wpAny_bind (wpAny_field hos hds (x := .none) rfl (wpAny_bind (wpAny_field hos hds (x := .none) rfl (wpAny_bind (wpAny_field hos hds (x := vk) rfl (wpAny_pure ?_)))))))
    refine wpAny_bind (slicePart_ pk ?_)
    show wpAny _ _ (if ((-1 : Int) == 0) = true then _ else _) _ _ s
    rw [if_neg (by decide)]
    refine wpAny_bind (slicePart_none (wpAny_bind (slicePart_none (wpAny_bind (wpAny_pure ?_)))))
    have e : Builtin.Slice.slicePlaces ((items.size : Int) - 1) (-1) (-1) = items.size := by
      unfold Builtin.Slice.slicePlaces
      rw [if_neg (by decide)]
      by_cases hz : (items.size : Int) - 1 > -1
      · rw [if_pos hz, show (- -1 : Int) = 1 by decide, Int.ediv_one]
        omega
      · rw [if_neg hz]
        omega
    show wpAny _ _ (pure ((items.size : Int) - 1, (-1 : Int), Builtin.Slice.slicePlaces ((items.size : Int) - 1) (-1) (-1))) _ _ s
    rw [e]
    exact wpAny_pure hQ
  refine wpAny_bind (wpAny_mono (hsl (Q' := fun p s' => p = ((items.size : Int) - 1, -1, items.size) ∧ s' = s) ⟨rfl, rfl⟩) (fun p s' hp => ?_) fun _ _ z => z.elim)
  obtain ⟨rfl, rfl⟩ := hp
  show wpAny _ _ (if ((items.size : Int) - 1 == 0 && (-1 : Int) == 1 && items.size == items.size) = true then _ else _) _ _ s'
  rw [if_neg (by simp), pick_rev]
  first
    | exact wpAny_bind (m := Builtin.Tuple.tupleExact _) (wpAny_newObj_type (wpAny_pure ⟨_, rfl, wpAny_pure h⟩) htake)
    | exact wpAny_bind (m := Builtin.Tuple.tupleExact _) (wpAny_newObj_type (wpAny_bind (wpAny_pure (wpAny_pure ⟨_, rfl, wpAny_pure h⟩))) htake)
end
end HT
namespace DL
open PySem PySem.Spec PyProof.Rows L2
/-- what is wanted of a binary operation on trees -/
def rG (K : PySem.W.Frag) (g : D → D → Option D) : R2 := fun x y H Q => ∃ B d e d', (∀ b ∈ B, H b ≠ none) ∧ RepA K H B d x ∧ RepA K H B e y ∧ g d e = some d' ∧ ∀ v H', Ext H H' → Rep K H' B d' v → Q v H'
section
variable {K : PySem.W.Frag} {H : Hp} {B : List Addr}
theorem Reps.atI {ds : List D} {vs : List V} {i : Int} {d : D} (h : Reps K H B ds vs) (e : atI ds i = some d) : ∃ v, atI vs i = some v ∧ Rep K H B d v := by
  unfold L2.atI at e ⊢
  rw [← h.length]
  obtain ⟨j, e1, e2⟩ := Option.bind_eq_some_iff.mp e
  obtain ⟨v, e3, r⟩ := h.at_ e2
  exact ⟨v, by rw [e1]; exact e3, r⟩
end
section
variable {ρ : Type} {I : Wd ρ} {X : Cx} {O : List Nat} {pos : Pos}
theorem bin2 {e0 : Expr} {f1 f2 : SE ρ} {g : D → D → Option D} (h : PE X e0 (tOp (rG X.K g) (tB I X.K O f1) (tB I X.K O f2))) : Ed I X O e0 (eBin g f1 f2) :=
  PE.weak h fun σ H Q ⟨W, B, H0, A, env, r, d, r', l, ho, hf, q⟩ => by
    unfold eBin at hf
    obtain ⟨⟨d1, r1⟩, e1, hf⟩ := Option.bind_eq_some_iff.mp hf
    obtain ⟨⟨d2, r2⟩, e2, hf⟩ := Option.bind_eq_some_iff.mp hf
    obtain ⟨x, e3, hf⟩ := Option.map_eq_some_iff.mp hf
    cases hf
    refine ⟨W, B, H0, A, env, r, d1, r1, l, ho, e1, fun v1 H1 l1 v1e rp1 => ?_⟩
    refine ⟨W, B, H0, A, env, r1, d2, r2, l1, ho, e2, fun v2 H2 l2 v2e rp2 => ?_⟩
    exact ⟨B ++ A.ad, d1, d2, _, l2.bx, (rp1.keep l1 v2e).repA, rp2.repA, e3, fun v H' ex rp => q v H' (l2.ext ex) ((v1e.trans v2e).trans ex.evo) rp⟩
/-! subscripts -/
def ixD : D → D → Option D
  | .tup xs, .int i => atI xs i
  | .lst xs, .int i => atI xs i
  | _, _ => none
theorem ix_D : IxR X (rG X.K ixD) := by
  intro value slice pins s σ H x y v u Q I rx ry ⟨B, d, e, d', tr, r1, r2, hg, q⟩ hs
  cases d <;> cases e <;> simp only [ixD] at hg <;> try contradiction
  case tup.int xs i =>
    obtain ⟨a, vs, rfl, t1, s1⟩ := r1.tup
    obtain ⟨w, e1, rw1⟩ := s1.atI hg
    exact ix_tup value slice pins s σ H _ y v u Q I rx ry ⟨a, vs, i, w, rfl, r2.int, t1.sq, e1, q w H Ext.refl rw1⟩ hs
  case lst.int xs i =>
    obtain ⟨a, vs, rfl, t1, s1⟩ := r1.lst
    obtain ⟨w, e1, rw1⟩ := s1.atI hg
    exact ix_list value slice pins s σ H _ y v u Q I rx ry ⟨a, vs, i, w, rfl, r2.int, SqL.of t1, e1, q w H Ext.refl rw1⟩ hs
theorem ed_ix {a b : Expr} {f1 f2 : SE ρ} (ha : Eb I X O a f1) (hb : Eb I X O b f2) (hs : PlainIx b := by exact fun _ _ => rfl) : Ed I X O (.Subscript a b pos) (eBin ixD f1 f2) := bin2 (pe_ix ix_D ha hb hs)
/-! dicts -/
def keyD : D → Option Key
  | .int i => some (.inl i)
  | .str x => some (.inr x)
  | _ => none
def look : List Key → List D → Key → Option D
  | k :: ks, x :: xs, j => if k = j then some x else look ks xs j
  | _, _, _ => none
theorem RepA.key {K : PySem.W.Frag} {H : Hp} {B : List Addr} {d : D} {v : V} {k : Key} (h : RepA K H B d v) (e : keyD d = some k) : v = kV k := by
  cases d <;> simp only [keyD] at e <;> try contradiction
  · cases e; exact h.int
  · cases e; exact h.str
theorem look_some {K : PySem.W.Frag} {H : Hp} {B : List Addr} {j : Key} : ∀ {kvs : List (Key × V)} {xs : List D} {d : D}, Reps K H B xs (kvs.map (·.2)) → look (kvs.map (·.1)) xs j = some d → ∃ v, valV kvs j = some v ∧ Rep K H B d v
  | [], xs, d, h, e => by
    cases h
    cases e
  | (k, v) :: r, xs, d, h, e => by
    cases h with
    | cons h1 h2 =>
      rw [List.map_cons] at e
      unfold look at e
      by_cases z : k = j
      · rw [if_pos z] at e
        cases e
        exact ⟨v, valV_pos z, h1⟩
      · rw [if_neg z] at e
        obtain ⟨w, e1, e2⟩ := look_some h2 e
        exact ⟨w, by rw [valV_neg z]; exact e1, e2⟩
theorem look_none {K : PySem.W.Frag} {H : Hp} {B : List Addr} {j : Key} : ∀ {kvs : List (Key × V)} {xs : List D}, Reps K H B xs (kvs.map (·.2)) → look (kvs.map (·.1)) xs j = none → valV kvs j = none
  | [], xs, h, e => valV_nil
  | (k, v) :: r, xs, h, e => by
    cases h with
    | cons h1 h2 =>
      rw [List.map_cons] at e
      unfold look at e
      by_cases z : k = j
      · rw [if_pos z] at e
        cases e
      · rw [if_neg z] at e
        rw [valV_neg z]
        exact look_none h2 e
def dixD : D → D → Option D
  | .dct ks xs, d => (keyD d).bind fun k => look ks xs k
  | _, _ => none
theorem ed_dix {a b : Expr} {f1 f2 : SE ρ} (hu : X.A.units + 1 < cLine) (ha : Eb I X O a f1) (hb : Eb I X O b f2) (hs : NoSl b := by exact fun _ _ => rfl) : Ed I X O (.Subscript a b pos) (eBin dixD f1 f2) :=
  bin2 (PE.weak (pe_dget hu ha hb hs) fun σ H Q q => by
    obtain ⟨W, B, H0, A, env, r, d, r', l, ho, hf, q⟩ := q
    refine ⟨W, B, H0, A, env, r, d, r', l, ho, hf, fun v1 H1 l1 v1e rp1 => ?_⟩
    obtain ⟨W2, B2, H02, A2, env2, r2, d2, r2', l2, ho2, hf2, q2⟩ := q v1 H1 l1 v1e rp1
    refine ⟨W2, B2, H02, A2, env2, r2, d2, r2', l2, ho2, hf2, fun v2 H2 l3 v2e rp2 => ?_⟩
    obtain ⟨B', d3, e3, d', tr, ra, rb, hg, q3⟩ := q2 v2 H2 l3 v2e rp2
    cases d3 <;> simp only [dixD] at hg <;> try contradiction
    case dct ks xs =>
      obtain ⟨k, hk, hg⟩ := Option.bind_eq_some_iff.mp hg
      obtain ⟨a, kvs, rfl, e1, rfl, rs⟩ := ra.dct
      obtain ⟨w, e2, rw2⟩ := look_some rs hg
      refine ⟨a, w, rfl, ?_, q3 w H2 Ext.refl rw2⟩
      rw [rb.key hk, ← e2]
      exact DGet.k e1)
/-! in, not in -/
def items : D → Option (List D)
  | .tup xs => some xs
  | .lst xs => some xs
  | _ => none
def scs : List D → Option (List V)
  | [] => some []
  | d :: ds => d.sc.bind fun v => (scs ds).map fun vs => v :: vs
theorem sc_flat {d : D} {v : V} (h : d.sc = some v) : flatV v = true := by
  cases d <;> simp only [D.sc] at h <;> try contradiction
  all_goals (cases h; rfl)
theorem scs_reps {K : PySem.W.Frag} {H : Hp} {B : List Addr} : ∀ {ds : List D} {vs ws : List V}, scs ds = some ws → Reps K H B ds vs → vs = ws ∧ ws.all flatV = true
  | [], vs, ws, h, r => by cases h; cases r; exact ⟨rfl, rfl⟩
  | d :: ds, vs, ws, h, r => by
    cases r with
    | cons r1 r2 =>
      simp only [scs] at h
      obtain ⟨v, e1, h⟩ := Option.bind_eq_some_iff.mp h
      obtain ⟨us, e2, h⟩ := Option.map_eq_some_iff.mp h
      cases h
      obtain ⟨e3, e4⟩ := scs_reps e2 r2
      have e5 := RepA.sc (.inl r1) e1
      subst e3 e5
      exact ⟨rfl, by rw [List.all_cons, sc_flat e1, e4]; rfl⟩
def inB (d : D) : D → Option Bool
  | .tup xs => d.sc.bind fun v => (scs xs).map fun vs => inV v vs
  | .lst xs => d.sc.bind fun v => (scs xs).map fun vs => inV v vs
  | .str y => match d with
    | .str x => some (!(Builtin.Str.occurrences y x 0 y.length 1).isEmpty)
    | _ => none
  | .dct ks xs => (keyD d).map fun k => (look ks xs k).isSome
  | _ => none
def inD (d e : D) : Option D := (inB d e).map .bl
def ninD (d e : D) : Option D := (inB d e).map fun b => .bl (!b)
theorem in_cases {K : PySem.W.Frag} {H : Hp} {B : List Addr} {d e : D} {x y : V} {b : Bool} (r1 : RepA K H B d x) (r2 : RepA K H B e y) (h : inB d e = some b) :
    (∃ p xs, y = V.ref p ∧ (SqL K H p xs ∨ SqT K H p xs) ∧ flatV x = true ∧ xs.all flatV = true ∧ b = inV x xs) ∨ (∃ i j, x = .str i ∧ y = .str j ∧ b = !(Builtin.Str.occurrences j i 0 j.length 1).isEmpty) ∨
      ∃ a kvs k, y = V.ref a ∧ H a = some (.dK kvs) ∧ x = kV k ∧ b = (valV kvs k).isSome := by
  cases e with
  | tup xs =>
    simp only [inB] at h
    obtain ⟨v, e1, h⟩ := Option.bind_eq_some_iff.mp h
    obtain ⟨vs, e2, h⟩ := Option.map_eq_some_iff.mp h
    obtain ⟨a, us, rfl, t, rs⟩ := r2.tup
    obtain ⟨e3, e4⟩ := scs_reps e2 rs
    have e5 := r1.sc e1
    subst e3 e5
    exact .inl ⟨a, us, rfl, .inr t.sq, sc_flat e1, e4, h.symm⟩
  | lst xs =>
    simp only [inB] at h
    obtain ⟨v, e1, h⟩ := Option.bind_eq_some_iff.mp h
    obtain ⟨vs, e2, h⟩ := Option.map_eq_some_iff.mp h
    obtain ⟨a, us, rfl, t, rs⟩ := r2.lst
    obtain ⟨e3, e4⟩ := scs_reps e2 rs
    have e5 := r1.sc e1
    subst e3 e5
    exact .inl ⟨a, us, rfl, .inl (SqL.of t), sc_flat e1, e4, h.symm⟩
  | str j =>
    cases d <;> simp only [inB] at h <;> try contradiction
    cases h
    exact .inr (.inl ⟨_, _, r1.str, r2.str, rfl⟩)
  | dct ks xs =>
    simp only [inB] at h
    obtain ⟨k, e1, h⟩ := Option.map_eq_some_iff.mp h
    obtain ⟨a, kvs, rfl, t, rfl, rs⟩ := r2.dct
    refine .inr (.inr ⟨a, kvs, k, rfl, t, r1.key e1, ?_⟩)
    cases hl : look (kvs.map (·.1)) xs k with
    | none => rw [look_none rs hl, ← h, hl]; rfl
    | some w =>
      obtain ⟨w2, e3, _⟩ := look_some rs hl
      rw [e3, ← h, hl]; rfl
  | _ => simp only [inB] at h; contradiction
theorem opd_in (hu : X.A.units + 1 < cLine) : OpD X (compareOp .In) inD := by
  intro pins s σ H x y v u Q I rx ry ⟨B, d, e, d', tr, r1, r2, hg, q⟩
  obtain ⟨b, hb, rfl⟩ := Option.map_eq_some_iff.mp hg
  have qq := q _ _ Ext.refl (.bl b)
  rcases in_cases r1 r2 hb with ⟨p, xs, rfl, hs, f1, f2, e⟩ | ⟨i, j, rfl, rfl, e⟩ | ⟨a, kvs, k, rfl, t, rfl, e⟩
  · exact op_in_seq pins s σ H _ _ v u Q I rx ry ⟨p, xs, rfl, hs, f1, f2, by rw [e] at qq; exact qq⟩
  · exact op_in_str pins s σ H _ _ v u Q I rx ry ⟨i, j, rfl, rfl, by rw [e] at qq; exact qq⟩
  · cases ry
    exact d_in hu I (DGet.k t) rx fun s' I' => ⟨.bl b, H, I', by rw [e]; rfl, qq⟩
theorem opd_nin (hu : X.A.units + 1 < cLine) : OpD X (compareOp .NotIn) ninD := by
  intro pins s σ H x y v u Q I rx ry ⟨B, d, e, d', tr, r1, r2, hg, q⟩
  obtain ⟨b, hb, rfl⟩ := Option.map_eq_some_iff.mp hg
  have qq := q _ _ Ext.refl (.bl (!b))
  rcases in_cases r1 r2 hb with ⟨p, xs, rfl, hs, f1, f2, e⟩ | ⟨i, j, rfl, rfl, e⟩ | ⟨a, kvs, k, rfl, t, rfl, e⟩
  · exact op_notIn_seq pins s σ H _ _ v u Q I rx ry ⟨p, xs, rfl, hs, f1, f2, by rw [e] at qq; exact qq⟩
  · exact op_notin_str pins s σ H _ _ v u Q I rx ry ⟨i, j, rfl, rfl, by rw [e] at qq; exact qq⟩
  · cases ry
    exact d_notIn hu I (DGet.k t) rx fun s' I' => ⟨.bl (!b), H, I', by rw [e]; rfl, qq⟩
/-! is, is not -/
def isB : D → D → Option Bool
  | .raw _, _ => none
  | .exn _ _ _ _, _ => none
  | .frl _, _ => none
  | .non, .non => some true
  | _, .non => some false
  | .bl a, .bl b => some (decide (a = b))
  | _, .bl _ => some false
  | _, _ => none
def isD (d e : D) : Option D := (isB d e).map .bl
def isnD (d e : D) : Option D := (isB d e).map fun b => .bl (!b)
theorem is_bool_other {K : PySem.W.Frag} {H : Hp} {B : List Addr} {d : D} {x : V} {v : Value} {k b : Bool} (r : RepA K H B d x) (rx : RelV x v) (h : isB d (.bl k) = some b) : (∃ j, v = .bool j ∧ b = decide (j = k)) ∨ (b = false ∧ v ≠ .bool k ∧ plainIs v (.bool k) = true) := by
  cases d <;> simp only [isB] at h <;> try contradiction
  case non =>
    cases h
    obtain rfl := r.non
    obtain rfl : v = Value.none := rx
    exact .inr ⟨rfl, (fun z => nomatch z), rfl⟩
  case bl j =>
    cases h
    obtain rfl := r.bl
    obtain rfl : v = Value.bool j := rx
    exact .inl ⟨j, rfl, rfl⟩
  case int j =>
    cases h
    obtain rfl := r.int
    obtain ⟨t, rfl⟩ : ∃ t, v = Value.int j t := rx
    exact .inr ⟨rfl, (fun z => nomatch z), rfl⟩
  case str j =>
    cases h
    obtain rfl := r.str
    obtain ⟨t, rfl⟩ : ∃ t, v = Value.str j t := rx
    exact .inr ⟨rfl, (fun z => nomatch z), rfl⟩
  case tup xs =>
    cases h
    obtain ⟨a, vs, rfl, _⟩ := r.tup
    obtain rfl : v = Value.ref a := rx
    exact .inr ⟨rfl, (fun z => nomatch z), rfl⟩
  case lst xs =>
    cases h
    obtain ⟨a, vs, rfl, _⟩ := r.lst
    obtain rfl : v = Value.ref a := rx
    exact .inr ⟨rfl, (fun z => nomatch z), rfl⟩
  case dct ks xs =>
    cases h
    obtain ⟨a, vs, rfl, _⟩ := r.dct
    obtain rfl : v = Value.ref a := rx
    exact .inr ⟨rfl, (fun z => nomatch z), rfl⟩
theorem isB_non {K : PySem.W.Frag} {H : Hp} {B : List Addr} {d : D} {x : V} {b : Bool} (r : RepA K H B d x) (h : isB d .non = some b) : b = decide (x = .non) := by
  cases d <;> simp only [isB] at h <;> try contradiction
  case non => cases h; rw [r.non]; rfl
  case bl => cases h; rw [r.bl]; rfl
  case int => cases h; rw [r.int]; rfl
  case str => cases h; rw [r.str]; rfl
  case tup => cases h; obtain ⟨a, vs, rfl, _⟩ := r.tup; rfl
  case lst => cases h; obtain ⟨a, vs, rfl, _⟩ := r.lst; rfl
  case dct => cases h; obtain ⟨a, vs, rfl, _⟩ := r.dct; rfl
theorem opd_is : OpD X (compareOp .Is) isD := by
  intro pins s σ H x y v u Q I rx ry ⟨B, d, e, d', tr, r1, r2, hg, q⟩
  obtain ⟨b, hb, rfl⟩ := Option.map_eq_some_iff.mp hg
  have qq := q _ _ Ext.refl (.bl b)
  cases e with
  | non =>
    refine op_isN pins s σ H x y v u Q I rx ry ⟨r2.non, ?_⟩
    rw [← isB_non r1 hb]; exact qq
  | bl k =>
    obtain rfl := r2.bl
    obtain rfl : u = Value.bool k := ry
    rcases is_bool_other r1 rx hb with ⟨j, rfl, e⟩ | ⟨rfl, ne, hs⟩
    · by_cases z : j = k
      · subst z
        exact wpAny_is_self rfl ⟨.bl true, H, I, rfl, by rw [e, decide_eq_true rfl] at qq; exact qq⟩
      · exact wpAny_is_other rfl (fun w => z (Value.bool.inj w)) ⟨.bl false, H, I, rfl, by rw [e, decide_eq_false z] at qq; exact qq⟩
    · exact wpAny_is_other hs ne ⟨.bl false, H, I, rfl, qq⟩
  | _ => cases d <;> simp only [isB] at hb <;> contradiction
theorem opd_isn : OpD X (compareOp .IsNot) isnD := by
  intro pins s σ H x y v u Q I rx ry ⟨B, d, e, d', tr, r1, r2, hg, q⟩
  obtain ⟨b, hb, rfl⟩ := Option.map_eq_some_iff.mp hg
  have qq := q _ _ Ext.refl (.bl (!b))
  cases e with
  | non =>
    refine op_notN pins s σ H x y v u Q I rx ry ⟨r2.non, ?_⟩
    rw [← isB_non r1 hb]; exact qq
  | bl k =>
    obtain rfl := r2.bl
    obtain rfl : u = Value.bool k := ry
    rcases is_bool_other r1 rx hb with ⟨j, rfl, e⟩ | ⟨rfl, ne, hs⟩
    · by_cases z : j = k
      · subst z
        exact wpAny_isNot_self rfl ⟨.bl false, H, I, rfl, by rw [e, decide_eq_true rfl] at qq; exact qq⟩
      · exact wpAny_isNot_other rfl (fun w => z (Value.bool.inj w)) ⟨.bl true, H, I, rfl, by rw [e, decide_eq_false z] at qq; exact qq⟩
    · exact wpAny_isNot_other hs ne ⟨.bl true, H, I, rfl, qq⟩
  | _ => cases d <;> simp only [isB] at hb <;> contradiction
end
end DL
end
section
set_option Elab.async false
set_option linter.all false
set_option maxRecDepth 100000
set_option maxHeartbeats 2000000
/-! The data layer, 5: slices, built-in functions, calls of defs. -/
namespace DL
open PySem PySem.Spec PyProof.Rows L2
section
variable {K : PySem.W.Frag} {H : Hp} {B : List Addr}
abbrev SO (ρ : Type) := Env → ρ → Option (Option Int × ρ)
def oNone {ρ : Type} : SO ρ := fun _ r => some (none, r)
def oSome {ρ : Type} (f : SE ρ) : SO ρ := fun env r => (f env r).bind fun p => match p.1 with
  | .int i => some (some i, p.2)
  | _ => none
def cutD (xs : List D) (lo hi : Option Int) : List D := (xs.drop (HT.sIx xs.length 0 lo)).take (HT.sIx xs.length xs.length hi - HT.sIx xs.length 0 lo)
def slD : D → Option Int → Option Int → Option D
  | .tup xs, lo, hi => some (.tup (cutD xs lo hi))
  | .lst xs, lo, hi => some (.lst (cutD xs lo hi))
  | _, _, _ => none
def eSl {ρ : Type} (f : SE ρ) (lo hi : SO ρ) : SE ρ := fun env r => (f env r).bind fun p => (lo env p.2).bind fun a => (hi env a.2).bind fun b => (slD p.1 a.1 b.1).map fun x => (x, b.2)
theorem cut_reps {xs : List D} {vs : List V} {lo hi : Option Int} (h : Reps K H B xs vs) : Reps K H B (cutD xs lo hi) (cutV vs lo hi) := by
  unfold cutD cutV
  rw [← h.length]
  exact (h.drop _).take _
theorem cut_whole {xs : List D} {lo hi : Option Int} (h : HT.sIx xs.length 0 lo = 0 ∧ HT.sIx xs.length xs.length hi = xs.length) : cutD xs lo hi = xs := by
  unfold cutD
  rw [h.1, h.2]
  simp
end
section
variable {ρ : Type} {I : Wd ρ} {X : Cx} {O : List Nat} {pos : Pos}
def tO (I : Wd ρ) (K : PySem.W.Frag) (O : List Nat) (f : SO ρ) : TO := fun σ H Q => ∃ W B H0 A env r d r', Lc I K W B H0 A env r σ H ∧ A.map (·.1) = O ∧ f env r = some (d, r') ∧
  ∀ H', Lc I K W B H0 A env r' σ H' → Evo W H H' → Q d H'
def Od (I : Wd ρ) (X : Cx) (O : List Nat) (e : Option Expr) (f : SO ρ) : Prop := PO X e (tO I X.K O f)
theorem PO.weak {e : Option Expr} {t u : TO} (h : PO X e t) (w : ∀ σ H Q, u σ H Q → t σ H Q) : PO X e u := ⟨fun pins s σ H Q i q => h.run pins s σ H Q i (w σ H Q q)⟩
theorem od_none : Od I X O none oNone :=
  PO.weak po_none fun σ H Q ⟨W, B, H0, A, env, r, d, r', l, ho, hf, q⟩ => by
    cases hf
    exact q H l Evo.refl
theorem od_some {e : Expr} {f : SE ρ} (h : Ed I X O e f) : Od I X O (some e) (oSome f) :=
  PO.weak (po_some h) fun σ H Q ⟨W, B, H0, A, env, r, d, r', l, ho, hf, q⟩ => by
    unfold oSome at hf
    obtain ⟨⟨d1, r1⟩, e1, hf⟩ := Option.bind_eq_some_iff.mp hf
    dsimp only at hf
    split at hf
    case h_1 i =>
      cases hf
      refine ⟨W, B, H0, A, env, r, _, r', l, ho, e1, fun v1 H1 l1 v1e rp1 => ?_⟩
      cases rp1
      exact ⟨_, rfl, q H1 l1 v1e⟩
    case h_2 => cases hf
theorem ed_sl {e : Expr} {lo hi : Option Expr} {f : SE ρ} {fl fh : SO ρ} {p2 : Pos} (he : Eb I X O e f) (hl : Od I X O lo fl) (hh : Od I X O hi fh) : Ed I X O (.Subscript e (.Slice lo hi none p2) pos) (eSl f fl fh) :=
  PE.weak (pe_slice ((sl_tupA).or (sl_list)) he hl hh) fun σ H Q ⟨W, B, H0, A, env, r, d, r', l, ho, hf, q⟩ => by
    unfold eSl at hf
    obtain ⟨⟨d1, r1⟩, e1, hf⟩ := Option.bind_eq_some_iff.mp hf
    obtain ⟨⟨a, r2⟩, e2, hf⟩ := Option.bind_eq_some_iff.mp hf
    obtain ⟨⟨b, r3⟩, e3, hf⟩ := Option.bind_eq_some_iff.mp hf
    obtain ⟨x, e4, hf⟩ := Option.map_eq_some_iff.mp hf
    cases hf
    refine ⟨W, B, H0, A, env, r, d1, r1, l, ho, e1, fun v1 H1 l1 v1e rp1 => ?_⟩
    refine ⟨W, B, H0, A, env, r1, a, r2, l1, ho, e2, fun H2 l2 v2e => ?_⟩
    refine ⟨W, B, H0, A, env, r2, b, r3, l2, ho, e3, fun H3 l3 v3e => ?_⟩
    have ra := ((rp1.keep l1 v2e).keep l2 v3e).repA
    have ev := (v1e.trans v2e).trans v3e
    cases d1 <;> simp only [slD] at e4 <;> try contradiction
    case tup xs =>
      cases e4
      obtain ⟨p, vs, rfl, t, rs⟩ := ra.tup
      refine .inl ⟨p, vs, rfl, t.sq, fun hw => ?_, fun hw p2 np => ?_⟩
      · rw [← rs.length] at hw
        rw [cut_whole hw] at q
        exact q _ H3 l3 ev (.tup t rs)
      · exact q _ _ (l3.grow np) (ev.trans (Evo.new np)) (.tup (.inl ⟨l3.notin np, upd_same⟩) ((cut_reps rs).keep (Evo.new np)))
    case lst xs =>
      cases e4
      obtain ⟨p, vs, rfl, t, rs⟩ := ra.lst
      refine .inr ⟨p, vs, rfl, SqL.of t, fun p2 np => ?_⟩
      exact q _ _ (l3.grow np) (ev.trans (Evo.new np)) (.lst (l3.notin np) upd_same ((cut_reps rs).keep (Evo.new np)))
/-! xs[::-1] of a tuple -/
def revD : D → Option D
  | .tup xs => some (.tup xs.reverse)
  | _ => none
theorem pe_revT {e : Expr} {te : TE} {k : Nat} {p1 p2 p3 : Pos} (he : PE X e te) : PE X (.Subscript e (.Slice none none (some (.UnaryOp .USub (.Constant (.int 1) k p1) p2)) p3) pos)
    (fun σ H Q => te σ H fun x H1 => ∃ a xs, x = V.ref a ∧ SqT X.K H1 a xs ∧ ∀ p, H1 p = none → Q (.ref p) (upd H1 p (.tup xs.reverse))) := by
  refine ⟨fun pins s σ H Q I h => ?_⟩
  refine Subscript_ (thn (he.run pins s σ H _ I h) fun v s1 ⟨x, H1, I1, r1, q1⟩ => ?_)
  obtain ⟨a, xs, ex, hx, q⟩ := q1
  subst ex
  cases r1
  have hst : PO X (some (.UnaryOp .USub (.Constant (.int 1) k p1) p2)) (tPart (tUn (rU fun i => .int (-i)) (tC (.int 1)))) := po_some (pe_un un_neg pe_int)
  refine wpAny_Slice (thn (po_none.run pins s1 σ H1 (fun o H2 => o = none ∧ H2 = H1) I1 ⟨rfl, rfl⟩) fun vl s2 ⟨l, H2, I2, pl, el, e2⟩ => ?_)
  subst el e2
  refine thn (po_none.run pins s2 σ H2 (fun o H3 => o = none ∧ H3 = H2) I2 ⟨rfl, rfl⟩) fun vu s3 ⟨u, H3, I3, pu, eu, e3⟩ => ?_
  subst eu e3
  refine thn (hst.run pins s3 σ H3 (fun o H4 => o = some (-1) ∧ H4 = H3) I3 ⟨1, rfl, -1, rfl, rfl, rfl⟩) fun vs s4 ⟨o, H4, I4, ps, eo, e4⟩ => ?_
  subst eo e4
  have I5 : Inv X pins σ H4 { s4 with heap := s4.heap.push { cls := .type "slice", data := .fields #[vl, vu, vs] } } := I4.kept (t' := s4.toks) fun b ob q => Heap.get?_push_of_some _ q
  obtain ⟨its, r, ht, hz⟩ := I5.tuple hx
  have hlen := r.length
  obtain rfl : vl = .none := by cases pl; rfl
  obtain rfl : vu = .none := by cases pu; rfl
  show wpAny (model X.prog X.w) X.A (subscriptTail e (.Slice none none (some (.UnaryOp .USub (.Constant (.int 1) k p1) p2)) p3) (.ref a) (.ref s4.heap.objs.size)) (EP X pins σ Q) X.xe { s4 with heap := s4.heap.push { cls := .type "slice", data := .fields #[.none, .none, vs] } }
  refine tail_any (ops := [.ref a, .ref s4.heap.objs.size]) ht.typeIs (PyProof.Rows.slot_tuple_getitem.lookup) ?_ (by with_unfolding_all rfl)
  refine HT.getItem_tuple_rev ht (Heap.IsSliceOf.new _ .none .none vs) ps ?_ (by rw [List.size_toArray]; omega)
  refine ⟨.ref _, _, I5.laid (t' := s4.toks) (o := .tup xs.reverse) (fun b ob q => Heap.get?_push_of_some _ q) (Nat.le_refl _) ?_, rfl, q _ (I5.hok.fresh (Nat.le_refl _))⟩
  exact ⟨by rw [List.length_reverse]; exact hz, _, r.reverse, ⟨_, Heap.get?_push_size _ rfl, rfl, 0, rfl⟩⟩
theorem ed_rev {e : Expr} {f : SE ρ} {k : Nat} {p1 p2 p3 : Pos} (he : Ed I X O e f) : Ed I X O (.Subscript e (.Slice none none (some (.UnaryOp .USub (.Constant (.int 1) k p1) p2)) p3) pos) (eUn revD f) :=
  PE.weak (pe_revT he) fun σ H Q ⟨W, B, H0, A, env, r, d, r', l, ho, hf, q⟩ => by
    unfold eUn at hf
    obtain ⟨⟨d1, r1⟩, e1, hf⟩ := Option.bind_eq_some_iff.mp hf
    obtain ⟨x, e4, hf⟩ := Option.map_eq_some_iff.mp hf
    cases hf
    refine ⟨W, B, H0, A, env, r, d1, r1, l, ho, e1, fun v1 H1 l1 v1e rp1 => ?_⟩
    cases d1 <;> simp only [revD] at e4 <;> try contradiction
    case tup xs =>
      cases e4
      obtain ⟨p, vs, rfl, t, rs⟩ := RepA.tup (.inl rp1)
      refine ⟨p, vs, rfl, t.sq, fun p2 np => ?_⟩
      exact q _ _ (l1.grow np) (v1e.trans (Evo.new np)) (.tup (.inl ⟨l1.notin np, upd_same⟩) (rs.reverse.keep (Evo.new np)))
end

/-! ### built-in functions of one or two arguments -/
def CallD (X : Cx) (f : Value) (g : D → Option D) : Prop :=
  CallR X f (fun xs H Q => ∃ x B d d', xs = [x] ∧ (∀ b ∈ B, H b ≠ none) ∧ RepA X.K H B d x ∧ g d = some d' ∧ ∀ v H', Ext H H' → Rep X.K H' B d' v → Q v H')
def CallD2 (X : Cx) (f : Value) (g : D → D → Option D) : Prop :=
  CallR X f (fun xs H Q => ∃ x y B d e d', xs = [x, y] ∧ (∀ b ∈ B, H b ≠ none) ∧ RepA X.K H B d x ∧ RepA X.K H B e y ∧ g d e = some d' ∧ ∀ v H', Ext H H' → Rep X.K H' B d' v → Q v H')
section
variable {X : Cx}
def lenD : D → Option D
  | .tup xs => some (.int xs.length)
  | .lst xs => some (.int xs.length)
  | .str x => if x.length ≤ big then some (.int x.length) else none
  | .dct ks xs => some (.int xs.length)
  | _ => none
theorem cd_len : CallD X (.builtin "len") lenD := by
  intro pins s σ H xs us Q I r ⟨x, B, d, d', e, tr, ra, hg, q⟩
  cases d <;> simp only [lenD] at hg <;> try contradiction
  case tup ds =>
    cases hg
    obtain ⟨a, vs, rfl, t, rs⟩ := ra.tup
    exact call_len_seq pins s σ H xs us Q I r ⟨a, vs, e, .inr t.sq, by rw [← rs.length]; exact q _ _ Ext.refl (.int _)⟩
  case lst ds =>
    cases hg
    obtain ⟨a, vs, rfl, t, rs⟩ := ra.lst
    exact call_len_seq pins s σ H xs us Q I r ⟨a, vs, e, .inl (SqL.of t), by rw [← rs.length]; exact q _ _ Ext.refl (.int _)⟩
  case str z =>
    split at hg
    case isTrue hl =>
      cases hg
      exact call_len_str pins s σ H xs us Q I r ⟨z, by rw [e, ra.str], Nat.le_trans hl big_le, q _ _ Ext.refl (.int _)⟩
    case isFalse => cases hg
  case dct ks ds =>
    cases hg
    obtain ⟨a, kvs, rfl, t, _, rs⟩ := ra.dct
    refine call_lenD pins s σ H xs us Q I r ⟨a, kvs, e, t, ?_⟩
    have hl := rs.length
    rw [List.length_map] at hl
    rw [← hl]
    exact q _ _ Ext.refl (.int _)
def tyD : D → Option String
  | .non => some "NoneType"
  | .bl _ => some "bool"
  | .int _ => some "int"
  | .str _ => some "str"
  | .tup _ => some "tuple"
  | .lst _ => some "list"
  | .dct _ _ => some "dict"
  | .raw _ => none
  | .exn _ _ _ _ => none
  | .frl _ => none
theorem ty_of {K : PySem.W.Frag} {H : Hp} {B : List Addr} {d : D} {x : V} {T : String} (r : RepA K H B d x) (h : tyD d = some T) : TyX K H x (.type T) := by
  cases d <;> simp only [tyD] at h <;> try contradiction
  case non => cases h; rw [r.non]; exact .base .non
  case bl => cases h; rw [r.bl]; exact .base (.bl _)
  case int => cases h; rw [r.int]; exact .base (.int _)
  case str => cases h; rw [r.str]; exact .base (.str _)
  case tup =>
    cases h
    obtain ⟨a, vs, rfl, t, _⟩ := r.tup
    rcases t with ⟨_, t⟩ | ⟨o, its, n, k, c, _⟩
    · exact .base (.tup t)
    · exact .kTuple k c
  case lst =>
    cases h
    obtain ⟨a, vs, rfl, t, _⟩ := r.lst
    exact .base (.lst t)
  case dct =>
    cases h
    obtain ⟨a, vs, rfl, t, _⟩ := r.dct
    exact .base (.dK t)
def isiD (T : String) (d : D) : Option D := (tyD d).bind fun a => (kitB a T).map .bl
def bls : List D → Option (List Bool)
  | [] => some []
  | d :: ds => (toB d).bind fun v => (bls ds).map fun vs => v :: vs
theorem bls_reps {K : PySem.W.Frag} {H : Hp} {B : List Addr} : ∀ {ds : List D} {vs : List V} {bs : List Bool}, bls ds = some bs → Reps K H B ds vs → vs = bs.map V.bl
  | [], vs, bs, h, r => by cases h; cases r; rfl
  | d :: ds, vs, bs, h, r => by
    cases r with
    | cons r1 r2 =>
      simp only [bls] at h
      obtain ⟨b, e1, h⟩ := Option.bind_eq_some_iff.mp h
      obtain ⟨us, e2, h⟩ := Option.map_eq_some_iff.mp h
      cases h
      have e3 := bls_reps e2 r2
      have e4 := toB_some e1
      rw [e4] at r1
      cases r1
      rw [e3]
      rfl
def allD : D → Option D
  | .lst xs => (bls xs).map fun bs => .bl (bs.all id)
  | _ => none
def anyD : D → Option D
  | .lst xs => (bls xs).map fun bs => .bl (bs.any id)
  | _ => none
theorem cd_all (hc : X.calm = true) : CallD X (.builtin "all") allD := by
  intro pins s σ H xs us Q I r ⟨x, B, d, d', e, tr, ra, hg, q⟩
  cases d <;> simp only [allD] at hg <;> try contradiction
  obtain ⟨bs, e1, rfl⟩ := Option.map_eq_some_iff.mp hg
  obtain ⟨a, vs, rfl, t, rs⟩ := ra.lst
  have e2 := bls_reps e1 rs
  subst e2
  exact cr_all hc pins s σ H xs us Q I r ⟨a, bs, e, SqL.of t, q _ _ Ext.refl (.bl _)⟩
theorem cd_any (hc : X.calm = true) : CallD X (.builtin "any") anyD := by
  intro pins s σ H xs us Q I r ⟨x, B, d, d', e, tr, ra, hg, q⟩
  cases d <;> simp only [anyD] at hg <;> try contradiction
  obtain ⟨bs, e1, rfl⟩ := Option.map_eq_some_iff.mp hg
  obtain ⟨a, vs, rfl, t, rs⟩ := ra.lst
  have e2 := bls_reps e1 rs
  subst e2
  exact cr_any hc pins s σ H xs us Q I r ⟨a, bs, e, SqL.of t, q _ _ Ext.refl (.bl _)⟩
def intD : D → Option D
  | .int i => some (.int i)
  | _ => none
theorem cd_int : CallD X (.type "int") intD := by
  intro pins s σ H xs us Q I r ⟨x, B, d, d', e, tr, ra, hg, q⟩
  cases d <;> simp only [intD] at hg <;> try contradiction
  cases hg
  exact call_int1 pins s σ H xs us Q I r (.inl ⟨_, by rw [e, ra.int], q _ _ Ext.refl (.int _)⟩)
def tupleD : D → Option D
  | .tup xs => some (.tup xs)
  | .lst xs => some (.tup xs)
  | _ => none
theorem cd_tuple : CallD X (.type "tuple") tupleD := by
  intro pins s σ H xs us Q I r ⟨x, B, d, d', e, tr, ra, hg, q⟩
  cases d <;> simp only [tupleD] at hg <;> try contradiction
  case tup ds =>
    cases hg
    obtain ⟨a, vs, rfl, t, rs⟩ := ra.tup
    exact call_tuple_of pins s σ H xs us Q I r ⟨a, vs, e, .inr ⟨t.sq, q _ _ Ext.refl (.tup t rs)⟩⟩
  case lst ds =>
    cases hg
    obtain ⟨a, vs, rfl, t, rs⟩ := ra.lst
    exact call_tuple_of pins s σ H xs us Q I r ⟨a, vs, e, .inl ⟨SqL.of t, fun p np => q _ _ (Ext.new np) (.tup (.inl ⟨notin_of tr np, upd_same⟩) (rs.keep (Evo.new np)))⟩⟩
def listD : D → Option D
  | .tup xs => some (.lst xs)
  | .lst xs => some (.lst xs)
  | _ => none
theorem cd_list : CallD X (.type "list") listD := by
  intro pins s σ H xs us Q I r ⟨x, B, d, d', e, tr, ra, hg, q⟩
  cases d <;> simp only [listD] at hg <;> try contradiction
  case tup ds =>
    cases hg
    obtain ⟨a, vs, rfl, t, rs⟩ := ra.tup
    exact call_list_of pins s σ H xs us Q I r ⟨a, vs, e, .inr t.sq, fun p np => q _ _ (Ext.new np) (.lst (notin_of tr np) upd_same (rs.keep (Evo.new np)))⟩
  case lst ds =>
    cases hg
    obtain ⟨a, vs, rfl, t, rs⟩ := ra.lst
    exact call_list_of pins s σ H xs us Q I r ⟨a, vs, e, .inl (SqL.of t), fun p np => q _ _ (Ext.new np) (.lst (notin_of tr np) upd_same (rs.keep (Evo.new np)))⟩
def maxD : D → D → Option D
  | .int i, .int j => some (.int (if j > i then j else i))
  | _, _ => none
theorem cd_max (hc : X.calm = true) : CallD2 X (.builtin "max") maxD := by
  intro pins s σ H xs us Q I r ⟨x, y, B, d, e, d', ex, tr, r1, r2, hg, q⟩
  cases d <;> cases e <;> simp only [maxD] at hg <;> try contradiction
  cases hg
  exact call_max2 hc pins s σ H xs us Q I r ⟨_, _, by rw [ex, r1.int, r2.int], q _ _ Ext.refl (.int _)⟩
end
section
variable {ρ : Type} {I : Wd ρ} {X : Cx} {O : List Nat} {pos : Pos}
theorem call1 {e0 : Expr} {f : Value} {g : D → Option D} {fe : SE ρ} (hc : CallD X f g) (h : ∀ r, CallR X f r → PE X e0 (tCB r (tCons (tB I X.K O fe) tNil))) : Ed I X O e0 (eUn g fe) :=
  PE.weak (h _ hc) fun σ H Q ⟨W, B, H0, A, env, r, d, r', l, ho, hf, q⟩ => by
    unfold eUn at hf
    obtain ⟨⟨d1, r1⟩, e1, hf⟩ := Option.bind_eq_some_iff.mp hf
    obtain ⟨x, e4, hf⟩ := Option.map_eq_some_iff.mp hf
    cases hf
    exact ⟨W, B, H0, A, env, r, d1, r1, l, ho, e1, fun v1 H1 l1 v1e rp1 => ⟨v1, B ++ A.ad, d1, _, rfl, l1.bx, rp1.repA, e4, fun v H' ex rp => q v H' (l1.ext ex) (v1e.trans ex.evo) rp⟩⟩
theorem ed_callB {x : Str} {p : Pos} {e : Expr} {id : String} {g : D → Option D} {fe : SE ρ} (hc : CallD X (.builtin id) g) (he : Eb I X O e fe) (hg : Gl X x) (hm : X.mg x = none) (hv : bootBuiltins x = some (.builtin id)) (hn : x ≠ "__name__" := by decide) (hdb : (x == ("__debug__" : Str)) = false := by decide)
    (hs : starEach [e] X.env = (false, eval e X.env) :: starEach [] X.env := by rfl) : Ed I X O (.Call (.Name x p) [e] [] pos) (eUn g fe) :=
  call1 hc fun r h => pe_callB h hg hm hv (pa_cons he pa_nil hs) hn hdb hs
theorem ed_callTy {x : Str} {p : Pos} {e : Expr} {id : String} {g : D → Option D} {fe : SE ρ} (hc : CallD X (.type id) g) (he : Eb I X O e fe) (hg : Gl X x) (hm : X.mg x = none) (hv : bootBuiltins x = some (.type id)) (hn : x ≠ "__name__" := by decide) (hdb : (x == ("__debug__" : Str)) = false := by decide)
    (hs : starEach [e] X.env = (false, eval e X.env) :: starEach [] X.env := by rfl) : Ed I X O (.Call (.Name x p) [e] [] pos) (eUn g fe) :=
  call1 hc fun r h => pe_callTy h hg hm hv (pa_cons he pa_nil hs) hn hdb hs
theorem ed_callB2 {x : Str} {p : Pos} {e e2 : Expr} {id : String} {g : D → D → Option D} {fe f2 : SE ρ} (hc : CallD2 X (.builtin id) g) (he : Eb I X O e fe) (he2 : Eb I X O e2 f2) (hg : Gl X x) (hm : X.mg x = none) (hv : bootBuiltins x = some (.builtin id)) (hn : x ≠ "__name__" := by decide) (hdb : (x == ("__debug__" : Str)) = false := by decide)
    (hs : starEach [e, e2] X.env = (false, eval e X.env) :: starEach [e2] X.env := by rfl) (hs2 : starEach [e2] X.env = (false, eval e2 X.env) :: starEach [] X.env := by rfl) (hpl : (backTo pos (starEach [e2] X.env)).any (·.1) = false := by rfl) : Ed I X O (.Call (.Name x p) [e, e2] [] pos) (eBin g fe f2) :=
  PE.weak (pe_callB hc hg hm hv (pa_cons he (pa_cons he2 pa_nil hs2) hs) hn hdb hs hpl) fun σ H Q ⟨W, B, H0, A, env, r, d, r', l, ho, hf, q⟩ => by
    unfold eBin at hf
    obtain ⟨⟨d1, r1⟩, e1, hf⟩ := Option.bind_eq_some_iff.mp hf
    obtain ⟨⟨d2, r2⟩, e2, hf⟩ := Option.bind_eq_some_iff.mp hf
    obtain ⟨x, e3, hf⟩ := Option.map_eq_some_iff.mp hf
    cases hf
    refine ⟨W, B, H0, A, env, r, d1, r1, l, ho, e1, fun v1 H1 l1 v1e rp1 => ?_⟩
    refine ⟨W, B, H0, A, env, r1, d2, r2, l1, ho, e2, fun v2 H2 l2 v2e rp2 => ?_⟩
    exact ⟨v1, v2, B ++ A.ad, d1, d2, _, rfl, l2.bx, (rp1.keep l1 v2e).repA, rp2.repA, e3, fun v H' ex rp => q v H' (l2.ext ex) ((v1e.trans v2e).trans ex.evo) rp⟩
/-- isinstance(e, T), T the name of a built-in class -/
theorem ed_isi {x y : Str} {p p2 : Pos} {e : Expr} {T : String} {fe : SE ρ} (he : Eb I X O e fe) (hg : Gl X x) (hm : X.mg x = none) (hv : bootBuiltins x = some (.builtin "isinstance")) (hg2 : Gl X y) (hm2 : X.mg y = none) (hv2 : bootBuiltins y = some (.type T))
    (hn : x ≠ "__name__" := by decide) (hdb : (x == ("__debug__" : Str)) = false := by decide) (hn2 : y ≠ "__name__" := by decide) (hdb2 : (y == ("__debug__" : Str)) = false := by decide)
    (hs : starEach [e, .Name y p2] X.env = (false, eval e X.env) :: starEach [.Name y p2] X.env := by rfl) (hpl : (backTo pos (starEach [.Name y p2] X.env)).any (·.1) = false := by rfl) : Ed I X O (.Call (.Name x p) [e, .Name y p2] [] pos) (eUn (isiD T) fe) :=
  PE.weak (pe_callB call_isi hg hm hv (pa_cons he (pa_cons (pe_bltn (v := .ty T) hg2 hm2 hv2 rfl hn2 hdb2) pa_nil) hs) hn hdb hs hpl) fun σ H Q ⟨W, B, H0, A, env, r, d, r', l, ho, hf, q⟩ => by
    unfold eUn at hf
    obtain ⟨⟨d1, r1⟩, e1, hf⟩ := Option.bind_eq_some_iff.mp hf
    obtain ⟨x, e4, hf⟩ := Option.map_eq_some_iff.mp hf
    cases hf
    unfold isiD at e4
    obtain ⟨a, ea, e4⟩ := Option.bind_eq_some_iff.mp e4
    obtain ⟨b, eb, rfl⟩ := Option.map_eq_some_iff.mp e4
    exact ⟨W, B, H0, A, env, r, d1, r1, l, ho, e1, fun v1 H1 l1 v1e rp1 => ⟨v1, .ty T, .type a, .type T, b, rfl, .ty T, ty_of rp1.repA ea, kit_ty eb, q _ H1 l1 v1e (.bl b)⟩⟩
end

/-! ### calls of defs -/
section
variable {ρ : Type} (I : Wd ρ) (K : PySem.W.Frag)
/-- the promise of a def: it hands back the tree that g tells -/
def spD (n : Nat) (g : List D → ρ → Option (D × ρ)) : Sp := fun vs H Q _ => vs.length = n ∧ ∃ W B r ds d r', I.inv W r H ∧ (∀ b ∈ W, b ∈ B) ∧ (∀ b ∈ B, H b ≠ none) ∧ Reps K H B ds vs ∧ g ds r = some (d, r') ∧
  ∀ v H', I.inv W r' H' → Evo W H H' → Rep K H' B d v → Q v H'
/-- a def of the module keeps such a promise -/
def Fn (P : Program) (w : World) (mg : Str → Option Value) (base : Heap) (k : Nat) (x : Str) (n : Nat) (g : List D → ρ → Option (D × ρ)) : Prop :=
  ∃ (f : Addr) (fd : FuncData) (ps : List Str), FnOk P w K mg base CX0 k f fd ps (spD I K n g) ∧ mg x = some (.ref f) ∧ PySem.W.keepIn K (.ref f) = true ∧ Binds K fd ps []
end
theorem Fn.mono {ρ : Type} {I : Wd ρ} {K : PySem.W.Frag} {P : Program} {w : World} {mg : Str → Option Value} {base : Heap} {j k : Nat} {x : Str} {n : Nat} {g : List D → ρ → Option (D × ρ)} (h : Fn I K P w mg base j x n g) (hj : j ≤ k) : Fn I K P w mg base k x n g := by
  obtain ⟨f, fd, ps, F, h1, h2, h3⟩ := h
  exact ⟨f, fd, ps, F.mono hj, h1, h2, h3⟩
section
variable {ρ : Type} {I : Wd ρ} {X : Cx} {O : List Nat} {pos : Pos}
def eCall (n : Nat) (g : List D → ρ → Option (D × ρ)) (f : SA ρ) : SE ρ := fun env r => (f env r).bind fun p => g p.1 p.2
theorem call_weak {e0 : Expr} {n : Nat} {g : List D → ρ → Option (D × ρ)} {fa : SA ρ} {es : List Expr} {E : XK} (ha : Adl I X O es fa) (hn : es.length = n) (h : PE X e0 (tCall (spD I X.K n g) [] E (tAr I X.K O fa))) : Ed I X O e0 (eCall n g fa) :=
  PE.weak h fun σ H Q ⟨W, B, H0, A, env, r, d, r', l, ho, hf, q⟩ => by
    unfold eCall at hf
    obtain ⟨⟨ds, r1⟩, e1, hf⟩ := Option.bind_eq_some_iff.mp hf
    refine ⟨W, B, H0, A, env, r, ds, r1, l, ho, e1, fun vs H1 l1 v1e rs => ?_⟩
    show spD I X.K n g (vs ++ []) H1 Q E
    rw [List.append_nil]
    refine ⟨?_, W, B ++ A.ad, r1, ds, d, r', l1.wi, fun b hb => List.mem_append_left _ (l1.wb b hb), l1.bx, rs, hf, fun v H' wi ev rp => ?_⟩
    · rw [← rs.length, ha.len _ _ _ _ e1, hn]
    · exact q v H' (l1.step wi ev) (v1e.trans ev) rp
theorem ed_call {k : Nat} {x : Str} {p : Pos} {e : Expr} {es : List Expr} {n : Nat} {g : List D → ρ → Option (D × ρ)} {fa : SA ρ} (F : Fn I X.K X.prog X.w X.mg X.base k x n g) (hr : Room k X.A) (ha : Adl I X O (e :: es) fa) (hn : (e :: es).length = n := by rfl) (hg : Gl X x := by rfl) (hdb : (x == ("__debug__" : Str)) = false := by decide)
    (he : starEach (e :: es) X.env = (false, eval e X.env) :: starEach es X.env := by rfl) (hpl : (backTo pos (starEach es X.env)).any (·.1) = false := by rfl) : Ed I X O (.Call (.Name x p) (e :: es) [] pos) (eCall n g fa) := by
  obtain ⟨f, fd, ps, F, h1, h2, h3⟩ := F
  exact call_weak ha hn (pe_call F hr hg h1 h2 h3 .nil pass0 ha.run hdb he hpl)
theorem ed_call0 {k : Nat} {x : Str} {p : Pos} {g : List D → ρ → Option (D × ρ)} (F : Fn I X.K X.prog X.w X.mg X.base k x 0 g) (hr : Room k X.A) (hg : Gl X x := by rfl) (hdb : (x == ("__debug__" : Str)) = false := by decide) : Ed I X O (.Call (.Name x p) [] [] pos) (eCall 0 g aNil) := by
  obtain ⟨f, fd, ps, F, h1, h2, h3⟩ := F
  exact PE.weak (pe_call0 F hr hg h1 h2 h3 .nil pass0 hdb) fun σ H Q ⟨W, B, H0, A, env, r, d, r', l, ho, hf, q⟩ => by
    refine ⟨rfl, W, B ++ A.ad, r, [], d, r', l.wi, fun b hb => List.mem_append_left _ (l.wb b hb), l.bx, .nil, hf, fun v H' wi ev rp => ?_⟩
    exact q v H' (l.step wi ev) ev rp
end
end DL
end
section
set_option Elab.async false
set_option linter.all false
set_option maxRecDepth 100000
set_option maxHeartbeats 2000000
/-! The data layer, 6: what is walked: lists, tuples, enumerate, zip, range, texts. -/
namespace PySem
open Sem (wp)
open AutoSeq1 (wpAny_loadPart')
theorem meets_enumerate_newT (l : Addr) (items : Array Value) (n : Nat) (dct : Option Addr) (sl : Array (Option Value)) :
    Meets (Builtin.«enumerate.__new__» ⟨[.type "enumerate", .ref l], []⟩) (fun _ R s => s.heap.get? l = some { cls := .type "tuple", dict := dct, data := .seq items n, slots := sl } ∧
      R (.ok (.ret (.ref (s.heap.push { cls := .type "tuple_iterator", data := .fields #[.ref l, .int 0 0] }).objs.size)))
        { s with heap := (s.heap.push { cls := .type "tuple_iterator", data := .fields #[.ref l, .int 0 0] }).push { cls := .type "enumerate", data := .fields #[.none, .bool false, .ref s.heap.objs.size, rawInt 0, .none, .none] } }) :=
  .of_wp fun prog w A R s h => by
    obtain ⟨hp, g, d, tk, os⟩ := s; obtain ⟨hl, h⟩ := h
    have hsub := sub_enumerate
    have hL : Heap.IsTuple (Shared.heap ⟨hp, g, d, tk, os⟩) l items := ⟨_, hl, rfl, n, rfl⟩
    wp_walk using wpAny_loadPart' hl
    refine wpAny_stack_any fun st => wpAny_pure ?_
    split
    · rename_i c _ _ _ _ _
      cases (c == Value.type "enumerate")
      · wp_walk using wpAny_loadPart' hl, wpAny_pyIter_tuple hL
        exact ⟨_, rfl, h⟩
      · wp_walk using wpAny_loadPart' hl, wpAny_pyIter_tuple hL
        exact ⟨_, rfl, h⟩
    · wp_walk using wpAny_loadPart' hl, wpAny_pyIter_tuple hL
      exact ⟨_, rfl, h⟩
section
variable {prog : Program} {w : World} {A : Around} {E : Value → Shared → Prop} {s : Shared}
theorem call_enumerate_tuple {l : Addr} {items : Array Value} {Q : Value → Shared → Prop} (hL : s.heap.IsTuple l items)
    (h : ∀ h', IsEnum h' (s.heap.objs.size + 1) s.heap.objs.size 0 .none → h'.IsTupleIter s.heap.objs.size l 0 → h'.objs.size = s.heap.objs.size + 2 →
      (∀ b o, s.heap.get? b = some o → h'.get? b = some o) → Q (.ref (s.heap.objs.size + 1)) { s with heap := h' }) :
    wpAny (model prog w) A (call (.type "enumerate") [.ref l]) Q E s := by
  obtain ⟨⟨c, dct, dt, sl⟩, hl, hc, n, hd⟩ := hL
  replace hc : c = .type "tuple" := hc
  replace hd : dt = .seq items n := hd
  subst hc hd
  refine callType_new F.called_enumerate (by decide) (F.typeCall_enumerate_1 _) (F.newCall_enumerate_1 _) (fun obj => F.args_object_init_2 obj _) F.entry_enumerate_new
    (meets_enumerate_newT l items n dct sl) ⟨hl, ?_⟩
  have hz : (s.heap.push { cls := .type "tuple_iterator", data := .fields #[.ref l, .int 0 0] }).objs.size = s.heap.objs.size + 1 := Heap.size_push ..
  show _ ∧ _
  rw [hz]
  have he : IsEnum ((s.heap.push { cls := .type "tuple_iterator", data := .fields #[.ref l, .int 0 0] }).push
      { cls := .type "enumerate", data := .fields #[.none, .bool false, .ref s.heap.objs.size, rawInt 0, .none, .none] }) (s.heap.objs.size + 1) s.heap.objs.size 0 .none := by
    have := Heap.get?_push_size (s.heap.push { cls := .type "tuple_iterator", data := .fields #[.ref l, .int 0 0] })
      (o := { cls := .type "enumerate", data := .fields #[.none, .bool false, .ref s.heap.objs.size, rawInt 0, .none, .none] }) rfl
    rw [hz] at this; exact this
  refine ⟨⟨_, he, rfl⟩, h _ he ⟨_, Heap.get?_push_of_some _ (Heap.get?_push_size _ rfl), rfl, rfl⟩ (by rw [Heap.size_push, hz]) fun b o x => Heap.get?_push_of_some _ (Heap.get?_push_of_some _ x)⟩
end
end PySem
namespace DL
open PySem PySem.Spec PyProof.Rows L2
/-! enumerate over a tuple -/
def IteT (K : PySem.W.Frag) (a : Addr) : It :=
  ⟨fun i H => ∃ (xs : List V) (x : V), SqT K H a xs ∧ xs[i]? = some x, fun i H v H' => ∃ T x, v = V.ref T ∧ H T = none ∧ H' = upd H T (.tup [.int (i : Nat), x]) ∧ ∀ xs, SqT K H a xs → xs[i]? = some x, fun i H => ∃ xs : List V, SqT K H a xs ∧ xs.length ≤ i⟩
theorem turn_enumT {P : Program} {w : World} {K : PySem.W.Frag} {elts : List Expr} {kk : Nat} {tpos : Pos} (a e it : Addr) (hai : a ≠ it) (hae : a ≠ e) :
    Turn P w K (.Tuple elts kk tpos) (IteT K a) [e, it] e (fun i h => (∃ old, IsEnum h e it ((i : Nat) : Int) old) ∧ h.IsTupleIter it a i ∧ e ≠ it) where
  mem := by simp
  obj := fun i h st b hb => by
    obtain ⟨⟨old, he⟩, ⟨o, ho, hc, hd⟩, _⟩ := st
    have e' : b = e ∨ b = it := by simpa using hb
    rcases e' with z | z
    · rw [z]; exact ⟨_, he, fun v q => nomatch q⟩
    · rw [z]; exact ⟨o, ho, fun v q => by rw [hd] at q; cases q⟩
  keep := fun i h h' st k => let ⟨⟨old, he⟩, hi, hne⟩ := st; ⟨⟨old, k e (by simp) _ he⟩, hi.at fun o q => k it (by simp) o q, hne⟩
  item := by
    intro X hP hw hK hc i pins s σ H E I hf st hg
    subst hP hw hK
    obtain ⟨⟨old, he⟩, hit, hne⟩ := st
    obtain ⟨xs, x, hq, hx⟩ := hg
    obtain ⟨its, rv, p, hz⟩ := I.tuple hq
    obtain ⟨u, hu, ru⟩ := rv.get hx
    have hil' : i < its.toArray.size := by
      obtain ⟨z, _⟩ := List.getElem?_eq_some_iff.mp hu
      simpa using z
    have hel : e < s.heap.objs.size := Heap.lt_size he
    have hil : it < s.heap.objs.size := by obtain ⟨_, q, _⟩ := hit; exact Heap.lt_size q
    refine wpAny_pyNext_enum_itemD (Draws.tuple (A := X.A.in1) (I.ok.hd hc) it a hai its.toArray) he ⟨hit, IsTup.isTuple p⟩ hil' hne (by simp [hne, Ne.symm hae]) fun x' h' tk hPx ho hst' hT hsz hk => ?_
    have ex : x' = u := by
      have e1 : its.toArray[i]? = some x' := hPx
      have e2 : its.toArray[i]? = some u := by simpa using hu
      rw [e1] at e2
      exact Option.some.inj e2
    subst ex
    refine ⟨_, rfl, wpAny_letOwnedTupleGo_enum (s := { s with heap := h', toks := tk + 1 }) ho fun h'' he' sb => ?_⟩
    have hT2 : h''.get? s.heap.objs.size = some { cls := .type "tuple", data := .seq #[.int i tk, x'] } := (sb.2 _ (Nat.ne_of_gt hel)).trans hT
    have new : ObjOk X.prog X.w (upd H s.heap.objs.size (.tup [.int (i : Nat), x])) h'' s.heap.objs.size (.tup [.int (i : Nat), x]) :=
      ⟨by show 2 ≤ sizeLine; decide, [.int i tk, x'], .cons ⟨_, rfl⟩ (.cons ru .nil), ⟨_, hT2, rfl, _, rfl⟩⟩
    have I1 : Inv X pins σ (upd H s.heap.objs.size (.tup [.int (i : Nat), x])) { s with heap := h'', toks := tk + 1 } :=
      I.turnedNew (ch := [e, it]) (fun b ob hb q => (sb.2 b (fun z => hb (by simp [z]))).trans (hk b ob (fun z => hb (by simp [z])) (fun z => hb (by simp [z])) q)) hf (Nat.le_refl _) new
    refine ⟨.ref s.heap.objs.size, _, I1, rfl, ⟨_, x, rfl, I.hok.fresh (Nat.le_refl _), rfl, fun ys hy => by rw [I.tuple_inj hy hq]; exact hx⟩, ⟨⟨x', ?_⟩, hst'.1.at fun o q => (sb.2 it (Ne.symm hne)).trans q, hne⟩, fun b hb => ?_⟩
    · have e1 : ((i + 1 : Nat) : Int) = (i : Int) + 1 := by omega
      rw [e1]; exact he'
    · have hb' : b < s.heap.objs.size := by
        have e' : b = e ∨ b = it := by simpa using hb
        rcases e' with z | z
        · rw [z]; exact hel
        · rw [z]; exact hil
      rw [upd_ne (Nat.ne_of_lt hb')]
      exact (hf b hb).1
  done := by
    intro X hP hw hK hc i pins s σ H E I hf st hg
    subst hP hw hK
    obtain ⟨⟨old, he⟩, hit, hne⟩ := st
    obtain ⟨xs, hq, hx⟩ := hg
    obtain ⟨its, rv, p, hz⟩ := I.tuple hq
    obtain ⟨f0, f1, f2, f3, f4, f5⟩ := hf it (by simp)
    have hl := rv.length
    have hT : s.TypeIs (.ref e) "enumerate" := ⟨_, he, rfl⟩
    unfold pyNext
    refine wpAny_bind (wpAny_attempt (wpAny_callSpecial?_slot (name := Str.ofString "__next__") hT F.slot_enumerate_next
      (wpAny_call_entry F.slot_enumerate_next hT F.entry_enumerate_next ?_ (F.args_enumerate_next_1 _))))
    show wpAny _ _ (field (.ref e) 2 >>= _) _ _ _
    refine wpAny_bind (wpAny_field he rfl (x := .ref it) rfl ?_)
    refine wpAny_bind (wpAny_nextOf_tuple_end (A := X.A.in1) (I.ok.hd hc) hit (IsTup.isTuple p) (by simp; omega) fun h' x eb hx' => ?_)
    obtain ⟨o, ho, hc'⟩ := hx'
    refine wpAny_bind (wpAny_isInstance (T := "StopIteration") (b := true) ⟨o, ho, hc'⟩ isSubtype_stop ?_)
    exact wpAny_pure ⟨rfl, I.turned (t' := s.toks) (fun b o hb q => eb b o hb q) f0 f1 f3 f4 f5⟩
  self := fun A i s Q E st h => let ⟨⟨_, he⟩, _⟩ := st; wpAny_pyIter_enum he h
def iEnumA (K : PySem.W.Frag) (ta : TA) : TI := fun σ H R => ta σ H fun vs H1 => ∃ a xs, vs = [V.ref a] ∧ ((SqL K H1 a xs ∧ R (Ite K a) H1) ∨ (SqT K H1 a xs ∧ R (IteT K a) H1))
theorem pi_enumA {X : Cx} {e : Expr} {ta : TA} {p pos tpos : Pos} {elts : List Expr} {kk : Nat} (hg : Gl X "enumerate") (hm : X.mg "enumerate" = none) (ha : PA X [e] ta) (hs : starEach [e] X.env = [(false, eval e X.env)] := by rfl) :
    PI X (.Tuple elts kk tpos) (.Call (.Name "enumerate" p) [e] [] pos) (iEnumA X.K ta) := by
  refine ⟨fun pins s σ H R I h => ?_⟩
  refine Call_ (ld_blt I hg hm boot_enumerate (PyProof.Rows.callWith_type1 (thn (ha.run pos pins s σ H _ I h) fun us s1 ⟨vs, H1, I1, r1, q1⟩ => ?_) hs rfl))
  obtain ⟨a, xs, ex, hq⟩ := q1
  subst ex
  cases r1 with
  | cons r rr =>
    cases rr
    cases r
    have fp : ∀ b ∈ [s1.heap.objs.size + 1, s1.heap.objs.size], FpOk X pins H1 b := fun b hb => by
      have e' : b = s1.heap.objs.size + 1 ∨ b = s1.heap.objs.size := by simpa using hb
      have hle : s1.heap.objs.size ≤ b := by
        rcases e' with z | z
        · rw [z]; exact Nat.le_add_right _ _
        · rw [z]; exact Nat.le_refl _
      exact I1.fpOk hle (I1.hok.fresh hle)
    rcases hq with ⟨hq, q⟩ | ⟨hq, q⟩
    · obtain ⟨its, rv, p', hz⟩ := I1.list hq
      refine call_enumerate_list p'.isList fun h' he hit hsz hk => wpAny_pyIter_enum he ?_
      have I2 : Inv X pins σ H1 { s1 with heap := h' } := I1.kept (t' := s1.toks) hk
      exact ⟨s1.heap.objs.size + 1, [s1.heap.objs.size + 1, s1.heap.objs.size], _, _, H1, rfl, I2, turn_enum a (s1.heap.objs.size + 1) s1.heap.objs.size, ⟨⟨.none, he⟩, hit, Nat.succ_ne_self _⟩, fp, q⟩
    · obtain ⟨its, rv, p', hz⟩ := I1.tuple hq
      have hlt : a < s1.heap.objs.size := by
        obtain ⟨o, ho, _⟩ := p'
        exact Heap.lt_size ho
      refine call_enumerate_tuple (IsTup.isTuple p') fun h' he hit hsz hk => wpAny_pyIter_enum he ?_
      have I2 : Inv X pins σ H1 { s1 with heap := h' } := I1.kept (t' := s1.toks) hk
      exact ⟨s1.heap.objs.size + 1, [s1.heap.objs.size + 1, s1.heap.objs.size], _, _, H1, rfl, I2, turn_enumT a (s1.heap.objs.size + 1) s1.heap.objs.size (Nat.ne_of_lt hlt) (Nat.ne_of_lt (Nat.lt_succ_of_lt hlt)), ⟨⟨.none, he⟩, hit, Nat.succ_ne_self _⟩, fp, q⟩
/-! a list or a tuple -/
def iSeq (K : PySem.W.Frag) (tl : TE) : TI := fun σ H R => tl σ H fun x H1 => ∃ a, x = V.ref a ∧ (((∃ xs, SqL K H1 a xs) ∧ R (Itl K a) H1) ∨ ((∃ xs, SqT K H1 a xs) ∧ R (Itt K a) H1))
theorem pi_seq {X : Cx} {tg l : Expr} {tl : TE} (hl : PE X l tl) : PI X tg l (iSeq X.K tl) := by
  refine ⟨fun pins s σ H R I h => ?_⟩
  refine thn (hl.run pins s σ H _ I h) fun v s1 ⟨x, H1, I1, r1, q1⟩ => ?_
  obtain ⟨a, e, hq⟩ := q1
  subst e
  cases r1
  have fp : ∀ b ∈ [s1.heap.objs.size], FpOk X pins H1 b := fun b hb => by
    have e : b = s1.heap.objs.size := by simpa using hb
    subst e
    exact I1.fpOk (Nat.le_refl _) (I1.hok.fresh (Nat.le_refl _))
  rcases hq with ⟨⟨xs, hq⟩, q⟩ | ⟨⟨xs, hq⟩, q⟩
  · obtain ⟨its, rv, p, hz⟩ := I1.list hq
    refine wpAny_pyIter_list p.isList ?_
    exact ⟨s1.heap.objs.size, [s1.heap.objs.size], _, _, H1, rfl, I1.kept (t' := s1.toks) fun b o e => Heap.get?_push_of_some _ e, turn_list a _, ⟨_, Heap.get?_push_size _ rfl, rfl, rfl⟩, fp, q⟩
  · obtain ⟨its, rv, p, hz⟩ := I1.tuple hq
    refine wpAny_pyIter_tuple (show s1.heap.IsTuple a its.toArray from p) ?_
    exact ⟨s1.heap.objs.size, [s1.heap.objs.size], _, _, H1, rfl, I1.kept (t' := s1.toks) fun b o e => Heap.get?_push_of_some _ e, turn_tuple a _, ⟨_, Heap.get?_push_size _ rfl, rfl, rfl⟩, fp, q⟩

/-! ### what an iterator gives, as trees -/
structure Yl (K : PySem.W.Frag) (J : It) (xs : List D) (S : List Addr → Hp → Prop) : Prop where
  go : ∀ B H i, S B H → i < xs.length → J.go i H
  stop : ∀ B H i, S B H → xs.length ≤ i → J.stop i H
  yld : ∀ B H i x H', S B H → (∀ b ∈ B, H b ≠ none) → i < xs.length → J.yld i H x H' → ∃ d, xs[i]? = some d ∧ Ext H H' ∧ Rep K H' B d x
  keep : ∀ B H B' H', S B H → Evo B H H' → (∀ b ∈ B', b ∈ B ∨ H b = none) → S B' H'
section
variable {K : PySem.W.Frag} {a b : Addr} {xs ys : List D}
def SL (K : PySem.W.Frag) (a : Addr) (xs : List D) : List Addr → Hp → Prop := fun B H => ∃ vs, a ∉ B ∧ H a = some (.lst vs) ∧ Reps K H B xs vs
def STu (K : PySem.W.Frag) (a : Addr) (xs : List D) : List Addr → Hp → Prop := fun B H => ∃ vs, TupA K H B a vs ∧ Reps K H B xs vs
theorem SL.keep {B B' : List Addr} {H H' : Hp} (s : SL K a xs B H) (e : Evo B H H') (hb : ∀ b ∈ B', b ∈ B ∨ H b = none) : SL K a xs B' H' := by
  obtain ⟨vs, nb, h, rs⟩ := s
  refine ⟨vs, fun z => ?_, e.at_ nb h, Reps.evo e hb _ _ rs⟩
  rcases hb _ z with z | z
  · exact nb z
  · rw [h] at z; cases z
theorem STu.keep {B B' : List Addr} {H H' : Hp} (s : STu K a xs B H) (e : Evo B H H') (hb : ∀ b ∈ B', b ∈ B ∨ H b = none) : STu K a xs B' H' := by
  obtain ⟨vs, t, rs⟩ := s
  exact ⟨vs, t.evo e hb, Reps.evo e hb _ _ rs⟩
theorem reps_lt {H : Hp} {B : List Addr} {vs : List V} {i : Nat} (rs : Reps K H B xs vs) (h : i < xs.length) : ∃ x d, vs[i]? = some x ∧ xs[i]? = some d ∧ Rep K H B d x := by
  have h2 : i < vs.length := by rw [← rs.length]; exact h
  obtain ⟨d, e, r⟩ := rs.get (List.getElem?_eq_getElem h2)
  exact ⟨_, d, List.getElem?_eq_getElem h2, e, r⟩
theorem yl_list : Yl K (Itl K a) xs (SL K a xs) where
  go := fun B H i ⟨vs, nb, h, rs⟩ hi => by
    obtain ⟨x, d, e1, _⟩ := reps_lt rs hi
    exact ⟨vs, x, SqL.of h, e1⟩
  stop := fun B H i ⟨vs, nb, h, rs⟩ hi => ⟨vs, SqL.of h, by rw [← rs.length]; exact hi⟩
  yld := fun B H i x H' ⟨vs, nb, h, rs⟩ tr hi ⟨e, hx⟩ => by
    subst e
    obtain ⟨x', d, e1, e2, r⟩ := reps_lt rs hi
    rw [hx vs (SqL.of h)] at e1
    cases e1
    exact ⟨d, e2, Ext.refl, r⟩
  keep := fun B H B' H' s e hb => SL.keep s e hb
theorem yl_tup : Yl K (Itt K a) xs (STu K a xs) where
  go := fun B H i ⟨vs, t, rs⟩ hi => by
    obtain ⟨x, d, e1, _⟩ := reps_lt rs hi
    exact ⟨vs, x, t.sq, e1⟩
  stop := fun B H i ⟨vs, t, rs⟩ hi => ⟨vs, t.sq, by rw [← rs.length]; exact hi⟩
  yld := fun B H i x H' ⟨vs, t, rs⟩ tr hi ⟨e, hx⟩ => by
    subst e
    obtain ⟨x', d, e1, e2, r⟩ := reps_lt rs hi
    rw [hx vs t.sq] at e1
    cases e1
    exact ⟨d, e2, Ext.refl, r⟩
  keep := fun B H B' H' s e hb => STu.keep s e hb
def enumFrom : Nat → List D → List D
  | _, [] => []
  | n, x :: xs => .tup [.int (n : Int), x] :: enumFrom (n + 1) xs
theorem enumFrom_length : ∀ (n : Nat) (xs : List D), (enumFrom n xs).length = xs.length
  | _, [] => rfl
  | n, x :: xs => by rw [enumFrom, List.length_cons, List.length_cons, enumFrom_length]
theorem enumFrom_get : ∀ (n i : Nat) (xs : List D) (d : D), xs[i]? = some d → (enumFrom n xs)[i]? = some (.tup [.int ((n + i : Nat) : Int), d])
  | _, _, [], _, h => by simp at h
  | n, 0, x :: xs, d, h => by
    simp at h
    subst h
    simp [enumFrom]
  | n, i + 1, x :: xs, d, h => by
    rw [enumFrom, List.getElem?_cons_succ]
    rw [List.getElem?_cons_succ] at h
    have := enumFrom_get (n + 1) i xs d h
    rw [show n + 1 + i = n + (i + 1) by omega] at this
    exact this
theorem yl_enumL : Yl K (Ite K a) (enumFrom 0 xs) (SL K a xs) where
  go := fun B H i ⟨vs, nb, h, rs⟩ hi => by
    rw [enumFrom_length] at hi
    obtain ⟨x, d, e1, _⟩ := reps_lt rs hi
    exact ⟨vs, x, SqL.of h, e1⟩
  stop := fun B H i ⟨vs, nb, h, rs⟩ hi => ⟨vs, SqL.of h, by rw [← rs.length]; rw [enumFrom_length] at hi; exact hi⟩
  yld := fun B H i x H' ⟨vs, nb, h, rs⟩ tr hi ⟨T, y, e, nT, e2, hx⟩ => by
    rw [enumFrom_length] at hi
    subst e e2
    obtain ⟨x', d, e1, e2, r⟩ := reps_lt rs hi
    rw [hx vs (SqL.of h)] at e1
    cases e1
    refine ⟨_, enumFrom_get 0 i xs d e2, Ext.new nT, .tup (.inl ⟨fun z => tr _ z nT, upd_same⟩) (.cons ?_ (.cons (r.keep (Evo.new nT)) .nil))⟩
    rw [Nat.zero_add]
    exact .int _
  keep := fun B H B' H' s e hb => SL.keep s e hb
theorem yl_enumT : Yl K (IteT K a) (enumFrom 0 xs) (STu K a xs) where
  go := fun B H i ⟨vs, t, rs⟩ hi => by
    rw [enumFrom_length] at hi
    obtain ⟨x, d, e1, _⟩ := reps_lt rs hi
    exact ⟨vs, x, t.sq, e1⟩
  stop := fun B H i ⟨vs, t, rs⟩ hi => ⟨vs, t.sq, by rw [← rs.length]; rw [enumFrom_length] at hi; exact hi⟩
  yld := fun B H i x H' ⟨vs, t, rs⟩ tr hi ⟨T, y, e, nT, e2, hx⟩ => by
    rw [enumFrom_length] at hi
    subst e e2
    obtain ⟨x', d, e1, e2, r⟩ := reps_lt rs hi
    rw [hx vs t.sq] at e1
    cases e1
    refine ⟨_, enumFrom_get 0 i xs d e2, Ext.new nT, .tup (.inl ⟨fun z => tr _ z nT, upd_same⟩) (.cons ?_ (.cons (r.keep (Evo.new nT)) .nil))⟩
    rw [Nat.zero_add]
    exact .int _
  keep := fun B H B' H' s e hb => STu.keep s e hb
def zipD : List D → List D → List D
  | x :: xs, y :: ys => .tup [x, y] :: zipD xs ys
  | _, _ => []
theorem zipD_length : ∀ (xs ys : List D), (zipD xs ys).length = min xs.length ys.length
  | [], ys => by simp [zipD]
  | x :: xs, [] => by simp [zipD]
  | x :: xs, y :: ys => by rw [zipD, List.length_cons, List.length_cons, List.length_cons, zipD_length]; omega
theorem zipD_get : ∀ (i : Nat) (xs ys : List D) (d e : D), xs[i]? = some d → ys[i]? = some e → (zipD xs ys)[i]? = some (.tup [d, e])
  | _, [], _, _, _, h, _ => by simp at h
  | _, _ :: _, [], _, _, _, h => by simp at h
  | 0, x :: xs, y :: ys, d, e, h, h2 => by
    simp at h h2
    subst h h2
    simp [zipD]
  | i + 1, x :: xs, y :: ys, d, e, h, h2 => by
    rw [zipD, List.getElem?_cons_succ]
    exact zipD_get i xs ys d e (by simpa using h) (by simpa using h2)
theorem yl_zipL : Yl K (Itz K a b) (zipD xs ys) (fun B H => SL K a xs B H ∧ SL K b ys B H) where
  go := fun B H i ⟨⟨vs, nb, h, rs⟩, ⟨ws, nb2, h2, rs2⟩⟩ hi => by
    rw [zipD_length] at hi
    obtain ⟨x, d, e1, _⟩ := reps_lt rs (show i < xs.length by omega)
    obtain ⟨x2, d2, e2, _⟩ := reps_lt rs2 (show i < ys.length by omega)
    exact ⟨vs, ws, x, x2, SqL.of h, SqL.of h2, e1, e2⟩
  stop := fun B H i ⟨⟨vs, nb, h, rs⟩, ⟨ws, nb2, h2, rs2⟩⟩ hi => ⟨vs, ws, SqL.of h, SqL.of h2, by
    rw [zipD_length] at hi
    rw [← rs.length, ← rs2.length]
    omega⟩
  yld := fun B H i x H' ⟨⟨vs, nb, h, rs⟩, ⟨ws, nb2, h2, rs2⟩⟩ tr hi ⟨T, y, z, e, nT, e2, hx, hy⟩ => by
    rw [zipD_length] at hi
    subst e e2
    obtain ⟨x', d, e1, e2, r⟩ := reps_lt rs (show i < xs.length by omega)
    obtain ⟨y', d', e3, e4, r'⟩ := reps_lt rs2 (show i < ys.length by omega)
    rw [hx vs (SqL.of h)] at e1
    rw [hy ws (SqL.of h2)] at e3
    cases e1; cases e3
    exact ⟨_, zipD_get i xs ys d d' e2 e4, Ext.new nT, .tup (.inl ⟨fun z => tr _ z nT, upd_same⟩) (.cons (r.keep (Evo.new nT)) (.cons (r'.keep (Evo.new nT)) .nil))⟩
  keep := fun B H B' H' s e hb => ⟨SL.keep s.1 e hb, SL.keep s.2 e hb⟩
theorem yl_zipT : Yl K (RZ.ItzT K a b) (zipD xs ys) (fun B H => STu K a xs B H ∧ STu K b ys B H) where
  go := fun B H i ⟨⟨vs, t, rs⟩, ⟨ws, t2, rs2⟩⟩ hi => by
    rw [zipD_length] at hi
    obtain ⟨x, d, e1, _⟩ := reps_lt rs (show i < xs.length by omega)
    obtain ⟨x2, d2, e2, _⟩ := reps_lt rs2 (show i < ys.length by omega)
    exact ⟨vs, ws, x, x2, t.sq, t2.sq, e1, e2⟩
  stop := fun B H i ⟨⟨vs, t, rs⟩, ⟨ws, t2, rs2⟩⟩ hi => ⟨vs, ws, t.sq, t2.sq, by
    rw [zipD_length] at hi
    rw [← rs.length, ← rs2.length]
    omega⟩
  yld := fun B H i x H' ⟨⟨vs, t, rs⟩, ⟨ws, t2, rs2⟩⟩ tr hi ⟨T, y, z, e, nT, e2, hx, hy⟩ => by
    rw [zipD_length] at hi
    subst e e2
    obtain ⟨x', d, e1, e2, r⟩ := reps_lt rs (show i < xs.length by omega)
    obtain ⟨y', d', e3, e4, r'⟩ := reps_lt rs2 (show i < ys.length by omega)
    rw [hx vs t.sq] at e1
    rw [hy ws t2.sq] at e3
    cases e1; cases e3
    exact ⟨_, zipD_get i xs ys d d' e2 e4, Ext.new nT, .tup (.inl ⟨fun z => tr _ z nT, upd_same⟩) (.cons (r.keep (Evo.new nT)) (.cons (r'.keep (Evo.new nT)) .nil))⟩
  keep := fun B H B' H' s e hb => ⟨STu.keep s.1 e hb, STu.keep s.2 e hb⟩
/-- lo, lo + c, .. so many -/
def rangeD (lo c : Int) (n : Nat) : List D := (List.range n).map fun (i : Nat) => .int (lo + (i : Int) * c)
theorem rangeD_length (lo c : Int) (n : Nat) : (rangeD lo c n).length = n := by simp [rangeD]
theorem rangeD_get {lo c : Int} {n i : Nat} (h : i < n) : (rangeD lo c n)[i]? = some (.int (lo + (i : Int) * c)) := by
  simp [rangeD, List.getElem?_map, List.getElem?_range h]
theorem yl_range {lo : Int} {n : Nat} : Yl K (Itr lo n) (rangeD lo 1 n) (fun _ _ => True) where
  go := fun B H i _ hi => by rw [rangeD_length] at hi; exact hi
  stop := fun B H i _ hi => by rw [rangeD_length] at hi; exact hi
  yld := fun B H i x H' _ tr hi ⟨e, hx⟩ => by
    rw [rangeD_length] at hi
    subst e hx
    refine ⟨_, rangeD_get hi, Ext.refl, ?_⟩
    rw [Int.mul_one]
    exact .int _
  keep := fun _ _ _ _ _ _ _ => trivial
theorem yl_rangeC {lo c : Int} {n : Nat} : Yl K (Itc lo c n) (rangeD lo c n) (fun _ _ => True) where
  go := fun B H i _ hi => by rw [rangeD_length] at hi; exact hi
  stop := fun B H i _ hi => by rw [rangeD_length] at hi; exact hi
  yld := fun B H i x H' _ tr hi ⟨e, hx⟩ => by
    rw [rangeD_length] at hi
    subst e hx
    exact ⟨_, rangeD_get hi, Ext.refl, .int _⟩
  keep := fun _ _ _ _ _ _ _ => trivial
def signsD (x : Str) : List D := x.cps.toList.map fun c => .str ⟨#[c]⟩
theorem yl_str {x : Str} : Yl K (Its x) (signsD x) (fun _ _ => True) where
  go := fun B H i _ hi => by
    have e : (signsD x).length = x.cps.size := by simp [signsD]
    rw [e] at hi; exact hi
  stop := fun B H i _ hi => by
    have e : (signsD x).length = x.cps.size := by simp [signsD]
    rw [e] at hi; exact hi
  yld := fun B H i v H' _ tr hi ⟨e, c, hc, hx⟩ => by
    subst e hx
    refine ⟨.str ⟨#[c]⟩, ?_, Ext.refl, .str _⟩
    have h2 : x.cps.toList[i]? = some c := by simpa using hc
    simp [signsD, List.getElem?_map, h2]
  keep := fun _ _ _ _ _ _ _ => trivial
end
end DL
end
section
set_option Elab.async false
set_option linter.all false
set_option maxRecDepth 100000
set_option maxHeartbeats 2000000
/-! The data layer, 7: targets, statements. -/
namespace DL
open PySem PySem.Spec PyProof.Rows L2
section
variable {ρ : Type} {I : Wd ρ} {K : PySem.W.Frag} {W B : List Addr} {H0 : Hp} {A A' A'' : Own} {env : Env} {r r' : ρ} {σ : L2.St} {H H' H1 H2 : Hp}
theorem ad_sub (h : ∀ p ∈ A', p ∈ A) : ∀ b ∈ A'.ad, b ∈ A.ad := fun b hb => by
  obtain ⟨p, hp, rfl⟩ := List.mem_map.mp hb
  exact List.mem_map.mpr ⟨p, h p hp, rfl⟩
theorem bx_sub (h : ∀ p ∈ A', p ∈ A) : ∀ b ∈ B ++ A'.ad, b ∈ B ++ A.ad := fun b hb => by
  rcases List.mem_append.mp hb with z | z
  · exact List.mem_append_left _ z
  · exact List.mem_append_right _ (ad_sub h b z)
theorem Fr.of (e : Evo W H H') (h : ∀ p ∈ A', p ∈ A) : Fr W A A' H H' :=
  ⟨e.mono fun b z => List.mem_append_left _ z, fun p hp => .inl (List.mem_map.mpr ⟨p, h p hp, rfl⟩)⟩
theorem Fr.trans (f : Fr W A A' H H1) (g : Fr W A' A'' H1 H2) (hw : ∀ b ∈ W, H1 b ≠ none) : Fr W A A'' H H2 := by
  refine ⟨fun b nb t => ?_, fun p hp => ?_⟩
  · have e1 := f.1 b nb t
    have nb2 : b ∉ W ++ A'.ad := fun z => by
      rcases List.mem_append.mp z with z | z
      · exact nb (List.mem_append_left _ z)
      · obtain ⟨p, hp, rfl⟩ := List.mem_map.mp z
        rcases f.2 p hp with q | q
        · exact nb (List.mem_append_right _ q)
        · exact t q
    rw [g.1 b nb2 (by rw [e1]; exact t), e1]
  · rcases g.2 p hp with q | q
    · obtain ⟨p', hp', e⟩ := List.mem_map.mp q
      rw [← e]
      exact f.2 p' hp'
    · by_cases t : H p.2 = none
      · exact .inr t
      · by_cases nb : p.2 ∈ W ++ A.ad
        · rcases List.mem_append.mp nb with z | z
          · exact absurd q (hw _ z)
          · exact .inl z
        · rw [f.1 _ nb t] at q
          exact absurd q t
theorem Fr.bx (l : Lc I K W B H0 A env r σ H) (f : Fr W A A' H H') : Evo (B ++ A.ad) H H' ∧ ∀ b ∈ B ++ A'.ad, b ∈ B ++ A.ad ∨ H b = none := by
  refine ⟨f.1.mono fun b z => ?_, fun b z => ?_⟩
  · rcases List.mem_append.mp z with z | z
    · exact List.mem_append_left _ (l.wb b z)
    · exact List.mem_append_right _ z
  · rcases List.mem_append.mp z with z | z
    · exact .inl (List.mem_append_left _ z)
    · obtain ⟨p, hp, rfl⟩ := List.mem_map.mp z
      rcases f.2 p hp with q | q
      · exact .inl (List.mem_append_right _ q)
      · exact .inr q
theorem Lc.fr (l : Lc I K W B H0 A env r σ H) (e : Evo W H H') (f : Fr W A A' H' H1) (l1 : Lc I K W B H0 A env r' σ H') : Fr W A A' H H1 :=
  (Fr.of e fun p hp => hp).trans f fun b hb => I.at_ l1.wi b hb

/-! freezing; storing -/
theorem Lc.frz (l : Lc I K W B H0 A env r σ H) (p : Nat × Addr → Bool) : Lc I K W B H0 (A.filter p) env r σ H := by
  have sub : ∀ q ∈ A.filter p, q ∈ A := fun q hq => (List.mem_filter.mp hq).1
  refine ⟨l.wi, l.wb, l.wt, l.bt, l.evo, fun i d h1 h2 => ?_, fun q hq => ?_, fun q hq => l.fresh q (sub q hq), fun q hq => l.nb q (sub q hq), l.nd.filter _, l.len⟩
  · by_cases hn : i ∈ A.map (·.1)
    · obtain ⟨q, hq, rfl⟩ := List.mem_map.mp hn
      obtain ⟨xs, vs, e1, e2, e3, e4⟩ := l.owns q hq
      rw [e1] at h1
      cases h1
      refine ⟨_, e2, .lst (fun z => ?_) e3 (e4.less (bx_sub sub))⟩
      rcases List.mem_append.mp z with z | z
      · exact l.nb q hq z
      · obtain ⟨q2, hq2, e⟩ := List.mem_map.mp z
        have hne : q2 ≠ q := fun e => h2 (List.mem_map.mpr ⟨q2, hq2, by rw [e]⟩)
        have := l.nd
        rcases List.pairwise_iff_getElem.mp this with hp
        obtain ⟨i1, hi1, e1'⟩ := List.getElem_of_mem (sub q2 hq2)
        obtain ⟨i2, hi2, e2'⟩ := List.getElem_of_mem hq
        rcases Nat.lt_trichotomy i1 i2 with h | h | h
        · have z := (hp i1 i2 hi1 hi2 h).2
          rw [e1', e2'] at z
          exact z e
        · subst h
          exact hne (e1'.symm.trans e2')
        · have z := (hp i2 i1 hi2 hi1 h).2
          rw [e1', e2'] at z
          exact z e.symm
    · obtain ⟨v, e1, e2⟩ := l.vals i d h1 hn
      exact ⟨v, e1, e2.less (bx_sub sub)⟩
  · obtain ⟨xs, vs, e1, e2, e3, e4⟩ := l.owns q (sub q hq)
    exact ⟨xs, vs, e1, e2, e3, e4.less (bx_sub sub)⟩
theorem map_filter_ne (A : Own) (i : Nat) : (A.filter fun p => p.1 != i).map (·.1) = (A.map (·.1)).filter (· != i) := by
  induction A with
  | nil => rfl
  | cons p A ih =>
    rw [List.filter_cons, List.map_cons, List.filter_cons]
    split <;> simp_all
theorem Lc.set (l : Lc I K W B H0 A env r σ H) {i : Nat} {d : D} {v : V} (h : Rep K H (B ++ A.ad) d v) : Lc I K W B H0 (A.filter fun p => p.1 != i) (env.set i (some d)) r (σ.set i (some v)) H := by
  have l2 := l.frz fun p => p.1 != i
  have sub : ∀ q ∈ A.filter (fun p => p.1 != i), q ∈ A := fun q hq => (List.mem_filter.mp hq).1
  have ne : ∀ q ∈ A.filter (fun p => p.1 != i), i ≠ q.1 := fun q hq => (bne_iff_ne.mp (List.mem_filter.mp hq).2).symm
  refine ⟨l2.wi, l2.wb, l2.wt, l2.bt, l2.evo, fun j d2 h1 h2 => ?_, fun q hq => ?_, l2.fresh, l2.nb, l2.nd, by rw [List.length_set, List.length_set]; exact l.len⟩
  · by_cases hj : i = j
    · subst hj
      have hl : i < env.length := by
        by_cases z : i < env.length
        · exact z
        · rw [List.getElem?_eq_none (by rw [List.length_set]; omega)] at h1
          cases h1
      rw [List.getElem?_set_self hl] at h1
      cases h1
      exact ⟨v, List.getElem?_set_self (by rw [← l.len]; exact hl), h.less (bx_sub sub)⟩
    · rw [List.getElem?_set_ne hj] at h1
      obtain ⟨u, e1, e2⟩ := l2.vals j d2 h1 h2
      exact ⟨u, by rw [List.getElem?_set_ne hj]; exact e1, e2⟩
  · obtain ⟨xs, vs, e1, e2, e3, e4⟩ := l2.owns q hq
    exact ⟨xs, vs, by rw [List.getElem?_set_ne (ne q hq)]; exact e1, by rw [List.getElem?_set_ne (ne q hq)]; exact e2, e3, e4⟩
/-- a new list, owned by the slot i -/
theorem Lc.own (l : Lc I K W B H0 A env r σ H) (e : Evo W H H') (wi : I.inv W r' H') {i : Nat} {a : Addr} {xs : List D} {vs : List V} (hi : i < env.length) (na : H a = none) (ha : H' a = some (.lst vs)) (rs : Reps K H' (a :: (B ++ A.ad)) xs vs) :
    Lc I K W B H0 ((i, a) :: A.filter fun p => p.1 != i) (env.set i (some (.lst xs))) r' (σ.set i (some (V.ref a))) H' := by
  have l' := l.step wi e
  have sub : ∀ q ∈ A.filter (fun p => p.1 != i), q ∈ A := fun q hq => (List.mem_filter.mp hq).1
  have ne : ∀ q ∈ A.filter (fun p => p.1 != i), i ≠ q.1 := fun q hq => (bne_iff_ne.mp (List.mem_filter.mp hq).2).symm
  have subx : ∀ b ∈ B ++ Own.ad ((i, a) :: A.filter fun p => p.1 != i), b ∈ a :: (B ++ A.ad) := fun b hb => by
    rcases List.mem_append.mp hb with z | z
    · exact List.mem_cons_of_mem _ (List.mem_append_left _ z)
    · rcases List.mem_cons.mp z with z | z
      · rw [z]; exact List.mem_cons_self ..
      · exact List.mem_cons_of_mem _ (List.mem_append_right _ (ad_sub sub b z))
  have nb : a ∉ B ++ A.ad := l.notin na
  have nbB : a ∉ B := fun z => nb (List.mem_append_left _ z)
  have nbA : a ∉ A.ad := fun z => nb (List.mem_append_right _ z)
  have fr : H0 a = none := by
    cases z : H0 a with
    | none => rfl
    | some o =>
      by_cases hw : a ∈ W
      · exact absurd na (I.at_ l.wi a hw)
      · rw [l.evo.at_ hw z] at na; cases na
  have s' : ∀ b ∈ B ++ Own.ad ((i, a) :: A.filter fun p => p.1 != i), b ∈ B ++ A.ad ∨ H b = none := fun b hb => (List.mem_cons.mp (subx b hb)).elim (fun z => .inr (by rw [z]; exact na)) .inl
  refine ⟨wi, l.wb, l.wt, l'.bt, l'.evo, fun j d2 h1 h2 => ?_, fun q hq => ?_, fun q hq => ?_, fun q hq => ?_, ?_, by rw [List.length_set, List.length_set]; exact l.len⟩
  · have hj : i ≠ j := fun e => h2 (by rw [e]; simp)
    rw [List.getElem?_set_ne hj] at h1
    have h3 : j ∉ (A.filter fun p => p.1 != i).map (·.1) := fun z => h2 (by rw [List.map_cons]; exact List.mem_cons_of_mem _ z)
    have h4 : j ∉ A.map (·.1) := fun z => by
      obtain ⟨q, hq, rfl⟩ := List.mem_map.mp z
      exact h3 (List.mem_map.mpr ⟨q, List.mem_filter.mpr ⟨hq, bne_iff_ne.mpr (Ne.symm hj)⟩, rfl⟩)
    obtain ⟨u, e1, e2⟩ := l.vals j d2 h1 h4
    exact ⟨u, by rw [List.getElem?_set_ne hj]; exact e1, Rep.evo (l.ev e) s' _ _ e2⟩
  · rcases List.mem_cons.mp hq with z | z
    · subst z
      exact ⟨xs, vs, List.getElem?_set_self hi, List.getElem?_set_self (by rw [← l.len]; exact hi), ha, rs.less subx⟩
    · obtain ⟨ys, ws, e1, e2, e3, e4⟩ := l.owns q (sub q z)
      exact ⟨ys, ws, by rw [List.getElem?_set_ne (ne q z)]; exact e1, by rw [List.getElem?_set_ne (ne q z)]; exact e2, e.at_ (l.now (sub q z)) e3, Reps.evo (l.ev e) s' _ _ e4⟩
  · rcases List.mem_cons.mp hq with z | z
    · subst z; exact fr
    · exact l.fresh q (sub q z)
  · rcases List.mem_cons.mp hq with z | z
    · subst z; exact nbB
    · exact l.nb q (sub q z)
  · refine List.pairwise_cons.mpr ⟨fun q hq => ⟨ne q hq, fun e => ?_⟩, l.nd.filter _⟩
    exact nbA (List.mem_map.mpr ⟨q, sub q hq, e.symm⟩)
/-- an owned list, written -/
theorem Lc.write (l : Lc I K W B H0 A env r σ H) {i : Nat} {a : Addr} {xs ys : List D} {ws : List V} (hp : (i, a) ∈ A) (he : env[i]? = some (some (.lst xs))) (rs : Reps K H (B ++ A.ad) ys ws) :
    Lc I K W B H0 A (env.set i (some (.lst ys))) r σ (upd H a (.lst ws)) := by
  have ha : a ∈ B ++ A.ad := List.mem_append_right _ (List.mem_map.mpr ⟨_, hp, rfl⟩)
  have ev : Evo (B ++ A.ad) H (upd H a (.lst ws)) := Evo.write ha
  have nw : a ∉ W := l.now hp
  have key : ∀ q ∈ A, q.1 = i → q.2 = a := fun q hq e => by
    rcases List.pairwise_iff_getElem.mp l.nd with hpw
    obtain ⟨i1, hi1, e1⟩ := List.getElem_of_mem hq
    obtain ⟨i2, hi2, e2⟩ := List.getElem_of_mem hp
    rcases Nat.lt_trichotomy i1 i2 with h | h | h
    · have z := (hpw i1 i2 hi1 hi2 h).1
      rw [e1, e2] at z
      exact absurd e z
    · subst h
      rw [e1] at e2
      rw [e2]
    · have z := (hpw i2 i1 hi2 hi1 h).1
      rw [e1, e2] at z
      exact absurd e.symm z
  have key2 : ∀ q ∈ A, q.1 ≠ i → q.2 ≠ a := fun q hq ne e => by
    rcases List.pairwise_iff_getElem.mp l.nd with hpw
    obtain ⟨i1, hi1, e1⟩ := List.getElem_of_mem hq
    obtain ⟨i2, hi2, e2⟩ := List.getElem_of_mem hp
    rcases Nat.lt_trichotomy i1 i2 with h | h | h
    · have z := (hpw i1 i2 hi1 hi2 h).2
      rw [e1, e2] at z
      exact z e
    · subst h
      rw [e1] at e2
      rw [e2] at ne
      exact ne rfl
    · have z := (hpw i2 i1 hi2 hi1 h).2
      rw [e1, e2] at z
      exact z e.symm
  have hi : i < env.length := by
    by_cases z : i < env.length
    · exact z
    · rw [List.getElem?_eq_none (by omega)] at he; cases he
  refine ⟨I.keep l.wi fun b hb => upd_ne fun z => nw (by rw [← z]; exact hb), l.wb, l.wt, fun b hb => ?_, fun b nb t => ?_, fun j d h1 h2 => ?_, fun q hq => ?_, l.fresh, l.nb, l.nd, by rw [List.length_set]; exact l.len⟩
  · unfold upd; split
    · simp
    · exact l.bt b hb
  · rw [upd_ne (fun z => t (by rw [z]; exact l.fresh _ hp))]
    exact l.evo b nb t
  · have hj : i ≠ j := fun e => h2 (by rw [← e]; exact List.mem_map.mpr ⟨_, hp, rfl⟩)
    rw [List.getElem?_set_ne hj] at h1
    obtain ⟨v, e1, e2⟩ := l.vals j d h1 h2
    exact ⟨v, e1, e2.keep ev⟩
  · obtain ⟨zs, us, e1, e2, e3, e4⟩ := l.owns q hq
    by_cases z : q.1 = i
    · have e5 := key q hq z
      refine ⟨ys, ws, by rw [z]; exact List.getElem?_set_self hi, e2, by rw [e5]; exact upd_same, rs.keep ev⟩
    · exact ⟨zs, us, by rw [List.getElem?_set_ne (Ne.symm z)]; exact e1, e2, by rw [upd_ne (key2 q hq z)]; exact e3, e4.keep ev⟩
theorem Fr.write {a : Addr} {o : HO} {i : Nat} (hp : (i, a) ∈ A) : Fr W A A H (upd H a o) :=
  ⟨Evo.write (List.mem_append_right _ (List.mem_map.mpr ⟨_, hp, rfl⟩)), fun p hp => .inl (List.mem_map.mpr ⟨p, hp, rfl⟩)⟩
end
end DL
end
section
set_option Elab.async false
set_option linter.all false
set_option maxRecDepth 100000
set_option maxHeartbeats 2000000
/-! The data layer, 8: what is walked; targets; statements. -/
namespace DL
open PySem PySem.Spec PyProof.Rows L2
theorem PI.weak {X : Cx} {tg e : Expr} {t u : TI} (h : PI X tg e t) (w : ∀ σ H R, u σ H R → t σ H R) : PI X tg e u := ⟨fun pins s σ H R i q => h.run pins s σ H R i (w σ H R q)⟩
section
variable {ρ : Type} (I : Wd ρ) (K : PySem.W.Frag) (O : List Nat)
def tI (f : SA ρ) : TI := fun σ H R => ∃ W B H0 A env r ds r', Lc I K W B H0 A env r σ H ∧ A.map (·.1) = O ∧ f env r = some (ds, r') ∧
  ∀ J S H', Lc I K W B H0 A env r' σ H' → Evo W H H' → Yl K J ds S → S (B ++ A.ad) H' → R J H'
def Wk (X : Cx) (O : List Nat) (tg e : Expr) (f : SA ρ) : Prop := PI X tg e (tI I X.K O f)
end
section
variable {ρ : Type}
def iSeqD (f : SE ρ) : SA ρ := fun env r => (f env r).bind fun p => (items p.1).map fun x => (x, p.2)
def iEnumD (f : SE ρ) : SA ρ := fun env r => (f env r).bind fun p => (items p.1).map fun x => (enumFrom 0 x, p.2)
def zipB : List D → Option (List D)
  | [.lst xs, .lst ys] => some (zipD xs ys)
  | [.tup xs, .tup ys] => some (zipD xs ys)
  | _ => none
def iZipD (f : SA ρ) : SA ρ := fun env r => (f env r).bind fun p => (zipB p.1).map fun x => (x, p.2)
def signsB : D → Option (List D)
  | .str x => some (signsD x)
  | _ => none
def iStrD (f : SE ρ) : SA ρ := fun env r => (f env r).bind fun p => (signsB p.1).map fun x => (x, p.2)
def rng1B : List D → Option (List D)
  | [.int n] => if -(2 ^ 62) < n ∧ n < 2 ^ 62 then some (rangeD 0 1 n.toNat) else none
  | _ => none
def rng2B : List D → Option (List D)
  | [.int a, .int n] => if -(2 ^ 62) < a ∧ a < 2 ^ 62 ∧ -(2 ^ 62) < n ∧ n < 2 ^ 62 then some (rangeD a 1 (n - a).toNat) else none
  | _ => none
def rng3B : List D → Option (List D)
  | [.int a, .int n, .int (-1)] => if -(2 ^ 62) < a ∧ a < 2 ^ 62 ∧ -(2 ^ 62) < n ∧ n < 2 ^ 62 then some (rangeD a (-1) (a - n).toNat) else none
  | _ => none
def iRng (g : List D → Option (List D)) (f : SA ρ) : SA ρ := fun env r => (f env r).bind fun p => (g p.1).map fun x => (x, p.2)
end
theorem items_some {d : D} {xs : List D} (h : items d = some xs) : d = .lst xs ∨ d = .tup xs := by
  cases d <;> simp only [items] at h <;> first | cases h; done | skip
  · cases h; exact .inr rfl
  · cases h; exact .inl rfl
section
variable {ρ : Type} {I : Wd ρ} {X : Cx} {O O' O1 : List Nat} {pos : Pos} {tg : Expr}
theorem wk_seq {e : Expr} {f : SE ρ} (he : Ed I X O e f) : Wk I X O tg e (iSeqD f) :=
  PI.weak (pi_seq he) fun σ H R ⟨W, B, H0, A, env, r, ds, r', l, ho, hf, q⟩ => by
    unfold iSeqD at hf
    obtain ⟨⟨d, r1⟩, e1, hf⟩ := Option.bind_eq_some_iff.mp hf
    obtain ⟨xs, e2, hf⟩ := Option.map_eq_some_iff.mp hf
    cases hf
    refine ⟨W, B, H0, A, env, r, d, r1, l, ho, e1, fun v H' l' ev rp => ?_⟩
    dsimp only at e2
    rcases items_some e2 with rfl | rfl
    · cases rp with
      | lst nb t rs => exact ⟨_, rfl, .inl ⟨⟨_, SqL.of t⟩, q _ _ H' l' ev yl_list ⟨_, nb, t, rs⟩⟩⟩
    · cases rp with
      | tup t rs => exact ⟨_, rfl, .inr ⟨⟨_, t.sq⟩, q _ _ H' l' ev yl_tup ⟨_, t, rs⟩⟩⟩
theorem wk_enum {e : Expr} {f : SE ρ} {p tpos : Pos} {elts : List Expr} {kk : Nat} (hg : Gl X "enumerate") (hm : X.mg "enumerate" = none) (he : Ed I X O e f) (hs : starEach [e] X.env = [(false, eval e X.env)] := by rfl) :
    Wk I X O (.Tuple elts kk tpos) (.Call (.Name "enumerate" p) [e] [] pos) (iEnumD f) :=
  PI.weak (pi_enumA hg hm (ad_cons he ad_nil hs).run hs) fun σ H R ⟨W, B, H0, A, env, r, ds, r', l, ho, hf, q⟩ => by
    unfold iEnumD at hf
    obtain ⟨⟨d, r1⟩, e1, hf⟩ := Option.bind_eq_some_iff.mp hf
    obtain ⟨xs, e2, hf⟩ := Option.map_eq_some_iff.mp hf
    cases hf
    refine ⟨W, B, H0, A, env, r, [d], r1, l, ho, by simp [aCons, aNil, e1], fun vs H' l' ev rp => ?_⟩
    dsimp only at e2
    cases rp with
    | cons rp rn =>
      cases rn
      rcases items_some e2 with rfl | rfl
      · cases rp with
        | lst nb t rs => exact ⟨_, _, rfl, .inl ⟨SqL.of t, q _ _ H' l' ev yl_enumL ⟨_, nb, t, rs⟩⟩⟩
      · cases rp with
        | tup t rs => exact ⟨_, _, rfl, .inr ⟨t.sq, q _ _ H' l' ev yl_enumT ⟨_, t, rs⟩⟩⟩
theorem wk_zip {e e2 : Expr} {f : SA ρ} {p tpos : Pos} {elts : List Expr} {kk : Nat} (hg : Gl X "zip") (hm : X.mg "zip" = none) (ha : Adl I X O [e, e2] f)
    (hs : starEach [e, e2] X.env = (false, eval e X.env) :: starEach [e2] X.env := by rfl) (hpl : (backTo pos (starEach [e2] X.env)).any (·.1) = false := by rfl) :
    Wk I X O (.Tuple elts kk tpos) (.Call (.Name "zip" p) [e, e2] [] pos) (iZipD f) :=
  PI.weak (RZ.pi_zipA hg hm ha.run hs hpl) fun σ H R ⟨W, B, H0, A, env, r, ds, r', l, ho, hf, q⟩ => by
    unfold iZipD at hf
    obtain ⟨⟨as, r1⟩, e1, hf⟩ := Option.bind_eq_some_iff.mp hf
    obtain ⟨xs, e2, hf⟩ := Option.map_eq_some_iff.mp hf
    cases hf
    refine ⟨W, B, H0, A, env, r, as, r1, l, ho, e1, fun vs H' l' ev rp => ?_⟩
    dsimp only at e2
    unfold zipB at e2
    split at e2
    · cases e2
      cases rp with
      | cons rp1 rn =>
        cases rn with
        | cons rp2 rn =>
          cases rn
          cases rp1 with
          | lst nb t rs =>
            cases rp2 with
            | lst nb2 t2 rs2 => exact ⟨_, _, _, _, rfl, .inl ⟨SqL.of t, SqL.of t2, q _ _ H' l' ev yl_zipL ⟨⟨_, nb, t, rs⟩, ⟨_, nb2, t2, rs2⟩⟩⟩⟩
    · cases e2
      cases rp with
      | cons rp1 rn =>
        cases rn with
        | cons rp2 rn =>
          cases rn
          cases rp1 with
          | tup t rs =>
            cases rp2 with
            | tup t2 rs2 => exact ⟨_, _, _, _, rfl, .inr ⟨t.sq, t2.sq, q _ _ H' l' ev yl_zipT ⟨⟨_, t, rs⟩, ⟨_, t2, rs2⟩⟩⟩⟩
    · cases e2
theorem wk_str {e : Expr} {f : SE ρ} (he : Ed I X O e f) : Wk I X O tg e (iStrD f) :=
  PI.weak (pi_str he) fun σ H R ⟨W, B, H0, A, env, r, ds, r', l, ho, hf, q⟩ => by
    unfold iStrD at hf
    obtain ⟨⟨d, r1⟩, e1, hf⟩ := Option.bind_eq_some_iff.mp hf
    obtain ⟨xs, e2, hf⟩ := Option.map_eq_some_iff.mp hf
    cases hf
    refine ⟨W, B, H0, A, env, r, d, r1, l, ho, e1, fun v H' l' ev rp => ?_⟩
    dsimp only at e2
    unfold signsB at e2
    split at e2
    · cases e2
      cases rp
      exact ⟨_, rfl, q _ _ H' l' ev yl_str trivial⟩
    · cases e2
theorem wk_range1 {a : Expr} {f : SA ρ} {p : Pos} (hg : Gl X "range") (hm : X.mg "range" = none) (ha : Adl I X O [a] f) (hs : starEach [a] X.env = [(false, eval a X.env)] := by rfl) :
    Wk I X O tg (.Call (.Name "range" p) [a] [] pos) (iRng rng1B f) :=
  PI.weak (pi_range1 hg hm ha.run hs) fun σ H R ⟨W, B, H0, A, env, r, ds, r', l, ho, hf, q⟩ => by
    unfold iRng at hf
    obtain ⟨⟨as, r1⟩, e1, hf⟩ := Option.bind_eq_some_iff.mp hf
    obtain ⟨xs, e2, hf⟩ := Option.map_eq_some_iff.mp hf
    cases hf
    refine ⟨W, B, H0, A, env, r, as, r1, l, ho, e1, fun vs H' l' ev rp => ?_⟩
    dsimp only at e2
    unfold rng1B at e2
    split at e2
    · rename_i n _
      split at e2
      · rename_i hb
        cases e2
        cases rp with
        | cons rp rn =>
          cases rn
          cases rp
          exact ⟨n, rfl, by omega, hb.2, q _ _ H' l' ev yl_range trivial⟩
      · cases e2
    · cases e2
theorem wk_range2 {a b : Expr} {f : SA ρ} {p : Pos} (hg : Gl X "range") (hm : X.mg "range" = none) (ha : Adl I X O [a, b] f) (hs : starEach [a, b] X.env = [(false, eval a X.env), (false, eval b X.env)] := by rfl)
    (hs2 : starEach [b] X.env = [(false, eval b X.env)] := by rfl) :
    Wk I X O tg (.Call (.Name "range" p) [a, b] [] pos) (iRng rng2B f) :=
  PI.weak (pi_range2 hg hm ha.run hs hs2) fun σ H R ⟨W, B, H0, A, env, r, ds, r', l, ho, hf, q⟩ => by
    unfold iRng at hf
    obtain ⟨⟨as, r1⟩, e1, hf⟩ := Option.bind_eq_some_iff.mp hf
    obtain ⟨xs, e2, hf⟩ := Option.map_eq_some_iff.mp hf
    cases hf
    refine ⟨W, B, H0, A, env, r, as, r1, l, ho, e1, fun vs H' l' ev rp => ?_⟩
    dsimp only at e2
    unfold rng2B at e2
    split at e2
    · rename_i i j _
      split at e2
      · rename_i hb
        cases e2
        cases rp with
        | cons rp rn =>
          cases rn with
          | cons rp2 rn =>
            cases rn
            cases rp
            cases rp2
            exact ⟨i, j, rfl, ⟨Int.le_of_lt hb.1, hb.2.1, Int.le_of_lt hb.2.2.1, hb.2.2.2⟩, q _ _ H' l' ev yl_range trivial⟩
      · cases e2
    · cases e2
theorem wk_range3 {a b c : Expr} {f : SA ρ} {p : Pos} (hg : Gl X "range") (hm : X.mg "range" = none) (ha : Adl I X O [a, b, c] f) (hs : starEach [a, b, c] X.env = (false, eval a X.env) :: starEach [b, c] X.env := by rfl)
    (hpl : (backTo pos (starEach [b, c] X.env)).any (·.1) = false := by rfl) :
    Wk I X O tg (.Call (.Name "range" p) [a, b, c] [] pos) (iRng rng3B f) :=
  PI.weak (pi_range3 hg hm ha.run hs hpl) fun σ H R ⟨W, B, H0, A, env, r, ds, r', l, ho, hf, q⟩ => by
    unfold iRng at hf
    obtain ⟨⟨as, r1⟩, e1, hf⟩ := Option.bind_eq_some_iff.mp hf
    obtain ⟨xs, e2, hf⟩ := Option.map_eq_some_iff.mp hf
    cases hf
    refine ⟨W, B, H0, A, env, r, as, r1, l, ho, e1, fun vs H' l' ev rp => ?_⟩
    dsimp only at e2
    unfold rng3B at e2
    split at e2
    · rename_i i j _
      split at e2
      · rename_i hb
        cases e2
        cases rp with
        | cons rp rn =>
          cases rn with
          | cons rp2 rn =>
            cases rn with
            | cons rp3 rn =>
              cases rn
              cases rp
              cases rp2
              cases rp3
              exact ⟨i, j, -1, _, rfl, RgC.neg (Int.le_of_lt hb.1) hb.2.1 (Int.le_of_lt hb.2.2.1) hb.2.2.2, q _ _ H' l' ev yl_rangeC trivial⟩
      · cases e2
    · cases e2
end

/-! ### targets -/
abbrev GD := D → Env → Option Env
abbrev GDs := List D → Env → Option Env
def gNm (i : Nat) : GD := fun d env => if i < env.length then some (env.set i (some d)) else none
def gTp (g : GDs) : GD := fun d env => match d with
  | .tup xs => g xs env
  | _ => none
def gN : GDs := fun ds env => match ds with
  | [] => some env
  | _ => none
def gC (g : GD) (gs : GDs) : GDs := fun ds env => match ds with
  | [] => none
  | d :: ds => (g d env).bind fun e => gs ds e
section
variable {ρ : Type} (I : Wd ρ) (K : PySem.W.Frag) (O O' : List Nat)
def tG (ts : List Nat) (g : GD) : TG := fun v σ H Q => ∃ W B H0 A env r d env1, Lc I K W B H0 A env r σ H ∧ A.map (·.1) = O ∧ Rep K H (B ++ A.ad) d v ∧ g d env = some env1 ∧
  ∀ A' σ', A'.map (·.1) = O' → (∀ p ∈ A', p ∈ A) → σ'.length = σ.length → (∀ j, j ∉ ts → σ'[j]? = σ[j]?) → Lc I K W B H0 A' env1 r σ' H → Q σ' H
def tGs (ts : List Nat) (g : GDs) : TGs := fun vs σ H Q => ∃ W B H0 A env r ds env1, Lc I K W B H0 A env r σ H ∧ A.map (·.1) = O ∧ Reps K H (B ++ A.ad) ds vs ∧ g ds env = some env1 ∧
  ∀ A' σ', A'.map (·.1) = O' → (∀ p ∈ A', p ∈ A) → σ'.length = σ.length → (∀ j, j ∉ ts → σ'[j]? = σ[j]?) → Lc I K W B H0 A' env1 r σ' H → Q σ' H
end
section
variable {ρ : Type} (I : Wd ρ) (X : Cx) (O : List Nat)
structure Gd (tg : Expr) (g : GD) (ts : List Nat) (O' : List Nat) : Prop where
  run : PG X tg (tG I X.K O O' ts g)
structure Gds (tgs : List Expr) (g : GDs) (ts : List Nat) (O' : List Nat) : Prop where
  run : PGs X tgs (tGs I X.K O O' ts g)
  len : ∀ ds env env1, g ds env = some env1 → ds.length = tgs.length
end
theorem PG.weak {X : Cx} {e : Expr} {t u : TG} (h : PG X e t) (w : ∀ v σ H Q, u v σ H Q → t v σ H Q) : PG X e u := ⟨fun pins s σ H v uu Q i rv q => h.run pins s σ H v uu Q i rv (w v σ H Q q)⟩
theorem PGs.weak {X : Cx} {e : List Expr} {t u : TGs} (h : PGs X e t) (w : ∀ v σ H Q, u v σ H Q → t v σ H Q) : PGs X e u := ⟨fun pins s σ H v uu Q i rv q => h.run pins s σ H v uu Q i rv (w v σ H Q q)⟩
section
variable {ρ : Type} {I : Wd ρ} {X : Cx} {O O' O1 O2 : List Nat} {pos : Pos}
theorem gd_name {i : Nat} {x : Str} (hN : X.N.Nodup) (hi : X.N[i]? = some x := by rfl) (hx : Loc X.env.scope x := by first | exact Or.inl rfl | exact Or.inr rfl) (hf : X.fn x = true ∨ X.env.scope.names.lookup x = some .local := by first | exact .inl rfl | exact .inr rfl | assumption) :
    Gd I X O (.Name x pos) (gNm i) [i] (O.filter fun j => j != i) :=
  ⟨PG.weak (pg_name hN hi hx hf) fun v σ H Q ⟨W, B, H0, A, env, r, d, env1, l, ho, rp, hg, q⟩ => by
    unfold gNm at hg
    split at hg
    · cases hg
      exact q _ _ (by rw [map_filter_ne, ho]) (fun p hp => (List.mem_filter.mp hp).1) (List.length_set ..) (fun j hj => List.getElem?_set_ne fun e => hj (by rw [e]; exact List.mem_cons_self ..)) (l.set rp)
    · cases hg⟩
theorem gds_nil : Gds I X O [] gN [] O :=
  ⟨PGs.weak pgs_nil (fun v σ H Q ⟨W, B, H0, A, env, r, d, env1, l, ho, rp, hg, q⟩ => by
    unfold gN at hg
    split at hg
    · cases hg
      cases rp
      exact ⟨rfl, q A σ ho (fun p hp => hp) rfl (fun j _ => rfl) l⟩
    · cases hg),
  fun ds env env1 h => by
    unfold gN at h
    split at h
    · rfl
    · cases h⟩
theorem gds_cons {e : Expr} {es : List Expr} {g : GD} {gs : GDs} {t1 t2 : List Nat} (h1 : Gd I X O e g t1 O1) (h2 : Gds I X O1 es gs t2 O2) (hs : (assignEach (e :: es) X.env).map (·.2) = assign e X.env :: (assignEach es X.env).map (·.2) := by rfl) : Gds I X O (e :: es) (gC g gs) (t1 ++ t2) O2 :=
  ⟨PGs.weak (pgs_cons h1.run h2.run hs) (fun v σ H Q ⟨W, B, H0, A, env, r, d, env1, l, ho, rp, hg, q⟩ => by
    unfold gC at hg
    split at hg
    · cases hg
    · obtain ⟨e1, h3, h4⟩ := Option.bind_eq_some_iff.mp hg
      cases rp with
      | cons rp rs =>
        refine ⟨_, _, rfl, W, B, H0, A, env, r, _, e1, l, ho, rp, h3, fun A' σ' m sub sl so l' => ?_⟩
        exact ⟨W, B, H0, A', e1, r, _, env1, l', m, rs.less (bx_sub sub), h4, fun A2 σ2 m2 sub2 sl2 so2 l2 => q A2 σ2 m2 (fun p hp => sub p (sub2 p hp)) (sl2.trans sl) (fun j hj => (so2 j fun z => hj (List.mem_append_right _ z)).trans (so j fun z => hj (List.mem_append_left _ z))) l2⟩),
  fun ds env env1 h => by
    unfold gC at h
    split at h
    · cases h
    · obtain ⟨e1, h3, h4⟩ := Option.bind_eq_some_iff.mp h
      rw [List.length_cons, List.length_cons, h2.len _ _ _ h4]⟩
theorem gd_tup {es : List Expr} {k : Nat} {gs : GDs} {ts : List Nat} (hc : X.calm = true) (h : Gds I X O es gs ts O1) (hn : (assignEach es X.env).length = es.length := by rfl) (hst : (assignEach es X.env).findIdx? (·.1) = none := by rfl) : Gd I X O (.Tuple es k pos) (gTp gs) ts O1 :=
  ⟨PG.weak (pg_tup hc h.run hn hst) fun v σ H Q ⟨W, B, H0, A, env, r, d, env1, l, ho, rp, hg, q⟩ => by
    unfold gTp at hg
    split at hg
    · cases rp with
      | tup t rs => exact ⟨_, _, rfl, t.sq, by rw [← rs.length, h.len _ _ _ hg], W, B, H0, A, env, r, _, env1, l, ho, rs, hg, q⟩
    · cases hg⟩
end
end DL
end
section
set_option Elab.async false
set_option linter.all false
set_option maxRecDepth 100000
set_option maxHeartbeats 2000000
/-! The data layer, 9: statements. -/
namespace DL
open PySem PySem.Spec PyProof.Rows L2
section
variable {ρ : Type}
def sAsg (f : SE ρ) (g : GD) : SS ρ := fun env r => (f env r).bind fun p => (g p.1 env).map fun e => .nx e p.2
def sRet (f : SE ρ) : SS ρ := fun env r => (f env r).map fun p => .ret p.1 p.2
def sRetN : SS ρ := fun env r => some (.ret .non r)
def sExpr (f : SE ρ) : SS ρ := fun env r => (f env r).map fun p => .nx env p.2
def sIf (c : SB ρ) (a b : SS ρ) : SS ρ := fun env r => (c env r).bind fun p => if p.1 = true then a env p.2 else b env p.2
def sNil : SS ρ := fun env r => some (.nx env r)
def sThen (b : SS ρ) : Out ρ → Option (Out ρ)
  | .nx e r => b e r
  | .ret d r => some (.ret d r)
def sSeq (a b : SS ρ) : SS ρ := fun env r => (a env r).bind (sThen b)
def sOwn (i : Nat) (f : SE ρ) : SS ρ := fun env r => (f env r).bind fun p => if i < env.length then some (.nx (env.set i (some p.1)) p.2) else none
def sNever : SS ρ := fun _ _ => none
def setAll : List Nat → List D → Env → Env
  | i :: is, d :: ds, env => setAll is ds (env.set i (some d))
  | _, _, env => env
def sPar (is : List Nat) (f : SA ρ) : SS ρ := fun env r => (f env r).bind fun p => if is.all (fun i => decide (i < env.length)) = true then some (.nx (setAll is p.1 env) p.2) else none
def sWhile (c : SB ρ) (b : SS ρ) : Nat → SS ρ
  | 0 => fun _ _ => none
  | n + 1 => fun env r => (c env r).bind fun p => if p.1 = true then (b env p.2).bind (sThen (sWhile c b n)) else some (.nx env p.2)
def sFold (g : GD) (b : SS ρ) : List D → SS ρ
  | [] => fun env r => some (.nx env r)
  | d :: ds => fun env r => (g d env).bind fun e => (b e r).bind (sThen (sFold g b ds))
def sFor (f : SA ρ) (g : GD) (b : SS ρ) : SS ρ := fun env r => (f env r).bind fun p => sFold g b p.1 env p.2
def lstAt (env : Env) (i : Nat) : Option (List D) := match env[i]? with
  | some (some (.lst xs)) => some xs
  | _ => none
def sApp (i : Nat) (f : SE ρ) : SS ρ := fun env r => (lstAt env i).bind fun _ => (f env r).bind fun p => (lstAt env i).bind fun xs => if xs.length < big then some (.nx (env.set i (some (.lst (xs ++ [p.1])))) p.2) else none
def lstB : D → Option (List D)
  | .lst xs => some xs
  | _ => none
theorem lstB_some {d : D} {xs : List D} (h : lstB d = some xs) : d = .lst xs := by
  unfold lstB at h
  split at h
  · cases h; rfl
  · cases h
def sExt (i : Nat) (f : SE ρ) : SS ρ := fun env r => (lstAt env i).bind fun _ => (f env r).bind fun p => (lstAt env i).bind fun xs => (lstB p.1).bind fun ys => if xs.length + ys.length ≤ big then some (.nx (env.set i (some (.lst (xs ++ ys)))) p.2) else none
def sPop (i : Nat) (g : GD) : SS ρ := fun env r => (lstAt env i).bind fun xs => xs.getLast?.bind fun d => (g d (env.set i (some (.lst xs.dropLast)))).map fun e => .nx e r
end
section
variable {ρ : Type} {I : Wd ρ} {K : PySem.W.Frag} {W B : List Addr} {H0 : Hp} {A A' : Own} {env : Env} {r r' : ρ} {σ : L2.St} {H H' : Hp}
/-- what is left to show behind a statement -/
def Post (I : Wd ρ) (K : PySem.W.Frag) (W B : List Addr) (H0 : Hp) (A : Own) (O' : List Nat) (D : Ends) (H : Hp) : Option (Out ρ) → Prop
  | none => False
  | some (.nx env' r') => ∀ A' σ' H', A'.map (·.1) = O' → Lc I K W B H0 A' env' r' σ' H' → Fr W A A' H H' → D.nx σ' H'
  | some (.ret d r') => ∀ v H', Evo W H0 H' → I.inv W r' H' → Rep K H' B d v → D.rt v H'
theorem RepT.out {d : D} {v : V} (h : RepT K H B A d v) (l : Lc I K W B H0 A env r σ H) : Rep K H B d v := by
  rcases h with h | ⟨p, hp, xs, vs, h1, h2, h3, h4⟩
  · exact h.less fun b z => List.mem_append_left _ z
  · subst h1 h2
    exact .lst (l.nb p hp) h3 (h4.less fun b z => List.mem_append_left _ z)
end
section
variable {ρ : Type} {I : Wd ρ} {X : Cx} {O O' O1 O2 : List Nat} {pos : Pos}
theorem tS_in {f : SS ρ} {D : Ends} {σ : L2.St} {H : Hp} (h : tS I X.K O f O' D σ H) : ∃ W B H0 A env r, Lc I X.K W B H0 A env r σ H ∧ A.map (·.1) = O ∧ Post I X.K W B H0 A O' D H (f env r) := by
  obtain ⟨W, B, H0, A, env, r, l, ho, k⟩ := h
  refine ⟨W, B, H0, A, env, r, l, ho, ?_⟩
  revert k
  cases f env r with
  | none => exact id
  | some o => cases o <;> exact id
theorem tS_out {f : SS ρ} {D : Ends} {σ : L2.St} {H : Hp} (h : ∃ W B H0 A env r, Lc I X.K W B H0 A env r σ H ∧ A.map (·.1) = O ∧ Post I X.K W B H0 A O' D H (f env r)) : tS I X.K O f O' D σ H := by
  obtain ⟨W, B, H0, A, env, r, l, ho, k⟩ := h
  refine ⟨W, B, H0, A, env, r, l, ho, ?_⟩
  revert k
  cases f env r with
  | none => exact id
  | some o => cases o <;> exact id
theorem Sd.of {st : Stmt} {t : TS} {f : SS ρ} (h : PS X st t) (w : ∀ D σ H W B H0 A env r, Lc I X.K W B H0 A env r σ H → A.map (·.1) = O → Post I X.K W B H0 A O' D H (f env r) → t D σ H) : Sd I X O st f O' :=
  PS.weak h fun D σ H q => by
    obtain ⟨W, B, H0, A, env, r, l, ho, k⟩ := tS_in q
    exact w D σ H W B H0 A env r l ho k
theorem Bd.of {st : List Stmt} {t : TS} {f : SS ρ} (h : PSs X st t) (w : ∀ D σ H W B H0 A env r, Lc I X.K W B H0 A env r σ H → A.map (·.1) = O → Post I X.K W B H0 A O' D H (f env r) → t D σ H) : Bd I X O st f O' :=
  PSs.weak h fun D σ H q => by
    obtain ⟨W, B, H0, A, env, r, l, ho, k⟩ := tS_in q
    exact w D σ H W B H0 A env r l ho k
/-- the post holds one step on -/
theorem Post.step {W B : List Addr} {H0 : Hp} {A A' : Own} {D : Ends} {H H' : Hp} {env : Env} {r : ρ} {σ : L2.St} {o : Option (Out ρ)} (k : Post I X.K W B H0 A O' D H o) (f : Fr W A A' H H') (l : Lc I X.K W B H0 A' env r σ H') : Post I X.K W B H0 A' O' D H' o := by
  match o, k with
  | some (.nx e r2), k => exact fun A2 σ2 H2 m l2 f2 => k A2 σ2 H2 m l2 (f.trans f2 (I.at_ l.wi))
  | some (.ret d r2), k => exact fun v H2 e i rp => k v H2 e i rp
theorem sd_never {st : Stmt} : Sd I X O st sNever O' := Sd.of ps_never fun D σ H W B H0 A env r l ho k => k.elim
theorem bd_never {st : List Stmt} : Bd I X O st sNever O' := Bd.of pss_never fun D σ H W B H0 A env r l ho k => k.elim
theorem Sd.frz {st : Stmt} {f : SS ρ} (p : Nat → Bool) (h : Sd I X (O.filter p) st f O') : Sd I X O st f O' :=
  Sd.of h fun D σ H W B H0 A env r l ho k => by
    have e : (A.filter fun q => p q.1).map (·.1) = O.filter p := by
      rw [← ho]
      clear ho k l
      induction A with
      | nil => rfl
      | cons q A ih => simp only [List.filter_cons, List.map_cons]; split <;> simp_all
    exact tS_out ⟨W, B, H0, _, env, r, l.frz fun q => p q.1, e, k.step (Fr.of Evo.refl fun q hq => (List.mem_filter.mp hq).1) (l.frz _)⟩
theorem Bd.frz {st : List Stmt} {f : SS ρ} (p : Nat → Bool) (h : Bd I X (O.filter p) st f O') : Bd I X O st f O' :=
  Bd.of h fun D σ H W B H0 A env r l ho k => by
    have e : (A.filter fun q => p q.1).map (·.1) = O.filter p := by
      rw [← ho]
      clear ho k l
      induction A with
      | nil => rfl
      | cons q A ih => simp only [List.filter_cons, List.map_cons]; split <;> simp_all
    exact tS_out ⟨W, B, H0, _, env, r, l.frz fun q => p q.1, e, k.step (Fr.of Evo.refl fun q hq => (List.mem_filter.mp hq).1) (l.frz _)⟩
theorem bd_nil : Bd I X O [] sNil O := Bd.of pss_nil fun D σ H W B H0 A env r l ho k => k A σ H ho l (Fr.of Evo.refl fun q hq => hq)
/-- ownership is dropped at the end -/
theorem Bd.drop {st : List Stmt} {f : SS ρ} (p : Nat → Bool) (h : Bd I X O st f O1) : Bd I X O st f (O1.filter p) :=
  Bd.of h fun D σ H W B H0 A env r l ho k => by
    refine tS_out ⟨W, B, H0, A, env, r, l, ho, ?_⟩
    match f env r, k with
    | some (.nx e r2), k =>
      exact fun A2 σ2 H2 m l2 f2 => k (A2.filter fun q => p q.1) σ2 H2 (by
        rw [← m]
        clear m l2 f2
        induction A2 with
        | nil => rfl
        | cons q A ih => simp only [List.filter_cons, List.map_cons]; split <;> simp_all) (l2.frz _) ⟨f2.1, fun q hq => f2.2 q (List.mem_filter.mp hq).1⟩
    | some (.ret d r2), k => exact k
theorem bd_cons {st : Stmt} {sts : List Stmt} {f g : SS ρ} (h1 : Sd I X O st f O1) (h2 : Bd I X O1 sts g O2) : Bd I X O (st :: sts) (sSeq f g) O2 :=
  Bd.of (pss_cons h1 h2) fun D σ H W B H0 A env r l ho k => by
    refine tS_out ⟨W, B, H0, A, env, r, l, ho, ?_⟩
    unfold sSeq at k
    cases e1 : f env r with
    | none => rw [e1] at k; exact k.elim
    | some o =>
      rw [e1, Option.bind_some] at k
      cases o with
      | nx e r2 => exact fun A2 σ2 H2 m l2 f2 => tS_out ⟨W, B, H0, A2, e, r2, l2, m, k.step f2 l2⟩
      | ret d r2 => exact k
theorem bd_one {st : Stmt} {f : SS ρ} (h1 : Sd I X O st f O1) : Bd I X O [st] f O1 :=
  Bd.of (pss_one h1) fun D σ H W B H0 A env r l ho k => tS_out ⟨W, B, H0, A, env, r, l, ho, k⟩
theorem sd_asg {tg e : Expr} {f : SE ρ} {g : GD} {ts : List Nat} (he : Ed I X O e f) (hg : Gd I X O tg g ts O') (hs : swapsWithSole [tg] e pos.line X.env = pure false := by rfl) (hw : swappedStores [tg] e X.env = pure none := by rfl)
    (h1 : (assignEach [tg] X.env).map (·.2) = [assign tg X.env] := by rfl) : Sd I X O (.Assign [tg] e pos) (sAsg f g) O' :=
  Sd.of (ps_asg he hg.run hs hw h1) fun D σ H W B H0 A env r l ho k => by
    unfold sAsg at k
    cases e1 : f env r with
    | none => rw [e1] at k; exact k.elim
    | some p =>
      obtain ⟨d, r1⟩ := p
      rw [e1, Option.bind_some] at k
      refine ⟨W, B, H0, A, env, r, d, r1, l, ho, e1, fun v H1 l1 ev rp => ?_⟩
      cases e2 : g d env with
      | none => dsimp only at k; rw [e2] at k; exact k.elim
      | some env1 =>
        dsimp only at k
        rw [e2] at k
        exact ⟨W, B, H0, A, env, r1, d, env1, l1, ho, rp, e2, fun A' σ' m sub _ _ l2 => k A' σ' H1 m l2 (l.fr ev (Fr.of Evo.refl sub) l1)⟩
theorem sd_ret {e : Expr} {f : SE ρ} (he : Eb I X O e f) : Sd I X O (.Return (some e) pos) (sRet f) O' :=
  Sd.of (ps_ret he) fun D σ H W B H0 A env r l ho k => by
    unfold sRet at k
    cases e1 : f env r with
    | none => rw [e1] at k; exact k.elim
    | some p =>
      obtain ⟨d, r1⟩ := p
      rw [e1] at k
      exact ⟨W, B, H0, A, env, r, d, r1, l, ho, e1, fun v H1 l1 ev rp => k v H1 l1.evo l1.wi (rp.out l1)⟩
theorem sd_retN : Sd I X O (.Return none pos) sRetN O' :=
  Sd.of ps_retN fun D σ H W B H0 A env r l ho k => k .non H l.evo l.wi .non
theorem sd_expr {e : Expr} {f : SE ρ} (he : Ed I X O e f) (hs : swapsWith e none pos.line X.env = pure false := by rfl) : Sd I X O (.Expr e pos) (sExpr f) O :=
  Sd.of (ps_expr he hs) fun D σ H W B H0 A env r l ho k => by
    unfold sExpr at k
    cases e1 : f env r with
    | none => rw [e1] at k; exact k.elim
    | some p =>
      obtain ⟨d, r1⟩ := p
      rw [e1] at k
      exact ⟨W, B, H0, A, env, r, d, r1, l, ho, e1, fun v H1 l1 ev rp => k A σ H1 ho l1 (Fr.of ev fun q hq => hq)⟩
theorem sd_if {c : Expr} {a b : List Stmt} {fc : SB ρ} {f g : SS ρ} (hc : Td I X O c fc) (ha : Bd I X O a f O') (hb : Bd I X O b g O') : Sd I X O (.If c a b pos) (sIf fc f g) O' :=
  Sd.of (ps_if hc ha hb) fun D σ H W B H0 A env r l ho k => by
    unfold sIf at k
    cases e1 : fc env r with
    | none => rw [e1] at k; exact k.elim
    | some p =>
      obtain ⟨d, r1⟩ := p
      rw [e1, Option.bind_some] at k
      refine ⟨W, B, H0, A, env, r, d, r1, l, ho, e1, fun H1 l1 ev => ?_⟩
      have f1 : Fr W A A H H1 := Fr.of ev fun q hq => hq
      dsimp only at k
      cases d with
      | true => exact tS_out ⟨W, B, H0, A, env, r1, l1, ho, Post.step k f1 l1⟩
      | false => exact tS_out ⟨W, B, H0, A, env, r1, l1, ho, Post.step k f1 l1⟩
theorem Fr.own {W : List Addr} {A A' : Own} {H H' : Hp} {i : Nat} {a : Addr} (e : Evo W H H') (na : H a = none) (s : ∀ p ∈ A', p ∈ A) : Fr W A ((i, a) :: A') H H' :=
  ⟨e.mono fun b z => List.mem_append_left _ z, fun p hp => (List.mem_cons.mp hp).elim (fun z => by rw [z]; exact .inr na) fun z => .inl (List.mem_map.mpr ⟨p, s p z, rfl⟩)⟩
/-- name = a new list -/
theorem sd_own {i : Nat} {x : Str} {e : Expr} {f : SE ρ} {p : Pos} (hN : X.N.Nodup) (he : Ef I X O e f) (hl : ∀ env r d r', f env r = some (d, r') → ∃ xs, d = .lst xs) (hi : X.N[i]? = some x := by rfl) (hx : Loc X.env.scope x := by first | exact Or.inl rfl | exact Or.inr rfl)
    (hs : swapsWith e (some (.Name x p)) pos.line X.env = pure false := by rfl) (hf : X.fn x = true ∨ X.env.scope.names.lookup x = some .local := by first | exact .inl rfl | exact .inr rfl | assumption) :
    Sd I X O (.Assign [.Name x p] e pos) (sOwn i f) (i :: O.filter fun j => j != i) :=
  Sd.of (ps_set hN hi hx he hs hf) fun D σ H W B H0 A env r l ho k => by
    unfold sOwn at k
    cases e1 : f env r with
    | none => rw [e1] at k; exact k.elim
    | some p =>
      obtain ⟨d, r1⟩ := p
      rw [e1, Option.bind_some] at k
      obtain ⟨zs, rfl⟩ := hl _ _ _ _ e1
      dsimp only at k
      split at k
      · rename_i hlt
        refine ⟨W, B, H0, A, env, r, _, r1, l, ho, e1, fun a xs vs H1 eq l1 ev na ha rs => ?_⟩
        cases eq
        exact k _ _ H1 (by rw [List.map_cons, map_filter_ne, ho]) (l.own ev l1.wi hlt na ha rs) (Fr.own ev na fun q hq => (List.mem_filter.mp hq).1)
      · exact k.elim
end
end DL
end
section
set_option Elab.async false
set_option linter.all false
set_option maxRecDepth 100000
set_option maxHeartbeats 2000000
/-! The data layer, 10: append, extend, pop; loops. -/
namespace DL
open PySem PySem.Spec PyProof.Rows L2
theorem Reps.dropLast {K : PySem.W.Frag} {H : Hp} {B : List Addr} {ds : List D} {vs : List V} (h : Reps K H B ds vs) : Reps K H B ds.dropLast vs.dropLast := by
  rw [List.dropLast_eq_take, List.dropLast_eq_take, ← h.length]
  exact h.take _
theorem lstAt_some {env : Env} {i : Nat} {xs : List D} (h : lstAt env i = some xs) : env[i]? = some (some (.lst xs)) := by
  unfold lstAt at h
  split at h
  · cases h; assumption
  · cases h
theorem lst_items {d : D} {xs : List D} (h : (match d with | .lst xs => some xs | _ => none) = some xs) : d = .lst xs := by
  split at h
  · cases h; rfl
  · cases h
section
variable {ρ : Type} {I : Wd ρ} {X : Cx} {O O' O1 O2 : List Nat} {pos : Pos}
theorem own_at {W B : List Addr} {H0 : Hp} {A : Own} {env : Env} {r : ρ} {σ : L2.St} {H : Hp} {K : PySem.W.Frag} {i : Nat} (l : Lc I K W B H0 A env r σ H) (ho : A.map (·.1) = O) (hi : O.contains i = true) :
    ∃ a, (i, a) ∈ A := by
  have : i ∈ A.map (·.1) := by rw [ho]; exact List.contains_iff_mem.mp hi
  obtain ⟨p, hp, e⟩ := List.mem_map.mp this
  exact ⟨p.2, by rw [← e]; exact hp⟩
theorem sd_app {i : Nat} {x : Str} {e : Expr} {f : SE ρ} {p apos cpos : Pos} (he : Ed I X O e f) (hO : O.contains i = true := by rfl) (hN : X.N[i]? = some x := by rfl) (hv : Vis X.env.scope x := by first | exact Or.inl rfl | exact Or.inr (Or.inl rfl) | exact Or.inr (Or.inr rfl)) (hd : (x == ("__debug__" : Str)) = false := by decide)
    (hcd : (x == ("__classdict__" : Str)) = false := by decide) (hbase : attributeBase (.Name x p) "append" X.env (eval (.Name x p) X.env) = eval (.Name x p) X.env := by rfl)
    (hfew : ((backTo cpos (starEach [e] X.env)).all (fun x => !x.1) && (backToKw cpos (keywordEach [] X.env)).all (fun x => x.1.isSome) && decide (([e] : List Expr).length + ([] : List Keyword).length + (if ([] : List Keyword).isEmpty then 0 else 1) < 30)) = true := by rfl)
    (hline : (apos.endLine == cpos.line) = true := by rfl) (hst : starEach [e] X.env = (false, eval e X.env) :: starEach [] X.env := by rfl) (hs : swapsWith (.Call (.Attribute (.Name x p) "append" apos) [e] [] cpos) none pos.line X.env = pure false := by rfl) :
    Sd I X O (.Expr (.Call (.Attribute (.Name x p) "append" apos) [e] [] cpos) pos) (sApp i f) O :=
  Sd.of (ps_expr (pe_bm PySem.F.plainAttrs_list PySem.F.slot_list_append PySem.F.type_list_append mt_append (pv i hN hv hd hcd) (ad_cons he ad_nil hst).run hbase hfew hline hst rfl) hs) fun D σ H W B H0 A env r l ho k => by
    obtain ⟨a, hp⟩ := own_at l ho hO
    obtain ⟨xs, vs, e1, e2, e3, e4⟩ := l.owns _ hp
    unfold sApp at k
    have hl : lstAt env i = some xs := by unfold lstAt; dsimp only at e1; rw [e1]
    rw [hl, Option.bind_some] at k
    cases e5 : f env r with
    | none => rw [e5] at k; exact k.elim
    | some q =>
      obtain ⟨d, r1⟩ := q
      rw [e5, Option.bind_some, Option.bind_some] at k
      dsimp only at k
      split at k
      · rename_i hlt
        refine ⟨_, e2, .inl ⟨rfl, vs, SqL.of e3⟩, W, B, H0, A, env, r, [d], r1, l, ho, by simp [aCons, aNil, e5], fun ws H1 l1 ev rs => ?_⟩
        cases rs with
        | cons rp rn =>
          cases rn
          refine ⟨a, vs, _, rfl, rfl, ev.at_ (l.now hp) e3, ?_, ?_⟩
          · rw [← e4.length]
            exact Nat.lt_of_lt_of_le hlt big_le
          · exact k A σ _ ho (l1.write hp e1 ((e4.keep (l.ev ev)).append (.cons rp .nil))) (l.fr ev (Fr.write hp) l1)
      · exact k.elim
theorem sd_ext {i : Nat} {x : Str} {e : Expr} {f : SE ρ} {p apos cpos : Pos} (he : Ed I X O e f) (hO : O.contains i = true := by rfl) (hN : X.N[i]? = some x := by rfl) (hv : Vis X.env.scope x := by first | exact Or.inl rfl | exact Or.inr (Or.inl rfl) | exact Or.inr (Or.inr rfl)) (hd : (x == ("__debug__" : Str)) = false := by decide)
    (hcd : (x == ("__classdict__" : Str)) = false := by decide) (hbase : attributeBase (.Name x p) "extend" X.env (eval (.Name x p) X.env) = eval (.Name x p) X.env := by rfl)
    (hfew : ((backTo cpos (starEach [e] X.env)).all (fun x => !x.1) && (backToKw cpos (keywordEach [] X.env)).all (fun x => x.1.isSome) && decide (([e] : List Expr).length + ([] : List Keyword).length + (if ([] : List Keyword).isEmpty then 0 else 1) < 30)) = true := by rfl)
    (hline : (apos.endLine == cpos.line) = true := by rfl) (hst : starEach [e] X.env = (false, eval e X.env) :: starEach [] X.env := by rfl) (hs : swapsWith (.Call (.Attribute (.Name x p) "extend" apos) [e] [] cpos) none pos.line X.env = pure false := by rfl) :
    Sd I X O (.Expr (.Call (.Attribute (.Name x p) "extend" apos) [e] [] cpos) pos) (sExt i f) O :=
  Sd.of (ps_expr (pe_bm PySem.F.plainAttrs_list PySem.F.slot_list_extend PySem.F.type_list_extend mt_extend (pv i hN hv hd hcd) (ad_cons he ad_nil hst).run hbase hfew hline hst rfl) hs) fun D σ H W B H0 A env r l ho k => by
    obtain ⟨a, hp⟩ := own_at l ho hO
    obtain ⟨xs, vs, e1, e2, e3, e4⟩ := l.owns _ hp
    unfold sExt at k
    have hl : lstAt env i = some xs := by unfold lstAt; dsimp only at e1; rw [e1]
    rw [hl, Option.bind_some] at k
    cases e5 : f env r with
    | none => rw [e5] at k; exact k.elim
    | some q =>
      obtain ⟨d, r1⟩ := q
      rw [e5, Option.bind_some, Option.bind_some] at k
      dsimp only at k
      cases e6 : lstB d with
      | none => rw [e6] at k; exact k.elim
      | some ys =>
        rw [e6, Option.bind_some] at k
        split at k
        · rename_i hlt
          refine ⟨_, e2, .inl ⟨rfl, vs, SqL.of e3⟩, W, B, H0, A, env, r, [d], r1, l, ho, by simp [aCons, aNil, e5], fun ws H1 l1 ev rs => ?_⟩
          cases rs with
          | cons rp rn =>
            cases rn
            rw [lstB_some e6] at rp
            cases rp with
            | lst nb t rs2 =>
              refine ⟨a, _, vs, _, rfl, rfl, ev.at_ (l.now hp) e3, t, ?_, ?_⟩
              · rw [← e4.length, ← rs2.length]
                exact Nat.le_trans hlt big_le
              · exact k A σ _ ho (l1.write hp e1 ((e4.keep (l.ev ev)).append rs2)) (l.fr ev (Fr.write hp) l1)
        · exact k.elim
theorem sd_pop {i : Nat} {x : Str} {tg : Expr} {g : GD} {ts : List Nat} {p apos cpos : Pos} (hg : Gd I X O tg g ts O') (hO : O.contains i = true := by rfl) (hN : X.N[i]? = some x := by rfl) (hv : Vis X.env.scope x := by first | exact Or.inl rfl | exact Or.inr (Or.inl rfl) | exact Or.inr (Or.inr rfl)) (hd : (x == ("__debug__" : Str)) = false := by decide)
    (hcd : (x == ("__classdict__" : Str)) = false := by decide) (hbase : attributeBase (.Name x p) "pop" X.env (eval (.Name x p) X.env) = eval (.Name x p) X.env := by rfl)
    (hline : (apos.endLine == cpos.line) = true := by rfl) (hs : swapsWithSole [tg] (.Call (.Attribute (.Name x p) "pop" apos) [] [] cpos) pos.line X.env = pure false := by rfl) (hw : swappedStores [tg] (.Call (.Attribute (.Name x p) "pop" apos) [] [] cpos) X.env = pure none := by rfl)
    (h1 : (assignEach [tg] X.env).map (·.2) = [assign tg X.env] := by rfl) :
    Sd I X O (.Assign [tg] (.Call (.Attribute (.Name x p) "pop" apos) [] [] cpos) pos) (sPop i g) O' :=
  Sd.of (ps_asg (pe_bm0 PySem.F.plainAttrs_list PySem.F.slot_list_pop PySem.F.type_list_pop mt_pop (pv i hN hv hd hcd) hbase hline) hg.run hs hw h1) fun D σ H W B H0 A env r l ho k => by
    obtain ⟨a, hp⟩ := own_at l ho hO
    obtain ⟨xs, vs, e1, e2, e3, e4⟩ := l.owns _ hp
    unfold sPop at k
    have hl : lstAt env i = some xs := by unfold lstAt; dsimp only at e1; rw [e1]
    rw [hl, Option.bind_some] at k
    cases e5 : xs.getLast? with
    | none => rw [e5] at k; exact k.elim
    | some d =>
      rw [e5, Option.bind_some] at k
      cases e6 : g d (env.set i (some (.lst xs.dropLast))) with
      | none => rw [e6] at k; exact k.elim
      | some env1 =>
        rw [e6] at k
        rw [List.getLast?_eq_getElem?] at e5
        obtain ⟨y, hy, ry⟩ := e4.at_ e5
        have l2 := l.write hp e1 e4.dropLast
        refine ⟨_, e2, .inl ⟨rfl, vs, SqL.of e3⟩, a, vs, y, rfl, rfl, e3, by rw [← e4.length]; exact hy, ?_⟩
        refine ⟨W, B, H0, A, _, r, d, env1, l2, ho, ry.keep (Evo.write (List.mem_append_right _ (List.mem_map.mpr ⟨_, hp, rfl⟩))), e6, fun A' σ' m sub _ _ l3 => ?_⟩
        exact k A' σ' _ m l3 ((Fr.write hp).trans (Fr.of Evo.refl sub) (I.at_ l2.wi))

/-! loops -/
theorem sd_while {c : Expr} {body : List Stmt} {fc : SB ρ} {f : SS ρ} (n : Nat) (hp : PassesOwn (model X.prog X.w) X.A X.env X.xe) (hc : Td I X O c fc) (hb : Bd I X O body f O) : Sd I X O (.While c body [] pos) (sWhile fc f n) O :=
  Sd.of (ps_while hp hc hb) fun D σ H W B H0 A env r l ho k => by
    refine ⟨fun m σ' H' => ∃ A' env' r', A'.map (·.1) = O ∧ Lc I X.K W B H0 A' env' r' σ' H' ∧ Post I X.K W B H0 A' O D H' (sWhile fc f m env' r'), ⟨n, A, env, r, ho, l, k⟩, ?_⟩
    rintro m σ1 H1 ⟨A1, env1, r1, ho1, l1, k1⟩
    cases m with
    | zero => exact k1.elim
    | succ m =>
      unfold sWhile at k1
      cases e1 : fc env1 r1 with
      | none => rw [e1] at k1; exact k1.elim
      | some q =>
        obtain ⟨b, r2⟩ := q
        rw [e1, Option.bind_some] at k1
        dsimp only at k1
        refine ⟨W, B, H0, A1, env1, r1, b, r2, l1, ho1, e1, fun H2 l2 ev => ?_⟩
        cases b with
        | false =>
          rw [if_neg Bool.false_ne_true] at k1 ⊢
          exact k1 A1 σ1 H2 ho1 l2 (Fr.of ev fun q hq => hq)
        | true =>
          rw [if_pos rfl] at k1 ⊢
          refine ⟨_, fun σ' H' z => ⟨m, Nat.lt_succ_self m, z⟩, tS_out ⟨W, B, H0, A1, env1, r2, l2, ho1, ?_⟩⟩
          have k2 := k1.step (Fr.of ev fun q hq => hq) l2
          cases e2 : f env1 r2 with
          | none => rw [e2] at k2; exact k2.elim
          | some o =>
            rw [e2, Option.bind_some] at k2
            cases o with
            | nx e r3 => exact fun A3 σ3 H3 m3 l3 f3 => ⟨A3, e, r3, m3, l3, k2.step f3 l3⟩
            | ret d r3 => exact k2
theorem sd_for {tg iter : Expr} {body : List Stmt} {fi : SA ρ} {g : GD} {ts : List Nat} {f : SS ρ} (hp : PassesOwn (model X.prog X.w) X.A X.env X.xe) (hc : X.calm = true) (hi : Wk I X O tg iter fi) (hg : Gd I X O tg g ts O1) (hb : Bd I X O1 body f O)
    (hs : ∀ x, foldedSetIterable iter X.env x = pure x := by intro _; rfl) : Sd I X O (.For tg iter body [] pos) (sFor fi g f) O :=
  Sd.of (ps_for hp hc hi hg.run hb hs) fun D σ H W B H0 A env r l ho k => by
    unfold sFor at k
    cases e1 : fi env r with
    | none => rw [e1] at k; exact k.elim
    | some q =>
      obtain ⟨ds, r1⟩ := q
      rw [e1, Option.bind_some] at k
      dsimp only at k
      refine ⟨W, B, H0, A, env, r, ds, r1, l, ho, e1, fun J S H1 l1 ev yl s1 => ?_⟩
      have k1 := k.step (Fr.of ev fun q hq => hq) l1
      refine ⟨fun i m σ' H' => i + m = ds.length ∧ ∃ A' env' r', A'.map (·.1) = O ∧ Lc I X.K W B H0 A' env' r' σ' H' ∧ S (B ++ A'.ad) H' ∧ Post I X.K W B H0 A' O D H' (sFold g f (ds.drop i) env' r'),
        ⟨ds.length, by omega, A, env, r1, ho, l1, s1, by rw [List.drop_zero]; exact k1⟩, ?_⟩
      rintro i m σ2 H2 ⟨him, A2, env2, r2, ho2, l2, s2, k2⟩
      by_cases hlt : i < ds.length
      · refine .inr ⟨yl.go _ _ _ s2 hlt, _, fun σ' H' z => ⟨m - 1, by omega, z⟩, fun x H3 y => ?_⟩
        obtain ⟨d, e3, ex, rp⟩ := yl.yld _ _ _ _ _ s2 l2.bx hlt y
        have l3 := l2.ext ex
        have f3 : Fr W A2 A2 H2 H3 := Fr.of ex.evo fun q hq => hq
        have k3 := k2.step f3 l3
        have s3 := yl.keep _ _ (B ++ A2.ad) H3 s2 ex.evo fun b z => .inl z
        rw [List.drop_eq_getElem_cons hlt] at k3
        rw [List.getElem?_eq_getElem hlt] at e3
        cases e3
        unfold sFold at k3
        cases e4 : g ds[i] env2 with
        | none => rw [e4] at k3; exact k3.elim
        | some env3 =>
          rw [e4, Option.bind_some] at k3
          refine ⟨W, B, H0, A2, env2, r2, _, env3, l3, ho2, rp, e4, fun A4 σ4 m4 sub4 _ _ l4 => tS_out ⟨W, B, H0, A4, env3, r2, l4, m4, ?_⟩⟩
          have k4 := k3.step (Fr.of Evo.refl sub4) l4
          have s4 := yl.keep _ _ (B ++ Own.ad A4) H3 s3 Evo.refl fun b z => .inl (bx_sub sub4 b z)
          cases e5 : f env3 r2 with
          | none => rw [e5] at k4; exact k4.elim
          | some o =>
            rw [e5, Option.bind_some] at k4
            cases o with
            | nx e r5 => exact fun A5 σ5 H5 m5 l5 f5 => ⟨by omega, A5, e, r5, m5, l5, yl.keep _ _ (B ++ Own.ad A5) H5 s4 (f5.bx l4).1 (f5.bx l4).2, k4.step f5 l5⟩
            | ret d r5 => exact k4
      · have he : ds.drop i = [] := List.drop_eq_nil_of_le (Nat.le_of_not_lt hlt)
        rw [he] at k2
        exact .inl ⟨yl.stop _ _ _ s2 (Nat.le_of_not_lt hlt), k2 A2 σ2 H2 ho2 l2 (Fr.of Evo.refl fun q hq => hq)⟩
end
end DL
end
section
set_option Elab.async false
set_option linter.all false
set_option maxRecDepth 100000
set_option maxHeartbeats 2000000
/-! The data layer, 11: comprehensions. -/
namespace DL
open PySem PySem.Spec PyProof.Rows L2
def wipeE (env : Env) : List Nat → Env
  | [] => env
  | v :: vs => (wipeE env vs).set v none
theorem wipe_in {σ : L2.St} {j : Nat} : ∀ {vs : List Nat}, j ∈ vs → (wipe σ vs)[j]? = if j < σ.length then some none else none
  | [], h => by cases h
  | v :: vs, h => by
    unfold wipe
    by_cases e : v = j
    · subst e
      split
      · rename_i hlt
        rw [List.getElem?_set_self (by rw [wipe_length]; exact hlt)]
      · rename_i hlt
        rw [List.getElem?_eq_none (by rw [List.length_set, wipe_length]; omega)]
    · rw [List.getElem?_set_ne e]
      exact wipe_in ((List.mem_cons.mp h).resolve_left fun z => e z.symm)
theorem wipe_same {σ τ : L2.St} {vs : List Nat} (hl : σ.length = τ.length) (h : ∀ j, j ∉ vs → σ[j]? = τ[j]?) : wipe σ vs = wipe τ vs := by
  refine List.ext_getElem? fun j => ?_
  by_cases hj : j ∈ vs
  · rw [wipe_in hj, wipe_in hj, hl]
  · rw [wipe_out hj, wipe_out hj, h j hj]
theorem wipe_wipe (σ : L2.St) (vs : List Nat) : wipe (wipe σ vs) vs = wipe σ vs := wipe_same (wipe_length σ vs) fun j hj => wipe_out hj
section
variable {ρ : Type}
def bT : SB ρ := fun _ r => some (true, r)
def cFold (g : GD) (t : SB ρ) (e : SE ρ) (env : Env) : List D → ρ → Option (List D × ρ)
  | [], r => some ([], r)
  | d :: ds, r => (g d env).bind fun e2 => (t e2 r).bind fun p => if p.1 = true then (e e2 p.2).bind fun q => (cFold g t e env ds q.2).map fun z => (q.1 :: z.1, z.2) else cFold g t e env ds p.2
def eComp (f : SA ρ) (g : GD) (t : SB ρ) (e : SE ρ) (vs : List Nat) : SE ρ := fun env r => (f env r).bind fun p => (cFold g t e (wipeE env vs) p.1 p.2).bind fun z => if z.1.length ≤ big then some (.lst z.1, z.2) else none
def putD (ks : List Key) (xs : List D) (j : Key) (d : D) : List Key × List D :=
  if (ks.any fun k => decide (k = j)) = true then (ks, List.zipWith (fun k x => if k = j then d else x) ks xs) else (ks ++ [j], xs ++ [d])
def dFold (g : GD) (t : SB ρ) (ke ve : SE ρ) (env : Env) : List D → ρ → List Key → List D → Option (List Key × List D × ρ)
  | [], r, ks, xs => some (ks, xs, r)
  | d :: ds, r, ks, xs => (g d env).bind fun e2 => (t e2 r).bind fun p => if p.1 = true then (ke e2 p.2).bind fun q => (ve e2 q.2).bind fun s => (keyD q.1).bind fun k =>
      if ks.length < big then dFold g t ke ve env ds s.2 (putD ks xs k s.1).1 (putD ks xs k s.1).2 else none else dFold g t ke ve env ds p.2 ks xs
def eDComp (f : SA ρ) (g : GD) (t : SB ρ) (ke ve : SE ρ) (vs : List Nat) : SE ρ := fun env r => (f env r).bind fun p => (dFold g t ke ve (wipeE env vs) p.1 p.2 [] []).map fun z => (.dct z.1 z.2.1, z.2.2)
end
section
variable {ρ : Type} {I : Wd ρ} {K : PySem.W.Frag} {W B : List Addr} {H0 : Hp} {A A' : Own} {env : Env} {r r' : ρ} {σ : L2.St} {H H' : Hp}
theorem Lc.unset (l : Lc I K W B H0 A env r σ H) {i : Nat} (hi : i ∉ A.map (·.1)) : Lc I K W B H0 A (env.set i none) r (σ.set i none) H := by
  refine ⟨l.wi, l.wb, l.wt, l.bt, l.evo, fun j d h1 h2 => ?_, fun q hq => ?_, l.fresh, l.nb, l.nd, by rw [List.length_set, List.length_set]; exact l.len⟩
  · by_cases hj : i = j
    · subst hj
      by_cases hl : i < env.length
      · rw [List.getElem?_set_self hl] at h1; cases h1
      · rw [List.getElem?_eq_none (by rw [List.length_set]; omega)] at h1; cases h1
    · rw [List.getElem?_set_ne hj] at h1
      obtain ⟨u, e1, e2⟩ := l.vals j d h1 h2
      exact ⟨u, by rw [List.getElem?_set_ne hj]; exact e1, e2⟩
  · have ne : i ≠ q.1 := fun e => hi (List.mem_map.mpr ⟨q, hq, e.symm⟩)
    obtain ⟨xs, vs, e1, e2, e3, e4⟩ := l.owns q hq
    exact ⟨xs, vs, by rw [List.getElem?_set_ne ne]; exact e1, by rw [List.getElem?_set_ne ne]; exact e2, e3, e4⟩
theorem Lc.wiped (l : Lc I K W B H0 A env r σ H) : ∀ {vs : List Nat}, (∀ i ∈ vs, i ∉ A.map (·.1)) → Lc I K W B H0 A (wipeE env vs) r (wipe σ vs) H
  | [], _ => l
  | v :: vs, h => (Lc.wiped l fun i hi => h i (List.mem_cons_of_mem _ hi)).unset (h v (List.mem_cons_self ..))
/-- a new thing that no one may touch -/
theorem Lc.hold (l : Lc I K W B H0 A env r σ H) (wi : I.inv W r' H') (e : Evo W H H') {a : Addr} (na : H a = none) (ta : H' a ≠ none) : Lc I K W (a :: B) H0 A env r' σ H' := by
  have l' := l.step wi e
  have s' : ∀ b ∈ (a :: B) ++ A.ad, b ∈ B ++ A.ad ∨ H b = none := fun b hb => by
    rcases List.mem_append.mp hb with z | z
    · rcases List.mem_cons.mp z with z | z
      · exact .inr (by rw [z]; exact na)
      · exact .inl (List.mem_append_left _ z)
    · exact .inl (List.mem_append_right _ z)
  refine ⟨wi, fun b hb => List.mem_cons_of_mem _ (l.wb b hb), l.wt, fun b hb => ?_, l'.evo, fun i d h1 h2 => ?_, fun p hp => ?_, l.fresh, fun p hp z => ?_, l.nd, l.len⟩
  · rcases List.mem_cons.mp hb with z | z
    · rw [z]; exact ta
    · exact l'.bt b z
  · obtain ⟨v, h3, h4⟩ := l.vals i d h1 h2
    exact ⟨v, h3, Rep.evo (l.ev e) s' _ _ h4⟩
  · obtain ⟨xs, vs, h1, h2, h3, h4⟩ := l.owns p hp
    exact ⟨xs, vs, h1, h2, e.at_ (l.now hp) h3, Reps.evo (l.ev e) s' _ _ h4⟩
  · rcases List.mem_cons.mp z with z | z
    · obtain ⟨xs, vs, h1, h2, h3, h4⟩ := l.owns p hp
      rw [z] at h3; rw [na] at h3; cases h3
    · exact l.nb p hp z
/-- the held thing is written -/
theorem Lc.poke (l : Lc I K W B H0 A env r σ H) {a : Addr} {o : HO} (ha : a ∈ B) (hw : a ∉ W) (h0 : H0 a = none) : Lc I K W B H0 A env r σ (upd H a o) := by
  have ev : Evo (B ++ A.ad) H (upd H a o) := Evo.write (List.mem_append_left _ ha)
  refine ⟨I.keep l.wi fun b hb => upd_ne fun z => hw (by rw [← z]; exact hb), l.wb, l.wt, fun b hb => ?_, fun b nb t => ?_, fun j d h1 h2 => ?_, fun q hq => ?_, l.fresh, l.nb, l.nd, l.len⟩
  · unfold upd; split
    · simp
    · exact l.bt b hb
  · rw [upd_ne (fun z => t (by rw [z]; exact h0))]
    exact l.evo b nb t
  · obtain ⟨v, e1, e2⟩ := l.vals j d h1 h2
    exact ⟨v, e1, e2.keep ev⟩
  · obtain ⟨zs, us, e1, e2, e3, e4⟩ := l.owns q hq
    exact ⟨zs, us, e1, e2, by rw [upd_ne (fun z => l.nb q hq (by rw [z]; exact ha))]; exact e3, e4.keep ev⟩
theorem own_sub {A A' : Own} (sub : ∀ p ∈ A', p ∈ A) (m : A'.map (·.1) = A.map (·.1)) (nd : A.Pairwise fun p q => p.1 ≠ q.1 ∧ p.2 ≠ q.2) : ∀ p ∈ A, p ∈ A' := fun p hp => by
  have h1 : p.1 ∈ A'.map (·.1) := by rw [m]; exact List.mem_map.mpr ⟨p, hp, rfl⟩
  obtain ⟨q, hq, e⟩ := List.mem_map.mp h1
  have h2 := sub q hq
  rcases List.pairwise_iff_getElem.mp nd with hpw
  obtain ⟨i1, hi1, e1⟩ := List.getElem_of_mem h2
  obtain ⟨i2, hi2, e2⟩ := List.getElem_of_mem hp
  rcases Nat.lt_trichotomy i1 i2 with h | h | h
  · have z := (hpw i1 i2 hi1 hi2 h).1
    rw [e1, e2] at z
    exact absurd e z
  · subst h
    rw [e1] at e2
    rw [← e2]
    exact hq
  · have z := (hpw i2 i1 hi2 hi1 h).1
    rw [e1, e2] at z
    exact absurd e.symm z
theorem Evo.poke {W : List Addr} {H H' : Hp} {a : Addr} {o : HO} (e : Evo W H H') (na : H a = none) : Evo W H (upd H' a o) := fun b nb t => by
  rw [upd_ne (fun z => t (by rw [z]; exact na))]
  exact e b nb t
theorem Lc.none0 (l : Lc I K W B H0 A env r σ H) {a : Addr} (na : H a = none) : H0 a = none ∧ a ∉ W := by
  have hw : a ∉ W := fun z => I.at_ l.wi a z na
  refine ⟨?_, hw⟩
  cases z : H0 a with
  | none => rfl
  | some o => rw [l.evo.at_ hw z] at na; cases na
end
theorem PTs.weak {X : Cx} {e : List Expr} {t u : TT} (h : PTs X e t) (w : ∀ σ H Q, u σ H Q → t σ H Q) : PTs X e u := ⟨fun pins s σ H Q i q => h.run pins s σ H Q i (w σ H Q q)⟩
section
variable {ρ : Type} {I : Wd ρ} {X : Cx} {O O' O1 O2 : List Nat} {pos : Pos}
def Tds (I : Wd ρ) (X : Cx) (O : List Nat) (es : List Expr) (f : SB ρ) : Prop := PTs X es (tT I X.K O f)
theorem tds_nil : Tds I X O [] bT :=
  PTs.weak pts_nil fun σ H Q ⟨W, B, H0, A, env, r, d, r', l, ho, hf, q⟩ => by
    cases hf
    exact q H l Evo.refl
theorem tds_one {c : Expr} {f : SB ρ} (h : Td I X O c f) : Tds I X O [c] f := pts_one h
theorem ef_comp {elt tg iter : Expr} {ifs : List Expr} {scope : Scope} {own : List (Str × Nat)} {fi : SA ρ} {g : GD} {ts : List Nat} {ft : SB ρ} {fe : SE ρ} (hc : X.calm = true) (hN : X.N.Nodup) (hi : Wk I X O tg iter fi) (ok : BlkOk X.N X.env.scope scope own)
    (hg : ∀ (s : Shared) (H : Hp) (C : Addr) (cl : List (Str × Addr)) (fp : List Addr), Gd I (X.blk s H scope (compEnvC scope cl C X.env) fp) O tg g ts O)
    (ht : ∀ (s : Shared) (H : Hp) (C : Addr) (cl : List (Str × Addr)) (fp : List Addr), Tds I (X.blk s H scope (compEnvC scope cl C X.env) fp) O ifs ft)
    (he : ∀ (s : Shared) (H : Hp) (C : Addr) (cl : List (Str × Addr)) (fp : List Addr), Ed I (X.blk s H scope (compEnvC scope cl C X.env) fp) O elt fe)
    (hts : ts.all (fun t => (own.map (·.2)).contains t) = true := by rfl) (hO : (own.map (·.2)).all (fun t => !O.contains t) = true := by rfl) (hs : ∀ x, foldedSetIterable iter X.env x = pure x := by intro _; rfl) :
    Ef I X O (.ListComp elt [⟨tg, iter, ifs, 0⟩] scope pos) (eComp fi g ft fe (own.map (·.2))) :=
  PE.weak (pe_lc (g := tG I X.K O O ts g) (tt := tT I X.K O ft) (te := tE I X.K O fe) hc hN hi ok (fun s H C cl fp => (hg s H C cl fp).run) ht he hs) fun σ H Q ⟨W, B, H0, A, env, r, d, r', l, ho, hf, q⟩ => by
    revert hf hts hO
    generalize own.map (·.2) = vs
    intro hts hO hf
    have hts' : ∀ t ∈ ts, t ∈ vs := fun t h => List.contains_iff_mem.mp (List.all_eq_true.mp hts t h)
    have hO' : ∀ i ∈ vs, i ∉ A.map (·.1) := fun i h z => by
      have := List.all_eq_true.mp hO i h
      rw [ho] at z
      rw [List.contains_iff_mem.mpr z] at this
      cases this
    unfold eComp at hf
    obtain ⟨⟨ds, r1⟩, e1, hf⟩ := Option.bind_eq_some_iff.mp hf
    obtain ⟨⟨zs, r2⟩, e2, hf⟩ := Option.bind_eq_some_iff.mp hf
    split at hf
    case isFalse => cases hf
    case isTrue hz =>
    cases hf
    dsimp only at e2 hz
    refine ⟨W, B, H0, A, env, r, ds, r1, l, ho, e1, fun J S H1 l1 ev yl s1 p hp => ?_⟩
    obtain ⟨p0, pW⟩ := l1.none0 hp
    have lp := (l1.wiped hO').hold (r' := r1) (H' := upd H1 p (.lst [])) (I.keep l1.wi fun b hb => upd_ne fun z => pW (by rw [← z]; exact hb)) (Evo.new hp) hp (by rw [upd_same]; simp)
    have sp : S (p :: B ++ A.ad) (upd H1 p (.lst [])) := yl.keep _ _ _ _ s1 (Evo.new hp) fun b hb => by
      rcases List.mem_append.mp hb with z | z
      · rcases List.mem_cons.mp z with z | z
        · exact .inr (by rw [z]; exact hp)
        · exact .inl (List.mem_append_left _ z)
      · exact .inl (List.mem_append_right _ z)
    refine ⟨fun i m H' => i + m = ds.length ∧ ∃ r' acc accD rest, Lc I X.K W (p :: B) H0 A (wipeE env vs) r' (wipe σ vs) H' ∧ Evo W H1 H' ∧ S (p :: B ++ A.ad) H' ∧ H' p = some (.lst acc) ∧ Reps X.K H' (p :: B ++ A.ad) accD acc ∧
        cFold g ft fe (wipeE env vs) (ds.drop i) r' = some (rest, r2) ∧ zs = accD ++ rest,
      ⟨ds.length, by omega, r1, [], [], zs, lp, Evo.new hp, sp, upd_same, .nil, by rw [List.drop_zero]; exact e2, rfl⟩, ?_⟩
    rintro i m H2 ⟨him, r3, acc, accD, rest, l2, ev2, s2, hp2, rs2, e3, hzs⟩
    by_cases hlt : i < ds.length
    · refine .inr ⟨yl.go _ _ _ s2 hlt, _, fun H' z => ⟨m - 1, by omega, z⟩, fun x H3 y => ?_⟩
      obtain ⟨d, e4, ex, rp⟩ := yl.yld _ _ _ _ _ s2 l2.bx hlt y
      have l3 := l2.ext ex
      have s3 := yl.keep _ _ (p :: B ++ A.ad) H3 s2 ex.evo fun b z => .inl z
      rw [List.drop_eq_getElem_cons hlt] at e3
      rw [List.getElem?_eq_getElem hlt] at e4
      cases e4
      unfold cFold at e3
      obtain ⟨env4, g1, e3⟩ := Option.bind_eq_some_iff.mp e3
      obtain ⟨⟨b, r4⟩, g2, e3⟩ := Option.bind_eq_some_iff.mp e3
      refine ⟨W, p :: B, H0, A, wipeE env vs, r3, _, env4, l3, ho, rp, g1, fun A4 σ4 m4 sub4 sl4 so4 l4 => ⟨?_, ?_⟩⟩
      · rw [← wipe_wipe σ vs]
        exact wipe_same sl4 fun j hj => so4 j fun z => hj (hts' j z)
      refine ⟨W, p :: B, H0, A4, env4, r3, b, r4, l4, m4, g2, fun H5 l5 ev5 => ?_⟩
      have same : ∀ b ∈ p :: B ++ A.ad, b ∈ p :: B ++ A4.ad := fun b hb => (List.mem_append.mp hb).elim (fun z => List.mem_append_left _ z) fun z => by
        obtain ⟨w, hw, rfl⟩ := List.mem_map.mp z
        exact List.mem_append_right _ (List.mem_map.mpr ⟨w, own_sub sub4 (m4.trans ho.symm) l.nd w hw, rfl⟩)
      have s5 := yl.keep _ _ (p :: B ++ A.ad) H5 s3 (l3.ev ev5) fun b z => .inl z
      have p5 : H5 p = some (.lst acc) := ev5.at_ pW ((ex.evo (B := [])).at_ (by simp) hp2)
      have rs5 := (rs2.keep ex.evo).keep (l3.ev ev5)
      cases b with
      | false =>
        rw [if_neg Bool.false_ne_true] at e3
        show (ite (_ = true) _ _ : Prop)
        rw [if_neg Bool.false_ne_true]
        exact ⟨by omega, r4, acc, accD, rest, l3.step l5.wi ev5, (ev2.trans ex.evo).trans ev5, s5, p5, rs5, e3, hzs⟩
      | true =>
        rw [if_pos rfl] at e3
        show (ite (_ = true) _ _ : Prop)
        rw [if_pos rfl]
        obtain ⟨⟨dv, r5⟩, g3, e3⟩ := Option.bind_eq_some_iff.mp e3
        obtain ⟨⟨rest2, r6⟩, g4, e3⟩ := Option.map_eq_some_iff.mp e3
        cases e3
        refine ⟨W, p :: B, H0, A4, env4, r4, dv, r5, l5, m4, g3, fun v H6 l6 ev6 rp6 => ?_⟩
        have p6 := ev6.at_ pW p5
        refine ⟨acc, p6, ?_, ?_⟩
        · have : acc.length < zs.length := by rw [hzs, List.length_append, List.length_cons, rs2.length]; omega
          exact Nat.lt_of_lt_of_le this (Nat.le_trans hz big_le)
        · have l3b := l3.step l5.wi ev5
          have evp : Evo (p :: B ++ A.ad) H6 (upd H6 p (.lst (acc ++ [v]))) := Evo.write (List.mem_append_left _ (List.mem_cons_self ..))
          refine ⟨by omega, r5, acc ++ [v], accD ++ [dv], rest2, (l3.step l6.wi (ev5.trans ev6)).poke (List.mem_cons_self ..) pW p0, (((ev2.trans ex.evo).trans ev5).trans ev6).poke hp, yl.keep _ _ _ _ (yl.keep _ _ (p :: B ++ A.ad) H6 s5 (l3b.ev ev6) fun b z => .inl z) evp fun b z => .inl z, upd_same, ?_, g4, by rw [hzs, List.append_assoc]; rfl⟩
          exact ((rs5.keep (l3b.ev ev6)).append (.cons (rp6.less same) .nil)).keep evp
    · have he0 : ds.drop i = [] := List.drop_eq_nil_of_le (Nat.le_of_not_lt hlt)
      rw [he0] at e3
      cases e3
      refine .inl ⟨yl.stop _ _ _ s2 (Nat.le_of_not_lt hlt), ?_⟩
      have hn : H p = none := by
        cases z : H p with
        | none => rfl
        | some o => rw [ev.at_ pW z] at hp; cases hp
      rw [List.append_nil] at hzs
      subst hzs
      exact q p zs acc H2 rfl (l1.step l2.wi ev2) (ev.trans ev2) hn hp2 rs2
theorem put_fst (kvs : List (Key × V)) (xs : List D) (j : Key) (d : D) (v : V) : (putK kvs j v).map (·.1) = (putD (kvs.map (·.1)) xs j d).1 := by
  unfold putK putD
  have e : (kvs.any fun kv => decide (kv.1 = j)) = ((kvs.map (·.1)).any fun k => decide (k = j)) := by rw [List.any_map]; rfl
  rw [e]
  split
  · rw [List.map_map]
    congr 1
    funext kv
    show (if kv.1 = j then (kv.1, v) else kv).1 = kv.1
    split <;> rfl
  · rw [List.map_append]; rfl
theorem put_snd {K : PySem.W.Frag} {H : Hp} {B : List Addr} {j : Key} {d : D} {v : V} (rd : Rep K H B d v) : ∀ {kvs : List (Key × V)} {xs : List D}, Reps K H B xs (kvs.map (·.2)) →
    Reps K H B (List.zipWith (fun k x => if k = j then d else x) (kvs.map (·.1)) xs) ((kvs.map fun kv => if kv.1 = j then (kv.1, v) else kv).map (·.2))
  | [], _, .nil => .nil
  | kv :: kvs, x :: xs, .cons r rs => by
    rw [List.map_cons, List.map_cons, List.map_cons, List.zipWith_cons_cons]
    refine .cons ?_ (put_snd rd rs)
    split <;> assumption
theorem put_reps {K : PySem.W.Frag} {H : Hp} {B : List Addr} {kvs : List (Key × V)} {xs : List D} {j : Key} {d : D} {v : V} (rs : Reps K H B xs (kvs.map (·.2))) (rd : Rep K H B d v) : Reps K H B (putD (kvs.map (·.1)) xs j d).2 ((putK kvs j v).map (·.2)) := by
  unfold putK putD
  have e : (kvs.any fun kv => decide (kv.1 = j)) = ((kvs.map (·.1)).any fun k => decide (k = j)) := by rw [List.any_map]; rfl
  rw [e]
  split
  · exact put_snd rd rs
  · rw [List.map_append]
    exact rs.append (.cons rd .nil)
theorem ed_dcomp {kx vx tg iter : Expr} {ifs : List Expr} {scope : Scope} {own : List (Str × Nat)} {fi : SA ρ} {g : GD} {ts : List Nat} {ft : SB ρ} {fk fe : SE ρ} (hc : X.calm = true) (hN : X.N.Nodup) (hi : Wk I X O tg iter fi) (ok : BlkOk X.N X.env.scope scope own)
    (hg : ∀ (s : Shared) (H : Hp) (C : Addr) (cl : List (Str × Addr)) (fp : List Addr), Gd I (X.blk s H scope (compEnvC scope cl C X.env) fp) O tg g ts O)
    (ht : ∀ (s : Shared) (H : Hp) (C : Addr) (cl : List (Str × Addr)) (fp : List Addr), Tds I (X.blk s H scope (compEnvC scope cl C X.env) fp) O ifs ft)
    (hk : ∀ (s : Shared) (H : Hp) (C : Addr) (cl : List (Str × Addr)) (fp : List Addr), Ed I (X.blk s H scope (compEnvC scope cl C X.env) fp) O kx fk)
    (he : ∀ (s : Shared) (H : Hp) (C : Addr) (cl : List (Str × Addr)) (fp : List Addr), Ed I (X.blk s H scope (compEnvC scope cl C X.env) fp) O vx fe)
    (hts : ts.all (fun t => (own.map (·.2)).contains t) = true := by rfl) (hO : (own.map (·.2)).all (fun t => !O.contains t) = true := by rfl) (hs : ∀ x, foldedSetIterable iter X.env x = pure x := by intro _; rfl) :
    Ed I X O (.DictComp kx vx [⟨tg, iter, ifs, 0⟩] scope pos) (eDComp fi g ft fk fe (own.map (·.2))) :=
  PE.weak (pe_dc (g := tG I X.K O O ts g) (tt := tT I X.K O ft) (tk := tE I X.K O fk) (tv := tE I X.K O fe) hc hN hi ok (fun s H C cl fp => (hg s H C cl fp).run) ht hk he hs) fun σ H Q ⟨W, B, H0, A, env, r, d, r', l, ho, hf, q⟩ => by
    revert hf hts hO
    generalize own.map (·.2) = vs
    intro hts hO hf
    have hts' : ∀ t ∈ ts, t ∈ vs := fun t h => List.contains_iff_mem.mp (List.all_eq_true.mp hts t h)
    have hO' : ∀ i ∈ vs, i ∉ A.map (·.1) := fun i h z => by
      have := List.all_eq_true.mp hO i h
      rw [ho] at z
      rw [List.contains_iff_mem.mpr z] at this
      cases this
    unfold eDComp at hf
    obtain ⟨⟨ds, r1⟩, e1, hf⟩ := Option.bind_eq_some_iff.mp hf
    obtain ⟨⟨ks, zs, r2⟩, e2, hf⟩ := Option.map_eq_some_iff.mp hf
    cases hf
    dsimp only at e2
    refine ⟨W, B, H0, A, env, r, ds, r1, l, ho, e1, fun J S H1 l1 ev yl s1 p hp => ?_⟩
    obtain ⟨p0, pW⟩ := l1.none0 hp
    have lp := (l1.wiped hO').hold (r' := r1) (H' := upd H1 p (.dK [])) (I.keep l1.wi fun b hb => upd_ne fun z => pW (by rw [← z]; exact hb)) (Evo.new hp) hp (by rw [upd_same]; simp)
    have sp : S (p :: B ++ A.ad) (upd H1 p (.dK [])) := yl.keep _ _ _ _ s1 (Evo.new hp) fun b hb => by
      rcases List.mem_append.mp hb with z | z
      · rcases List.mem_cons.mp z with z | z
        · exact .inr (by rw [z]; exact hp)
        · exact .inl (List.mem_append_left _ z)
      · exact .inl (List.mem_append_right _ z)
    refine ⟨fun i m H' => i + m = ds.length ∧ ∃ r' kvs accD, Lc I X.K W (p :: B) H0 A (wipeE env vs) r' (wipe σ vs) H' ∧ Evo W H1 H' ∧ S (p :: B ++ A.ad) H' ∧ H' p = some (.dK kvs) ∧ Reps X.K H' (p :: B ++ A.ad) accD (kvs.map (·.2)) ∧
        dFold g ft fk fe (wipeE env vs) (ds.drop i) r' (kvs.map (·.1)) accD = some (ks, zs, r2),
      ⟨ds.length, by omega, r1, [], [], lp, Evo.new hp, sp, upd_same, .nil, by rw [List.drop_zero]; exact e2⟩, ?_⟩
    rintro i m H2 ⟨him, r3, kvs, accD, l2, ev2, s2, hp2, rs2, e3⟩
    by_cases hlt : i < ds.length
    · refine .inr ⟨yl.go _ _ _ s2 hlt, _, fun H' z => ⟨m - 1, by omega, z⟩, fun x H3 y => ?_⟩
      obtain ⟨d, e4, ex, rp⟩ := yl.yld _ _ _ _ _ s2 l2.bx hlt y
      have l3 := l2.ext ex
      have s3 := yl.keep _ _ (p :: B ++ A.ad) H3 s2 ex.evo fun b z => .inl z
      rw [List.drop_eq_getElem_cons hlt] at e3
      rw [List.getElem?_eq_getElem hlt] at e4
      cases e4
      unfold dFold at e3
      obtain ⟨env4, g1, e3⟩ := Option.bind_eq_some_iff.mp e3
      obtain ⟨⟨b, r4⟩, g2, e3⟩ := Option.bind_eq_some_iff.mp e3
      refine ⟨W, p :: B, H0, A, wipeE env vs, r3, _, env4, l3, ho, rp, g1, fun A4 σ4 m4 sub4 sl4 so4 l4 => ⟨?_, ?_⟩⟩
      · rw [← wipe_wipe σ vs]
        exact wipe_same sl4 fun j hj => so4 j fun z => hj (hts' j z)
      refine ⟨W, p :: B, H0, A4, env4, r3, b, r4, l4, m4, g2, fun H5 l5 ev5 => ?_⟩
      have same : ∀ b ∈ p :: B ++ A.ad, b ∈ p :: B ++ A4.ad := fun b hb => (List.mem_append.mp hb).elim (fun z => List.mem_append_left _ z) fun z => by
        obtain ⟨w, hw, rfl⟩ := List.mem_map.mp z
        exact List.mem_append_right _ (List.mem_map.mpr ⟨w, own_sub sub4 (m4.trans ho.symm) l.nd w hw, rfl⟩)
      have s5 := yl.keep _ _ (p :: B ++ A.ad) H5 s3 (l3.ev ev5) fun b z => .inl z
      have p5 : H5 p = some (.dK kvs) := ev5.at_ pW ((ex.evo (B := [])).at_ (by simp) hp2)
      have rs5 := (rs2.keep ex.evo).keep (l3.ev ev5)
      cases b with
      | false =>
        rw [if_neg Bool.false_ne_true] at e3
        show (ite (_ = true) _ _ : Prop)
        rw [if_neg Bool.false_ne_true]
        exact ⟨by omega, r4, kvs, accD, l3.step l5.wi ev5, (ev2.trans ex.evo).trans ev5, s5, p5, rs5, e3⟩
      | true =>
        rw [if_pos rfl] at e3
        show (ite (_ = true) _ _ : Prop)
        rw [if_pos rfl]
        obtain ⟨⟨dk, r5⟩, g3, e3⟩ := Option.bind_eq_some_iff.mp e3
        obtain ⟨⟨dv, r6⟩, g4, e3⟩ := Option.bind_eq_some_iff.mp e3
        obtain ⟨k, g5, e3⟩ := Option.bind_eq_some_iff.mp e3
        split at e3
        case isFalse => cases e3
        case isTrue hb =>
        refine ⟨W, p :: B, H0, A4, env4, r4, dk, r5, l5, m4, g3, fun y1 H6 l6 ev6 rp6 => ?_⟩
        refine ⟨W, p :: B, H0, A4, env4, r5, dv, r6, l6, m4, g4, fun v H7 l7 ev7 rp7 => ?_⟩
        have p7 := ev7.at_ pW (ev6.at_ pW p5)
        refine ⟨kvs, k, RepA.key (.inl rp6) g5, p7, ?_, ?_⟩
        · rw [List.length_map] at hb
          exact Nat.lt_of_lt_of_le hb big_le
        · have evp : Evo (p :: B ++ A.ad) H7 (upd H7 p (.dK (putK kvs k v))) := Evo.write (List.mem_append_left _ (List.mem_cons_self ..))
          have l3b := l3.step l5.wi ev5
          have l3c := l3b.step l7.wi (ev6.trans ev7)
          refine ⟨by omega, r6, putK kvs k v, (putD (kvs.map (·.1)) accD k dv).2, l3c.poke (List.mem_cons_self ..) pW p0, ((((ev2.trans ex.evo).trans ev5).trans ev6).trans ev7).poke hp, yl.keep _ _ _ _ (yl.keep _ _ (p :: B ++ A.ad) H7 s5 (l3b.ev (ev6.trans ev7)) fun b z => .inl z) evp fun b z => .inl z, upd_same, ?_, ?_⟩
          · exact (put_reps (rs5.keep (l3b.ev (ev6.trans ev7))) (rp7.less same)).keep evp
          · rw [put_fst kvs accD k dv v]; exact e3
    · have he0 : ds.drop i = [] := List.drop_eq_nil_of_le (Nat.le_of_not_lt hlt)
      rw [he0] at e3
      cases e3
      refine .inl ⟨yl.stop _ _ _ s2 (Nat.le_of_not_lt hlt), ?_⟩
      exact q (.ref p) H2 (l1.step l2.wi ev2) (ev.trans ev2) (.dct (l1.notin hp) hp2 (rs2.less fun b hb => by
        rcases List.mem_append.mp hb with z | z
        · exact List.mem_append_left _ (List.mem_cons_of_mem _ z)
        · exact List.mem_append_right _ z))
end
end DL
end
section
set_option Elab.async false
set_option linter.all false
set_option maxRecDepth 100000
set_option maxHeartbeats 2000000
/-! The data layer, 12: parallel assignments; a def from its body. -/
namespace DL
open PySem PySem.Spec PyProof.Rows L2
inductive RK (K : PySem.W.Frag) (H : Hp) (Z : List Addr) : List Addr → List Bool → List D → List V → Prop
  | nil : RK K H Z [] [] [] []
  | d {F : List Addr} {ks : List Bool} {ds : List D} {vs : List V} {d : D} {v : V} : Rep K H Z d v → RK K H Z F ks ds vs → RK K H Z F (false :: ks) (d :: ds) (v :: vs)
  | f {F : List Addr} {ks : List Bool} {ds : List D} {vs ws : List V} {a : Addr} {xs : List D} : H a = some (.lst ws) → Reps K H Z xs ws → RK K H Z F ks ds vs → RK K H Z (a :: F) (true :: ks) (.lst xs :: ds) (.ref a :: vs)
theorem RK.less {K : PySem.W.Frag} {H : Hp} {Z Z' : List Addr} (s : ∀ b ∈ Z', b ∈ Z) : ∀ {F : List Addr} {ks : List Bool} {ds : List D} {vs : List V}, RK K H Z F ks ds vs → RK K H Z' F ks ds vs
  | _, _, _, _, .nil => .nil
  | _, _, _, _, .d r t => .d (r.less s) (t.less s)
  | _, _, _, _, .f h r t => .f h (r.less s) (t.less s)
theorem RK.len {K : PySem.W.Frag} {H : Hp} {Z : List Addr} : ∀ {F : List Addr} {ks : List Bool} {ds : List D} {vs : List V}, RK K H Z F ks ds vs → vs.length = ks.length
  | _, _, _, _, .nil => rfl
  | _, _, _, _, .d _ t => by rw [List.length_cons, List.length_cons, t.len]
  | _, _, _, _, .f _ _ t => by rw [List.length_cons, List.length_cons, t.len]
def own1 (i : Nat) (k : Bool) (O : List Nat) : List Nat := if k = true then i :: O.filter (fun j => j != i) else O.filter (fun j => j != i)
def ownAll : List Nat → List Bool → List Nat → List Nat
  | i :: is, k :: ks, O => ownAll is ks (own1 i k O)
  | _, _, O => O
def setV : List Nat → List V → L2.St → L2.St
  | i :: is, v :: vs, σ => setV is vs (σ.set i (some v))
  | _, _, σ => σ
section
variable {ρ : Type} {I : Wd ρ} {K : PySem.W.Frag} {W B B' : List Addr} {H0 : Hp} {A A' : Own} {env : Env} {r r' : ρ} {σ : L2.St} {H H' : Hp}
theorem Lc.same (l : Lc I K W B H0 A env r σ H) (e : ∀ b, b ∈ B ↔ b ∈ B') : Lc I K W B' H0 A env r σ H := by
  have s : ∀ b ∈ B' ++ A.ad, b ∈ B ++ A.ad := fun b z => (List.mem_append.mp z).elim (fun z => List.mem_append_left _ ((e b).mpr z)) fun z => List.mem_append_right _ z
  refine ⟨l.wi, fun b z => (e b).mp (l.wb b z), l.wt, fun b z => l.bt b ((e b).mpr z), l.evo, fun i d h1 h2 => ?_, fun p hp => ?_, l.fresh, fun p hp z => l.nb p hp ((e _).mpr z), l.nd, l.len⟩
  · obtain ⟨v, h3, h4⟩ := l.vals i d h1 h2
    exact ⟨v, h3, h4.less s⟩
  · obtain ⟨xs, vs, h1, h2, h3, h4⟩ := l.owns p hp
    exact ⟨xs, vs, h1, h2, h3, h4.less s⟩
/-- a held list goes to a slot -/
theorem Lc.adopt {a : Addr} {i : Nat} {xs : List D} {vs : List V} (l : Lc I K W (a :: B) H0 A env r σ H) (nw : a ∉ W) (nb : a ∉ B) (fr : H0 a = none) (hi : i < env.length) (ha : H a = some (.lst vs)) (rs : Reps K H (a :: (B ++ A.ad)) xs vs) :
    Lc I K W B H0 ((i, a) :: A.filter fun p => p.1 != i) (env.set i (some (.lst xs))) r (σ.set i (some (V.ref a))) H := by
  have sub : ∀ q ∈ A.filter (fun p => p.1 != i), q ∈ A := fun q hq => (List.mem_filter.mp hq).1
  have ne : ∀ q ∈ A.filter (fun p => p.1 != i), i ≠ q.1 := fun q hq => (bne_iff_ne.mp (List.mem_filter.mp hq).2).symm
  have subx : ∀ b ∈ B ++ Own.ad ((i, a) :: A.filter fun p => p.1 != i), b ∈ (a :: B) ++ A.ad := fun b hb => by
    rcases List.mem_append.mp hb with z | z
    · exact List.mem_append_left _ (List.mem_cons_of_mem _ z)
    · rcases List.mem_cons.mp z with z | z
      · rw [z]; exact List.mem_append_left _ (List.mem_cons_self ..)
      · exact List.mem_append_right _ (ad_sub sub b z)
  refine ⟨l.wi, fun b z => ?_, l.wt, fun b z => l.bt b (List.mem_cons_of_mem _ z), l.evo, fun j d2 h1 h2 => ?_, fun q hq => ?_, fun q hq => ?_, fun q hq => ?_, ?_, by rw [List.length_set, List.length_set]; exact l.len⟩
  · rcases List.mem_cons.mp (l.wb b z) with e | e
    · rw [e] at z; exact absurd z nw
    · exact e
  · have hj : i ≠ j := fun e => h2 (by rw [e]; simp)
    rw [List.getElem?_set_ne hj] at h1
    have h3 : j ∉ (A.filter fun p => p.1 != i).map (·.1) := fun z => h2 (by rw [List.map_cons]; exact List.mem_cons_of_mem _ z)
    have h4 : j ∉ A.map (·.1) := fun z => by
      obtain ⟨q, hq, rfl⟩ := List.mem_map.mp z
      exact h3 (List.mem_map.mpr ⟨q, List.mem_filter.mpr ⟨hq, bne_iff_ne.mpr (Ne.symm hj)⟩, rfl⟩)
    obtain ⟨u, e1, e2⟩ := l.vals j d2 h1 h4
    exact ⟨u, by rw [List.getElem?_set_ne hj]; exact e1, e2.less subx⟩
  · rcases List.mem_cons.mp hq with z | z
    · subst z
      exact ⟨xs, vs, List.getElem?_set_self hi, List.getElem?_set_self (by rw [← l.len]; exact hi), ha, rs.less subx⟩
    · obtain ⟨ys, ws, e1, e2, e3, e4⟩ := l.owns q (sub q z)
      exact ⟨ys, ws, by rw [List.getElem?_set_ne (ne q z)]; exact e1, by rw [List.getElem?_set_ne (ne q z)]; exact e2, e3, e4.less subx⟩
  · rcases List.mem_cons.mp hq with z | z
    · subst z; exact fr
    · exact l.fresh q (sub q z)
  · rcases List.mem_cons.mp hq with z | z
    · subst z; exact nb
    · exact fun y => l.nb q (sub q z) (List.mem_cons_of_mem _ y)
  · refine List.pairwise_cons.mpr ⟨fun q hq => ⟨ne q hq, fun e => ?_⟩, l.nd.filter _⟩
    have e' : a = q.2 := e
    exact l.nb q (sub q hq) (by rw [← e']; exact List.mem_cons_self ..)
theorem Lc.puts {Z : List Addr} : ∀ {is : List Nat} {ks : List Bool} {ds : List D} {vs : List V} {F : List Addr} {A : Own} {env : Env} {σ : L2.St}, is.length = ks.length → Lc I K W (F ++ B) H0 A env r σ H → RK K H Z F ks ds vs → (∀ b ∈ (F ++ B) ++ A.ad, b ∈ Z) → F.Nodup →
    (∀ a ∈ F, H0 a = none ∧ a ∉ W ∧ a ∉ B) → (∀ i ∈ is, i < env.length) →
    ∃ A', A'.map (·.1) = ownAll is ks (A.map (·.1)) ∧ (∀ p ∈ A', p ∈ A ∨ p.2 ∈ F) ∧ Lc I K W B H0 A' (setAll is ds env) r (setV is vs σ) H
  | [], _, _, _, _, A, env, σ, hl, l, .nil, hz, nd, hf, hi => ⟨A, rfl, fun p hp => .inl hp, l⟩
  | [], _, _, _, _, A, env, σ, hl, l, .d _ _, hz, nd, hf, hi => by simp at hl
  | [], _, _, _, _, A, env, σ, hl, l, .f _ _ _, hz, nd, hf, hi => by simp at hl
  | i :: is, _, _, _, _, A, env, σ, hl, l, .nil, hz, nd, hf, hi => by simp at hl
  | i :: is, _, _, _, F, A, env, σ, hl, l, .d rp t, hz, nd, hf, hi => by
    have l2 := l.set (i := i) (rp.less hz)
    obtain ⟨A', m, sub, l3⟩ := Lc.puts (by simpa using hl) l2 t (fun b hb => hz b (bx_sub (fun q hq => (List.mem_filter.mp hq).1) b hb)) nd hf (fun j hj => by rw [List.length_set]; exact hi j (List.mem_cons_of_mem _ hj))
    refine ⟨A', ?_, fun p hp => (sub p hp).imp (fun z => (List.mem_filter.mp z).1) id, l3⟩
    rw [m, map_filter_ne]
    rfl
  | i :: is, _, _, _, a :: F, A, env, σ, hl, l, .f ha rs t, hz, nd, hf, hi => by
    obtain ⟨h1, h2, h3⟩ := hf a (List.mem_cons_self ..)
    obtain ⟨n1, n2⟩ := List.nodup_cons.mp nd
    have l2 := Lc.adopt (i := i) (B := F ++ B) l h2 (fun z => (List.mem_append.mp z).elim n1 h3) h1 (hi i (List.mem_cons_self ..)) ha (rs.less hz)
    obtain ⟨A', m, sub, l3⟩ := Lc.puts (by simpa using hl) l2 t (fun b hb => by
      rcases List.mem_append.mp hb with z | z
      · exact hz b (List.mem_append_left _ (List.mem_cons_of_mem _ z))
      · rcases List.mem_cons.mp z with z | z
        · rw [z]; exact hz a (List.mem_append_left _ (List.mem_cons_self ..))
        · exact hz b (List.mem_append_right _ (ad_sub (fun q hq => (List.mem_filter.mp hq).1) b z))) n2 (fun b hb => hf b (List.mem_cons_of_mem _ hb)) (fun j hj => by rw [List.length_set]; exact hi j (List.mem_cons_of_mem _ hj))
    refine ⟨A', ?_, fun p hp => ?_, l3⟩
    · rw [m, List.map_cons, map_filter_ne]
      rfl
    · rcases sub p hp with z | z
      · rcases List.mem_cons.mp z with z | z
        · rw [z]; exact .inr (List.mem_cons_self ..)
        · exact .inl (List.mem_filter.mp z).1
      · exact .inr (List.mem_cons_of_mem _ z)
end
section
variable {ρ : Type} {I : Wd ρ} {X : Cx} {O O' O1 O2 : List Nat} {pos : Pos}
def tP (I : Wd ρ) (K : PySem.W.Frag) (O : List Nat) (ks : List Bool) (f : SA ρ) : TA := fun σ H Q => ∃ W B H0 A env r ds r', Lc I K W B H0 A env r σ H ∧ A.map (·.1) = O ∧ f env r = some (ds, r') ∧
  ∀ F vs H', Lc I K W (F ++ B) H0 A env r' σ H' → Evo W H H' → (∀ a ∈ F, H a = none) → F.Nodup → RK K H' ((F ++ B) ++ A.ad) F ks ds vs → Q vs H'
def Pd (I : Wd ρ) (X : Cx) (O : List Nat) (es : List Expr) (ks : List Bool) (f : SA ρ) : Prop := PA X es (tP I X.K O ks f)
theorem pd_nil : Pd I X O [] [] aNil :=
  PA.weak pa_nil fun σ H Q ⟨W, B, H0, A, env, r, d, r', l, ho, hf, q⟩ => by
    cases hf
    exact q [] [] H l Evo.refl (fun a h => by cases h) .nil .nil
theorem pd_d {e : Expr} {es : List Expr} {ks : List Bool} {f : SE ρ} {g : SA ρ} (h : Ed I X O e f) (hs : Pd I X O es ks g) (hst : starEach (e :: es) X.env = (false, eval e X.env) :: starEach es X.env := by rfl) : Pd I X O (e :: es) (false :: ks) (aCons f g) :=
  PA.weak (pa_cons h hs hst) fun σ H Q ⟨W, B, H0, A, env, r, d, r', l, ho, hf, q⟩ => by
    unfold aCons at hf
    obtain ⟨⟨d1, r1⟩, e1, hf⟩ := Option.bind_eq_some_iff.mp hf
    obtain ⟨⟨d2, r2⟩, e2, hf⟩ := Option.map_eq_some_iff.mp hf
    cases hf
    refine ⟨W, B, H0, A, env, r, d1, r1, l, ho, e1, fun v1 H1 l1 ev1 rp1 => ?_⟩
    refine ⟨W, B, H0, A, env, r1, d2, r2, l1, ho, e2, fun F vs H2 l2 ev2 hF nd rk => ?_⟩
    refine q F _ H2 l2 (ev1.trans ev2) (fun a ha => ?_) nd (.d (Rep.evo (l1.ev ev2) (fun b hb => ?_) _ _ rp1) rk)
    · have n1 := hF a ha
      cases z : H a with
      | none => rfl
      | some o => rw [ev1.at_ (l1.none0 n1).2 z] at n1; cases n1
    · rcases List.mem_append.mp hb with z | z
      · rcases List.mem_append.mp z with z | z
        · exact .inr (hF b z)
        · exact .inl (List.mem_append_left _ z)
      · exact .inl (List.mem_append_right _ z)
theorem pd_f {e : Expr} {es : List Expr} {ks : List Bool} {f : SE ρ} {g : SA ρ} (hl : ∀ env r d r', f env r = some (d, r') → ∃ xs, d = .lst xs) (h : Ef I X O e f) (hs : Pd I X O es ks g) (hst : starEach (e :: es) X.env = (false, eval e X.env) :: starEach es X.env := by rfl) : Pd I X O (e :: es) (true :: ks) (aCons f g) :=
  PA.weak (pa_cons h hs hst) fun σ H Q ⟨W, B, H0, A, env, r, d, r', l, ho, hf, q⟩ => by
    unfold aCons at hf
    obtain ⟨⟨d1, r1⟩, e1, hf⟩ := Option.bind_eq_some_iff.mp hf
    obtain ⟨⟨d2, r2⟩, e2, hf⟩ := Option.map_eq_some_iff.mp hf
    cases hf
    obtain ⟨zs, rfl⟩ := hl _ _ _ _ e1
    refine ⟨W, B, H0, A, env, r, _, r1, l, ho, e1, fun a xs ws H1 eq l1 ev1 na ha rs => ?_⟩
    cases eq
    have lh := l.hold l1.wi ev1 na (by rw [ha]; simp)
    have aW := (l.none0 na).2
    refine ⟨W, a :: B, H0, A, env, r1, d2, r2, lh, ho, e2, fun F vs H2 l2 ev2 hF nd rk => ?_⟩
    have pm : ∀ b, b ∈ F ++ a :: B ↔ b ∈ (a :: F) ++ B := fun b => by simp only [List.mem_append, List.mem_cons, List.cons_append]; constructor <;> (rintro (h | h | h)) <;> simp [h]
    refine q (a :: F) _ H2 (l2.same pm) (ev1.trans ev2) (fun b hb => ?_) (List.nodup_cons.mpr ⟨fun z => ?_, nd⟩) (.f (ev2.at_ aW ha) (Reps.evo (lh.ev ev2) (fun b hb => ?_) _ _ rs) (rk.less fun b hb => ?_))
    · rcases List.mem_cons.mp hb with z | z
      · rw [z]; exact na
      · have n1 := hF b z
        cases y : H b with
        | none => rfl
        | some o => rw [ev1.at_ (l1.none0 n1).2 y] at n1; cases n1
    · have := hF a z
      rw [ha] at this; cases this
    · rcases List.mem_append.mp hb with z | z
      · rcases List.mem_append.mp ((pm b).mpr z) with z | z
        · exact .inr (hF b z)
        · exact .inl (List.mem_append_left _ z)
      · exact .inl (List.mem_append_right _ z)
    · rcases List.mem_append.mp hb with z | z
      · exact List.mem_append_left _ ((pm b).mpr z)
      · exact List.mem_append_right _ z
/-- the stores of a parallel assignment -/
theorem par_core {D : Ends} {σ : L2.St} {H : Hp} {W B : List Addr} {H0 : Hp} {A : Own} {env : Env} {r : ρ} {is : List Nat} {ks : List Bool} {f : SA ρ} (l : Lc I X.K W B H0 A env r σ H) (ho : A.map (·.1) = O) (hk : is.length = ks.length)
    (k : Post I X.K W B H0 A (ownAll is ks O) D H (sPar is f env r)) : tP I X.K O ks f σ H fun vs H1 => vs.length = ks.length ∧ D.nx (setV is vs σ) H1 := by
  unfold sPar at k
  cases e1 : f env r with
  | none => rw [e1] at k; exact k.elim
  | some p =>
    obtain ⟨ds, r1⟩ := p
    rw [e1, Option.bind_some] at k
    split at k
    · rename_i hi
      refine ⟨W, B, H0, A, env, r, ds, r1, l, ho, e1, fun F vs H1 l1 ev hF nd rk => ⟨rk.len, ?_⟩⟩
      obtain ⟨A', m, sub, l2⟩ := Lc.puts hk l1 rk (fun b hb => hb) nd (fun a ha => ⟨(l.none0 (hF a ha)).1, (l.none0 (hF a ha)).2, fun z => l.bt a z (hF a ha)⟩) (fun i hi' => of_decide_eq_true (List.all_eq_true.mp hi i hi'))
      refine k A' _ H1 (by rw [m, ho]) l2 ⟨ev.mono fun b z => List.mem_append_left _ z, fun p hp => ?_⟩
      rcases sub p hp with z | z
      · exact .inl (List.mem_map.mpr ⟨p, z, rfl⟩)
      · exact .inr (hF _ z)
    · exact k.elim
theorem sd_par2 {i j : Nat} {x y : Str} {a b : Expr} {f : SA ρ} {k1 k2' : Bool} {px py pt : Pos} {kt k2 pt2} (hc : X.calm = true) (hN : X.N.Nodup) (ha : Pd I X O [a, b] [k1, k2'] f) (hi : X.N[i]? = some x := by rfl) (hj : X.N[j]? = some y := by rfl) (hij : i ≠ j := by decide)
    (hx : X.env.scope.names.lookup x = some .local := by rfl) (hy : X.env.scope.names.lookup y = some .local := by rfl)
    (hw : swappedStores [.Tuple [.Name x px, .Name y py] kt pt] (.Tuple [a, b] k2 pt2) X.env = pure (some [x, y]) := by rfl)
    (hs : swapsWithSole [.Tuple [.Name x px, .Name y py] kt pt] (.Tuple [a, b] k2 pt2) pos.line X.env = pure false := by rfl) :
    Sd I X O (.Assign [.Tuple [.Name x px, .Name y py] kt pt] (.Tuple [a, b] k2 pt2) pos) (sPar [i, j] f) (ownAll [i, j] [k1, k2'] O) :=
  Sd.of (ps_par hc hN hi hj hij hx hy ha hw hs) fun D σ H W B H0 A env r l ho k => by
    obtain ⟨W', B', H0', A', env', r0, ds, r1, l', ho', e1, q⟩ := par_core l ho (show ([i, j] : List Nat).length = ([k1, k2'] : List Bool).length from rfl) k
    refine ⟨W', B', H0', A', env', r0, ds, r1, l', ho', e1, fun F vs H1 l1 ev hF nd rk => ?_⟩
    obtain ⟨h1, h2⟩ := q F vs H1 l1 ev hF nd rk
    match vs, h1, h2 with
    | [v, w], _, h2 => exact ⟨v, w, rfl, h2⟩
theorem sd_par3 {i j m : Nat} {x y z : Str} {a b c : Expr} {f : SA ρ} {k1 k2' k3 : Bool} {px py pz pt : Pos} {kt k2 pt2} (hc : X.calm = true) (hN : X.N.Nodup) (ha : Pd I X O [a, b, c] [k1, k2', k3] f) (hi : X.N[i]? = some x := by rfl) (hj : X.N[j]? = some y := by rfl) (hm : X.N[m]? = some z := by rfl) (hij : i ≠ j := by decide) (him : i ≠ m := by decide) (hjm : j ≠ m := by decide)
    (hx : X.env.scope.names.lookup x = some .local := by rfl) (hy : X.env.scope.names.lookup y = some .local := by rfl) (hz : X.env.scope.names.lookup z = some .local := by rfl)
    (hw : swappedStores [.Tuple [.Name x px, .Name y py, .Name z pz] kt pt] (.Tuple [a, b, c] k2 pt2) X.env = pure (some [x, y, z]) := by rfl)
    (hs : swapsWithSole [.Tuple [.Name x px, .Name y py, .Name z pz] kt pt] (.Tuple [a, b, c] k2 pt2) pos.line X.env = pure false := by rfl) :
    Sd I X O (.Assign [.Tuple [.Name x px, .Name y py, .Name z pz] kt pt] (.Tuple [a, b, c] k2 pt2) pos) (sPar [i, j, m] f) (ownAll [i, j, m] [k1, k2', k3] O) :=
  Sd.of (ps_par3 hc hN hi hj hm hij him hjm hx hy hz ha hw hs) fun D σ H W B H0 A env r l ho k => by
    obtain ⟨W', B', H0', A', env', r0, ds, r1, l', ho', e1, q⟩ := par_core l ho (show ([i, j, m] : List Nat).length = ([k1, k2', k3] : List Bool).length from rfl) k
    refine ⟨W', B', H0', A', env', r0, ds, r1, l', ho', e1, fun F vs H1 l1 ev hF nd rk => ?_⟩
    obtain ⟨h1, h2⟩ := q F vs H1 l1 ev hF nd rk
    match vs, h1, h2 with
    | [v, w, u], _, h2 => exact ⟨v, w, u, rfl, h2⟩
end

/-! ### a def from its body -/
def startE (N : List Str) (ds : List D) : Env := ds.map some ++ List.replicate (N.length - ds.length) none
def outD {ρ : Type} : Out ρ → D × ρ
  | .nx _ r => (.non, r)
  | .ret d r => (d, r)
def gOf {ρ : Type} (N : List Str) (f : SS ρ) : List D → ρ → Option (D × ρ) := fun ds r => (f (startE N ds) r).map outD
section
variable {ρ : Type} {I : Wd ρ} {K : PySem.W.Frag} {P : Program} {w : World} {mg : Str → Option Value} {base : Heap}
theorem start_lc {W B : List Addr} {H : Hp} {r : ρ} {ds : List D} {vs : List V} {N : List Str} (wi : I.inv W r H) (wb : ∀ b ∈ W, b ∈ B) (bt : ∀ b ∈ B, H b ≠ none) (rs : Reps K H B ds vs) : Lc I K W B H [] (startE N ds) r (start N vs) H := by
  refine ⟨wi, wb, fun b hb => bt b (wb b hb), bt, Evo.refl, fun i d h1 h2 => ?_, fun p hp => (by cases hp), fun p hp => (by cases hp), fun p hp => (by cases hp), .nil, ?_⟩
  · unfold startE at h1
    by_cases hi : i < ds.length
    · rw [List.getElem?_append_left (by rw [List.length_map]; exact hi), List.getElem?_map] at h1
      cases e : ds[i]? with
      | none => rw [e] at h1; cases h1
      | some d2 =>
        rw [e] at h1
        cases h1
        obtain ⟨v, e2, r2⟩ := rs.at_ e
        refine ⟨v, ?_, r2.less fun b hb => (List.mem_append.mp hb).elim id fun z => by cases z⟩
        unfold L2.start
        rw [List.getElem?_append_left (by rw [List.length_map, ← rs.length]; exact hi), List.getElem?_map, e2]
        rfl
    · rw [List.getElem?_append_right (by rw [List.length_map]; omega), List.getElem?_replicate] at h1
      split at h1 <;> cases h1
  · unfold startE L2.start
    rw [List.length_append, List.length_append, List.length_map, List.length_map, List.length_replicate, List.length_replicate, rs.length]
theorem fnok_of {x qual : Str} {params : Arguments} {body : List Stmt} {scope : Scope} {f : Addr} {fd : FuncData} {N ps : List Str} {k : Nat} {sf : SS ρ} {O' : List Nat} (F : FunD K x qual params body scope [] [] f fd) (S : FnScope N ps scope)
    (hbody : ∀ (cdv : Value) (A : Around) (outer : List PySem.Env) (s : Shared) (H : Hp) (E : XK), Room k (A.deeper (envOfC qual scope s.heap.objs.size f cdv)) → Bd I (cxOf CX0 P w K mg base N qual scope f cdv A outer s H E).nox [] body sf O') :
    FnOk P w K mg base CX0 (k + 1) f fd ps (spD I K ps.length (gOf N sf)) := by
  refine F.ok S (fun vs H Q E h => h.1) fun cdv A outer s H vs Q E hr h => ?_
  obtain ⟨hl, W, B, r, ds, d, r', wi, wb, bt, rs, hg, q⟩ := h
  refine ⟨_, PSs.nox (hbody cdv A outer s H E hr), tS_out ⟨W, B, H, [], startE N ds, r, start_lc wi wb bt rs, rfl, ?_⟩⟩
  unfold gOf at hg
  obtain ⟨o, e1, e2⟩ := Option.map_eq_some_iff.mp hg
  rw [e1]
  cases o with
  | nx e r2 =>
    cases e2
    exact fun A' σ' H' m l f => q .non H' l.wi l.evo .non
  | ret d2 r2 =>
    cases e2
    exact fun v H' ev wi rp => q v H' wi ev rp
theorem fnD_of {x qual : Str} {params : Arguments} {body : List Stmt} {scope : Scope} {f : Addr} {fd : FuncData} {N ps : List Str} {k : Nat} {sf : SS ρ} {O' : List Nat} (F : FunD K x qual params body scope [] [] f fd) (S : FnScope N ps scope) (hm : mg x = some (.ref f))
    (hb : ∀ (kV doc pm : Value) (an : Option Addr) (cdv ct : Value) (us : List Value), us.length = ps.length → bindArgs (PySem.W.fnOf x qual params body scope .none kV doc pm an cdv ct) ⟨us, []⟩ = pure (ps.zip us))
    (hbody : ∀ (cdv : Value) (A : Around) (outer : List PySem.Env) (s : Shared) (H : Hp) (E : XK), Room k (A.deeper (envOfC qual scope s.heap.objs.size f cdv)) → Bd I (cxOf CX0 P w K mg base N qual scope f cdv A outer s H E).nox [] body sf O') :
    Fn I K P w mg base (k + 1) x ps.length (gOf N sf) := ⟨f, fd, ps, fnok_of F S hbody, hm, F.kp, F.bindsN hb⟩
/-- with no fuel nothing is promised -/
theorem fn_zero {x qual : Str} {params : Arguments} {body : List Stmt} {scope : Scope} {f : Addr} {fd : FuncData} {ps : List Str} {k n : Nat} (F : FunD K x qual params body scope [] [] f fd) (hm : mg x = some (.ref f))
    (hb : ∀ (kV doc pm : Value) (an : Option Addr) (cdv ct : Value) (us : List Value), us.length = ps.length → bindArgs (PySem.W.fnOf x qual params body scope .none kV doc pm an cdv ct) ⟨us, []⟩ = pure (ps.zip us)) :
    Fn I K P w mg base k x n (fun _ _ => none) := by
  have no : ∀ vs H Q E, ¬ spD I K n (fun _ _ => none) vs H Q E := fun vs H Q E h => by
    obtain ⟨hl, W, B, r, ds, d, r', wi, wb, bt, rs, hg, q⟩ := h
    cases hg
  exact ⟨f, fd, ps, ⟨fun vs H Q E h => (no _ _ _ _ h).elim, fun A outer s H args us vs Q E hr h0 hb hv h => (no _ _ _ _ h).elim⟩, hm, F.kp, F.bindsN hb⟩
end
end DL
end
section
set_option Elab.async false
set_option linter.all false
set_option maxRecDepth 100000
set_option maxHeartbeats 4000000
/-! The data layer, 13: times; dict displays; calls by keywords. -/
namespace L2
open PySem PySem.Spec PyProof.Rows
theorem tuple_mul_one (l : Addr) (items : Array Value) (n : Nat) (dd : Option Addr) (sl : Array (Option Value)) (u : Tok) :
    Meets (Builtin.«tuple.__mul__» ⟨[.ref l, .int 1 u], []⟩) (fun _ R s => s.heap.get? l = some { cls := .type "tuple", dict := dd, data := .seq items n, slots := sl } ∧ R (.ok (.ret (Value.ref l))) s) :=
  .of_wp fun prog w A R s h => by
    obtain ⟨hp, g, d, tk, os⟩ := s
    obtain ⟨hl, h⟩ := h
    have f1 := AutoSeq1.idx_int
    have c0 : (decide ((1 : Int) < -(2 ^ 63)) || decide ((1 : Int) ≥ 2 ^ 63)) = false := by decide
    have c1 : (items.isEmpty || (1 : Int) == 1) = true := by simp
    wp_walk using wpAny_loadPart' hl
    repeat (first
      | (refine wpAny_ite_false (decide_eq_false (by rw [c0]; exact Bool.false_ne_true)) ?_; wp_walk using wpAny_loadPart' hl)
      | (refine wpAny_ite_true (decide_eq_true c1) ?_; wp_walk using wpAny_loadPart' hl))
    all_goals first
      | exact ⟨_, rfl, h⟩
      | exact h
      | skip
theorem tuple_mul_zero (l : Addr) (items : Array Value) (n : Nat) (dd : Option Addr) (sl : Array (Option Value)) (u : Tok) (hi : items.isEmpty = false) :
    Meets (Builtin.«tuple.__mul__» ⟨[.ref l, .int 0 u], []⟩) (fun _ R s => s.heap.get? l = some { cls := .type "tuple", dict := dd, data := .seq items n, slots := sl } ∧
      R (.ok (.ret (Value.ref s.heap.objs.size))) { s with heap := s.heap.push { cls := Value.type "tuple", data := Data.seq #[] }, toks := s.toks }) :=
  .of_wp fun prog w A R s h => by
    obtain ⟨hp, g, d, tk, os⟩ := s
    obtain ⟨hl, h⟩ := h
    have f1 := AutoSeq1.idx_int
    have c0 : (decide ((0 : Int) < -(2 ^ 63)) || decide ((0 : Int) ≥ 2 ^ 63)) = false := by decide
    have c1 : (items.isEmpty || (0 : Int) == 1) = false := by rw [hi]; rfl
    have c2 : (decide ((0 : Int) ≤ 0) || items.isEmpty) = true := rfl
    wp_walk using wpAny_loadPart' hl
    repeat (first
      | (refine wpAny_ite_false (decide_eq_false (by rw [c0]; exact Bool.false_ne_true)) ?_; wp_walk using wpAny_loadPart' hl)
      | (refine wpAny_ite_false (decide_eq_false (by rw [c1]; exact Bool.false_ne_true)) ?_; wp_walk using wpAny_loadPart' hl)
      | (refine wpAny_ite_true (decide_eq_true c2) ?_; wp_walk using wpAny_loadPart' hl))
    all_goals first
      | exact ⟨_, rfl, h⟩
      | exact h
      | skip
section
variable {X : Cx}
def rRep01 (K : PySem.W.Frag) : R2 := fun x y H Q => ∃ l k xs, x = .ref l ∧ y = .int k ∧ SqT K H l xs ∧ xs ≠ [] ∧ (k = 0 ∨ k = 1) ∧ (k = 1 → Q (.ref l) H) ∧ (k = 0 → ∀ p, H p = none → Q (.ref p) (upd H p (.tup [])))
theorem op_rep01 : OpR X (binaryOp .Mult) (rRep01 X.K) := by
  intro pins s σ H x y v u Q I rx ry h
  obtain ⟨l, k, xs, rfl, rfl, hT, hne, h1, q1, q0⟩ := h
  cases rx
  obtain ⟨t, rfl⟩ := ry
  obtain ⟨its, r, ⟨⟨cls, dd, data, sl⟩, ho, hc, n, hd⟩, hs⟩ := I.tuple hT
  simp only at hc hd
  subst hc hd
  have hi : its.toArray.isEmpty = false := by
    cases its with
    | nil => cases r; exact absurd rfl hne
    | cons a b => rfl
  rcases h1 with rfl | rfl
  · refine wpAny_binaryOp_repeat_ref (T := "tuple") (U := "int") (by decide) ⟨_, ho, rfl⟩ (fun s' => typeIs_int s' 0 t) noFill_tuple_mul F.fills_int_mul F.slot_int_rmul repeat_tuple F.slot_int_index.lookup
      (call_meets F.slot_int_rmul (typeIs_int s 0 t) F.entry_int_rmul (F.args_int_rmul_2 _ _) (int_rmul_tuple 0 t l its.toArray n dd sl)
        ⟨ho, rfl, ⟨_, ho, rfl⟩, call_meets F.slot_tuple_mul ⟨_, ho, rfl⟩ F.entry_tuple_mul (F.args_tuple_mul_2 _ _) (tuple_mul_zero l its.toArray n dd sl t hi) ⟨ho, ?_⟩⟩)
    refine ⟨.ref s.heap.objs.size, _, I.laid (t' := s.toks) (o := .tup []) (fun b ob q => Heap.get?_push_of_some _ q) (Nat.le_refl _) ?_, rfl, q0 rfl _ (I.hok.fresh (Nat.le_refl _))⟩
    exact ⟨Nat.zero_le _, [], .nil, IsTup.new _ _⟩
  · refine wpAny_binaryOp_repeat_ref (T := "tuple") (U := "int") (by decide) ⟨_, ho, rfl⟩ (fun s' => typeIs_int s' 1 t) noFill_tuple_mul F.fills_int_mul F.slot_int_rmul repeat_tuple F.slot_int_index.lookup
      (call_meets F.slot_int_rmul (typeIs_int s 1 t) F.entry_int_rmul (F.args_int_rmul_2 _ _) (int_rmul_tuple 1 t l its.toArray n dd sl)
        ⟨ho, rfl, ⟨_, ho, rfl⟩, call_meets F.slot_tuple_mul ⟨_, ho, rfl⟩ F.entry_tuple_mul (F.args_tuple_mul_2 _ _) (tuple_mul_one l its.toArray n dd sl t) ⟨ho, ?_⟩⟩)
    exact ⟨.ref l, H, I, rfl, q1 rfl⟩
end
end L2
namespace DL
open PySem PySem.Spec PyProof.Rows L2
section
variable {X : Cx}
def mulD : D → D → Option D
  | .int i, .int j => if (-(2 ^ 64) < i ∧ i < 2 ^ 64) ∨ (-(2 ^ 64) < j ∧ j < 2 ^ 64) then some (.int (i * j)) else none
  | .tup xs, .int k => if xs.isEmpty = false ∧ 0 ≤ k ∧ k ≤ 1000 ∧ xs.length ≤ 1000 then some (.tup (List.replicate k.toNat xs).flatten) else none
  | .lst xs, .int k => if 0 ≤ k ∧ k ≤ 1000 ∧ xs.length * k.toNat ≤ big then some (.lst (List.replicate k.toNat xs).flatten) else none
  | _, _ => none
theorem opd_mul : OpD X (binaryOp .Mult) mulD := by
  intro pins s σ H x y v u Q I rx ry ⟨B, d, e, d', tr, r1, r2, hg, q⟩
  cases d <;> cases e <;> simp only [mulD] at hg <;> try contradiction
  case int.int i j =>
    split at hg
    case isTrue hl =>
      cases hg
      exact op_mul pins s σ H x y v u Q I rx ry ⟨_, _, r1.int, r2.int, hl, q _ _ Ext.refl (.int _)⟩
    case isFalse => cases hg
  case tup.int xs k =>
    split at hg
    case isTrue hl =>
      cases hg
      obtain ⟨hne, h0, h1, h2⟩ := hl
      obtain ⟨a, vs, rfl, t1, s1⟩ := r1.tup
      have e2 := r2.int
      subst e2
      have vne : vs ≠ [] := fun z => by subst z; cases s1; cases hne
      by_cases hk : k = 0 ∨ k = 1
      · refine op_rep01 pins s σ H _ _ v u Q I rx ry ⟨a, k, vs, rfl, rfl, t1.sq, vne, hk, fun e => ?_, fun e p np => ?_⟩
        · subst e
          have z : (List.replicate (1 : Int).toNat xs).flatten = xs := by
            show (List.replicate 1 xs).flatten = xs
            simp
          rw [z] at q
          exact q _ _ Ext.refl (.tup t1 s1)
        · subst e
          exact q _ _ (Ext.new np) (.tup (.inl ⟨notin_of tr np, upd_same⟩) .nil)
      · refine op_repT pins s σ H _ _ v u Q I rx ry ⟨a, k, vs, rfl, rfl, t1.sq, vne, by omega, h1, by rw [← s1.length]; exact h2, fun p np => ?_⟩
        exact q _ _ (Ext.new np) (.tup (.inl ⟨notin_of tr np, upd_same⟩) ((s1.rep _).keep (Evo.new np)))
    case isFalse => cases hg
  case lst.int xs k =>
    split at hg
    case isTrue hl =>
      cases hg
      obtain ⟨h0, h1, h2⟩ := hl
      obtain ⟨a, vs, rfl, t1, s1⟩ := r1.lst
      have e2 := r2.int
      subst e2
      refine op_rep pins s σ H _ _ v u Q I rx ry ⟨a, k, vs, rfl, rfl, t1, by omega, by omega, by rw [← s1.length]; exact Nat.le_trans h2 big_le, fun p np => ?_⟩
      exact q _ _ (Ext.new np) (.lst (notin_of tr np) upd_same ((s1.rep _).keep (Evo.new np)))
    case isFalse => cases hg
end
end DL
end
section
set_option Elab.async false
set_option linter.all false
set_option maxRecDepth 100000
set_option maxHeartbeats 2000000
/-! The data layer, 14: dict displays; calls by keywords alone. -/
namespace L2
open PySem PySem.Spec PyProof.Rows
theorem pe_callK0 {X : Cx} {CX : CXT} {k : Nat} {f : Addr} {fd : FuncData} {ps ks : List Str} {sp : Sp} {E : XK} {x : Str} {p pos : Pos} {kws : List Keyword} {tk : TA} {g : List Value → List Value → List Value} {gV : List V → List V → List V}
    (F : FnOk X.prog X.w X.K X.mg X.base CX k f fd ps sp) (hr : Room k X.A) (hg : Gl X x) (hm : X.mg x = some (.ref f)) (hk : PySem.W.keepIn X.K (.ref f) = true) (hb : KBn X.K fd ps 0 ks g gV) (hx : Passes CX X E) (hkw : PK X kws tk)
    (hall : (backToKw pos (keywordEach kws X.env)).all (·.1.isSome) = true := by rfl) (hks : (backToKw pos (keywordEach kws X.env)).filterMap (·.1) = ks := by rfl) (hdb : (x == ("__debug__" : Str)) = false := by decide)
    (hpl : ((backTo pos (starEach [] X.env)).any (·.1) || (backToKw pos (keywordEach kws X.env)).any (·.1.isNone)) = false := by rfl) :
    PE X (.Call (.Name x p) [] kws pos) (tCallN 0 ks.length sp gV E tNil tk) := by
  refine ⟨fun pins s σ H Q I h => ?_⟩
  refine wpAny_Call_Name_kw (ld_glob I hg hm ?_ hdb)
  refine PySem.W.callWith_KW0 (h₀ := X.base) I.ok.mod.kin hk hall ?_ hpl
  refine thn (hkw.run pos pins s σ H _ I h) fun ws s2 ⟨zs, H2, I2, rz, l1, l2, q2⟩ => ⟨I2.kIn, ?_⟩
  rw [hks]
  exact run_fnN (us := []) (vs := []) F hr hb hx I2 .nil rz rfl l2 q2
end L2
namespace DL
open PySem PySem.Spec PyProof.Rows L2
theorem fnK_of {ρ : Type} {I : Wd ρ} {K : PySem.W.Frag} {P : Program} {w : World} {mg : Str → Option Value} {base : Heap} {x qual : Str} {params : Arguments} {body : List Stmt} {scope : Scope} {f : Addr} {fd : FuncData} {ps ks : List Str} {k n : Nat} {g : List D → ρ → Option (D × ρ)} {pm : {α : Type} → List α → List α} (F : FunD K x qual params body scope [] [] f fd) (hm : mg x = some (.ref f)) (ok : FnOk P w K mg base CX0 k f fd ps (spD I K n g))
    (hb : ∀ (kV doc pmv : Value) (an : Option Addr) (cdv ct : Value) (ws : List Value), ws.length = ks.length → bindArgs (PySem.W.fnOf x qual params body scope .none kV doc pmv an cdv ct) ⟨[], ks.zip ws⟩ = pure (ps.zip (pm ws))) (hrel : ∀ {vs : List V} {us : List Value}, Vals vs us → Vals (pm vs) (pm us)) :
    ∃ (f : Addr) (fd : FuncData) (ps : List Str), FnOk P w K mg base CX0 k f fd ps (spD I K n g) ∧ mg x = some (.ref f) ∧ PySem.W.keepIn K (.ref f) = true ∧ KBn K fd ps 0 ks (fun _ ws => pm ws) (fun _ zs => pm zs) := by
  refine ⟨f, fd, ps, ok, hm, F.kp, ⟨fun s us ws X l1 l2 => ?_, fun _ r2 => hrel r2⟩⟩
  obtain ⟨oc, od, dV, kV, doc, pmv, an, cdv, ct, osl, rfl, lk, hcd, hD, hK⟩ := F.ex
  have hus : us = [] := List.length_eq_zero_iff.mp l1
  subst hus
  rcases hD with ⟨_, rfl⟩ | ⟨e, _⟩
  · exact .of_eq (hb kV doc pmv an cdv ct ws l2)
  · exact absurd rfl e
section
variable {ρ : Type}
def pFold : List (SE ρ × SE ρ) → Env → ρ → Option (List (Key × D) × ρ)
  | [], _, r => some ([], r)
  | (fk, fv) :: fs, env, r => (fk env r).bind fun p => (fv env p.2).bind fun q => (keyD p.1).bind fun k => (pFold fs env q.2).map fun z => ((k, q.1) :: z.1, z.2)
def mergeD : List (Key × D) → List Key × List D → List Key × List D
  | [], a => a
  | (k, d) :: r, a => mergeD r (putD a.1 a.2 k d)
def eDisp (fs : List (SE ρ × SE ρ)) : SE ρ := fun env r => (pFold fs env r).bind fun z => if z.1.length ≤ 15 then some (.dct (mergeD z.1 ([], [])).1 (mergeD z.1 ([], [])).2, z.2) else none
end
theorem merge_reps {K : PySem.W.Frag} {H : Hp} {B : List Addr} : ∀ {kds : List (Key × D)} {kvs : List (Key × V)} {acc : List (Key × V)} {a : List Key × List D}, kvs.map (·.1) = kds.map (·.1) → Reps K H B (kds.map (·.2)) (kvs.map (·.2)) → acc.map (·.1) = a.1 → Reps K H B a.2 (acc.map (·.2)) →
    (mergeK acc kvs).map (·.1) = (mergeD kds a).1 ∧ Reps K H B (mergeD kds a).2 ((mergeK acc kvs).map (·.2))
  | [], [], acc, a, _, _, h1, h2 => ⟨h1, h2⟩
  | [], _ :: _, _, _, e, _, _, _ => by cases e
  | _ :: _, [], _, _, e, _, _, _ => by cases e
  | (k, d) :: kds, (k', v) :: kvs, acc, a, e, rs, h1, h2 => by
    rw [List.map_cons, List.map_cons] at e
    injection e with e1 e2
    have e1' : k' = k := e1
    subst e1'
    rw [List.map_cons, List.map_cons] at rs
    cases rs with
    | cons r rs =>
      refine merge_reps (acc := putK acc k' v) (a := putD a.1 a.2 k' d) e2 rs ?_ ?_
      · rw [put_fst acc a.2 k' d v, h1]
      · rw [← h1]
        exact put_reps h2 r
section
variable {ρ : Type} {I : Wd ρ} {X : Cx} {O O' O1 O2 : List Nat} {pos : Pos}
def trs (I : Wd ρ) (K : PySem.W.Frag) (O : List Nat) (fs : List (SE ρ × SE ρ)) : List (TE × TE) := fs.map fun p => (tE I K O p.1, tE I K O p.2)
def Dps (I : Wd ρ) (X : Cx) (O : List Nat) (pos : Pos) (keys : List (Option Expr)) (values : List Expr) (fs : List (SE ρ × SE ρ)) : Prop := PPs X pos keys values (trs I X.K O fs)
theorem dps_nil : Dps I X O pos [] [] [] := pps_nil
theorem dps_cons {k v : Expr} {ks : List (Option Expr)} {vs : List Expr} {fk fv : SE ρ} {fs : List (SE ρ × SE ρ)} (hk : Ed I X O k fk) (hv : Ed I X O v fv) (hr : Dps I X O pos ks vs fs) : Dps I X O pos (some k :: ks) (v :: vs) ((fk, fv) :: fs) := pps_cons hk hv hr
theorem pairs_in {W B : List Addr} {H0 : Hp} {A : Own} {env : Env} {σ : L2.St} {K : PySem.W.Frag} : ∀ {fs : List (SE ρ × SE ρ)} {r r' : ρ} {kds : List (Key × D)} {H : Hp} {Q : List (V × V) → Hp → Prop}, pFold fs env r = some (kds, r') → Lc I K W B H0 A env r σ H → A.map (·.1) = O →
    (∀ (kvs : List (Key × V)) (H' : Hp), Lc I K W B H0 A env r' σ H' → Evo W H H' → kvs.map (·.1) = kds.map (·.1) → Reps K H' (B ++ A.ad) (kds.map (·.2)) (kvs.map (·.2)) → Q (kvs.map fun kv => (kV kv.1, kv.2)) H') → tPairs (trs I K O fs) σ H Q
  | [], r, r', kds, H, Q, h, l, ho, q => by
    cases h
    exact q [] H l Evo.refl rfl .nil
  | (fk, fv) :: fs, r, r', kds, H, Q, h, l, ho, q => by
    unfold pFold at h
    obtain ⟨⟨dk, r1⟩, e1, h⟩ := Option.bind_eq_some_iff.mp h
    obtain ⟨⟨dv, r2⟩, e2, h⟩ := Option.bind_eq_some_iff.mp h
    obtain ⟨k, e3, h⟩ := Option.bind_eq_some_iff.mp h
    obtain ⟨⟨rest, r3⟩, e4, h⟩ := Option.map_eq_some_iff.mp h
    cases h
    refine ⟨W, B, H0, A, env, r, dk, r1, l, ho, e1, fun v1 H1 l1 ev1 rp1 => ?_⟩
    refine ⟨W, B, H0, A, env, r1, dv, r2, l1, ho, e2, fun v2 H2 l2 ev2 rp2 => ?_⟩
    refine pairs_in e4 l2 ho fun kvs H3 l3 ev3 hk rs => ?_
    have ek : v1 = kV k := RepA.key (.inl rp1) e3
    subst ek
    have := q ((k, v2) :: kvs) H3 l3 ((ev1.trans ev2).trans ev3) (by rw [List.map_cons, List.map_cons, hk]) (.cons (rp2.keep (l2.ev ev3)) rs)
    exact this
theorem ed_disp {keys : List (Option Expr)} {values : List Expr} {fs : List (SE ρ × SE ρ)} (h : Dps I X O pos keys values fs) (hall : keys.all (·.isSome) = true := by rfl) (hl : keys.length = values.length := by rfl) (h0 : keys ≠ [] := by exact List.cons_ne_nil _ _)
    (h15 : keys.length ≤ 15 := by decide) : Ed I X O (.Dict keys values pos) (eDisp fs) :=
  PE.weak (pe_disp h hall hl h0 h15) fun σ H Q ⟨W, B, H0, A, env, r, d, r', l, ho, hf, q⟩ p hp => by
    unfold eDisp at hf
    obtain ⟨⟨kds, r1⟩, e1, hf⟩ := Option.bind_eq_some_iff.mp hf
    split at hf
    case isFalse => cases hf
    case isTrue hz =>
    cases hf
    dsimp only at hz
    obtain ⟨p0, pW⟩ := l.none0 hp
    have lp := l.hold (r' := r) (H' := upd H p (.dK [])) (I.keep l.wi fun b hb => upd_ne fun z => pW (by rw [← z]; exact hb)) (Evo.new hp) hp (by rw [upd_same]; simp)
    refine pairs_in e1 lp ho fun kvs H2 l2 ev hk rs => ⟨ev.at_ pW upd_same, kvs, rfl, ?_, ?_⟩
    · have : kvs.length = kds.length := by
        have := congrArg List.length hk
        rwa [List.length_map, List.length_map] at this
      rw [this]
      exact hz
    · obtain ⟨m1, m2⟩ := merge_reps (acc := []) (a := ([], [])) hk rs rfl .nil
      have evp : Evo (p :: B ++ A.ad) H2 (upd H2 p (.dK (mergeK [] kvs))) := Evo.write (List.mem_append_left _ (List.mem_cons_self ..))
      have ev2 : Evo W H (upd H2 p (.dK (mergeK [] kvs))) := ((Evo.new hp).trans ev).poke hp
      have l3 := l2.poke (o := .dK (mergeK [] kvs)) (List.mem_cons_self ..) pW p0
      have m3 := (m2.keep evp).less (B' := B ++ A.ad) fun b hb => by
        rcases List.mem_append.mp hb with z | z
        · exact List.mem_append_left _ (List.mem_cons_of_mem _ z)
        · exact List.mem_append_right _ z
      have q2 := q (.ref p) _ (l.step l3.wi ev2) ev2
      dsimp only at q2
      rw [← m1] at q2
      exact q2 (.dct (l.notin hp) upd_same m3)

/-! calls by keywords -/
structure Kdl (I : Wd ρ) (X : Cx) (O : List Nat) (es : List Keyword) (f : SA ρ) : Prop where
  run : PK X es (tAr I X.K O f)
  len : ∀ env r ds r', f env r = some (ds, r') → ds.length = es.length
theorem PK.weak {X : Cx} {e : List Keyword} {t u : TA} (h : PK X e t) (w : ∀ σ H Q, u σ H Q → t σ H Q) : PK X e u := ⟨fun p pins s σ H Q i q => h.run p pins s σ H Q i (w σ H Q q)⟩
theorem kd_nil : Kdl I X O [] aNil :=
  ⟨PK.weak pk_nil (fun σ H Q ⟨W, B, H0, A, env, r, d, r', l, ho, hf, q⟩ => by
    cases hf
    exact q [] H l Evo.refl .nil), fun env r ds r' h => by cases h; rfl⟩
theorem kd_cons {e : Expr} {nm : Option Str} {kpos : Pos} {es : List Keyword} {f : SE ρ} {g : SA ρ} (h : Ed I X O e f) (hs : Kdl I X O es g) : Kdl I X O (⟨nm, e, kpos⟩ :: es) (aCons f g) :=
  ⟨PK.weak (pk_cons h hs.run) (fun σ H Q ⟨W, B, H0, A, env, r, d, r', l, ho, hf, q⟩ => by
    unfold aCons at hf
    obtain ⟨⟨d1, r1⟩, e1, hf⟩ := Option.bind_eq_some_iff.mp hf
    obtain ⟨⟨d2, r2⟩, e2, hf⟩ := Option.map_eq_some_iff.mp hf
    cases hf
    refine ⟨W, B, H0, A, env, r, d1, r1, l, ho, e1, fun v1 H1 l1 v1e rp1 => ?_⟩
    exact ⟨W, B, H0, A, env, r1, d2, r2, l1, ho, e2, fun vs H2 l2 v2e rp2 => q _ H2 l2 (v1e.trans v2e) (.cons (rp1.keep (l1.ev v2e)) rp2)⟩),
  fun env r ds r' hf => by
    unfold aCons at hf
    obtain ⟨⟨d1, r1⟩, e1, hf⟩ := Option.bind_eq_some_iff.mp hf
    obtain ⟨⟨d2, r2⟩, e2, hf⟩ := Option.map_eq_some_iff.mp hf
    cases hf
    rw [List.length_cons, List.length_cons, hs.len _ _ _ _ e2]⟩
/-- a def that is called by the keywords ks; pm puts them in order -/
def FnK (I : Wd ρ) (K : PySem.W.Frag) (P : Program) (w : World) (mg : Str → Option Value) (base : Heap) (k : Nat) (x : Str) (n : Nat) (g : List D → ρ → Option (D × ρ)) (ks : List Str) (pm : {α : Type} → List α → List α) : Prop :=
  ∃ (f : Addr) (fd : FuncData) (ps : List Str), FnOk P w K mg base CX0 k f fd ps (spD I K n g) ∧ mg x = some (.ref f) ∧ PySem.W.keepIn K (.ref f) = true ∧ KBn K fd ps 0 ks (fun _ ws => pm ws) (fun _ zs => pm zs)
def eCallK (g : List D → ρ → Option (D × ρ)) (pm : {α : Type} → List α → List α) (f : SA ρ) : SE ρ := fun env r => (f env r).bind fun p => g (pm p.1) p.2
theorem ed_callK {k : Nat} {x : Str} {p : Pos} {kws : List Keyword} {n : Nat} {g : List D → ρ → Option (D × ρ)} {fa : SA ρ} {ks : List Str} {pm : {α : Type} → List α → List α} (F : FnK I X.K X.prog X.w X.mg X.base k x n g ks pm) (hr : Room k X.A) (ha : Kdl I X O kws fa)
    (hpm : ∀ {K : PySem.W.Frag} {H : Hp} {B : List Addr} {ds : List D} {vs : List V}, Reps K H B ds vs → Reps K H B (pm ds) (pm vs)) (hn : ∀ (ds : List D), ds.length = kws.length → (pm ds).length = n) (hkl : kws.length = ks.length := by rfl)
    (hg : Gl X x := by rfl) (hall : (backToKw pos (keywordEach kws X.env)).all (·.1.isSome) = true := by rfl) (hks : (backToKw pos (keywordEach kws X.env)).filterMap (·.1) = ks := by rfl) (hdb : (x == ("__debug__" : Str)) = false := by decide)
    (hpl : ((backTo pos (starEach [] X.env)).any (·.1) || (backToKw pos (keywordEach kws X.env)).any (·.1.isNone)) = false := by rfl) : Ed I X O (.Call (.Name x p) [] kws pos) (eCallK g pm fa) := by
  obtain ⟨f, fd, ps, F, h1, h2, h3⟩ := F
  exact PE.weak (pe_callK0 F hr hg h1 h2 h3 pass0 ha.run hall hks hdb hpl) fun σ H Q ⟨W, B, H0, A, env, r, d, r', l, ho, hf, q⟩ => by
    unfold eCallK at hf
    obtain ⟨⟨ds, r1⟩, e1, hf⟩ := Option.bind_eq_some_iff.mp hf
    refine ⟨W, B, H0, A, env, r, ds, r1, l, ho, e1, fun vs H1 l1 v1e rs => ?_⟩
    have rs' := hpm rs
    refine ⟨rfl, by rw [← rs.length, ha.len _ _ _ _ e1, hkl], ?_, W, B ++ A.ad, r1, _, d, r', l1.wi, fun b hb => List.mem_append_left _ (l1.wb b hb), l1.bx, rs', hf, fun v H' wi ev rp => ?_⟩
    · rw [← rs'.length]
      exact hn ds (ha.len _ _ _ _ e1)
    · exact q v H' (l1.step wi ev) (v1e.trans ev) rp
end
end DL
end
section
set_option Elab.async false
set_option linter.all false
set_option maxRecDepth 100000
set_option maxHeartbeats 2000000
/-! The data layer, 15: what the printed terms want. -/
namespace DL
open PySem PySem.Spec PyProof.Rows L2
def pmId {α : Type} (l : List α) : List α := l
def pmRev {α : Type} (l : List α) : List α := l.reverse
theorem pmId_reps {K : PySem.W.Frag} {H : Hp} {B : List Addr} {ds : List D} {vs : List V} (h : Reps K H B ds vs) : Reps K H B (pmId ds) (pmId vs) := h
theorem pmRev_reps {K : PySem.W.Frag} {H : Hp} {B : List Addr} {ds : List D} {vs : List V} (h : Reps K H B ds vs) : Reps K H B (pmRev ds) (pmRev vs) := h.reverse
theorem pmId_len1 (ds : List D) (h : ds.length = 1) : (pmId ds).length = 1 := h
theorem pmId_len2 (ds : List D) (h : ds.length = 2) : (pmId ds).length = 2 := h
theorem pmRev_len2 (ds : List D) (h : ds.length = 2) : (pmRev ds).length = 2 := by unfold pmRev; rw [List.length_reverse]; exact h
section
variable {ρ : Type} {I : Wd ρ}
theorem FnK.mono {K : PySem.W.Frag} {P : Program} {w : World} {mg : Str → Option Value} {base : Heap} {j k : Nat} {x : Str} {n : Nat} {g : List D → ρ → Option (D × ρ)} {ks : List Str} {pm : {α : Type} → List α → List α} (h : FnK I K P w mg base j x n g ks pm) (hj : j ≤ k) : FnK I K P w mg base k x n g ks pm := by
  obtain ⟨f, fd, ps, F, h1, h2, h3⟩ := h
  exact ⟨f, fd, ps, F.mono hj, h1, h2, h3⟩
theorem eComp_lst {f : SA ρ} {g : GD} {t : SB ρ} {e : SE ρ} {vs : List Nat} (env : Env) (r : ρ) (d : D) (r' : ρ) (h : eComp f g t e vs env r = some (d, r')) : ∃ xs, d = .lst xs := by
  unfold eComp at h
  obtain ⟨⟨ds, r1⟩, e1, h⟩ := Option.bind_eq_some_iff.mp h
  obtain ⟨⟨zs, r2⟩, e2, h⟩ := Option.bind_eq_some_iff.mp h
  split at h
  · cases h
    exact ⟨_, rfl⟩
  · cases h
variable {X : Cx} {O O' : List Nat} {pos : Pos}
theorem bd_end {st : List Stmt} {f : SS ρ} (h : ∃ O', Bd I X O st f O') : Bd I X O st f [] := by
  obtain ⟨O', h⟩ := h
  have := h.drop fun _ => false
  have e : O'.filter (fun _ => false) = [] := by simp
  rw [e] at this
  exact this
def rNegI : V → Hp → VK → Prop := fun x H Q => ∃ i, x = .int i ∧ Q (.int (-i)) H
theorem ed_negc {i : Int} {j} {p : Pos} : Ed I X O (.UnaryOp .USub (.Constant (.int i) j p) pos) (eC (.int (-i))) :=
  PE.weak (pe_un un_neg pe_int) fun σ H Q ⟨W, B, H0, A, env, r, d, r', l, ho, hf, q⟩ => by
    cases hf
    exact ⟨_, rfl, q _ H l Evo.refl (.int _)⟩
end
end DL
end
section
set_option Elab.async false
set_option linter.all false
set_option maxRecDepth 100000
set_option maxHeartbeats 2000000
/-! The data layer, 16: the law's own state: a dict of ints and lists of ints. -/
namespace DL
open PySem PySem.Spec PyProof.Rows L2
inductive Fd where
  | int (i : Int) | lst (a : Addr) (xs : List Int)
def Fd.v : Fd → V
  | .int i => .int i
  | .lst a _ => .ref a
structure Rw where
  am : Addr
  fs : List (Str × Fd)
def ads : List (Str × Fd) → List Addr
  | [] => []
  | (_, .int _) :: r => ads r
  | (_, .lst a _) :: r => a :: ads r
def wKvs (fs : List (Str × Fd)) : List (Key × V) := fs.map fun p => (.inr p.1, p.2.v)
structure Winv (W : List Addr) (r : Rw) (H : Hp) : Prop where
  w : W = r.am :: ads r.fs
  nd : (r.am :: ads r.fs).Nodup
  dk : H r.am = some (.dK (wKvs r.fs))
  ls : ∀ x a xs, r.fs.lookup x = some (.lst a xs) → H a = some (.lst (xs.map V.int))
  tr : ∀ b ∈ ads r.fs, H b ≠ none
  ky : r.fs.length < 100
  kn : (r.fs.map (·.1)).Nodup
theorem lookup_ads {x : Str} {a : Addr} {xs : List Int} : ∀ {fs : List (Str × Fd)}, fs.lookup x = some (.lst a xs) → a ∈ ads fs
  | (y, fd) :: r, h => by
    rw [List.lookup_cons] at h
    cases z : x == y with
    | true =>
      rw [z] at h
      cases h
      exact List.mem_cons_self ..
    | false =>
      rw [z] at h
      have := lookup_ads h
      cases fd with
      | int i => exact this
      | lst b ys => exact List.mem_cons_of_mem _ this
def Iw : Wd Rw where
  inv := Winv
  at_ := fun {W r H} h b hb => by
    rw [h.w] at hb
    rcases List.mem_cons.mp hb with z | z
    · rw [z, h.dk]; simp
    · exact h.tr b z
  keep := fun {W r H H'} h e => by
    have hw := h.w
    refine ⟨h.w, h.nd, ?_, fun x a xs l => ?_, fun b hb => ?_, h.ky, h.kn⟩
    · rw [e _ (by rw [hw]; exact List.mem_cons_self ..)]; exact h.dk
    · rw [e _ (by rw [hw]; exact List.mem_cons_of_mem _ (lookup_ads l))]; exact h.ls x a xs l
    · rw [e _ (by rw [hw]; exact List.mem_cons_of_mem _ hb)]; exact h.tr b hb
theorem wKvs_val {x : Str} : ∀ {fs : List (Str × Fd)} {fd : Fd}, fs.lookup x = some fd → valV (wKvs fs) (.inr x : Key) = some fd.v
  | (y, fd) :: r, fd', h => by
    rw [List.lookup_cons] at h
    unfold wKvs
    rw [List.map_cons]
    by_cases e : x = y
    · subst e
      rw [beq_self_eq_true] at h
      cases h
      exact valV_pos rfl
    · have z : (x == y) = false := beq_eq_false_iff_ne.mpr e
      rw [z] at h
      rw [valV_neg (fun q => e (Sum.inr.inj q).symm)]
      exact wKvs_val h
def putF (fs : List (Str × Fd)) (x : Str) (fd : Fd) : List (Str × Fd) := fs.map fun p => if p.1 = x then (p.1, fd) else p
theorem lookup_any {x : Str} : ∀ {fs : List (Str × Fd)} {fd : Fd}, fs.lookup x = some fd → (wKvs fs).any (fun kv => decide (kv.1 = (.inr x : Key))) = true
  | (y, fd) :: r, fd', h => by
    rw [List.lookup_cons] at h
    unfold wKvs
    rw [List.map_cons, List.any_cons]
    by_cases e : x = y
    · subst e
      simp
    · have z : (x == y) = false := beq_eq_false_iff_ne.mpr e
      rw [z] at h
      rw [Bool.or_eq_true]
      exact .inr (lookup_any h)
theorem wKvs_put {x : Str} {fd fd' : Fd} {fs : List (Str × Fd)} (h : fs.lookup x = some fd) : putK (wKvs fs) (.inr x : Key) fd'.v = wKvs (putF fs x fd') := by
  unfold putK
  rw [if_pos (lookup_any h)]
  unfold wKvs putF
  rw [List.map_map, List.map_map]
  congr 1
  funext p
  show (if (Sum.inr p.1 : Key) = .inr x then (Sum.inr p.1, fd'.v) else (Sum.inr p.1, p.2.v)) = (Sum.inr (if p.1 = x then (p.1, fd') else p).1, (if p.1 = x then (p.1, fd') else p).2.v)
  by_cases e : p.1 = x
  · rw [if_pos e, if_pos (congrArg _ e)]
  · rw [if_neg e, if_neg fun q => e (Sum.inr.inj q)]
theorem lookup_put {x y : Str} {fd : Fd} : ∀ {fs : List (Str × Fd)}, (putF fs x fd).lookup y = if x = y then (fs.lookup y).map (fun _ => fd) else fs.lookup y
  | [] => by split <;> rfl
  | (z, f2) :: r => by
    unfold putF
    rw [List.map_cons]
    have ih := lookup_put (x := x) (y := y) (fd := fd) (fs := r)
    unfold putF at ih
    by_cases e : z = x
    · subst e
      rw [if_pos rfl, List.lookup_cons, List.lookup_cons]
      by_cases e2 : y = z
      · subst e2
        simp
      · have q : (y == z) = false := beq_eq_false_iff_ne.mpr e2
        rw [q]
        exact ih
    · rw [if_neg e, List.lookup_cons, List.lookup_cons]
      by_cases e2 : y = z
      · subst e2
        rw [beq_self_eq_true, if_neg (fun q => e q.symm)]
      · have q : (y == z) = false := beq_eq_false_iff_ne.mpr e2
        rw [q]
        exact ih
theorem ads_put {x : Str} {i : Int} : ∀ {fs : List (Str × Fd)}, (∀ p ∈ fs, p.1 = x → ∃ j, p.2 = .int j) → ads (putF fs x (.int i)) = ads fs
  | [], _ => rfl
  | (z, f2) :: r, h => by
    unfold putF
    rw [List.map_cons]
    have ih := ads_put (x := x) (i := i) (fs := r) fun p hp => h p (List.mem_cons_of_mem _ hp)
    unfold putF at ih
    by_cases e : z = x
    · obtain ⟨j, ej⟩ := h (z, f2) (List.mem_cons_self ..) e
      have ej' : f2 = .int j := ej
      subst ej'
      rw [if_pos e]
      exact ih
    · rw [if_neg e]
      cases f2 with
      | int _ => exact ih
      | lst a ys => exact congrArg (List.cons _) ih
theorem ads_putL {x : Str} {a : Addr} {xs : List Int} : ∀ {fs : List (Str × Fd)}, (∀ p ∈ fs, p.1 = x → ∃ ys, p.2 = .lst a ys) → ads (putF fs x (.lst a xs)) = ads fs
  | [], _ => rfl
  | (z, f2) :: r, h => by
    unfold putF
    rw [List.map_cons]
    have ih := ads_putL (x := x) (a := a) (xs := xs) (fs := r) fun p hp => h p (List.mem_cons_of_mem _ hp)
    unfold putF at ih
    by_cases e : z = x
    · obtain ⟨j, ej⟩ := h (z, f2) (List.mem_cons_self ..) e
      have ej' : f2 = .lst a j := ej
      subst ej'
      rw [if_pos e]
      exact congrArg (List.cons _) ih
    · rw [if_neg e]
      cases f2 with
      | int _ => exact ih
      | lst a ys => exact congrArg (List.cons _) ih
theorem keys_put {x : Str} {fd : Fd} {fs : List (Str × Fd)} : (putF fs x fd).map (·.1) = fs.map (·.1) := by
  unfold putF
  rw [List.map_map]
  congr 1
  funext p
  show (if p.1 = x then (p.1, fd) else p).1 = p.1
  split <;> rfl
theorem only_one {x : Str} {fd : Fd} : ∀ {fs : List (Str × Fd)}, fs.lookup x = some fd → (fs.map (·.1)).Nodup → ∀ p ∈ fs, p.1 = x → p.2 = fd
  | (y, f2) :: r, h, nd, p, hp, e => by
    rw [List.map_cons, List.nodup_cons] at nd
    rw [List.lookup_cons] at h
    rcases List.mem_cons.mp hp with z | z
    · subst z
      have e' : y = x := e
      subst e'
      rw [beq_self_eq_true] at h
      cases h
      rfl
    · by_cases q : x = y
      · subst q
        exact absurd (List.mem_map.mpr ⟨p, z, e⟩) nd.1
      · rw [beq_eq_false_iff_ne.mpr q] at h
        exact only_one h nd.2 p z e
/-- an int field is written -/
theorem Winv.put {W : List Addr} {r : Rw} {H : Hp} {x : Str} {i j : Int} (h : Winv W r H) (l : r.fs.lookup x = some (.int j)) : Winv W ⟨r.am, putF r.fs x (.int i)⟩ (upd H r.am (.dK (wKvs (putF r.fs x (.int i))))) := by
  have ea : ads (putF r.fs x (.int i)) = ads r.fs := ads_put fun p hp e => ⟨j, only_one l h.kn p hp e⟩
  have na : r.am ∉ ads r.fs := (List.nodup_cons.mp h.nd).1
  refine ⟨by rw [ea]; exact h.w, by rw [ea]; exact h.nd, upd_same, fun y a xs l2 => ?_, fun b hb => ?_, by unfold putF; rw [List.length_map]; exact h.ky, by rw [keys_put]; exact h.kn⟩
  · have l3 : (putF r.fs x (.int i)).lookup y = some (.lst a xs) := l2
    rw [lookup_put] at l3
    split at l3
    · cases q : r.fs.lookup y with
      | none => rw [q] at l3; cases l3
      | some fd => rw [q] at l3; cases l3
    · rw [upd_ne (fun z => na (by rw [← z]; exact lookup_ads l3))]
      exact h.ls y a xs l3
  · rw [ea] at hb
    rw [upd_ne (fun z => na (by rw [← z]; exact hb))]
    exact h.tr b hb
theorem lst_once {x y : Str} {a : Addr} {xs ys : List Int} : ∀ {fs : List (Str × Fd)}, (ads fs).Nodup → fs.lookup x = some (.lst a xs) → fs.lookup y = some (.lst a ys) → x = y
  | (z, f2) :: r, nd, h1, h2 => by
    rw [List.lookup_cons] at h1 h2
    by_cases e1 : x = z
    · by_cases e2 : y = z
      · rw [e1, e2]
      · subst e1
        rw [beq_self_eq_true] at h1
        rw [beq_eq_false_iff_ne.mpr e2] at h2
        cases h1
        exact absurd (lookup_ads h2) (List.nodup_cons.mp nd).1
    · by_cases e2 : y = z
      · subst e2
        rw [beq_self_eq_true] at h2
        rw [beq_eq_false_iff_ne.mpr e1] at h1
        cases h2
        exact absurd (lookup_ads h1) (List.nodup_cons.mp nd).1
      · rw [beq_eq_false_iff_ne.mpr e1] at h1
        rw [beq_eq_false_iff_ne.mpr e2] at h2
        refine lst_once ?_ h1 h2
        cases f2 with
        | int _ => exact nd
        | lst b _ => exact (List.nodup_cons.mp nd).2
/-- a list field is written -/
theorem Winv.putL {W : List Addr} {r : Rw} {H : Hp} {x : Str} {a : Addr} {xs ys : List Int} (h : Winv W r H) (l : r.fs.lookup x = some (.lst a xs)) : Winv W ⟨r.am, putF r.fs x (.lst a ys)⟩ (upd H a (.lst (ys.map V.int))) := by
  have ea : ads (putF r.fs x (.lst a ys)) = ads r.fs := ads_putL fun p hp e => ⟨xs, only_one l h.kn p hp e⟩
  have ina := lookup_ads l
  have na : r.am ≠ a := fun z => (List.nodup_cons.mp h.nd).1 (by rw [z]; exact ina)
  refine ⟨by rw [ea]; exact h.w, by rw [ea]; exact h.nd, ?_, fun y b zs l2 => ?_, fun b hb => ?_, by unfold putF; rw [List.length_map]; exact h.ky, by rw [keys_put]; exact h.kn⟩
  · rw [upd_ne na, h.dk]
    congr 2
    unfold wKvs putF
    rw [List.map_map]
    refine List.map_congr_left fun p hp => ?_
    show (Sum.inr p.1, p.2.v) = (Sum.inr (if p.1 = x then (p.1, Fd.lst a ys) else p).1, (if p.1 = x then (p.1, Fd.lst a ys) else p).2.v)
    split
    · rename_i e
      have := only_one l h.kn p hp e
      rw [this]
      rfl
    · rfl
  · have l3 : (putF r.fs x (.lst a ys)).lookup y = some (.lst b zs) := l2
    rw [lookup_put] at l3
    split at l3
    · rename_i e
      cases q : r.fs.lookup y with
      | none => rw [q] at l3; cases l3
      | some fd =>
        rw [q] at l3
        cases l3
        exact upd_same
    · rename_i e
      have nb : b ≠ a := fun z => e (by
        subst z
        exact lst_once (List.nodup_cons.mp h.nd).2 l l3)
      rw [upd_ne nb]
      exact h.ls y b zs l3
  · rw [ea] at hb
    unfold upd
    split
    · simp
    · exact h.tr b hb
end DL
end
section
set_option Elab.async false
set_option linter.all false
set_option maxRecDepth 100000
set_option maxHeartbeats 2000000
/-! The data layer, 17: rules about the law's own state. -/
namespace DL
open PySem PySem.Spec PyProof.Rows L2
/-- the slot i holds the state's dict -/
def amAt (i : Nat) (env : Env) (r : Rw) : Option Unit := match env[i]? with
  | some (some (.raw (.ref a))) => if a = r.am then some () else none
  | _ => none
theorem amAt_some {i : Nat} {env : Env} {r : Rw} {u : Unit} (h : amAt i env r = some u) : env[i]? = some (some (.raw (.ref r.am))) := by
  unfold amAt at h
  split at h
  · rename_i a e
    split at h
    · rename_i q
      rw [e, q]
    · cases h
  · cases h
def fInt (x : Str) (r : Rw) : Option Int := match r.fs.lookup x with
  | some (.int i) => some i
  | _ => none
def fLst (x : Str) (r : Rw) : Option (Addr × List Int) := match r.fs.lookup x with
  | some (.lst a xs) => some (a, xs)
  | _ => none
theorem fInt_some {x : Str} {r : Rw} {i : Int} (h : fInt x r = some i) : r.fs.lookup x = some (.int i) := by
  unfold fInt at h
  split at h
  · cases h; assumption
  · cases h
theorem fLst_some {x : Str} {r : Rw} {a : Addr} {xs : List Int} (h : fLst x r = some (a, xs)) : r.fs.lookup x = some (.lst a xs) := by
  unfold fLst at h
  split at h
  · cases h; assumption
  · cases h
def intOf : D → Option Int
  | .int i => some i
  | _ => none
theorem intOf_some {d : D} {i : Int} (h : intOf d = some i) : d = .int i := by
  unfold intOf at h
  split at h
  · cases h; rfl
  · cases h
def wGet (i : Nat) (x : Str) : SE Rw := fun env r => (amAt i env r).bind fun _ => (fInt x r).map fun k => (.int k, r)
def wLen (i : Nat) (x : Str) : SE Rw := fun env r => (amAt i env r).bind fun _ => (fLst x r).map fun p => (.int (p.2.length : Nat), r)
def wNe (i : Nat) (x : Str) : SB Rw := fun env r => (amAt i env r).bind fun _ => (fLst x r).map fun p => (!p.2.isEmpty, r)
def wIx (i : Nat) (x : Str) (f : SE Rw) : SE Rw := fun env r => (amAt i env r).bind fun _ => (fLst x r).bind fun p => (f env r).bind fun q => (fLst x q.2).bind fun p2 => if p.1 = p2.1 then (intOf q.1).bind fun k => (atI p2.2 k).map fun z => (.int z, q.2) else none
def wPut (i : Nat) (x : Str) (f : SE Rw) : SS Rw := fun env r => (f env r).bind fun q => (amAt i env q.2).bind fun _ => (fInt x q.2).bind fun _ => (intOf q.1).map fun k => .nx env ⟨q.2.am, putF q.2.fs x (.int k)⟩
def wPutL (i : Nat) (x : Str) (fi : SE Rw) (f : SE Rw) : SS Rw := fun env r => (f env r).bind fun q => (amAt i env q.2).bind fun _ => (fLst x q.2).bind fun p => (fi env q.2).bind fun s => (fLst x s.2).bind fun p2 => if p.1 = p2.1 then (intOf q.1).bind fun k => (intOf s.1).bind fun j => (ixN p2.2.length j).map fun n =>
  .nx env ⟨s.2.am, putF s.2.fs x (.lst p2.1 (p2.2.set n k))⟩ else none
def tW (K : PySem.W.Frag) (O : List Nat) (i : Nat) (x : Str) : TE := fun σ H Q => ∃ W B H0 A env r fd, Lc Iw K W B H0 A env r σ H ∧ A.map (·.1) = O ∧ env[i]? = some (some (.raw (.ref r.am))) ∧ r.fs.lookup x = some fd ∧ Q fd.v H
section
variable {X : Cx} {O O' O1 O2 : List Nat} {pos : Pos}
theorem pe_wfld {i : Nat} {m x : Str} {p q : Pos} {j} (hu : X.A.units + 1 < cLine) (hi : (O.contains i) = false := by rfl) (hN : X.N[i]? = some m := by rfl) (hv : Vis X.env.scope m := by first | exact Or.inl rfl | exact Or.inr (Or.inl rfl) | exact Or.inr (Or.inr rfl)) (hd : (m == ("__debug__" : Str)) = false := by decide)
    (hcd : (m == ("__classdict__" : Str)) = false := by decide) : PE X (.Subscript (.Name m p) (.Constant (.str x) j q) pos) (tW X.K O i x) :=
  PE.weak (pe_dget hu (pv i hN hv hd hcd) pe_str (fun _ _ => rfl)) fun σ H Q ⟨W, B, H0, A, env, r, fd, l, ho, he, hl, q⟩ => by
    have hn : i ∉ A.map (·.1) := by
      rw [ho]
      intro z
      rw [List.contains_iff_mem.mpr z] at hi
      cases hi
    obtain ⟨v, h1, h2⟩ := l.vals i _ he hn
    cases h2
    have wi : Winv W r H := l.wi
    refine ⟨_, h1, r.am, fd.v, rfl, ?_, q⟩
    have := DGet.k (k := .inr x) wi.dk
    rw [wKvs_val hl] at this
    exact this
theorem ints_reps {K : PySem.W.Frag} {H : Hp} {B : List Addr} : ∀ xs : List Int, Reps K H B (xs.map D.int) (xs.map V.int)
  | [] => .nil
  | x :: xs => .cons (.int x) (ints_reps xs)
theorem ints_repA {W B : List Addr} {r : Rw} {H : Hp} {K : PySem.W.Frag} {x : Str} {a : Addr} {xs : List Int} (h : Winv W r H) (l : r.fs.lookup x = some (.lst a xs)) : RepA K H B (.lst (xs.map D.int)) (.ref a) := .inr ⟨a, _, _, rfl, rfl, h.ls x a xs l, ints_reps xs⟩
theorem ed_wget {i : Nat} {m x : Str} {p q : Pos} {j} (hu : X.A.units + 1 < cLine) (hi : (O.contains i) = false := by rfl) (hN : X.N[i]? = some m := by rfl) (hv : Vis X.env.scope m := by first | exact Or.inl rfl | exact Or.inr (Or.inl rfl) | exact Or.inr (Or.inr rfl)) (hd : (m == ("__debug__" : Str)) = false := by decide)
    (hcd : (m == ("__classdict__" : Str)) = false := by decide) : Ed Iw X O (.Subscript (.Name m p) (.Constant (.str x) j q) pos) (wGet i x) :=
  PE.weak (pe_wfld hu hi hN hv hd hcd) fun σ H Q ⟨W, B, H0, A, env, r, d, r', l, ho, hf, q⟩ => by
    unfold wGet at hf
    obtain ⟨u, e1, hf⟩ := Option.bind_eq_some_iff.mp hf
    obtain ⟨k, e2, hf⟩ := Option.map_eq_some_iff.mp hf
    cases hf
    exact ⟨W, B, H0, A, env, r, _, l, ho, amAt_some e1, fInt_some e2, q _ H l Evo.refl (.int _)⟩
theorem ed_wlen {i : Nat} {m x y : Str} {p q p1 p2 : Pos} {j} (hu : X.A.units + 1 < cLine) (hg : Gl X y) (hm : X.mg y = none) (hbv : bootBuiltins y = some (.builtin "len")) (hi : (O.contains i) = false := by rfl) (hN : X.N[i]? = some m := by rfl)
    (hv : Vis X.env.scope m := by first | exact Or.inl rfl | exact Or.inr (Or.inl rfl) | exact Or.inr (Or.inr rfl)) (hd : (m == ("__debug__" : Str)) = false := by decide) (hcd : (m == ("__classdict__" : Str)) = false := by decide) (hn : y ≠ "__name__" := by decide) (hdb : (y == ("__debug__" : Str)) = false := by decide)
    (hs : starEach [.Subscript (.Name m p) (.Constant (.str x) j q) p1] X.env = (false, eval (.Subscript (.Name m p) (.Constant (.str x) j q) p1) X.env) :: starEach [] X.env := by rfl) : Ed Iw X O (.Call (.Name y p2) [.Subscript (.Name m p) (.Constant (.str x) j q) p1] [] pos) (wLen i x) :=
  PE.weak (pe_callB cd_len hg hm hbv (pa_cons (pe_wfld (pos := p1) (q := q) (j := j) (x := x) hu hi hN hv hd hcd) pa_nil hs) hn hdb hs) fun σ H Q ⟨W, B, H0, A, env, r, d, r', l, ho, hf, q⟩ => by
    unfold wLen at hf
    obtain ⟨u, e1, hf⟩ := Option.bind_eq_some_iff.mp hf
    obtain ⟨⟨a, xs⟩, e2, hf⟩ := Option.map_eq_some_iff.mp hf
    cases hf
    refine ⟨W, B, H0, A, env, r, _, l, ho, amAt_some e1, fLst_some e2, _, B ++ A.ad, _, _, rfl, l.bx, ints_repA l.wi (fLst_some e2), rfl, fun v H' ex rp => ?_⟩
    rw [List.length_map] at rp
    exact q v H' (l.ext ex) ex.evo rp
theorem td_wne {i : Nat} {m x : Str} {p q p1 p2 : Pos} {j} (hu : X.A.units + 1 < cLine) (hu0 : X.A.units < cLine) (hi : (O.contains i) = false := by rfl) (hN : X.N[i]? = some m := by rfl)
    (hv : Vis X.env.scope m := by first | exact Or.inl rfl | exact Or.inr (Or.inl rfl) | exact Or.inr (Or.inr rfl)) (hd : (m == ("__debug__" : Str)) = false := by decide) (hcd : (m == ("__classdict__" : Str)) = false := by decide) (hm : behindInMarks .NotEq (.List [] p2) = false := by first | exact nomark _ | rfl) :
    Td Iw X O (.Compare (.Subscript (.Name m p) (.Constant (.str x) j q) p1) [.NotEq] [.List [] p2] pos) (wNe i x) :=
  PT.weak (pt_cmpR (opd_ne hu0) (pe_wfld (pos := p1) (q := q) (j := j) (x := x) hu hi hN hv hd hcd) (pe_lst pa_nil) hm) fun σ H Q ⟨W, B, H0, A, env, r, d, r', l, ho, hf, q⟩ => by
    unfold wNe at hf
    obtain ⟨u, e1, hf⟩ := Option.bind_eq_some_iff.mp hf
    obtain ⟨⟨a, xs⟩, e2, hf⟩ := Option.map_eq_some_iff.mp hf
    cases hf
    refine ⟨W, B, H0, A, env, r, _, l, ho, amAt_some e1, fLst_some e2, Nat.zero_le _, fun p np => ?_⟩
    have l2 := l.grow (o := .lst []) np
    refine ⟨B ++ A.ad, .lst (xs.map D.int), .lst [], _, l2.bx, ints_repA l2.wi (fLst_some e2), .inr ⟨p, _, _, rfl, rfl, upd_same, .nil⟩, rfl, fun v H' ex rp => ?_⟩
    have ee : (List.map D.int xs).isEmpty = xs.isEmpty := by cases xs <;> rfl
    rw [ee] at rp
    cases rp
    exact ⟨_, rfl, q H' (l2.ext ex) ((Evo.new np).trans ex.evo)⟩
theorem atI_map {α β : Type} (g : α → β) (xs : List α) (i : Int) : atI (xs.map g) i = (atI xs i).map g := by
  unfold atI
  rw [List.length_map]
  cases ixN xs.length i with
  | none => rfl
  | some j => rw [Option.bind_some, Option.bind_some, List.getElem?_map]
theorem ed_wix {i : Nat} {m x : Str} {p q p1 : Pos} {j} {b : Expr} {f : SE Rw} (hu : X.A.units + 1 < cLine) (hb : Ed Iw X O b f) (hi : (O.contains i) = false := by rfl) (hN : X.N[i]? = some m := by rfl)
    (hv : Vis X.env.scope m := by first | exact Or.inl rfl | exact Or.inr (Or.inl rfl) | exact Or.inr (Or.inr rfl)) (hd : (m == ("__debug__" : Str)) = false := by decide) (hcd : (m == ("__classdict__" : Str)) = false := by decide) (hs : PlainIx b := by exact fun _ _ => rfl) :
    Ed Iw X O (.Subscript (.Subscript (.Name m p) (.Constant (.str x) j q) p1) b pos) (wIx i x f) :=
  PE.weak (pe_ix ix_D (pe_wfld (pos := p1) (q := q) (j := j) (x := x) hu hi hN hv hd hcd) hb hs) fun σ H Q ⟨W, B, H0, A, env, r, d, r', l, ho, hf, q⟩ => by
    unfold wIx at hf
    obtain ⟨u, e1, hf⟩ := Option.bind_eq_some_iff.mp hf
    obtain ⟨⟨a, xs⟩, e2, hf⟩ := Option.bind_eq_some_iff.mp hf
    obtain ⟨⟨dk, r2⟩, e3, hf⟩ := Option.bind_eq_some_iff.mp hf
    obtain ⟨⟨a2, ys⟩, e4, hf⟩ := Option.bind_eq_some_iff.mp hf
    split at hf
    case isFalse => cases hf
    case isTrue ea =>
    obtain ⟨k, e5, hf⟩ := Option.bind_eq_some_iff.mp hf
    obtain ⟨z, e6, hf⟩ := Option.map_eq_some_iff.mp hf
    cases hf
    have ea' : a = a2 := ea
    subst ea'
    refine ⟨W, B, H0, A, env, r, _, l, ho, amAt_some e1, fLst_some e2, W, B, H0, A, env, r, dk, r2, l, ho, e3, fun v H1 l1 ev rp => ?_⟩
    refine ⟨B ++ A.ad, _, dk, _, l1.bx, ints_repA l1.wi (fLst_some e4), .inl rp, ?_, fun v H' ex rp => q v H' (l1.ext ex) (ev.trans ex.evo) rp⟩
    have e5' := intOf_some e5
    dsimp only at e5'
    rw [e5']
    show atI (ys.map D.int) k = _
    rw [atI_map]
    dsimp only at e6
    rw [e6]
    rfl
theorem sd_wput {i : Nat} {m x : Str} {p q p1 : Pos} {j} {e : Expr} {f : SE Rw} (hu : X.A.units + 1 < cLine) (he : Ed Iw X O e f) (hi : (O.contains i) = false := by rfl) (hN : X.N[i]? = some m := by rfl)
    (hv : Vis X.env.scope m := by first | exact Or.inl rfl | exact Or.inr (Or.inl rfl) | exact Or.inr (Or.inr rfl)) (hd : (m == ("__debug__" : Str)) = false := by decide) (hcd : (m == ("__classdict__" : Str)) = false := by decide)
    (hs : swapsWith e (some (.Subscript (.Name m p) (.Constant (.str x) j q) p1)) pos.line X.env = pure false := by rfl) : Sd Iw X O (.Assign [.Subscript (.Name m p) (.Constant (.str x) j q) p1] e pos) (wPut i x f) O :=
  Sd.of (ps_dput hu (pv i hN hv hd hcd) pe_str he hs) fun D σ H W B H0 A env r l ho k => by
    unfold wPut at k
    cases e1 : f env r with
    | none => rw [e1] at k; exact k.elim
    | some s =>
      obtain ⟨d, r1⟩ := s
      rw [e1, Option.bind_some] at k
      refine ⟨W, B, H0, A, env, r, d, r1, l, ho, e1, fun v H1 l1 ev rp => ?_⟩
      cases e2 : amAt i env r1 with
      | none => dsimp only at k; rw [e2] at k; exact k.elim
      | some u =>
        cases e3 : fInt x r1 with
        | none => dsimp only at k; rw [e2, Option.bind_some, e3] at k; exact k.elim
        | some z =>
          cases e4 : intOf d with
          | none => dsimp only at k; rw [e2, Option.bind_some, e3, Option.bind_some, e4] at k; exact k.elim
          | some kk =>
            dsimp only at k
            rw [e2, Option.bind_some, e3, Option.bind_some, e4] at k
            have hn : i ∉ A.map (·.1) := by
              rw [ho]
              intro z
              rw [List.contains_iff_mem.mpr z] at hi
              cases hi
            obtain ⟨u2, h1, h2⟩ := l1.vals i _ (amAt_some e2) hn
            cases h2
            rw [intOf_some e4] at rp
            cases rp
            have wi : Winv W r1 H1 := l1.wi
            have wi2 := wi.put (i := kk) (fInt_some e3)
            have inW : r1.am ∈ W := by rw [wi.w]; exact List.mem_cons_self ..
            have evw : Evo W H1 (upd H1 r1.am (.dK (wKvs (putF r1.fs x (.int kk))))) := Evo.write inW
            refine ⟨_, h1, r1.am, _, rfl, DPut.k (k := .inr x) wi.dk ?_, ?_⟩
            · unfold wKvs
              rw [List.length_map]
              exact Nat.lt_trans wi.ky (by decide)
            · have ep : putK (wKvs r1.fs) (.inr x : Key) (V.int kk) = wKvs (putF r1.fs x (.int kk)) := wKvs_put (fd' := .int kk) (fInt_some e3)
              rw [ep]
              exact k A σ _ ho (l1.step wi2 evw) (Fr.of (ev.trans evw) fun q hq => hq)
theorem sd_wputL {i : Nat} {m x : Str} {p q p1 p2 : Pos} {j} {e b : Expr} {f fb : SE Rw} (hu : X.A.units + 1 < cLine) (he : Ed Iw X O e f) (hb : Ed Iw X O b fb) (hi : (O.contains i) = false := by rfl) (hN : X.N[i]? = some m := by rfl)
    (hv : Vis X.env.scope m := by first | exact Or.inl rfl | exact Or.inr (Or.inl rfl) | exact Or.inr (Or.inr rfl)) (hd : (m == ("__debug__" : Str)) = false := by decide) (hcd : (m == ("__classdict__" : Str)) = false := by decide)
    (ha : ∀ v, assign (.Subscript (.Subscript (.Name m p) (.Constant (.str x) j q) p1) b p2) X.env v = (do
      let ov ← holding [v] (eval (.Subscript (.Name m p) (.Constant (.str x) j q) p1) X.env)
      let iv ← holding [v, ov] (eval b X.env)
      standAt p2
      holding [v, ov, iv] (setItem ov iv v)
      release [v, ov, iv] []) := by intro _; rfl)
    (hs : swapsWithSole [.Subscript (.Subscript (.Name m p) (.Constant (.str x) j q) p1) b p2] e pos.line X.env = pure false := by rfl) (hw : swappedStores [.Subscript (.Subscript (.Name m p) (.Constant (.str x) j q) p1) b p2] e X.env = pure none := by rfl)
    (h1 : (assignEach [.Subscript (.Subscript (.Name m p) (.Constant (.str x) j q) p1) b p2] X.env).map (·.2) = [assign (.Subscript (.Subscript (.Name m p) (.Constant (.str x) j q) p1) b p2) X.env] := by rfl) :
    Sd Iw X O (.Assign [.Subscript (.Subscript (.Name m p) (.Constant (.str x) j q) p1) b p2] e pos) (wPutL i x fb f) O :=
  Sd.of (ps_asg he (pg_sub (pe_wfld (pos := p1) (q := q) (j := j) (x := x) hu hi hN hv hd hcd) hb set_list ha) hs hw h1) fun D σ H W B H0 A env r l ho k => by
    unfold wPutL at k
    cases e1 : f env r with
    | none => rw [e1] at k; exact k.elim
    | some s =>
      obtain ⟨d, r1⟩ := s
      rw [e1, Option.bind_some] at k
      dsimp only at k
      refine ⟨W, B, H0, A, env, r, d, r1, l, ho, e1, fun v H1 l1 ev rp => ?_⟩
      generalize hk : ((amAt i env r1).bind fun x_1 => (fLst x r1).bind fun p => (fb env r1).bind fun s => (fLst x s.2).bind fun p2 => if p.1 = p2.1 then (intOf d).bind fun k => (intOf s.1).bind fun j => (ixN p2.2.length j).map fun n => (Out.nx env (⟨s.2.am, putF s.2.fs x (.lst p2.1 (p2.2.set n k))⟩ : Rw) : Out Rw) else none) = o at k
      cases o with
      | none => exact k.elim
      | some o =>
        obtain ⟨u, e2, hk⟩ := Option.bind_eq_some_iff.mp hk
        obtain ⟨⟨a, xs⟩, e3, hk⟩ := Option.bind_eq_some_iff.mp hk
        obtain ⟨⟨di, r2⟩, e4, hk⟩ := Option.bind_eq_some_iff.mp hk
        obtain ⟨⟨a2, ys⟩, e5, hk⟩ := Option.bind_eq_some_iff.mp hk
        split at hk
        case isFalse => cases hk
        case isTrue ea =>
        obtain ⟨kk, e6, hk⟩ := Option.bind_eq_some_iff.mp hk
        obtain ⟨jj, e7, hk⟩ := Option.bind_eq_some_iff.mp hk
        obtain ⟨n, e8, hk⟩ := Option.map_eq_some_iff.mp hk
        cases hk
        have ea' : a = a2 := ea
        subst ea'
        refine ⟨W, B, H0, A, env, r1, _, l1, ho, amAt_some e2, fLst_some e3, W, B, H0, A, env, r1, di, r2, l1, ho, e4, fun w H2 l2 ev2 rp2 => ?_⟩
        rw [intOf_some e6] at rp
        have e7' := intOf_some e7
        dsimp only at e7'
        rw [e7'] at rp2
        cases rp
        cases rp2
        have wi : Winv W r2 H2 := l2.wi
        have wi2 := wi.putL (ys := ys.set n kk) (fLst_some e5)
        have inW : a ∈ W := by rw [wi.w]; exact List.mem_cons_of_mem _ (lookup_ads (fLst_some e5))
        have evw : Evo W H2 (upd H2 a (.lst ((ys.set n kk).map V.int))) := Evo.write inW
        dsimp only at e8
        refine ⟨a, ys.map V.int, jj, n, rfl, rfl, wi.ls x a ys (fLst_some e5), by rw [List.length_map]; exact e8, ?_⟩
        rw [← List.map_set]
        exact k A σ _ ho (l2.step wi2 evw) (Fr.of ((ev.trans ev2).trans evw) fun q hq => hq)
end
end DL
end
section
set_option Elab.async false
set_option linter.all false
set_option maxRecDepth 100000
set_option maxHeartbeats 4000000
/-! The data layer, 18: an own exception over ValueError (through further own classes) whose __init__ says super().__init__(x); self.f = x. -/
namespace L2
open PySem PySem.Spec PyProof.Rows
/-- what the written part holds of such an __init__ at f, of the class at C -/
structure SupF (K : PySem.W.Frag) (prog : Program) (C : Addr) (qual : Str) (params : Arguments) (body : List Stmt) (scope : Scope) (f : Addr) (fd : FuncData) : Prop where
  ex : ∃ (oc : Value) (od : Option Addr) (osl : Array (Option Value)) (dV kV doc pm : Value) (an : Option Addr) (ct : Value) (cc cda : Addr) (ccl : Value) (cdd : Option Addr) (vs : Array Value) (ccs : Array (Option Value)) (file : Str) (tf : Tok)
      (cl : Value) (cld : Option Addr) (csl : Array (Option Value)) (cd : ClassData),
    fd = PySem.W.ksFn "__init__" qual params body scope dV kV doc pm an (.ref cda) ct cc ∧ K.lookup f = some ⟨oc, od, .func fd, osl⟩ ∧ PySem.W.codeIn K (.ref cda) qual = true ∧ K.lookup cda = some ⟨ccl, cdd, .fields vs, ccs⟩ ∧ vs[2]? = some (.str file tf) ∧
      ((prog.main.file : Str) == file) = true ∧ K.lookup cc = some ⟨cl, cld, .cell (some (.ref C)), csl⟩ ∧ PySem.W.clsIn K C = some cd
  sup : PySem.W.ks_superIn K C C "__init__" = some (some (.builtin "ValueError.__init__"))
  sub : PySem.W.mroIn K C (.ref C) = some true
  ve : PySem.W.subIn K (.ref C) (.type "ValueError") = some true
  opq : PySem.W.nsIn K cStatics "thirdparty.any" = some none
  fre : PySem.W.nsIn K mainGlobals "super" = some none
  top : (prog.main.scope.names.lookup ("super" : Str)).isSome = false
def spSup (C : Addr) (f : Str) : Sp := fun vs H Q _ => ∃ a v, vs = [.ref a, v] ∧ H a = some (exo a C none) ∧ ∀ dx, H dx = none → dx ≠ a → Q .non (upd (upd H dx (exd dx [(f, v)])) a (exo a C (some dx)))
section
open PySem.W
variable {prog : Program} {w : World} {A : Around} {E : Value → Shared → Prop}
/-- the bound ValueError.__init__, called -/
theorem call_mwV {h : Heap} {g : Array GenState} {d : Drawn} {t : Nat} {os : OsState} {nm q : Str} {C N : Addr} {bs bm : List Value} {sn : List Str} {sub : List Value} {ab : Bool} {col : Option Bool} {dd : Option Addr} {k0 k1 k2 k3 k5 : Option Value} {u e t0 : Addr} {rest : List Value} {Q : Value → Shared → Prop}
    (hC : h.get? C = some (excClassObj nm q C N bs bm true sn sub ab col dd k0 k1 k2 k3 k5 "ValueError.__new__")) (he : h.get? e = some (PySem.HandSPX.excO C t0)) (hu : h.get? u = some (kxs_mw "ValueError.__init__" e)) (hrest : rest.length ≤ sizeLine)
    (hq : ∀ h' t1, (∀ b o, b ≠ e → h.get? b = some o → h'.get? b = some o) → h'.get? e = some (PySem.HandSPX.excO C t1) → Q .none ⟨h', g, d, t, os⟩) :
    wpAny (model prog w) A (call (.ref u) rest) Q E ⟨h, g, d, t, os⟩ := by
  refine wpAny_call (codeAny_of_tree ?_)
  show wpAny _ A.in1 (callAny (.ref u) ⟨rest, []⟩) _ _ _
  simp only [callAny]
  refine wpAny_bind (wpAny_load hu ?_)
  simp only [kxs_mw, show (Value.type "method-wrapper" == Value.type "method" || Value.type "method-wrapper" == Value.type "builtin_function_or_method" || Value.type "method-wrapper" == Value.type "method-wrapper") = true by decide, if_true]
  refine W.KFB.if_so (by decide) ?_
  refine wpAny_bind (PySem.ESX.check_bound F.excBase_ValueError hC he rfl ?_)
  refine wpAny_bind (wpAny_pure (wpAny_pure ?_))
  refine ⟨Code.quiet_builtin _ (by decide +kernel), codeAny_builtin F.excBase_ValueError.initEntry ?_⟩
  rw [Around.under_plainId F.excBase_ValueError.init.plain _]
  wp_walk
  refine hq _ h.objs.size (fun b o hb ho => ?_) ?_
  · rw [Heap.get?_update_other _ _ (Ne.symm hb)]
    exact Heap.get?_push_of_some _ ho
  · rw [Heap.get?_update_self _ (Heap.get?_push_of_some _ he) rfl]
    rfl
end

open NdefX in
theorem sup_ok {P : Program} {w : World} {K : PySem.W.Frag} {mg : Str → Option Value} {base : Heap} {C f : Addr} {qual : Str} {params : Arguments} {body : List Stmt} {scope : Scope} {fd : FuncData} {x fl : Str} {k : Nat} {p1 p2 p3 p4 p5 p6 p7 p8 p9 p10 : Pos}
    (F : SupF K P C qual params body scope f fd) (T : OexC K C) (hbody : body = [.Expr (.Call (.Attribute (.Call (.Name "super" p1) [] [] p2) "__init__" p3) [.Name x p4] [] p5) p6, .Assign [.Attribute (.Name "self" p7) fl p8] (.Name x p9) p10])
    (S : NScope ["self", x, "__class__"] ["self", x] ["__class__"] scope) (hx : x ≠ "__class__") (hno : PySem.W.findIn K (.ref C) fl = some none) (har : ∃ ar, (params.posonlyargs ++ params.args).head? = some ar ∧ ar.arg = "self")
    (hcall : ∀ L cda cc : Addr, ∃ pl : Sem Bool, eval (.Call (.Attribute (.Call (.Name "super" p1) [] [] p2) "__init__" p3) [.Name x p4] [] p5) (PySem.W.ksEnv qual scope L f (.ref cda) cc) = (do
      let ov ← attributeBase (.Call (.Name "super" p1) [] [] p2) "__init__" (PySem.W.ksEnv qual scope L f (.ref cda) cc) (eval (.Call (.Name "super" p1) [] [] p2) (PySem.W.ksEnv qual scope L f (.ref cda) cc))
      standAt p3.atName
      let (g, first) ← holding [ov] (getMethod ov "__init__" pl)
      callWith p5 g first (backTo p5 (starEach [.Name x p4] (PySem.W.ksEnv qual scope L f (.ref cda) cc))) []))
    (hint : ∀ L cda cc : Addr, interactive (PySem.W.ksEnv qual scope L f (.ref cda) cc) = false)
    (hsw : ∀ L cda cc : Addr, swapsWith (.Call (.Attribute (.Call (.Name "super" p1) [] [] p2) "__init__" p3) [.Name x p4] [] p5) none p6.line (PySem.W.ksEnv qual scope L f (.ref cda) cc) = pure false)
    (hst : ∀ L cda cc : Addr, starEach [.Name x p4] (PySem.W.ksEnv qual scope L f (.ref cda) cc) = (false, eval (.Name x p4) (PySem.W.ksEnv qual scope L f (.ref cda) cc)) :: starEach [] (PySem.W.ksEnv qual scope L f (.ref cda) cc))
    (hsw2 : ∀ L cda cc : Addr, swapsWith (.Name x p9) (some (.Attribute (.Name "self" p7) fl p8)) p10.line (PySem.W.ksEnv qual scope L f (.ref cda) cc) = pure false)
    (hks : scope.names.lookup ("super" : Str) = some .globalImplicit) (hxd : (x == ("__debug__" : Str)) = false) (hxc : (x == ("__classdict__" : Str)) = false) : FnOk P w K mg base CX0 (k + 1) f fd ["self", x] (spSup C fl) := by
  refine ⟨fun vs H Q E h => ?_, fun A outer s H args us vs Q E hr e0 hb r hsp => ?_⟩
  · obtain ⟨a, v, rfl, _⟩ := h
    rfl
  obtain ⟨a, v, rfl, ha, hq⟩ := hsp
  obtain ⟨oc, od, osl, dV, kV, doc, pm, an, ct, cc, cda, ccl, cdd, vs, ccs, file, tf, cl, cld, csl, cd, rfl, lk, hcd, lcd, hvs, hfile, lcc, lcl⟩ := F.ex
  have KX : K.In s.heap := e0.mod.kin.keeps fun b o e => (e0.bs b o e).1
  have lim : s.heap.NoLimit := e0.mod.nolimit.keeps fun b o e => (e0.bs b o e).1
  have Hcc : H cc = none := (e0.bs cc _ (e0.mod.kin _ _ lcc)).2
  have cells : CellsAt [(("__class__" : Str), cc)] ["__class__"] [some (V.ref C)] s.heap H := by
    refine ⟨rfl, fun y c e => ?_, fun y z c e1 e2 => ?_, fun i y e => ?_⟩
    · have : c = cc := by
        rw [List.lookup_cons] at e
        split at e
        · cases e; rfl
        · cases e
      subst this
      exact ⟨Hcc, _, _, KX _ _ lcc, rfl⟩
    · have only : ∀ y : Str, List.lookup y [(("__class__" : Str), cc)] = some c → y = "__class__" := fun y e => by
        rw [List.lookup_cons] at e
        by_cases q : y = "__class__"
        · exact q
        · rw [beq_eq_false_iff_ne.mpr q] at e
          cases e
      rw [only y e1, only z e2]
    · match i, e with
      | 0, e =>
        cases e
        refine ⟨cc, by rw [List.lookup_cons, beq_self_eq_true], fun v e2 => ?_⟩
        cases e2
        exact ⟨.ref C, rfl, _, KX _ _ lcc, rfl⟩
  refine ks_codeAny_call_defAt (fd := PySem.W.ksFn "__init__" qual params body scope dV kV doc pm an (.ref cda) ct cc) (body := body) hr.depth (KX _ _ lk) rfl lim (PySem.W.codeRec_of KX hcd) rfl hb S.nocell (fun ⟨n, _⟩ hy => S.par n (List.of_mem_zip hy).1) (fun h₁ hns kp => ?_) S.co S.gen S.kind
  have I := inv_startN (CX := CX0) (P := P) (w := w) (K := K) (mg := mg) (base := base) (E := E) (f := f) (tk := s.toks + ((["self", x] : List Str).zip us).length) (F := ⟨"__init__", qual, params, [], scope, [("__class__", cc)], cda⟩) S hr.hd e0 rfl r cells hns kp
  have KX1 : K.In h₁ := KX.keeps kp
  obtain ⟨oC, hC1, hC2⟩ : ∃ oC, K.lookup C = some oC ∧ oC.data = .cls cd := by
    unfold PySem.W.clsIn at lcl
    split at lcl
    · rename_i c d cd' sl ho
      cases lcl
      exact ⟨_, ho, rfl⟩
    · cases lcl
  cases r with
  | @cons _ ua _ ur ra r2 =>
  obtain rfl : ua = Value.ref a := ra
  cases r2 with
  | @cons _ uv _ un rv r3 =>
  cases r3
  subst hbody
  have hC3 := KX1 _ _ hC1
  have hse : scope.names.lookup ("self" : Str) = some .local := S.par _ (List.mem_cons_self ..)
  have hsx : scope.names.lookup x = some .local := S.par _ (by simp)
  have hkc : scope.names.lookup ("__class__" : Str) = some .free := S.frk _ (List.mem_cons_self ..)
  obtain ⟨ar, hp, har⟩ := har
  obtain ⟨t0, hoa⟩ := exo_at I.hok ha
  obtain ⟨nm, q, N, bs, bm, sn, sub, ab, col, dd, k0, k1, k2, k3, k5, hTC, hbm⟩ := T.cls
  obtain ⟨mb, hb1, hb2⟩ := e0.mod.blt
  have bk : ∀ b o, base.get? b = some o → h₁.get? b = some o := fun b o e => kp b o (e0.bs b o e).1
  obtain ⟨pl, hcl⟩ := hcall s.heap.objs.size cda cc
  refine ks_wpAt_execs_cons (ks_wpAt_Expr_any (env := PySem.W.ksEnv qual scope s.heap.objs.size f (.ref cda) cc) (ks_wpAt_MethodCall (env := PySem.W.ksEnv qual scope s.heap.objs.size f (.ref cda) cc) ?_ hcl) (hint _ _ _) (hsw _ _ _))
  refine ks_wpAt_super_base (env := PySem.W.ksEnv qual scope s.heap.objs.size f (.ref cda) cc) hks hkc rfl rfl (KX1 _ _ lk) rfl hp rfl (KX1 _ _ lcd) rfl hvs hfile F.top ?_
  refine PySem.W.ks_loadName_global S.kind hks (Calls.loadGlobal_builtin (env := PySem.W.ksEnv qual scope s.heap.objs.size f (.ref cda) cc) (e0.mod.glob.keeps bk) (PySem.W.mg_none_of e0.mod.kin e0.mod.glob F.fre) (hb1.keeps bk) ((hb2 _ (by decide +kernel)).trans (show bootBuiltins "super" = some (.type "super") by decide +kernel)) ⟨rfl, ?_⟩)
  refine wpAny_loadName_free S.kind hkc rfl ⟨_, KX1 _ _ lcc, rfl⟩ ?_
  rw [har]
  have look0 : (([(("self" : Str), Value.ref a), (x, uv)] : List (Str × Value)).reverse).lookup ("self" : Str) = some (Value.ref a) := by
    have ne : (("self" : Str) == x) = false := beq_eq_false_iff_ne.mpr fun z => by
      have := S.nd
      rw [← z] at this
      simp at this
    simp [List.lookup_cons, ne]
  have look1 : (([(("self" : Str), Value.ref a), (x, uv)] : List (Str × Value)).reverse).lookup x = some uv := by
    simp [List.lookup_cons]
  refine wpAny_loadName_local S.kind hse hns (v := .ref a) look0 ?_
  refine ks_wpAny_isType_cls hC3 hC2 ⟨rfl, ?_⟩
  refine ks_wpAny_call_super hC3 hC2 hoa rfl (fun c e => nomatch e) (PySem.W.looks_mroIn KX1 F.sub) (fun h2 hso k2 => ?_)
  have KX2 := KX1.keeps k2
  have hoa2 := k2 _ _ hoa
  have hsup := F.sup
  unfold PySem.W.ks_superIn at hsup
  rw [lcl] at hsup
  have inst : PySem.W.InstAt h2 a _ C none := ⟨hoa2, rfl, rfl, trivial⟩
  refine PySem.W.kxs_getMethod PySem.W.kxs_ValueError hso (PySem.W.looks_opaque KX2 F.opq) (l₀ := cd.mro) ?_ rfl KX2 hsup (inst.type.andThen (PySem.W.looks_subIn KX2 F.ve)) (PySem.W.ks_ne KX2 inst lcl) rfl ?_
  · exact fun A Q E s k q => wpAny_bind ((PySem.W.looks_clsIn KX2 lcl) A _ E s k (wpAny_pure q))
  have k3 : ∀ b o, h2.get? b = some o → (h2.push (PySem.W.kxs_mw "ValueError.__init__" a)).get? b = some o := fun b o e => Heap.get?_push_of_some _ e
  have hu3 : (h2.push (PySem.W.kxs_mw "ValueError.__init__" a)).get? h2.objs.size = some (PySem.W.kxs_mw "ValueError.__init__" a) := Heap.get?_push_size _ rfl
  rw [hst]
  refine PySem.W.kxs_callWith (i := "ValueError.__init__") (x := a) rfl (Calls.evalArgs_plain (Calls.spliced_cons ?_))
  have hns3 : (h2.push (PySem.W.kxs_mw "ValueError.__init__" a)).Ns s.heap.objs.size (fun y => ([(("self" : Str), Value.ref a), (x, uv)].reverse).lookup y) := hns.keeps fun b o e => k3 _ _ (k2 _ _ e)
  refine wpAny_Name (wpAny_loadName_local S.kind hsx hns3 (v := uv) look1 ?_) hxd
  refine Calls.spliced_nil ⟨hu3, ?_⟩
  have hTC3 := k3 _ _ (KX2 _ _ hTC)
  refine call_mwV hTC3 (k3 _ _ hoa2) hu3 (by show 1 ≤ sizeLine; decide) (fun h4 t1 k4 ho4 => ?_)
  have I3 := (I.kept (h' := h2) (t' := s.toks) k2).kept (h' := h2.push (PySem.W.kxs_mw "ValueError.__init__" a)) (t' := s.toks) k3
  have J := I3.write (h' := h4) (t' := s.toks + ((["self", x] : List Str).zip [Value.ref a, uv]).length + 1) (x := a) (e := a) (o := exo a C none) (by rw [ha]; exact True.intro) (.inl rfl) k4 ⟨_, ho4⟩ (exo_ok ho4)
  have eu : upd H a (exo a C none) = H := by
    funext b
    by_cases hb : b = a
    · rw [hb, upd_same, ha]
    · rw [upd_ne hb]
  rw [eu] at J
  refine wpAt_of_wpAny ?_
  have st2 := pss_one (X := ncx CX0 P w K mg base ["self", x, "__class__"] ⟨"__init__", qual, params, [], scope, [("__class__", cc)], cda⟩ f A outer s H E) (ps_ost (f := fl) (p' := p8) (pos := p10) (pv (pos := p7) 0 rfl (.inl hse) rfl rfl) (pv (pos := p9) 1 rfl (.inl hsx) hxd hxc) (hsw2 _ _ _))
  refine wpAny_mono (st2.run [] _ _ H { nx := fun _ H' => Q .non H', rt := Q } J ⟨v, rfl, .ref a, rfl, a, C, rfl, T, hno, .inl ⟨ha, fun dx n1 n2 => hq dx n1 n2⟩⟩) (fun flw s' hs => ?_) fun e s' hs => hs
  have fin : ∀ {σ' : L2.St} {H' : Hp} {v : V} {u : Value}, Inv (ncx CX0 P w K mg base ["self", x, "__class__"] ⟨"__init__", qual, params, [], scope, [("__class__", cc)], cda⟩ f A outer s H E) [] σ' H' s' → L2.RelV v u → Q v H' → CE outer P w H s Q u s' :=
    fun {σ' H' v u} J rv q => ⟨v, H', J.os, J.bare, J.base, J.hok, rv, q⟩
  cases flw with
  | ret u =>
    obtain ⟨v, σ', H', J, rv, q⟩ := hs
    exact fin J rv q
  | next =>
    obtain ⟨σ', H', J, q⟩ := hs
    exact fin (v := V.non) (u := Value.none) J rfl q
  | brk =>
    obtain ⟨_, _, _, q⟩ := hs
    exact False.elim q
  | cont =>
    obtain ⟨_, _, _, q⟩ := hs
    exact False.elim q
end L2
end
section
set_option Elab.async false
set_option linter.all false
set_option maxRecDepth 100000
set_option maxHeartbeats 4000000
/-! The data layer, 19: the same while an exception is handled; such exceptions made; raise .. from one that is handled. -/
namespace L2
open PySem PySem.Spec PyProof.Rows
open NdefX in
theorem sup_okH {P : Program} {w : World} {K : PySem.W.Frag} {mg : Str → Option Value} {base : Heap} {C f : Addr} {qual : Str} {params : Arguments} {body : List Stmt} {scope : Scope} {fd : FuncData} {x fl : Str} {k : Nat} {p1 p2 p3 p4 p5 p6 p7 p8 p9 p10 : Pos}
    (F : SupF K P C qual params body scope f fd) (T : OexC K C) (hbody : body = [.Expr (.Call (.Attribute (.Call (.Name "super" p1) [] [] p2) "__init__" p3) [.Name x p4] [] p5) p6, .Assign [.Attribute (.Name "self" p7) fl p8] (.Name x p9) p10])
    (S : NScope ["self", x, "__class__"] ["self", x] ["__class__"] scope) (hx : x ≠ "__class__") (hno : PySem.W.findIn K (.ref C) fl = some none) (har : ∃ ar, (params.posonlyargs ++ params.args).head? = some ar ∧ ar.arg = "self")
    (hcall : ∀ L cda cc : Addr, ∃ pl : Sem Bool, eval (.Call (.Attribute (.Call (.Name "super" p1) [] [] p2) "__init__" p3) [.Name x p4] [] p5) (PySem.W.ksEnv qual scope L f (.ref cda) cc) = (do
      let ov ← attributeBase (.Call (.Name "super" p1) [] [] p2) "__init__" (PySem.W.ksEnv qual scope L f (.ref cda) cc) (eval (.Call (.Name "super" p1) [] [] p2) (PySem.W.ksEnv qual scope L f (.ref cda) cc))
      standAt p3.atName
      let (g, first) ← holding [ov] (getMethod ov "__init__" pl)
      callWith p5 g first (backTo p5 (starEach [.Name x p4] (PySem.W.ksEnv qual scope L f (.ref cda) cc))) []))
    (hint : ∀ L cda cc : Addr, interactive (PySem.W.ksEnv qual scope L f (.ref cda) cc) = false)
    (hsw : ∀ L cda cc : Addr, swapsWith (.Call (.Attribute (.Call (.Name "super" p1) [] [] p2) "__init__" p3) [.Name x p4] [] p5) none p6.line (PySem.W.ksEnv qual scope L f (.ref cda) cc) = pure false)
    (hst : ∀ L cda cc : Addr, starEach [.Name x p4] (PySem.W.ksEnv qual scope L f (.ref cda) cc) = (false, eval (.Name x p4) (PySem.W.ksEnv qual scope L f (.ref cda) cc)) :: starEach [] (PySem.W.ksEnv qual scope L f (.ref cda) cc))
    (hsw2 : ∀ L cda cc : Addr, swapsWith (.Name x p9) (some (.Attribute (.Name "self" p7) fl p8)) p10.line (PySem.W.ksEnv qual scope L f (.ref cda) cc) = pure false)
    (hks : scope.names.lookup ("super" : Str) = some .globalImplicit) (hxd : (x == ("__debug__" : Str)) = false) (hxc : (x == ("__classdict__" : Str)) = false) : L2H.FnH P w K mg base CX0 (k + 1) f fd ["self", x] (spSup C fl) := by
  refine ⟨fun vs H Q E h => ?_, fun A outer s H args us vs Q E p hr hot hpin e0 hb r hsp => ?_⟩
  · obtain ⟨a, v, rfl, _⟩ := h
    rfl
  obtain ⟨a, v, rfl, ha, hq⟩ := hsp
  obtain ⟨oc, od, osl, dV, kV, doc, pm, an, ct, cc, cda, ccl, cdd, vs, ccs, file, tf, cl, cld, csl, cd, rfl, lk, hcd, lcd, hvs, hfile, lcc, lcl⟩ := F.ex
  have KX : K.In s.heap := e0.mod.kin.keeps fun b o e => (e0.bs b o e).1
  have lim : s.heap.NoLimit := e0.mod.nolimit.keeps fun b o e => (e0.bs b o e).1
  have Hcc : H cc = none := (e0.bs cc _ (e0.mod.kin _ _ lcc)).2
  have cells : CellsAt [(("__class__" : Str), cc)] ["__class__"] [some (V.ref C)] s.heap H := by
    refine ⟨rfl, fun y c e => ?_, fun y z c e1 e2 => ?_, fun i y e => ?_⟩
    · have : c = cc := by
        rw [List.lookup_cons] at e
        split at e
        · cases e; rfl
        · cases e
      subst this
      exact ⟨Hcc, _, _, KX _ _ lcc, rfl⟩
    · have only : ∀ y : Str, List.lookup y [(("__class__" : Str), cc)] = some c → y = "__class__" := fun y e => by
        rw [List.lookup_cons] at e
        by_cases q : y = "__class__"
        · exact q
        · rw [beq_eq_false_iff_ne.mpr q] at e
          cases e
      rw [only y e1, only z e2]
    · match i, e with
      | 0, e =>
        cases e
        refine ⟨cc, by rw [List.lookup_cons, beq_self_eq_true], fun v e2 => ?_⟩
        cases e2
        exact ⟨.ref C, rfl, _, KX _ _ lcc, rfl⟩
  refine ks_codeAny_call_defAt (fd := PySem.W.ksFn "__init__" qual params body scope dV kV doc pm an (.ref cda) ct cc) (body := body) hr.depth (KX _ _ lk) rfl lim (PySem.W.codeRec_of KX hcd) rfl hb S.nocell (fun ⟨n, _⟩ hy => S.par n (List.of_mem_zip hy).1) (fun h₁ hns kp => ?_) S.co S.gen S.kind
  have I := NdefX.inv_startNH (p := p) (CX := CX0) (P := P) (w := w) (K := K) (mg := mg) (base := base) (E := E) (f := f) (tk := s.toks + ((["self", x] : List Str).zip us).length) (F := ⟨"__init__", qual, params, [], scope, [("__class__", cc)], cda⟩) S hpin e0 rfl r cells hns kp
  have KX1 : K.In h₁ := KX.keeps kp
  obtain ⟨oC, hC1, hC2⟩ : ∃ oC, K.lookup C = some oC ∧ oC.data = .cls cd := by
    unfold PySem.W.clsIn at lcl
    split at lcl
    · rename_i c d cd' sl ho
      cases lcl
      exact ⟨_, ho, rfl⟩
    · cases lcl
  cases r with
  | @cons _ ua _ ur ra r2 =>
  obtain rfl : ua = Value.ref a := ra
  cases r2 with
  | @cons _ uv _ un rv r3 =>
  cases r3
  subst hbody
  have hC3 := KX1 _ _ hC1
  have hse : scope.names.lookup ("self" : Str) = some .local := S.par _ (List.mem_cons_self ..)
  have hsx : scope.names.lookup x = some .local := S.par _ (by simp)
  have hkc : scope.names.lookup ("__class__" : Str) = some .free := S.frk _ (List.mem_cons_self ..)
  obtain ⟨ar, hp, har⟩ := har
  obtain ⟨t0, hoa⟩ := exo_at I.hok ha
  obtain ⟨nm, q, N, bs, bm, sn, sub, ab, col, dd, k0, k1, k2, k3, k5, hTC, hbm⟩ := T.cls
  obtain ⟨mb, hb1, hb2⟩ := e0.mod.blt
  have bk : ∀ b o, base.get? b = some o → h₁.get? b = some o := fun b o e => kp b o (e0.bs b o e).1
  obtain ⟨pl, hcl⟩ := hcall s.heap.objs.size cda cc
  refine ks_wpAt_execs_cons (ks_wpAt_Expr_any (env := PySem.W.ksEnv qual scope s.heap.objs.size f (.ref cda) cc) (ks_wpAt_MethodCall (env := PySem.W.ksEnv qual scope s.heap.objs.size f (.ref cda) cc) ?_ hcl) (hint _ _ _) (hsw _ _ _))
  refine ks_wpAt_super_base (env := PySem.W.ksEnv qual scope s.heap.objs.size f (.ref cda) cc) hks hkc rfl rfl (KX1 _ _ lk) rfl hp rfl (KX1 _ _ lcd) rfl hvs hfile F.top ?_
  refine PySem.W.ks_loadName_global S.kind hks (Calls.loadGlobal_builtin (env := PySem.W.ksEnv qual scope s.heap.objs.size f (.ref cda) cc) (e0.mod.glob.keeps bk) (PySem.W.mg_none_of e0.mod.kin e0.mod.glob F.fre) (hb1.keeps bk) ((hb2 _ (by decide +kernel)).trans (show bootBuiltins "super" = some (.type "super") by decide +kernel)) ⟨rfl, ?_⟩)
  refine wpAny_loadName_free S.kind hkc rfl ⟨_, KX1 _ _ lcc, rfl⟩ ?_
  rw [har]
  have look0 : (([(("self" : Str), Value.ref a), (x, uv)] : List (Str × Value)).reverse).lookup ("self" : Str) = some (Value.ref a) := by
    have ne : (("self" : Str) == x) = false := beq_eq_false_iff_ne.mpr fun z => by
      have := S.nd
      rw [← z] at this
      simp at this
    simp [List.lookup_cons, ne]
  have look1 : (([(("self" : Str), Value.ref a), (x, uv)] : List (Str × Value)).reverse).lookup x = some uv := by
    simp [List.lookup_cons]
  refine wpAny_loadName_local S.kind hse hns (v := .ref a) look0 ?_
  refine ks_wpAny_isType_cls hC3 hC2 ⟨rfl, ?_⟩
  refine ks_wpAny_call_super hC3 hC2 hoa rfl (fun c e => nomatch e) (PySem.W.looks_mroIn KX1 F.sub) (fun h2 hso k2 => ?_)
  have KX2 := KX1.keeps k2
  have hoa2 := k2 _ _ hoa
  have hsup := F.sup
  unfold PySem.W.ks_superIn at hsup
  rw [lcl] at hsup
  have inst : PySem.W.InstAt h2 a _ C none := ⟨hoa2, rfl, rfl, trivial⟩
  refine PySem.W.kxs_getMethod PySem.W.kxs_ValueError hso (PySem.W.looks_opaque KX2 F.opq) (l₀ := cd.mro) ?_ rfl KX2 hsup (inst.type.andThen (PySem.W.looks_subIn KX2 F.ve)) (PySem.W.ks_ne KX2 inst lcl) rfl ?_
  · exact fun A Q E s k q => wpAny_bind ((PySem.W.looks_clsIn KX2 lcl) A _ E s k (wpAny_pure q))
  have k3 : ∀ b o, h2.get? b = some o → (h2.push (PySem.W.kxs_mw "ValueError.__init__" a)).get? b = some o := fun b o e => Heap.get?_push_of_some _ e
  have hu3 : (h2.push (PySem.W.kxs_mw "ValueError.__init__" a)).get? h2.objs.size = some (PySem.W.kxs_mw "ValueError.__init__" a) := Heap.get?_push_size _ rfl
  rw [hst]
  refine PySem.W.kxs_callWith (i := "ValueError.__init__") (x := a) rfl (Calls.evalArgs_plain (Calls.spliced_cons ?_))
  have hns3 : (h2.push (PySem.W.kxs_mw "ValueError.__init__" a)).Ns s.heap.objs.size (fun y => ([(("self" : Str), Value.ref a), (x, uv)].reverse).lookup y) := hns.keeps fun b o e => k3 _ _ (k2 _ _ e)
  refine wpAny_Name (wpAny_loadName_local S.kind hsx hns3 (v := uv) look1 ?_) hxd
  refine Calls.spliced_nil ⟨hu3, ?_⟩
  have hTC3 := k3 _ _ (KX2 _ _ hTC)
  refine call_mwV hTC3 (k3 _ _ hoa2) hu3 (by show 1 ≤ sizeLine; decide) (fun h4 t1 k4 ho4 => ?_)
  have I3 := (I.kept (h' := h2) (t' := s.toks) k2).kept (h' := h2.push (PySem.W.kxs_mw "ValueError.__init__" a)) (t' := s.toks) k3
  have J := I3.write (h' := h4) (t' := s.toks + ((["self", x] : List Str).zip [Value.ref a, uv]).length + 1) (x := a) (e := a) (o := exo a C none) (by rw [ha]; exact True.intro) (.inl rfl) k4 ⟨_, ho4⟩ (exo_ok ho4)
  have eu : upd H a (exo a C none) = H := by
    funext b
    by_cases hb : b = a
    · rw [hb, upd_same, ha]
    · rw [upd_ne hb]
  rw [eu] at J
  refine wpAt_of_wpAny ?_
  have st2 := pss_one (X := NdefX.ncxH CX0 P w K mg base ["self", x, "__class__"] ⟨"__init__", qual, params, [], scope, [("__class__", cc)], cda⟩ f A outer s H E p) (ps_ost (f := fl) (p' := p8) (pos := p10) (pv (pos := p7) 0 rfl (.inl hse) rfl rfl) (pv (pos := p9) 1 rfl (.inl hsx) hxd hxc) (hsw2 _ _ _))
  refine wpAny_mono (st2.run [] _ _ H { nx := fun _ H' => Q .non H', rt := Q } J ⟨v, rfl, .ref a, rfl, a, C, rfl, T, hno, .inl ⟨ha, fun dx n1 n2 => hq dx n1 n2⟩⟩) (fun flw s' hs => ?_) fun e s' hs => hs
  have fin : ∀ {σ' : L2.St} {H' : Hp} {v : V} {u : Value}, Inv (NdefX.ncxH CX0 P w K mg base ["self", x, "__class__"] ⟨"__init__", qual, params, [], scope, [("__class__", cc)], cda⟩ f A outer s H E p) [] σ' H' s' → L2.RelV v u → Q v H' → CE outer P w H s Q u s' :=
    fun {σ' H' v u} J rv q => ⟨v, H', J.os, J.bare, J.base, J.hok, rv, q⟩
  cases flw with
  | ret u =>
    obtain ⟨v, σ', H', J, rv, q⟩ := hs
    exact fin J rv q
  | next =>
    obtain ⟨σ', H', J, q⟩ := hs
    exact fin (v := V.non) (u := Value.none) J rfl q
  | brk =>
    obtain ⟨_, _, _, q⟩ := hs
    exact False.elim q
  | cont =>
    obtain ⟨_, _, _, q⟩ := hs
    exact False.elim q
end L2
namespace HotX
open PySem PySem.Spec PyProof.Rows
/-- the heap behind «from the exception at x1» -/
def cFrom (h : Heap) (a x1 : Addr) : Heap := (h.update a (Obj.mapFields (·.setIfInBounds 3 (.ref x1)))).update a (Obj.mapFields (·.setIfInBounds 4 (.bool true)))
theorem cFrom_at {h : Heap} {a x1 : Addr} {oe : Obj} {vs : Array Value} (ha : h.get? a = some oe) (hd : oe.data = .fields vs) :
    (cFrom h a x1).get? a = some ((oe.mapFields (·.setIfInBounds 3 (.ref x1))).mapFields (·.setIfInBounds 4 (.bool true))) ∧ ((oe.mapFields (·.setIfInBounds 3 (.ref x1))).mapFields (·.setIfInBounds 4 (.bool true))).data = .fields ((vs.setIfInBounds 3 (.ref x1)).setIfInBounds 4 (.bool true)) := by
  have hd3 := Obj.data_mapFields hd (·.setIfInBounds 3 (.ref x1))
  have ha3 := Heap.get?_update_self (Obj.mapFields (·.setIfInBounds 3 (.ref x1))) ha (Obj.isFreed_of_fields hd3)
  have hd4 := Obj.data_mapFields hd3 (·.setIfInBounds 4 (.bool true))
  exact ⟨Heap.get?_update_self (Obj.mapFields (·.setIfInBounds 4 (.bool true))) ha3 (Obj.isFreed_of_fields hd4), hd4⟩
theorem cFrom_other {h : Heap} {a b x1 : Addr} (hne : a ≠ b) : (cFrom h a x1).get? b = h.get? b := by
  unfold cFrom
  rw [Heap.get?_update_other _ _ hne, Heap.get?_update_other _ _ hne]
theorem raise_made_hotF {prog : Program} {w : World} {A : Around} {E : Value → Shared → Prop} {env : Env} {s : Shared} {x c : Sem Value} {Q : Flow → Shared → Prop} {x1 : Addr}
    (h : wpAny (model prog w) A x (fun v s₁ => ∃ a oe vs cls, v = .ref a ∧ s₁.heap.get? a = some oe ∧ oe.cls = cls ∧ oe.data = .fields vs ∧ vs[1]? = some .none ∧ 4 < vs.size ∧ x1 ≠ a ∧ HotAt A x1 s₁.heap ∧ (∀ Q' : Value → Shared → Prop, Q' (.ref x1) s₁ → wpAny (model prog w) A c Q' E s₁) ∧ PySem.W.Looks (model prog w) s₁.heap (isInstance (.ref x1) (.type "BaseException")) true ∧
      PySem.W.Looks (model prog w) s₁.heap (isSubtype cls (.type "BaseException")) true ∧ PySem.W.Looks (model prog w) (cFrom s₁.heap a x1) (typeOf cls) (.type "type") ∧
      E (.ref a) { s₁ with heap := (cFrom s₁.heap a x1).update a (Obj.mapFields (·.setIfInBounds 2 (.ref x1))) }) E s) :
    wpAny (model prog w) A (raiseStmt env (some x) (some c)) Q E s := by
  unfold raiseStmt
  dsimp only
  refine wpAny_bind (wpAny_mono h (fun v s₁ h₁ => ?_) fun _ _ x => x)
  obtain ⟨a, oe, vs, cls, rfl, ha, hcls, hd, h1, hi, hne, hot, hcs, LX, L1, L3, hE⟩ := h₁
  have LT : PySem.W.Looks (model prog w) s₁.heap (typeOf (.ref a)) cls := fun A Q E s k q => wpAny_typeOf_ref (k _ _ ha) (by rw [hcls]; exact q)
  have LI : PySem.W.Looks (model prog w) s₁.heap (isInstance (.ref a) (.type "BaseException")) true := LT.andThen L1
  have hnt : ∀ {Q' : Bool → Shared → Prop}, Q' false s₁ → wpAny (model prog w) A (isType (.ref a)) Q' E s₁ := by
    intro Q' hq
    simp only [isType, loadHead]
    refine wpAny_bind (wpAny_loadPart ha ?_)
    rw [hd]; exact wpAny_pure hq
  have hd3 := Obj.data_mapFields hd (·.setIfInBounds 3 (.ref x1))
  have ha3 := Heap.get?_update_self (Obj.mapFields (·.setIfInBounds 3 (.ref x1))) ha (Obj.isFreed_of_fields hd3)
  obtain ⟨ha4, hd4⟩ := cFrom_at (x1 := x1) ha hd
  have s3 : 3 < vs.size := by omega
  have s4 : 4 < (vs.setIfInBounds 3 (Value.ref x1)).size := by rw [set_size]; exact hi
  have s2 : 2 < ((vs.setIfInBounds 3 (Value.ref x1)).setIfInBounds 4 (Value.bool true)).size := by rw [set_size, set_size]; omega
  have h14 : ((vs.setIfInBounds 3 (Value.ref x1)).setIfInBounds 4 (Value.bool true))[1]? = some Value.none := set_other (by decide) (set_other (by decide) h1)
  have hcls4 : ((oe.mapFields (·.setIfInBounds 3 (.ref x1))).mapFields (·.setIfInBounds 4 (.bool true))).cls = cls := by rw [Obj.cls_mapFields, Obj.cls_mapFields]; exact hcls
  have LT4 : PySem.W.Looks (model prog w) (cFrom s₁.heap a x1) (typeOf (.ref a)) cls := fun A Q E s k q => wpAny_typeOf_ref (k _ _ ha4) (by rw [hcls4]; exact q)
  have hnt4 : ∀ {Q' : Bool → Shared → Prop}, Q' false { s₁ with heap := cFrom s₁.heap a x1 } → wpAny (model prog w) A (isType (.ref a)) Q' E { s₁ with heap := cFrom s₁.heap a x1 } := by
    intro Q' hq
    simp only [isType, loadHead]
    refine wpAny_bind (wpAny_loadPart ha4 ?_)
    rw [hd4]; exact wpAny_pure hq
  have hot4 : HotAt A x1 (cFrom s₁.heap a x1) := by
    obtain ⟨q1, o, vs', q2, q3, q4⟩ := hot
    exact ⟨q1, o, vs', by rw [cFrom_other (Ne.symm hne)]; exact q2, q3, q4⟩
  -- what stands behind the two stores
  have rest : wpAny (model prog w) A (do
      let b ← isType (.ref a)
      if b = true then do
        let e ← holding [.ref a] (raisedFor (.ref a) (.ref a))
        setFlight e none
        raiseNew e
      else do
        let e ← raisedInstance (.ref a)
        setFlight e none
        raiseNew e : Sem Flow) Q E { s₁ with heap := cFrom s₁.heap a x1 } := by
    refine wpAny_bind (hnt4 ?_)
    simp only [Bool.false_eq_true, if_false]
    unfold raisedInstance
    refine wpAny_bind (wpAny_bind (LT4.here (wpAny_bind (L3.here ?_))))
    rw [if_pos (beq_self_eq_true _)]
    refine wpAny_pure ?_
    unfold setFlight
    refine wpAny_bind (wpAny_bind (wpAny_field ha4 hd4 h14 ?_))
    rw [if_neg (by decide)]
    refine wpAny_pure ?_
    exact raiseNew_hot hot4 hne ha4 hd4 s2 hE
  refine wpAny_bind (wpAny_holding (hcs _ (wpAny_bind (wpAny_pure ?_))))
  dsimp only
  refine wpAny_bind (wpAny_holding ?_)
  unfold excFromValue isExcClass
  refine wpAny_bind (wpAny_bind (hnt ?_))
  simp only [Bool.false_eq_true, if_false]
  refine wpAny_pure ?_
  simp only [Bool.false_eq_true, if_false]
  refine wpAny_bind (LI.here ?_)
  simp only [if_true]
  refine wpAny_pure ?_
  have hnx : ∀ {Q' : Bool → Shared → Prop}, Q' false s₁ → wpAny (model prog w) A (isType (.ref x1)) Q' E s₁ := by
    intro Q' hq
    obtain ⟨_, ox, vx, gx, dx, _⟩ := hot
    simp only [isType, loadHead]
    refine wpAny_bind (wpAny_loadPart gx ?_)
    rw [dx]; exact wpAny_pure hq
  refine W.KFB.if_not (show (Value.ref x1 == Value.none) = false from rfl) ?_
  refine wpAny_bind (wpAny_holding (wpAny_bind (wpAny_bind (hnx ?_))))
  simp only [Bool.false_eq_true, if_false]
  refine wpAny_pure ?_
  simp only [Bool.false_eq_true, if_false]
  refine wpAny_bind (LX.here ?_)
  simp only [if_true]
  refine wpAny_pure ?_
  first
  | refine wpAny_bind (wpAny_setField ha hd s3 (wpAny_bind (wpAny_setField ha3 hd3 s4 ?_)))
  | refine wpAny_bind (wpAny_bind (wpAny_setField ha hd s3 (wpAny_bind (wpAny_setField ha3 hd3 s4 ?_))))
  | refine wpAny_bind (wpAny_bind (wpAny_setField ha hd s3 (wpAny_setField ha3 hd3 s4 ?_)))
  | refine wpAny_bind (wpAny_pure (wpAny_bind (wpAny_setField ha hd s3 (wpAny_bind (wpAny_setField ha3 hd3 s4 ?_)))))
  first
  | exact rest
  | (dsimp only; exact rest)
  | (refine wpAny_pure ?_; exact rest)
  | (simp only [bind_pure_comp] ; exact rest)
end HotX
namespace L2H
open PySem PySem.Spec PyProof.Rows L2 HotX
/-- raise X(..) from err, in the suite that handles err -/
theorem ps_raiseHF {X : Cx} {W : WX} {e : Expr} {t : L2.St → Hp → XK → Prop} {i : Nat} {n : Str} {np pos : Pos} {p : Addr × Obj} {C0 : Addr} (hot : Hot1 X.A p) (hp : p ∈ X.pn) (hcls : p.2.cls = .ref C0) (hsub : PySem.W.subIn X.K (.ref C0) (.type "BaseException") = some true)
    (tk : L2.Takes X W) (he : PMk5 X e t) (hi : X.N[i]? = some n) (hln : X.env.kindOf n = some .local) (hd0 : (n == ("__debug__" : Str)) = false := by decide) :
    PS X (.Raise (some e) (some (.Name n np)) pos) (fun _ σ H => σ[i]? = some (some (.ref p.1)) ∧ t σ H fun cls d H' => W cls d σ H') := by
  refine ⟨fun pins s σ H D I h => ?_⟩
  obtain ⟨hsl, h⟩ := h
  obtain ⟨hh, v1, e1, c1⟩ := hot
  show wpAny _ _ (do standAt pos; raiseStmt X.env (some (do let v ← eval e X.env; standAt pos; pure v)) (some (do let v ← eval (.Name n np) X.env; standAt pos; pure v))) _ _ _
  refine wpAny_bind (wpAny_standAt (raise_made_hotF (x1 := p.1) (wpAny_bind (wpAny_mono (he pins s σ H _ I h) (fun u s1 hu => wpAny_bind (wpAny_standAt (wpAny_pure ?_))) fun _ _ x => x))))
  obtain ⟨⟨a, oe, vs, sI, H', cls, d, rfl, J, k, hne, ha, hz, hd, h1, na, os, ag, r, q⟩, h5⟩ := hu
  have hi5 : 4 < vs.size := h5 a oe vs rfl ha hd
  have k4 : ∀ b u, sI.heap.get? b = some u → (cFrom s1.heap a p.1).get? b = some u := fun b u z => by
    have nab : a ≠ b := fun y => by
      rw [← y, hne] at z
      cases z
    rw [cFrom_other nab]
    exact k b u z
  obtain ⟨r1, _⟩ := r (model X.prog X.w) s1.heap (J.kIn.keeps k)
  obtain ⟨_, r2⟩ := r (model X.prog X.w) (cFrom s1.heap a p.1) (J.kIn.keeps k4)
  have P1 := (J.pin p (List.mem_append_left _ hp)).1
  have nap : p.1 ≠ a := fun z => by
    rw [z, hne] at P1
    cases P1
  obtain ⟨ha4, hd4⟩ := cFrom_at (x1 := p.1) ha hd
  have h12 : (((vs.setIfInBounds 3 (Value.ref p.1)).setIfInBounds 4 (Value.bool true)).setIfInBounds 2 (Value.ref p.1))[1]? = some Value.none := set_other (by decide) (set_other (by decide) (set_other (by decide) h1))
  have LX : PySem.W.Looks (model X.prog X.w) s1.heap (isInstance (.ref p.1) (.type "BaseException")) true :=
    (show PySem.W.Looks (model X.prog X.w) s1.heap (typeOf (.ref p.1)) (.ref C0) from fun A Q E s kk q => wpAny_typeOf_ref (kk _ _ (k _ _ P1)) (by rw [hcls]; exact q)).andThen (PySem.W.looks_subIn (J.kIn.keeps k) hsub)
  obtain ⟨m, hns, hl⟩ := J.loc
  obtain ⟨uu, rr, l⟩ := hl i n _ hi hsl (.inl hln)
  obtain rfl : uu = .ref p.1 := rr
  have hcs : ∀ Q' : Value → Shared → Prop, Q' (.ref p.1) s1 → wpAny (model X.prog X.w) X.A (do let v ← eval (.Name n np) X.env; standAt pos; pure v) Q' X.xe s1 := fun Q' q' => by
    rcases l with ⟨hk, hm⟩ | ⟨hk, _⟩
    · exact wpAny_bind (wpAny_Name (wpAny_loadName_local J.ok.kind hk (hns.keeps k) hm (wpAny_bind (wpAny_standAt (wpAny_pure q')))) hd0)
    · rcases hk with hk | hk <;> (rw [hln] at hk; cases hk)
  refine ⟨a, oe, vs, cls, rfl, ha, hz.1, hd, h1, hi5, nap, ⟨hh, p.2, v1, k _ _ P1, e1, c1⟩, hcs, LX, r1, r2, tk _ _ (XE.new J (fun b u z => ?_) hne (Heap.get?_update_self _ ha4 (Obj.isFreed_of_fields (Obj.data_mapFields hd4 _)))
    ⟨by rw [Obj.cls_mapFields, Obj.cls_mapFields, Obj.cls_mapFields]; exact hz.1, by rw [HandSPX.dict_mapFields, HandSPX.dict_mapFields, HandSPX.dict_mapFields]; exact hz.2.1⟩ (Obj.data_mapFields hd4 _) h12 na os ag q)⟩
  have nab : a ≠ b := fun y => by
    rw [← y, hne] at z
    cases z
  show ((cFrom s1.heap a p.1).update a (Obj.mapFields (·.setIfInBounds 2 (.ref p.1)))).get? b = some u
  rw [Heap.get?_update_other _ _ nab]
  exact k4 b u z
end L2H
end
section
set_option Elab.async false
set_option linter.all false
set_option maxRecDepth 100000
set_option maxHeartbeats 4000000
/-! The data layer, 20: try: .. except X as e: a suite that raises out of the try. -/
namespace L2H
open PySem PySem.Spec PyProof.Rows L2 HotX
theorem tracedZ_sameBut {h h' base : Heap} {e L : Addr} {Z : Obj → Prop} {fl : Value} {m : Str → Option Value} (x : HandSPX.TracedZ h base e Z fl) (hn : h.Ns L m) (hs : Heap.SameBut L h h') : HandSPX.TracedZ h' base e Z fl := by
  obtain ⟨oe, vs, T, oT, ts, he, hz, hd, h1, hnT, hTe, hT, hdT, h3⟩ := x
  obtain ⟨oL, es, ep, hoL, hdL, _⟩ := hn
  have neE : e ≠ L := fun q => by
    rw [q, hoL] at he
    have z := Option.some.inj he
    rw [← z, hdL] at hd
    cases hd
  have neT : T ≠ L := fun q => by
    rw [q, hoL] at hT
    have z := Option.some.inj hT
    rw [← z, hdL] at hdT
    cases hdT
  exact ⟨oe, vs, T, oT, ts, (hs.2 e neE).trans he, hz, hd, h1, hnT, hTe, (hs.2 T neT).trans hT, hdT, h3⟩
section
variable {M : Model} {A A' : Around} {E : Value → Shared → Prop} {s : Shared}
/-- behind the first look: the name goes, it's passed on, looked at again, and comes back into the def's own activation -/
theorem asSuite_tailZ {base : Heap} {env : Env} {outer : List Env} {L e : Addr} {Z : Obj → Prop} {n : Str} {pos : Pos} {m : Str → Option Value} {E₂ : Value → Shared → Prop}
    (hf : env.frame = some L) (hL : env.locals = L) (hh : HandSPX.HeldZ base (env :: outer) e Z L s.heap) (hn : s.heap.Ns L m) (hlo : env.kindOf n = some .local)
    (hp : (env.scope.kind == .class || (env.scope.kind == .module && env.locals != env.globals)) = false)
    (hQ : ∀ h' v, HandSPX.HeldZ base (env :: outer) e Z L h' → (∀ b o, s.heap.get? b = some o → b ≠ L → (∀ vs, o.data ≠ .fields vs) → ∃ sl, h'.get? b = some { o with slots := sl }) → h'.Ns L (fun x => if x = n then v else m x) → E (.ref e) { s with heap := h', toks := s.toks + 1 }) :
    wpAny M A' (do bindName env n .none; unbindBehindTheSuite env n pos)
      (fun _ s₂ => wpAny M A' (PySem.passOn "try.except-as" (.ref e) env : Sem Flow) (fun _ _ => False) (notedBy M A' env (cameBackBy M A env E)) s₂) E₂ s := by
  obtain ⟨b1, b0, f1, t1⟩ := hh
  have hbL : base.get? L = none := by
    obtain ⟨_, ⟨L', _, hf', hb', _⟩, _⟩ := f1
    rw [hf] at hf'
    rw [Option.some.inj hf']
    exact hb'
  refine wpAny_nameGoes_keeps hlo (by rw [hL]; exact hn) hp fun h₂ v hn₂ hs₂ => ?_
  rw [hL] at hn₂ hs₂
  have b2 : base.StaysIn h₂ := fun b o hb => (hs₂.2 b fun q => by rw [q, hbL] at hb; cases hb).trans (b1 b o hb)
  have f2 : h₂.FunFrames base (env :: outer) := Heap.FunFrames.sameBut hs₂ hn₂ f1
  have t2 := tracedZ_sameBut t1 hn hs₂
  obtain ⟨oe, vs, T, oT, ts, he, hc, hd, h1, r⟩ := id t2
  unfold PySem.passOn
  refine wpAny_bind (wpAny_field he hd h1 ?_)
  rw [if_neg (show ¬ ((Value.ref T == Value.none) = true) from by simp)]
  rw [hf]
  refine wpAny_bind (HandSPX.setFlight_onZ (l := env :: outer) ⟨b2, b0, f2, t2⟩ fun h₃ hh3 k3 => ?_)
  refine wpAny_throw ?_
  show wpAny M A' (noteFrame (.ref e) env) _ _ _
  refine HandSPX.againZ hf hh3.2.2.2 ?_
  obtain ⟨oe', vs', T', oT', ts', he', hc', hd', h1', r'⟩ := id hh3.2.2.2
  show wpAny M A (do
    if (← field (.ref e) 1) == .none then unsupported "frame.own-activation:exception-without-traceback"
    setFlight (.ref e) env.frame) _ _ _
  refine wpAny_bind (wpAny_field he' hd' h1' ?_)
  rw [if_neg (show ¬ ((Value.ref T' == Value.none) = true) from by simp)]
  rw [hf]
  refine HandSPX.setFlight_onZ (l := env :: outer) hh3 fun h₄ hh4 k4 => ?_
  exact hQ h₄ v hh4 (fun b o hb hbL' hnf => (k3.trans k4) b o ((hs₂.2 b hbL').trans hb) hnf) ((k3.trans k4).ns hn₂)
end
section
variable {X : Cx} {pins : List (Addr × Obj)} {σ : L2.St} {H : Hp} {s : Shared}
/-- the context of such a suite: what leaves it is told as it flies -/
abbrev suiteW (X : Cx) (W : WX) (a : Addr) (pn : List (Addr × Obj)) : Cx := { X with A := X.A.mark (some (.ref a)), calm := false, pn := pn, xe := fun u s' => L2.XE (suiteX X a pn) W u s' }
theorem suiteW_of {W : WX} {a : Addr} {pn pn' : List (Addr × Obj)} (I : Inv (X.suite a pn) pn' σ H s) : Inv (suiteW X W a pn) pn' σ H s := Inv.unwish (X := suiteW X W a pn) (E := fun _ _ => False) I
theorem unsuiteW {W : WX} {a : Addr} {q : Addr × Obj} {pn' : List (Addr × Obj)} (I : Inv (suiteW X W a (q :: (X.pn ++ pins))) pn' σ H s) (ok : X.Ok) : Inv X pins σ H s :=
  Inv.unsuite (X := X) (a := a) (q := q) (pn' := pn') (show Inv (X.suite a (q :: (X.pn ++ pins))) pn' σ H s from I.wish fun _ _ => False) ok
/-- the clause's name is gone -/
theorem inv_gone {i : Nat} {n : Str} {m : Str → Option Value} {v : Option Value} {h' : Heap} {t' : Nat} (I : Inv X pins σ H s) (hN : X.N.Nodup) (hi : X.N[i]? = some n) (hl : X.env.kindOf n = some .local) (hn : s.heap.Ns X.env.locals m)
    (hlk : ∀ (j : Nat) (y : Str) (v' : V), X.N[j]? = some y → σ[j]? = some (some v') → Vis X.env.scope y → ∃ u, RelV v' u ∧ Look X.env s.heap m y u) (hn' : h'.Ns X.env.locals (fun x => if x = n then v else m x)) (hs : Heap.SameBut X.env.locals s.heap h') : Inv X pins (σ.set i none) H { s with heap := h', toks := t' } := by
  obtain ⟨oL, _, _, hoL, _⟩ := id hn
  have neL : ∀ b o, X.s_0.heap.get? b = some o → b ≠ X.env.locals := fun b o e => Nat.ne_of_lt (Nat.lt_of_lt_of_le (Heap.lt_size e) I.ok.above)
  refine ⟨I.ok, I.os, I.bare, ⟨fun b o e n hb hx => ?_, fun b o e n hb hx => ?_, I.base.free, fun b o e hx => ?_, I.base.tups, I.base.frzs, I.base.tbls⟩, ⟨_, hn', fun j y v' e1 e2 e3 => ?_⟩, fun y c e => ?_, I.free, I.freeC, fun p hp => ?_, fun b ob e => ?_, by simpa using I.len⟩
  · exact (hs.2 b (neL b o e)).trans (I.base.keep b o e n hb hx)
  · obtain ⟨sl, e1⟩ := I.base.slot b o e n hb hx
    exact ⟨sl, (hs.2 b (neL b o e)).trans e1⟩
  · obtain ⟨o', e1⟩ := I.base.there b o e hx
    exact ⟨o', (hs.2 b (neL b o e)).trans e1⟩
  · by_cases hj : j = i
    · subst hj
      by_cases hlt : j < σ.length
      · rw [List.getElem?_set_self hlt] at e2; cases e2
      · rw [List.getElem?_eq_none (by simpa using hlt)] at e2; cases e2
    · rw [List.getElem?_set_ne (Ne.symm hj)] at e2
      obtain ⟨u', r', q⟩ := hlk j y v' e1 e2 e3
      refine ⟨u', r', ?_⟩
      rcases q with ⟨k, e⟩ | ⟨k, c, e, z⟩
      · have ny : y ≠ n := fun e => hj (nodup_ix hN e1 (e ▸ hi))
        exact .inl ⟨k, (if_neg ny).trans e⟩
      · exact .inr ⟨k, c, e, z.sameBut hs (I.cne y c e)⟩
  · obtain ⟨w', z⟩ := I.cell y c e
    exact ⟨w', z.sameBut hs (I.cne y c e)⟩
  · obtain ⟨e, n, ne, nf, d⟩ := I.pin p hp
    exact ⟨(hs.2 p.1 ne).trans e, n, ne, nf, d⟩
  · refine (I.hok b ob e).stay (fun c w' hc q => (hs.2 c ?_).trans q) (fun _ q => q) fun _ _ q => q
    intro z
    subst z
    rcases hc with hc | hc
    · rw [← hc, I.free] at e; cases e
    · rw [I.free] at hc; cases hc
end
theorem asX_exit {X : Cx} {pins : List (Addr × Obj)} {Wout : WX} {a : Addr} {q : Addr × Obj} {i : Nat} {n : Str} {pos : Pos} {e6 : Value} {s6 : Shared} {E₂ : Shared → Value → Shared → Prop} {E₃ : Value → Shared → Prop} (hs : X.stack = X.env :: X.outer) (hf : X.env.frame = some X.env.locals) (ok : X.Ok) (hN : X.N.Nodup) (hi : X.N[i]? = some n) (hln : X.env.kindOf n = some .local) (tk : L2.Takes X Wout)
    (hw : ∀ cls d σ H, Wout cls d σ H → Wout cls d (σ.set i none) H) (z : L2.XE (suiteX X a (q :: (X.pn ++ pins))) Wout e6 s6) :
    wpAny (model X.prog X.w) (X.A.mark (some (.ref a))) (noteFrame e6 X.env) (fun _ s₃ => wpAny (model X.prog X.w) (X.A.mark (some (.ref a))) (do bindName X.env n .none; unbindBehindTheSuite X.env n pos)
      (fun _ s₄ => wpAny (model X.prog X.w) (X.A.mark (some (.ref a))) (PySem.passOn "try.except-as" e6 X.env : Sem Flow) (fun _ _ => False) (notedBy (model X.prog X.w) (X.A.mark (some (.ref a))) X.env (cameBackBy (model X.prog X.w) X.A X.env X.xe)) s₄) (E₂ s₃) s₃) E₃ s6 := by
  obtain ⟨a2, B, sI, pn2, σ2, H2, cls, d, rfl, I2, nb, up, sky, na, os, ag, w2⟩ := z
  have J2 : Inv X (pins) σ2 H2 sI := unsuiteX (pn' := pn2) I2 ok
  have hfr : (X.A.mark (some (.ref a))).frames = some (X.env :: X.outer) := by
    show X.A.frames = _
    rw [ok.frames, hs]
  have sky' : Sky B (X.env :: X.outer) a2 (Zc cls d) X.env.locals s6.heap := by
    have : X.stack = (suiteX X a (q :: (X.pn ++ pins))).stack := rfl
    rw [← hs]; exact sky
  have nb' : ∀ b o, sI.heap.get? b = some o → b ∉ frs X.stack → B.get? b = some o := nb
  obtain ⟨m, hns, hlk⟩ := J2.loc
  have hcls : (X.env.scope.kind == .class || (X.env.scope.kind == .module && X.env.locals != X.env.globals)) = false := by rw [ok.kind]; rfl
  have go : ∀ h1, HandSPX.HeldZ B (X.env :: X.outer) a2 (Zc cls d) X.env.locals h1 → s6.heap.UpToSlots h1 → wpAny (model X.prog X.w) (X.A.mark (some (.ref a))) (do bindName X.env n .none; unbindBehindTheSuite X.env n pos)
      (fun _ s₄ => wpAny (model X.prog X.w) (X.A.mark (some (.ref a))) (PySem.passOn "try.except-as" (.ref a2) X.env : Sem Flow) (fun _ _ => False) (notedBy (model X.prog X.w) (X.A.mark (some (.ref a))) X.env (cameBackBy (model X.prog X.w) X.A X.env X.xe)) s₄) (E₂ { s6 with heap := h1 }) { s6 with heap := h1 } := fun h1 hh1 up1 => by
    have hn1 : h1.Ns X.env.locals m := (up.trans up1).ns hns
    refine asSuite_tailZ (s := { s6 with heap := h1 }) hf rfl hh1 hn1 hln hcls fun h8 v hh8 k8 hn8 => tk _ _ ?_
    obtain ⟨o8, es8, ep8, g8, d8, r8⟩ := id hn8
    obtain ⟨oL, esL, epL, gL, dL, rL⟩ := id hns
    have fr8 : o8.isFreed = false := by
      obtain ⟨c8, dd8, dt8, sl8⟩ := o8
      have d8' : dt8 = _ := d8
      subst d8'
      rfl
    have gG : (sI.heap.update X.env.locals fun _ => o8).get? X.env.locals = some o8 := Heap.get?_update_self (fun _ => o8) gL fr8
    have sb : Heap.SameBut X.env.locals sI.heap (sI.heap.update X.env.locals fun _ => o8) := Heap.SameBut.update _ _ _
    have J8 := inv_gone (t' := sI.toks) J2 hN hi hln hns hlk ⟨o8, es8, ep8, gG, d8, r8⟩ sb
    have inL : X.env.locals ∈ frs X.stack := by rw [hs]; exact List.mem_filterMap.mpr ⟨X.env, List.mem_cons_self, hf⟩
    refine ⟨a2, B, _, pins, _, H2, cls, d, rfl, J8, fun b o hb hnb => ?_, fun b o hb hnf => ?_, .inr (.inr (by rw [hs]; exact hh8)), na, os, ag, hw _ _ _ _ w2⟩
    · have hne : b ≠ X.env.locals := fun y => hnb (by rw [y]; exact inL)
      have hb' : (sI.heap.update X.env.locals fun _ => o8).get? b = some o := hb
      rw [sb.2 b hne] at hb'
      exact nb' b o hb' hnb
    · have hb' : (sI.heap.update X.env.locals fun _ => o8).get? b = some o := hb
      by_cases hne : b = X.env.locals
      · rw [hne, gG] at hb'
        cases hb'
        exact ⟨o8.slots, by rw [hne]; exact g8⟩
      · rw [sb.2 b hne] at hb'
        obtain ⟨sl1, e1⟩ := (up.trans up1) b o hb' hnf
        obtain ⟨sl2, e2⟩ := k8 b _ e1 hne hnf
        exact ⟨sl2, e2⟩
  rcases sky' with ⟨hB, hn, hl, oe, vs, he, hz, hd, h1⟩ | fl | hh
  · exact HandSPX.look_newZ Zc.steady hfr hl hf he hB hn hd h1 hz go
  · exact HandSPX.looks_onZ Zc.steady hfr hf fl go
  · exact HandSPX.againZ hf hh.2.2.2 (go s6.heap hh (Heap.UpToSlots.refl _))
section
variable {X : Cx} {x n : Str} {c : Value} {i : Nat} {body suite : List Stmt} {b₀ : Stmt} {np pos pos' : Pos} {tb : WX → TS} {ts : Addr → Value → Option Addr → TS} {Wout : WX}
theorem ps_try_asX (hs : X.stack = X.env :: X.outer) (hf : X.env.frame = some X.env.locals) (hN : X.N.Nodup) (hi : X.N[i]? = some n) (hln : X.env.kindOf n = some .local) (hc : Names X x c) (tk : L2.Takes X Wout) (hpa : ∀ hd : Option Value, PassesOwnAt (model X.prog X.w) (X.A.mark hd) X.A X.env X.xe) (hw : ∀ cls d σ H, Wout cls d σ H → Wout cls d (σ.set i none) H)
    (hb : ∀ (W : WX) (pn : List (Addr × Obj)) (xe : Value → Shared → Prop), L2N.Takes (X.tr pn xe) W → PassesOwn (model X.prog X.w) X.A X.env xe → PSs (X.tr pn xe) body (tb W))
    (hsu : ∀ (a : Addr) (oe : Obj) (cls : Value) (d : Option Addr) (pn : List (Addr × Obj)), L2N.Zn cls d oe → (∃ vs, oe.data = .fields vs) → L2.Takes (suiteW X Wout a ((a, oe) :: pn)) Wout → Hot1 (suiteW X Wout a ((a, oe) :: pn)).A (a, oe) → PSs (suiteW X Wout a ((a, oe) :: pn)) (b₀ :: suite) (ts a cls d)) :
    PS X (.Try body [.ExceptHandler (some (.Name x np)) (some n) (b₀ :: suite) pos'] [] [] pos) (fun D σ H => tb (wAs X.K c i ts Wout D) D σ H) := by
  refine ⟨fun pins s σ H D I h => ?_⟩
  have ok := I.ok
  have hfr : X.A.frames = some (X.env :: X.outer) := by rw [ok.frames, hs]
  have hloc : Loc X.env.scope n := .inl hln
  refine wpAny_Try_except ?_
  refine wpAny_mono ((hb (wAs X.K c i ts Wout D) (X.pn ++ pins) (fun e s₁ => wpAny (model X.prog X.w) X.A (noteFrame e X.env) (fun _ s₂ => wpAny (model X.prog X.w) X.A (setFlight e none) (fun _ s₃ =>
    wpAny (model X.prog X.w) X.A (handleBy e X.env [.ExceptHandler (some (.Name x np)) (some n) (b₀ :: suite) pos']) (SP X pins D) X.xe s₃) X.xe s₂) X.xe s₁) (fun u s' xx => ?_) PassesOwn.looking).run [] s σ H D (I.toTry _) h) (fun f s1 hsp => ?_) (fun e s1 he => he)
  · -- the catch
    obtain ⟨a, B, sI, pins', σ', H', cls, d, rfl, J', nb, up, sky, na, os, ag, b, hb1, hyes, hno⟩ := xx
    have J : Inv X pins σ' H' sI := J'.ofTry ok
    have sky' : Sky B (X.env :: X.outer) a (L2N.Zn cls d) X.env.locals s'.heap := by rw [← hs]; exact sky
    show wpAny (model X.prog X.w) X.A (noteFrame (.ref a) X.env) _ _ _
    refine L2N.Sky.land L2N.Zn.steady hfr hf sky' fun h3 fl3 up3 => ?_
    have J3 : Inv X pins σ' H' { s' with heap := h3 } := J.landed nb fl3.1 (up.trans up3) os ag
    obtain ⟨oe3, vs3, he3, hz3, hd3⟩ := fl3.there
    have notFr : ∀ {h : Heap} {o : Obj} {vs : Array Value}, h.FunFrames B (X.env :: X.outer) → h.get? a = some o → o.data = .fields vs → a ∉ frs (X.env :: X.outer) := fun {h o vs} ff e dd hm => by
      obtain ⟨_, o', e', hnf⟩ := ff.mem hm
      rw [e] at e'; cases e'
      exact hnf _ dd
    have nfr := notFr fl3.2.2.1 he3 hd3
    have nL : a ≠ X.env.locals := fun z => nfr (List.mem_filterMap.mpr ⟨X.env, List.mem_cons_self, by rw [hf, z]⟩)
    have nF : a ∉ X.fs := fun hm => by
      obtain ⟨e, he, q⟩ := List.mem_filterMap.mp hm
      exact nfr (List.mem_filterMap.mpr ⟨e, List.mem_cons_of_mem _ he, q⟩)
    have S3 := J3.suite he3 hd3 na nL nF
    refine wpAny_handleBy_cons (codeAny_handlers_test ?_) (by intro q; cases q)
    have LT : PySem.W.Looks (model X.prog X.w) h3 (typeOf (.ref a)) cls := fun A Q E s k q => wpAny_typeOf_ref (k _ _ he3) (by rw [hz3.1]; exact q)
    have LM := PySem.W.exm_one (M := model X.prog X.w) (J3.kIn) LT hb1
    have test : ∀ {Q : Value → Shared → Prop} {E : Value → Shared → Prop}, Q c { s' with heap := h3 } → wpAny (model X.prog X.w) (X.A.mark (some (.ref a))) (eval (.Name x np) X.env) Q E { s' with heap := h3 } := fun {Q E} q => by
      obtain ⟨hg, hdbg, hm | ⟨hm, hv, hnn⟩⟩ := hc
      · exact ld_glob (X := X.suite a ((a, oe3) :: (X.pn ++ pins))) S3 hg hm q hdbg
      · exact ld_blt (X := X.suite a ((a, oe3) :: (X.pn ++ pins))) S3 hg hm hv q hnn hdbg
    refine test (LM.here ?_)
    cases b with
    | true =>
      refine codeAny_handlers_suite_as ?_
      refine HandSPX.lands_againZ fl3 fun h4 fl4 up4 => ?_
      have J4 : Inv X pins σ' H' { s' with heap := h4 } := J.landed nb fl4.1 ((up.trans up3).trans up4) os ag
      obtain ⟨oe4, vs4, he4, hz4, hd4⟩ := fl4.there
      have S4 := J4.suite he4 hd4 na nL nF
      refine store_ok (X := X.suite a ((a, oe4) :: (X.pn ++ pins))) (v := .ref a) S4 hN hi hloc rfl (fun s5 S5 => ?_) (.inr hln)
      have tkS : L2.Takes (suiteW X Wout a ((a, oe4) :: (X.pn ++ pins))) Wout := fun u2 s2 x2 => by
        obtain ⟨a2, B2, sI2, pn2, σ2, H2, cls2, d2, e2, I2, r2⟩ := x2
        exact ⟨a2, B2, sI2, pn2, σ2, H2, cls2, d2, e2, I2.wish X.xe, r2⟩
      refine wpAny_mono ((hsu a oe4 cls d (X.pn ++ pins) hz4 ⟨_, hd4⟩ tkS ⟨rfl, vs4, hd4, hz4.2.2 vs4 hd4⟩).run [] s5 _ H' _ (suiteW_of S5) (hyes rfl a na)) (fun f s6 hsp => ?_) (fun e6 s6 z => asX_exit hs hf ok hN hi hln tk hw z)
      have end_ : ∀ {σ6 : St} {H6 : Hp} {Q : Shared → Prop}, Inv (suiteW X Wout a ((a, oe4) :: (X.pn ++ pins))) [] σ6 H6 s6 → (∀ s7, Inv X pins (σ6.set i none) H6 s7 → Q s7) →
          wpAny (model X.prog X.w) X.A (do bindName X.env n .none; unbindBehindTheSuite X.env n pos') (fun _ s7 => Q s7) X.xe s6 := fun {σ6 H6 Q} S6 hq => gone_ok (unsuiteW S6 ok) hN hi hln hq
      cases f with
      | next =>
        obtain ⟨σ6, H6, S6, q6⟩ := hsp
        exact end_ S6 fun s7 J7 => ⟨_, _, J7, q6⟩
      | brk =>
        obtain ⟨σ6, H6, S6, q6⟩ := hsp
        exact end_ S6 fun s7 J7 => ⟨_, _, J7, q6⟩
      | cont =>
        obtain ⟨σ6, H6, S6, q6⟩ := hsp
        exact end_ S6 fun s7 J7 => ⟨_, _, J7, q6⟩
      | ret u =>
        obtain ⟨v6, σ6, H6, S6, r6, q6⟩ := hsp
        exact end_ S6 fun s7 J7 => ⟨_, _, _, J7, r6, q6⟩
    | false =>
      show wpAny _ X.A (handleBy (.ref a) X.env []) _ _ _
      refine wpAny_handleBy_nil ?_
      obtain ⟨k1, k2, k3, oe, vs, T, oT, ts', he, hz, hd, h1, hr⟩ := id fl3
      unfold PySem.passOn
      refine wpAny_bind (wpAny_field he hd h1 ?_)
      rw [if_neg (show ¬ ((Value.ref T == Value.none) = true) from by simp)]
      have fin : wpAny (model X.prog X.w) X.A (setFlight (.ref a) X.env.frame) (fun _ s4 => wpAny (model X.prog X.w) X.A (throw (.ref a) : Sem Flow) (SP X pins D) X.xe s4) X.xe { s' with heap := h3 } := by
        rw [hf]
        refine HandSPX.setFlight_upZ (flyingZ_imp (fun o z => z.zc) fl3) fun h4 hh4 up4 => wpAny_throw (tk _ _ ?_)
        exact ⟨a, B, sI, pins, σ', H', cls, d, rfl, J, nb, (up.trans up3).trans up4, .inr (.inr (by rw [hs]; exact hh4)), na, os, ag, hno rfl⟩
      first
        | exact wpAny_bind (wpAny_pure (wpAny_bind fin))
        | exact wpAny_bind fin
  · cases f with
    | next =>
      obtain ⟨σ', H', J', q⟩ := hsp
      exact wpAny_execs_nil ⟨σ', H', J'.ofTry ok, q⟩
    | brk =>
      obtain ⟨σ', H', J', q⟩ := hsp
      exact ⟨σ', H', J'.ofTry ok, q⟩
    | cont =>
      obtain ⟨σ', H', J', q⟩ := hsp
      exact ⟨σ', H', J'.ofTry ok, q⟩
    | ret u =>
      obtain ⟨v, σ', H', J', r, q⟩ := hsp
      exact ⟨v, σ', H', J'.ofTry ok, r, q⟩
end
end L2H
end
section
set_option Elab.async false
set_option linter.all false
set_option maxRecDepth 100000
set_option maxHeartbeats 2000000
/-! The data layer, 21: statements and defs that may raise an own exception. -/
namespace DL
open PySem PySem.Spec PyProof.Rows L2
/-- an exception: its class by name, its fields -/
structure Ex where
  cls : Str
  ks : List Str
  xs : List D
inductive OutX (ρ : Type) where
  | ok (o : Out ρ)
  | exc (x : Ex) (r : ρ)
abbrev SX (ρ : Type) := Env → ρ → Option (OutX ρ)
/-- the exception's dict stands at dd -/
def ExAt (K : PySem.W.Frag) (H : Hp) (B : List Addr) (x : Ex) (dd : Addr) : Prop := ∃ fvs : List (Str × V), dd ∉ B ∧ H dd = some (.xd fvs) ∧ fvs.map (·.1) = x.ks ∧ Reps K H B x.xs (fvs.map (·.2))
theorem ExAt.less {K : PySem.W.Frag} {H : Hp} {B B' : List Addr} {x : Ex} {dd : Addr} (h : ExAt K H B x dd) (s : ∀ b ∈ B', b ∈ B) : ExAt K H B' x dd := by
  obtain ⟨fvs, h1, h2, h3, h4⟩ := h
  exact ⟨fvs, fun z => h1 (s _ z), h2, h3, h4.less s⟩
theorem ExAt.rep {K : PySem.W.Frag} {H : Hp} {B : List Addr} {x : Ex} {dd a : Addr} (h : ExAt K H B x dd) : Rep K H B (.exn a dd x.ks x.xs) (.ref a) := by
  obtain ⟨fvs, h1, h2, h3, h4⟩ := h
  rw [← h3]
  exact .exn h1 h2 h4
section
variable {ρ : Type}
def XPost (I : Wd ρ) (K : PySem.W.Frag) (W B : List Addr) (H0 : Hp) (cl : Str → Addr) (E : XK) (x : Ex) (r' : ρ) : Prop := ∀ dd H', Evo W H0 H' → I.inv W r' H' → ExAt K H' B x dd → E (.ref (cl x.cls)) (some dd) H'
def PostX (I : Wd ρ) (K : PySem.W.Frag) (W B : List Addr) (H0 : Hp) (A : Own) (O' : List Nat) (cl : Str → Addr) (E : XK) (D : Ends) (H : Hp) : Option (OutX ρ) → Prop
  | none => False
  | some (.ok o) => Post I K W B H0 A O' D H (some o)
  | some (.exc x r') => XPost I K W B H0 cl E x r'
def tSX (I : Wd ρ) (K : PySem.W.Frag) (O : List Nat) (cl : Str → Addr) (E : XK) (f : SX ρ) (O' : List Nat) : TS := fun D σ H => ∃ W B H0 A env r, Lc I K W B H0 A env r σ H ∧ A.map (·.1) = O ∧ PostX I K W B H0 A O' cl E D H (f env r)
def Sx (I : Wd ρ) (X : Cx) (O : List Nat) (cl : Str → Addr) (E : XK) (st : Stmt) (f : SX ρ) (O' : List Nat) : Prop := PS X st (tSX I X.K O cl E f O')
def Bx (I : Wd ρ) (X : Cx) (O : List Nat) (cl : Str → Addr) (E : XK) (st : List Stmt) (f : SX ρ) (O' : List Nat) : Prop := PSs X st (tSX I X.K O cl E f O')
def xOk (f : SS ρ) : SX ρ := fun env r => (f env r).map .ok
def xThen (b : SX ρ) : OutX ρ → Option (OutX ρ)
  | .ok (.nx e r) => b e r
  | .ok (.ret d r) => some (.ok (.ret d r))
  | .exc x r => some (.exc x r)
def xSeq (a b : SX ρ) : SX ρ := fun env r => (a env r).bind (xThen b)
def xIf (c : SB ρ) (a b : SX ρ) : SX ρ := fun env r => (c env r).bind fun p => if p.1 = true then a env p.2 else b env p.2
def xFold (g : GD) (b : SX ρ) : List D → SX ρ
  | [] => fun env r => some (.ok (.nx env r))
  | d :: ds => fun env r => (g d env).bind fun e => (b e r).bind (xThen (xFold g b ds))
def xFor (f : SA ρ) (g : GD) (b : SX ρ) : SX ρ := fun env r => (f env r).bind fun p => xFold g b p.1 env p.2
/-- raise C(e): one field -/
def xRaise (C fl : Str) (f : SE ρ) : SX ρ := fun env r => (f env r).map fun p => .exc ⟨C, [fl], [p.1]⟩ p.2
end
section
variable {ρ : Type} {I : Wd ρ} {X : Cx} {O O' O1 O2 : List Nat} {pos : Pos} {cl : Str → Addr} {E : XK}
theorem Bx.of {st : List Stmt} {t : TS} {f : SX ρ} (h : PSs X st t) (w : ∀ D σ H W B H0 A env r, Lc I X.K W B H0 A env r σ H → A.map (·.1) = O → PostX I X.K W B H0 A O' cl E D H (f env r) → t D σ H) : Bx I X O cl E st f O' :=
  PSs.weak h fun D σ H ⟨W, B, H0, A, env, r, l, ho, k⟩ => w D σ H W B H0 A env r l ho k
theorem Sx.of {st : Stmt} {t : TS} {f : SX ρ} (h : PS X st t) (w : ∀ D σ H W B H0 A env r, Lc I X.K W B H0 A env r σ H → A.map (·.1) = O → PostX I X.K W B H0 A O' cl E D H (f env r) → t D σ H) : Sx I X O cl E st f O' :=
  PS.weak h fun D σ H ⟨W, B, H0, A, env, r, l, ho, k⟩ => w D σ H W B H0 A env r l ho k
theorem PostX.step {W B : List Addr} {H0 : Hp} {A A' : Own} {D : Ends} {H H' : Hp} {env : Env} {r : ρ} {σ : L2.St} {K : PySem.W.Frag} {o : Option (OutX ρ)} (k : PostX I K W B H0 A O' cl E D H o) (f : Fr W A A' H H') (l : Lc I K W B H0 A' env r σ H') : PostX I K W B H0 A' O' cl E D H' o := by
  match o, k with
  | some (.ok (.nx e r2)), k => exact fun A2 σ2 H2 m l2 f2 => k A2 σ2 H2 m l2 (f.trans f2 (I.at_ l.wi))
  | some (.ok (.ret d r2)), k => exact fun v H2 e i rp => k v H2 e i rp
  | some (.exc x r2), k => exact k
theorem sx_of {st : Stmt} {f : SS ρ} (h : Sd I X O st f O') : Sx I X O cl E st (xOk f) O' :=
  Sx.of h fun D σ H W B H0 A env r l ho k => by
    refine tS_out ⟨W, B, H0, A, env, r, l, ho, ?_⟩
    unfold xOk at k
    cases e1 : f env r with
    | none => rw [e1] at k; exact k.elim
    | some o => rw [e1] at k; exact k
theorem bx_of {st : List Stmt} {f : SS ρ} (h : Bd I X O st f O') : Bx I X O cl E st (xOk f) O' :=
  Bx.of h fun D σ H W B H0 A env r l ho k => by
    refine tS_out ⟨W, B, H0, A, env, r, l, ho, ?_⟩
    unfold xOk at k
    cases e1 : f env r with
    | none => rw [e1] at k; exact k.elim
    | some o => rw [e1] at k; exact k
theorem bx_one {st : Stmt} {f : SX ρ} (h1 : Sx I X O cl E st f O1) : Bx I X O cl E [st] f O1 :=
  Bx.of (pss_one h1) fun D σ H W B H0 A env r l ho k => ⟨W, B, H0, A, env, r, l, ho, k⟩
theorem bx_cons {st : Stmt} {sts : List Stmt} {f g : SX ρ} (h1 : Sx I X O cl E st f O1) (h2 : Bx I X O1 cl E sts g O2) : Bx I X O cl E (st :: sts) (xSeq f g) O2 :=
  Bx.of (pss_cons h1 h2) fun D σ H W B H0 A env r l ho k => by
    refine ⟨W, B, H0, A, env, r, l, ho, ?_⟩
    unfold xSeq at k
    cases e1 : f env r with
    | none => rw [e1] at k; exact k.elim
    | some o =>
      rw [e1, Option.bind_some] at k
      match o, k with
      | .ok (.nx e r2), k => exact fun A2 σ2 H2 m l2 f2 => ⟨W, B, H0, A2, e, r2, l2, m, k.step f2 l2⟩
      | .ok (.ret d r2), k => exact k
      | .exc x r2, k => exact k
theorem sx_if {c : Expr} {a b : List Stmt} {fc : SB ρ} {f g : SX ρ} (hc : Td I X O c fc) (ha : Bx I X O cl E a f O') (hb : Bx I X O cl E b g O') : Sx I X O cl E (.If c a b pos) (xIf fc f g) O' :=
  Sx.of (ps_if hc ha hb) fun D σ H W B H0 A env r l ho k => by
    unfold xIf at k
    cases e1 : fc env r with
    | none => rw [e1] at k; exact k.elim
    | some p =>
      obtain ⟨d, r1⟩ := p
      rw [e1, Option.bind_some] at k
      refine ⟨W, B, H0, A, env, r, d, r1, l, ho, e1, fun H1 l1 ev => ?_⟩
      have f1 : Fr W A A H H1 := Fr.of ev fun q hq => hq
      dsimp only at k
      cases d with
      | true => exact ⟨W, B, H0, A, env, r1, l1, ho, PostX.step k f1 l1⟩
      | false => exact ⟨W, B, H0, A, env, r1, l1, ho, PostX.step k f1 l1⟩
theorem sx_for {tg iter : Expr} {body : List Stmt} {fi : SA ρ} {g : GD} {ts : List Nat} {f : SX ρ} (hp : PassesOwn (model X.prog X.w) X.A X.env X.xe) (hc : X.calm = true) (hi : Wk I X O tg iter fi) (hg : Gd I X O tg g ts O1) (hb : Bx I X O1 cl E body f O)
    (hs : ∀ x, foldedSetIterable iter X.env x = pure x := by intro _; rfl) : Sx I X O cl E (.For tg iter body [] pos) (xFor fi g f) O :=
  Sx.of (ps_for hp hc hi hg.run hb hs) fun D σ H W B H0 A env r l ho k => by
    unfold xFor at k
    cases e1 : fi env r with
    | none => rw [e1] at k; exact k.elim
    | some q =>
      obtain ⟨ds, r1⟩ := q
      rw [e1, Option.bind_some] at k
      dsimp only at k
      refine ⟨W, B, H0, A, env, r, ds, r1, l, ho, e1, fun J S H1 l1 ev yl s1 => ?_⟩
      have k1 := k.step (Fr.of ev fun q hq => hq) l1
      refine ⟨fun i m σ' H' => i + m = ds.length ∧ ∃ A' env' r', A'.map (·.1) = O ∧ Lc I X.K W B H0 A' env' r' σ' H' ∧ S (B ++ A'.ad) H' ∧ PostX I X.K W B H0 A' O cl E D H' (xFold g f (ds.drop i) env' r'),
        ⟨ds.length, by omega, A, env, r1, ho, l1, s1, by rw [List.drop_zero]; exact k1⟩, ?_⟩
      rintro i m σ2 H2 ⟨him, A2, env2, r2, ho2, l2, s2, k2⟩
      by_cases hlt : i < ds.length
      · refine .inr ⟨yl.go _ _ _ s2 hlt, _, fun σ' H' z => ⟨m - 1, by omega, z⟩, fun x H3 y => ?_⟩
        obtain ⟨d, e3, ex, rp⟩ := yl.yld _ _ _ _ _ s2 l2.bx hlt y
        have l3 := l2.ext ex
        have f3 : Fr W A2 A2 H2 H3 := Fr.of ex.evo fun q hq => hq
        have k3 := k2.step f3 l3
        have s3 := yl.keep _ _ (B ++ A2.ad) H3 s2 ex.evo fun b z => .inl z
        rw [List.drop_eq_getElem_cons hlt] at k3
        rw [List.getElem?_eq_getElem hlt] at e3
        cases e3
        unfold xFold at k3
        cases e4 : g ds[i] env2 with
        | none => rw [e4] at k3; exact k3.elim
        | some env3 =>
          rw [e4, Option.bind_some] at k3
          refine ⟨W, B, H0, A2, env2, r2, _, env3, l3, ho2, rp, e4, fun A4 σ4 m4 sub4 _ _ l4 => ⟨W, B, H0, A4, env3, r2, l4, m4, ?_⟩⟩
          have k4 := k3.step (Fr.of Evo.refl sub4) l4
          have s4 := yl.keep _ _ (B ++ Own.ad A4) H3 s3 Evo.refl fun b z => .inl (bx_sub sub4 b z)
          cases e5 : f env3 r2 with
          | none => rw [e5] at k4; exact k4.elim
          | some o =>
            rw [e5, Option.bind_some] at k4
            match o, k4 with
            | .ok (.nx e r5), k4 => exact fun A5 σ5 H5 m5 l5 f5 => ⟨by omega, A5, e, r5, m5, l5, yl.keep _ _ (B ++ Own.ad A5) H5 s4 (f5.bx l4).1 (f5.bx l4).2, k4.step f5 l5⟩
            | .ok (.ret d r5), k4 => exact k4
            | .exc x r5, k4 => exact k4
      · have he : ds.drop i = [] := List.drop_eq_nil_of_le (Nat.le_of_not_lt hlt)
        rw [he] at k2
        exact .inl ⟨yl.stop _ _ _ s2 (Nat.le_of_not_lt hlt), k2 A2 σ2 H2 ho2 l2 (Fr.of Evo.refl fun q hq => hq)⟩
theorem mk_core {C fl : Str} {f : SE ρ} {σ : L2.St} {H : Hp} {W B : List Addr} {H0 : Hp} {A : Own} {env : Env} {r r1 : ρ} {d : D} {K : PySem.W.Frag} {E : XK} (l : Lc I K W B H0 A env r σ H) (ho : A.map (·.1) = O) (e1 : f env r = some (d, r1)) (k : XPost I K W B H0 cl E ⟨C, [fl], [d]⟩ r1) :
    tMkO (cl C) (spSup (cl C) fl) [] (tAr I K O (aCons f aNil)) σ H fun cls d H' => E cls d H' := by
  refine ⟨W, B, H0, A, env, r, [d], r1, l, ho, by simp [aCons, aNil, e1], fun vs H1 l1 ev rs => ?_⟩
  cases rs with
  | cons rp rn =>
    cases rn
    rename_i v
    refine ⟨by simp, fun a na => ⟨a, v, rfl, upd_same, fun dx ndx nea => ?_⟩⟩
    have ndx' : H1 dx = none := by rw [upd_ne nea] at ndx; exact ndx
    refine ⟨rfl, dx, [(fl, v)], upd_same, by rw [upd_ne nea, upd_same], ndx', ?_⟩
    obtain ⟨_, naW⟩ := l1.none0 na
    obtain ⟨_, ndW⟩ := l1.none0 ndx'
    have fin : ∀ b, b ≠ a → b ≠ dx → (upd (del (upd (upd (upd H1 a (exo a (cl C) none)) dx (exd dx [(fl, v)])) a (exo a (cl C) (some dx))) a) dx (.xd [(fl, v)])) b = H1 b := fun b n1 n2 => by
      rw [upd_ne n2, del_ne n1, upd_ne n1, upd_ne n2, upd_ne n1]
    have ev2 : ∀ Z : List Addr, Evo Z H1 (upd (del (upd (upd (upd H1 a (exo a (cl C) none)) dx (exd dx [(fl, v)])) a (exo a (cl C) (some dx))) a) dx (.xd [(fl, v)])) := fun Z b nb t => fin b (fun z => t (by rw [z]; exact na)) (fun z => t (by rw [z]; exact ndx'))
    refine k dx _ (l1.evo.trans (ev2 W)) (I.keep l1.wi fun b hb => fin b (fun z => naW (by rw [← z]; exact hb)) (fun z => ndW (by rw [← z]; exact hb))) ⟨[(fl, v)], fun z => l1.bt dx z ndx', upd_same, rfl, .cons ?_ .nil⟩
    exact (rp.less fun b z => List.mem_append_left _ z).keep (ev2 B)
/-- raise C(e): from either of the two raises -/
theorem sx_raise {C fl : Str} {e0 : Expr} {f : SE ρ} (hr : PS X (.Raise (some e0) none pos) (fun _ σ H => tMkO (cl C) (spSup (cl C) fl) [] (tAr I X.K O (aCons f aNil)) σ H fun cls d H' => E cls d H')) : Sx I X O cl E (.Raise (some e0) none pos) (xRaise C fl f) O' :=
  Sx.of hr fun D σ H W B H0 A env r l ho k => by
    unfold xRaise at k
    cases e1 : f env r with
    | none => rw [e1] at k; exact k.elim
    | some p =>
      obtain ⟨d, r1⟩ := p
      rw [e1] at k
      exact mk_core l ho e1 k
end
end DL
end
section
set_option Elab.async false
set_option linter.all false
set_option maxRecDepth 100000
set_option maxHeartbeats 2000000
/-! The data layer, 22: defs that may raise; their calls; try. -/
namespace DL
open PySem PySem.Spec PyProof.Rows L2
section
variable {ρ : Type} (I : Wd ρ) (K : PySem.W.Frag)
abbrev GX (ρ : Type) := List D → ρ → Option ((D ⊕ Ex) × ρ)
def spX (cl : Str → Addr) (n : Nat) (g : GX ρ) : Sp := fun vs H Q E => vs.length = n ∧ ∃ W B r ds o r', I.inv W r H ∧ (∀ b ∈ W, b ∈ B) ∧ (∀ b ∈ B, H b ≠ none) ∧ Reps K H B ds vs ∧ g ds r = some (o, r') ∧
  match o with
  | .inl d => ∀ v H', I.inv W r' H' → Evo W H H' → Rep K H' B d v → Q v H'
  | .inr x => ∀ dd H', I.inv W r' H' → Evo W H H' → ExAt K H' B x dd → E (.ref (cl x.cls)) (some dd) H'
def FnX (CX : CXT) (P : Program) (w : World) (mg : Str → Option Value) (base : Heap) (cl : Str → Addr) (k : Nat) (x : Str) (n : Nat) (g : GX ρ) : Prop :=
  ∃ (f : Addr) (fd : FuncData) (ps : List Str), FnOk P w K mg base CX k f fd ps (spX I K cl n g) ∧ mg x = some (.ref f) ∧ PySem.W.keepIn K (.ref f) = true ∧ Binds K fd ps []
end
section
variable {ρ : Type} {I : Wd ρ} {K : PySem.W.Frag} {P : Program} {w : World} {mg : Str → Option Value} {base : Heap} {cl : Str → Addr} {CX : CXT}
theorem FnX.mono {j k : Nat} {x : Str} {n : Nat} {g : GX ρ} (h : FnX I K CX P w mg base cl j x n g) (hj : j ≤ k) : FnX I K CX P w mg base cl k x n g := by
  obtain ⟨f, fd, ps, F, h1, h2, h3⟩ := h
  exact ⟨f, fd, ps, F.mono hj, h1, h2, h3⟩
def plainG (g : GX ρ) : List D → ρ → Option (D × ρ) := fun ds r => (g ds r).bind fun p => match p.1 with
  | .inl d => some (d, p.2)
  | .inr _ => none
/-- where it does not raise it is a plain def -/
theorem fnok_plain {k : Nat} {f : Addr} {fd : FuncData} {ps : List Str} {n : Nat} {g : GX ρ} (hno : ∀ outer H s u s', ¬ CX outer H s (fun _ _ _ => False) u s') (F : FnOk P w K mg base CX k f fd ps (spX I K cl n g)) : FnOk P w K mg base CX0 k f fd ps (spD I K n (plainG g)) := by
  have conv : ∀ vs H Q E E', spD I K n (plainG g) vs H Q E → spX I K cl n g vs H Q E' := fun vs H Q E E' ⟨hl, W, B, r, ds, d, r', wi, wb, bt, rs, hg, q⟩ => by
    unfold plainG at hg
    obtain ⟨⟨o, r2⟩, e1, hg⟩ := Option.bind_eq_some_iff.mp hg
    cases o with
    | inl d2 => cases hg; exact ⟨hl, W, B, r, ds, _, _, wi, wb, bt, rs, e1, q⟩
    | inr x => cases hg
  refine ⟨fun vs H Q E h => F.len vs H Q E (conv vs H Q E E h), fun A outer s H args us vs Q E hr e0 hb hv hs => ?_⟩
  refine codeAny_mono (F.run A outer s H args us vs Q (fun _ _ _ => False) hr e0 hb hv (conv _ _ _ _ _ hs)) fun r s' q => ?_
  cases r with
  | error e => exact (hno _ _ _ _ _ q).elim
  | ok fl => cases fl <;> exact q
theorem FnX.fn {k : Nat} {x : Str} {n : Nat} {g : GX ρ} (hno : ∀ outer H s u s', ¬ CX outer H s (fun _ _ _ => False) u s') (h : FnX I K CX P w mg base cl k x n g) : Fn I K P w mg base k x n (plainG g) := by
  obtain ⟨f, fd, ps, F, h1, h2, h3⟩ := h
  exact ⟨f, fd, ps, fnok_plain hno F, h1, h2, h3⟩
theorem no_L2 (outer : List PySem.Env) (H : Hp) (s : Shared) (u : Value) (s' : Shared) : ¬ L2.CX P w outer H s (fun _ _ _ => False) u s' := fun ⟨_, _, _, _, _, _, _, _, _, _, _, _, z⟩ => z
theorem no_L2N (outer : List PySem.Env) (H : Hp) (s : Shared) (u : Value) (s' : Shared) : ¬ L2N.CX P w outer H s (fun _ _ _ => False) u s' := fun ⟨_, _, _, _, _, _, _, _, _, _, _, _, z⟩ => z
def outX : OutX ρ → (D ⊕ Ex) × ρ
  | .ok (.nx _ r) => (.inl .non, r)
  | .ok (.ret d r) => (.inl d, r)
  | .exc x r => (.inr x, r)
def gXOf (N : List Str) (f : SX ρ) : GX ρ := fun ds r => (f (startE N ds) r).map outX
theorem fnokX_of {x qual : Str} {params : Arguments} {body : List Stmt} {scope : Scope} {f : Addr} {fd : FuncData} {N ps : List Str} {k : Nat} {sf : SX ρ} (F : FunD K x qual params body scope [] [] f fd) (S : FnScope N ps scope)
    (hbody : ∀ (cdv : Value) (A : Around) (outer : List PySem.Env) (s : Shared) (H : Hp) (E : XK), Room k (A.deeper (envOfC qual scope s.heap.objs.size f cdv)) → ∃ O', Bx I (cxOf CX P w K mg base N qual scope f cdv A outer s H E) [] cl E body sf O') :
    FnOk P w K mg base CX (k + 1) f fd ps (spX I K cl ps.length (gXOf N sf)) := by
  refine F.ok S (fun vs H Q E h => h.1) fun cdv A outer s H vs Q E hr h => ?_
  obtain ⟨hl, W, B, r, ds, o, r', wi, wb, bt, rs, hg, q⟩ := h
  obtain ⟨O', hbd⟩ := hbody cdv A outer s H E hr
  refine ⟨_, hbd, W, B, H, [], startE N ds, r, start_lc wi wb bt rs, rfl, ?_⟩
  unfold gXOf at hg
  obtain ⟨ox, e1, e2⟩ := Option.map_eq_some_iff.mp hg
  rw [e1]
  match ox, e2 with
  | .ok (.nx e r2), e2 =>
    cases e2
    exact fun A' σ' H' m l f => q .non H' l.wi l.evo .non
  | .ok (.ret d2 r2), e2 =>
    cases e2
    exact fun v H' ev wi rp => q v H' wi ev rp
  | .exc x r2, e2 =>
    cases e2
    exact fun dd H' ev wi xa => q dd H' wi ev xa
end

theorem fnX_of {CX : CXT} {ρ : Type} {I : Wd ρ} {K : PySem.W.Frag} {P : Program} {w : World} {mg : Str → Option Value} {base : Heap} {cl : Str → Addr} {x qual : Str} {params : Arguments} {body : List Stmt} {scope : Scope} {f : Addr} {fd : FuncData} {N ps : List Str} {k : Nat} {sf : SX ρ} (F : FunD K x qual params body scope [] [] f fd) (S : FnScope N ps scope) (hm : mg x = some (.ref f))
    (hb : ∀ (kV doc pm : Value) (an : Option Addr) (cdv ct : Value) (us : List Value), us.length = ps.length → bindArgs (PySem.W.fnOf x qual params body scope .none kV doc pm an cdv ct) ⟨us, []⟩ = pure (ps.zip us))
    (hbody : ∀ (cdv : Value) (A : Around) (outer : List PySem.Env) (s : Shared) (H : Hp) (E : XK), Room k (A.deeper (envOfC qual scope s.heap.objs.size f cdv)) → ∃ O', Bx I (cxOf CX P w K mg base N qual scope f cdv A outer s H E) [] cl E body sf O') :
    FnX I K CX P w mg base cl (k + 1) x ps.length (gXOf N sf) := ⟨f, fd, ps, fnokX_of F S hbody, hm, F.kp, F.bindsN hb⟩
/-! ### calls -/
section
variable {ρ : Type} {I : Wd ρ} {X : Cx} {O O' O1 O2 : List Nat} {pos : Pos} {cl : Str → Addr} {E : XK}
abbrev SEX (ρ : Type) := Env → ρ → Option ((D ⊕ Ex) × ρ)
def tEX (I : Wd ρ) (K : PySem.W.Frag) (O : List Nat) (cl : Str → Addr) (E : XK) (f : SEX ρ) : TE := fun σ H Q => ∃ W B H0 A env r o r', Lc I K W B H0 A env r σ H ∧ A.map (·.1) = O ∧ f env r = some (o, r') ∧
  match o with
  | .inl d => ∀ v H', Lc I K W B H0 A env r' σ H' → Evo W H H' → Rep K H' (B ++ A.ad) d v → Q v H'
  | .inr x => XPost I K W B H0 cl E x r'
def Ex_ (I : Wd ρ) (X : Cx) (O : List Nat) (cl : Str → Addr) (E : XK) (e : Expr) (f : SEX ρ) : Prop := PE X e (tEX I X.K O cl E f)
def xCall (g : GX ρ) (f : SA ρ) : SEX ρ := fun env r => (f env r).bind fun p => g p.1 p.2
theorem xe_call {CX : CXT} {k : Nat} {x : Str} {p : Pos} {e : Expr} {es : List Expr} {n : Nat} {g : GX ρ} {fa : SA ρ} (F : FnX I X.K CX X.prog X.w X.mg X.base cl k x n g) (hx : Passes CX X E) (hr : Room k X.A) (ha : Adl I X O (e :: es) fa) (hn : (e :: es).length = n := by rfl) (hg : Gl X x := by rfl) (hdb : (x == ("__debug__" : Str)) = false := by decide)
    (he : starEach (e :: es) X.env = (false, eval e X.env) :: starEach es X.env := by rfl) (hpl : (backTo pos (starEach es X.env)).any (·.1) = false := by rfl) : Ex_ I X O cl E (.Call (.Name x p) (e :: es) [] pos) (xCall g fa) := by
  obtain ⟨f, fd, ps, F, h1, h2, h3⟩ := F
  exact PE.weak (pe_call F hr hg h1 h2 h3 .nil hx ha.run hdb he hpl) fun σ H Q ⟨W, B, H0, A, env, r, o, r', l, ho, hf, q⟩ => by
    unfold xCall at hf
    obtain ⟨⟨ds, r1⟩, e1, hf⟩ := Option.bind_eq_some_iff.mp hf
    refine ⟨W, B, H0, A, env, r, ds, r1, l, ho, e1, fun vs H1 l1 v1e rs => ?_⟩
    show spX I X.K cl n g (vs ++ []) H1 Q E
    rw [List.append_nil]
    refine ⟨?_, W, B ++ A.ad, r1, ds, o, r', l1.wi, fun b hb => List.mem_append_left _ (l1.wb b hb), l1.bx, rs, hf, ?_⟩
    · rw [← rs.length, ha.len _ _ _ _ e1, hn]
    · cases o with
      | inl d => exact fun v H' wi ev rp => q v H' (l1.step wi ev) (v1e.trans ev) rp
      | inr x => exact fun dd H' wi ev xa => q dd H' (l1.evo.trans ev) wi (xa.less fun b z => List.mem_append_left _ z)
def xExpr (f : SEX ρ) : SX ρ := fun env r => (f env r).map fun p => match p.1 with
  | .inl _ => .ok (.nx env p.2)
  | .inr x => .exc x p.2
def xAsg (f : SEX ρ) (g : GD) : SX ρ := fun env r => (f env r).bind fun p => match p.1 with
  | .inl d => (g d env).map fun e => .ok (.nx e p.2)
  | .inr x => some (.exc x p.2)
theorem sx_expr {e : Expr} {f : SEX ρ} (he : Ex_ I X O cl E e f) (hs : swapsWith e none pos.line X.env = pure false := by rfl) : Sx I X O cl E (.Expr e pos) (xExpr f) O :=
  Sx.of (ps_expr he hs) fun D σ H W B H0 A env r l ho k => by
    unfold xExpr at k
    cases e1 : f env r with
    | none => rw [e1] at k; exact k.elim
    | some p =>
      obtain ⟨o, r1⟩ := p
      rw [e1] at k
      cases o with
      | inl d => exact ⟨W, B, H0, A, env, r, .inl d, r1, l, ho, e1, fun v H1 l1 ev rp => k A σ H1 ho l1 (Fr.of ev fun q hq => hq)⟩
      | inr x => exact ⟨W, B, H0, A, env, r, .inr x, r1, l, ho, e1, k⟩
theorem sx_asg {tg e : Expr} {f : SEX ρ} {g : GD} {ts : List Nat} (he : Ex_ I X O cl E e f) (hg : Gd I X O tg g ts O') (hs : swapsWithSole [tg] e pos.line X.env = pure false := by rfl) (hw : swappedStores [tg] e X.env = pure none := by rfl)
    (h1 : (assignEach [tg] X.env).map (·.2) = [assign tg X.env] := by rfl) : Sx I X O cl E (.Assign [tg] e pos) (xAsg f g) O' :=
  Sx.of (ps_asg he hg.run hs hw h1) fun D σ H W B H0 A env r l ho k => by
    unfold xAsg at k
    cases e1 : f env r with
    | none => rw [e1] at k; exact k.elim
    | some p =>
      obtain ⟨o, r1⟩ := p
      rw [e1, Option.bind_some] at k
      cases o with
      | inl d =>
        refine ⟨W, B, H0, A, env, r, .inl d, r1, l, ho, e1, fun v H1 l1 ev rp => ?_⟩
        cases e2 : g d env with
        | none => dsimp only at k; rw [e2] at k; exact k.elim
        | some env1 =>
          dsimp only at k
          rw [e2] at k
          exact ⟨W, B, H0, A, env, r1, d, env1, l1, ho, rp, e2, fun A' σ' m sub _ _ l2 => k A' σ' H1 m l2 (l.fr ev (Fr.of Evo.refl sub) l1)⟩
      | inr x => exact ⟨W, B, H0, A, env, r, .inr x, r1, l, ho, e1, k⟩

/-! ### the field of the exception that is handled -/
theorem pe_xfG {Y : Cx} {a C : Addr} {oe : Obj} {cls : Value} {d : Option Addr} {e : Expr} {te : TE} {pos : Pos} {n : Str} (T : XfC Y.K C) (hno : PySem.W.findIn Y.K (.ref C) n = some none)
    (hz : Zc cls d oe) (hf : ∃ vs, oe.data = .fields vs) (hin : (a, oe) ∈ Y.pn) (he : PE Y e te) (hb : attributeBase e n Y.env (eval e Y.env) = eval e Y.env := by rfl) :
    PE Y (.Attribute e n pos) (tXf a cls d C n te) := by
  refine ⟨fun pins s σ H Q I h => ?_⟩
  refine attr_of hb (thn (he.run pins s σ H _ I h) fun u s1 hh => ?_)
  obtain ⟨x, H1, I1, rx, ex, ec, dd, fs, v, ed, ea, l, q⟩ := hh
  subst ex
  obtain rfl : u = Value.ref a := rx
  subst ec
  subst ed
  obtain ⟨ha, _⟩ := I1.pin (a, oe) (List.mem_append_left _ hin)
  obtain ⟨vs, hd⟩ := hf
  have hx : ObjOk Y.prog Y.w H1 s1.heap dd (.xd fs) := I1.hok dd _ ea
  obtain ⟨mA, hns, hr⟩ := hx
  obtain ⟨od, ho, hl⟩ := lookIn_ns hns
  obtain ⟨u, hu, ru⟩ := RelO.some_of (v := v) (o := mA n) (by rw [← l]; exact hr n)
  have J : PySem.W.InstAt s1.heap a oe C (some od) := ⟨ha, hz.1, by unfold PySem.W.notCls; rw [hd] <;> rfl, by rw [hz.2]; exact ho⟩
  exact HandSPX.exc_get I1.kIn J T.ga T.gg T.exC (PySem.W.findObj_own T.hdC hno rfl (by rw [hl, hu])) (handed_of ru) ⟨v, H1, I1.tok _, ru, q⟩
def lookS : List Str → List D → Str → Option D
  | k :: ks, x :: xs, j => if k = j then some x else lookS ks xs j
  | _, _, _ => none
theorem lookS_some {K : PySem.W.Frag} {H : Hp} {B : List Addr} {j : Str} : ∀ {kvs : List (Str × V)} {xs : List D} {d : D}, Reps K H B xs (kvs.map (·.2)) → lookS (kvs.map (·.1)) xs j = some d → ∃ v, kvs.lookup j = some v ∧ Rep K H B d v
  | [], xs, d, h, e => by
    cases h
    cases e
  | (k, v) :: r, xs, d, h, e => by
    cases h with
    | cons h1 h2 =>
      rw [List.map_cons] at e
      unfold lookS at e
      by_cases z : k = j
      · rw [if_pos z] at e
        cases e
        exact ⟨v, by rw [List.lookup_cons, z, beq_self_eq_true], h1⟩
      · rw [if_neg z] at e
        obtain ⟨w, e1, e2⟩ := lookS_some h2 e
        exact ⟨w, by rw [List.lookup_cons, beq_eq_false_iff_ne.mpr (Ne.symm z)]; exact e1, e2⟩
def eXf (i : Nat) (a dd : Addr) (n : Str) : SE ρ := fun env r => match env[i]? with
  | some (some (.exn a' dd' ks xs)) => if a' = a ∧ dd' = dd then (lookS ks xs n).map fun d => (d, r) else none
  | _ => none
theorem ed_xf {Y : Cx} {i : Nat} {a C dd : Addr} {oe : Obj} {x n : Str} {p pos : Pos} (T : XfC Y.K C) (hno : PySem.W.findIn Y.K (.ref C) n = some none) (hz : Zc (.ref C) (some dd) oe) (hf : ∃ vs, oe.data = .fields vs) (hin : (a, oe) ∈ Y.pn)
    (hi : (O.contains i) = false := by rfl) (hN : Y.N[i]? = some x := by rfl) (hv : Vis Y.env.scope x := by first | exact Or.inl rfl | exact Or.inr (Or.inl rfl) | exact Or.inr (Or.inr rfl)) (hd : (x == ("__debug__" : Str)) = false := by decide)
    (hcd : (x == ("__classdict__" : Str)) = false := by decide) (hb : attributeBase (.Name x p) n Y.env (eval (.Name x p) Y.env) = eval (.Name x p) Y.env := by rfl) : Ed I Y O (.Attribute (.Name x p) n pos) (eXf i a dd n) :=
  PE.weak (pe_xfG T hno hz hf hin (pv i hN hv hd hcd) hb) fun σ H Q ⟨W, B, H0, A, env, r, d, r', l, ho, hfx, q⟩ => by
    unfold eXf at hfx
    split at hfx
    case h_2 => cases hfx
    case h_1 a' dd' ks xs he =>
    split at hfx
    case isFalse => cases hfx
    case isTrue hc =>
    obtain ⟨hc1, hc2⟩ := hc
    subst hc1 hc2
    obtain ⟨d2, e2, hfx⟩ := Option.map_eq_some_iff.mp hfx
    cases hfx
    have hn : i ∉ A.map (·.1) := by
      rw [ho]
      intro z
      rw [List.contains_iff_mem.mpr z] at hi
      cases hi
    obtain ⟨v, h1, h2⟩ := l.vals i _ he hn
    cases h2 with
    | exn nb hx rs =>
      obtain ⟨w, e3, rw3⟩ := lookS_some rs e2
      exact ⟨_, h1, rfl, rfl, _, _, w, rfl, hx, e3, q w H l Evo.refl rw3⟩
end
end DL
end
section
set_option Elab.async false
set_option linter.all false
set_option maxRecDepth 100000
set_option maxHeartbeats 2000000
/-! The data layer, 23: try. -/
namespace DL
open PySem PySem.Spec PyProof.Rows L2
section
variable {ρ : Type} {I : Wd ρ} {X : Cx} {O O' O1 O2 : List Nat} {pos : Pos} {cl : Str → Addr} {E : XK}
/-- try: f(..) except c0 as x: return e -/
def sTry (i : Nat) (fa : SA ρ) (g : GX ρ) (c0 : Str) (fs : D ⊕ Ex → SE ρ) : SS ρ := fun env r => (fa env r).bind fun p => (g p.1 p.2).bind fun q => match q.1 with
  | .inl _ => some (.nx env q.2)
  | .inr x => if x.cls = c0 ∧ i < env.length then (fs (.inr x) env q.2).map fun y => .ret y.1 y.2 else none
/-- what the body's call wishes -/
theorem call_in {K : PySem.W.Frag} {fa : SA ρ} {g : GX ρ} {n : Nat} {σ : L2.St} {H : Hp} {W B : List Addr} {H0 : Hp} {A : Own} {env : Env} {r r1 r2 : ρ} {ds : List D} {o : D ⊕ Ex} {Q : VK} {Wx : L2.St → XK} (l : Lc I K W B H0 A env r σ H) (ho : A.map (·.1) = O) (e1 : fa env r = some (ds, r1)) (e2 : g ds r1 = some (o, r2)) (hn : ds.length = n)
    (h : match o with
      | .inl _ => ∀ v H', Lc I K W B H0 A env r2 σ H' → Evo W H H' → Q v H'
      | .inr x => ∀ dd H', Lc I K W B H0 A env r2 σ H' → Evo W H H' → ExAt K H' (B ++ A.ad) x dd → Wx σ (.ref (cl x.cls)) (some dd) H') :
    tCallS (spX I K cl n g) Wx (tAr I K O fa) σ H Q := by
  refine ⟨W, B, H0, A, env, r, ds, r1, l, ho, e1, fun vs H1 l1 ev rs => ⟨by rw [← rs.length]; exact hn, W, B ++ A.ad, r1, ds, o, r2, l1.wi, fun b hb => List.mem_append_left _ (l1.wb b hb), l1.bx, rs, e2, ?_⟩⟩
  cases o with
  | inl d => exact fun v H' wi ev2 rp => h v H' (l1.step wi ev2) (ev.trans ev2)
  | inr x => exact fun dd H' wi ev2 xa => h dd H' (l1.step wi ev2) (ev.trans ev2) xa
/-- the suite returns: its reading -/
def tsRet (I : Wd ρ) (K : PySem.W.Frag) (O : List Nat) (C : Addr) (fe : Addr → Addr → SE ρ) : Addr → Value → Option Addr → TS := fun a cls d D σ H => ∃ dd, cls = .ref C ∧ d = some dd ∧ tS I K O (sRet (fe a dd)) [] D σ H
theorem sd_try_as {x n fx : Str} {c : Addr} {i k m : Nat} {e1 e2 : Expr} {es : List Expr} {np pos' xp cp sp rp : Pos} {fa : SA ρ} {g : GX ρ} {c0 : Str} {fe : Addr → Addr → SE ρ} {fs : D ⊕ Ex → SE ρ}
    (hs : X.stack = X.env :: X.outer) (hf : X.env.frame = some X.env.locals) (hN : X.N.Nodup) (hi : X.N[i]? = some n) (hln : X.env.kindOf n = some .local) (hc : Names X x (.ref c)) (hex : PySem.W.exmOne X.K (.ref (cl c0)) (.ref c) = some true)
    (F : FnX I X.K (L2.CX X.prog X.w) X.prog X.w X.mg X.base cl k fx m g) (hr : Room k X.A) (ha : ∀ pn xe, Adl I (X.tr pn xe) O (e1 :: es) fa) (hm : (e1 :: es).length = m) (hg : Gl X fx) (hdb : (fx == ("__debug__" : Str)) = false)
    (hst : starEach (e1 :: es) X.env = (false, eval e1 X.env) :: starEach es X.env) (hpl : (backTo cp (starEach es X.env)).any (·.1) = false) (hsw : swapsWith (.Call (.Name fx xp) (e1 :: es) [] cp) none sp.line X.env = pure false)
    (he : ∀ a oe dd pn, Zc (.ref (cl c0)) (some dd) oe → (∃ vs, oe.data = .fields vs) → Ed I (X.suite a ((a, oe) :: pn)) (O.filter fun j => j != i) e2 (fe a dd))
    (hfe : ∀ a dd y env r, y.cls = c0 → i < env.length → fe a dd (env.set i (some (.exn a dd y.ks y.xs))) r = fs (.inr y) env r) :
    Sd I X O (.Try [.Expr (.Call (.Name fx xp) (e1 :: es) [] cp) sp] [.ExceptHandler (some (.Name x np)) (some n) [.Return (some e2) rp] pos'] [] [] pos) (sTry i fa g c0 fs) O := by
  obtain ⟨f, fd, ps, F, h1, h2, h3⟩ := F
  have nofalse : L2.Takes X (fun _ _ _ _ => False) := fun _ _ ⟨_, _, _, _, _, _, _, _, _, _, _, _, _, _, _, _, w⟩ => w.elim
  refine Sd.of (ps_try_as (tb := fun W => tDrop (tCallS (spX I X.K cl m g) (WE W) (tAr I X.K O fa))) (ts := tsRet I X.K (O.filter fun j => j != i) (cl c0) fe) (Wout := fun _ _ _ _ => False) hs hf hN hi hln hc nofalse (fun W pn xe tk _ => ?_) (fun a oe cls d pn hz hfl => ⟨fun pins s σ H D J h => ?_⟩)) fun D σ H W B H0 A env r l ho k => ?_
  · exact pss_one (ps_expr (pe_callS (X := X.tr pn xe) F hr hg h1 h2 h3 (fun σ => passAt tk σ) (ha pn xe).run hdb hst hpl) hsw)
  · obtain ⟨dd, rfl, rfl, h⟩ := h
    exact (bd_one (sd_ret (he a oe dd pn hz hfl).b)).run pins s σ H D J h
  · unfold sTry at k
    cases e3 : fa env r with
    | none => rw [e3] at k; exact k.elim
    | some p =>
      obtain ⟨ds, r1⟩ := p
      rw [e3, Option.bind_some] at k
      dsimp only at k
      cases e4 : g ds r1 with
      | none => rw [e4] at k; exact k.elim
      | some q =>
        obtain ⟨o, r2⟩ := q
        rw [e4, Option.bind_some] at k
        have hlen : ds.length = m := by rw [← hm]; exact (ha [] (fun _ _ => False)).len _ _ _ _ e3
        refine call_in l ho e3 e4 hlen ?_
        cases o with
        | inl d => exact fun v H' l' ev => k A σ H' ho l' (Fr.of ev fun q hq => hq)
        | inr y =>
          dsimp only at k
          intro dd H' l' ev xa
          by_cases hyy : y.cls = c0 ∧ i < env.length
          · rw [if_pos hyy] at k
            obtain ⟨hy, hil0⟩ := hyy
            refine ⟨true, by rw [hy]; exact hex, fun _ a na => ⟨dd, by rw [hy], rfl, ?_⟩, fun z => by cases z⟩
            have l2 := l'.set (i := i) (xa.rep (a := a))
            refine tS_out ⟨W, B, H0, _, _, r2, l2, by rw [map_filter_ne, ho], ?_⟩
            unfold sRet
            rw [hfe a dd y env r2 hy hil0]
            cases e5 : fs (.inr y) env r2 with
            | none => rw [e5] at k; exact k.elim
            | some z =>
              rw [e5] at k
              exact fun v H2 ev2 wi rp => k v H2 ev2 wi rp
          · rw [if_neg hyy] at k
            exact k.elim
theorem sd_try_asN {x n fx : Str} {c : Addr} {i k m : Nat} {e1 e2 : Expr} {es : List Expr} {np pos' xp cp sp rp : Pos} {fa : SA ρ} {g : GX ρ} {c0 : Str} {fe : Addr → Addr → SE ρ} {fs : D ⊕ Ex → SE ρ}
    (hs : X.stack = X.env :: X.outer) (hf : X.env.frame = some X.env.locals) (hN : X.N.Nodup) (hi : X.N[i]? = some n) (hln : X.env.kindOf n = some .local) (hc : Names X x (.ref c)) (hex : PySem.W.exmOne X.K (.ref (cl c0)) (.ref c) = some true)
    (F : FnX I X.K (L2N.CX X.prog X.w) X.prog X.w X.mg X.base cl k fx m g) (hr : Room k X.A) (ha : ∀ pn xe, Adl I (X.tr pn xe) O (e1 :: es) fa) (hm : (e1 :: es).length = m) (hg : Gl X fx) (hdb : (fx == ("__debug__" : Str)) = false)
    (hst : starEach (e1 :: es) X.env = (false, eval e1 X.env) :: starEach es X.env) (hpl : (backTo cp (starEach es X.env)).any (·.1) = false) (hsw : swapsWith (.Call (.Name fx xp) (e1 :: es) [] cp) none sp.line X.env = pure false)
    (he : ∀ a oe dd pn, Zc (.ref (cl c0)) (some dd) oe → (∃ vs, oe.data = .fields vs) → Ed I (X.suite a ((a, oe) :: pn)) (O.filter fun j => j != i) e2 (fe a dd))
    (hfe : ∀ a dd y env r, y.cls = c0 → i < env.length → fe a dd (env.set i (some (.exn a dd y.ks y.xs))) r = fs (.inr y) env r) :
    Sd I X O (.Try [.Expr (.Call (.Name fx xp) (e1 :: es) [] cp) sp] [.ExceptHandler (some (.Name x np)) (some n) [.Return (some e2) rp] pos'] [] [] pos) (sTry i fa g c0 fs) O := by
  obtain ⟨f, fd, ps, F, h1, h2, h3⟩ := F
  have nofalse : L2N.Takes X (fun _ _ _ _ => False) := fun _ _ ⟨_, _, _, _, _, _, _, _, _, _, _, _, _, _, _, _, w⟩ => w.elim
  refine Sd.of (L2N.ps_try_as (tb := fun W => tDrop (tCallS (spX I X.K cl m g) (WE W) (tAr I X.K O fa))) (ts := tsRet I X.K (O.filter fun j => j != i) (cl c0) fe) (Wout := fun _ _ _ _ => False) hs hf hN hi hln hc nofalse (fun W pn xe tk _ => ?_) (fun a oe cls d pn hz hfl => ⟨fun pins s σ H D J h => ?_⟩)) fun D σ H W B H0 A env r l ho k => ?_
  · exact pss_one (ps_expr (pe_callS (X := X.tr pn xe) F hr hg h1 h2 h3 (fun σ => L2N.passAt tk σ) (ha pn xe).run hdb hst hpl) hsw)
  · obtain ⟨dd, rfl, rfl, h⟩ := h
    exact (bd_one (sd_ret (he a oe dd pn hz.zc hfl).b)).run pins s σ H D J h
  · unfold sTry at k
    cases e3 : fa env r with
    | none => rw [e3] at k; exact k.elim
    | some p =>
      obtain ⟨ds, r1⟩ := p
      rw [e3, Option.bind_some] at k
      dsimp only at k
      cases e4 : g ds r1 with
      | none => rw [e4] at k; exact k.elim
      | some q =>
        obtain ⟨o, r2⟩ := q
        rw [e4, Option.bind_some] at k
        have hlen : ds.length = m := by rw [← hm]; exact (ha [] (fun _ _ => False)).len _ _ _ _ e3
        refine call_in l ho e3 e4 hlen ?_
        cases o with
        | inl d => exact fun v H' l' ev => k A σ H' ho l' (Fr.of ev fun q hq => hq)
        | inr y =>
          dsimp only at k
          intro dd H' l' ev xa
          by_cases hyy : y.cls = c0 ∧ i < env.length
          · rw [if_pos hyy] at k
            obtain ⟨hy, hil0⟩ := hyy
            refine ⟨true, by rw [hy]; exact hex, fun _ a na => ⟨dd, by rw [hy], rfl, ?_⟩, fun z => by cases z⟩
            have l2 := l'.set (i := i) (xa.rep (a := a))
            refine tS_out ⟨W, B, H0, _, _, r2, l2, by rw [map_filter_ne, ho], ?_⟩
            unfold sRet
            rw [hfe a dd y env r2 hy hil0]
            cases e5 : fs (.inr y) env r2 with
            | none => rw [e5] at k; exact k.elim
            | some z =>
              rw [e5] at k
              exact fun v H2 ev2 wi rp => k v H2 ev2 wi rp
          · rw [if_neg hyy] at k
            exact k.elim
/-- try: f(..) except x: return e -/
def sTryO (fa : SA ρ) (g : GX ρ) (cs : Str → Bool) (fs : SE ρ) : SS ρ := fun env r => (fa env r).bind fun p => (g p.1 p.2).bind fun q => match q.1 with
  | .inl _ => some (.nx env q.2)
  | .inr x => if cs x.cls = true then (fs env q.2).map fun y => .ret y.1 y.2 else none
theorem sd_try_only {x fx : Str} {c : Addr} {k m : Nat} {e1 e2 : Expr} {es : List Expr} {np pos' xp cp sp rp : Pos} {fa : SA ρ} {g : GX ρ} {cs : Str → Bool} {fs : SE ρ}
    (hs : X.stack = X.env :: X.outer) (hf : X.env.frame = some X.env.locals) (hc : Names X x (.ref c)) (hex : ∀ y, cs y = true → PySem.W.exmOne X.K (.ref (cl y)) (.ref c) = some true)
    (F : FnX I X.K (L2.CX X.prog X.w) X.prog X.w X.mg X.base cl k fx m g) (hr : Room k X.A) (ha : ∀ pn xe, Adl I (X.tr pn xe) O (e1 :: es) fa) (hm : (e1 :: es).length = m) (hg : Gl X fx) (hdb : (fx == ("__debug__" : Str)) = false)
    (hst : starEach (e1 :: es) X.env = (false, eval e1 X.env) :: starEach es X.env) (hpl : (backTo cp (starEach es X.env)).any (·.1) = false) (hsw : swapsWith (.Call (.Name fx xp) (e1 :: es) [] cp) none sp.line X.env = pure false)
    (he : ∀ a oe pn, Ed I (X.suite a ((a, oe) :: pn)) O e2 fs) :
    Sd I X O (.Try [.Expr (.Call (.Name fx xp) (e1 :: es) [] cp) sp] [.ExceptHandler (some (.Name x np)) none [.Return (some e2) rp] pos'] [] [] pos) (sTryO fa g cs fs) O := by
  obtain ⟨f, fd, ps, F, h1, h2, h3⟩ := F
  have nofalse : L2.Takes X (fun _ _ _ _ => False) := fun _ _ ⟨_, _, _, _, _, _, _, _, _, _, _, _, _, _, _, _, w⟩ => w.elim
  refine Sd.of (ps_try_only (tb := fun W => tDrop (tCallS (spX I X.K cl m g) (WE W) (tAr I X.K O fa))) (ts := fun _ _ _ => tS I X.K O (sRet fs) []) (Wout := fun _ _ _ _ => False) hs hf hc nofalse (fun W pn xe tk _ => ?_) (fun a oe cls d pn hz hfl => bd_one (sd_ret (he a oe pn).b))) fun D σ H W B H0 A env r l ho k => ?_
  · exact pss_one (ps_expr (pe_callS (X := X.tr pn xe) F hr hg h1 h2 h3 (fun σ => passAt tk σ) (ha pn xe).run hdb hst hpl) hsw)
  · unfold sTryO at k
    cases e3 : fa env r with
    | none => rw [e3] at k; exact k.elim
    | some p =>
      obtain ⟨ds, r1⟩ := p
      rw [e3, Option.bind_some] at k
      dsimp only at k
      cases e4 : g ds r1 with
      | none => rw [e4] at k; exact k.elim
      | some q =>
        obtain ⟨o, r2⟩ := q
        rw [e4, Option.bind_some] at k
        have hlen : ds.length = m := by rw [← hm]; exact (ha [] (fun _ _ => False)).len _ _ _ _ e3
        refine call_in l ho e3 e4 hlen ?_
        cases o with
        | inl d => exact fun v H' l' ev => k A σ H' ho l' (Fr.of ev fun q hq => hq)
        | inr y =>
          dsimp only at k
          intro dd H' l' ev xa
          by_cases hy : cs y.cls = true
          · rw [if_pos hy] at k
            refine ⟨true, hex _ hy, fun _ a na => ?_, fun z => by cases z⟩
            refine tS_out ⟨W, B, H0, A, env, r2, l', ho, ?_⟩
            unfold sRet
            cases e5 : fs env r2 with
            | none => rw [e5] at k; exact k.elim
            | some z =>
              rw [e5] at k
              exact fun v H2 ev2 wi rp => k v H2 ev2 wi rp
          · rw [if_neg hy] at k
            exact k.elim
/-- try: f(..) except c0 as x: raise C1(e) from x -/
def xTryR (i : Nat) (fa : SA ρ) (g : GX ρ) (c0 C1 fl : Str) (fs : D ⊕ Ex → SE ρ) : SX ρ := fun env r => (fa env r).bind fun p => (g p.1 p.2).bind fun q => match q.1 with
  | .inl _ => some (.ok (.nx env q.2))
  | .inr x => if x.cls = c0 ∧ i < env.length then (fs (.inr x) env q.2).map fun y => .exc ⟨C1, [fl], [y.1]⟩ y.2 else none
theorem sx_try_raise {x n fx x1 : Str} {c : Addr} {i k m k1 : Nat} {e1 e2 : Expr} {es : List Expr} {np pos' xp cp sp rp rp2 cp1 xp1 : Pos} {fa : SA ρ} {g : GX ρ} {c0 C1 fl : Str} {fe : Addr → Addr → SE ρ} {fs : D ⊕ Ex → SE ρ} {fI : Addr} {fdI : FuncData} {psI : List Str}
    (hs : X.stack = X.env :: X.outer) (hf : X.env.frame = some X.env.locals) (hN : X.N.Nodup) (hi : X.N[i]? = some n) (hln : X.env.kindOf n = some .local) (hdn : (n == ("__debug__" : Str)) = false) (hc : Names X x (.ref c)) (hex : PySem.W.exmOne X.K (.ref (cl c0)) (.ref c) = some true) (hsub : PySem.W.subIn X.K (.ref (cl c0)) (.type "BaseException") = some true)
    (tk : L2.Takes X fun cls d _ H => E cls d H) (hpa : ∀ hd : Option Value, PassesOwnAt (model X.prog X.w) (X.A.mark hd) X.A X.env X.xe)
    (F : FnX I X.K (L2N.CX X.prog X.w) X.prog X.w X.mg X.base cl k fx m g) (hr : Room k X.A) (ha : ∀ pn xe, Adl I (X.tr pn xe) O (e1 :: es) fa) (hm : (e1 :: es).length = m) (hg : Gl X fx) (hdb : (fx == ("__debug__" : Str)) = false)
    (hst : starEach (e1 :: es) X.env = (false, eval e1 X.env) :: starEach es X.env) (hpl : (backTo cp (starEach es X.env)).any (·.1) = false) (hsw : swapsWith (.Call (.Name fx xp) (e1 :: es) [] cp) none sp.line X.env = pure false)
    (T : OexC X.K (cl C1)) (iC : PySem.W.findIn X.K (.ref (cl C1)) "__init__" = some (some (.ref fI))) (tI : PySem.W.typeIn X.K (.ref fI) = some (.type "function")) (FI : L2H.FnH X.prog X.w X.K X.mg X.base CX0 k1 fI fdI psI (spSup (cl C1) fl)) (bI : Binds X.K fdI psI []) (hr1 : Room (k1 + 1) X.A)
    (hg1 : Gl X x1) (hm1 : X.mg x1 = some (.ref (cl C1))) (hd1 : (x1 == ("__debug__" : Str)) = false) (hst1 : starEach [e2] X.env = (false, eval e2 X.env) :: starEach [] X.env)
    (he : ∀ W a oe dd pn, Zc (.ref (cl c0)) (some dd) oe → (∃ vs, oe.data = .fields vs) → Ed I (L2H.suiteW X W a ((a, oe) :: pn)) (O.filter fun j => j != i) e2 (fe a dd))
    (hfe : ∀ a dd y env r, y.cls = c0 → i < env.length → fe a dd (env.set i (some (.exn a dd y.ks y.xs))) r = fs (.inr y) env r) :
    Sx I X O cl E (.Try [.Expr (.Call (.Name fx xp) (e1 :: es) [] cp) sp] [.ExceptHandler (some (.Name x np)) (some n) [.Raise (some (.Call (.Name x1 xp1) [e2] [] cp1)) (some (.Name n rp2)) rp] pos'] [] [] pos) (xTryR i fa g c0 C1 fl fs) O := by
  obtain ⟨f, fd, ps, F, h1, h2, h3⟩ := F
  refine Sx.of (L2H.ps_try_asX (tb := fun W => tDrop (tCallS (spX I X.K cl m g) (WE W) (tAr I X.K O fa)))
    (ts := fun a cls d _ σ H => ∃ dd, cls = .ref (cl c0) ∧ d = some dd ∧ σ[i]? = some (some (.ref a)) ∧ tMkO (cl C1) (spSup (cl C1) fl) [] (tAr I X.K (O.filter fun j => j != i) (aCons (fe a dd) aNil)) σ H fun cls d H' => E cls d H') (Wout := fun cls d _ H => E cls d H) hs hf hN hi hln hc tk hpa (fun _ _ _ _ h => h)
    (fun W pn xe tk _ => ?_) (fun a oe cls d pn hz hfl tkS hot => ⟨fun pins s σ H D J h => ?_⟩)) fun D σ H W B H0 A env r l ho k => ?_
  · exact pss_one (ps_expr (pe_callS (X := X.tr pn xe) F hr hg h1 h2 h3 (fun σ => L2N.passAt tk σ) (ha pn xe).run hdb hst hpl) hsw)
  · obtain ⟨dd, rfl, rfl, hsl, h⟩ := h
    have hcx : L2H.HotC (L2H.suiteW X (fun cls d _ H => E cls d H) a ((a, oe) :: pn)) := ⟨(a, oe), hot, List.mem_cons_self ..⟩
    have hx0 : Passes CX0 (L2H.suiteW X (fun cls d _ H => E cls d H) a ((a, oe) :: pn)) (fun _ _ _ => False) := pass0
    have mk := L2H.pmk5_oexH (X := L2H.suiteW X (fun cls d _ H => E cls d H) a ((a, oe) :: pn)) (p := xp1) (pos := cp1) T iC tI FI (L2H.roomH_mark hr1 _) hcx bI hx0 hg1 hm1 (ad_cons (he _ a oe dd pn hz.zc hfl) ad_nil hst1).run hd1 hst1 rfl
    exact (pss_one (L2H.ps_raiseHF (p := (a, oe)) (np := rp2) (pos := rp) hot (List.mem_cons_self ..) hz.1 hsub tkS mk hi hln hdn)).run pins s σ H D J ⟨hsl, h⟩
  · unfold xTryR at k
    cases e3 : fa env r with
    | none => rw [e3] at k; exact k.elim
    | some p =>
      obtain ⟨ds, r1⟩ := p
      rw [e3, Option.bind_some] at k
      dsimp only at k
      cases e4 : g ds r1 with
      | none => rw [e4] at k; exact k.elim
      | some q =>
        obtain ⟨o, r2⟩ := q
        rw [e4, Option.bind_some] at k
        have hlen : ds.length = m := by rw [← hm]; exact (ha [] (fun _ _ => False)).len _ _ _ _ e3
        refine call_in l ho e3 e4 hlen ?_
        cases o with
        | inl d => exact fun v H' l' ev => k A σ H' ho l' (Fr.of ev fun q hq => hq)
        | inr y =>
          dsimp only at k
          intro dd H' l' ev xa
          by_cases hyy : y.cls = c0 ∧ i < env.length
          · rw [if_pos hyy] at k
            obtain ⟨hy, hil0⟩ := hyy
            have hil : i < σ.length := by rw [← l'.len]; exact hil0
            refine ⟨true, by rw [hy]; exact hex, fun _ a na => ⟨dd, by rw [hy], rfl, List.getElem?_set_self hil, ?_⟩, fun z => by cases z⟩
            have l2 := l'.set (i := i) (xa.rep (a := a))
            cases e5 : fs (.inr y) env r2 with
            | none => rw [e5] at k; exact k.elim
            | some z =>
              obtain ⟨d5, r5⟩ := z
              rw [e5] at k
              exact mk_core l2 (by rw [map_filter_ne, ho]) (by rw [hfe a dd y env r2 hy hil0, e5]) k
          · rw [if_neg hyy] at k
            exact k.elim
end
end DL
end
section
set_option Elab.async false
set_option linter.all false
set_option maxRecDepth 100000
set_option maxHeartbeats 2000000
/-! The data layer, 24: an own exception made where nothing is handled, its context None; the two raises. -/
namespace L2
open PySem PySem.Spec PyProof.Rows
section
variable {X : Cx} {o e : Expr} {es : List Expr} {to te : TE} {ta : TA} {f : Str} {p p' p1 p2 pos : Pos}
theorem pmk_oexN {CX : CXT} {x : Str} {C fI : Addr} {k : Nat} {fd : FuncData} {ps : List Str} {sp : Sp} {ds : List Value} {dvs : List V} (T : OexC X.K C) (iC : PySem.W.findIn X.K (.ref C) "__init__" = some (some (.ref fI))) (tI : PySem.W.typeIn X.K (.ref fI) = some (.type "function"))
    (F1 : FnOk X.prog X.w X.K X.mg X.base CX k fI fd ps sp) (hr : Room (k + 1) X.A) (hb : Binds X.K fd ps ds) (hd : Vals dvs ds) (hx : Passes CX X (fun _ _ _ => False)) (hg : Gl X x) (hm : X.mg x = some (.ref C)) (ha : PA X (e :: es) ta)
    (hdb : (x == ("__debug__" : Str)) = false := by decide) (he : starEach (e :: es) X.env = (false, eval e X.env) :: starEach es X.env := by rfl) (hpl : (backTo pos (starEach es X.env)).any (·.1) = false := by rfl) :
    L2N.PMk X (.Call (.Name x p) (e :: es) [] pos) (tMkO C sp dvs ta) := by
  intro pins s σ H Q I h
  obtain ⟨nm, q, N, bs, bm, sn, sub, ab, col, dd, k0, k1, k2, k3, k5, hC, hbm⟩ := T.cls
  refine wpAny_Call_Name_kw (ld_glob I hg hm ?_ hdb)
  refine PySem.W.callWith_K (h₀ := X.base) I.ok.mod.kin T.kC (thn (ha.run pos pins s σ H _ I h) fun us s1 ⟨vs, H1, I1, r1, hz, q1⟩ => ⟨I1.kIn, ?_⟩) he hpl
  show wpAny _ _ (call (.ref C) us) _ _ _
  obtain ⟨hp, g, dr, tk, os⟩ := s1
  have hsz : hp.objs.size ≤ hp.objs.size + 1 := Nat.le_succ _
  have hn : H1 (hp.objs.size + 1) = none := I1.hok.fresh hsz
  have hq := q1 (hp.objs.size + 1) hn
  have kk : ∀ b o, hp.get? b = some o → ((hp.push (PySem.W.kdv_tup us)).push (PySem.HandSPX.excO C hp.objs.size)).get? b = some o := fun b o e => Heap.get?_push_of_some _ (Heap.get?_push_of_some _ e)
  have hget : ((hp.push (PySem.W.kdv_tup us)).push (PySem.HandSPX.excO C hp.objs.size)).get? (hp.objs.size + 1) = some (PySem.HandSPX.excO C hp.objs.size) := by heap_get
  have I2 : Inv X pins σ (upd H1 (hp.objs.size + 1) (exo (hp.objs.size + 1) C none)) ⟨(hp.push (PySem.W.kdv_tup us)).push (PySem.HandSPX.excO C hp.objs.size), g, dr, tk, os⟩ :=
    I1.laid (t' := tk) (a := hp.objs.size + 1) (o := exo (hp.objs.size + 1) C none) (h' := (hp.push (PySem.W.kdv_tup us)).push (PySem.HandSPX.excO C hp.objs.size)) kk hsz (exo_ok hget)
  have r2 : Vals (V.ref (hp.objs.size + 1) :: (vs ++ dvs)) (Value.ref (hp.objs.size + 1) :: (us ++ ds)) := .cons rfl (r1.append hd)
  have hl : (Value.ref (hp.objs.size + 1) :: us ++ ds).length = ps.length := by
    have e := r2.length
    rw [F1.len _ _ _ _ hq] at e
    exact e.symm
  have hus : us.length ≤ sizeLine := by
    rw [← Paired.length r1, sizeLine_eq]
    omega
  refine wpAny_call (PySem.HandSPX.call_own F.excBase_ValueError (fun Y => PySem.HandSPX.refsVE_contains Y bm hbm) (I1.kIn _ _ hC) (PySem.W.looks_findIn I1.kIn iC) (fun self => PySem.W.bind_fn I1.kIn self tI) hus
    (codeAny_mono (F1.run _ X.stack _ _ ⟨Value.ref (hp.objs.size + 1) :: us, []⟩ (Value.ref (hp.objs.size + 1) :: (us ++ ds)) _ _ (fun _ _ _ => False) (hr.make C us []) (I2.env0.make C us []) (hb _ (Value.ref (hp.objs.size + 1) :: us) I2.kIn hl) r2 hq) fun r s' hq' => ?_))
  cases r with
  | error er => exact hx pins σ _ _ er s' I2 hq'
  | ok fl =>
    cases fl with
    | ret u =>
      obtain ⟨v, H2, os2, bare2, un2, hok2, rv, ev, d, fs, ea, ed, hd1, q2⟩ := hq'
      subst ev
      obtain ⟨h2, g2, d2, t2, os'⟩ := s'
      obtain ⟨t0, G, J, kG, ge, hoe, na⟩ := mk_end0 (d2 := d2) (t2 := t2) I1 hsz kk un2 hok2 os2 bare2 ea ed hd1
      exact ⟨rv, hp.objs.size + 1, _, _, ⟨G, g2, d2, t2, os'⟩, _, .ref C, some d, rfl, J, kG, ge, hoe, ⟨rfl, rfl, fun vs hv => by cases hv; rfl⟩, rfl, rfl, na, rfl, bare2, raises_own T.exC T.tyC, q2⟩
    | next => exact False.elim hq'
    | brk => exact False.elim hq'
    | cont => exact False.elim hq'
end
end L2
namespace DL
open PySem PySem.Spec PyProof.Rows L2
/-- what is known of an own exception class: its __init__ keeps spSup, calm or not -/
structure ExcC (K : PySem.W.Frag) (P : Program) (w : World) (mg : Str → Option Value) (base : Heap) (cl : Str → Addr) (C fl : Str) : Prop where
  T : OexC K (cl C)
  mgc : mg C = some (.ref (cl C))
  ini : ∃ (fI : Addr) (fd : FuncData) (ps : List Str), PySem.W.findIn K (.ref (cl C)) "__init__" = some (some (.ref fI)) ∧ PySem.W.typeIn K (.ref fI) = some (.type "function") ∧ FnOk P w K mg base CX0 1 fI fd ps (spSup (cl C) fl) ∧
    L2H.FnH P w K mg base CX0 1 fI fd ps (spSup (cl C) fl) ∧ Binds K fd ps []
  xf : XfC K (cl C)
  no : PySem.W.findIn K (.ref (cl C)) fl = some none
section
variable {ρ : Type} {I : Wd ρ} {X : Cx} {O O' : List Nat} {pos : Pos} {cl : Str → Addr} {E : XK}
theorem sx_raise2 {C fl : Str} {e : Expr} {f : SE ρ} {p cp : Pos} (Y : ExcC X.K X.prog X.w X.mg X.base cl C fl) (hr : Room 2 X.A) (hc : X.calm = true) (tk : L2.Takes X fun cls d _ H => E cls d H) (he : Ed I X O e f) (hg : Gl X C := by rfl) (hdb : (C == ("__debug__" : Str)) = false := by decide)
    (hs : starEach [e] X.env = (false, eval e X.env) :: starEach [] X.env := by rfl) : Sx I X O cl E (.Raise (some (.Call (.Name C p) [e] [] cp)) none pos) (xRaise C fl f) O' := by
  obtain ⟨fI, fd, ps, iC, tI, F, FH, bI⟩ := Y.ini
  exact sx_raise (L2.ps_raise hc tk (pmk_oex Y.T iC tI F hr bI .nil pass0 hg Y.mgc (ad_cons he ad_nil hs).run hdb hs rfl))
theorem sx_raiseN {C fl : Str} {e : Expr} {f : SE ρ} {p cp : Pos} (Y : ExcC X.K X.prog X.w X.mg X.base cl C fl) (hr : Room 2 X.A) (hc : X.calm = true) (tk : L2N.Takes X fun cls d _ H => E cls d H) (he : Ed I X O e f) (hg : Gl X C := by rfl) (hdb : (C == ("__debug__" : Str)) = false := by decide)
    (hs : starEach [e] X.env = (false, eval e X.env) :: starEach [] X.env := by rfl) : Sx I X O cl E (.Raise (some (.Call (.Name C p) [e] [] cp)) none pos) (xRaise C fl f) O' := by
  obtain ⟨fI, fd, ps, iC, tI, F, FH, bI⟩ := Y.ini
  exact sx_raise (L2N.ps_raise hc tk (pmk_oexN Y.T iC tI F hr bI .nil pass0 hg Y.mgc (ad_cons he ad_nil hs).run hdb hs rfl))
/-- the field of the exception, by its value -/
def eXs (n : Str) : D ⊕ Ex → SE ρ
  | .inr x => fun _ r => (lookS x.ks x.xs n).map fun d => (d, r)
  | .inl _ => fun _ _ => none
theorem eXf_set {i : Nat} {a dd : Addr} {n : Str} {env : Env} {r : ρ} {y : Ex} (h : i < env.length) : eXf i a dd n (env.set i (some (.exn a dd y.ks y.xs))) r = eXs n (.inr y) env r := by
  unfold eXf eXs
  rw [List.getElem?_set_self h]
  show (if a = a ∧ dd = dd then _ else _) = _
  rw [if_pos ⟨rfl, rfl⟩]
end
end DL
end
section
set_option Elab.async false
set_option linter.all false
set_option maxRecDepth 100000
set_option maxHeartbeats 4000000
/-! The data layer, 25: a dict filled in a loop that may raise (need_signatures). -/
namespace DL
open PySem PySem.Spec PyProof.Rows L2
section
variable {ρ : Type}
abbrev CT (ρ : Type) := D → D → D → ρ → Option (Option Ex × ρ)
def sgFold (ct : CT ρ) : List D → D → ρ → List Key → List D → Option (OutX ρ)
  | [], _, r, ks, xs => some (.ok (.ret (.dct ks xs) r))
  | .tup [n, s] :: ds, l, r, ks, xs => (ct l n s r).bind fun q => match q.1 with
    | some x => some (.exc x q.2)
    | none => (ixD s (.int 0)).bind fun k => (keyD k).bind fun kk => if ks.length < big then sgFold ct ds k q.2 (putD ks xs kk s).1 (putD ks xs kk s).2 else none
  | _, _, _, _, _ => none
def xSigs (ct : CT ρ) : SX ρ := fun env r => match env with
  | [some S, _, _, _, _] => (items S).bind fun ds => sgFold ct (enumFrom 0 ds) (.str "") r [] []
  | _ => none
end
theorem sgFold_tup {ρ : Type} {ct : CT ρ} {d l : D} {ds : List D} {r : ρ} {ks : List Key} {xs : List D} {o : OutX ρ} (h : sgFold ct (d :: ds) l r ks xs = some o) : ∃ n s, d = .tup [n, s] := by
  unfold sgFold at h
  split at h
  · cases ‹d :: ds = []›
  · rename_i q; injection q with q1 q2; exact ⟨_, _, q1⟩
  · cases h
theorem sgFold_cons {ρ : Type} {ct : CT ρ} {n s l : D} {ds : List D} {r : ρ} {ks : List Key} {xs : List D} : sgFold ct (.tup [n, s] :: ds) l r ks xs = (ct l n s r).bind fun q => match q.1 with
    | some x => some (.exc x q.2)
    | none => (ixD s (.int 0)).bind fun k => (keyD k).bind fun kk => if ks.length < big then sgFold ct ds k q.2 (putD ks xs kk s).1 (putD ks xs kk s).2 else none := rfl
/-- what stands while the dict at p is filled -/
structure SigW {ρ : Type} (I : Wd ρ) (K : PySem.W.Frag) (W B : List Addr) (H0 : Hp) (S : D) (SS : List Addr → Hp → Prop) (p : Addr) (l : D) (n s : Option D) (r : ρ) (σ : L2.St) (H : Hp) (kvs : List (Key × V)) (xs : List D) : Prop where
  lc : Lc I K W (p :: B) H0 [] [some S, some (.raw (.ref p)), some l, n, s] r σ H
  ss : SS (p :: B ++ Own.ad []) H
  hp : H p = some (.dK kvs)
  rs : Reps K H (p :: B ++ Own.ad []) xs (kvs.map (·.2))
end DL
end
section
set_option Elab.async false
set_option linter.all false
set_option maxRecDepth 100000
set_option maxHeartbeats 2000000
/-! The data layer, 26: a list block that is stored at once; a store into a list of one's own. -/
namespace DL
open PySem PySem.Spec PyProof.Rows L2
section
variable {ρ : Type} {I : Wd ρ} {X : Cx} {O O' O1 O2 : List Nat} {pos : Pos}
theorem comp_w {own : List (Str × Nat)} {fi : SA ρ} {g : GD} {ts : List Nat} {ft : SB ρ} {fe : SE ρ}
    (hts : ts.all (fun t => (own.map (·.2)).contains t) = true) (hO : (own.map (·.2)).all (fun t => !O.contains t) = true) {σ : L2.St} {H : Hp} {Q : V → Hp → Prop} (h : tF I X.K O (eComp fi g ft fe (own.map (·.2))) σ H Q) :
    tLc (tI I X.K O fi) (tG I X.K O O ts g) (tT I X.K O ft) (tE I X.K O fe) (own.map (·.2)) σ H Q := by
    obtain ⟨W, B, H0, A, env, r, d, r', l, ho, hf, q⟩ := h
    revert hf hts hO
    generalize own.map (·.2) = vs
    intro hts hO hf
    have hts' : ∀ t ∈ ts, t ∈ vs := fun t h => List.contains_iff_mem.mp (List.all_eq_true.mp hts t h)
    have hO' : ∀ i ∈ vs, i ∉ A.map (·.1) := fun i h z => by
      have := List.all_eq_true.mp hO i h
      rw [ho] at z
      rw [List.contains_iff_mem.mpr z] at this
      cases this
    unfold eComp at hf
    obtain ⟨⟨ds, r1⟩, e1, hf⟩ := Option.bind_eq_some_iff.mp hf
    obtain ⟨⟨zs, r2⟩, e2, hf⟩ := Option.bind_eq_some_iff.mp hf
    split at hf
    case isFalse => cases hf
    case isTrue hz =>
    cases hf
    dsimp only at e2 hz
    refine ⟨W, B, H0, A, env, r, ds, r1, l, ho, e1, fun J S H1 l1 ev yl s1 p hp => ?_⟩
    obtain ⟨p0, pW⟩ := l1.none0 hp
    have lp := (l1.wiped hO').hold (r' := r1) (H' := upd H1 p (.lst [])) (I.keep l1.wi fun b hb => upd_ne fun z => pW (by rw [← z]; exact hb)) (Evo.new hp) hp (by rw [upd_same]; simp)
    have sp : S (p :: B ++ A.ad) (upd H1 p (.lst [])) := yl.keep _ _ _ _ s1 (Evo.new hp) fun b hb => by
      rcases List.mem_append.mp hb with z | z
      · rcases List.mem_cons.mp z with z | z
        · exact .inr (by rw [z]; exact hp)
        · exact .inl (List.mem_append_left _ z)
      · exact .inl (List.mem_append_right _ z)
    refine ⟨fun i m H' => i + m = ds.length ∧ ∃ r' acc accD rest, Lc I X.K W (p :: B) H0 A (wipeE env vs) r' (wipe σ vs) H' ∧ Evo W H1 H' ∧ S (p :: B ++ A.ad) H' ∧ H' p = some (.lst acc) ∧ Reps X.K H' (p :: B ++ A.ad) accD acc ∧
        cFold g ft fe (wipeE env vs) (ds.drop i) r' = some (rest, r2) ∧ zs = accD ++ rest,
      ⟨ds.length, by omega, r1, [], [], zs, lp, Evo.new hp, sp, upd_same, .nil, by rw [List.drop_zero]; exact e2, rfl⟩, ?_⟩
    rintro i m H2 ⟨him, r3, acc, accD, rest, l2, ev2, s2, hp2, rs2, e3, hzs⟩
    by_cases hlt : i < ds.length
    · refine .inr ⟨yl.go _ _ _ s2 hlt, _, fun H' z => ⟨m - 1, by omega, z⟩, fun x H3 y => ?_⟩
      obtain ⟨d, e4, ex, rp⟩ := yl.yld _ _ _ _ _ s2 l2.bx hlt y
      have l3 := l2.ext ex
      have s3 := yl.keep _ _ (p :: B ++ A.ad) H3 s2 ex.evo fun b z => .inl z
      rw [List.drop_eq_getElem_cons hlt] at e3
      rw [List.getElem?_eq_getElem hlt] at e4
      cases e4
      unfold cFold at e3
      obtain ⟨env4, g1, e3⟩ := Option.bind_eq_some_iff.mp e3
      obtain ⟨⟨b, r4⟩, g2, e3⟩ := Option.bind_eq_some_iff.mp e3
      refine ⟨W, p :: B, H0, A, wipeE env vs, r3, _, env4, l3, ho, rp, g1, fun A4 σ4 m4 sub4 sl4 so4 l4 => ⟨?_, ?_⟩⟩
      · rw [← wipe_wipe σ vs]
        exact wipe_same sl4 fun j hj => so4 j fun z => hj (hts' j z)
      refine ⟨W, p :: B, H0, A4, env4, r3, b, r4, l4, m4, g2, fun H5 l5 ev5 => ?_⟩
      have same : ∀ b ∈ p :: B ++ A.ad, b ∈ p :: B ++ A4.ad := fun b hb => (List.mem_append.mp hb).elim (fun z => List.mem_append_left _ z) fun z => by
        obtain ⟨w, hw, rfl⟩ := List.mem_map.mp z
        exact List.mem_append_right _ (List.mem_map.mpr ⟨w, own_sub sub4 (m4.trans ho.symm) l.nd w hw, rfl⟩)
      have s5 := yl.keep _ _ (p :: B ++ A.ad) H5 s3 (l3.ev ev5) fun b z => .inl z
      have p5 : H5 p = some (.lst acc) := ev5.at_ pW ((ex.evo (B := [])).at_ (by simp) hp2)
      have rs5 := (rs2.keep ex.evo).keep (l3.ev ev5)
      cases b with
      | false =>
        rw [if_neg Bool.false_ne_true] at e3
        show (ite (_ = true) _ _ : Prop)
        rw [if_neg Bool.false_ne_true]
        exact ⟨by omega, r4, acc, accD, rest, l3.step l5.wi ev5, (ev2.trans ex.evo).trans ev5, s5, p5, rs5, e3, hzs⟩
      | true =>
        rw [if_pos rfl] at e3
        show (ite (_ = true) _ _ : Prop)
        rw [if_pos rfl]
        obtain ⟨⟨dv, r5⟩, g3, e3⟩ := Option.bind_eq_some_iff.mp e3
        obtain ⟨⟨rest2, r6⟩, g4, e3⟩ := Option.map_eq_some_iff.mp e3
        cases e3
        refine ⟨W, p :: B, H0, A4, env4, r4, dv, r5, l5, m4, g3, fun v H6 l6 ev6 rp6 => ?_⟩
        have p6 := ev6.at_ pW p5
        refine ⟨acc, p6, ?_, ?_⟩
        · have : acc.length < zs.length := by rw [hzs, List.length_append, List.length_cons, rs2.length]; omega
          exact Nat.lt_of_lt_of_le this (Nat.le_trans hz big_le)
        · have l3b := l3.step l5.wi ev5
          have evp : Evo (p :: B ++ A.ad) H6 (upd H6 p (.lst (acc ++ [v]))) := Evo.write (List.mem_append_left _ (List.mem_cons_self ..))
          refine ⟨by omega, r5, acc ++ [v], accD ++ [dv], rest2, (l3.step l6.wi (ev5.trans ev6)).poke (List.mem_cons_self ..) pW p0, (((ev2.trans ex.evo).trans ev5).trans ev6).poke hp, yl.keep _ _ _ _ (yl.keep _ _ (p :: B ++ A.ad) H6 s5 (l3b.ev ev6) fun b z => .inl z) evp fun b z => .inl z, upd_same, ?_, g4, by rw [hzs, List.append_assoc]; rfl⟩
          exact ((rs5.keep (l3b.ev ev6)).append (.cons (rp6.less same) .nil)).keep evp
    · have he0 : ds.drop i = [] := List.drop_eq_nil_of_le (Nat.le_of_not_lt hlt)
      rw [he0] at e3
      cases e3
      refine .inl ⟨yl.stop _ _ _ s2 (Nat.le_of_not_lt hlt), ?_⟩
      have hn : H p = none := by
        cases z : H p with
        | none => rfl
        | some o => rw [ev.at_ pW z] at hp; cases hp
      rw [List.append_nil] at hzs
      subst hzs
      exact q p zs acc H2 rfl (l1.step l2.wi ev2) (ev.trans ev2) hn hp2 rs2
theorem sd_ownC {i : Nat} {y : Str} {py : Pos} {elt tg iter : Expr} {ifs : List Expr} {scope : Scope} {own : List (Str × Nat)} {spos : Pos} {fi : SA ρ} {g : GD} {ts : List Nat} {ft : SB ρ} {fe : SE ρ} (hc : X.calm = true) (hN : X.N.Nodup) (hi : Wk I X O tg iter fi) (ok : BlkOk X.N X.env.scope scope own)
    (hg : ∀ (s : Shared) (H : Hp) (C : Addr) (cl : List (Str × Addr)) (fp : List Addr), Gd I (X.blk s H scope (compEnvC scope cl C X.env) fp) O tg g ts O)
    (ht : ∀ (s : Shared) (H : Hp) (C : Addr) (cl : List (Str × Addr)) (fp : List Addr), Tds I (X.blk s H scope (compEnvC scope cl C X.env) fp) O ifs ft)
    (he : ∀ (s : Shared) (H : Hp) (C : Addr) (cl : List (Str × Addr)) (fp : List Addr), Ed I (X.blk s H scope (compEnvC scope cl C X.env) fp) O elt fe)
    (hy : X.N[i]? = some y := by rfl) (hyl : X.env.scope.names.lookup y = some .local := by rfl) (hsw : swapsWith (.ListComp elt [⟨tg, iter, ifs, 0⟩] scope pos) (some (.Name y py)) spos.line X.env = pure true := by rfl)
    (hts : ts.all (fun t => (own.map (·.2)).contains t) = true := by rfl) (hO : (own.map (·.2)).all (fun t => !O.contains t) = true := by rfl) (hs : ∀ x, foldedSetIterable iter X.env x = pure x := by intro _; rfl) :
    Sd I X O (.Assign [.Name y py] (.ListComp elt [⟨tg, iter, ifs, 0⟩] scope pos) spos) (sOwn i (eComp fi g ft fe (own.map (·.2)))) (i :: O.filter fun j => j != i) :=
  Sd.of (ps_setLc (g := tG I X.K O O ts g) (tt := tT I X.K O ft) (te := tE I X.K O fe) hc hN hy hyl hsw hi ok (fun s H C cl fp => (hg s H C cl fp).run) ht he hs) fun D σ H W B H0 A env r l ho k => by
    unfold sOwn at k
    cases e1 : eComp fi g ft fe (own.map (·.2)) env r with
    | none => rw [e1] at k; exact k.elim
    | some p =>
      obtain ⟨d, r1⟩ := p
      rw [e1, Option.bind_some] at k
      have e1' := e1
      obtain ⟨zs, rfl⟩ := eComp_lst _ _ _ _ e1
      dsimp only at k
      split at k
      · rename_i hlt
        refine comp_w hts hO ⟨W, B, H0, A, env, r, _, r1, l, ho, e1', fun a xs vs H1 eq l1 ev na ha rs => ?_⟩
        cases eq
        exact k _ _ H1 (by rw [List.map_cons, map_filter_ne, ho]) (l.own ev l1.wi hlt na ha rs) (Fr.own ev na fun q hq => (List.mem_filter.mp hq).1)
      · exact k.elim
/-! a list that no one writes is walked -/
def frlB : D → Option (List D)
  | .frl xs => some xs
  | _ => none
theorem frlB_some {d : D} {xs : List D} (h : frlB d = some xs) : d = .frl xs := by
  unfold frlB at h
  split at h
  · cases h; rfl
  · cases h
def iSeqF (f : SE ρ) : SA ρ := fun env r => (f env r).bind fun p => (frlB p.1).map fun x => (x, p.2)
def iEnumF (f : SE ρ) : SA ρ := fun env r => (f env r).bind fun p => (frlB p.1).map fun x => (enumFrom 0 x, p.2)
def SFl (K : PySem.W.Frag) (a : Addr) (xs : List D) : List Addr → Hp → Prop := fun B H => ∃ vs, FrlA K H B a vs ∧ Reps K H B xs vs
theorem SFl.keep {K : PySem.W.Frag} {a : Addr} {xs : List D} {B B' : List Addr} {H H' : Hp} (s : SFl K a xs B H) (e : Evo B H H') (hb : ∀ b ∈ B', b ∈ B ∨ H b = none) : SFl K a xs B' H' := by
  obtain ⟨vs, t, rs⟩ := s
  exact ⟨vs, t.evo e hb, Reps.evo e hb _ _ rs⟩
theorem yl_listF {K : PySem.W.Frag} {a : Addr} {xs : List D} : Yl K (Itl K a) xs (SFl K a xs) where
  go := fun B H i ⟨vs, t, rs⟩ hi => by
    obtain ⟨x, d, e1, _⟩ := reps_lt rs hi
    exact ⟨vs, x, t.sq, e1⟩
  stop := fun B H i ⟨vs, t, rs⟩ hi => ⟨vs, t.sq, by rw [← rs.length]; exact hi⟩
  yld := fun B H i x H' ⟨vs, t, rs⟩ tr hi ⟨e, hx⟩ => by
    subst e
    obtain ⟨x', d, e1, e2, r⟩ := reps_lt rs hi
    rw [hx vs t.sq] at e1
    cases e1
    exact ⟨d, e2, Ext.refl, r⟩
  keep := fun B H B' H' s e hb => SFl.keep s e hb
theorem yl_enumF {K : PySem.W.Frag} {a : Addr} {xs : List D} : Yl K (Ite K a) (enumFrom 0 xs) (SFl K a xs) where
  go := fun B H i ⟨vs, t, rs⟩ hi => by
    rw [enumFrom_length] at hi
    obtain ⟨x, d, e1, _⟩ := reps_lt rs hi
    exact ⟨vs, x, t.sq, e1⟩
  stop := fun B H i ⟨vs, t, rs⟩ hi => ⟨vs, t.sq, by rw [← rs.length]; rw [enumFrom_length] at hi; exact hi⟩
  yld := fun B H i x H' ⟨vs, t, rs⟩ tr hi ⟨T, y, e, nT, e2, hx⟩ => by
    rw [enumFrom_length] at hi
    subst e e2
    obtain ⟨x', d, e1, e2, r⟩ := reps_lt rs hi
    rw [hx vs t.sq] at e1
    cases e1
    refine ⟨_, enumFrom_get 0 i xs d e2, Ext.new nT, .tup (.inl ⟨fun z => tr _ z nT, upd_same⟩) (.cons ?_ (.cons (r.keep (Evo.new nT)) .nil))⟩
    rw [Nat.zero_add]
    exact .int _
  keep := fun B H B' H' s e hb => SFl.keep s e hb
theorem wk_seqF {tg : Expr} {e : Expr} {f : SE ρ} (he : Ed I X O e f) : Wk I X O tg e (iSeqF f) :=
  PI.weak (pi_seq he) fun σ H R ⟨W, B, H0, A, env, r, ds, r', l, ho, hf, q⟩ => by
    unfold iSeqF at hf
    obtain ⟨⟨d, r1⟩, e1, hf⟩ := Option.bind_eq_some_iff.mp hf
    obtain ⟨xs, e2, hf⟩ := Option.map_eq_some_iff.mp hf
    cases hf
    refine ⟨W, B, H0, A, env, r, d, r1, l, ho, e1, fun v H' l' ev rp => ?_⟩
    have e3 := frlB_some e2
    dsimp only at e3
    subst e3
    cases rp with
    | frl t rs => exact ⟨_, rfl, .inl ⟨⟨_, t.sq⟩, q _ _ H' l' ev yl_listF ⟨_, t, rs⟩⟩⟩
theorem wk_enumF {e : Expr} {f : SE ρ} {p tpos : Pos} {elts : List Expr} {kk : Nat} (hg : Gl X "enumerate") (hm : X.mg "enumerate" = none) (he : Ed I X O e f) (hs : starEach [e] X.env = [(false, eval e X.env)] := by rfl) :
    Wk I X O (.Tuple elts kk tpos) (.Call (.Name "enumerate" p) [e] [] pos) (iEnumF f) :=
  PI.weak (pi_enumA hg hm (ad_cons he ad_nil hs).run hs) fun σ H R ⟨W, B, H0, A, env, r, ds, r', l, ho, hf, q⟩ => by
    unfold iEnumF at hf
    obtain ⟨⟨d, r1⟩, e1, hf⟩ := Option.bind_eq_some_iff.mp hf
    obtain ⟨xs, e2, hf⟩ := Option.map_eq_some_iff.mp hf
    cases hf
    refine ⟨W, B, H0, A, env, r, [d], r1, l, ho, by simp [aCons, aNil, e1], fun vs H' l' ev rp => ?_⟩
    have e3 := frlB_some e2
    dsimp only at e3
    subst e3
    cases rp with
    | cons rp rn =>
      cases rn
      cases rp with
      | frl t rs => exact ⟨_, _, rfl, .inl ⟨t.sq, q _ _ H' l' ev yl_enumF ⟨_, t, rs⟩⟩⟩
/-- x[e] = f, x a list of one's own, of ints -/
def sSix (i : Nat) (fi : SE ρ) (f : SE ρ) : SS ρ := fun env r => (f env r).bind fun p => (fi env p.2).bind fun s => (lstAt env i).bind fun xs => (intOf s.1).bind fun k => (ixN xs.length k).map fun n => .nx (env.set i (some (.lst (xs.set n p.1)))) s.2
theorem Reps.set {K : PySem.W.Frag} {H : Hp} {B : List Addr} {ds : List D} {vs : List V} (h : Reps K H B ds vs) {d : D} {v : V} (hv : Rep K H B d v) : ∀ n, Reps K H B (ds.set n d) (vs.set n v) := by
  intro n
  induction n generalizing ds vs with
  | zero =>
    cases h with
    | nil => exact .nil
    | cons a b => exact .cons hv b
  | succ n ih =>
    cases h with
    | nil => exact .nil
    | cons a b => exact .cons a (ih b)
theorem sd_six {i : Nat} {x : Str} {e b : Expr} {f fb : SE ρ} {p p2 : Pos} (he : Ed I X O e f) (hb : Ed I X O b fb) (hO : O.contains i = true := by rfl) (hN : X.N[i]? = some x := by rfl) (hv : Vis X.env.scope x := by first | exact Or.inl rfl | exact Or.inr (Or.inl rfl) | exact Or.inr (Or.inr rfl)) (hd : (x == ("__debug__" : Str)) = false := by decide)
    (hcd : (x == ("__classdict__" : Str)) = false := by decide)
    (ha : ∀ v, assign (.Subscript (.Name x p) b p2) X.env v = (do
      let ov ← holding [v] (eval (.Name x p) X.env)
      let iv ← holding [v, ov] (eval b X.env)
      standAt p2
      holding [v, ov, iv] (setItem ov iv v)
      release [v, ov, iv] []) := by intro _; rfl)
    (hs : swapsWithSole [.Subscript (.Name x p) b p2] e pos.line X.env = pure false := by rfl) (hw : swappedStores [.Subscript (.Name x p) b p2] e X.env = pure none := by rfl)
    (h1 : (assignEach [.Subscript (.Name x p) b p2] X.env).map (·.2) = [assign (.Subscript (.Name x p) b p2) X.env] := by rfl) :
    Sd I X O (.Assign [.Subscript (.Name x p) b p2] e pos) (sSix i fb f) O :=
  Sd.of (ps_asg he (pg_sub (pv i hN hv hd hcd) hb set_list ha) hs hw h1) fun D σ H W B H0 A env r l ho k => by
    unfold sSix at k
    obtain ⟨a, hp⟩ := own_at l ho hO
    cases e1 : f env r with
    | none => rw [e1] at k; exact k.elim
    | some s =>
      obtain ⟨d, r1⟩ := s
      rw [e1, Option.bind_some] at k
      dsimp only at k
      refine ⟨W, B, H0, A, env, r, d, r1, l, ho, e1, fun v H1 l1 ev rp => ?_⟩
      obtain ⟨xs, vs, o1, o2, o3, o4⟩ := l1.owns _ hp
      refine ⟨_, o2, W, B, H0, A, env, r1, ?_⟩
      cases e4 : fb env r1 with
      | none => rw [e4] at k; exact k.elim
      | some s =>
        obtain ⟨di, r2⟩ := s
        rw [e4, Option.bind_some] at k
        refine ⟨di, r2, l1, ho, rfl, fun w H2 l2 ev2 rp2 => ?_⟩
        have hl : lstAt env i = some xs := by unfold lstAt; dsimp only at o1; rw [o1]
        rw [hl, Option.bind_some] at k
        dsimp only at k
        cases e5 : intOf di with
        | none => rw [e5] at k; exact k.elim
        | some kk =>
          rw [e5, Option.bind_some] at k
          cases e6 : ixN xs.length kk with
          | none => rw [e6] at k; exact k.elim
          | some n =>
            rw [e6] at k
            rw [intOf_some e5] at rp2
            cases rp2
            have o3' := ev2.at_ (l1.now hp) o3
            have evv := ev.trans ev2
            refine ⟨a, vs, kk, n, rfl, rfl, o3', by rw [← o4.length]; exact e6, ?_⟩
            exact k A σ _ ho (l2.write hp o1 ((o4.keep (l1.ev ev2)).set (rp.keep (l1.ev ev2)) n)) (l.fr evv (Fr.write hp) l2)
end
end DL
end
section
set_option Elab.async false
set_option linter.all false
set_option maxRecDepth 100000
set_option maxHeartbeats 2000000
/-! The data layer, 27: a body whose last statement is walked by hand; the law's state is made; the law's own def. -/
namespace DL
open PySem PySem.Spec PyProof.Rows L2
section
variable {ρ : Type} {I : Wd ρ} {X : Cx} {O O' O1 O2 : List Nat} {pos : Pos}
def Kont (I : Wd ρ) (K : PySem.W.Frag) (W B : List Addr) (H0 : Hp) (O' : List Nat) (u : L2.St → Hp → Prop) : Option (Out ρ) → Prop
  | some (.nx e r') => ∀ A' σ' H', A'.map (·.1) = O' → Lc I K W B H0 A' e r' σ' H' → u σ' H'
  | _ => False
def tSK (I : Wd ρ) (K : PySem.W.Frag) (O : List Nat) (f : SS ρ) (O' : List Nat) (u : TS) : TS := fun D σ H => ∃ W B H0 A env r, Lc I K W B H0 A env r σ H ∧ A.map (·.1) = O ∧ Kont I K W B H0 O' (u D) (f env r)
theorem pss_last {st : Stmt} {u : TS} (h : PS X st u) : PSs X [st] (tSK I X.K O sNil O u) :=
  PSs.weak (pss_one h) fun D σ H ⟨W, B, H0, A, env, r, l, ho, k⟩ => k A σ H ho l
theorem pss_consK {st : Stmt} {sts : List Stmt} {f g : SS ρ} {u : TS} (h1 : Sd I X O st f O1) (h2 : PSs X sts (tSK I X.K O1 g O2 u)) : PSs X (st :: sts) (tSK I X.K O (sSeq f g) O2 u) :=
  PSs.weak (pss_cons h1 h2) fun D σ H ⟨W, B, H0, A, env, r, l, ho, k⟩ => by
    refine tS_out ⟨W, B, H0, A, env, r, l, ho, ?_⟩
    unfold sSeq at k
    cases e1 : f env r with
    | none => rw [e1] at k; exact k.elim
    | some o =>
      rw [e1, Option.bind_some] at k
      cases o with
      | nx e r2 => exact fun A2 σ2 H2 m l2 f2 => ⟨W, B, H0, A2, e, r2, l2, m, k⟩
      | ret d r2 => exact k.elim
end
def U0 : Wd Unit where
  inv := fun W _ H => ∀ b ∈ W, H b ≠ none
  at_ := fun h => h
  keep := fun h e b hb => by rw [e b hb]; exact h b hb
theorem reps_ints {K : PySem.W.Frag} {H : Hp} {B : List Addr} : ∀ {xs : List Int} {vs : List V}, Reps K H B (xs.map D.int) vs → vs = xs.map V.int
  | [], _, h => by cases h; rfl
  | x :: xs, _, h => by
    rw [List.map_cons] at h
    cases h with
    | cons a b => cases a; rw [reps_ints b]; rfl
/-- what the law's first def computes -/
def Bg (N : List Str) (b : SS Unit) (e : SE Unit) (xs small great : List Int) : Prop := ∃ env, b (startE N [.frl (xs.map D.int)]) () = some (.nx env ()) ∧ env[1]? = some (some (.lst (small.map D.int))) ∧ e env () = some (.lst (great.map D.int), ())
def rwOf (p sa ga : Addr) (small great : List Int) (n : Int) : Rw := ⟨p, [("small", .lst sa small), ("great", .lst ga great), ("spot", .int n)]⟩
def spBg (K : PySem.W.Frag) (N : List Str) (b : SS Unit) (e : SE Unit) : Sp := fun vs H Q E => ∃ a xs small great, vs = [.ref a] ∧ SqL K H a (xs.map V.int) ∧ Bg N b e xs small great ∧
  ∀ p sa ga H', Winv [p, sa, ga] (rwOf p sa ga small great 0) H' → Q (.ref p) H'
theorem begin_end {X : Cx} {xs small great : List Int} {a : Addr} {σ : L2.St} {N : List Str} {b : SS Unit} {e : SE Unit} {H : Hp} {Q : VK} {Dn : Ends} (hD : Dn.rt = Q) (hσ : σ = start N [.ref a]) (ha : SqL X.K H a (xs.map V.int)) (hb : Bg N b e xs small great)
    (hq : ∀ p sa ga H', Winv [p, sa, ga] (rwOf p sa ga small great 0) H' → Q (.ref p) H') : tSK U0 X.K [] b [1] (tRet (tDisp [(tC (.str "small"), tVar 1), (tC (.str "great"), tF U0 X.K [1] e), (tC (.str "spot"), tC (.int 0))])) Dn σ H := by
  subst hσ hD
  obtain ⟨env, h1, h2, h3⟩ := hb
  refine ⟨[], [], H, [], _, (), start_lc (ds := [.frl (xs.map D.int)]) (vs := [.ref a]) (by intro b hb; cases hb) (by simp) (by simp) (.cons (.frl (ha.elim (fun h => .inl ⟨by simp, h⟩) .inr) (ints_reps xs)) .nil), rfl, ?_⟩
  rw [h1]
  intro A' σ' H' ho l p np
  obtain ⟨sa, hp⟩ := own_at (i := 1) l ho rfl
  obtain ⟨ys, vs, o1, o2, o3, o4⟩ := l.owns _ hp
  dsimp only at o1 o2 o3
  rw [h2] at o1
  cases o1
  have ev := reps_ints o4
  subst ev
  refine ⟨_, o2, ?_⟩
  have l2 := l.grow (o := .dK []) np
  refine ⟨[], [], H, A', env, (), _, (), l2, ho, h3, fun ga zs us H2 eq l3 ev3 na hga rs => ?_⟩
  cases eq
  have ev := reps_ints rs
  subst ev
  have pH2 : H2 p = some (.dK []) := ev3.at_ (by simp) upd_same
  have ne1 : p ≠ sa := fun z => by rw [z, o3] at np; cases np
  have ne2 : p ≠ ga := fun z => by rw [← z, upd_same] at na; cases na
  have ne3 : sa ≠ ga := fun z => by
    rw [← z, upd_ne (fun q => ne1 q.symm), o3] at na; cases na
  have sa2 : H2 sa = some (.lst (small.map V.int)) := ev3.at_ (by simp) (by rw [upd_ne (fun q => ne1 q.symm)]; exact o3)
  refine ⟨pH2, [(.inr "small", .ref sa), (.inr "great", .ref ga), (.inr "spot", .int 0)], rfl, by show 3 ≤ 15; decide, ?_⟩
  have em : mergeK [] [((.inr "small" : Key), V.ref sa), (.inr "great", .ref ga), (.inr "spot", .int 0)] = [(.inr "small", .ref sa), (.inr "great", .ref ga), (.inr "spot", .int 0)] := by
    unfold mergeK putK
    simp only [List.foldl_cons, List.foldl_nil, List.any_nil, List.any_cons]
    rfl
  rw [em]
  refine hq p sa ga _ ⟨rfl, ?_, upd_same, ?_, ?_, by show 3 < 100; decide, ?_⟩
  · show [p, sa, ga].Nodup
    simp [ne1, ne2, ne3]
  · intro x c ws hl
    unfold rwOf at hl
    simp only [List.lookup_cons] at hl
    split at hl
    · cases hl
      rw [upd_ne (fun q => ne1 q.symm)]
      exact sa2
    · split at hl
      · cases hl
        rw [upd_ne (fun q => ne2 q.symm)]
        exact hga
      · split at hl
        · cases hl
        · cases hl
  · intro c hc
    have hc' : c ∈ [sa, ga] := hc
    rcases List.mem_cons.mp hc' with z | z
    · subst z
      rw [upd_ne (fun q => ne1 q.symm), sa2]; simp
    · rcases List.mem_cons.mp z with z | z
      · subst z
        rw [upd_ne (fun q => ne2 q.symm), hga]; simp
      · cases z
  · show (["small", "great", "spot"] : List Str).Nodup
    decide
end DL
end
section
set_option Elab.async false
set_option linter.all false
set_option maxRecDepth 100000
set_option maxHeartbeats 2000000
/-! The head's facts with own exception classes: what a Bool over the part of the heap says. -/
namespace Hq
open PySem PySem.Spec PyProof.Rows L2 DL He
/-- an own __init__ that calls super's: where, as what -/
structure SuD where
  cls : Str
  qual : Str
  params : Arguments
  body : List Stmt
  scope : Scope
abbrev SuV : Type := Option (Str × Str × Arguments × FuncBody × Scope × Addr × Value × Addr)
def suV (K : PySem.W.Frag) (f : Addr) : SuV := match K.lookup f with
  | some ⟨_, _, .func fd, _⟩ => some (fd.name, fd.qualname, fd.params, fd.body, fd.scope, fd.globals, fd.defaults, fd.builtins)
  | _ => none
def asQ (g : Addr → Option Obj) : Nat → List Addr
  | 0 => [mainGlobals, cStatics]
  | n + 1 => growD g (asQ g n)
def SuD.val (d : SuD) : SuV := some (("__init__" : Str), d.qual, d.params, FuncBody.stmts d.body, d.scope, mainGlobals, Value.none, builtinsNs)
abbrev AlQ : Type := (Bool × List SuV) × AlD
def obsQ (fa : List Fa) (fn : List DefD) (su : List SuD) (ex : PySem.W.Frag → Bool) (K : PySem.W.Frag) : AlQ := ((ex K, su.map fun d => suV K (ma K (ga K d.cls) "__init__")), obsD fa fn K)
def valQ (fn : List DefD) (su : List SuD) : AlQ := ((true, su.map SuD.val), valD fn)
structure SaysQ (fa : List Fa) (fn : List DefD) (su : List SuD) (ex : PySem.W.Frag → Bool) (K : PySem.W.Frag) : Prop where
  ex : ex K = true
  su : su.map (fun d => suV K (ma K (ga K d.cls) "__init__")) = su.map SuD.val
  d : SaysD fa fn K
theorem SaysQ.su_ {fa : List Fa} {fn : List DefD} {su : List SuD} {ex : PySem.W.Frag → Bool} {K : PySem.W.Frag} (c : SaysQ fa fn su ex K) (i : Nat) {d : SuD} (h : su[i]? = some d := by rfl) : suV K (ma K (ga K d.cls) "__init__") = d.val := by
  have e2 : (su.map fun d => suV K (ma K (ga K d.cls) "__init__"))[i]? = (su.map SuD.val)[i]? := by rw [c.su]
  rw [List.getElem?_map, List.getElem?_map, h] at e2
  exact Option.some.inj e2
def obsQG (n : Nat) (fa : List Fa) (fn : List DefD) (su : List SuD) (ex : PySem.W.Frag → Bool) (g : Addr → Option Obj) : AlQ := obsQ fa fn su ex (frG g (asQ g n))
def hookQ (n : Nat) (fa : List Fa) (fn : List DefD) (su : List SuD) (ex : PySem.W.Frag → Bool) : PySem.W.Hook where
  α := AlQ
  obs := fun s => obsQG n fa fn su ex s.heap.get?
  val := fun _ => valQ fn su
  says := fun _ h => ∃ K : PySem.W.Frag, K.In h ∧ SaysQ fa fn su ex K
  of := fun _ _ e => ⟨_, frG_in, congrArg (fun z : AlQ => z.1.1) e, congrArg (fun z : AlQ => z.1.2) e, congrArg (fun z : AlQ => z.2) e⟩
  keeps := fun _ _ _ ⟨K, hK, c⟩ k => ⟨K, PySem.W.Frag.In.keeps hK k, c⟩
theorem obsQG_eq {n : Nat} {fa : List Fa} {fn : List DefD} {su : List SuD} {ex : PySem.W.Frag → Bool} {g : Addr → Option Obj} {s : Shared} (h : ∀ a, g a = s.heap.get? a) : obsQG n fa fn su ex g = (hookQ n fa fn su ex).obs s := by
  have e : g = s.heap.get? := funext h
  rw [e] <;> rfl
def oexB (K : PySem.W.Frag) (C : Addr) : Bool := (match K.lookup C with
    | some ⟨.type "type", _, .cls cd, sl⟩ => (match cd.mro, sl.toList with
      | .ref C' :: bm, [_, _, _, _, some (.builtin n), _] => C' == C && n == "ValueError.__new__" && !cd.hasDel && cd.hasDict && PySem.HandSPX.refsVE bm
      | _, _ => false)
    | _ => false) && (eqO (PySem.W.findIn K (.ref C) "__setattr__") (some (some (.builtin "object.__setattr__"))) && (decide (PySem.W.subIn K (.ref C) (.type "BaseException") = some true) &&
    (decide (PySem.W.typeIn K (.ref C) = some (.type "type")) && PySem.W.keepIn K (.ref C))))
theorem oexB_ok {K : PySem.W.Frag} {C : Addr} (h : oexB K C = true) : OexC K C := by
  obtain ⟨q, h⟩ := ba h
  obtain ⟨h1, h⟩ := ba h
  obtain ⟨h2, h⟩ := ba h
  obtain ⟨h3, h4⟩ := ba h
  refine ⟨?_, eqO_ok h1, of_decide_eq_true h2, of_decide_eq_true h3, h4⟩
  split at q
  · rename_i dd cd sl ho
    split at q
    · rename_i C' bm k0 k1 k2 k3 n k5 hm hs
      simp only [Bool.and_eq_true, beq_iff_eq, Bool.not_eq_true'] at q
      obtain ⟨⟨⟨⟨rfl, rfl⟩, hdel⟩, hdict⟩, hr⟩ := q
      obtain ⟨nm, bs, mro, ns, qn, hd, sn, sub, ab, col, del⟩ := cd
      dsimp only at hm hdel hdict
      subst hm hdel hdict
      have hsl : sl = #[k0, k1, k2, k3, some (.builtin "ValueError.__new__"), k5] := by
        obtain ⟨l⟩ := sl
        simp only at hs
        rw [hs]
      subst hsl
      exact ⟨nm, qn, ns, bs, bm, sn, sub, ab, col, dd, k0, k1, k2, k3, k5, ho, hr⟩
    · cases q
  · cases q
def supB (prog : Program) (K : PySem.W.Frag) (C f : Addr) : Bool := (match K.lookup f with
    | some ⟨_, _, .func fd, _⟩ => (match fd.code, fd.closure with
      | .ref cda, [(x, cc)] => decide (x = "__class__") && (PySem.W.codeIn K (.ref cda) fd.qualname && ((match K.lookup cda with
        | some ⟨_, _, .fields vs, _⟩ => (match (vs[2]? : Option Value) with
          | some (Value.str file _) => (prog.main.file : Str) == file
          | _ => false)
        | _ => false) && (match K.lookup cc with
        | some ⟨_, _, .cell (some (.ref C')), _⟩ => decide (C' = C)
        | _ => false)))
      | _, _ => false)
    | _ => false) && ((PySem.W.clsIn K C).isSome && (eqO (PySem.W.ks_superIn K C C "__init__") (some (some (.builtin "ValueError.__init__"))) && (decide (PySem.W.mroIn K C (.ref C) = some true) &&
    (decide (PySem.W.subIn K (.ref C) (.type "ValueError") = some true) && (eqO (PySem.W.nsIn K cStatics "thirdparty.any") (some none) && (eqO (PySem.W.nsIn K mainGlobals "super") (some none) && !(prog.main.scope.names.lookup ("super" : Str)).isSome))))))
theorem supB_ok {prog : Program} {K : PySem.W.Frag} {C f : Addr} {qual : Str} {params : Arguments} {body : List Stmt} {scope : Scope} (h : supB prog K C f = true)
    (e : suV K f = (some ("__init__", qual, params, FuncBody.stmts body, scope, mainGlobals, Value.none, builtinsNs) : SuV)) : ∃ fd, SupF K prog C qual params body scope f fd ∧
      ∀ ps : List Str, (∀ (kV doc pm : Value) (an : Option Addr) (cdv ct : Value) (cc : Addr) (us : List Value), us.length = ps.length → bindArgs (PySem.W.ksFn "__init__" qual params body scope .none kV doc pm an cdv ct cc) ⟨us, []⟩ = pure (ps.zip us)) → Binds K fd ps [] := by
  obtain ⟨q, h⟩ := ba h
  obtain ⟨h1, h⟩ := ba h
  obtain ⟨h2, h⟩ := ba h
  obtain ⟨h3, h⟩ := ba h
  obtain ⟨h4, h⟩ := ba h
  obtain ⟨h5, h⟩ := ba h
  obtain ⟨h6, h7⟩ := ba h
  obtain ⟨cd, hcd⟩ := Option.isSome_iff_exists.mp h1
  unfold suV at e
  cases lk : K.lookup f with
  | none => rw [lk] at e; cases e
  | some o =>
    obtain ⟨oc, od, dt, osl⟩ := o
    rw [lk] at e q
    cases dt with
    | func fd =>
      obtain ⟨n1, n2, n3, n4, n5, n6, n7, n8, n9, n10, n11, n12, n13, n14, n15⟩ := fd
      have e2 : (some (n1, n2, n3, n4, n5, n6, n8, n15) : SuV) = some (("__init__" : Str), qual, params, FuncBody.stmts body, scope, mainGlobals, Value.none, builtinsNs) := e
      simp only [Option.some.injEq, Prod.mk.injEq] at e2
      obtain ⟨g1, g2, g3, g4, g5, g6, g7, g8⟩ := e2
      subst g1 g2 g3 g4 g5 g6 g7 g8
      dsimp only at q
      split at q
      · rename_i cda x cc
        obtain ⟨k1, q⟩ := ba q
        obtain ⟨k2, q⟩ := ba q
        obtain ⟨k3, k4⟩ := ba q
        have k1' := of_decide_eq_true k1
        subst k1'
        cases lc : K.lookup cda with
        | none => rw [lc] at k3; cases k3
        | some oc2 =>
          obtain ⟨ccl, cdd, cdt, ccs⟩ := oc2
          rw [lc] at k3
          cases cdt with
          | fields vs =>
            dsimp only at k3
            split at k3
            · rename_i file tf hv
              cases ll : K.lookup cc with
              | none => rw [ll] at k4; cases k4
              | some ocl =>
                rw [ll] at k4
                split at k4
                · rename_i cl cld C' csl heq
                  cases heq
                  have k4' := of_decide_eq_true k4
                  subst k4'
                  exact ⟨_, ⟨⟨oc, od, osl, _, n9, _, _, _, _, cc, cda, ccl, cdd, vs, ccs, file, tf, cl, cld, csl, cd, rfl, lk, k2, lc, hv, k3, ll, hcd⟩, eqO_ok h2, of_decide_eq_true h3, of_decide_eq_true h4, eqO_ok h5, eqO_ok h6, by simpa using h7⟩, fun ps hb => .all (hb _ _ _ _ _ _ _)⟩
                · cases k4
            · cases k3
          | _ => cases k3
      · cases q
    | _ => cases e
end Hq
end
section
set_option Elab.async false
set_option linter.all false
set_option maxRecDepth 100000
set_option maxHeartbeats 2000000
namespace Q
open PySem PySem.Spec PyProof.Rows L2 DL
def top (i : Nat) : Stmt := PySem.Challenge.pw_nocases_k78_modules_and_nodes.main.body.getD i (.Pass ⟨0, 0, 0, 0⟩)
def fuelW : Nat := 100000

abbrev s_is_name : Stmt := top 11
abbrev s_is_node : Stmt := top 12
abbrev s_terms_of : Stmt := top 13
abbrev s_wrong_place : Stmt := top 14
abbrev s_size_and_depth : Stmt := top 15
abbrev s_need_small : Stmt := top 16
abbrev s_is_term : Stmt := top 17
abbrev s_pair_fault : Stmt := top 20
abbrev s_need_axioms : Stmt := top 21
abbrev s_is_clause : Stmt := top 29
abbrev s_is_signature : Stmt := top 30
abbrev s_is_expression : Stmt := top 31
abbrev s_inner_ones : Stmt := top 32
abbrev s_nodes_of : Stmt := top 33
abbrev s_is_definition : Stmt := top 34
abbrev s_need_signatures : Stmt := top 35
abbrev s_need_module : Stmt := top 36
abbrev s_is_module : Stmt := top 37
abbrev s_definitions_of : Stmt := top 38
abbrev s_need_definition : Stmt := top 39
abbrev s_body_nodes : Stmt := top 40
abbrev s_law_mixed : Stmt := top 42
abbrev s_law_begin : Stmt := top 43
abbrev s_law_draw : Stmt := top 44
abbrev s_law_of : Stmt := top 45
abbrev s_law_like : Stmt := top 46
abbrev s_law_term : Stmt := top 47
abbrev s_law_pairs : Stmt := top 48
abbrev s_law_expression : Stmt := top 49
abbrev s_law_signature : Stmt := top 50
abbrev s_law_module : Stmt := top 51
abbrev s_law_sign : Stmt := top 52
abbrev s_law_nodes : Stmt := top 53
abbrev s_law_refused : Stmt := top 54
abbrev s_law_axioms_refused : Stmt := top 55
abbrev s_law_bent_bodies : Stmt := top 56
abbrev s_law_bent_signs : Stmt := top 57
abbrev s_law_module_right : Stmt := top 58
abbrev s_law_long_body : Stmt := top 59
abbrev s_law_sizes_right : Stmt := top 60
abbrev s_law : Stmt := top 61
theorem bl_len : bootBuiltins "len" = some (.builtin "len") := by decide +kernel
theorem bl_isinstance : bootBuiltins "isinstance" = some (.builtin "isinstance") := by decide +kernel
theorem bl_all : bootBuiltins "all" = some (.builtin "all") := by decide +kernel
theorem bl_any : bootBuiltins "any" = some (.builtin "any") := by decide +kernel
theorem bl_int : bootBuiltins "int" = some (.type "int") := by decide +kernel
theorem bl_tuple : bootBuiltins "tuple" = some (.type "tuple") := by decide +kernel
theorem bl_list : bootBuiltins "list" = some (.type "list") := by decide +kernel
theorem bl_max : bootBuiltins "max" = some (.builtin "max") := by decide +kernel
theorem bl_str : bootBuiltins "str" = some (.type "str") := by decide +kernel
theorem bl_bool : bootBuiltins "bool" = some (.type "bool") := by decide +kernel
structure Top (K : PySem.W.Frag) (P : Program) (w : World) (mg : Str → Option Value) (base : Heap) (cl : Str → Addr) : Prop where
  x_BadAxioms : ExcC K P w mg base cl "BadAxioms" "place"
  x_BadModule : ExcC K P w mg base cl "BadModule" "place"
  m_BadAxioms_BadAxioms : PySem.W.exmOne K (.ref (cl "BadAxioms")) (.ref (cl "BadAxioms")) = some true
  m_BadModule_BadModule : PySem.W.exmOne K (.ref (cl "BadModule")) (.ref (cl "BadModule")) = some true
  m_BadModule_CaseError : PySem.W.exmOne K (.ref (cl "BadModule")) (.ref (cl "CaseError")) = some true
  g_CaseError : mg "CaseError" = some (.ref (cl "CaseError"))
  b_len : mg "len" = none
  b_isinstance : mg "isinstance" = none
  b_all : mg "all" = none
  b_any : mg "any" = none
  b_int : mg "int" = none
  b_tuple : mg "tuple" = none
  b_list : mg "list" = none
  b_max : mg "max" = none
  b_range : mg "range" = none
  b_enumerate : mg "enumerate" = none
  b_zip : mg "zip" = none
  b_str : mg "str" = none
  b_bool : mg "bool" = none
  c_SMALL_LETTERS : ∃ t, mg "SMALL_LETTERS" = some (.str "abcdefghijklmnopqrstuvwxyz" t)
  c_WORDS : ∃ a, mg "WORDS" = some (.ref a) ∧ ∀ H B, Rep K H B (.tup [(.str "and"), (.str "or"), (.str "not"), (.str "yes"), (.str "no")]) (.ref a)
  c_MOST_NAME : ∃ t, mg "MOST_NAME" = some (.int 8 t)
  c_MOST_DEEP : ∃ t, mg "MOST_DEEP" = some (.int 40 t)
  c_MOST_SIZE : ∃ t, mg "MOST_SIZE" = some (.int 2000 t)
  c_MOST_AXIOMS : ∃ t, mg "MOST_AXIOMS" = some (.int 400 t)
  c_MOST_CLAUSES : ∃ t, mg "MOST_CLAUSES" = some (.int 4 t)
  c_MOST_FURTHER : ∃ t, mg "MOST_FURTHER" = some (.int 2 t)
  c_MOST_LISTED : ∃ t, mg "MOST_LISTED" = some (.int 12 t)
  c_MOST_NODES : ∃ t, mg "MOST_NODES" = some (.int 60 t)
  f_is_name : ∃ f fd, FunD K "is_name" "is_name" (defArgs s_is_name) (defBody s_is_name) (defScope s_is_name) [] [] f fd ∧ mg "is_name" = some (.ref f)
  f_is_node : ∃ f fd, FunD K "is_node" "is_node" (defArgs s_is_node) (defBody s_is_node) (defScope s_is_node) [] [] f fd ∧ mg "is_node" = some (.ref f)
  f_terms_of : ∃ f fd, FunD K "terms_of" "terms_of" (defArgs s_terms_of) (defBody s_terms_of) (defScope s_terms_of) [] [] f fd ∧ mg "terms_of" = some (.ref f)
  f_wrong_place : ∃ f fd, FunD K "wrong_place" "wrong_place" (defArgs s_wrong_place) (defBody s_wrong_place) (defScope s_wrong_place) [] [] f fd ∧ mg "wrong_place" = some (.ref f)
  f_size_and_depth : ∃ f fd, FunD K "size_and_depth" "size_and_depth" (defArgs s_size_and_depth) (defBody s_size_and_depth) (defScope s_size_and_depth) [] [] f fd ∧ mg "size_and_depth" = some (.ref f)
  f_need_small : ∃ f fd, FunD K "need_small" "need_small" (defArgs s_need_small) (defBody s_need_small) (defScope s_need_small) [] [] f fd ∧ mg "need_small" = some (.ref f)
  f_is_term : ∃ f fd, FunD K "is_term" "is_term" (defArgs s_is_term) (defBody s_is_term) (defScope s_is_term) [] [] f fd ∧ mg "is_term" = some (.ref f)
  f_pair_fault : ∃ f fd, FunD K "pair_fault" "pair_fault" (defArgs s_pair_fault) (defBody s_pair_fault) (defScope s_pair_fault) [] [] f fd ∧ mg "pair_fault" = some (.ref f)
  f_need_axioms : ∃ f fd, FunD K "need_axioms" "need_axioms" (defArgs s_need_axioms) (defBody s_need_axioms) (defScope s_need_axioms) [] [] f fd ∧ mg "need_axioms" = some (.ref f)
  f_is_clause : ∃ f fd, FunD K "is_clause" "is_clause" (defArgs s_is_clause) (defBody s_is_clause) (defScope s_is_clause) [] [] f fd ∧ mg "is_clause" = some (.ref f)
  f_is_signature : ∃ f fd, FunD K "is_signature" "is_signature" (defArgs s_is_signature) (defBody s_is_signature) (defScope s_is_signature) [] [] f fd ∧ mg "is_signature" = some (.ref f)
  f_is_expression : ∃ f fd, FunD K "is_expression" "is_expression" (defArgs s_is_expression) (defBody s_is_expression) (defScope s_is_expression) [] [] f fd ∧ mg "is_expression" = some (.ref f)
  f_inner_ones : ∃ f fd, FunD K "inner_ones" "inner_ones" (defArgs s_inner_ones) (defBody s_inner_ones) (defScope s_inner_ones) [] [] f fd ∧ mg "inner_ones" = some (.ref f)
  f_nodes_of : ∃ f fd, FunD K "nodes_of" "nodes_of" (defArgs s_nodes_of) (defBody s_nodes_of) (defScope s_nodes_of) [] [] f fd ∧ mg "nodes_of" = some (.ref f)
  f_is_definition : ∃ f fd, FunD K "is_definition" "is_definition" (defArgs s_is_definition) (defBody s_is_definition) (defScope s_is_definition) [] [] f fd ∧ mg "is_definition" = some (.ref f)
  f_need_signatures : ∃ f fd, FunD K "need_signatures" "need_signatures" (defArgs s_need_signatures) (defBody s_need_signatures) (defScope s_need_signatures) [] [] f fd ∧ mg "need_signatures" = some (.ref f)
  f_need_module : ∃ f fd, FunD K "need_module" "need_module" (defArgs s_need_module) (defBody s_need_module) (defScope s_need_module) [] [] f fd ∧ mg "need_module" = some (.ref f)
  f_is_module : ∃ f fd, FunD K "is_module" "is_module" (defArgs s_is_module) (defBody s_is_module) (defScope s_is_module) [] [] f fd ∧ mg "is_module" = some (.ref f)
  f_definitions_of : ∃ f fd, FunD K "definitions_of" "definitions_of" (defArgs s_definitions_of) (defBody s_definitions_of) (defScope s_definitions_of) [] [] f fd ∧ mg "definitions_of" = some (.ref f)
  f_need_definition : ∃ f fd, FunD K "need_definition" "need_definition" (defArgs s_need_definition) (defBody s_need_definition) (defScope s_need_definition) [] [] f fd ∧ mg "need_definition" = some (.ref f)
  f_body_nodes : ∃ f fd, FunD K "body_nodes" "body_nodes" (defArgs s_body_nodes) (defBody s_body_nodes) (defScope s_body_nodes) [] [] f fd ∧ mg "body_nodes" = some (.ref f)
  f_law_mixed : ∃ f fd, FunD K "_law_mixed" "_law_mixed" (defArgs s_law_mixed) (defBody s_law_mixed) (defScope s_law_mixed) [] [] f fd ∧ mg "_law_mixed" = some (.ref f)
  f_law_begin : ∃ f fd, FunD K "_law_begin" "_law_begin" (defArgs s_law_begin) (defBody s_law_begin) (defScope s_law_begin) [] [] f fd ∧ mg "_law_begin" = some (.ref f)
  f_law_draw : ∃ f fd, FunD K "_law_draw" "_law_draw" (defArgs s_law_draw) (defBody s_law_draw) (defScope s_law_draw) [] [] f fd ∧ mg "_law_draw" = some (.ref f)
  f_law_of : ∃ f fd, FunD K "_law_of" "_law_of" (defArgs s_law_of) (defBody s_law_of) (defScope s_law_of) [] [] f fd ∧ mg "_law_of" = some (.ref f)
  f_law_like : ∃ f fd, FunD K "_law_like" "_law_like" (defArgs s_law_like) (defBody s_law_like) (defScope s_law_like) [] [] f fd ∧ mg "_law_like" = some (.ref f)
  f_law_term : ∃ f fd, FunD K "_law_term" "_law_term" (defArgs s_law_term) (defBody s_law_term) (defScope s_law_term) [] [] f fd ∧ mg "_law_term" = some (.ref f)
  f_law_pairs : ∃ f fd, FunD K "_law_pairs" "_law_pairs" (defArgs s_law_pairs) (defBody s_law_pairs) (defScope s_law_pairs) [] [] f fd ∧ mg "_law_pairs" = some (.ref f)
  f_law_expression : ∃ f fd, FunD K "_law_expression" "_law_expression" (defArgs s_law_expression) (defBody s_law_expression) (defScope s_law_expression) [] [] f fd ∧ mg "_law_expression" = some (.ref f)
  f_law_signature : ∃ f fd, FunD K "_law_signature" "_law_signature" (defArgs s_law_signature) (defBody s_law_signature) (defScope s_law_signature) [] [] f fd ∧ mg "_law_signature" = some (.ref f)
  f_law_module : ∃ f fd, FunD K "_law_module" "_law_module" (defArgs s_law_module) (defBody s_law_module) (defScope s_law_module) [] [] f fd ∧ mg "_law_module" = some (.ref f)
  f_law_sign : ∃ f fd, FunD K "_law_sign" "_law_sign" (defArgs s_law_sign) (defBody s_law_sign) (defScope s_law_sign) [] [] f fd ∧ mg "_law_sign" = some (.ref f)
  f_law_nodes : ∃ f fd, FunD K "_law_nodes" "_law_nodes" (defArgs s_law_nodes) (defBody s_law_nodes) (defScope s_law_nodes) [] [] f fd ∧ mg "_law_nodes" = some (.ref f)
  f_law_refused : ∃ f fd, FunD K "_law_refused" "_law_refused" (defArgs s_law_refused) (defBody s_law_refused) (defScope s_law_refused) [] [] f fd ∧ mg "_law_refused" = some (.ref f)
  f_law_axioms_refused : ∃ f fd, FunD K "_law_axioms_refused" "_law_axioms_refused" (defArgs s_law_axioms_refused) (defBody s_law_axioms_refused) (defScope s_law_axioms_refused) [] [] f fd ∧ mg "_law_axioms_refused" = some (.ref f)
  f_law_bent_bodies : ∃ f fd, FunD K "_law_bent_bodies" "_law_bent_bodies" (defArgs s_law_bent_bodies) (defBody s_law_bent_bodies) (defScope s_law_bent_bodies) [] [] f fd ∧ mg "_law_bent_bodies" = some (.ref f)
  f_law_bent_signs : ∃ f fd, FunD K "_law_bent_signs" "_law_bent_signs" (defArgs s_law_bent_signs) (defBody s_law_bent_signs) (defScope s_law_bent_signs) [] [] f fd ∧ mg "_law_bent_signs" = some (.ref f)
  f_law_module_right : ∃ f fd, FunD K "_law_module_right" "_law_module_right" (defArgs s_law_module_right) (defBody s_law_module_right) (defScope s_law_module_right) [] [] f fd ∧ mg "_law_module_right" = some (.ref f)
  f_law_long_body : ∃ f fd, FunD K "_law_long_body" "_law_long_body" (defArgs s_law_long_body) (defBody s_law_long_body) (defScope s_law_long_body) [] [] f fd ∧ mg "_law_long_body" = some (.ref f)
  f_law_sizes_right : ∃ f fd, FunD K "_law_sizes_right" "_law_sizes_right" (defArgs s_law_sizes_right) (defBody s_law_sizes_right) (defScope s_law_sizes_right) [] [] f fd ∧ mg "_law_sizes_right" = some (.ref f)
  f_law : ∃ f fd, FunD K "law" "law" (defArgs s_law) (defBody s_law) (defScope s_law) [] [] f fd ∧ mg "law" = some (.ref f)
/-! is_name -/
abbrev N_is_name : List Str := ["value", "sign"]
abbrev P_is_name : List Str := ["value"]
theorem sc_is_name : FnScope N_is_name P_is_name (defScope s_is_name) := ⟨rfl, rfl, rfl, by decide +kernel, rfl, by decide +kernel, by decide +kernel⟩
def b_is_name {ρ : Type} : SS ρ :=
  (sSeq (sIf (bOr (bNot (bOf (eUn (isiD "str") (eVar 0)))) (bOr (bNot (bChain leD leD (eC (.int 1)) (eUn lenD (eVar 0)) (eC (.int 8)))) (bOf (eBin inD (eVar 0) (eC (.tup [(.str "and"), (.str "or"), (.str "not"), (.str "yes"), (.str "no")])))))) (sRet (eC (.bl false))) sNil)
  (sRet (eUn allD (eComp (iStrD (eVar 0)) (gNm 1) bT (eBin inD (eVar 1) (eC (.str "abcdefghijklmnopqrstuvwxyz"))) [1]))))
def g_is_name {ρ : Type} : List D → ρ → Option (D × ρ) := gOf N_is_name b_is_name
theorem bd_is_name {ρ : Type} {I : Wd ρ} {K : PySem.W.Frag} {P : Program} {w : World} {mg : Str → Option Value} {base : Heap} {cl : Str → Addr} {f : Addr} (T : Top K P w mg base cl) (cdv : Value) (A : Around) (outer : List PySem.Env) (s : Shared) (H : Hp) (E : XK)
    (hr : Room (0) (A.deeper (envOfC "is_name" (defScope s_is_name) s.heap.objs.size f cdv))) : ∃ O', Bd I (cxOf CX0 P w K mg base N_is_name "is_name" (defScope s_is_name) f cdv A outer s H E).nox [] (defBody s_is_name) (b_is_name (ρ := ρ)) O' := by
  have hN := (sc_is_name).nd
  have hu : (A.deeper (envOfC "is_name" (defScope s_is_name) s.heap.objs.size f cdv)).units < cLine := hr.units0
  have hu1 : (A.deeper (envOfC "is_name" (defScope s_is_name) s.heap.objs.size f cdv)).units + 1 < cLine := by have := hr.units; omega
  obtain ⟨t_MOST_NAME, h_MOST_NAME⟩ := T.c_MOST_NAME
  obtain ⟨a_WORDS, h_WORDS, r_WORDS⟩ := T.c_WORDS
  obtain ⟨t_SMALL_LETTERS, h_SMALL_LETTERS⟩ := T.c_SMALL_LETTERS
  exact ⟨[], (bd_cons (sd_if (td_bool (wt_or (td_not (td_val (ed_isi (ed_var (i := 0)).b (by rfl) T.b_isinstance bl_isinstance (by rfl) T.b_str bl_str))) (wt_or (td_not (td_chain opd_le opd_le ed_int.b (ed_callB cd_len (ed_var (i := 0)).b (by rfl) T.b_len bl_len).b (ed_glob (v := (.int 8)) (by rfl) h_MOST_NAME ⟨_, rfl⟩ (fun _ _ => .int _)).b)) (wt_or1 (td_cmp (opd_in hu1) (ed_var (i := 0)).b (ed_glob (v := .ref a_WORDS) (by rfl) h_WORDS rfl r_WORDS).b))))) (bd_one (sd_ret ed_bl.b)) bd_nil)
  (bd_one (sd_ret (ed_callB (cd_all rfl) (Ef.d eComp_lst (ef_comp (own := [(("sign" : Str), 1)]) rfl hN (wk_str (ed_var (i := 0))) (blkOk_by (by rfl)) (fun _ _ _ _ _ => (gd_name (i := 1) hN)) (fun _ _ _ _ _ => tds_nil) (fun _ _ _ _ _ => (ed_cmp (opd_in hu1) (ed_var (i := 1)).b (ed_glob (v := (.str "abcdefghijklmnopqrstuvwxyz")) (by rfl) h_SMALL_LETTERS ⟨_, rfl⟩ (fun _ _ => .str _)).b)))).b (by rfl) T.b_all bl_all).b)))⟩
theorem ok_is_name {ρ : Type} {I : Wd ρ} {K : PySem.W.Frag} {P : Program} {w : World} {mg : Str → Option Value} {base : Heap} {cl : Str → Addr} {f : Addr} {fd : FuncData} (T : Top K P w mg base cl) (F : FunD K "is_name" "is_name" (defArgs s_is_name) (defBody s_is_name) (defScope s_is_name) [] [] f fd) : FnOk P w K mg base CX0 1 f fd P_is_name (spD I K 1 g_is_name) :=
  fnok_of (k := 0) F sc_is_name fun cdv A outer s H E hr => bd_end (bd_is_name T cdv A outer s H E hr)
theorem fn_is_name {ρ : Type} {I : Wd ρ} {K : PySem.W.Frag} {P : Program} {w : World} {mg : Str → Option Value} {base : Heap} {cl : Str → Addr} (T : Top K P w mg base cl) : Fn I K P w mg base 1 "is_name" 1 g_is_name := by
  obtain ⟨f, fd, F, hm⟩ := T.f_is_name
  exact ⟨f, fd, P_is_name, ok_is_name T F, hm, F.kp, F.bindsN (fun _ _ _ _ _ _ us hl => match us, hl with | [_], _ => rfl)⟩
/-! is_node -/
abbrev N_is_node : List Str := ["value"]
abbrev P_is_node : List Str := ["value"]
theorem sc_is_node : FnScope N_is_node P_is_node (defScope s_is_node) := ⟨rfl, rfl, rfl, by decide +kernel, rfl, by decide +kernel, by decide +kernel⟩
def b_is_node {ρ : Type} : SS ρ :=
  (sSeq (sIf (bOr (bNot (bOf (eUn (isiD "tuple") (eVar 0)))) (bOr (bOf (eBin eqD (eUn lenD (eVar 0)) (eC (.int 0)))) (bNot (bOf (eUn (isiD "str") (eBin ixD (eVar 0) (eC (.int 0)))))))) (sRet (eC (.bl false))) sNil)
  (sSeq (sIf (bOf (eBin inD (eBin ixD (eVar 0) (eC (.int 0))) (eTup (aCons (eC (.str "yes")) (aCons (eC (.str "no")) aNil))))) (sRet (eBin eqD (eUn lenD (eVar 0)) (eC (.int 1)))) sNil)
  (sSeq (sIf (bOf (eBin eqD (eBin ixD (eVar 0) (eC (.int 0))) (eC (.str "letter")))) (sRet (eIf (bOf (eBin eqD (eUn lenD (eVar 0)) (eC (.int 2)))) (eCall 1 g_is_name (aCons (eBin ixD (eVar 0) (eC (.int 1))) aNil)) (eC (.bl false)))) sNil)
  (sRet (eIf (bOf (eIf (bOf (eBin eqD (eBin ixD (eVar 0) (eC (.int 0))) (eC (.str "not")))) (eBin eqD (eUn lenD (eVar 0)) (eC (.int 2))) (eC (.bl false)))) (eC (.bl true)) (eIf (bOf (eBin inD (eBin ixD (eVar 0) (eC (.int 0))) (eTup (aCons (eC (.str "and")) (aCons (eC (.str "or")) aNil))))) (eBin eqD (eUn lenD (eVar 0)) (eC (.int 3))) (eC (.bl false))))))))
def g_is_node {ρ : Type} : List D → ρ → Option (D × ρ) := gOf N_is_node b_is_node
theorem bd_is_node {ρ : Type} {I : Wd ρ} {K : PySem.W.Frag} {P : Program} {w : World} {mg : Str → Option Value} {base : Heap} {cl : Str → Addr} {f : Addr} (T : Top K P w mg base cl) (cdv : Value) (A : Around) (outer : List PySem.Env) (s : Shared) (H : Hp) (E : XK)
    (hr : Room (1) (A.deeper (envOfC "is_node" (defScope s_is_node) s.heap.objs.size f cdv))) : ∃ O', Bd I (cxOf CX0 P w K mg base N_is_node "is_node" (defScope s_is_node) f cdv A outer s H E).nox [] (defBody s_is_node) (b_is_node (ρ := ρ)) O' := by
  have hN := (sc_is_node).nd
  have hu : (A.deeper (envOfC "is_node" (defScope s_is_node) s.heap.objs.size f cdv)).units < cLine := hr.units0
  have hu1 : (A.deeper (envOfC "is_node" (defScope s_is_node) s.heap.objs.size f cdv)).units + 1 < cLine := by have := hr.units; omega
  exact ⟨[], (bd_cons (sd_if (td_bool (wt_or (td_not (td_val (ed_isi (ed_var (i := 0)).b (by rfl) T.b_isinstance bl_isinstance (by rfl) T.b_tuple bl_tuple))) (wt_or (td_cmp (opd_eq hu) (ed_callB cd_len (ed_var (i := 0)).b (by rfl) T.b_len bl_len).b ed_int.b) (wt_or1 (td_not (td_val (ed_isi (ed_ix (ed_var (i := 0)).b ed_int.b).b (by rfl) T.b_isinstance bl_isinstance (by rfl) T.b_str bl_str))))))) (bd_one (sd_ret ed_bl.b)) bd_nil)
  (bd_cons (sd_if (td_cmp (opd_in hu1) (ed_ix (ed_var (i := 0)).b ed_int.b).b (ed_tup (ad_cons ed_str (ad_cons ed_str ad_nil))).b) (bd_one (sd_ret (ed_cmp (opd_eq hu) (ed_callB cd_len (ed_var (i := 0)).b (by rfl) T.b_len bl_len).b ed_int.b).b)) bd_nil)
  (bd_cons (sd_if (td_cmp (opd_eq hu) (ed_ix (ed_var (i := 0)).b ed_int.b).b ed_str.b) (bd_one (sd_ret (ed_and (ed_cmp (opd_eq hu) (ed_callB cd_len (ed_var (i := 0)).b (by rfl) T.b_len bl_len).b ed_int.b) (ed_one (ed_call (Fn.mono (fn_is_name T) (by decide)) hr (ad_cons (ed_ix (ed_var (i := 0)).b ed_int.b) ad_nil)))).b)) bd_nil)
  (bd_one (sd_ret (ed_or (ed_and (ed_cmp (opd_eq hu) (ed_ix (ed_var (i := 0)).b ed_int.b).b ed_str.b) (ed_one (ed_cmp (opd_eq hu) (ed_callB cd_len (ed_var (i := 0)).b (by rfl) T.b_len bl_len).b ed_int.b))) (ed_one (ed_and (ed_cmp (opd_in hu1) (ed_ix (ed_var (i := 0)).b ed_int.b).b (ed_tup (ad_cons ed_str (ad_cons ed_str ad_nil))).b) (ed_one (ed_cmp (opd_eq hu) (ed_callB cd_len (ed_var (i := 0)).b (by rfl) T.b_len bl_len).b ed_int.b))))).b)))))⟩
theorem ok_is_node {ρ : Type} {I : Wd ρ} {K : PySem.W.Frag} {P : Program} {w : World} {mg : Str → Option Value} {base : Heap} {cl : Str → Addr} {f : Addr} {fd : FuncData} (T : Top K P w mg base cl) (F : FunD K "is_node" "is_node" (defArgs s_is_node) (defBody s_is_node) (defScope s_is_node) [] [] f fd) : FnOk P w K mg base CX0 2 f fd P_is_node (spD I K 1 g_is_node) :=
  fnok_of (k := 1) F sc_is_node fun cdv A outer s H E hr => bd_end (bd_is_node T cdv A outer s H E hr)
theorem fn_is_node {ρ : Type} {I : Wd ρ} {K : PySem.W.Frag} {P : Program} {w : World} {mg : Str → Option Value} {base : Heap} {cl : Str → Addr} (T : Top K P w mg base cl) : Fn I K P w mg base 2 "is_node" 1 g_is_node := by
  obtain ⟨f, fd, F, hm⟩ := T.f_is_node
  exact ⟨f, fd, P_is_node, ok_is_node T F, hm, F.kp, F.bindsN (fun _ _ _ _ _ _ us hl => match us, hl with | [_], _ => rfl)⟩
/-! terms_of -/
abbrev N_terms_of : List Str := ["term"]
abbrev P_terms_of : List Str := ["term"]
theorem sc_terms_of : FnScope N_terms_of P_terms_of (defScope s_terms_of) := ⟨rfl, rfl, rfl, by decide +kernel, rfl, by decide +kernel, by decide +kernel⟩
def b_terms_of {ρ : Type} : SS ρ :=
  (sRet (eIf (bOf (eBin inD (eBin ixD (eVar 0) (eC (.int 0))) (eTup (aCons (eC (.str "not")) (aCons (eC (.str "and")) (aCons (eC (.str "or")) aNil)))))) (eSl (eVar 0) (oSome (eC (.int 1))) oNone) (eTup aNil)))
def g_terms_of {ρ : Type} : List D → ρ → Option (D × ρ) := gOf N_terms_of b_terms_of
theorem bd_terms_of {ρ : Type} {I : Wd ρ} {K : PySem.W.Frag} {P : Program} {w : World} {mg : Str → Option Value} {base : Heap} {cl : Str → Addr} {f : Addr} (T : Top K P w mg base cl) (cdv : Value) (A : Around) (outer : List PySem.Env) (s : Shared) (H : Hp) (E : XK)
    (hr : Room (0) (A.deeper (envOfC "terms_of" (defScope s_terms_of) s.heap.objs.size f cdv))) : ∃ O', Bd I (cxOf CX0 P w K mg base N_terms_of "terms_of" (defScope s_terms_of) f cdv A outer s H E).nox [] (defBody s_terms_of) (b_terms_of (ρ := ρ)) O' := by
  have hN := (sc_terms_of).nd
  have hu : (A.deeper (envOfC "terms_of" (defScope s_terms_of) s.heap.objs.size f cdv)).units < cLine := hr.units0
  have hu1 : (A.deeper (envOfC "terms_of" (defScope s_terms_of) s.heap.objs.size f cdv)).units + 1 < cLine := by have := hr.units; omega
  exact ⟨[], (bd_one (sd_ret (ed_if (td_cmp (opd_in hu1) (ed_ix (ed_var (i := 0)).b ed_int.b).b (ed_tup (ad_cons ed_str (ad_cons ed_str (ad_cons ed_str ad_nil)))).b) (ed_sl (ed_var (i := 0)).b (od_some ed_int) od_none) (ed_tup ad_nil)).b))⟩
theorem ok_terms_of {ρ : Type} {I : Wd ρ} {K : PySem.W.Frag} {P : Program} {w : World} {mg : Str → Option Value} {base : Heap} {cl : Str → Addr} {f : Addr} {fd : FuncData} (T : Top K P w mg base cl) (F : FunD K "terms_of" "terms_of" (defArgs s_terms_of) (defBody s_terms_of) (defScope s_terms_of) [] [] f fd) : FnOk P w K mg base CX0 1 f fd P_terms_of (spD I K 1 g_terms_of) :=
  fnok_of (k := 0) F sc_terms_of fun cdv A outer s H E hr => bd_end (bd_terms_of T cdv A outer s H E hr)
theorem fn_terms_of {ρ : Type} {I : Wd ρ} {K : PySem.W.Frag} {P : Program} {w : World} {mg : Str → Option Value} {base : Heap} {cl : Str → Addr} (T : Top K P w mg base cl) : Fn I K P w mg base 1 "terms_of" 1 g_terms_of := by
  obtain ⟨f, fd, F, hm⟩ := T.f_terms_of
  exact ⟨f, fd, P_terms_of, ok_terms_of T F, hm, F.kp, F.bindsN (fun _ _ _ _ _ _ us hl => match us, hl with | [_], _ => rfl)⟩
/-! wrong_place -/
abbrev N_wrong_place : List Str := ["value", "waiting", "here", "place", "inner", "number"]
abbrev P_wrong_place : List Str := ["value"]
theorem sc_wrong_place : FnScope N_wrong_place P_wrong_place (defScope s_wrong_place) := ⟨rfl, rfl, rfl, by decide +kernel, rfl, by decide +kernel, by decide +kernel⟩
def b_wrong_place {ρ : Type} : SS ρ :=
  (sSeq (sOwn 1 (eLst (aCons (eTup (aCons (eVar 0) (aCons (eTup aNil) aNil))) aNil)))
  (sSeq (sWhile (bOf (eBin neD (eVar 1) (eLst aNil))) (sSeq (sPop 1 (gTp (gC (gNm 2) (gC (gNm 3) gN))))
  (sSeq (sIf (bNot (bOf (eCall 1 g_is_node (aCons (eVar 2) aNil)))) (sRet (eVar 3)) sNil)
  (sSeq (sAsg (eCall 1 g_terms_of (aCons (eVar 2) aNil)) (gNm 4))
  (sFor (iRng rng3B (aCons (eBin subD (eUn lenD (eVar 4)) (eC (.int 1))) (aCons (eC (.int (-1))) (aCons (eC (.int (-1))) aNil)))) (gNm 5) (sApp 1 (eTup (aCons (eBin ixD (eVar 4) (eVar 5)) (aCons (eBin addD (eVar 3) (eTup (aCons (eVar 5) aNil))) aNil)))))))) fuelW)
  (sRet (eC .non))))
def g_wrong_place {ρ : Type} : List D → ρ → Option (D × ρ) := gOf N_wrong_place b_wrong_place
theorem bd_wrong_place {ρ : Type} {I : Wd ρ} {K : PySem.W.Frag} {P : Program} {w : World} {mg : Str → Option Value} {base : Heap} {cl : Str → Addr} {f : Addr} (T : Top K P w mg base cl) (cdv : Value) (A : Around) (outer : List PySem.Env) (s : Shared) (H : Hp) (E : XK)
    (hr : Room (2) (A.deeper (envOfC "wrong_place" (defScope s_wrong_place) s.heap.objs.size f cdv))) : ∃ O', Bd I (cxOf CX0 P w K mg base N_wrong_place "wrong_place" (defScope s_wrong_place) f cdv A outer s H E).nox [] (defBody s_wrong_place) (b_wrong_place (ρ := ρ)) O' := by
  have hN := (sc_wrong_place).nd
  have hu : (A.deeper (envOfC "wrong_place" (defScope s_wrong_place) s.heap.objs.size f cdv)).units < cLine := hr.units0
  have hu1 : (A.deeper (envOfC "wrong_place" (defScope s_wrong_place) s.heap.objs.size f cdv)).units + 1 < cLine := by have := hr.units; omega
  exact ⟨[], (bd_cons (sd_own (i := 1) hN (ef_lst (ad_cons (ed_tup (ad_cons (ed_var (i := 0)) (ad_cons (ed_tup ad_nil) ad_nil))) ad_nil)) eLst_lst)
  (bd_cons (sd_while fuelW PassesOwn.never (td_cmp (opd_ne hu) (eb_var (i := 1)) (ed_lst ad_nil).b) (bd_cons (sd_pop (i := 1) (gd_tup rfl (gds_cons (gd_name (i := 2) hN) (gds_cons (gd_name (i := 3) hN) gds_nil))))
  (bd_cons (sd_if (td_not (td_val (ed_call (Fn.mono (fn_is_node T) (by decide)) hr (ad_cons (ed_var (i := 2)) ad_nil)))) (bd_one (sd_ret (ed_var (i := 3)).b)) bd_nil)
  (bd_cons (sd_asg (ed_call (Fn.mono (fn_terms_of T) (by decide)) hr (ad_cons (ed_var (i := 2)) ad_nil)) (gd_name (i := 4) hN))
  (bd_one (sd_for PassesOwn.never rfl (wk_range3 (by rfl) T.b_range (ad_cons (ed_op opd_sub (ed_callB cd_len (ed_var (i := 4)).b (by rfl) T.b_len bl_len).b ed_int.b) (ad_cons ed_negc (ad_cons ed_negc ad_nil)))) (gd_name (i := 5) hN) (bd_one (sd_app (i := 1) (ed_tup (ad_cons (ed_ix (ed_var (i := 4)).b (ed_var (i := 5)).b) (ad_cons (ed_op opd_add (ed_var (i := 3)).b (ed_tup (ad_cons (ed_var (i := 5)) ad_nil)).b) ad_nil)))))))))))
  (bd_one (sd_ret ed_non.b))))⟩
theorem ok_wrong_place {ρ : Type} {I : Wd ρ} {K : PySem.W.Frag} {P : Program} {w : World} {mg : Str → Option Value} {base : Heap} {cl : Str → Addr} {f : Addr} {fd : FuncData} (T : Top K P w mg base cl) (F : FunD K "wrong_place" "wrong_place" (defArgs s_wrong_place) (defBody s_wrong_place) (defScope s_wrong_place) [] [] f fd) : FnOk P w K mg base CX0 3 f fd P_wrong_place (spD I K 1 g_wrong_place) :=
  fnok_of (k := 2) F sc_wrong_place fun cdv A outer s H E hr => bd_end (bd_wrong_place T cdv A outer s H E hr)
theorem fn_wrong_place {ρ : Type} {I : Wd ρ} {K : PySem.W.Frag} {P : Program} {w : World} {mg : Str → Option Value} {base : Heap} {cl : Str → Addr} (T : Top K P w mg base cl) : Fn I K P w mg base 3 "wrong_place" 1 g_wrong_place := by
  obtain ⟨f, fd, F, hm⟩ := T.f_wrong_place
  exact ⟨f, fd, P_wrong_place, ok_wrong_place T F, hm, F.kp, F.bindsN (fun _ _ _ _ _ _ us hl => match us, hl with | [_], _ => rfl)⟩
/-! size_and_depth -/
abbrev N_size_and_depth : List Str := ["term", "size", "deep", "waiting", "here", "at", "inner"]
abbrev P_size_and_depth : List Str := ["term"]
theorem sc_size_and_depth : FnScope N_size_and_depth P_size_and_depth (defScope s_size_and_depth) := ⟨rfl, rfl, rfl, by decide +kernel, rfl, by decide +kernel, by decide +kernel⟩
def b_size_and_depth {ρ : Type} : SS ρ :=
  (sSeq (sPar [1, 2, 3] (aCons (eC (.int 0)) (aCons (eC (.int 0)) (aCons (eLst (aCons (eTup (aCons (eVar 0) (aCons (eC (.int 0)) aNil))) aNil)) aNil))))
  (sSeq (sWhile (bOf (eBin neD (eVar 3) (eLst aNil))) (sSeq (sPop 3 (gTp (gC (gNm 4) (gC (gNm 5) gN))))
  (sSeq (sPar [1, 2] (aCons (eBin addD (eVar 1) (eC (.int 1))) (aCons (eBin maxD (eVar 2) (eVar 5)) aNil)))
  (sExt 3 (eComp (iSeqD (eCall 1 g_terms_of (aCons (eVar 4) aNil))) (gNm 6) bT (eTup (aCons (eVar 6) (aCons (eBin addD (eVar 5) (eC (.int 1))) aNil))) [6])))) fuelW)
  (sRet (eTup (aCons (eVar 1) (aCons (eVar 2) aNil))))))
def g_size_and_depth {ρ : Type} : List D → ρ → Option (D × ρ) := gOf N_size_and_depth b_size_and_depth
theorem bd_size_and_depth {ρ : Type} {I : Wd ρ} {K : PySem.W.Frag} {P : Program} {w : World} {mg : Str → Option Value} {base : Heap} {cl : Str → Addr} {f : Addr} (T : Top K P w mg base cl) (cdv : Value) (A : Around) (outer : List PySem.Env) (s : Shared) (H : Hp) (E : XK)
    (hr : Room (1) (A.deeper (envOfC "size_and_depth" (defScope s_size_and_depth) s.heap.objs.size f cdv))) : ∃ O', Bd I (cxOf CX0 P w K mg base N_size_and_depth "size_and_depth" (defScope s_size_and_depth) f cdv A outer s H E).nox [] (defBody s_size_and_depth) (b_size_and_depth (ρ := ρ)) O' := by
  have hN := (sc_size_and_depth).nd
  have hu : (A.deeper (envOfC "size_and_depth" (defScope s_size_and_depth) s.heap.objs.size f cdv)).units < cLine := hr.units0
  have hu1 : (A.deeper (envOfC "size_and_depth" (defScope s_size_and_depth) s.heap.objs.size f cdv)).units + 1 < cLine := by have := hr.units; omega
  exact ⟨[], (bd_cons (sd_par3 (i := 1) (j := 2) (m := 3) rfl hN (pd_d ed_int (pd_d ed_int (pd_f eLst_lst (ef_lst (ad_cons (ed_tup (ad_cons (ed_var (i := 0)) (ad_cons ed_int ad_nil))) ad_nil)) pd_nil))))
  (bd_cons (sd_while fuelW PassesOwn.never (td_cmp (opd_ne hu) (eb_var (i := 3)) (ed_lst ad_nil).b) (bd_cons (sd_pop (i := 3) (gd_tup rfl (gds_cons (gd_name (i := 4) hN) (gds_cons (gd_name (i := 5) hN) gds_nil))))
  (bd_cons (sd_par2 (i := 1) (j := 2) rfl hN (pd_d (ed_op opd_add (ed_var (i := 1)).b ed_int.b) (pd_d (ed_callB2 (cd_max rfl) (ed_var (i := 2)).b (ed_var (i := 5)).b (by rfl) T.b_max bl_max) pd_nil)))
  (bd_one (sd_ext (i := 3) (Ef.d eComp_lst (ef_comp (own := [(("inner" : Str), 6)]) rfl hN (wk_seq (ed_call (Fn.mono (fn_terms_of T) (by decide)) hr (ad_cons (ed_var (i := 4)) ad_nil))) (blkOk_by (by rfl)) (fun _ _ _ _ _ => (gd_name (i := 6) hN)) (fun _ _ _ _ _ => tds_nil) (fun _ _ _ _ _ => (ed_tup (ad_cons (ed_var (i := 6)) (ad_cons (ed_op opd_add (ed_var (i := 5)).b ed_int.b) ad_nil)))))))))))
  (bd_one (sd_ret (ed_tup (ad_cons (ed_var (i := 1)) (ad_cons (ed_var (i := 2)) ad_nil))).b))))⟩
theorem ok_size_and_depth {ρ : Type} {I : Wd ρ} {K : PySem.W.Frag} {P : Program} {w : World} {mg : Str → Option Value} {base : Heap} {cl : Str → Addr} {f : Addr} {fd : FuncData} (T : Top K P w mg base cl) (F : FunD K "size_and_depth" "size_and_depth" (defArgs s_size_and_depth) (defBody s_size_and_depth) (defScope s_size_and_depth) [] [] f fd) : FnOk P w K mg base CX0 2 f fd P_size_and_depth (spD I K 1 g_size_and_depth) :=
  fnok_of (k := 1) F sc_size_and_depth fun cdv A outer s H E hr => bd_end (bd_size_and_depth T cdv A outer s H E hr)
theorem fn_size_and_depth {ρ : Type} {I : Wd ρ} {K : PySem.W.Frag} {P : Program} {w : World} {mg : Str → Option Value} {base : Heap} {cl : Str → Addr} (T : Top K P w mg base cl) : Fn I K P w mg base 2 "size_and_depth" 1 g_size_and_depth := by
  obtain ⟨f, fd, F, hm⟩ := T.f_size_and_depth
  exact ⟨f, fd, P_size_and_depth, ok_size_and_depth T F, hm, F.kp, F.bindsN (fun _ _ _ _ _ _ us hl => match us, hl with | [_], _ => rfl)⟩
/-! need_small -/
abbrev N_need_small : List Str := ["size", "deep"]
abbrev P_need_small : List Str := ["size", "deep"]
theorem sc_need_small : FnScope N_need_small P_need_small (defScope s_need_small) := ⟨rfl, rfl, rfl, by decide +kernel, rfl, by decide +kernel, by decide +kernel⟩
def b_need_small {ρ : Type} : SS ρ :=
  (sSeq (sIf (bOf (eBin gtD (eVar 1) (eC (.int 40)))) sNever sNil)
  (sIf (bOf (eBin gtD (eVar 0) (eC (.int 2000)))) sNever sNil))
def g_need_small {ρ : Type} : List D → ρ → Option (D × ρ) := gOf N_need_small b_need_small
theorem bd_need_small {ρ : Type} {I : Wd ρ} {K : PySem.W.Frag} {P : Program} {w : World} {mg : Str → Option Value} {base : Heap} {cl : Str → Addr} {f : Addr} (T : Top K P w mg base cl) (cdv : Value) (A : Around) (outer : List PySem.Env) (s : Shared) (H : Hp) (E : XK)
    (hr : Room (0) (A.deeper (envOfC "need_small" (defScope s_need_small) s.heap.objs.size f cdv))) : ∃ O', Bd I (cxOf CX0 P w K mg base N_need_small "need_small" (defScope s_need_small) f cdv A outer s H E).nox [] (defBody s_need_small) (b_need_small (ρ := ρ)) O' := by
  have hN := (sc_need_small).nd
  have hu : (A.deeper (envOfC "need_small" (defScope s_need_small) s.heap.objs.size f cdv)).units < cLine := hr.units0
  have hu1 : (A.deeper (envOfC "need_small" (defScope s_need_small) s.heap.objs.size f cdv)).units + 1 < cLine := by have := hr.units; omega
  obtain ⟨t_MOST_DEEP, h_MOST_DEEP⟩ := T.c_MOST_DEEP
  obtain ⟨t_MOST_SIZE, h_MOST_SIZE⟩ := T.c_MOST_SIZE
  exact ⟨[], (bd_cons (sd_if (td_cmp opd_gt (ed_var (i := 1)).b (ed_glob (v := (.int 40)) (by rfl) h_MOST_DEEP ⟨_, rfl⟩ (fun _ _ => .int _)).b) (bd_one sd_never) bd_nil)
  (bd_one (sd_if (td_cmp opd_gt (ed_var (i := 0)).b (ed_glob (v := (.int 2000)) (by rfl) h_MOST_SIZE ⟨_, rfl⟩ (fun _ _ => .int _)).b) (bd_one sd_never) bd_nil)))⟩
theorem ok_need_small {ρ : Type} {I : Wd ρ} {K : PySem.W.Frag} {P : Program} {w : World} {mg : Str → Option Value} {base : Heap} {cl : Str → Addr} {f : Addr} {fd : FuncData} (T : Top K P w mg base cl) (F : FunD K "need_small" "need_small" (defArgs s_need_small) (defBody s_need_small) (defScope s_need_small) [] [] f fd) : FnOk P w K mg base CX0 1 f fd P_need_small (spD I K 2 g_need_small) :=
  fnok_of (k := 0) F sc_need_small fun cdv A outer s H E hr => bd_end (bd_need_small T cdv A outer s H E hr)
theorem fn_need_small {ρ : Type} {I : Wd ρ} {K : PySem.W.Frag} {P : Program} {w : World} {mg : Str → Option Value} {base : Heap} {cl : Str → Addr} (T : Top K P w mg base cl) : Fn I K P w mg base 1 "need_small" 2 g_need_small := by
  obtain ⟨f, fd, F, hm⟩ := T.f_need_small
  exact ⟨f, fd, P_need_small, ok_need_small T F, hm, F.kp, F.bindsN (fun _ _ _ _ _ _ us hl => match us, hl with | [_, _], _ => rfl)⟩
/-! is_term -/
abbrev N_is_term : List Str := ["value", "size", "deep"]
abbrev P_is_term : List Str := ["value"]
theorem sc_is_term : FnScope N_is_term P_is_term (defScope s_is_term) := ⟨rfl, rfl, rfl, by decide +kernel, rfl, by decide +kernel, by decide +kernel⟩
def b_is_term {ρ : Type} : SS ρ :=
  (sSeq (sIf (bOf (eBin isnD (eCall 1 g_wrong_place (aCons (eVar 0) aNil)) (eC .non))) (sRet (eC (.bl false))) sNil)
  (sSeq (sAsg (eCall 1 g_size_and_depth (aCons (eVar 0) aNil)) (gTp (gC (gNm 1) (gC (gNm 2) gN))))
  (sRet (eIf (bOf (eBin leD (eVar 2) (eC (.int 40)))) (eBin leD (eVar 1) (eC (.int 2000))) (eC (.bl false))))))
def g_is_term {ρ : Type} : List D → ρ → Option (D × ρ) := gOf N_is_term b_is_term
theorem bd_is_term {ρ : Type} {I : Wd ρ} {K : PySem.W.Frag} {P : Program} {w : World} {mg : Str → Option Value} {base : Heap} {cl : Str → Addr} {f : Addr} (T : Top K P w mg base cl) (cdv : Value) (A : Around) (outer : List PySem.Env) (s : Shared) (H : Hp) (E : XK)
    (hr : Room (3) (A.deeper (envOfC "is_term" (defScope s_is_term) s.heap.objs.size f cdv))) : ∃ O', Bd I (cxOf CX0 P w K mg base N_is_term "is_term" (defScope s_is_term) f cdv A outer s H E).nox [] (defBody s_is_term) (b_is_term (ρ := ρ)) O' := by
  have hN := (sc_is_term).nd
  have hu : (A.deeper (envOfC "is_term" (defScope s_is_term) s.heap.objs.size f cdv)).units < cLine := hr.units0
  have hu1 : (A.deeper (envOfC "is_term" (defScope s_is_term) s.heap.objs.size f cdv)).units + 1 < cLine := by have := hr.units; omega
  obtain ⟨t_MOST_DEEP, h_MOST_DEEP⟩ := T.c_MOST_DEEP
  obtain ⟨t_MOST_SIZE, h_MOST_SIZE⟩ := T.c_MOST_SIZE
  exact ⟨[], (bd_cons (sd_if (td_cmp opd_isn (ed_call (Fn.mono (fn_wrong_place T) (by decide)) hr (ad_cons (ed_var (i := 0)) ad_nil)).b ed_non.b) (bd_one (sd_ret ed_bl.b)) bd_nil)
  (bd_cons (sd_asg (ed_call (Fn.mono (fn_size_and_depth T) (by decide)) hr (ad_cons (ed_var (i := 0)) ad_nil)) (gd_tup rfl (gds_cons (gd_name (i := 1) hN) (gds_cons (gd_name (i := 2) hN) gds_nil))))
  (bd_one (sd_ret (ed_and (ed_cmp opd_le (ed_var (i := 2)).b (ed_glob (v := (.int 40)) (by rfl) h_MOST_DEEP ⟨_, rfl⟩ (fun _ _ => .int _)).b) (ed_one (ed_cmp opd_le (ed_var (i := 1)).b (ed_glob (v := (.int 2000)) (by rfl) h_MOST_SIZE ⟨_, rfl⟩ (fun _ _ => .int _)).b))).b))))⟩
theorem ok_is_term {ρ : Type} {I : Wd ρ} {K : PySem.W.Frag} {P : Program} {w : World} {mg : Str → Option Value} {base : Heap} {cl : Str → Addr} {f : Addr} {fd : FuncData} (T : Top K P w mg base cl) (F : FunD K "is_term" "is_term" (defArgs s_is_term) (defBody s_is_term) (defScope s_is_term) [] [] f fd) : FnOk P w K mg base CX0 4 f fd P_is_term (spD I K 1 g_is_term) :=
  fnok_of (k := 3) F sc_is_term fun cdv A outer s H E hr => bd_end (bd_is_term T cdv A outer s H E hr)
theorem fn_is_term {ρ : Type} {I : Wd ρ} {K : PySem.W.Frag} {P : Program} {w : World} {mg : Str → Option Value} {base : Heap} {cl : Str → Addr} (T : Top K P w mg base cl) : Fn I K P w mg base 4 "is_term" 1 g_is_term := by
  obtain ⟨f, fd, F, hm⟩ := T.f_is_term
  exact ⟨f, fd, P_is_term, ok_is_term T F, hm, F.kp, F.bindsN (fun _ _ _ _ _ _ us hl => match us, hl with | [_], _ => rfl)⟩
/-! pair_fault -/
abbrev N_pair_fault : List Str := ["value", "number", "term", "wrong", "size", "deep"]
abbrev P_pair_fault : List Str := ["value"]
theorem sc_pair_fault : FnScope N_pair_fault P_pair_fault (defScope s_pair_fault) := ⟨rfl, rfl, rfl, by decide +kernel, rfl, by decide +kernel, by decide +kernel⟩
def b_pair_fault {ρ : Type} : SS ρ :=
  (sSeq (sIf (bOr (bNot (bOf (eUn (isiD "tuple") (eVar 0)))) (bOf (eBin neD (eUn lenD (eVar 0)) (eC (.int 2))))) (sRet (eTup aNil)) sNil)
  (sSeq (sFor (iEnumD (eVar 0)) (gTp (gC (gNm 1) (gC (gNm 2) gN))) (sSeq (sAsg (eCall 1 g_wrong_place (aCons (eVar 2) aNil)) (gNm 3))
  (sSeq (sIf (bOf (eBin isnD (eVar 3) (eC .non))) (sRet (eBin addD (eTup (aCons (eVar 1) aNil)) (eVar 3))) sNil)
  (sSeq (sAsg (eCall 1 g_size_and_depth (aCons (eVar 2) aNil)) (gTp (gC (gNm 4) (gC (gNm 5) gN))))
  (sExpr (eCall 2 g_need_small (aCons (eVar 4) (aCons (eVar 5) aNil))))))))
  (sRet (eC .non))))
def g_pair_fault {ρ : Type} : List D → ρ → Option (D × ρ) := gOf N_pair_fault b_pair_fault
theorem bd_pair_fault {ρ : Type} {I : Wd ρ} {K : PySem.W.Frag} {P : Program} {w : World} {mg : Str → Option Value} {base : Heap} {cl : Str → Addr} {f : Addr} (T : Top K P w mg base cl) (cdv : Value) (A : Around) (outer : List PySem.Env) (s : Shared) (H : Hp) (E : XK)
    (hr : Room (3) (A.deeper (envOfC "pair_fault" (defScope s_pair_fault) s.heap.objs.size f cdv))) : ∃ O', Bd I (cxOf CX0 P w K mg base N_pair_fault "pair_fault" (defScope s_pair_fault) f cdv A outer s H E).nox [] (defBody s_pair_fault) (b_pair_fault (ρ := ρ)) O' := by
  have hN := (sc_pair_fault).nd
  have hu : (A.deeper (envOfC "pair_fault" (defScope s_pair_fault) s.heap.objs.size f cdv)).units < cLine := hr.units0
  have hu1 : (A.deeper (envOfC "pair_fault" (defScope s_pair_fault) s.heap.objs.size f cdv)).units + 1 < cLine := by have := hr.units; omega
  exact ⟨[], (bd_cons (sd_if (td_bool (wt_or (td_not (td_val (ed_isi (ed_var (i := 0)).b (by rfl) T.b_isinstance bl_isinstance (by rfl) T.b_tuple bl_tuple))) (wt_or1 (td_cmp (opd_ne hu) (ed_callB cd_len (ed_var (i := 0)).b (by rfl) T.b_len bl_len).b ed_int.b)))) (bd_one (sd_ret (ed_tup ad_nil).b)) bd_nil)
  (bd_cons (sd_for PassesOwn.never rfl (wk_enum (by rfl) T.b_enumerate (ed_var (i := 0))) (gd_tup rfl (gds_cons (gd_name (i := 1) hN) (gds_cons (gd_name (i := 2) hN) gds_nil))) (bd_cons (sd_asg (ed_call (Fn.mono (fn_wrong_place T) (by decide)) hr (ad_cons (ed_var (i := 2)) ad_nil)) (gd_name (i := 3) hN))
  (bd_cons (sd_if (td_cmp opd_isn (ed_var (i := 3)).b ed_non.b) (bd_one (sd_ret (ed_op opd_add (ed_tup (ad_cons (ed_var (i := 1)) ad_nil)).b (ed_var (i := 3)).b).b)) bd_nil)
  (bd_cons (sd_asg (ed_call (Fn.mono (fn_size_and_depth T) (by decide)) hr (ad_cons (ed_var (i := 2)) ad_nil)) (gd_tup rfl (gds_cons (gd_name (i := 4) hN) (gds_cons (gd_name (i := 5) hN) gds_nil))))
  (bd_one (sd_expr (ed_call (Fn.mono (fn_need_small T) (by decide)) hr (ad_cons (ed_var (i := 4)) (ad_cons (ed_var (i := 5)) ad_nil)))))))))
  (bd_one (sd_ret ed_non.b))))⟩
theorem ok_pair_fault {ρ : Type} {I : Wd ρ} {K : PySem.W.Frag} {P : Program} {w : World} {mg : Str → Option Value} {base : Heap} {cl : Str → Addr} {f : Addr} {fd : FuncData} (T : Top K P w mg base cl) (F : FunD K "pair_fault" "pair_fault" (defArgs s_pair_fault) (defBody s_pair_fault) (defScope s_pair_fault) [] [] f fd) : FnOk P w K mg base CX0 4 f fd P_pair_fault (spD I K 1 g_pair_fault) :=
  fnok_of (k := 3) F sc_pair_fault fun cdv A outer s H E hr => bd_end (bd_pair_fault T cdv A outer s H E hr)
theorem fn_pair_fault {ρ : Type} {I : Wd ρ} {K : PySem.W.Frag} {P : Program} {w : World} {mg : Str → Option Value} {base : Heap} {cl : Str → Addr} (T : Top K P w mg base cl) : Fn I K P w mg base 4 "pair_fault" 1 g_pair_fault := by
  obtain ⟨f, fd, F, hm⟩ := T.f_pair_fault
  exact ⟨f, fd, P_pair_fault, ok_pair_fault T F, hm, F.kp, F.bindsN (fun _ _ _ _ _ _ us hl => match us, hl with | [_], _ => rfl)⟩
/-! need_axioms -/
abbrev N_need_axioms : List Str := ["axioms", "number", "pair", "fault"]
abbrev P_need_axioms : List Str := ["axioms"]
theorem sc_need_axioms : FnScope N_need_axioms P_need_axioms (defScope s_need_axioms) := ⟨rfl, rfl, rfl, by decide +kernel, rfl, by decide +kernel, by decide +kernel⟩
def bx_need_axioms {ρ : Type} : SX ρ :=
  (xSeq (xIf (bOr (bNot (bOf (eUn (isiD "tuple") (eVar 0)))) (bOf (eBin gtD (eUn lenD (eVar 0)) (eC (.int 400))))) (xRaise "BadAxioms" "place" (eTup aNil)) (xOk sNil))
  (xSeq (xFor (iEnumD (eVar 0)) (gTp (gC (gNm 1) (gC (gNm 2) gN))) (xSeq (xOk (sAsg (eCall 1 g_pair_fault (aCons (eVar 2) aNil)) (gNm 3)))
  (xIf (bOf (eBin isnD (eVar 3) (eC .non))) (xRaise "BadAxioms" "place" (eBin addD (eTup (aCons (eVar 1) aNil)) (eVar 3))) (xOk sNil))))
  (xOk (sRet (eVar 0)))))
def gx_need_axioms {ρ : Type} : GX ρ := gXOf N_need_axioms bx_need_axioms
def g_need_axioms {ρ : Type} : List D → ρ → Option (D × ρ) := plainG gx_need_axioms
theorem okx_need_axioms {ρ : Type} {I : Wd ρ} {K : PySem.W.Frag} {P : Program} {w : World} {mg : Str → Option Value} {base : Heap} {cl : Str → Addr} {f : Addr} {fd : FuncData} (T : Top K P w mg base cl) (F : FunD K "need_axioms" "need_axioms" (defArgs s_need_axioms) (defBody s_need_axioms) (defScope s_need_axioms) [] [] f fd) : FnOk P w K mg base (L2N.CX P w) 5 f fd P_need_axioms (spX I K cl 1 gx_need_axioms) := by
  refine fnokX_of (k := 4) F sc_need_axioms fun cdv A outer s H E hr => ?_
  have hN := (sc_need_axioms).nd
  have hu : (A.deeper (envOfC "need_axioms" (defScope s_need_axioms) s.heap.objs.size f cdv)).units < cLine := hr.units0
  have hu1 : (A.deeper (envOfC "need_axioms" (defScope s_need_axioms) s.heap.objs.size f cdv)).units + 1 < cLine := by have := hr.units; omega
  have tk : L2N.Takes (cxOf (L2N.CX P w) P w K mg base N_need_axioms "need_axioms" (defScope s_need_axioms) f cdv A outer s H E) fun cls d _ H => E cls d H := L2N.takes_of rfl rfl rfl rfl
  obtain ⟨t_MOST_AXIOMS, h_MOST_AXIOMS⟩ := T.c_MOST_AXIOMS
  exact ⟨[], (bx_cons (sx_if (td_bool (wt_or (td_not (td_val (ed_isi (ed_var (i := 0)).b (by rfl) T.b_isinstance bl_isinstance (by rfl) T.b_tuple bl_tuple))) (wt_or1 (td_cmp opd_gt (ed_callB cd_len (ed_var (i := 0)).b (by rfl) T.b_len bl_len).b (ed_glob (v := (.int 400)) (by rfl) h_MOST_AXIOMS ⟨_, rfl⟩ (fun _ _ => .int _)).b)))) (bx_one (sx_raiseN (C := "BadAxioms") (fl := "place") T.x_BadAxioms (hr.mono (by decide)) rfl tk (ed_tup ad_nil))) (bx_of bd_nil))
  (bx_cons (sx_for (passes_of rfl) rfl (wk_enum (by rfl) T.b_enumerate (ed_var (i := 0))) (gd_tup rfl (gds_cons (gd_name (i := 1) hN) (gds_cons (gd_name (i := 2) hN) gds_nil))) (bx_cons (sx_of (sd_asg (ed_call (Fn.mono (fn_pair_fault T) (by decide)) hr (ad_cons (ed_var (i := 2)) ad_nil)) (gd_name (i := 3) hN)))
  (bx_one (sx_if (td_cmp opd_isn (ed_var (i := 3)).b ed_non.b) (bx_one (sx_raiseN (C := "BadAxioms") (fl := "place") T.x_BadAxioms (hr.mono (by decide)) rfl tk (ed_op opd_add (ed_tup (ad_cons (ed_var (i := 1)) ad_nil)).b (ed_var (i := 3)).b))) (bx_of bd_nil)))))
  (bx_of (bd_one (sd_ret (ed_var (i := 0)).b)))))⟩
theorem fx_need_axioms {ρ : Type} {I : Wd ρ} {K : PySem.W.Frag} {P : Program} {w : World} {mg : Str → Option Value} {base : Heap} {cl : Str → Addr} (T : Top K P w mg base cl) : FnX I K (L2N.CX P w) P w mg base cl 5 "need_axioms" 1 gx_need_axioms := by
  obtain ⟨f, fd, F, hm⟩ := T.f_need_axioms
  exact ⟨f, fd, P_need_axioms, okx_need_axioms T F, hm, F.kp, F.bindsN (fun _ _ _ _ _ _ us hl => match us, hl with | [_], _ => rfl)⟩
theorem fn_need_axioms {ρ : Type} {I : Wd ρ} {K : PySem.W.Frag} {P : Program} {w : World} {mg : Str → Option Value} {base : Heap} {cl : Str → Addr} (T : Top K P w mg base cl) : Fn I K P w mg base 5 "need_axioms" 1 g_need_axioms := (fx_need_axioms T).fn no_L2N
/-! is_clause -/
abbrev N_is_clause : List Str := ["value", "kind"]
abbrev P_is_clause : List Str := ["value"]
theorem sc_is_clause : FnScope N_is_clause P_is_clause (defScope s_is_clause) := ⟨rfl, rfl, rfl, by decide +kernel, rfl, by decide +kernel, by decide +kernel⟩
def b_is_clause {ρ : Type} : SS ρ :=
  (sRet (eIf (bOf (eUn (isiD "tuple") (eVar 0))) (eIf (bOf (eBin eqD (eUn lenD (eVar 0)) (eC (.int 2)))) (eUn allD (eComp (iSeqD (eVar 0)) (gNm 1) bT (eCall 1 g_is_term (aCons (eVar 1) aNil)) [1])) (eC (.bl false))) (eC (.bl false))))
def g_is_clause {ρ : Type} : List D → ρ → Option (D × ρ) := gOf N_is_clause b_is_clause
theorem bd_is_clause {ρ : Type} {I : Wd ρ} {K : PySem.W.Frag} {P : Program} {w : World} {mg : Str → Option Value} {base : Heap} {cl : Str → Addr} {f : Addr} (T : Top K P w mg base cl) (cdv : Value) (A : Around) (outer : List PySem.Env) (s : Shared) (H : Hp) (E : XK)
    (hr : Room (4) (A.deeper (envOfC "is_clause" (defScope s_is_clause) s.heap.objs.size f cdv))) : ∃ O', Bd I (cxOf CX0 P w K mg base N_is_clause "is_clause" (defScope s_is_clause) f cdv A outer s H E).nox [] (defBody s_is_clause) (b_is_clause (ρ := ρ)) O' := by
  have hN := (sc_is_clause).nd
  have hu : (A.deeper (envOfC "is_clause" (defScope s_is_clause) s.heap.objs.size f cdv)).units < cLine := hr.units0
  have hu1 : (A.deeper (envOfC "is_clause" (defScope s_is_clause) s.heap.objs.size f cdv)).units + 1 < cLine := by have := hr.units; omega
  exact ⟨[], (bd_one (sd_ret (ed_and (ed_isi (ed_var (i := 0)).b (by rfl) T.b_isinstance bl_isinstance (by rfl) T.b_tuple bl_tuple) (ed_and (ed_cmp (opd_eq hu) (ed_callB cd_len (ed_var (i := 0)).b (by rfl) T.b_len bl_len).b ed_int.b) (ed_one (ed_callB (cd_all rfl) (Ef.d eComp_lst (ef_comp (own := [(("kind" : Str), 1)]) rfl hN (wk_seq (ed_var (i := 0))) (blkOk_by (by rfl)) (fun _ _ _ _ _ => (gd_name (i := 1) hN)) (fun _ _ _ _ _ => tds_nil) (fun _ _ _ _ _ => (ed_call (Fn.mono (fn_is_term T) (by decide)) hr (ad_cons (ed_var (i := 1)) ad_nil))))).b (by rfl) T.b_all bl_all)))).b))⟩
theorem ok_is_clause {ρ : Type} {I : Wd ρ} {K : PySem.W.Frag} {P : Program} {w : World} {mg : Str → Option Value} {base : Heap} {cl : Str → Addr} {f : Addr} {fd : FuncData} (T : Top K P w mg base cl) (F : FunD K "is_clause" "is_clause" (defArgs s_is_clause) (defBody s_is_clause) (defScope s_is_clause) [] [] f fd) : FnOk P w K mg base CX0 5 f fd P_is_clause (spD I K 1 g_is_clause) :=
  fnok_of (k := 4) F sc_is_clause fun cdv A outer s H E hr => bd_end (bd_is_clause T cdv A outer s H E hr)
theorem fn_is_clause {ρ : Type} {I : Wd ρ} {K : PySem.W.Frag} {P : Program} {w : World} {mg : Str → Option Value} {base : Heap} {cl : Str → Addr} (T : Top K P w mg base cl) : Fn I K P w mg base 5 "is_clause" 1 g_is_clause := by
  obtain ⟨f, fd, F, hm⟩ := T.f_is_clause
  exact ⟨f, fd, P_is_clause, ok_is_clause T F, hm, F.kp, F.bindsN (fun _ _ _ _ _ _ us hl => match us, hl with | [_], _ => rfl)⟩
/-! is_signature -/
abbrev N_is_signature : List Str := ["value", "clauses", "further", "clause", "kind"]
abbrev P_is_signature : List Str := ["value"]
theorem sc_is_signature : FnScope N_is_signature P_is_signature (defScope s_is_signature) := ⟨rfl, rfl, rfl, by decide +kernel, rfl, by decide +kernel, by decide +kernel⟩
def b_is_signature {ρ : Type} : SS ρ :=
  (sSeq (sIf (bOr (bNot (bOf (eUn (isiD "tuple") (eVar 0)))) (bOr (bOf (eBin neD (eUn lenD (eVar 0)) (eC (.int 3)))) (bNot (bOf (eCall 1 g_is_name (aCons (eBin ixD (eVar 0) (eC (.int 0))) aNil)))))) (sRet (eC (.bl false))) sNil)
  (sSeq (sPar [1, 2] (aCons (eBin ixD (eVar 0) (eC (.int 1))) (aCons (eBin ixD (eVar 0) (eC (.int 2))) aNil)))
  (sSeq (sIf (bOr (bNot (bOf (eUn (isiD "tuple") (eVar 1)))) (bNot (bChain leD leD (eC (.int 1)) (eUn lenD (eVar 1)) (eC (.int 4))))) (sRet (eC (.bl false))) sNil)
  (sSeq (sIf (bOr (bNot (bOf (eUn (isiD "tuple") (eVar 2)))) (bOf (eBin gtD (eUn lenD (eVar 2)) (eC (.int 2))))) (sRet (eC (.bl false))) sNil)
  (sRet (eIf (bOf (eUn allD (eComp (iSeqD (eVar 1)) (gNm 3) bT (eCall 1 g_is_clause (aCons (eVar 3) aNil)) [3]))) (eUn allD (eComp (iSeqD (eVar 2)) (gNm 4) bT (eCall 1 g_is_term (aCons (eVar 4) aNil)) [4])) (eC (.bl false))))))))
def g_is_signature {ρ : Type} : List D → ρ → Option (D × ρ) := gOf N_is_signature b_is_signature
theorem bd_is_signature {ρ : Type} {I : Wd ρ} {K : PySem.W.Frag} {P : Program} {w : World} {mg : Str → Option Value} {base : Heap} {cl : Str → Addr} {f : Addr} (T : Top K P w mg base cl) (cdv : Value) (A : Around) (outer : List PySem.Env) (s : Shared) (H : Hp) (E : XK)
    (hr : Room (5) (A.deeper (envOfC "is_signature" (defScope s_is_signature) s.heap.objs.size f cdv))) : ∃ O', Bd I (cxOf CX0 P w K mg base N_is_signature "is_signature" (defScope s_is_signature) f cdv A outer s H E).nox [] (defBody s_is_signature) (b_is_signature (ρ := ρ)) O' := by
  have hN := (sc_is_signature).nd
  have hu : (A.deeper (envOfC "is_signature" (defScope s_is_signature) s.heap.objs.size f cdv)).units < cLine := hr.units0
  have hu1 : (A.deeper (envOfC "is_signature" (defScope s_is_signature) s.heap.objs.size f cdv)).units + 1 < cLine := by have := hr.units; omega
  obtain ⟨t_MOST_CLAUSES, h_MOST_CLAUSES⟩ := T.c_MOST_CLAUSES
  obtain ⟨t_MOST_FURTHER, h_MOST_FURTHER⟩ := T.c_MOST_FURTHER
  exact ⟨[], (bd_cons (sd_if (td_bool (wt_or (td_not (td_val (ed_isi (ed_var (i := 0)).b (by rfl) T.b_isinstance bl_isinstance (by rfl) T.b_tuple bl_tuple))) (wt_or (td_cmp (opd_ne hu) (ed_callB cd_len (ed_var (i := 0)).b (by rfl) T.b_len bl_len).b ed_int.b) (wt_or1 (td_not (td_val (ed_call (Fn.mono (fn_is_name T) (by decide)) hr (ad_cons (ed_ix (ed_var (i := 0)).b ed_int.b) ad_nil)))))))) (bd_one (sd_ret ed_bl.b)) bd_nil)
  (bd_cons (sd_par2 (i := 1) (j := 2) rfl hN (pd_d (ed_ix (ed_var (i := 0)).b ed_int.b) (pd_d (ed_ix (ed_var (i := 0)).b ed_int.b) pd_nil)))
  (bd_cons (sd_if (td_bool (wt_or (td_not (td_val (ed_isi (ed_var (i := 1)).b (by rfl) T.b_isinstance bl_isinstance (by rfl) T.b_tuple bl_tuple))) (wt_or1 (td_not (td_chain opd_le opd_le ed_int.b (ed_callB cd_len (ed_var (i := 1)).b (by rfl) T.b_len bl_len).b (ed_glob (v := (.int 4)) (by rfl) h_MOST_CLAUSES ⟨_, rfl⟩ (fun _ _ => .int _)).b))))) (bd_one (sd_ret ed_bl.b)) bd_nil)
  (bd_cons (sd_if (td_bool (wt_or (td_not (td_val (ed_isi (ed_var (i := 2)).b (by rfl) T.b_isinstance bl_isinstance (by rfl) T.b_tuple bl_tuple))) (wt_or1 (td_cmp opd_gt (ed_callB cd_len (ed_var (i := 2)).b (by rfl) T.b_len bl_len).b (ed_glob (v := (.int 2)) (by rfl) h_MOST_FURTHER ⟨_, rfl⟩ (fun _ _ => .int _)).b)))) (bd_one (sd_ret ed_bl.b)) bd_nil)
  (bd_one (sd_ret (ed_and (ed_callB (cd_all rfl) (Ef.d eComp_lst (ef_comp (own := [(("clause" : Str), 3)]) rfl hN (wk_seq (ed_var (i := 1))) (blkOk_by (by rfl)) (fun _ _ _ _ _ => (gd_name (i := 3) hN)) (fun _ _ _ _ _ => tds_nil) (fun _ _ _ _ _ => (ed_call (Fn.mono (fn_is_clause T) (by decide)) hr (ad_cons (ed_var (i := 3)) ad_nil))))).b (by rfl) T.b_all bl_all) (ed_one (ed_callB (cd_all rfl) (Ef.d eComp_lst (ef_comp (own := [(("kind" : Str), 4)]) rfl hN (wk_seq (ed_var (i := 2))) (blkOk_by (by rfl)) (fun _ _ _ _ _ => (gd_name (i := 4) hN)) (fun _ _ _ _ _ => tds_nil) (fun _ _ _ _ _ => (ed_call (Fn.mono (fn_is_term T) (by decide)) hr (ad_cons (ed_var (i := 4)) ad_nil))))).b (by rfl) T.b_all bl_all))).b))))))⟩
theorem ok_is_signature {ρ : Type} {I : Wd ρ} {K : PySem.W.Frag} {P : Program} {w : World} {mg : Str → Option Value} {base : Heap} {cl : Str → Addr} {f : Addr} {fd : FuncData} (T : Top K P w mg base cl) (F : FunD K "is_signature" "is_signature" (defArgs s_is_signature) (defBody s_is_signature) (defScope s_is_signature) [] [] f fd) : FnOk P w K mg base CX0 6 f fd P_is_signature (spD I K 1 g_is_signature) :=
  fnok_of (k := 5) F sc_is_signature fun cdv A outer s H E hr => bd_end (bd_is_signature T cdv A outer s H E hr)
theorem fn_is_signature {ρ : Type} {I : Wd ρ} {K : PySem.W.Frag} {P : Program} {w : World} {mg : Str → Option Value} {base : Heap} {cl : Str → Addr} (T : Top K P w mg base cl) : Fn I K P w mg base 6 "is_signature" 1 g_is_signature := by
  obtain ⟨f, fd, F, hm⟩ := T.f_is_signature
  exact ⟨f, fd, P_is_signature, ok_is_signature T F, hm, F.kp, F.bindsN (fun _ _ _ _ _ _ us hl => match us, hl with | [_], _ => rfl)⟩
/-! need_signatures -/
abbrev N_need_signatures : List Str := ["signatures", "found", "last", "number", "sign"]
abbrev P_need_signatures : List Str := ["signatures"]
theorem sc_need_signatures : FnScope N_need_signatures P_need_signatures (defScope s_need_signatures) := ⟨rfl, rfl, rfl, by decide +kernel, rfl, by decide +kernel, by decide +kernel⟩
def fIf_need_signatures {ρ : Type} : SX ρ := xIf (bOr (bNot (bOf (eCall 1 g_is_signature (aCons (eVar 4) aNil)))) (bOf (eBin leD (eBin ixD (eVar 4) (eC (.int 0))) (eVar 2)))) (xRaise "BadModule" "place" (eTup (aCons (eC (.int 1)) (aCons (eVar 3) aNil)))) (xOk sNil)
def ct_need_signatures {ρ : Type} : CT ρ := fun l n s r => (fIf_need_signatures [none, none, some l, some n, some s] r).map fun o => match o with
  | .exc x r => (some x, r)
  | .ok (.nx _ r) => (none, r)
  | .ok (.ret _ r) => (none, r)
def bx_need_signatures {ρ : Type} : SX ρ := xSeq (xIf (bOr (bNot (bOf (eUn (isiD "tuple") (eVar 0)))) (bOf (eBin gtD (eUn lenD (eVar 0)) (eC (.int 12))))) (xRaise "BadModule" "place" (eTup (aCons (eC (.int 1)) aNil))) (xOk sNil)) (xSigs ct_need_signatures)
def gx_need_signatures {ρ : Type} : GX ρ := gXOf N_need_signatures bx_need_signatures
theorem hct_need_signatures {ρ : Type} (S : D) (p : Addr) (l n s : D) (r : ρ) : fIf_need_signatures [some S, some (.raw (.ref p)), some l, some n, some s] r = (ct_need_signatures l n s r).map fun q => match q.1 with
    | none => OutX.ok (.nx [some S, some (.raw (.ref p)), some l, some n, some s] q.2)
    | some x => OutX.exc x q.2 := by
  unfold ct_need_signatures fIf_need_signatures xIf
  rw [Option.map_map]
  have e1 : ∀ env : DL.Env, env[2]? = some (some l) → env[4]? = some (some s) → bOr (bNot (bOf (eCall 1 g_is_signature (aCons (eVar 4) aNil)))) (bOf (eBin leD (eBin ixD (eVar 4) (eC (.int 0))) (eVar 2))) env r = bOr (bNot (bOf (eCall 1 g_is_signature (aCons (eVar 4) aNil)))) (bOf (eBin leD (eBin ixD (eVar 4) (eC (.int 0))) (eVar 2))) [none, none, some l, some n, some s] r := fun env h2 h4 => by
    simp only [bOr, bNot, bOf, eCall, aCons, eVar, aNil, eBin, eC, h2, h4]
    rfl
  rw [e1 _ rfl rfl]
  cases bOr (bNot (bOf (eCall 1 g_is_signature (aCons (eVar 4) aNil)))) (bOf (eBin leD (eBin ixD (eVar 4) (eC (.int 0))) (eVar 2))) [none, none, some l, some n, some s] r with
  | none => rfl
  | some q =>
    obtain ⟨b, r1⟩ := q
    cases b <;> rfl
theorem fx_need_signatures {ρ : Type} {I : Wd ρ} {K : PySem.W.Frag} {P : Program} {w : World} {mg : Str → Option Value} {base : Heap} {cl : Str → Addr} (T : Top K P w mg base cl) : FnX I K (L2.CX P w) P w mg base cl 7 "need_signatures" 1 gx_need_signatures := by
  obtain ⟨f, fd, F, hm⟩ := T.f_need_signatures
  refine fnX_of (k := 6) F sc_need_signatures hm (fun _ _ _ _ _ _ us hl => match us, hl with | [_], _ => rfl) fun cdv A outer s H E hr => ?_
  have hN := (sc_need_signatures).nd
  have hu : (A.deeper (envOfC "need_signatures" (defScope s_need_signatures) s.heap.objs.size f cdv)).units < cLine := hr.units0
  have hu1 : (A.deeper (envOfC "need_signatures" (defScope s_need_signatures) s.heap.objs.size f cdv)).units + 1 < cLine := by have := hr.units; omega
  have tk : L2.Takes (cxOf (L2.CX P w) P w K mg base N_need_signatures "need_signatures" (defScope s_need_signatures) f cdv A outer s H E) fun cls d _ H => E cls d H := L2.takes_of rfl rfl rfl rfl
  obtain ⟨t_MOST_LISTED, h_MOST_LISTED⟩ := T.c_MOST_LISTED
  refine ⟨[], bx_cons (O1 := []) (sx_if (td_bool (wt_or (td_not (td_val (ed_isi (ed_var (i := 0)).b (by rfl) T.b_isinstance bl_isinstance (by rfl) T.b_tuple bl_tuple))) (wt_or1 (td_cmp opd_gt (ed_callB cd_len (ed_var (i := 0)).b (by rfl) T.b_len bl_len).b (ed_glob (v := (.int 12)) (by rfl) h_MOST_LISTED ⟨_, rfl⟩ (fun _ _ => .int _)).b))))
    (bx_one (sx_raise2 (C := "BadModule") (fl := "place") T.x_BadModule (hr.mono (by decide)) rfl tk (ed_tup (ad_cons ed_int ad_nil)))) (bx_of bd_nil)) ?_⟩
  refine Bx.of (pss_cons (ps_par (i := 1) (j := 2) rfl hN rfl rfl (by decide) rfl rfl (pa_cons pe_dnewK (pa_cons pe_str pa_nil)) rfl rfl)
    (pss_cons (ps_for (passes_of rfl) rfl (wk_enum (I := I) (O := []) (by rfl) T.b_enumerate (ed_var (i := 0))) (gd_tup (I := I) (O := []) rfl (gds_cons (gd_name (i := 3) hN) (gds_cons (gd_name (i := 4) hN) gds_nil))).run
      (pss_cons (sx_if (I := I) (O := []) (O' := []) (td_bool (wt_or (td_not (td_val (ed_call (Fn.mono (fn_is_signature T) (by decide)) hr (ad_cons (ed_var (i := 4)) ad_nil)))) (wt_or1 (td_cmp opd_le (ed_ix (ed_var (i := 4)).b ed_int.b).b (ed_var (i := 2)).b))))
        (bx_one (sx_raise2 (C := "BadModule") (fl := "place") T.x_BadModule (hr.mono (by decide)) rfl tk (ed_tup (ad_cons ed_int (ad_cons (ed_var (i := 3)) ad_nil))))) (bx_of bd_nil))
      (pss_one (ps_asg (ed_tup (I := I) (O := []) (ad_cons (ed_var (i := 4)) (ad_cons (ed_ix (ed_var (i := 4)).b ed_int.b) ad_nil)))
        (pg_tup rfl (pgs_cons (pg_sub (pv 1) (ed_ix (I := I) (O := []) (ed_var (i := 4)).b ed_int.b) (set_dict hu1)) (pgs_cons (pg_name (i := 2) hN rfl (.inl rfl)) pgs_nil)))))))
    (pss_one (ps_ret (pv 1))))) fun D σ H W B H0 A env r l ho k => ?_
  have hA : A = [] := List.map_eq_nil_iff.mp ho
  subst hA
  unfold xSigs at k
  split at k
  case h_2 => exact k.elim
  case h_1 S x1 x2 x3 x4 =>
  cases hS : items S with
  | none => rw [hS] at k; exact k.elim
  | some ds =>
  rw [hS, Option.bind_some] at k
  intro p np
  refine ⟨_, _, rfl, ?_⟩
  obtain ⟨p0, pW⟩ := l.none0 np
  have lp := l.hold (r' := r) (H' := upd H p (.dK [])) (I.keep l.wi fun b hb => upd_ne fun z => pW (by rw [← z]; exact hb)) (Evo.new np) np (by rw [upd_same]; simp)
  have lq := (lp.set (i := 1) (.raw (.ref p))).set (i := 2) (d := .str "") (v := .str "") (.str _)
  refine ⟨W, p :: B, _, [], [some S, some (.raw (.ref p)), some (.str ""), x3, x4], r, enumFrom 0 ds, r, lq, rfl, by simp [iEnumD, eVar, hS], fun J SS H1 lJ ev yl s1 => ?_⟩
  have pB : p ∉ B := fun z => l.bt p z np
  have hp1 : H1 p = some (.dK []) := ev.at_ pW upd_same
  refine ⟨fun i m σ' H' => i + m = (enumFrom 0 ds).length ∧ ∃ l0 n0 s0 r' kvs xs, SigW I K W B _ S SS p l0 n0 s0 r' σ' H' kvs xs ∧ PostX I K W B _ [] [] cl E D H (sgFold ct_need_signatures ((enumFrom 0 ds).drop i) l0 r' (kvs.map (·.1)) xs),
    ⟨(enumFrom 0 ds).length, by omega, _, _, _, _, [], [], ⟨lJ, s1, hp1, .nil⟩, by rw [List.drop_zero]; exact k⟩, ?_⟩
  rintro i m σ2 H2 ⟨him, l0, n0, s0, r2, kvs, xs, sw, k2⟩
  have l2 := sw.lc
  by_cases hlt : i < (enumFrom 0 ds).length
  · refine .inr ⟨yl.go _ _ _ sw.ss hlt, _, fun σ' H' z => ⟨m - 1, by omega, z⟩, fun x H3 y => ?_⟩
    obtain ⟨d, e3, ex, rp⟩ := yl.yld _ _ _ _ _ sw.ss l2.bx hlt y
    have l3 := l2.ext ex
    have s3 := yl.keep _ _ (p :: B ++ Own.ad []) H3 sw.ss ex.evo fun b z => .inl z
    rw [List.drop_eq_getElem_cons hlt] at k2
    rw [List.getElem?_eq_getElem hlt] at e3
    have e3' := Option.some.inj e3
    rw [e3'] at k2
    obtain ⟨nD, sD, hd⟩ : ∃ nD sD, d = .tup [nD, sD] := by
      cases q : sgFold ct_need_signatures (d :: (enumFrom 0 ds).drop (i + 1)) l0 r2 (kvs.map (·.1)) xs with
      | none => rw [q] at k2; exact k2.elim
      | some o => exact sgFold_tup q
    subst hd
    rw [sgFold_cons] at k2
    refine ⟨W, p :: B, _, [], _, r2, _, [some S, some (.raw (.ref p)), some l0, some nD, some sD], l3, rfl, rp, rfl, fun A4 σ4 m4 sub4 _ _ l4 => ?_⟩
    have hA4 : A4 = [] := List.map_eq_nil_iff.mp m4
    subst hA4
    refine ⟨W, p :: B, _, [], _, r2, l4, rfl, ?_⟩
    have hh := hct_need_signatures S p l0 nD sD r2
    unfold fIf_need_signatures at hh
    rw [hh]
    cases hc : ct_need_signatures l0 nD sD r2 with
    | none => rw [hc] at k2; exact k2.elim
    | some q =>
    obtain ⟨ox, r3⟩ := q
    rw [hc, Option.bind_some] at k2
    cases ox with
    | some x => exact fun dd H' ev' wi xa => k2 dd H' ev' wi (xa.less fun b z => List.mem_cons_of_mem _ z)
    | none =>
    dsimp only at k2
    cases hk : ixD sD (.int 0) with
    | none => rw [hk] at k2; exact k2.elim
    | some kD =>
    rw [hk, Option.bind_some] at k2
    cases hkk : keyD kD with
    | none => rw [hkk] at k2; exact k2.elim
    | some kk =>
    rw [hkk, Option.bind_some] at k2
    split at k2
    case isFalse => exact k2.elim
    case isTrue hb =>
    intro A5 σ5 H5 m5 l5 f5
    have hA5 : A5 = [] := List.map_eq_nil_iff.mp m5
    subst hA5
    have ev5 : Evo W H3 H5 := by
      have := f5.1
      rwa [show W ++ Own.ad [] = W from List.append_nil W] at this
    refine ⟨W, p :: B, _, [], _, r3, .tup [sD, kD], r3, l5, rfl, by simp [eTup, aCons, aNil, eVar, eBin, eC, hk], fun v H6 l6 ev6 rp6 => ?_⟩
    cases rp6 with
    | tup t6 rs6 =>
    cases rs6 with
    | cons ra rs6 =>
    cases rs6 with
    | cons rb rs6 =>
    cases rs6
    rename_i va vb
    refine ⟨_, [va, vb], rfl, t6.sq, rfl, va, [vb], rfl, ?_⟩
    obtain ⟨vp, hp6, hrp⟩ := l6.vals 1 _ rfl (by simp)
    cases hrp
    refine ⟨_, hp6, W, p :: B, _, [], _, r3, kD, r3, l6, rfl, by simp [eVar, eBin, eC, hk], fun vk H7 l7 ev7 rpk => ?_⟩
    have ek : vk = kV kk := RepA.key (.inl rpk) hkk
    subst ek
    have p3 : H3 p = some (.dK kvs) := (ex.evo (B := [])).at_ (by simp) sw.hp
    have p7 : H7 p = some (.dK kvs) := ev7.at_ pW (ev6.at_ pW (ev5.at_ pW p3))
    rw [List.length_map] at hb
    refine ⟨p, _, rfl, DPut.k p7 (Nat.lt_of_lt_of_le hb big_le), vb, [], rfl, rfl, ?_⟩
    have evp : Evo (p :: B ++ Own.ad []) H7 (upd H7 p (.dK (putK kvs kk va))) := Evo.write (List.mem_append_left _ (List.mem_cons_self ..))
    have l8 := (l7.poke (o := .dK (putK kvs kk va)) (List.mem_cons_self ..) pW p0).set (i := 2) ((rb.keep (l6.ev ev7)).keep evp)
    have e37 : Evo W H3 H7 := (ev5.trans ev6).trans ev7
    refine ⟨by omega, kD, some nD, some sD, r3, putK kvs kk va, (putD (kvs.map (·.1)) xs kk sD).2, ⟨l8, ?_, upd_same, ?_⟩, ?_⟩
    · exact yl.keep _ _ _ _ (yl.keep _ _ (p :: B ++ Own.ad []) H7 s3 (l3.ev e37) fun b z => .inl z) evp fun b z => .inl z
    · exact (put_reps ((sw.rs.keep ex.evo).keep (l3.ev e37)) (ra.keep (l6.ev ev7))).keep evp
    · rw [put_fst kvs xs kk sD va]
      exact k2
  · have he0 : (enumFrom 0 ds).drop i = [] := List.drop_eq_nil_of_le (Nat.le_of_not_lt hlt)
    rw [he0] at k2
    refine .inl ⟨yl.stop _ _ _ sw.ss (Nat.le_of_not_lt hlt), ?_⟩
    obtain ⟨v, h1, h2⟩ := l2.vals 1 _ rfl (by simp)
    cases h2
    exact ⟨_, h1, k2 (.ref p) H2 l2.evo l2.wi (.dct pB sw.hp (sw.rs.less fun b z => List.mem_append_left _ (List.mem_cons_of_mem _ z)))⟩

/-! is_expression -/
abbrev N_is_expression : List Str := ["value", "known", "signs", "one"]
abbrev P_is_expression : List Str := ["value", "known", "signs"]
theorem sc_is_expression : FnScope N_is_expression P_is_expression (defScope s_is_expression) := ⟨rfl, rfl, rfl, by decide +kernel, rfl, by decide +kernel, by decide +kernel⟩
def b_is_expression {ρ : Type} (g : List D → ρ → Option (D × ρ)) : SS ρ :=
  (sSeq (sIf (bOr (bNot (bOf (eUn (isiD "tuple") (eVar 0)))) (bOr (bOf (eBin eqD (eUn lenD (eVar 0)) (eC (.int 0)))) (bNot (bOf (eUn (isiD "str") (eBin ixD (eVar 0) (eC (.int 0)))))))) (sRet (eC (.bl false))) sNil)
  (sSeq (sIf (bOf (eBin eqD (eBin ixD (eVar 0) (eC (.int 0))) (eC (.str "use")))) (sRet (eIf (bOf (eBin eqD (eUn lenD (eVar 0)) (eC (.int 2)))) (eIf (bOf (eCall 1 g_is_name (aCons (eBin ixD (eVar 0) (eC (.int 1))) aNil))) (eBin inD (eBin ixD (eVar 0) (eC (.int 1))) (eVar 1)) (eC (.bl false))) (eC (.bl false)))) sNil)
  (sSeq (sIf (bOf (eBin eqD (eBin ixD (eVar 0) (eC (.int 0))) (eC (.str "either")))) (sRet (eIf (bOf (eBin eqD (eUn lenD (eVar 0)) (eC (.int 3)))) (eUn allD (eComp (iSeqD (eSl (eVar 0) (oSome (eC (.int 1))) oNone)) (gNm 3) bT (eCall 3 g (aCons (eVar 3) (aCons (eVar 1) (aCons (eVar 2) aNil)))) [3])) (eC (.bl false)))) sNil)
  (sSeq (sIf (bOf (eBin eqD (eBin ixD (eVar 0) (eC (.int 0))) (eC (.str "let")))) (sSeq (sIf (bOr (bOf (eBin neD (eUn lenD (eVar 0)) (eC (.int 4)))) (bOr (bNot (bOf (eCall 1 g_is_name (aCons (eBin ixD (eVar 0) (eC (.int 1))) aNil)))) (bNot (bOf (eCall 3 g (aCons (eBin ixD (eVar 0) (eC (.int 2))) (aCons (eVar 1) (aCons (eVar 2) aNil)))))))) (sRet (eC (.bl false))) sNil)
  (sRet (eCall 3 g (aCons (eBin ixD (eVar 0) (eC (.int 3))) (aCons (eBin addD (eVar 1) (eLst (aCons (eBin ixD (eVar 0) (eC (.int 1))) aNil))) (aCons (eVar 2) aNil)))))) sNil)
  (sSeq (sIf (bOr (bOf (eBin neD (eBin ixD (eVar 0) (eC (.int 0))) (eC (.str "call")))) (bOr (bOf (eBin neD (eUn lenD (eVar 0)) (eC (.int 3)))) (bOr (bNot (bOf (eCall 1 g_is_name (aCons (eBin ixD (eVar 0) (eC (.int 1))) aNil)))) (bOf (eBin ninD (eBin ixD (eVar 0) (eC (.int 1))) (eVar 2)))))) (sRet (eC (.bl false))) sNil)
  (sSeq (sIf (bOr (bNot (bOf (eUn (isiD "tuple") (eBin ixD (eVar 0) (eC (.int 2)))))) (bOf (eBin neD (eUn lenD (eBin ixD (eVar 0) (eC (.int 2)))) (eBin addD (eC (.int 1)) (eUn lenD (eBin ixD (eBin dixD (eVar 2) (eBin ixD (eVar 0) (eC (.int 1)))) (eC (.int 2)))))))) (sRet (eC (.bl false))) sNil)
  (sRet (eUn allD (eComp (iSeqD (eBin ixD (eVar 0) (eC (.int 2)))) (gNm 3) bT (eCall 3 g (aCons (eVar 3) (aCons (eVar 1) (aCons (eVar 2) aNil)))) [3])))))))))
def g_is_expression {ρ : Type} : Nat → List D → ρ → Option (D × ρ)
  | 0 => fun _ _ => none
  | j + 1 => gOf N_is_expression (b_is_expression (g_is_expression j))
theorem bd_is_expression {ρ : Type} {I : Wd ρ} {K : PySem.W.Frag} {P : Program} {w : World} {mg : Str → Option Value} {base : Heap} {cl : Str → Addr} {f : Addr} (T : Top K P w mg base cl) {j : Nat} (ih : Fn I K P w mg base (1 + j) "is_expression" 3 (g_is_expression j)) (cdv : Value) (A : Around) (outer : List PySem.Env) (s : Shared) (H : Hp) (E : XK)
    (hr : Room (1 + j) (A.deeper (envOfC "is_expression" (defScope s_is_expression) s.heap.objs.size f cdv))) : ∃ O', Bd I (cxOf CX0 P w K mg base N_is_expression "is_expression" (defScope s_is_expression) f cdv A outer s H E).nox [] (defBody s_is_expression) (b_is_expression (g_is_expression j)) O' := by
  have hN := (sc_is_expression).nd
  have hu : (A.deeper (envOfC "is_expression" (defScope s_is_expression) s.heap.objs.size f cdv)).units < cLine := hr.units0
  have hu1 : (A.deeper (envOfC "is_expression" (defScope s_is_expression) s.heap.objs.size f cdv)).units + 1 < cLine := by have := hr.units; omega
  exact ⟨[], (bd_cons (sd_if (td_bool (wt_or (td_not (td_val (ed_isi (ed_var (i := 0)).b (by rfl) T.b_isinstance bl_isinstance (by rfl) T.b_tuple bl_tuple))) (wt_or (td_cmp (opd_eq hu) (ed_callB cd_len (ed_var (i := 0)).b (by rfl) T.b_len bl_len).b ed_int.b) (wt_or1 (td_not (td_val (ed_isi (ed_ix (ed_var (i := 0)).b ed_int.b).b (by rfl) T.b_isinstance bl_isinstance (by rfl) T.b_str bl_str))))))) (bd_one (sd_ret ed_bl.b)) bd_nil)
  (bd_cons (sd_if (td_cmp (opd_eq hu) (ed_ix (ed_var (i := 0)).b ed_int.b).b ed_str.b) (bd_one (sd_ret (ed_and (ed_cmp (opd_eq hu) (ed_callB cd_len (ed_var (i := 0)).b (by rfl) T.b_len bl_len).b ed_int.b) (ed_and (ed_call (Fn.mono (fn_is_name T) (by omega)) hr (ad_cons (ed_ix (ed_var (i := 0)).b ed_int.b) ad_nil)) (ed_one (ed_cmp (opd_in hu1) (ed_ix (ed_var (i := 0)).b ed_int.b).b (ed_var (i := 1)).b)))).b)) bd_nil)
  (bd_cons (sd_if (td_cmp (opd_eq hu) (ed_ix (ed_var (i := 0)).b ed_int.b).b ed_str.b) (bd_one (sd_ret (ed_and (ed_cmp (opd_eq hu) (ed_callB cd_len (ed_var (i := 0)).b (by rfl) T.b_len bl_len).b ed_int.b) (ed_one (ed_callB (cd_all rfl) (Ef.d eComp_lst (ef_comp (own := [(("one" : Str), 3)]) rfl hN (wk_seq (ed_sl (ed_var (i := 0)).b (od_some ed_int) od_none)) (blkOk_by (by rfl)) (fun _ _ _ _ _ => (gd_name (i := 3) hN)) (fun _ _ _ _ _ => tds_nil) (fun _ _ _ _ _ => (ed_call ih hr (ad_cons (ed_var (i := 3)) (ad_cons (ed_var (i := 1)) (ad_cons (ed_var (i := 2)) ad_nil))))))).b (by rfl) T.b_all bl_all))).b)) bd_nil)
  (bd_cons (sd_if (td_cmp (opd_eq hu) (ed_ix (ed_var (i := 0)).b ed_int.b).b ed_str.b) (bd_cons (sd_if (td_bool (wt_or (td_cmp (opd_ne hu) (ed_callB cd_len (ed_var (i := 0)).b (by rfl) T.b_len bl_len).b ed_int.b) (wt_or (td_not (td_val (ed_call (Fn.mono (fn_is_name T) (by omega)) hr (ad_cons (ed_ix (ed_var (i := 0)).b ed_int.b) ad_nil)))) (wt_or1 (td_not (td_val (ed_call ih hr (ad_cons (ed_ix (ed_var (i := 0)).b ed_int.b) (ad_cons (ed_var (i := 1)) (ad_cons (ed_var (i := 2)) ad_nil)))))))))) (bd_one (sd_ret ed_bl.b)) bd_nil)
  (bd_one (sd_ret (ed_call ih hr (ad_cons (ed_ix (ed_var (i := 0)).b ed_int.b) (ad_cons (ed_op opd_add (ed_var (i := 1)).b (ed_lst (ad_cons (ed_ix (ed_var (i := 0)).b ed_int.b) ad_nil)).b) (ad_cons (ed_var (i := 2)) ad_nil)))).b))) bd_nil)
  (bd_cons (sd_if (td_bool (wt_or (td_cmp (opd_ne hu) (ed_ix (ed_var (i := 0)).b ed_int.b).b ed_str.b) (wt_or (td_cmp (opd_ne hu) (ed_callB cd_len (ed_var (i := 0)).b (by rfl) T.b_len bl_len).b ed_int.b) (wt_or (td_not (td_val (ed_call (Fn.mono (fn_is_name T) (by omega)) hr (ad_cons (ed_ix (ed_var (i := 0)).b ed_int.b) ad_nil)))) (wt_or1 (td_cmp (opd_nin hu1) (ed_ix (ed_var (i := 0)).b ed_int.b).b (ed_var (i := 2)).b)))))) (bd_one (sd_ret ed_bl.b)) bd_nil)
  (bd_cons (sd_if (td_bool (wt_or (td_not (td_val (ed_isi (ed_ix (ed_var (i := 0)).b ed_int.b).b (by rfl) T.b_isinstance bl_isinstance (by rfl) T.b_tuple bl_tuple))) (wt_or1 (td_cmp (opd_ne hu) (ed_callB cd_len (ed_ix (ed_var (i := 0)).b ed_int.b).b (by rfl) T.b_len bl_len).b (ed_op opd_add ed_int.b (ed_callB cd_len (ed_ix (ed_dix hu1 (ed_var (i := 2)).b (ed_ix (ed_var (i := 0)).b ed_int.b).b).b ed_int.b).b (by rfl) T.b_len bl_len).b).b)))) (bd_one (sd_ret ed_bl.b)) bd_nil)
  (bd_one (sd_ret (ed_callB (cd_all rfl) (Ef.d eComp_lst (ef_comp (own := [(("one" : Str), 3)]) rfl hN (wk_seq (ed_ix (ed_var (i := 0)).b ed_int.b)) (blkOk_by (by rfl)) (fun _ _ _ _ _ => (gd_name (i := 3) hN)) (fun _ _ _ _ _ => tds_nil) (fun _ _ _ _ _ => (ed_call ih hr (ad_cons (ed_var (i := 3)) (ad_cons (ed_var (i := 1)) (ad_cons (ed_var (i := 2)) ad_nil))))))).b (by rfl) T.b_all bl_all).b))))))))⟩
theorem fn_is_expression {ρ : Type} {I : Wd ρ} {K : PySem.W.Frag} {P : Program} {w : World} {mg : Str → Option Value} {base : Heap} {cl : Str → Addr} (T : Top K P w mg base cl) : ∀ {j : Nat}, Fn I K P w mg base (1 + j) "is_expression" 3 (g_is_expression j)
  | 0 => by
    obtain ⟨f, fd, F, hm⟩ := T.f_is_expression
    exact fn_zero (ps := P_is_expression) F hm (fun _ _ _ _ _ _ us hl => match us, hl with | [_, _, _], _ => rfl)
  | j + 1 => by
    obtain ⟨f, fd, F, hm⟩ := T.f_is_expression
    have ih := fn_is_expression (I := I) T (j := j)
    exact fnD_of (k := 1 + j) F sc_is_expression hm (fun _ _ _ _ _ _ us hl => match us, hl with | [_, _, _], _ => rfl) fun cdv A outer s H E hr => bd_end (bd_is_expression T ih cdv A outer s H E hr)
def fuel_is_expression : Nat := 45
/-! inner_ones -/
abbrev N_inner_ones : List Str := ["body"]
abbrev P_inner_ones : List Str := ["body"]
theorem sc_inner_ones : FnScope N_inner_ones P_inner_ones (defScope s_inner_ones) := ⟨rfl, rfl, rfl, by decide +kernel, rfl, by decide +kernel, by decide +kernel⟩
def b_inner_ones {ρ : Type} : SS ρ :=
  (sSeq (sIf (bOf (eBin eqD (eBin ixD (eVar 0) (eC (.int 0))) (eC (.str "use")))) (sRet (eTup aNil)) sNil)
  (sSeq (sIf (bOf (eBin eqD (eBin ixD (eVar 0) (eC (.int 0))) (eC (.str "call")))) (sRet (eBin ixD (eVar 0) (eC (.int 2)))) sNil)
  (sRet (eIf (bOf (eBin eqD (eBin ixD (eVar 0) (eC (.int 0))) (eC (.str "either")))) (eSl (eVar 0) (oSome (eC (.int 1))) oNone) (eSl (eVar 0) (oSome (eC (.int 2))) oNone)))))
def g_inner_ones {ρ : Type} : List D → ρ → Option (D × ρ) := gOf N_inner_ones b_inner_ones
theorem bd_inner_ones {ρ : Type} {I : Wd ρ} {K : PySem.W.Frag} {P : Program} {w : World} {mg : Str → Option Value} {base : Heap} {cl : Str → Addr} {f : Addr} (T : Top K P w mg base cl) (cdv : Value) (A : Around) (outer : List PySem.Env) (s : Shared) (H : Hp) (E : XK)
    (hr : Room (0) (A.deeper (envOfC "inner_ones" (defScope s_inner_ones) s.heap.objs.size f cdv))) : ∃ O', Bd I (cxOf CX0 P w K mg base N_inner_ones "inner_ones" (defScope s_inner_ones) f cdv A outer s H E).nox [] (defBody s_inner_ones) (b_inner_ones (ρ := ρ)) O' := by
  have hN := (sc_inner_ones).nd
  have hu : (A.deeper (envOfC "inner_ones" (defScope s_inner_ones) s.heap.objs.size f cdv)).units < cLine := hr.units0
  have hu1 : (A.deeper (envOfC "inner_ones" (defScope s_inner_ones) s.heap.objs.size f cdv)).units + 1 < cLine := by have := hr.units; omega
  exact ⟨[], (bd_cons (sd_if (td_cmp (opd_eq hu) (ed_ix (ed_var (i := 0)).b ed_int.b).b ed_str.b) (bd_one (sd_ret (ed_tup ad_nil).b)) bd_nil)
  (bd_cons (sd_if (td_cmp (opd_eq hu) (ed_ix (ed_var (i := 0)).b ed_int.b).b ed_str.b) (bd_one (sd_ret (ed_ix (ed_var (i := 0)).b ed_int.b).b)) bd_nil)
  (bd_one (sd_ret (ed_if (td_cmp (opd_eq hu) (ed_ix (ed_var (i := 0)).b ed_int.b).b ed_str.b) (ed_sl (ed_var (i := 0)).b (od_some ed_int) od_none) (ed_sl (ed_var (i := 0)).b (od_some ed_int) od_none)).b))))⟩
theorem ok_inner_ones {ρ : Type} {I : Wd ρ} {K : PySem.W.Frag} {P : Program} {w : World} {mg : Str → Option Value} {base : Heap} {cl : Str → Addr} {f : Addr} {fd : FuncData} (T : Top K P w mg base cl) (F : FunD K "inner_ones" "inner_ones" (defArgs s_inner_ones) (defBody s_inner_ones) (defScope s_inner_ones) [] [] f fd) : FnOk P w K mg base CX0 1 f fd P_inner_ones (spD I K 1 g_inner_ones) :=
  fnok_of (k := 0) F sc_inner_ones fun cdv A outer s H E hr => bd_end (bd_inner_ones T cdv A outer s H E hr)
theorem fn_inner_ones {ρ : Type} {I : Wd ρ} {K : PySem.W.Frag} {P : Program} {w : World} {mg : Str → Option Value} {base : Heap} {cl : Str → Addr} (T : Top K P w mg base cl) : Fn I K P w mg base 1 "inner_ones" 1 g_inner_ones := by
  obtain ⟨f, fd, F, hm⟩ := T.f_inner_ones
  exact ⟨f, fd, P_inner_ones, ok_inner_ones T F, hm, F.kp, F.bindsN (fun _ _ _ _ _ _ us hl => match us, hl with | [_], _ => rfl)⟩
/-! nodes_of -/
abbrev N_nodes_of : List Str := ["body", "found", "waiting", "here", "is_open", "one"]
abbrev P_nodes_of : List Str := ["body"]
theorem sc_nodes_of : FnScope N_nodes_of P_nodes_of (defScope s_nodes_of) := ⟨rfl, rfl, rfl, by decide +kernel, rfl, by decide +kernel, by decide +kernel⟩
def b_nodes_of {ρ : Type} : SS ρ :=
  (sSeq (sPar [1, 2] (aCons (eLst aNil) (aCons (eLst (aCons (eTup (aCons (eVar 0) (aCons (eC (.bl false)) aNil))) aNil)) aNil)))
  (sSeq (sWhile (bOf (eBin neD (eVar 2) (eLst aNil))) (sSeq (sPop 2 (gTp (gC (gNm 3) (gC (gNm 4) gN))))
  (sIf (bOf (eVar 4)) (sApp 1 (eVar 3)) (sSeq (sApp 2 (eTup (aCons (eVar 3) (aCons (eC (.bl true)) aNil))))
  (sExt 2 (eComp (iSeqD (eUn revD (eCall 1 g_inner_ones (aCons (eVar 3) aNil)))) (gNm 5) bT (eTup (aCons (eVar 5) (aCons (eC (.bl false)) aNil))) [5]))))) fuelW)
  (sRet (eVar 1))))
def g_nodes_of {ρ : Type} : List D → ρ → Option (D × ρ) := gOf N_nodes_of b_nodes_of
theorem bd_nodes_of {ρ : Type} {I : Wd ρ} {K : PySem.W.Frag} {P : Program} {w : World} {mg : Str → Option Value} {base : Heap} {cl : Str → Addr} {f : Addr} (T : Top K P w mg base cl) (cdv : Value) (A : Around) (outer : List PySem.Env) (s : Shared) (H : Hp) (E : XK)
    (hr : Room (1) (A.deeper (envOfC "nodes_of" (defScope s_nodes_of) s.heap.objs.size f cdv))) : ∃ O', Bd I (cxOf CX0 P w K mg base N_nodes_of "nodes_of" (defScope s_nodes_of) f cdv A outer s H E).nox [] (defBody s_nodes_of) (b_nodes_of (ρ := ρ)) O' := by
  have hN := (sc_nodes_of).nd
  have hu : (A.deeper (envOfC "nodes_of" (defScope s_nodes_of) s.heap.objs.size f cdv)).units < cLine := hr.units0
  have hu1 : (A.deeper (envOfC "nodes_of" (defScope s_nodes_of) s.heap.objs.size f cdv)).units + 1 < cLine := by have := hr.units; omega
  exact ⟨[], (bd_cons (sd_par2 (i := 1) (j := 2) rfl hN (pd_f eLst_lst (ef_lst ad_nil) (pd_f eLst_lst (ef_lst (ad_cons (ed_tup (ad_cons (ed_var (i := 0)) (ad_cons ed_bl ad_nil))) ad_nil)) pd_nil)))
  (bd_cons (sd_while fuelW PassesOwn.never (td_cmp (opd_ne hu) (eb_var (i := 2)) (ed_lst ad_nil).b) (bd_cons (sd_pop (i := 2) (gd_tup rfl (gds_cons (gd_name (i := 3) hN) (gds_cons (gd_name (i := 4) hN) gds_nil))))
  (bd_one (sd_if (td_val (ed_var (i := 4))) (bd_one (sd_app (i := 1) (ed_var (i := 3)))) (bd_cons (sd_app (i := 2) (ed_tup (ad_cons (ed_var (i := 3)) (ad_cons ed_bl ad_nil))))
  (bd_one (sd_ext (i := 2) (Ef.d eComp_lst (ef_comp (own := [(("one" : Str), 5)]) rfl hN (wk_seq (ed_rev (ed_call (Fn.mono (fn_inner_ones T) (by decide)) hr (ad_cons (ed_var (i := 3)) ad_nil)))) (blkOk_by (by rfl)) (fun _ _ _ _ _ => (gd_name (i := 5) hN)) (fun _ _ _ _ _ => tds_nil) (fun _ _ _ _ _ => (ed_tup (ad_cons (ed_var (i := 5)) (ad_cons ed_bl ad_nil)))))))))))))
  (bd_one (sd_ret (eb_var (i := 1))))))⟩
theorem ok_nodes_of {ρ : Type} {I : Wd ρ} {K : PySem.W.Frag} {P : Program} {w : World} {mg : Str → Option Value} {base : Heap} {cl : Str → Addr} {f : Addr} {fd : FuncData} (T : Top K P w mg base cl) (F : FunD K "nodes_of" "nodes_of" (defArgs s_nodes_of) (defBody s_nodes_of) (defScope s_nodes_of) [] [] f fd) : FnOk P w K mg base CX0 2 f fd P_nodes_of (spD I K 1 g_nodes_of) :=
  fnok_of (k := 1) F sc_nodes_of fun cdv A outer s H E hr => bd_end (bd_nodes_of T cdv A outer s H E hr)
theorem fn_nodes_of {ρ : Type} {I : Wd ρ} {K : PySem.W.Frag} {P : Program} {w : World} {mg : Str → Option Value} {base : Heap} {cl : Str → Addr} (T : Top K P w mg base cl) : Fn I K P w mg base 2 "nodes_of" 1 g_nodes_of := by
  obtain ⟨f, fd, F, hm⟩ := T.f_nodes_of
  exact ⟨f, fd, P_nodes_of, ok_nodes_of T F, hm, F.kp, F.bindsN (fun _ _ _ _ _ _ us hl => match us, hl with | [_], _ => rfl)⟩
/-! is_definition -/
abbrev N_is_definition : List Str := ["value", "signs", "sign", "inputs", "one"]
abbrev P_is_definition : List Str := ["value", "signs"]
theorem sc_is_definition : FnScope N_is_definition P_is_definition (defScope s_is_definition) := ⟨rfl, rfl, rfl, by decide +kernel, rfl, by decide +kernel, by decide +kernel⟩
def b_is_definition {ρ : Type} : SS ρ :=
  (sSeq (sIf (bOr (bNot (bOf (eUn (isiD "tuple") (eVar 0)))) (bOr (bOf (eBin neD (eUn lenD (eVar 0)) (eC (.int 3)))) (bOr (bNot (bOf (eCall 1 g_is_name (aCons (eBin ixD (eVar 0) (eC (.int 0))) aNil)))) (bOf (eBin ninD (eBin ixD (eVar 0) (eC (.int 0))) (eVar 1)))))) (sRet (eC (.bl false))) sNil)
  (sSeq (sPar [2, 3] (aCons (eBin dixD (eVar 1) (eBin ixD (eVar 0) (eC (.int 0)))) (aCons (eBin ixD (eVar 0) (eC (.int 1))) aNil)))
  (sSeq (sIf (bOr (bOf (eBin neD (eUn lenD (eBin ixD (eVar 2) (eC (.int 1)))) (eC (.int 1)))) (bOr (bNot (bOf (eUn (isiD "tuple") (eVar 3)))) (bOf (eBin neD (eUn lenD (eVar 3)) (eBin addD (eC (.int 1)) (eUn lenD (eBin ixD (eVar 2) (eC (.int 2))))))))) (sRet (eC (.bl false))) sNil)
  (sSeq (sIf (bOr (bNot (bOf (eUn allD (eComp (iSeqD (eVar 3)) (gNm 4) bT (eCall 1 g_is_name (aCons (eVar 4) aNil)) [4])))) (bOf (eBin neD (eUn lenD (eDComp (iSeqD (eVar 3)) (gNm 4) bT (eVar 4) (eC (.bl true)) [4])) (eUn lenD (eVar 3))))) (sRet (eC (.bl false))) sNil)
  (sRet (eIf (bOf (eCall 3 (g_is_expression fuel_is_expression) (aCons (eBin ixD (eVar 0) (eC (.int 2))) (aCons (eUn listD (eVar 3)) (aCons (eVar 1) aNil))))) (eBin leD (eUn lenD (eCall 1 g_nodes_of (aCons (eBin ixD (eVar 0) (eC (.int 2))) aNil))) (eC (.int 60))) (eC (.bl false))))))))
def g_is_definition {ρ : Type} : List D → ρ → Option (D × ρ) := gOf N_is_definition b_is_definition
theorem bd_is_definition {ρ : Type} {I : Wd ρ} {K : PySem.W.Frag} {P : Program} {w : World} {mg : Str → Option Value} {base : Heap} {cl : Str → Addr} {f : Addr} (T : Top K P w mg base cl) (cdv : Value) (A : Around) (outer : List PySem.Env) (s : Shared) (H : Hp) (E : XK)
    (hr : Room (46) (A.deeper (envOfC "is_definition" (defScope s_is_definition) s.heap.objs.size f cdv))) : ∃ O', Bd I (cxOf CX0 P w K mg base N_is_definition "is_definition" (defScope s_is_definition) f cdv A outer s H E).nox [] (defBody s_is_definition) (b_is_definition (ρ := ρ)) O' := by
  have hN := (sc_is_definition).nd
  have hu : (A.deeper (envOfC "is_definition" (defScope s_is_definition) s.heap.objs.size f cdv)).units < cLine := hr.units0
  have hu1 : (A.deeper (envOfC "is_definition" (defScope s_is_definition) s.heap.objs.size f cdv)).units + 1 < cLine := by have := hr.units; omega
  obtain ⟨t_MOST_NODES, h_MOST_NODES⟩ := T.c_MOST_NODES
  exact ⟨[], (bd_cons (sd_if (td_bool (wt_or (td_not (td_val (ed_isi (ed_var (i := 0)).b (by rfl) T.b_isinstance bl_isinstance (by rfl) T.b_tuple bl_tuple))) (wt_or (td_cmp (opd_ne hu) (ed_callB cd_len (ed_var (i := 0)).b (by rfl) T.b_len bl_len).b ed_int.b) (wt_or (td_not (td_val (ed_call (Fn.mono (fn_is_name T) (by decide)) hr (ad_cons (ed_ix (ed_var (i := 0)).b ed_int.b) ad_nil)))) (wt_or1 (td_cmp (opd_nin hu1) (ed_ix (ed_var (i := 0)).b ed_int.b).b (ed_var (i := 1)).b)))))) (bd_one (sd_ret ed_bl.b)) bd_nil)
  (bd_cons (sd_par2 (i := 2) (j := 3) rfl hN (pd_d (ed_dix hu1 (ed_var (i := 1)).b (ed_ix (ed_var (i := 0)).b ed_int.b).b) (pd_d (ed_ix (ed_var (i := 0)).b ed_int.b) pd_nil)))
  (bd_cons (sd_if (td_bool (wt_or (td_cmp (opd_ne hu) (ed_callB cd_len (ed_ix (ed_var (i := 2)).b ed_int.b).b (by rfl) T.b_len bl_len).b ed_int.b) (wt_or (td_not (td_val (ed_isi (ed_var (i := 3)).b (by rfl) T.b_isinstance bl_isinstance (by rfl) T.b_tuple bl_tuple))) (wt_or1 (td_cmp (opd_ne hu) (ed_callB cd_len (ed_var (i := 3)).b (by rfl) T.b_len bl_len).b (ed_op opd_add ed_int.b (ed_callB cd_len (ed_ix (ed_var (i := 2)).b ed_int.b).b (by rfl) T.b_len bl_len).b).b))))) (bd_one (sd_ret ed_bl.b)) bd_nil)
  (bd_cons (sd_if (td_bool (wt_or (td_not (td_val (ed_callB (cd_all rfl) (Ef.d eComp_lst (ef_comp (own := [(("one" : Str), 4)]) rfl hN (wk_seq (ed_var (i := 3))) (blkOk_by (by rfl)) (fun _ _ _ _ _ => (gd_name (i := 4) hN)) (fun _ _ _ _ _ => tds_nil) (fun _ _ _ _ _ => (ed_call (Fn.mono (fn_is_name T) (by decide)) hr (ad_cons (ed_var (i := 4)) ad_nil))))).b (by rfl) T.b_all bl_all))) (wt_or1 (td_cmp (opd_ne hu) (ed_callB cd_len (ed_dcomp (own := [(("one" : Str), 4)]) rfl hN (wk_seq (ed_var (i := 3))) (blkOk_by (by rfl)) (fun _ _ _ _ _ => (gd_name (i := 4) hN)) (fun _ _ _ _ _ => tds_nil) (fun _ _ _ _ _ => (ed_var (i := 4))) (fun _ _ _ _ _ => ed_bl)).b (by rfl) T.b_len bl_len).b (ed_callB cd_len (ed_var (i := 3)).b (by rfl) T.b_len bl_len).b)))) (bd_one (sd_ret ed_bl.b)) bd_nil)
  (bd_one (sd_ret (ed_and (ed_call (Fn.mono (fn_is_expression T (j := fuel_is_expression)) (by decide)) hr (ad_cons (ed_ix (ed_var (i := 0)).b ed_int.b) (ad_cons (ed_callTy cd_list (ed_var (i := 3)).b (by rfl) T.b_list bl_list) (ad_cons (ed_var (i := 1)) ad_nil)))) (ed_one (ed_cmp opd_le (ed_callB cd_len (ed_call (Fn.mono (fn_nodes_of T) (by decide)) hr (ad_cons (ed_ix (ed_var (i := 0)).b ed_int.b) ad_nil)).b (by rfl) T.b_len bl_len).b (ed_glob (v := (.int 60)) (by rfl) h_MOST_NODES ⟨_, rfl⟩ (fun _ _ => .int _)).b))).b))))))⟩
theorem ok_is_definition {ρ : Type} {I : Wd ρ} {K : PySem.W.Frag} {P : Program} {w : World} {mg : Str → Option Value} {base : Heap} {cl : Str → Addr} {f : Addr} {fd : FuncData} (T : Top K P w mg base cl) (F : FunD K "is_definition" "is_definition" (defArgs s_is_definition) (defBody s_is_definition) (defScope s_is_definition) [] [] f fd) : FnOk P w K mg base CX0 47 f fd P_is_definition (spD I K 2 g_is_definition) :=
  fnok_of (k := 46) F sc_is_definition fun cdv A outer s H E hr => bd_end (bd_is_definition T cdv A outer s H E hr)
theorem fn_is_definition {ρ : Type} {I : Wd ρ} {K : PySem.W.Frag} {P : Program} {w : World} {mg : Str → Option Value} {base : Heap} {cl : Str → Addr} (T : Top K P w mg base cl) : Fn I K P w mg base 47 "is_definition" 2 g_is_definition := by
  obtain ⟨f, fd, F, hm⟩ := T.f_is_definition
  exact ⟨f, fd, P_is_definition, ok_is_definition T F, hm, F.kp, F.bindsN (fun _ _ _ _ _ _ us hl => match us, hl with | [_, _], _ => rfl)⟩
/-! need_module -/
abbrev N_need_module : List Str := ["module", "error", "signs", "definitions", "last", "number", "definition"]
abbrev P_need_module : List Str := ["module"]
theorem sc_need_module : FnScope N_need_module P_need_module (defScope s_need_module) := ⟨rfl, rfl, rfl, by decide +kernel, rfl, by decide +kernel, by decide +kernel⟩
def bx_need_module {ρ : Type} : SX ρ :=
  (xSeq (xIf (bOr (bNot (bOf (eUn (isiD "tuple") (eVar 0)))) (bOf (eBin neD (eUn lenD (eVar 0)) (eC (.int 3))))) (xRaise "BadModule" "place" (eTup aNil)) (xOk sNil))
  (xSeq (xTryR 1 (aCons (eBin ixD (eVar 0) (eC (.int 0))) aNil) gx_need_axioms "BadAxioms" "BadModule" "place" (fun y => (eBin addD (eTup (aCons (eC (.int 0)) aNil)) (eXs "place" y))))
  (xSeq (xAsg (xCall gx_need_signatures (aCons (eBin ixD (eVar 0) (eC (.int 1))) aNil)) (gNm 2))
  (xSeq (xOk (sPar [3, 4] (aCons (eBin ixD (eVar 0) (eC (.int 2))) (aCons (eC (.str "")) aNil))))
  (xSeq (xIf (bOr (bNot (bOf (eUn (isiD "tuple") (eVar 3)))) (bOf (eBin gtD (eUn lenD (eVar 3)) (eC (.int 12))))) (xRaise "BadModule" "place" (eTup (aCons (eC (.int 2)) aNil))) (xOk sNil))
  (xSeq (xFor (iEnumD (eVar 3)) (gTp (gC (gNm 5) (gC (gNm 6) gN))) (xSeq (xIf (bOr (bNot (bOf (eCall 2 g_is_definition (aCons (eVar 6) (aCons (eVar 2) aNil))))) (bOf (eBin leD (eBin ixD (eVar 6) (eC (.int 0))) (eVar 4)))) (xRaise "BadModule" "place" (eTup (aCons (eC (.int 2)) (aCons (eVar 5) aNil)))) (xOk sNil))
  (xOk (sAsg (eBin ixD (eVar 6) (eC (.int 0))) (gNm 4)))))
  (xOk (sRet (eVar 0)))))))))
def gx_need_module {ρ : Type} : GX ρ := gXOf N_need_module bx_need_module
def g_need_module {ρ : Type} : List D → ρ → Option (D × ρ) := plainG gx_need_module
theorem okx_need_module {ρ : Type} {I : Wd ρ} {K : PySem.W.Frag} {P : Program} {w : World} {mg : Str → Option Value} {base : Heap} {cl : Str → Addr} {f : Addr} {fd : FuncData} (T : Top K P w mg base cl) (F : FunD K "need_module" "need_module" (defArgs s_need_module) (defBody s_need_module) (defScope s_need_module) [] [] f fd) : FnOk P w K mg base (L2.CX P w) 48 f fd P_need_module (spX I K cl 1 gx_need_module) := by
  refine fnokX_of (k := 47) F sc_need_module fun cdv A outer s H E hr => ?_
  have hN := (sc_need_module).nd
  have hu : (A.deeper (envOfC "need_module" (defScope s_need_module) s.heap.objs.size f cdv)).units < cLine := hr.units0
  have hu1 : (A.deeper (envOfC "need_module" (defScope s_need_module) s.heap.objs.size f cdv)).units + 1 < cLine := by have := hr.units; omega
  have tk : L2.Takes (cxOf (L2.CX P w) P w K mg base N_need_module "need_module" (defScope s_need_module) f cdv A outer s H E) fun cls d _ H => E cls d H := L2.takes_of rfl rfl rfl rfl
  obtain ⟨t_MOST_LISTED, h_MOST_LISTED⟩ := T.c_MOST_LISTED
  obtain ⟨fI_BadModule, fd_BadModule, ps_BadModule, iC_BadModule, tI_BadModule, F_BadModule, FH_BadModule, bI_BadModule⟩ := T.x_BadModule.ini
  exact ⟨[], (bx_cons (sx_if (td_bool (wt_or (td_not (td_val (ed_isi (ed_var (i := 0)).b (by rfl) T.b_isinstance bl_isinstance (by rfl) T.b_tuple bl_tuple))) (wt_or1 (td_cmp (opd_ne hu) (ed_callB cd_len (ed_var (i := 0)).b (by rfl) T.b_len bl_len).b ed_int.b)))) (bx_one (sx_raise2 (C := "BadModule") (fl := "place") T.x_BadModule (hr.mono (by decide)) rfl tk (ed_tup ad_nil))) (bx_of bd_nil))
  (bx_cons (sx_try_raise (i := 1) (m := 1) (c0 := "BadAxioms") (c := cl "BadAxioms") (C1 := "BadModule") (fl := "place") (fe := fun a dd => (eBin addD (eTup (aCons (eC (.int 0)) aNil)) (eXf 1 a dd "place"))) rfl rfl hN rfl rfl rfl (by exact ⟨rfl, rfl, .inl T.x_BadAxioms.mgc⟩) T.m_BadAxioms_BadAxioms T.x_BadAxioms.xf.exC tk (fun hd => L2H.passesAt_of rfl hd) (FnX.mono (fx_need_axioms T) (by decide)) hr (fun pn xe => (ad_cons (ed_ix (ed_var (i := 0)).b ed_int.b) ad_nil)) rfl rfl rfl rfl rfl rfl T.x_BadModule.T iC_BadModule tI_BadModule FH_BadModule bI_BadModule (hr.mono (by decide)) rfl T.x_BadModule.mgc rfl rfl (fun W a oe dd pn hz hf => (ed_op opd_add (ed_tup (ad_cons ed_int ad_nil)).b (ed_xf (i := 1) T.x_BadAxioms.xf T.x_BadAxioms.no hz hf (List.mem_cons_self ..)).b)) (fun a dd y env r hy hl => by simp only [eXf_set hl, eTup, eBin, aCons, aNil, eC]))
  (bx_cons (sx_asg (xe_call (FnX.mono (fx_need_signatures T) (by decide)) (passes_call tk fun _ _ _ _ h => h) hr (ad_cons (ed_ix (ed_var (i := 0)).b ed_int.b) ad_nil)) (gd_name (i := 2) hN))
  (bx_cons (sx_of (sd_par2 (i := 3) (j := 4) rfl hN (pd_d (ed_ix (ed_var (i := 0)).b ed_int.b) (pd_d ed_str pd_nil))))
  (bx_cons (sx_if (td_bool (wt_or (td_not (td_val (ed_isi (ed_var (i := 3)).b (by rfl) T.b_isinstance bl_isinstance (by rfl) T.b_tuple bl_tuple))) (wt_or1 (td_cmp opd_gt (ed_callB cd_len (ed_var (i := 3)).b (by rfl) T.b_len bl_len).b (ed_glob (v := (.int 12)) (by rfl) h_MOST_LISTED ⟨_, rfl⟩ (fun _ _ => .int _)).b)))) (bx_one (sx_raise2 (C := "BadModule") (fl := "place") T.x_BadModule (hr.mono (by decide)) rfl tk (ed_tup (ad_cons ed_int ad_nil)))) (bx_of bd_nil))
  (bx_cons (sx_for (passes_of rfl) rfl (wk_enum (by rfl) T.b_enumerate (ed_var (i := 3))) (gd_tup rfl (gds_cons (gd_name (i := 5) hN) (gds_cons (gd_name (i := 6) hN) gds_nil))) (bx_cons (sx_if (td_bool (wt_or (td_not (td_val (ed_call (Fn.mono (fn_is_definition T) (by decide)) hr (ad_cons (ed_var (i := 6)) (ad_cons (ed_var (i := 2)) ad_nil))))) (wt_or1 (td_cmp opd_le (ed_ix (ed_var (i := 6)).b ed_int.b).b (ed_var (i := 4)).b)))) (bx_one (sx_raise2 (C := "BadModule") (fl := "place") T.x_BadModule (hr.mono (by decide)) rfl tk (ed_tup (ad_cons ed_int (ad_cons (ed_var (i := 5)) ad_nil))))) (bx_of bd_nil))
  (bx_of (bd_one (sd_asg (ed_ix (ed_var (i := 6)).b ed_int.b) (gd_name (i := 4) hN))))))
  (bx_of (bd_one (sd_ret (ed_var (i := 0)).b)))))))))⟩
theorem fx_need_module {ρ : Type} {I : Wd ρ} {K : PySem.W.Frag} {P : Program} {w : World} {mg : Str → Option Value} {base : Heap} {cl : Str → Addr} (T : Top K P w mg base cl) : FnX I K (L2.CX P w) P w mg base cl 48 "need_module" 1 gx_need_module := by
  obtain ⟨f, fd, F, hm⟩ := T.f_need_module
  exact ⟨f, fd, P_need_module, okx_need_module T F, hm, F.kp, F.bindsN (fun _ _ _ _ _ _ us hl => match us, hl with | [_], _ => rfl)⟩
theorem fk_need_module {ρ : Type} {I : Wd ρ} {K : PySem.W.Frag} {P : Program} {w : World} {mg : Str → Option Value} {base : Heap} {cl : Str → Addr} (T : Top K P w mg base cl) : FnK I K P w mg base 48 "need_module" 1 g_need_module ["module"] pmId := by
  obtain ⟨f, fd, F, hm⟩ := T.f_need_module
  exact fnK_of F hm (fnok_plain no_L2 (okx_need_module T F)) (fun _ _ _ _ _ _ ws hl => match ws, hl with | [_], _ => rfl) (fun r => r)
theorem fn_need_module {ρ : Type} {I : Wd ρ} {K : PySem.W.Frag} {P : Program} {w : World} {mg : Str → Option Value} {base : Heap} {cl : Str → Addr} (T : Top K P w mg base cl) : Fn I K P w mg base 48 "need_module" 1 g_need_module := (fx_need_module T).fn no_L2
/-! is_module -/
abbrev N_is_module : List Str := ["value"]
abbrev P_is_module : List Str := ["value"]
theorem sc_is_module : FnScope N_is_module P_is_module (defScope s_is_module) := ⟨rfl, rfl, rfl, by decide +kernel, rfl, by decide +kernel, by decide +kernel⟩
def b_is_module {ρ : Type} : SS ρ :=
  (sSeq (sTryO (aCons (eVar 0) aNil) gx_need_module (fun y => decide (y = "BadModule")) (eC (.bl false)))
  (sRet (eC (.bl true))))
def g_is_module {ρ : Type} : List D → ρ → Option (D × ρ) := gOf N_is_module b_is_module
theorem bd_is_module {ρ : Type} {I : Wd ρ} {K : PySem.W.Frag} {P : Program} {w : World} {mg : Str → Option Value} {base : Heap} {cl : Str → Addr} {f : Addr} (T : Top K P w mg base cl) (cdv : Value) (A : Around) (outer : List PySem.Env) (s : Shared) (H : Hp) (E : XK)
    (hr : Room (48) (A.deeper (envOfC "is_module" (defScope s_is_module) s.heap.objs.size f cdv))) : ∃ O', Bd I (cxOf CX0 P w K mg base N_is_module "is_module" (defScope s_is_module) f cdv A outer s H E).nox [] (defBody s_is_module) (b_is_module (ρ := ρ)) O' := by
  have hN := (sc_is_module).nd
  have hu : (A.deeper (envOfC "is_module" (defScope s_is_module) s.heap.objs.size f cdv)).units < cLine := hr.units0
  have hu1 : (A.deeper (envOfC "is_module" (defScope s_is_module) s.heap.objs.size f cdv)).units + 1 < cLine := by have := hr.units; omega
  exact ⟨[], (bd_cons (sd_try_only (m := 1) rfl rfl (by exact ⟨rfl, rfl, .inl T.g_CaseError⟩) (fun y hy => by rw [of_decide_eq_true hy]; exact T.m_BadModule_CaseError) (FnX.mono (fx_need_module T) (by decide)) hr (fun pn xe => (ad_cons (ed_var (i := 0)) ad_nil)) rfl rfl rfl rfl rfl rfl (fun a oe pn => ed_bl))
  (bd_one (sd_ret ed_bl.b)))⟩
theorem ok_is_module {ρ : Type} {I : Wd ρ} {K : PySem.W.Frag} {P : Program} {w : World} {mg : Str → Option Value} {base : Heap} {cl : Str → Addr} {f : Addr} {fd : FuncData} (T : Top K P w mg base cl) (F : FunD K "is_module" "is_module" (defArgs s_is_module) (defBody s_is_module) (defScope s_is_module) [] [] f fd) : FnOk P w K mg base CX0 49 f fd P_is_module (spD I K 1 g_is_module) :=
  fnok_of (k := 48) F sc_is_module fun cdv A outer s H E hr => bd_end (bd_is_module T cdv A outer s H E hr)
theorem fn_is_module {ρ : Type} {I : Wd ρ} {K : PySem.W.Frag} {P : Program} {w : World} {mg : Str → Option Value} {base : Heap} {cl : Str → Addr} (T : Top K P w mg base cl) : Fn I K P w mg base 49 "is_module" 1 g_is_module := by
  obtain ⟨f, fd, F, hm⟩ := T.f_is_module
  exact ⟨f, fd, P_is_module, ok_is_module T F, hm, F.kp, F.bindsN (fun _ _ _ _ _ _ us hl => match us, hl with | [_], _ => rfl)⟩
theorem fk_is_module {ρ : Type} {I : Wd ρ} {K : PySem.W.Frag} {P : Program} {w : World} {mg : Str → Option Value} {base : Heap} {cl : Str → Addr} (T : Top K P w mg base cl) : FnK I K P w mg base 49 "is_module" 1 g_is_module ["value"] pmId := by
  obtain ⟨f, fd, F, hm⟩ := T.f_is_module
  exact fnK_of F hm (ok_is_module T F) (fun _ _ _ _ _ _ ws hl => match ws, hl with | [_], _ => rfl) (fun r => r)
/-! definitions_of -/
abbrev N_definitions_of : List Str := ["module", "definition"]
abbrev P_definitions_of : List Str := ["module"]
theorem sc_definitions_of : FnScope N_definitions_of P_definitions_of (defScope s_definitions_of) := ⟨rfl, rfl, rfl, by decide +kernel, rfl, by decide +kernel, by decide +kernel⟩
def b_definitions_of {ρ : Type} : SS ρ :=
  (sRet (eDComp (iSeqD (eBin ixD (eVar 0) (eC (.int 2)))) (gNm 1) bT (eBin ixD (eVar 1) (eC (.int 0))) (eVar 1) [1]))
def g_definitions_of {ρ : Type} : List D → ρ → Option (D × ρ) := gOf N_definitions_of b_definitions_of
theorem bd_definitions_of {ρ : Type} {I : Wd ρ} {K : PySem.W.Frag} {P : Program} {w : World} {mg : Str → Option Value} {base : Heap} {cl : Str → Addr} {f : Addr} (T : Top K P w mg base cl) (cdv : Value) (A : Around) (outer : List PySem.Env) (s : Shared) (H : Hp) (E : XK)
    (hr : Room (0) (A.deeper (envOfC "definitions_of" (defScope s_definitions_of) s.heap.objs.size f cdv))) : ∃ O', Bd I (cxOf CX0 P w K mg base N_definitions_of "definitions_of" (defScope s_definitions_of) f cdv A outer s H E).nox [] (defBody s_definitions_of) (b_definitions_of (ρ := ρ)) O' := by
  have hN := (sc_definitions_of).nd
  have hu : (A.deeper (envOfC "definitions_of" (defScope s_definitions_of) s.heap.objs.size f cdv)).units < cLine := hr.units0
  have hu1 : (A.deeper (envOfC "definitions_of" (defScope s_definitions_of) s.heap.objs.size f cdv)).units + 1 < cLine := by have := hr.units; omega
  exact ⟨[], (bd_one (sd_ret (ed_dcomp (own := [(("definition" : Str), 1)]) rfl hN (wk_seq (ed_ix (ed_var (i := 0)).b ed_int.b)) (blkOk_by (by rfl)) (fun _ _ _ _ _ => (gd_name (i := 1) hN)) (fun _ _ _ _ _ => tds_nil) (fun _ _ _ _ _ => (ed_ix (ed_var (i := 1)).b ed_int.b)) (fun _ _ _ _ _ => (ed_var (i := 1)))).b))⟩
theorem ok_definitions_of {ρ : Type} {I : Wd ρ} {K : PySem.W.Frag} {P : Program} {w : World} {mg : Str → Option Value} {base : Heap} {cl : Str → Addr} {f : Addr} {fd : FuncData} (T : Top K P w mg base cl) (F : FunD K "definitions_of" "definitions_of" (defArgs s_definitions_of) (defBody s_definitions_of) (defScope s_definitions_of) [] [] f fd) : FnOk P w K mg base CX0 1 f fd P_definitions_of (spD I K 1 g_definitions_of) :=
  fnok_of (k := 0) F sc_definitions_of fun cdv A outer s H E hr => bd_end (bd_definitions_of T cdv A outer s H E hr)
theorem fn_definitions_of {ρ : Type} {I : Wd ρ} {K : PySem.W.Frag} {P : Program} {w : World} {mg : Str → Option Value} {base : Heap} {cl : Str → Addr} (T : Top K P w mg base cl) : Fn I K P w mg base 1 "definitions_of" 1 g_definitions_of := by
  obtain ⟨f, fd, F, hm⟩ := T.f_definitions_of
  exact ⟨f, fd, P_definitions_of, ok_definitions_of T F, hm, F.kp, F.bindsN (fun _ _ _ _ _ _ us hl => match us, hl with | [_], _ => rfl)⟩
/-! need_definition -/
abbrev N_need_definition : List Str := ["module", "name", "found"]
abbrev P_need_definition : List Str := ["module", "name"]
theorem sc_need_definition : FnScope N_need_definition P_need_definition (defScope s_need_definition) := ⟨rfl, rfl, rfl, by decide +kernel, rfl, by decide +kernel, by decide +kernel⟩
def b_need_definition {ρ : Type} : SS ρ :=
  (sSeq (sExpr (eCall 1 g_need_module (aCons (eVar 0) aNil)))
  (sSeq (sAsg (eCall 1 g_definitions_of (aCons (eVar 0) aNil)) (gNm 2))
  (sSeq (sIf (bOr (bNot (bOf (eCall 1 g_is_name (aCons (eVar 1) aNil)))) (bOf (eBin ninD (eVar 1) (eVar 2)))) sNever sNil)
  (sRet (eBin dixD (eVar 2) (eVar 1))))))
def g_need_definition {ρ : Type} : List D → ρ → Option (D × ρ) := gOf N_need_definition b_need_definition
theorem bd_need_definition {ρ : Type} {I : Wd ρ} {K : PySem.W.Frag} {P : Program} {w : World} {mg : Str → Option Value} {base : Heap} {cl : Str → Addr} {f : Addr} (T : Top K P w mg base cl) (cdv : Value) (A : Around) (outer : List PySem.Env) (s : Shared) (H : Hp) (E : XK)
    (hr : Room (48) (A.deeper (envOfC "need_definition" (defScope s_need_definition) s.heap.objs.size f cdv))) : ∃ O', Bd I (cxOf CX0 P w K mg base N_need_definition "need_definition" (defScope s_need_definition) f cdv A outer s H E).nox [] (defBody s_need_definition) (b_need_definition (ρ := ρ)) O' := by
  have hN := (sc_need_definition).nd
  have hu : (A.deeper (envOfC "need_definition" (defScope s_need_definition) s.heap.objs.size f cdv)).units < cLine := hr.units0
  have hu1 : (A.deeper (envOfC "need_definition" (defScope s_need_definition) s.heap.objs.size f cdv)).units + 1 < cLine := by have := hr.units; omega
  exact ⟨[], (bd_cons (sd_expr (ed_call (Fn.mono (fn_need_module T) (by decide)) hr (ad_cons (ed_var (i := 0)) ad_nil)))
  (bd_cons (sd_asg (ed_call (Fn.mono (fn_definitions_of T) (by decide)) hr (ad_cons (ed_var (i := 0)) ad_nil)) (gd_name (i := 2) hN))
  (bd_cons (sd_if (td_bool (wt_or (td_not (td_val (ed_call (Fn.mono (fn_is_name T) (by decide)) hr (ad_cons (ed_var (i := 1)) ad_nil)))) (wt_or1 (td_cmp (opd_nin hu1) (ed_var (i := 1)).b (ed_var (i := 2)).b)))) (bd_one sd_never) bd_nil)
  (bd_one (sd_ret (ed_dix hu1 (ed_var (i := 2)).b (ed_var (i := 1)).b).b)))))⟩
theorem ok_need_definition {ρ : Type} {I : Wd ρ} {K : PySem.W.Frag} {P : Program} {w : World} {mg : Str → Option Value} {base : Heap} {cl : Str → Addr} {f : Addr} {fd : FuncData} (T : Top K P w mg base cl) (F : FunD K "need_definition" "need_definition" (defArgs s_need_definition) (defBody s_need_definition) (defScope s_need_definition) [] [] f fd) : FnOk P w K mg base CX0 49 f fd P_need_definition (spD I K 2 g_need_definition) :=
  fnok_of (k := 48) F sc_need_definition fun cdv A outer s H E hr => bd_end (bd_need_definition T cdv A outer s H E hr)
theorem fn_need_definition {ρ : Type} {I : Wd ρ} {K : PySem.W.Frag} {P : Program} {w : World} {mg : Str → Option Value} {base : Heap} {cl : Str → Addr} (T : Top K P w mg base cl) : Fn I K P w mg base 49 "need_definition" 2 g_need_definition := by
  obtain ⟨f, fd, F, hm⟩ := T.f_need_definition
  exact ⟨f, fd, P_need_definition, ok_need_definition T F, hm, F.kp, F.bindsN (fun _ _ _ _ _ _ us hl => match us, hl with | [_, _], _ => rfl)⟩
/-! body_nodes -/
abbrev N_body_nodes : List Str := ["module", "name"]
abbrev P_body_nodes : List Str := ["module", "name"]
theorem sc_body_nodes : FnScope N_body_nodes P_body_nodes (defScope s_body_nodes) := ⟨rfl, rfl, rfl, by decide +kernel, rfl, by decide +kernel, by decide +kernel⟩
def b_body_nodes {ρ : Type} : SS ρ :=
  (sRet (eUn tupleD (eCall 1 g_nodes_of (aCons (eBin ixD (eCall 2 g_need_definition (aCons (eVar 0) (aCons (eVar 1) aNil))) (eC (.int 2))) aNil))))
def g_body_nodes {ρ : Type} : List D → ρ → Option (D × ρ) := gOf N_body_nodes b_body_nodes
theorem bd_body_nodes {ρ : Type} {I : Wd ρ} {K : PySem.W.Frag} {P : Program} {w : World} {mg : Str → Option Value} {base : Heap} {cl : Str → Addr} {f : Addr} (T : Top K P w mg base cl) (cdv : Value) (A : Around) (outer : List PySem.Env) (s : Shared) (H : Hp) (E : XK)
    (hr : Room (49) (A.deeper (envOfC "body_nodes" (defScope s_body_nodes) s.heap.objs.size f cdv))) : ∃ O', Bd I (cxOf CX0 P w K mg base N_body_nodes "body_nodes" (defScope s_body_nodes) f cdv A outer s H E).nox [] (defBody s_body_nodes) (b_body_nodes (ρ := ρ)) O' := by
  have hN := (sc_body_nodes).nd
  have hu : (A.deeper (envOfC "body_nodes" (defScope s_body_nodes) s.heap.objs.size f cdv)).units < cLine := hr.units0
  have hu1 : (A.deeper (envOfC "body_nodes" (defScope s_body_nodes) s.heap.objs.size f cdv)).units + 1 < cLine := by have := hr.units; omega
  exact ⟨[], (bd_one (sd_ret (ed_callTy cd_tuple (ed_call (Fn.mono (fn_nodes_of T) (by decide)) hr (ad_cons (ed_ix (ed_call (Fn.mono (fn_need_definition T) (by decide)) hr (ad_cons (ed_var (i := 0)) (ad_cons (ed_var (i := 1)) ad_nil))).b ed_int.b) ad_nil)).b (by rfl) T.b_tuple bl_tuple).b))⟩
theorem ok_body_nodes {ρ : Type} {I : Wd ρ} {K : PySem.W.Frag} {P : Program} {w : World} {mg : Str → Option Value} {base : Heap} {cl : Str → Addr} {f : Addr} {fd : FuncData} (T : Top K P w mg base cl) (F : FunD K "body_nodes" "body_nodes" (defArgs s_body_nodes) (defBody s_body_nodes) (defScope s_body_nodes) [] [] f fd) : FnOk P w K mg base CX0 50 f fd P_body_nodes (spD I K 2 g_body_nodes) :=
  fnok_of (k := 49) F sc_body_nodes fun cdv A outer s H E hr => bd_end (bd_body_nodes T cdv A outer s H E hr)
theorem fn_body_nodes {ρ : Type} {I : Wd ρ} {K : PySem.W.Frag} {P : Program} {w : World} {mg : Str → Option Value} {base : Heap} {cl : Str → Addr} (T : Top K P w mg base cl) : Fn I K P w mg base 50 "body_nodes" 2 g_body_nodes := by
  obtain ⟨f, fd, F, hm⟩ := T.f_body_nodes
  exact ⟨f, fd, P_body_nodes, ok_body_nodes T F, hm, F.kp, F.bindsN (fun _ _ _ _ _ _ us hl => match us, hl with | [_, _], _ => rfl)⟩
theorem fk_body_nodes {ρ : Type} {I : Wd ρ} {K : PySem.W.Frag} {P : Program} {w : World} {mg : Str → Option Value} {base : Heap} {cl : Str → Addr} (T : Top K P w mg base cl) : FnK I K P w mg base 50 "body_nodes" 2 g_body_nodes ["name", "module"] pmRev := by
  obtain ⟨f, fd, F, hm⟩ := T.f_body_nodes
  exact fnK_of F hm (ok_body_nodes T F) (fun _ _ _ _ _ _ ws hl => match ws, hl with | [_, _], _ => rfl) (fun r => Vals.reverse r)
/-! _law_mixed -/
abbrev N_law_mixed : List Str := ["cell", "n", "blend"]
abbrev P_law_mixed : List Str := ["cell", "n"]
theorem sc_law_mixed : FnScope N_law_mixed P_law_mixed (defScope s_law_mixed) := ⟨rfl, rfl, rfl, by decide +kernel, rfl, by decide +kernel, by decide +kernel⟩
def b_law_mixed {ρ : Type} : SS ρ :=
  (sSeq (sAsg (eBin addD (eBin addD (eBin modD (eUn intD (eBin mulD (eBin mulD (eVar 0) (eBin addD (eC (.int 1)) (eBin mulD (eC (.int 2)) (eVar 1)))) (eC (.int 48271)))) (eC (.int 2147483647))) (eBin mulD (eBin mulD (eC (.int 7919)) (eVar 1)) (eVar 1))) (eBin mulD (eC (.int 104729)) (eVar 1))) (gNm 2))
  (sRet (eBin fdivD (eBin modD (eUn intD (eBin mulD (eVar 2) (eC (.int 69621)))) (eC (.int 2147483629))) (eC (.int 7)))))
def g_law_mixed {ρ : Type} : List D → ρ → Option (D × ρ) := gOf N_law_mixed b_law_mixed
theorem bd_law_mixed {ρ : Type} {I : Wd ρ} {K : PySem.W.Frag} {P : Program} {w : World} {mg : Str → Option Value} {base : Heap} {cl : Str → Addr} {f : Addr} (T : Top K P w mg base cl) (cdv : Value) (A : Around) (outer : List PySem.Env) (s : Shared) (H : Hp) (E : XK)
    (hr : Room (0) (A.deeper (envOfC "_law_mixed" (defScope s_law_mixed) s.heap.objs.size f cdv))) : ∃ O', Bd I (cxOf CX0 P w K mg base N_law_mixed "_law_mixed" (defScope s_law_mixed) f cdv A outer s H E).nox [] (defBody s_law_mixed) (b_law_mixed (ρ := ρ)) O' := by
  have hN := (sc_law_mixed).nd
  have hu : (A.deeper (envOfC "_law_mixed" (defScope s_law_mixed) s.heap.objs.size f cdv)).units < cLine := hr.units0
  have hu1 : (A.deeper (envOfC "_law_mixed" (defScope s_law_mixed) s.heap.objs.size f cdv)).units + 1 < cLine := by have := hr.units; omega
  exact ⟨[], (bd_cons (sd_asg (ed_op opd_add (ed_op opd_add (ed_op opd_mod (ed_callTy cd_int (ed_op opd_mul (ed_op opd_mul (ed_var (i := 0)).b (ed_op opd_add ed_int.b (ed_op opd_mul ed_int.b (ed_var (i := 1)).b).b).b).b ed_int.b).b (by rfl) T.b_int bl_int).b ed_int.b).b (ed_op opd_mul (ed_op opd_mul ed_int.b (ed_var (i := 1)).b).b (ed_var (i := 1)).b).b).b (ed_op opd_mul ed_int.b (ed_var (i := 1)).b).b) (gd_name (i := 2) hN))
  (bd_one (sd_ret (ed_op opd_fdiv (ed_op opd_mod (ed_callTy cd_int (ed_op opd_mul (ed_var (i := 2)).b ed_int.b).b (by rfl) T.b_int bl_int).b ed_int.b).b ed_int.b).b)))⟩
theorem ok_law_mixed {ρ : Type} {I : Wd ρ} {K : PySem.W.Frag} {P : Program} {w : World} {mg : Str → Option Value} {base : Heap} {cl : Str → Addr} {f : Addr} {fd : FuncData} (T : Top K P w mg base cl) (F : FunD K "_law_mixed" "_law_mixed" (defArgs s_law_mixed) (defBody s_law_mixed) (defScope s_law_mixed) [] [] f fd) : FnOk P w K mg base CX0 1 f fd P_law_mixed (spD I K 2 g_law_mixed) :=
  fnok_of (k := 0) F sc_law_mixed fun cdv A outer s H E hr => bd_end (bd_law_mixed T cdv A outer s H E hr)
theorem fn_law_mixed {ρ : Type} {I : Wd ρ} {K : PySem.W.Frag} {P : Program} {w : World} {mg : Str → Option Value} {base : Heap} {cl : Str → Addr} (T : Top K P w mg base cl) : Fn I K P w mg base 1 "_law_mixed" 2 g_law_mixed := by
  obtain ⟨f, fd, F, hm⟩ := T.f_law_mixed
  exact ⟨f, fd, P_law_mixed, ok_law_mixed T F, hm, F.kp, F.bindsN (fun _ _ _ _ _ _ us hl => match us, hl with | [_, _], _ => rfl)⟩
/-! _law_draw -/
abbrev N_law_draw : List Str := ["m", "limit", "n", "here", "cell"]
abbrev P_law_draw : List Str := ["m", "limit"]
theorem sc_law_draw : FnScope N_law_draw P_law_draw (defScope s_law_draw) := ⟨rfl, rfl, rfl, by decide +kernel, rfl, by decide +kernel, by decide +kernel⟩
def b_law_draw  : SS Rw :=
  (sSeq (sAsg (wGet 0 "spot") (gNm 2))
  (sSeq (wPut 0 "spot" (eBin addD (eVar 2) (eC (.int 1))))
  (sSeq (sIf (wNe 0 "great") (sSeq (sAsg (eBin modD (eUn intD (eVar 2)) (wLen 0 "great")) (gNm 3))
  (sSeq (sAsg (wIx 0 "great" (eVar 3)) (gNm 4))
  (sIf (bOf (eBin gtD (eVar 4) (eC (.int 0)))) (sSeq (wPutL 0 "great" (eVar 3) (eBin fdivD (eVar 4) (eVar 1)))
  (sRet (eBin modD (eUn intD (eVar 4)) (eVar 1)))) sNil))) sNil)
  (sRet (eBin modD (eUn intD (eCall 2 g_law_mixed (aCons (eCall 2 g_law_mixed (aCons (eBin addD (wIx 0 "small" (eBin modD (eUn intD (eVar 2)) (eC (.int 64)))) (eBin mulD (eC (.int 31)) (eBin fdivD (eVar 2) (eC (.int 64))))) (aCons (eVar 2) aNil))) (aCons (eBin addD (eVar 2) (eC (.int 7))) aNil)))) (eVar 1))))))
def g_law_draw  : List D → Rw → Option (D × Rw) := gOf N_law_draw b_law_draw
theorem bd_law_draw   {K : PySem.W.Frag} {P : Program} {w : World} {mg : Str → Option Value} {base : Heap} {cl : Str → Addr} {f : Addr} (T : Top K P w mg base cl) (cdv : Value) (A : Around) (outer : List PySem.Env) (s : Shared) (H : Hp) (E : XK)
    (hr : Room (1) (A.deeper (envOfC "_law_draw" (defScope s_law_draw) s.heap.objs.size f cdv))) : ∃ O', Bd Iw (cxOf CX0 P w K mg base N_law_draw "_law_draw" (defScope s_law_draw) f cdv A outer s H E).nox [] (defBody s_law_draw) b_law_draw O' := by
  have hN := (sc_law_draw).nd
  have hu : (A.deeper (envOfC "_law_draw" (defScope s_law_draw) s.heap.objs.size f cdv)).units < cLine := hr.units0
  have hu1 : (A.deeper (envOfC "_law_draw" (defScope s_law_draw) s.heap.objs.size f cdv)).units + 1 < cLine := by have := hr.units; omega
  exact ⟨[], (bd_cons (sd_asg (ed_wget (i := 0) hu1) (gd_name (i := 2) hN))
  (bd_cons (sd_wput (i := 0) hu1 (ed_op opd_add (ed_var (i := 2)).b ed_int.b))
  (bd_cons (sd_if (td_wne (i := 0) hu1 hu) (bd_cons (sd_asg (ed_op opd_mod (ed_callTy cd_int (ed_var (i := 2)).b (by rfl) T.b_int bl_int).b (ed_wlen (i := 0) hu1 (by rfl) T.b_len bl_len).b) (gd_name (i := 3) hN))
  (bd_cons (sd_asg (ed_wix (i := 0) hu1 (ed_var (i := 3))) (gd_name (i := 4) hN))
  (bd_one (sd_if (td_cmp opd_gt (ed_var (i := 4)).b ed_int.b) (bd_cons (sd_wputL (i := 0) hu1 (ed_op opd_fdiv (ed_var (i := 4)).b (ed_var (i := 1)).b) (ed_var (i := 3)))
  (bd_one (sd_ret (ed_op opd_mod (ed_callTy cd_int (ed_var (i := 4)).b (by rfl) T.b_int bl_int).b (ed_var (i := 1)).b).b))) bd_nil)))) bd_nil)
  (bd_one (sd_ret (ed_op opd_mod (ed_callTy cd_int (ed_call (Fn.mono (fn_law_mixed T) (by decide)) hr (ad_cons (ed_call (Fn.mono (fn_law_mixed T) (by decide)) hr (ad_cons (ed_op opd_add (ed_wix (i := 0) hu1 (ed_op opd_mod (ed_callTy cd_int (ed_var (i := 2)).b (by rfl) T.b_int bl_int).b ed_int.b)).b (ed_op opd_mul ed_int.b (ed_op opd_fdiv (ed_var (i := 2)).b ed_int.b).b).b) (ad_cons (ed_var (i := 2)) ad_nil))) (ad_cons (ed_op opd_add (ed_var (i := 2)).b ed_int.b) ad_nil))).b (by rfl) T.b_int bl_int).b (ed_var (i := 1)).b).b)))))⟩
theorem ok_law_draw   {K : PySem.W.Frag} {P : Program} {w : World} {mg : Str → Option Value} {base : Heap} {cl : Str → Addr} {f : Addr} {fd : FuncData} (T : Top K P w mg base cl) (F : FunD K "_law_draw" "_law_draw" (defArgs s_law_draw) (defBody s_law_draw) (defScope s_law_draw) [] [] f fd) : FnOk P w K mg base CX0 2 f fd P_law_draw (spD Iw K 2 g_law_draw) :=
  fnok_of (k := 1) F sc_law_draw fun cdv A outer s H E hr => bd_end (bd_law_draw T cdv A outer s H E hr)
theorem fn_law_draw   {K : PySem.W.Frag} {P : Program} {w : World} {mg : Str → Option Value} {base : Heap} {cl : Str → Addr} (T : Top K P w mg base cl) : Fn Iw K P w mg base 2 "_law_draw" 2 g_law_draw := by
  obtain ⟨f, fd, F, hm⟩ := T.f_law_draw
  exact ⟨f, fd, P_law_draw, ok_law_draw T F, hm, F.kp, F.bindsN (fun _ _ _ _ _ _ us hl => match us, hl with | [_, _], _ => rfl)⟩
/-! _law_of -/
abbrev N_law_of : List Str := ["m", "some"]
abbrev P_law_of : List Str := ["m", "some"]
theorem sc_law_of : FnScope N_law_of P_law_of (defScope s_law_of) := ⟨rfl, rfl, rfl, by decide +kernel, rfl, by decide +kernel, by decide +kernel⟩
def b_law_of  : SS Rw :=
  (sRet (eBin ixD (eVar 1) (eCall 2 g_law_draw (aCons (eVar 0) (aCons (eUn lenD (eVar 1)) aNil)))))
def g_law_of  : List D → Rw → Option (D × Rw) := gOf N_law_of b_law_of
theorem bd_law_of   {K : PySem.W.Frag} {P : Program} {w : World} {mg : Str → Option Value} {base : Heap} {cl : Str → Addr} {f : Addr} (T : Top K P w mg base cl) (cdv : Value) (A : Around) (outer : List PySem.Env) (s : Shared) (H : Hp) (E : XK)
    (hr : Room (2) (A.deeper (envOfC "_law_of" (defScope s_law_of) s.heap.objs.size f cdv))) : ∃ O', Bd Iw (cxOf CX0 P w K mg base N_law_of "_law_of" (defScope s_law_of) f cdv A outer s H E).nox [] (defBody s_law_of) b_law_of O' := by
  have hN := (sc_law_of).nd
  have hu : (A.deeper (envOfC "_law_of" (defScope s_law_of) s.heap.objs.size f cdv)).units < cLine := hr.units0
  have hu1 : (A.deeper (envOfC "_law_of" (defScope s_law_of) s.heap.objs.size f cdv)).units + 1 < cLine := by have := hr.units; omega
  exact ⟨[], (bd_one (sd_ret (ed_ix (ed_var (i := 1)).b (ed_call (Fn.mono (fn_law_draw T) (by decide)) hr (ad_cons (ed_var (i := 0)) (ad_cons (ed_callB cd_len (ed_var (i := 1)).b (by rfl) T.b_len bl_len) ad_nil))).b).b))⟩
theorem ok_law_of   {K : PySem.W.Frag} {P : Program} {w : World} {mg : Str → Option Value} {base : Heap} {cl : Str → Addr} {f : Addr} {fd : FuncData} (T : Top K P w mg base cl) (F : FunD K "_law_of" "_law_of" (defArgs s_law_of) (defBody s_law_of) (defScope s_law_of) [] [] f fd) : FnOk P w K mg base CX0 3 f fd P_law_of (spD Iw K 2 g_law_of) :=
  fnok_of (k := 2) F sc_law_of fun cdv A outer s H E hr => bd_end (bd_law_of T cdv A outer s H E hr)
theorem fn_law_of   {K : PySem.W.Frag} {P : Program} {w : World} {mg : Str → Option Value} {base : Heap} {cl : Str → Addr} (T : Top K P w mg base cl) : Fn Iw K P w mg base 3 "_law_of" 2 g_law_of := by
  obtain ⟨f, fd, F, hm⟩ := T.f_law_of
  exact ⟨f, fd, P_law_of, ok_law_of T F, hm, F.kp, F.bindsN (fun _ _ _ _ _ _ us hl => match us, hl with | [_, _], _ => rfl)⟩
/-! _law_like -/
abbrev N_law_like : List Str := ["got", "due", "is_kind", "one", "other"]
abbrev P_law_like : List Str := ["got", "due"]
theorem sc_law_like : FnScope N_law_like P_law_like (defScope s_law_like) := ⟨rfl, rfl, rfl, by decide +kernel, rfl, by decide +kernel, by decide +kernel⟩
def b_law_like {ρ : Type} (g : List D → ρ → Option (D × ρ)) : SS ρ :=
  (sSeq (sIf (bOr (bOf (eUn (isiD "tuple") (eVar 1))) (bOf (eUn (isiD "list") (eVar 1)))) (sSeq (sAsg (eIf (bOf (eUn (isiD "tuple") (eVar 1))) (eUn (isiD "tuple") (eVar 0)) (eUn (isiD "list") (eVar 0))) (gNm 2))
  (sSeq (sIf (bOr (bNot (bOf (eVar 2))) (bOf (eBin neD (eUn lenD (eVar 0)) (eUn lenD (eVar 1))))) (sRet (eC (.bl false))) sNil)
  (sRet (eBin eqD (eComp (iZipD (aCons (eVar 0) (aCons (eVar 1) aNil))) (gTp (gC (gNm 3) (gC (gNm 4) gN))) (bNot (bOf (eCall 2 g (aCons (eVar 3) (aCons (eVar 4) aNil))))) (eC (.int 1)) [3, 4]) (eLst aNil))))) sNil)
  (sSeq (sIf (bOr (bOf (eBin isD (eVar 1) (eC .non))) (bOr (bOf (eBin isD (eVar 1) (eC (.bl true)))) (bOf (eBin isD (eVar 1) (eC (.bl false)))))) (sRet (eIf (bOf (eIf (bOf (eBin isD (eVar 1) (eC .non))) (eBin isD (eVar 0) (eC .non)) (eC (.bl false)))) (eC (.bl true)) (eIf (bOf (eIf (bOf (eBin isD (eVar 1) (eC (.bl true)))) (eBin isD (eVar 0) (eC (.bl true))) (eC (.bl false)))) (eC (.bl true)) (eIf (bOf (eBin isD (eVar 1) (eC (.bl false)))) (eBin isD (eVar 0) (eC (.bl false))) (eC (.bl false)))))) sNil)
  (sSeq (sIf (bOf (eUn (isiD "str") (eVar 1))) (sRet (eIf (bOf (eUn (isiD "str") (eVar 0))) (eBin eqD (eVar 0) (eVar 1)) (eC (.bl false)))) sNil)
  (sRet (eIf (bOf (eUn (isiD "int") (eVar 0))) (eIf (bOf (eOf (bNot (bOf (eUn (isiD "bool") (eVar 0)))))) (eBin eqD (eVar 0) (eVar 1)) (eC (.bl false))) (eC (.bl false)))))))
def g_law_like {ρ : Type} : Nat → List D → ρ → Option (D × ρ)
  | 0 => fun _ _ => none
  | j + 1 => gOf N_law_like (b_law_like (g_law_like j))
theorem bd_law_like {ρ : Type} {I : Wd ρ} {K : PySem.W.Frag} {P : Program} {w : World} {mg : Str → Option Value} {base : Heap} {cl : Str → Addr} {f : Addr} (T : Top K P w mg base cl) {j : Nat} (ih : Fn I K P w mg base (0 + j) "_law_like" 2 (g_law_like j)) (cdv : Value) (A : Around) (outer : List PySem.Env) (s : Shared) (H : Hp) (E : XK)
    (hr : Room (0 + j) (A.deeper (envOfC "_law_like" (defScope s_law_like) s.heap.objs.size f cdv))) : ∃ O', Bd I (cxOf CX0 P w K mg base N_law_like "_law_like" (defScope s_law_like) f cdv A outer s H E).nox [] (defBody s_law_like) (b_law_like (g_law_like j)) O' := by
  have hN := (sc_law_like).nd
  have hu : (A.deeper (envOfC "_law_like" (defScope s_law_like) s.heap.objs.size f cdv)).units < cLine := hr.units0
  have hu1 : (A.deeper (envOfC "_law_like" (defScope s_law_like) s.heap.objs.size f cdv)).units + 1 < cLine := by have := hr.units; omega
  exact ⟨[], (bd_cons (sd_if (td_bool (wt_or (td_val (ed_isi (ed_var (i := 1)).b (by rfl) T.b_isinstance bl_isinstance (by rfl) T.b_tuple bl_tuple)) (wt_or1 (td_val (ed_isi (ed_var (i := 1)).b (by rfl) T.b_isinstance bl_isinstance (by rfl) T.b_list bl_list))))) (bd_cons (sd_asg (ed_if (td_val (ed_isi (ed_var (i := 1)).b (by rfl) T.b_isinstance bl_isinstance (by rfl) T.b_tuple bl_tuple)) (ed_isi (ed_var (i := 0)).b (by rfl) T.b_isinstance bl_isinstance (by rfl) T.b_tuple bl_tuple) (ed_isi (ed_var (i := 0)).b (by rfl) T.b_isinstance bl_isinstance (by rfl) T.b_list bl_list)) (gd_name (i := 2) hN))
  (bd_cons (sd_if (td_bool (wt_or (td_not (td_val (ed_var (i := 2)))) (wt_or1 (td_cmp (opd_ne hu) (ed_callB cd_len (ed_var (i := 0)).b (by rfl) T.b_len bl_len).b (ed_callB cd_len (ed_var (i := 1)).b (by rfl) T.b_len bl_len).b)))) (bd_one (sd_ret ed_bl.b)) bd_nil)
  (bd_one (sd_ret (ed_cmp (opd_eq hu) (Ef.d eComp_lst (ef_comp (own := [(("one" : Str), 3), (("other" : Str), 4)]) rfl hN (wk_zip (by rfl) T.b_zip (ad_cons (ed_var (i := 0)) (ad_cons (ed_var (i := 1)) ad_nil))) (blkOk_by (by rfl)) (fun _ _ _ _ _ => (gd_tup rfl (gds_cons (gd_name (i := 3) hN) (gds_cons (gd_name (i := 4) hN) gds_nil)))) (fun _ _ _ _ _ => (tds_one (td_not (td_val (ed_call ih hr (ad_cons (ed_var (i := 3)) (ad_cons (ed_var (i := 4)) ad_nil))))))) (fun _ _ _ _ _ => ed_int))).b (ed_lst ad_nil).b).b)))) bd_nil)
  (bd_cons (sd_if (td_bool (wt_or (td_cmp opd_is (ed_var (i := 1)).b ed_non.b) (wt_or (td_cmp opd_is (ed_var (i := 1)).b ed_bl.b) (wt_or1 (td_cmp opd_is (ed_var (i := 1)).b ed_bl.b))))) (bd_one (sd_ret (ed_or (ed_and (ed_cmp opd_is (ed_var (i := 1)).b ed_non.b) (ed_one (ed_cmp opd_is (ed_var (i := 0)).b ed_non.b))) (ed_or (ed_and (ed_cmp opd_is (ed_var (i := 1)).b ed_bl.b) (ed_one (ed_cmp opd_is (ed_var (i := 0)).b ed_bl.b))) (ed_one (ed_and (ed_cmp opd_is (ed_var (i := 1)).b ed_bl.b) (ed_one (ed_cmp opd_is (ed_var (i := 0)).b ed_bl.b)))))).b)) bd_nil)
  (bd_cons (sd_if (td_val (ed_isi (ed_var (i := 1)).b (by rfl) T.b_isinstance bl_isinstance (by rfl) T.b_str bl_str)) (bd_one (sd_ret (ed_and (ed_isi (ed_var (i := 0)).b (by rfl) T.b_isinstance bl_isinstance (by rfl) T.b_str bl_str) (ed_one (ed_cmp (opd_eq hu) (ed_var (i := 0)).b (ed_var (i := 1)).b))).b)) bd_nil)
  (bd_one (sd_ret (ed_and (ed_isi (ed_var (i := 0)).b (by rfl) T.b_isinstance bl_isinstance (by rfl) T.b_int bl_int) (ed_and (ed_notV (ed_isi (ed_var (i := 0)).b (by rfl) T.b_isinstance bl_isinstance (by rfl) T.b_bool bl_bool)) (ed_one (ed_cmp (opd_eq hu) (ed_var (i := 0)).b (ed_var (i := 1)).b)))).b)))))⟩
theorem fn_law_like {ρ : Type} {I : Wd ρ} {K : PySem.W.Frag} {P : Program} {w : World} {mg : Str → Option Value} {base : Heap} {cl : Str → Addr} (T : Top K P w mg base cl) : ∀ {j : Nat}, Fn I K P w mg base (0 + j) "_law_like" 2 (g_law_like j)
  | 0 => by
    obtain ⟨f, fd, F, hm⟩ := T.f_law_like
    exact fn_zero (ps := P_law_like) F hm (fun _ _ _ _ _ _ us hl => match us, hl with | [_, _], _ => rfl)
  | j + 1 => by
    obtain ⟨f, fd, F, hm⟩ := T.f_law_like
    have ih := fn_law_like (I := I) T (j := j)
    exact fnD_of (k := 0 + j) F sc_law_like hm (fun _ _ _ _ _ _ us hl => match us, hl with | [_, _], _ => rfl) fun cdv A outer s H E hr => bd_end (bd_law_like T ih cdv A outer s H E hr)
def fuel_law_like : Nat := 20
/-! _law_term -/
abbrev N_law_term : List Str := ["m", "names", "deep", "kind", "lone"]
abbrev P_law_term : List Str := ["m", "names", "deep"]
theorem sc_law_term : FnScope N_law_term P_law_term (defScope s_law_term) := ⟨rfl, rfl, rfl, by decide +kernel, rfl, by decide +kernel, by decide +kernel⟩
def b_law_term  (g : List D → Rw → Option (D × Rw)) : SS Rw :=
  (sSeq (sAsg (eCall 2 g_law_draw (aCons (eVar 0) (aCons (eC (.int 10)) aNil))) (gNm 3))
  (sSeq (sIf (bOr (bOf (eBin eqD (eVar 2) (eC (.int 0)))) (bOf (eBin eqD (eVar 3) (eC (.int 0))))) (sSeq (sAsg (eCall 2 g_law_draw (aCons (eVar 0) (aCons (eC (.int 12)) aNil))) (gNm 4))
  (sRet (eIf (bOf (eBin eqD (eVar 4) (eC (.int 0)))) (eTup (aCons (eC (.str "yes")) aNil)) (eIf (bOf (eBin eqD (eVar 4) (eC (.int 1)))) (eTup (aCons (eC (.str "no")) aNil)) (eTup (aCons (eC (.str "letter")) (aCons (eCall 2 g_law_of (aCons (eVar 0) (aCons (eVar 1) aNil))) aNil))))))) sNil)
  (sSeq (sIf (bOf (eBin ltD (eVar 3) (eC (.int 4)))) (sRet (eTup (aCons (eC (.str "not")) (aCons (eCall 3 g (aCons (eVar 0) (aCons (eVar 1) (aCons (eBin subD (eVar 2) (eC (.int 1))) aNil)))) aNil)))) sNil)
  (sRet (eTup (aCons (eIf (bOf (eBin ltD (eVar 3) (eC (.int 7)))) (eC (.str "and")) (eC (.str "or"))) (aCons (eCall 3 g (aCons (eVar 0) (aCons (eVar 1) (aCons (eBin subD (eVar 2) (eC (.int 1))) aNil)))) (aCons (eCall 3 g (aCons (eVar 0) (aCons (eVar 1) (aCons (eBin subD (eVar 2) (eC (.int 1))) aNil)))) aNil))))))))
def g_law_term  : Nat → List D → Rw → Option (D × Rw)
  | 0 => fun _ _ => none
  | j + 1 => gOf N_law_term (b_law_term (g_law_term j))
theorem bd_law_term   {K : PySem.W.Frag} {P : Program} {w : World} {mg : Str → Option Value} {base : Heap} {cl : Str → Addr} {f : Addr} (T : Top K P w mg base cl) {j : Nat} (ih : Fn Iw K P w mg base (3 + j) "_law_term" 3 (g_law_term j)) (cdv : Value) (A : Around) (outer : List PySem.Env) (s : Shared) (H : Hp) (E : XK)
    (hr : Room (3 + j) (A.deeper (envOfC "_law_term" (defScope s_law_term) s.heap.objs.size f cdv))) : ∃ O', Bd Iw (cxOf CX0 P w K mg base N_law_term "_law_term" (defScope s_law_term) f cdv A outer s H E).nox [] (defBody s_law_term) (b_law_term (g_law_term j)) O' := by
  have hN := (sc_law_term).nd
  have hu : (A.deeper (envOfC "_law_term" (defScope s_law_term) s.heap.objs.size f cdv)).units < cLine := hr.units0
  have hu1 : (A.deeper (envOfC "_law_term" (defScope s_law_term) s.heap.objs.size f cdv)).units + 1 < cLine := by have := hr.units; omega
  exact ⟨[], (bd_cons (sd_asg (ed_call (Fn.mono (fn_law_draw T) (by omega)) hr (ad_cons (ed_var (i := 0)) (ad_cons ed_int ad_nil))) (gd_name (i := 3) hN))
  (bd_cons (sd_if (td_bool (wt_or (td_cmp (opd_eq hu) (ed_var (i := 2)).b ed_int.b) (wt_or1 (td_cmp (opd_eq hu) (ed_var (i := 3)).b ed_int.b)))) (bd_cons (sd_asg (ed_call (Fn.mono (fn_law_draw T) (by omega)) hr (ad_cons (ed_var (i := 0)) (ad_cons ed_int ad_nil))) (gd_name (i := 4) hN))
  (bd_one (sd_ret (ed_if (td_cmp (opd_eq hu) (ed_var (i := 4)).b ed_int.b) (ed_tup (ad_cons ed_str ad_nil)) (ed_if (td_cmp (opd_eq hu) (ed_var (i := 4)).b ed_int.b) (ed_tup (ad_cons ed_str ad_nil)) (ed_tup (ad_cons ed_str (ad_cons (ed_call (Fn.mono (fn_law_of T) (by omega)) hr (ad_cons (ed_var (i := 0)) (ad_cons (ed_var (i := 1)) ad_nil))) ad_nil))))).b))) bd_nil)
  (bd_cons (sd_if (td_cmp opd_lt (ed_var (i := 3)).b ed_int.b) (bd_one (sd_ret (ed_tup (ad_cons ed_str (ad_cons (ed_call ih hr (ad_cons (ed_var (i := 0)) (ad_cons (ed_var (i := 1)) (ad_cons (ed_op opd_sub (ed_var (i := 2)).b ed_int.b) ad_nil)))) ad_nil))).b)) bd_nil)
  (bd_one (sd_ret (ed_tup (ad_cons (ed_if (td_cmp opd_lt (ed_var (i := 3)).b ed_int.b) ed_str ed_str) (ad_cons (ed_call ih hr (ad_cons (ed_var (i := 0)) (ad_cons (ed_var (i := 1)) (ad_cons (ed_op opd_sub (ed_var (i := 2)).b ed_int.b) ad_nil)))) (ad_cons (ed_call ih hr (ad_cons (ed_var (i := 0)) (ad_cons (ed_var (i := 1)) (ad_cons (ed_op opd_sub (ed_var (i := 2)).b ed_int.b) ad_nil)))) ad_nil)))).b)))))⟩
theorem fn_law_term   {K : PySem.W.Frag} {P : Program} {w : World} {mg : Str → Option Value} {base : Heap} {cl : Str → Addr} (T : Top K P w mg base cl) : ∀ {j : Nat}, Fn Iw K P w mg base (3 + j) "_law_term" 3 (g_law_term j)
  | 0 => by
    obtain ⟨f, fd, F, hm⟩ := T.f_law_term
    exact fn_zero (ps := P_law_term) F hm (fun _ _ _ _ _ _ us hl => match us, hl with | [_, _, _], _ => rfl)
  | j + 1 => by
    obtain ⟨f, fd, F, hm⟩ := T.f_law_term
    have ih := fn_law_term  T (j := j)
    exact fnD_of (k := 3 + j) F sc_law_term hm (fun _ _ _ _ _ _ us hl => match us, hl with | [_, _, _], _ => rfl) fun cdv A outer s H E hr => bd_end (bd_law_term T ih cdv A outer s H E hr)
def fuel_law_term : Nat := 6
/-! _law_pairs -/
abbrev N_law_pairs : List Str := ["m", "names", "many", "deep", "number"]
abbrev P_law_pairs : List Str := ["m", "names", "many", "deep"]
theorem sc_law_pairs : FnScope N_law_pairs P_law_pairs (defScope s_law_pairs) := ⟨rfl, rfl, rfl, by decide +kernel, rfl, by decide +kernel, by decide +kernel⟩
def b_law_pairs  : SS Rw :=
  (sRet (eUn tupleD (eComp (iRng rng1B (aCons (eVar 2) aNil)) (gNm 4) bT (eTup (aCons (eCall 3 (g_law_term fuel_law_term) (aCons (eVar 0) (aCons (eVar 1) (aCons (eCall 2 g_law_draw (aCons (eVar 0) (aCons (eBin addD (eVar 3) (eC (.int 1))) aNil))) aNil)))) (aCons (eCall 3 (g_law_term fuel_law_term) (aCons (eVar 0) (aCons (eVar 1) (aCons (eCall 2 g_law_draw (aCons (eVar 0) (aCons (eBin addD (eVar 3) (eC (.int 1))) aNil))) aNil)))) aNil))) [4])))
def g_law_pairs  : List D → Rw → Option (D × Rw) := gOf N_law_pairs b_law_pairs
theorem bd_law_pairs   {K : PySem.W.Frag} {P : Program} {w : World} {mg : Str → Option Value} {base : Heap} {cl : Str → Addr} {f : Addr} (T : Top K P w mg base cl) (cdv : Value) (A : Around) (outer : List PySem.Env) (s : Shared) (H : Hp) (E : XK)
    (hr : Room (9) (A.deeper (envOfC "_law_pairs" (defScope s_law_pairs) s.heap.objs.size f cdv))) : ∃ O', Bd Iw (cxOf CX0 P w K mg base N_law_pairs "_law_pairs" (defScope s_law_pairs) f cdv A outer s H E).nox [] (defBody s_law_pairs) b_law_pairs O' := by
  have hN := (sc_law_pairs).nd
  have hu : (A.deeper (envOfC "_law_pairs" (defScope s_law_pairs) s.heap.objs.size f cdv)).units < cLine := hr.units0
  have hu1 : (A.deeper (envOfC "_law_pairs" (defScope s_law_pairs) s.heap.objs.size f cdv)).units + 1 < cLine := by have := hr.units; omega
  exact ⟨[], (bd_one (sd_ret (ed_callTy cd_tuple (Ef.d eComp_lst (ef_comp (own := [(("number" : Str), 4)]) rfl hN (wk_range1 (by rfl) T.b_range (ad_cons (ed_var (i := 2)) ad_nil)) (blkOk_by (by rfl)) (fun _ _ _ _ _ => (gd_name (i := 4) hN)) (fun _ _ _ _ _ => tds_nil) (fun _ _ _ _ _ => (ed_tup (ad_cons (ed_call (Fn.mono (fn_law_term T (j := fuel_law_term)) (by decide)) hr (ad_cons (ed_var (i := 0)) (ad_cons (ed_var (i := 1)) (ad_cons (ed_call (Fn.mono (fn_law_draw T) (by decide)) hr (ad_cons (ed_var (i := 0)) (ad_cons (ed_op opd_add (ed_var (i := 3)).b ed_int.b) ad_nil))) ad_nil)))) (ad_cons (ed_call (Fn.mono (fn_law_term T (j := fuel_law_term)) (by decide)) hr (ad_cons (ed_var (i := 0)) (ad_cons (ed_var (i := 1)) (ad_cons (ed_call (Fn.mono (fn_law_draw T) (by decide)) hr (ad_cons (ed_var (i := 0)) (ad_cons (ed_op opd_add (ed_var (i := 3)).b ed_int.b) ad_nil))) ad_nil)))) ad_nil)))))).b (by rfl) T.b_tuple bl_tuple).b))⟩
theorem ok_law_pairs   {K : PySem.W.Frag} {P : Program} {w : World} {mg : Str → Option Value} {base : Heap} {cl : Str → Addr} {f : Addr} {fd : FuncData} (T : Top K P w mg base cl) (F : FunD K "_law_pairs" "_law_pairs" (defArgs s_law_pairs) (defBody s_law_pairs) (defScope s_law_pairs) [] [] f fd) : FnOk P w K mg base CX0 10 f fd P_law_pairs (spD Iw K 4 g_law_pairs) :=
  fnok_of (k := 9) F sc_law_pairs fun cdv A outer s H E hr => bd_end (bd_law_pairs T cdv A outer s H E hr)
theorem fn_law_pairs   {K : PySem.W.Frag} {P : Program} {w : World} {mg : Str → Option Value} {base : Heap} {cl : Str → Addr} (T : Top K P w mg base cl) : Fn Iw K P w mg base 10 "_law_pairs" 4 g_law_pairs := by
  obtain ⟨f, fd, F, hm⟩ := T.f_law_pairs
  exact ⟨f, fd, P_law_pairs, ok_law_pairs T F, hm, F.kp, F.bindsN (fun _ _ _ _ _ _ us hl => match us, hl with | [_, _, _, _], _ => rfl)⟩
/-! _law_expression -/
abbrev N_law_expression : List Str := ["m", "signs", "known", "deep", "kind", "name", "sign", "spot"]
abbrev P_law_expression : List Str := ["m", "signs", "known", "deep"]
theorem sc_law_expression : FnScope N_law_expression P_law_expression (defScope s_law_expression) := ⟨rfl, rfl, rfl, by decide +kernel, rfl, by decide +kernel, by decide +kernel⟩
def b_law_expression  (g : List D → Rw → Option (D × Rw)) : SS Rw :=
  (sSeq (sAsg (eCall 2 g_law_draw (aCons (eVar 0) (aCons (eC (.int 8)) aNil))) (gNm 4))
  (sSeq (sIf (bOr (bOf (eBin eqD (eVar 3) (eC (.int 0)))) (bOf (eBin ltD (eVar 4) (eC (.int 2))))) (sRet (eTup (aCons (eC (.str "use")) (aCons (eCall 2 g_law_of (aCons (eVar 0) (aCons (eVar 2) aNil))) aNil)))) sNil)
  (sSeq (sIf (bOf (eBin eqD (eVar 4) (eC (.int 2)))) (sRet (eTup (aCons (eC (.str "either")) (aCons (eCall 4 g (aCons (eVar 0) (aCons (eVar 1) (aCons (eVar 2) (aCons (eBin subD (eVar 3) (eC (.int 1))) aNil))))) (aCons (eCall 4 g (aCons (eVar 0) (aCons (eVar 1) (aCons (eVar 2) (aCons (eBin subD (eVar 3) (eC (.int 1))) aNil))))) aNil))))) sNil)
  (sSeq (sIf (bOf (eBin eqD (eVar 4) (eC (.int 3)))) (sSeq (sAsg (eCall 2 g_law_of (aCons (eVar 0) (aCons (eLst (aCons (eC (.str "v")) (aCons (eC (.str "w")) (aCons (eBin ixD (eVar 2) (eC (.int 0))) aNil)))) aNil))) (gNm 5))
  (sRet (eTup (aCons (eC (.str "let")) (aCons (eVar 5) (aCons (eCall 4 g (aCons (eVar 0) (aCons (eVar 1) (aCons (eVar 2) (aCons (eBin subD (eVar 3) (eC (.int 1))) aNil))))) (aCons (eCall 4 g (aCons (eVar 0) (aCons (eVar 1) (aCons (eBin addD (eVar 2) (eLst (aCons (eVar 5) aNil))) (aCons (eBin subD (eVar 3) (eC (.int 1))) aNil))))) aNil))))))) sNil)
  (sSeq (sAsg (eCall 2 g_law_of (aCons (eVar 0) (aCons (eVar 1) aNil))) (gNm 6))
  (sRet (eTup (aCons (eC (.str "call")) (aCons (eBin ixD (eVar 6) (eC (.int 0))) (aCons (eUn tupleD (eComp (iRng rng1B (aCons (eBin addD (eC (.int 1)) (eUn lenD (eBin ixD (eVar 6) (eC (.int 2))))) aNil)) (gNm 7) bT (eCall 4 g (aCons (eVar 0) (aCons (eVar 1) (aCons (eVar 2) (aCons (eBin subD (eVar 3) (eC (.int 1))) aNil))))) [7])) aNil))))))))))
def g_law_expression  : Nat → List D → Rw → Option (D × Rw)
  | 0 => fun _ _ => none
  | j + 1 => gOf N_law_expression (b_law_expression (g_law_expression j))
theorem bd_law_expression   {K : PySem.W.Frag} {P : Program} {w : World} {mg : Str → Option Value} {base : Heap} {cl : Str → Addr} {f : Addr} (T : Top K P w mg base cl) {j : Nat} (ih : Fn Iw K P w mg base (3 + j) "_law_expression" 4 (g_law_expression j)) (cdv : Value) (A : Around) (outer : List PySem.Env) (s : Shared) (H : Hp) (E : XK)
    (hr : Room (3 + j) (A.deeper (envOfC "_law_expression" (defScope s_law_expression) s.heap.objs.size f cdv))) : ∃ O', Bd Iw (cxOf CX0 P w K mg base N_law_expression "_law_expression" (defScope s_law_expression) f cdv A outer s H E).nox [] (defBody s_law_expression) (b_law_expression (g_law_expression j)) O' := by
  have hN := (sc_law_expression).nd
  have hu : (A.deeper (envOfC "_law_expression" (defScope s_law_expression) s.heap.objs.size f cdv)).units < cLine := hr.units0
  have hu1 : (A.deeper (envOfC "_law_expression" (defScope s_law_expression) s.heap.objs.size f cdv)).units + 1 < cLine := by have := hr.units; omega
  exact ⟨[], (bd_cons (sd_asg (ed_call (Fn.mono (fn_law_draw T) (by omega)) hr (ad_cons (ed_var (i := 0)) (ad_cons ed_int ad_nil))) (gd_name (i := 4) hN))
  (bd_cons (sd_if (td_bool (wt_or (td_cmp (opd_eq hu) (ed_var (i := 3)).b ed_int.b) (wt_or1 (td_cmp opd_lt (ed_var (i := 4)).b ed_int.b)))) (bd_one (sd_ret (ed_tup (ad_cons ed_str (ad_cons (ed_call (Fn.mono (fn_law_of T) (by omega)) hr (ad_cons (ed_var (i := 0)) (ad_cons (ed_var (i := 2)) ad_nil))) ad_nil))).b)) bd_nil)
  (bd_cons (sd_if (td_cmp (opd_eq hu) (ed_var (i := 4)).b ed_int.b) (bd_one (sd_ret (ed_tup (ad_cons ed_str (ad_cons (ed_call ih hr (ad_cons (ed_var (i := 0)) (ad_cons (ed_var (i := 1)) (ad_cons (ed_var (i := 2)) (ad_cons (ed_op opd_sub (ed_var (i := 3)).b ed_int.b) ad_nil))))) (ad_cons (ed_call ih hr (ad_cons (ed_var (i := 0)) (ad_cons (ed_var (i := 1)) (ad_cons (ed_var (i := 2)) (ad_cons (ed_op opd_sub (ed_var (i := 3)).b ed_int.b) ad_nil))))) ad_nil)))).b)) bd_nil)
  (bd_cons (sd_if (td_cmp (opd_eq hu) (ed_var (i := 4)).b ed_int.b) (bd_cons (sd_asg (ed_call (Fn.mono (fn_law_of T) (by omega)) hr (ad_cons (ed_var (i := 0)) (ad_cons (ed_lst (ad_cons ed_str (ad_cons ed_str (ad_cons (ed_ix (ed_var (i := 2)).b ed_int.b) ad_nil)))) ad_nil))) (gd_name (i := 5) hN))
  (bd_one (sd_ret (ed_tup (ad_cons ed_str (ad_cons (ed_var (i := 5)) (ad_cons (ed_call ih hr (ad_cons (ed_var (i := 0)) (ad_cons (ed_var (i := 1)) (ad_cons (ed_var (i := 2)) (ad_cons (ed_op opd_sub (ed_var (i := 3)).b ed_int.b) ad_nil))))) (ad_cons (ed_call ih hr (ad_cons (ed_var (i := 0)) (ad_cons (ed_var (i := 1)) (ad_cons (ed_op opd_add (ed_var (i := 2)).b (ed_lst (ad_cons (ed_var (i := 5)) ad_nil)).b) (ad_cons (ed_op opd_sub (ed_var (i := 3)).b ed_int.b) ad_nil))))) ad_nil))))).b))) bd_nil)
  (bd_cons (sd_asg (ed_call (Fn.mono (fn_law_of T) (by omega)) hr (ad_cons (ed_var (i := 0)) (ad_cons (ed_var (i := 1)) ad_nil))) (gd_name (i := 6) hN))
  (bd_one (sd_ret (ed_tup (ad_cons ed_str (ad_cons (ed_ix (ed_var (i := 6)).b ed_int.b) (ad_cons (ed_callTy cd_tuple (Ef.d eComp_lst (ef_comp (own := [(("spot" : Str), 7)]) rfl hN (wk_range1 (by rfl) T.b_range (ad_cons (ed_op opd_add ed_int.b (ed_callB cd_len (ed_ix (ed_var (i := 6)).b ed_int.b).b (by rfl) T.b_len bl_len).b) ad_nil)) (blkOk_by (by rfl)) (fun _ _ _ _ _ => (gd_name (i := 7) hN)) (fun _ _ _ _ _ => tds_nil) (fun _ _ _ _ _ => (ed_call ih hr (ad_cons (ed_var (i := 0)) (ad_cons (ed_var (i := 1)) (ad_cons (ed_var (i := 2)) (ad_cons (ed_op opd_sub (ed_var (i := 3)).b ed_int.b) ad_nil)))))))).b (by rfl) T.b_tuple bl_tuple) ad_nil)))).b)))))))⟩
theorem fn_law_expression   {K : PySem.W.Frag} {P : Program} {w : World} {mg : Str → Option Value} {base : Heap} {cl : Str → Addr} (T : Top K P w mg base cl) : ∀ {j : Nat}, Fn Iw K P w mg base (3 + j) "_law_expression" 4 (g_law_expression j)
  | 0 => by
    obtain ⟨f, fd, F, hm⟩ := T.f_law_expression
    exact fn_zero (ps := P_law_expression) F hm (fun _ _ _ _ _ _ us hl => match us, hl with | [_, _, _, _], _ => rfl)
  | j + 1 => by
    obtain ⟨f, fd, F, hm⟩ := T.f_law_expression
    have ih := fn_law_expression  T (j := j)
    exact fnD_of (k := 3 + j) F sc_law_expression hm (fun _ _ _ _ _ _ us hl => match us, hl with | [_, _, _, _], _ => rfl) fun cdv A outer s H E hr => bd_end (bd_law_expression T ih cdv A outer s H E hr)
def fuel_law_expression : Nat := 6
/-! _law_signature -/
abbrev N_law_signature : List Str := ["m", "name", "names", "clauses", "rows_so", "number"]
abbrev P_law_signature : List Str := ["m", "name", "names", "clauses"]
theorem sc_law_signature : FnScope N_law_signature P_law_signature (defScope s_law_signature) := ⟨rfl, rfl, rfl, by decide +kernel, rfl, by decide +kernel, by decide +kernel⟩
def b_law_signature  : SS Rw :=
  (sSeq (sAsg (eUn tupleD (eComp (iRng rng1B (aCons (eVar 3) aNil)) (gNm 5) bT (eTup (aCons (eCall 3 (g_law_term fuel_law_term) (aCons (eVar 0) (aCons (eVar 2) (aCons (eCall 2 g_law_draw (aCons (eVar 0) (aCons (eC (.int 2)) aNil))) aNil)))) (aCons (eCall 3 (g_law_term fuel_law_term) (aCons (eVar 0) (aCons (eVar 2) (aCons (eCall 2 g_law_draw (aCons (eVar 0) (aCons (eC (.int 2)) aNil))) aNil)))) aNil))) [5])) (gNm 4))
  (sRet (eTup (aCons (eVar 1) (aCons (eVar 4) (aCons (eUn tupleD (eComp (iRng rng1B (aCons (eCall 2 g_law_of (aCons (eVar 0) (aCons (eLst (aCons (eC (.int 0)) (aCons (eC (.int 0)) (aCons (eC (.int 0)) (aCons (eC (.int 1)) (aCons (eC (.int 2)) aNil)))))) aNil))) aNil)) (gNm 5) bT (eCall 3 (g_law_term fuel_law_term) (aCons (eVar 0) (aCons (eVar 2) (aCons (eC (.int 1)) aNil)))) [5])) aNil))))))
def g_law_signature  : List D → Rw → Option (D × Rw) := gOf N_law_signature b_law_signature
theorem bd_law_signature   {K : PySem.W.Frag} {P : Program} {w : World} {mg : Str → Option Value} {base : Heap} {cl : Str → Addr} {f : Addr} (T : Top K P w mg base cl) (cdv : Value) (A : Around) (outer : List PySem.Env) (s : Shared) (H : Hp) (E : XK)
    (hr : Room (9) (A.deeper (envOfC "_law_signature" (defScope s_law_signature) s.heap.objs.size f cdv))) : ∃ O', Bd Iw (cxOf CX0 P w K mg base N_law_signature "_law_signature" (defScope s_law_signature) f cdv A outer s H E).nox [] (defBody s_law_signature) b_law_signature O' := by
  have hN := (sc_law_signature).nd
  have hu : (A.deeper (envOfC "_law_signature" (defScope s_law_signature) s.heap.objs.size f cdv)).units < cLine := hr.units0
  have hu1 : (A.deeper (envOfC "_law_signature" (defScope s_law_signature) s.heap.objs.size f cdv)).units + 1 < cLine := by have := hr.units; omega
  exact ⟨[], (bd_cons (sd_asg (ed_callTy cd_tuple (Ef.d eComp_lst (ef_comp (own := [(("number" : Str), 5)]) rfl hN (wk_range1 (by rfl) T.b_range (ad_cons (ed_var (i := 3)) ad_nil)) (blkOk_by (by rfl)) (fun _ _ _ _ _ => (gd_name (i := 5) hN)) (fun _ _ _ _ _ => tds_nil) (fun _ _ _ _ _ => (ed_tup (ad_cons (ed_call (Fn.mono (fn_law_term T (j := fuel_law_term)) (by decide)) hr (ad_cons (ed_var (i := 0)) (ad_cons (ed_var (i := 2)) (ad_cons (ed_call (Fn.mono (fn_law_draw T) (by decide)) hr (ad_cons (ed_var (i := 0)) (ad_cons ed_int ad_nil))) ad_nil)))) (ad_cons (ed_call (Fn.mono (fn_law_term T (j := fuel_law_term)) (by decide)) hr (ad_cons (ed_var (i := 0)) (ad_cons (ed_var (i := 2)) (ad_cons (ed_call (Fn.mono (fn_law_draw T) (by decide)) hr (ad_cons (ed_var (i := 0)) (ad_cons ed_int ad_nil))) ad_nil)))) ad_nil)))))).b (by rfl) T.b_tuple bl_tuple) (gd_name (i := 4) hN))
  (bd_one (sd_ret (ed_tup (ad_cons (ed_var (i := 1)) (ad_cons (ed_var (i := 4)) (ad_cons (ed_callTy cd_tuple (Ef.d eComp_lst (ef_comp (own := [(("number" : Str), 5)]) rfl hN (wk_range1 (by rfl) T.b_range (ad_cons (ed_call (Fn.mono (fn_law_of T) (by decide)) hr (ad_cons (ed_var (i := 0)) (ad_cons (ed_lst (ad_cons ed_int (ad_cons ed_int (ad_cons ed_int (ad_cons ed_int (ad_cons ed_int ad_nil)))))) ad_nil))) ad_nil)) (blkOk_by (by rfl)) (fun _ _ _ _ _ => (gd_name (i := 5) hN)) (fun _ _ _ _ _ => tds_nil) (fun _ _ _ _ _ => (ed_call (Fn.mono (fn_law_term T (j := fuel_law_term)) (by decide)) hr (ad_cons (ed_var (i := 0)) (ad_cons (ed_var (i := 2)) (ad_cons ed_int ad_nil))))))).b (by rfl) T.b_tuple bl_tuple) ad_nil)))).b)))⟩
theorem ok_law_signature   {K : PySem.W.Frag} {P : Program} {w : World} {mg : Str → Option Value} {base : Heap} {cl : Str → Addr} {f : Addr} {fd : FuncData} (T : Top K P w mg base cl) (F : FunD K "_law_signature" "_law_signature" (defArgs s_law_signature) (defBody s_law_signature) (defScope s_law_signature) [] [] f fd) : FnOk P w K mg base CX0 10 f fd P_law_signature (spD Iw K 4 g_law_signature) :=
  fnok_of (k := 9) F sc_law_signature fun cdv A outer s H E hr => bd_end (bd_law_signature T cdv A outer s H E hr)
theorem fn_law_signature   {K : PySem.W.Frag} {P : Program} {w : World} {mg : Str → Option Value} {base : Heap} {cl : Str → Addr} (T : Top K P w mg base cl) : Fn Iw K P w mg base 10 "_law_signature" 4 g_law_signature := by
  obtain ⟨f, fd, F, hm⟩ := T.f_law_signature
  exact ⟨f, fd, P_law_signature, ok_law_signature T F, hm, F.kp, F.bindsN (fun _ _ _ _ _ _ us hl => match us, hl with | [_, _, _, _], _ => rfl)⟩
/-! _law_module -/
abbrev N_law_module : List Str := ["m", "names", "axioms_so", "signs", "name", "found", "sign", "inputs_so"]
abbrev P_law_module : List Str := ["m", "names"]
theorem sc_law_module : FnScope N_law_module P_law_module (defScope s_law_module) := ⟨rfl, rfl, rfl, by decide +kernel, rfl, by decide +kernel, by decide +kernel⟩
def b_law_module  : SS Rw :=
  (sSeq (sPar [2, 3] (aCons (eCall 4 g_law_pairs (aCons (eVar 0) (aCons (eVar 1) (aCons (eCall 2 g_law_draw (aCons (eVar 0) (aCons (eC (.int 3)) aNil))) (aCons (eC (.int 1)) aNil))))) (aCons (eLst aNil) aNil)))
  (sSeq (sFor (iSeqD (eSl (eLst (aCons (eC (.str "f")) (aCons (eC (.str "g")) (aCons (eC (.str "h")) (aCons (eC (.str "show")) aNil))))) oNone (oSome (eBin addD (eC (.int 2)) (eCall 2 g_law_draw (aCons (eVar 0) (aCons (eC (.int 3)) aNil))))))) (gNm 4) (sApp 3 (eCall 4 g_law_signature (aCons (eVar 0) (aCons (eVar 4) (aCons (eVar 1) (aCons (eCall 2 g_law_of (aCons (eVar 0) (aCons (eLst (aCons (eC (.int 1)) (aCons (eC (.int 1)) (aCons (eC (.int 2)) (aCons (eC (.int 3)) (aCons (eC (.int 4)) aNil)))))) aNil))) aNil)))))))
  (sSeq (sOwn 5 (eLst aNil))
  (sSeq (sFor (iSeqD (eVar 3)) (gNm 6) (sIf (bAnd (bOf (eBin eqD (eUn lenD (eBin ixD (eVar 6) (eC (.int 1)))) (eC (.int 1)))) (bOr (bOf (eBin eqD (eVar 5) (eLst aNil))) (bOf (eBin eqD (eCall 2 g_law_draw (aCons (eVar 0) (aCons (eC (.int 2)) aNil))) (eC (.int 0)))))) (sSeq (sAsg (eUn tupleD (eSl (eLst (aCons (eC (.str "x")) (aCons (eC (.str "y")) (aCons (eC (.str "z")) aNil)))) oNone (oSome (eBin addD (eC (.int 1)) (eUn lenD (eBin ixD (eVar 6) (eC (.int 2)))))))) (gNm 7))
  (sApp 5 (eTup (aCons (eBin ixD (eVar 6) (eC (.int 0))) (aCons (eVar 7) (aCons (eCall 4 (g_law_expression fuel_law_expression) (aCons (eVar 0) (aCons (eVar 3) (aCons (eUn listD (eVar 7)) (aCons (eBin addD (eC (.int 1)) (eCall 2 g_law_draw (aCons (eVar 0) (aCons (eC (.int 2)) aNil)))) aNil))))) aNil)))))) sNil))
  (sRet (eTup (aCons (eVar 2) (aCons (eUn tupleD (eVar 3)) (aCons (eUn tupleD (eVar 5)) aNil)))))))))
def g_law_module  : List D → Rw → Option (D × Rw) := gOf N_law_module b_law_module
theorem bd_law_module   {K : PySem.W.Frag} {P : Program} {w : World} {mg : Str → Option Value} {base : Heap} {cl : Str → Addr} {f : Addr} (T : Top K P w mg base cl) (cdv : Value) (A : Around) (outer : List PySem.Env) (s : Shared) (H : Hp) (E : XK)
    (hr : Room (10) (A.deeper (envOfC "_law_module" (defScope s_law_module) s.heap.objs.size f cdv))) : ∃ O', Bd Iw (cxOf CX0 P w K mg base N_law_module "_law_module" (defScope s_law_module) f cdv A outer s H E).nox [] (defBody s_law_module) b_law_module O' := by
  have hN := (sc_law_module).nd
  have hu : (A.deeper (envOfC "_law_module" (defScope s_law_module) s.heap.objs.size f cdv)).units < cLine := hr.units0
  have hu1 : (A.deeper (envOfC "_law_module" (defScope s_law_module) s.heap.objs.size f cdv)).units + 1 < cLine := by have := hr.units; omega
  exact ⟨[], (bd_cons (sd_par2 (i := 2) (j := 3) rfl hN (pd_d (ed_call (Fn.mono (fn_law_pairs T) (by decide)) hr (ad_cons (ed_var (i := 0)) (ad_cons (ed_var (i := 1)) (ad_cons (ed_call (Fn.mono (fn_law_draw T) (by decide)) hr (ad_cons (ed_var (i := 0)) (ad_cons ed_int ad_nil))) (ad_cons ed_int ad_nil))))) (pd_f eLst_lst (ef_lst ad_nil) pd_nil)))
  (bd_cons (sd_for PassesOwn.never rfl (wk_seq (ed_sl (ed_lst (ad_cons ed_str (ad_cons ed_str (ad_cons ed_str (ad_cons ed_str ad_nil))))).b od_none (od_some (ed_op opd_add ed_int.b (ed_call (Fn.mono (fn_law_draw T) (by decide)) hr (ad_cons (ed_var (i := 0)) (ad_cons ed_int ad_nil))).b)))) (gd_name (i := 4) hN) (bd_one (sd_app (i := 3) (ed_call (Fn.mono (fn_law_signature T) (by decide)) hr (ad_cons (ed_var (i := 0)) (ad_cons (ed_var (i := 4)) (ad_cons (ed_var (i := 1)) (ad_cons (ed_call (Fn.mono (fn_law_of T) (by decide)) hr (ad_cons (ed_var (i := 0)) (ad_cons (ed_lst (ad_cons ed_int (ad_cons ed_int (ad_cons ed_int (ad_cons ed_int (ad_cons ed_int ad_nil)))))) ad_nil))) ad_nil))))))))
  (bd_cons (sd_own (i := 5) hN (ef_lst ad_nil) eLst_lst)
  (Bd.frz (fun j => j != 3) (bd_cons (sd_for PassesOwn.never rfl (wk_seq (ed_var (i := 3))) (gd_name (i := 6) hN) (bd_one (sd_if (td_bool (wt_and (td_cmp (opd_eq hu) (ed_callB cd_len (ed_ix (ed_var (i := 6)).b ed_int.b).b (by rfl) T.b_len bl_len).b ed_int.b) (wt_and1 (td_bool (wt_or (td_cmp (opd_eq hu) (eb_var (i := 5)) (ed_lst ad_nil).b) (wt_or1 (td_cmp (opd_eq hu) (ed_call (Fn.mono (fn_law_draw T) (by decide)) hr (ad_cons (ed_var (i := 0)) (ad_cons ed_int ad_nil))).b ed_int.b))))))) (bd_cons (sd_asg (ed_callTy cd_tuple (ed_sl (ed_lst (ad_cons ed_str (ad_cons ed_str (ad_cons ed_str ad_nil)))).b od_none (od_some (ed_op opd_add ed_int.b (ed_callB cd_len (ed_ix (ed_var (i := 6)).b ed_int.b).b (by rfl) T.b_len bl_len).b))).b (by rfl) T.b_tuple bl_tuple) (gd_name (i := 7) hN))
  (bd_one (sd_app (i := 5) (ed_tup (ad_cons (ed_ix (ed_var (i := 6)).b ed_int.b) (ad_cons (ed_var (i := 7)) (ad_cons (ed_call (Fn.mono (fn_law_expression T (j := fuel_law_expression)) (by decide)) hr (ad_cons (ed_var (i := 0)) (ad_cons (ed_var (i := 3)) (ad_cons (ed_callTy cd_list (ed_var (i := 7)).b (by rfl) T.b_list bl_list) (ad_cons (ed_op opd_add ed_int.b (ed_call (Fn.mono (fn_law_draw T) (by decide)) hr (ad_cons (ed_var (i := 0)) (ad_cons ed_int ad_nil))).b) ad_nil))))) ad_nil))))))) bd_nil)))
  (bd_one (sd_ret (ed_tup (ad_cons (ed_var (i := 2)) (ad_cons (ed_callTy cd_tuple (ed_var (i := 3)).b (by rfl) T.b_tuple bl_tuple) (ad_cons (ed_callTy cd_tuple (eb_var (i := 5)) (by rfl) T.b_tuple bl_tuple) ad_nil)))).b)))))))⟩
theorem ok_law_module   {K : PySem.W.Frag} {P : Program} {w : World} {mg : Str → Option Value} {base : Heap} {cl : Str → Addr} {f : Addr} {fd : FuncData} (T : Top K P w mg base cl) (F : FunD K "_law_module" "_law_module" (defArgs s_law_module) (defBody s_law_module) (defScope s_law_module) [] [] f fd) : FnOk P w K mg base CX0 11 f fd P_law_module (spD Iw K 2 g_law_module) :=
  fnok_of (k := 10) F sc_law_module fun cdv A outer s H E hr => bd_end (bd_law_module T cdv A outer s H E hr)
theorem fn_law_module   {K : PySem.W.Frag} {P : Program} {w : World} {mg : Str → Option Value} {base : Heap} {cl : Str → Addr} (T : Top K P w mg base cl) : Fn Iw K P w mg base 11 "_law_module" 2 g_law_module := by
  obtain ⟨f, fd, F, hm⟩ := T.f_law_module
  exact ⟨f, fd, P_law_module, ok_law_module T F, hm, F.kp, F.bindsN (fun _ _ _ _ _ _ us hl => match us, hl with | [_, _], _ => rfl)⟩
/-! _law_sign -/
abbrev N_law_sign : List Str := ["module_so", "name", "sign"]
abbrev P_law_sign : List Str := ["module_so", "name"]
theorem sc_law_sign : FnScope N_law_sign P_law_sign (defScope s_law_sign) := ⟨rfl, rfl, rfl, by decide +kernel, rfl, by decide +kernel, by decide +kernel⟩
def b_law_sign {ρ : Type} : SS ρ :=
  (sRet (eBin ixD (eComp (iSeqD (eBin ixD (eVar 0) (eC (.int 1)))) (gNm 2) (bOf (eBin eqD (eBin ixD (eVar 2) (eC (.int 0))) (eVar 1))) (eVar 2) [2]) (eC (.int 0))))
def g_law_sign {ρ : Type} : List D → ρ → Option (D × ρ) := gOf N_law_sign b_law_sign
theorem bd_law_sign {ρ : Type} {I : Wd ρ} {K : PySem.W.Frag} {P : Program} {w : World} {mg : Str → Option Value} {base : Heap} {cl : Str → Addr} {f : Addr} (T : Top K P w mg base cl) (cdv : Value) (A : Around) (outer : List PySem.Env) (s : Shared) (H : Hp) (E : XK)
    (hr : Room (0) (A.deeper (envOfC "_law_sign" (defScope s_law_sign) s.heap.objs.size f cdv))) : ∃ O', Bd I (cxOf CX0 P w K mg base N_law_sign "_law_sign" (defScope s_law_sign) f cdv A outer s H E).nox [] (defBody s_law_sign) (b_law_sign (ρ := ρ)) O' := by
  have hN := (sc_law_sign).nd
  have hu : (A.deeper (envOfC "_law_sign" (defScope s_law_sign) s.heap.objs.size f cdv)).units < cLine := hr.units0
  have hu1 : (A.deeper (envOfC "_law_sign" (defScope s_law_sign) s.heap.objs.size f cdv)).units + 1 < cLine := by have := hr.units; omega
  exact ⟨[], (bd_one (sd_ret (ed_ix (Ef.d eComp_lst (ef_comp (own := [(("sign" : Str), 2)]) rfl hN (wk_seq (ed_ix (ed_var (i := 0)).b ed_int.b)) (blkOk_by (by rfl)) (fun _ _ _ _ _ => (gd_name (i := 2) hN)) (fun _ _ _ _ _ => (tds_one (td_cmp (opd_eq hu) (ed_ix (ed_var (i := 2)).b ed_int.b).b (ed_var (i := 1)).b))) (fun _ _ _ _ _ => (ed_var (i := 2))))).b ed_int.b).b))⟩
theorem ok_law_sign {ρ : Type} {I : Wd ρ} {K : PySem.W.Frag} {P : Program} {w : World} {mg : Str → Option Value} {base : Heap} {cl : Str → Addr} {f : Addr} {fd : FuncData} (T : Top K P w mg base cl) (F : FunD K "_law_sign" "_law_sign" (defArgs s_law_sign) (defBody s_law_sign) (defScope s_law_sign) [] [] f fd) : FnOk P w K mg base CX0 1 f fd P_law_sign (spD I K 2 g_law_sign) :=
  fnok_of (k := 0) F sc_law_sign fun cdv A outer s H E hr => bd_end (bd_law_sign T cdv A outer s H E hr)
theorem fn_law_sign {ρ : Type} {I : Wd ρ} {K : PySem.W.Frag} {P : Program} {w : World} {mg : Str → Option Value} {base : Heap} {cl : Str → Addr} (T : Top K P w mg base cl) : Fn I K P w mg base 1 "_law_sign" 2 g_law_sign := by
  obtain ⟨f, fd, F, hm⟩ := T.f_law_sign
  exact ⟨f, fd, P_law_sign, ok_law_sign T F, hm, F.kp, F.bindsN (fun _ _ _ _ _ _ us hl => match us, hl with | [_, _], _ => rfl)⟩
/-! _law_nodes -/
abbrev N_law_nodes : List Str := ["body", "found", "inner", "one"]
abbrev P_law_nodes : List Str := ["body"]
theorem sc_law_nodes : FnScope N_law_nodes P_law_nodes (defScope s_law_nodes) := ⟨rfl, rfl, rfl, by decide +kernel, rfl, by decide +kernel, by decide +kernel⟩
def b_law_nodes {ρ : Type} (g : List D → ρ → Option (D × ρ)) : SS ρ :=
  (sSeq (sOwn 1 (eLst aNil))
  (sSeq (sAsg (eBin dixD (eDisp [((eC (.str "use")), (eTup aNil)), ((eC (.str "call")), (eIf (bOf (eBin gtD (eUn lenD (eVar 0)) (eC (.int 2)))) (eBin ixD (eVar 0) (eC (.int 2))) (eTup aNil))), ((eC (.str "either")), (eSl (eVar 0) (oSome (eC (.int 1))) oNone)), ((eC (.str "let")), (eSl (eVar 0) (oSome (eC (.int 2))) oNone))]) (eBin ixD (eVar 0) (eC (.int 0)))) (gNm 2))
  (sSeq (sFor (iSeqD (eVar 2)) (gNm 3) (sExt 1 (eCall 1 g (aCons (eVar 3) aNil))))
  (sRet (eBin addD (eVar 1) (eLst (aCons (eVar 0) aNil)))))))
def g_law_nodes {ρ : Type} : Nat → List D → ρ → Option (D × ρ)
  | 0 => fun _ _ => none
  | j + 1 => gOf N_law_nodes (b_law_nodes (g_law_nodes j))
theorem bd_law_nodes {ρ : Type} {I : Wd ρ} {K : PySem.W.Frag} {P : Program} {w : World} {mg : Str → Option Value} {base : Heap} {cl : Str → Addr} {f : Addr} (T : Top K P w mg base cl) {j : Nat} (ih : Fn I K P w mg base (0 + j) "_law_nodes" 1 (g_law_nodes j)) (cdv : Value) (A : Around) (outer : List PySem.Env) (s : Shared) (H : Hp) (E : XK)
    (hr : Room (0 + j) (A.deeper (envOfC "_law_nodes" (defScope s_law_nodes) s.heap.objs.size f cdv))) : ∃ O', Bd I (cxOf CX0 P w K mg base N_law_nodes "_law_nodes" (defScope s_law_nodes) f cdv A outer s H E).nox [] (defBody s_law_nodes) (b_law_nodes (g_law_nodes j)) O' := by
  have hN := (sc_law_nodes).nd
  have hu : (A.deeper (envOfC "_law_nodes" (defScope s_law_nodes) s.heap.objs.size f cdv)).units < cLine := hr.units0
  have hu1 : (A.deeper (envOfC "_law_nodes" (defScope s_law_nodes) s.heap.objs.size f cdv)).units + 1 < cLine := by have := hr.units; omega
  exact ⟨[], (bd_cons (sd_own (i := 1) hN (ef_lst ad_nil) eLst_lst)
  (bd_cons (sd_asg (ed_dix hu1 (ed_disp (dps_cons ed_str (ed_tup ad_nil) (dps_cons ed_str (ed_if (td_cmp opd_gt (ed_callB cd_len (ed_var (i := 0)).b (by rfl) T.b_len bl_len).b ed_int.b) (ed_ix (ed_var (i := 0)).b ed_int.b) (ed_tup ad_nil)) (dps_cons ed_str (ed_sl (ed_var (i := 0)).b (od_some ed_int) od_none) (dps_cons ed_str (ed_sl (ed_var (i := 0)).b (od_some ed_int) od_none) dps_nil))))).b (ed_ix (ed_var (i := 0)).b ed_int.b).b) (gd_name (i := 2) hN))
  (bd_cons (sd_for PassesOwn.never rfl (wk_seq (ed_var (i := 2))) (gd_name (i := 3) hN) (bd_one (sd_ext (i := 1) (ed_call ih hr (ad_cons (ed_var (i := 3)) ad_nil)))))
  (bd_one (sd_ret (ed_op opd_add (eb_var (i := 1)) (ed_lst (ad_cons (ed_var (i := 0)) ad_nil)).b).b)))))⟩
theorem fn_law_nodes {ρ : Type} {I : Wd ρ} {K : PySem.W.Frag} {P : Program} {w : World} {mg : Str → Option Value} {base : Heap} {cl : Str → Addr} (T : Top K P w mg base cl) : ∀ {j : Nat}, Fn I K P w mg base (0 + j) "_law_nodes" 1 (g_law_nodes j)
  | 0 => by
    obtain ⟨f, fd, F, hm⟩ := T.f_law_nodes
    exact fn_zero (ps := P_law_nodes) F hm (fun _ _ _ _ _ _ us hl => match us, hl with | [_], _ => rfl)
  | j + 1 => by
    obtain ⟨f, fd, F, hm⟩ := T.f_law_nodes
    have ih := fn_law_nodes (I := I) T (j := j)
    exact fnD_of (k := 0 + j) F sc_law_nodes hm (fun _ _ _ _ _ _ us hl => match us, hl with | [_], _ => rfl) fun cdv A outer s H E hr => bd_end (bd_law_nodes T ih cdv A outer s H E hr)
def fuel_law_nodes : Nat := 40
/-! _law_refused -/
abbrev N_law_refused : List Str := ["module_so", "error"]
abbrev P_law_refused : List Str := ["module_so"]
theorem sc_law_refused : FnScope N_law_refused P_law_refused (defScope s_law_refused) := ⟨rfl, rfl, rfl, by decide +kernel, rfl, by decide +kernel, by decide +kernel⟩
def b_law_refused {ρ : Type} : SS ρ :=
  (sSeq (sTry 1 (aCons (eVar 0) aNil) gx_need_module "BadModule" (fun y => (eTup (aCons (eC (.str "module")) (aCons (eXs "place" y) aNil)))))
  (sRet (eTup (aCons (eC (.str "told")) (aCons (eC .non) aNil)))))
def g_law_refused {ρ : Type} : List D → ρ → Option (D × ρ) := gOf N_law_refused b_law_refused
theorem bd_law_refused {ρ : Type} {I : Wd ρ} {K : PySem.W.Frag} {P : Program} {w : World} {mg : Str → Option Value} {base : Heap} {cl : Str → Addr} {f : Addr} (T : Top K P w mg base cl) (cdv : Value) (A : Around) (outer : List PySem.Env) (s : Shared) (H : Hp) (E : XK)
    (hr : Room (48) (A.deeper (envOfC "_law_refused" (defScope s_law_refused) s.heap.objs.size f cdv))) : ∃ O', Bd I (cxOf CX0 P w K mg base N_law_refused "_law_refused" (defScope s_law_refused) f cdv A outer s H E).nox [] (defBody s_law_refused) (b_law_refused (ρ := ρ)) O' := by
  have hN := (sc_law_refused).nd
  have hu : (A.deeper (envOfC "_law_refused" (defScope s_law_refused) s.heap.objs.size f cdv)).units < cLine := hr.units0
  have hu1 : (A.deeper (envOfC "_law_refused" (defScope s_law_refused) s.heap.objs.size f cdv)).units + 1 < cLine := by have := hr.units; omega
  exact ⟨[], (bd_cons (sd_try_as (i := 1) (m := 1) (c0 := "BadModule") (c := cl "BadModule") (fe := fun a dd => (eTup (aCons (eC (.str "module")) (aCons (eXf 1 a dd "place") aNil)))) rfl rfl hN rfl rfl (by exact ⟨rfl, rfl, .inl T.x_BadModule.mgc⟩) T.m_BadModule_BadModule (FnX.mono (fx_need_module T) (by decide)) hr (fun pn xe => (ad_cons (ed_var (i := 0)) ad_nil)) rfl rfl rfl rfl rfl rfl (fun a oe dd pn hz hf => (ed_tup (ad_cons ed_str (ad_cons (ed_xf (i := 1) T.x_BadModule.xf T.x_BadModule.no hz hf (List.mem_cons_self ..)) ad_nil)))) (fun a dd y env r hy hl => by simp only [eXf_set hl, eTup, eBin, aCons, aNil, eC]))
  (bd_one (sd_ret (ed_tup (ad_cons ed_str (ad_cons ed_non ad_nil))).b)))⟩
theorem ok_law_refused {ρ : Type} {I : Wd ρ} {K : PySem.W.Frag} {P : Program} {w : World} {mg : Str → Option Value} {base : Heap} {cl : Str → Addr} {f : Addr} {fd : FuncData} (T : Top K P w mg base cl) (F : FunD K "_law_refused" "_law_refused" (defArgs s_law_refused) (defBody s_law_refused) (defScope s_law_refused) [] [] f fd) : FnOk P w K mg base CX0 49 f fd P_law_refused (spD I K 1 g_law_refused) :=
  fnok_of (k := 48) F sc_law_refused fun cdv A outer s H E hr => bd_end (bd_law_refused T cdv A outer s H E hr)
theorem fn_law_refused {ρ : Type} {I : Wd ρ} {K : PySem.W.Frag} {P : Program} {w : World} {mg : Str → Option Value} {base : Heap} {cl : Str → Addr} (T : Top K P w mg base cl) : Fn I K P w mg base 49 "_law_refused" 1 g_law_refused := by
  obtain ⟨f, fd, F, hm⟩ := T.f_law_refused
  exact ⟨f, fd, P_law_refused, ok_law_refused T F, hm, F.kp, F.bindsN (fun _ _ _ _ _ _ us hl => match us, hl with | [_], _ => rfl)⟩
/-! _law_axioms_refused -/
abbrev N_law_axioms_refused : List Str := ["axioms_so", "error"]
abbrev P_law_axioms_refused : List Str := ["axioms_so"]
theorem sc_law_axioms_refused : FnScope N_law_axioms_refused P_law_axioms_refused (defScope s_law_axioms_refused) := ⟨rfl, rfl, rfl, by decide +kernel, rfl, by decide +kernel, by decide +kernel⟩
def b_law_axioms_refused {ρ : Type} : SS ρ :=
  (sSeq (sTry 1 (aCons (eVar 0) aNil) gx_need_axioms "BadAxioms" (fun y => (eXs "place" y)))
  (sRet (eC .non)))
def g_law_axioms_refused {ρ : Type} : List D → ρ → Option (D × ρ) := gOf N_law_axioms_refused b_law_axioms_refused
theorem bd_law_axioms_refused {ρ : Type} {I : Wd ρ} {K : PySem.W.Frag} {P : Program} {w : World} {mg : Str → Option Value} {base : Heap} {cl : Str → Addr} {f : Addr} (T : Top K P w mg base cl) (cdv : Value) (A : Around) (outer : List PySem.Env) (s : Shared) (H : Hp) (E : XK)
    (hr : Room (5) (A.deeper (envOfC "_law_axioms_refused" (defScope s_law_axioms_refused) s.heap.objs.size f cdv))) : ∃ O', Bd I (cxOf CX0 P w K mg base N_law_axioms_refused "_law_axioms_refused" (defScope s_law_axioms_refused) f cdv A outer s H E).nox [] (defBody s_law_axioms_refused) (b_law_axioms_refused (ρ := ρ)) O' := by
  have hN := (sc_law_axioms_refused).nd
  have hu : (A.deeper (envOfC "_law_axioms_refused" (defScope s_law_axioms_refused) s.heap.objs.size f cdv)).units < cLine := hr.units0
  have hu1 : (A.deeper (envOfC "_law_axioms_refused" (defScope s_law_axioms_refused) s.heap.objs.size f cdv)).units + 1 < cLine := by have := hr.units; omega
  exact ⟨[], (bd_cons (sd_try_asN (i := 1) (m := 1) (c0 := "BadAxioms") (c := cl "BadAxioms") (fe := fun a dd => (eXf 1 a dd "place")) rfl rfl hN rfl rfl (by exact ⟨rfl, rfl, .inl T.x_BadAxioms.mgc⟩) T.m_BadAxioms_BadAxioms (FnX.mono (fx_need_axioms T) (by decide)) hr (fun pn xe => (ad_cons (ed_var (i := 0)) ad_nil)) rfl rfl rfl rfl rfl rfl (fun a oe dd pn hz hf => (ed_xf (i := 1) T.x_BadAxioms.xf T.x_BadAxioms.no hz hf (List.mem_cons_self ..))) (fun a dd y env r hy hl => by simp only [eXf_set hl, eTup, eBin, aCons, aNil, eC]))
  (bd_one (sd_ret ed_non.b)))⟩
theorem ok_law_axioms_refused {ρ : Type} {I : Wd ρ} {K : PySem.W.Frag} {P : Program} {w : World} {mg : Str → Option Value} {base : Heap} {cl : Str → Addr} {f : Addr} {fd : FuncData} (T : Top K P w mg base cl) (F : FunD K "_law_axioms_refused" "_law_axioms_refused" (defArgs s_law_axioms_refused) (defBody s_law_axioms_refused) (defScope s_law_axioms_refused) [] [] f fd) : FnOk P w K mg base CX0 6 f fd P_law_axioms_refused (spD I K 1 g_law_axioms_refused) :=
  fnok_of (k := 5) F sc_law_axioms_refused fun cdv A outer s H E hr => bd_end (bd_law_axioms_refused T cdv A outer s H E hr)
theorem fn_law_axioms_refused {ρ : Type} {I : Wd ρ} {K : PySem.W.Frag} {P : Program} {w : World} {mg : Str → Option Value} {base : Heap} {cl : Str → Addr} (T : Top K P w mg base cl) : Fn I K P w mg base 6 "_law_axioms_refused" 1 g_law_axioms_refused := by
  obtain ⟨f, fd, F, hm⟩ := T.f_law_axioms_refused
  exact ⟨f, fd, P_law_axioms_refused, ok_law_axioms_refused T F, hm, F.kp, F.bindsN (fun _ _ _ _ _ _ us hl => match us, hl with | [_], _ => rfl)⟩
/-! _law_bent_bodies -/
abbrev N_law_bent_bodies : List Str := ["definition", "sign", "name", "inputs_so", "body", "use", "leak", "more"]
abbrev P_law_bent_bodies : List Str := ["definition", "sign"]
theorem sc_law_bent_bodies : FnScope N_law_bent_bodies P_law_bent_bodies (defScope s_law_bent_bodies) := ⟨rfl, rfl, rfl, by decide +kernel, rfl, by decide +kernel, by decide +kernel⟩
def b_law_bent_bodies {ρ : Type} : SS ρ :=
  (sSeq (sAsg (eVar 0) (gTp (gC (gNm 2) (gC (gNm 3) (gC (gNm 4) gN)))))
  (sSeq (sAsg (eTup (aCons (eC (.str "use")) (aCons (eBin ixD (eVar 3) (eC (.int 0))) aNil))) (gNm 5))
  (sSeq (sAsg (eTup (aCons (eC (.str "let")) (aCons (eC (.str "v")) (aCons (eVar 5) (aCons (eTup (aCons (eC (.str "use")) (aCons (eC (.str "v")) aNil))) aNil))))) (gNm 6))
  (sSeq (sOwn 7 (eLst (aCons (eTup (aCons (eVar 2) (aCons (eVar 3) (aCons (eTup (aCons (eC (.str "either")) (aCons (eVar 6) (aCons (eTup (aCons (eC (.str "use")) (aCons (eC (.str "v")) aNil))) aNil)))) aNil)))) (aCons (eTup (aCons (eVar 2) (aCons (eVar 3) (aCons (eTup (aCons (eC (.str "call")) (aCons (eVar 2) (aCons (eBin addD (eTup (aCons (eVar 6) aNil)) (eBin mulD (eTup (aCons (eTup (aCons (eC (.str "use")) (aCons (eC (.str "v")) aNil))) aNil)) (eUn lenD (eBin ixD (eVar 1) (eC (.int 2)))))) aNil)))) aNil)))) aNil))))
  (sSeq (sIf (bOf (eBin gtD (eUn lenD (eVar 3)) (eC (.int 1)))) (sApp 7 (eTup (aCons (eVar 2) (aCons (eBin mulD (eSl (eVar 3) oNone (oSome (eC (.int 1)))) (eUn lenD (eVar 3))) (aCons (eVar 5) aNil))))) sNil)
  (sSeq (sAsg (eIf (bOf (eBin gtD (eUn lenD (eBin ixD (eVar 1) (eC (.int 2)))) (eC (.int 0)))) (eVar 7) (eSl (eVar 7) oNone (oSome (eC (.int 1))))) (gNm 7))
  (sRet (eBin addD (eVar 7) (eLst (aCons (eC .non) (aCons (eSl (eVar 0) oNone (oSome (eC (.int 2)))) (aCons (eTup (aCons (eVar 2) (aCons (eVar 3) aNil))) (aCons (eUn listD (eVar 0)) (aCons (eTup (aCons (eC (.str "nobody")) (aCons (eVar 3) (aCons (eVar 4) aNil)))) (aCons (eTup (aCons (eVar 2) (aCons (eBin addD (eVar 3) (eTup (aCons (eC (.str "q")) aNil))) (aCons (eVar 4) aNil)))) (aCons (eTup (aCons (eVar 2) (aCons (eSl (eVar 3) (oSome (eC (.int 1))) oNone) (aCons (eVar 4) aNil)))) (aCons (eTup (aCons (eVar 2) (aCons (eUn listD (eVar 3)) (aCons (eVar 4) aNil)))) (aCons (eTup (aCons (eVar 2) (aCons (eBin addD (eTup (aCons (eC (.str "and")) aNil)) (eSl (eVar 3) (oSome (eC (.int 1))) oNone)) (aCons (eVar 5) aNil)))) (aCons (eTup (aCons (eVar 2) (aCons (eVar 3) (aCons (eTup (aCons (eC (.str "use")) (aCons (eC (.str "nobody")) aNil))) aNil)))) (aCons (eTup (aCons (eVar 2) (aCons (eVar 3) (aCons (eTup (aCons (eC (.str "use")) aNil)) aNil)))) (aCons (eTup (aCons (eVar 2) (aCons (eVar 3) (aCons (eTup (aCons (eC (.str "call")) (aCons (eC (.str "nobody")) (aCons (eTup (aCons (eVar 5) aNil)) aNil)))) aNil)))) (aCons (eTup (aCons (eVar 2) (aCons (eVar 3) (aCons (eTup (aCons (eC (.str "call")) (aCons (eVar 2) (aCons (eBin mulD (eTup (aCons (eVar 5) aNil)) (eBin addD (eC (.int 2)) (eUn lenD (eBin ixD (eVar 1) (eC (.int 2)))))) aNil)))) aNil)))) (aCons (eTup (aCons (eVar 2) (aCons (eVar 3) (aCons (eTup (aCons (eC (.str "call")) (aCons (eVar 2) (aCons (eBin mulD (eLst (aCons (eVar 5) aNil)) (eBin addD (eC (.int 1)) (eUn lenD (eBin ixD (eVar 1) (eC (.int 2)))))) aNil)))) aNil)))) (aCons (eTup (aCons (eVar 2) (aCons (eVar 3) (aCons (eTup (aCons (eC (.str "either")) (aCons (eVar 5) aNil))) aNil)))) (aCons (eTup (aCons (eVar 2) (aCons (eVar 3) (aCons (eTup (aCons (eC (.str "let")) (aCons (eC (.str "v")) (aCons (eTup (aCons (eC (.str "use")) (aCons (eC (.str "v")) aNil))) (aCons (eVar 5) aNil))))) aNil)))) (aCons (eTup (aCons (eVar 2) (aCons (eVar 3) (aCons (eTup (aCons (eC (.str "let")) (aCons (eC (.int 5)) (aCons (eVar 5) (aCons (eVar 5) aNil))))) aNil)))) (aCons (eTup (aCons (eVar 2) (aCons (eVar 3) (aCons (eTup (aCons (eC (.str "let")) (aCons (eC (.str "v")) (aCons (eVar 5) aNil)))) aNil)))) (aCons (eTup (aCons (eVar 2) (aCons (eVar 3) (aCons (eTup (aCons (eC (.str "either")) (aCons (eVar 5) (aCons (eC .non) aNil)))) aNil)))) (aCons (eTup (aCons (eVar 2) (aCons (eVar 3) (aCons (eTup (aCons (eC (.str "test")) (aCons (eVar 5) (aCons (eVar 5) aNil)))) aNil)))) aNil)))))))))))))))))))))))))))))
def g_law_bent_bodies {ρ : Type} : List D → ρ → Option (D × ρ) := gOf N_law_bent_bodies b_law_bent_bodies
theorem bd_law_bent_bodies {ρ : Type} {I : Wd ρ} {K : PySem.W.Frag} {P : Program} {w : World} {mg : Str → Option Value} {base : Heap} {cl : Str → Addr} {f : Addr} (T : Top K P w mg base cl) (cdv : Value) (A : Around) (outer : List PySem.Env) (s : Shared) (H : Hp) (E : XK)
    (hr : Room (0) (A.deeper (envOfC "_law_bent_bodies" (defScope s_law_bent_bodies) s.heap.objs.size f cdv))) : ∃ O', Bd I (cxOf CX0 P w K mg base N_law_bent_bodies "_law_bent_bodies" (defScope s_law_bent_bodies) f cdv A outer s H E).nox [] (defBody s_law_bent_bodies) (b_law_bent_bodies (ρ := ρ)) O' := by
  have hN := (sc_law_bent_bodies).nd
  have hu : (A.deeper (envOfC "_law_bent_bodies" (defScope s_law_bent_bodies) s.heap.objs.size f cdv)).units < cLine := hr.units0
  have hu1 : (A.deeper (envOfC "_law_bent_bodies" (defScope s_law_bent_bodies) s.heap.objs.size f cdv)).units + 1 < cLine := by have := hr.units; omega
  exact ⟨[], (bd_cons (sd_asg (ed_var (i := 0)) (gd_tup rfl (gds_cons (gd_name (i := 2) hN) (gds_cons (gd_name (i := 3) hN) (gds_cons (gd_name (i := 4) hN) gds_nil)))))
  (bd_cons (sd_asg (ed_tup (ad_cons ed_str (ad_cons (ed_ix (ed_var (i := 3)).b ed_int.b) ad_nil))) (gd_name (i := 5) hN))
  (bd_cons (sd_asg (ed_tup (ad_cons ed_str (ad_cons ed_str (ad_cons (ed_var (i := 5)) (ad_cons (ed_tup (ad_cons ed_str (ad_cons ed_str ad_nil))) ad_nil))))) (gd_name (i := 6) hN))
  (bd_cons (sd_own (i := 7) hN (ef_lst (ad_cons (ed_tup (ad_cons (ed_var (i := 2)) (ad_cons (ed_var (i := 3)) (ad_cons (ed_tup (ad_cons ed_str (ad_cons (ed_var (i := 6)) (ad_cons (ed_tup (ad_cons ed_str (ad_cons ed_str ad_nil))) ad_nil)))) ad_nil)))) (ad_cons (ed_tup (ad_cons (ed_var (i := 2)) (ad_cons (ed_var (i := 3)) (ad_cons (ed_tup (ad_cons ed_str (ad_cons (ed_var (i := 2)) (ad_cons (ed_op opd_add (ed_tup (ad_cons (ed_var (i := 6)) ad_nil)).b (ed_op opd_mul (ed_tup (ad_cons (ed_tup (ad_cons ed_str (ad_cons ed_str ad_nil))) ad_nil)).b (ed_callB cd_len (ed_ix (ed_var (i := 1)).b ed_int.b).b (by rfl) T.b_len bl_len).b).b) ad_nil)))) ad_nil)))) ad_nil))) eLst_lst)
  (bd_cons (sd_if (td_cmp opd_gt (ed_callB cd_len (ed_var (i := 3)).b (by rfl) T.b_len bl_len).b ed_int.b) (bd_one (sd_app (i := 7) (ed_tup (ad_cons (ed_var (i := 2)) (ad_cons (ed_op opd_mul (ed_sl (ed_var (i := 3)).b od_none (od_some ed_int)).b (ed_callB cd_len (ed_var (i := 3)).b (by rfl) T.b_len bl_len).b) (ad_cons (ed_var (i := 5)) ad_nil)))))) bd_nil)
  (Bd.frz (fun j => j != 7) (bd_cons (sd_asg (ed_if (td_cmp opd_gt (ed_callB cd_len (ed_ix (ed_var (i := 1)).b ed_int.b).b (by rfl) T.b_len bl_len).b ed_int.b) (ed_var (i := 7)) (ed_sl (ed_var (i := 7)).b od_none (od_some ed_int))) (gd_name (i := 7) hN))
  (bd_one (sd_ret (ed_op opd_add (ed_var (i := 7)).b (ed_lst (ad_cons ed_non (ad_cons (ed_sl (ed_var (i := 0)).b od_none (od_some ed_int)) (ad_cons (ed_tup (ad_cons (ed_var (i := 2)) (ad_cons (ed_var (i := 3)) ad_nil))) (ad_cons (ed_callTy cd_list (ed_var (i := 0)).b (by rfl) T.b_list bl_list) (ad_cons (ed_tup (ad_cons ed_str (ad_cons (ed_var (i := 3)) (ad_cons (ed_var (i := 4)) ad_nil)))) (ad_cons (ed_tup (ad_cons (ed_var (i := 2)) (ad_cons (ed_op opd_add (ed_var (i := 3)).b (ed_tup (ad_cons ed_str ad_nil)).b) (ad_cons (ed_var (i := 4)) ad_nil)))) (ad_cons (ed_tup (ad_cons (ed_var (i := 2)) (ad_cons (ed_sl (ed_var (i := 3)).b (od_some ed_int) od_none) (ad_cons (ed_var (i := 4)) ad_nil)))) (ad_cons (ed_tup (ad_cons (ed_var (i := 2)) (ad_cons (ed_callTy cd_list (ed_var (i := 3)).b (by rfl) T.b_list bl_list) (ad_cons (ed_var (i := 4)) ad_nil)))) (ad_cons (ed_tup (ad_cons (ed_var (i := 2)) (ad_cons (ed_op opd_add (ed_tup (ad_cons ed_str ad_nil)).b (ed_sl (ed_var (i := 3)).b (od_some ed_int) od_none).b) (ad_cons (ed_var (i := 5)) ad_nil)))) (ad_cons (ed_tup (ad_cons (ed_var (i := 2)) (ad_cons (ed_var (i := 3)) (ad_cons (ed_tup (ad_cons ed_str (ad_cons ed_str ad_nil))) ad_nil)))) (ad_cons (ed_tup (ad_cons (ed_var (i := 2)) (ad_cons (ed_var (i := 3)) (ad_cons (ed_tup (ad_cons ed_str ad_nil)) ad_nil)))) (ad_cons (ed_tup (ad_cons (ed_var (i := 2)) (ad_cons (ed_var (i := 3)) (ad_cons (ed_tup (ad_cons ed_str (ad_cons ed_str (ad_cons (ed_tup (ad_cons (ed_var (i := 5)) ad_nil)) ad_nil)))) ad_nil)))) (ad_cons (ed_tup (ad_cons (ed_var (i := 2)) (ad_cons (ed_var (i := 3)) (ad_cons (ed_tup (ad_cons ed_str (ad_cons (ed_var (i := 2)) (ad_cons (ed_op opd_mul (ed_tup (ad_cons (ed_var (i := 5)) ad_nil)).b (ed_op opd_add ed_int.b (ed_callB cd_len (ed_ix (ed_var (i := 1)).b ed_int.b).b (by rfl) T.b_len bl_len).b).b) ad_nil)))) ad_nil)))) (ad_cons (ed_tup (ad_cons (ed_var (i := 2)) (ad_cons (ed_var (i := 3)) (ad_cons (ed_tup (ad_cons ed_str (ad_cons (ed_var (i := 2)) (ad_cons (ed_op opd_mul (ed_lst (ad_cons (ed_var (i := 5)) ad_nil)).b (ed_op opd_add ed_int.b (ed_callB cd_len (ed_ix (ed_var (i := 1)).b ed_int.b).b (by rfl) T.b_len bl_len).b).b) ad_nil)))) ad_nil)))) (ad_cons (ed_tup (ad_cons (ed_var (i := 2)) (ad_cons (ed_var (i := 3)) (ad_cons (ed_tup (ad_cons ed_str (ad_cons (ed_var (i := 5)) ad_nil))) ad_nil)))) (ad_cons (ed_tup (ad_cons (ed_var (i := 2)) (ad_cons (ed_var (i := 3)) (ad_cons (ed_tup (ad_cons ed_str (ad_cons ed_str (ad_cons (ed_tup (ad_cons ed_str (ad_cons ed_str ad_nil))) (ad_cons (ed_var (i := 5)) ad_nil))))) ad_nil)))) (ad_cons (ed_tup (ad_cons (ed_var (i := 2)) (ad_cons (ed_var (i := 3)) (ad_cons (ed_tup (ad_cons ed_str (ad_cons ed_int (ad_cons (ed_var (i := 5)) (ad_cons (ed_var (i := 5)) ad_nil))))) ad_nil)))) (ad_cons (ed_tup (ad_cons (ed_var (i := 2)) (ad_cons (ed_var (i := 3)) (ad_cons (ed_tup (ad_cons ed_str (ad_cons ed_str (ad_cons (ed_var (i := 5)) ad_nil)))) ad_nil)))) (ad_cons (ed_tup (ad_cons (ed_var (i := 2)) (ad_cons (ed_var (i := 3)) (ad_cons (ed_tup (ad_cons ed_str (ad_cons (ed_var (i := 5)) (ad_cons ed_non ad_nil)))) ad_nil)))) (ad_cons (ed_tup (ad_cons (ed_var (i := 2)) (ad_cons (ed_var (i := 3)) (ad_cons (ed_tup (ad_cons ed_str (ad_cons (ed_var (i := 5)) (ad_cons (ed_var (i := 5)) ad_nil)))) ad_nil)))) ad_nil))))))))))))))))))))).b).b)))))))))⟩
theorem ok_law_bent_bodies {ρ : Type} {I : Wd ρ} {K : PySem.W.Frag} {P : Program} {w : World} {mg : Str → Option Value} {base : Heap} {cl : Str → Addr} {f : Addr} {fd : FuncData} (T : Top K P w mg base cl) (F : FunD K "_law_bent_bodies" "_law_bent_bodies" (defArgs s_law_bent_bodies) (defBody s_law_bent_bodies) (defScope s_law_bent_bodies) [] [] f fd) : FnOk P w K mg base CX0 1 f fd P_law_bent_bodies (spD I K 2 g_law_bent_bodies) :=
  fnok_of (k := 0) F sc_law_bent_bodies fun cdv A outer s H E hr => bd_end (bd_law_bent_bodies T cdv A outer s H E hr)
theorem fn_law_bent_bodies {ρ : Type} {I : Wd ρ} {K : PySem.W.Frag} {P : Program} {w : World} {mg : Str → Option Value} {base : Heap} {cl : Str → Addr} (T : Top K P w mg base cl) : Fn I K P w mg base 1 "_law_bent_bodies" 2 g_law_bent_bodies := by
  obtain ⟨f, fd, F, hm⟩ := T.f_law_bent_bodies
  exact ⟨f, fd, P_law_bent_bodies, ok_law_bent_bodies T F, hm, F.kp, F.bindsN (fun _ _ _ _ _ _ us hl => match us, hl with | [_, _], _ => rfl)⟩
/-! _law_bent_signs -/
abbrev N_law_bent_signs : List Str := ["sign", "name", "rows_so", "further"]
abbrev P_law_bent_signs : List Str := ["sign"]
theorem sc_law_bent_signs : FnScope N_law_bent_signs P_law_bent_signs (defScope s_law_bent_signs) := ⟨rfl, rfl, rfl, by decide +kernel, rfl, by decide +kernel, by decide +kernel⟩
def b_law_bent_signs {ρ : Type} : SS ρ :=
  (sSeq (sAsg (eVar 0) (gTp (gC (gNm 1) (gC (gNm 2) (gC (gNm 3) gN)))))
  (sRet (eLst (aCons (eC .non) (aCons (eSl (eVar 0) oNone (oSome (eC (.int 2)))) (aCons (eUn listD (eVar 0)) (aCons (eTup (aCons (eC (.str "")) (aCons (eVar 2) (aCons (eVar 3) aNil)))) (aCons (eTup (aCons (eC (.str "abcdefghi")) (aCons (eVar 2) (aCons (eVar 3) aNil)))) (aCons (eTup (aCons (eC (.str "not")) (aCons (eVar 2) (aCons (eVar 3) aNil)))) (aCons (eTup (aCons (eVar 1) (aCons (eTup aNil) (aCons (eVar 3) aNil)))) (aCons (eTup (aCons (eVar 1) (aCons (eBin mulD (eSl (eVar 2) oNone (oSome (eC (.int 1)))) (eC (.int 5))) (aCons (eVar 3) aNil)))) (aCons (eTup (aCons (eVar 1) (aCons (eUn listD (eVar 2)) (aCons (eVar 3) aNil)))) (aCons (eTup (aCons (eVar 1) (aCons (eTup (aCons (eBin addD (eBin ixD (eVar 2) (eC (.int 0))) (eTup (aCons (eTup (aCons (eC (.str "yes")) aNil)) aNil))) aNil)) (aCons (eVar 3) aNil)))) (aCons (eTup (aCons (eVar 1) (aCons (eTup (aCons (eTup (aCons (eTup (aCons (eC (.str "yes")) aNil)) (aCons (eTup (aCons (eC (.str "maybe")) aNil)) aNil))) aNil)) (aCons (eVar 3) aNil)))) (aCons (eTup (aCons (eVar 1) (aCons (eVar 2) (aCons (eBin mulD (eTup (aCons (eTup (aCons (eC (.str "yes")) aNil)) aNil)) (eC (.int 3))) aNil)))) (aCons (eTup (aCons (eVar 1) (aCons (eVar 2) (aCons (eLst (aCons (eTup (aCons (eC (.str "yes")) aNil)) aNil)) aNil)))) (aCons (eTup (aCons (eVar 1) (aCons (eVar 2) (aCons (eTup (aCons (eTup (aCons (eC (.str "letter")) (aCons (eC (.int 1)) aNil))) aNil)) aNil)))) (aCons (eTup (aCons (eC (.int 5)) (aCons (eVar 2) (aCons (eVar 3) aNil)))) aNil))))))))))))))))))
def g_law_bent_signs {ρ : Type} : List D → ρ → Option (D × ρ) := gOf N_law_bent_signs b_law_bent_signs
theorem bd_law_bent_signs {ρ : Type} {I : Wd ρ} {K : PySem.W.Frag} {P : Program} {w : World} {mg : Str → Option Value} {base : Heap} {cl : Str → Addr} {f : Addr} (T : Top K P w mg base cl) (cdv : Value) (A : Around) (outer : List PySem.Env) (s : Shared) (H : Hp) (E : XK)
    (hr : Room (0) (A.deeper (envOfC "_law_bent_signs" (defScope s_law_bent_signs) s.heap.objs.size f cdv))) : ∃ O', Bd I (cxOf CX0 P w K mg base N_law_bent_signs "_law_bent_signs" (defScope s_law_bent_signs) f cdv A outer s H E).nox [] (defBody s_law_bent_signs) (b_law_bent_signs (ρ := ρ)) O' := by
  have hN := (sc_law_bent_signs).nd
  have hu : (A.deeper (envOfC "_law_bent_signs" (defScope s_law_bent_signs) s.heap.objs.size f cdv)).units < cLine := hr.units0
  have hu1 : (A.deeper (envOfC "_law_bent_signs" (defScope s_law_bent_signs) s.heap.objs.size f cdv)).units + 1 < cLine := by have := hr.units; omega
  exact ⟨[], (bd_cons (sd_asg (ed_var (i := 0)) (gd_tup rfl (gds_cons (gd_name (i := 1) hN) (gds_cons (gd_name (i := 2) hN) (gds_cons (gd_name (i := 3) hN) gds_nil)))))
  (bd_one (sd_ret (ed_lst (ad_cons ed_non (ad_cons (ed_sl (ed_var (i := 0)).b od_none (od_some ed_int)) (ad_cons (ed_callTy cd_list (ed_var (i := 0)).b (by rfl) T.b_list bl_list) (ad_cons (ed_tup (ad_cons ed_str (ad_cons (ed_var (i := 2)) (ad_cons (ed_var (i := 3)) ad_nil)))) (ad_cons (ed_tup (ad_cons ed_str (ad_cons (ed_var (i := 2)) (ad_cons (ed_var (i := 3)) ad_nil)))) (ad_cons (ed_tup (ad_cons ed_str (ad_cons (ed_var (i := 2)) (ad_cons (ed_var (i := 3)) ad_nil)))) (ad_cons (ed_tup (ad_cons (ed_var (i := 1)) (ad_cons (ed_tup ad_nil) (ad_cons (ed_var (i := 3)) ad_nil)))) (ad_cons (ed_tup (ad_cons (ed_var (i := 1)) (ad_cons (ed_op opd_mul (ed_sl (ed_var (i := 2)).b od_none (od_some ed_int)).b ed_int.b) (ad_cons (ed_var (i := 3)) ad_nil)))) (ad_cons (ed_tup (ad_cons (ed_var (i := 1)) (ad_cons (ed_callTy cd_list (ed_var (i := 2)).b (by rfl) T.b_list bl_list) (ad_cons (ed_var (i := 3)) ad_nil)))) (ad_cons (ed_tup (ad_cons (ed_var (i := 1)) (ad_cons (ed_tup (ad_cons (ed_op opd_add (ed_ix (ed_var (i := 2)).b ed_int.b).b (ed_tup (ad_cons (ed_tup (ad_cons ed_str ad_nil)) ad_nil)).b) ad_nil)) (ad_cons (ed_var (i := 3)) ad_nil)))) (ad_cons (ed_tup (ad_cons (ed_var (i := 1)) (ad_cons (ed_tup (ad_cons (ed_tup (ad_cons (ed_tup (ad_cons ed_str ad_nil)) (ad_cons (ed_tup (ad_cons ed_str ad_nil)) ad_nil))) ad_nil)) (ad_cons (ed_var (i := 3)) ad_nil)))) (ad_cons (ed_tup (ad_cons (ed_var (i := 1)) (ad_cons (ed_var (i := 2)) (ad_cons (ed_op opd_mul (ed_tup (ad_cons (ed_tup (ad_cons ed_str ad_nil)) ad_nil)).b ed_int.b) ad_nil)))) (ad_cons (ed_tup (ad_cons (ed_var (i := 1)) (ad_cons (ed_var (i := 2)) (ad_cons (ed_lst (ad_cons (ed_tup (ad_cons ed_str ad_nil)) ad_nil)) ad_nil)))) (ad_cons (ed_tup (ad_cons (ed_var (i := 1)) (ad_cons (ed_var (i := 2)) (ad_cons (ed_tup (ad_cons (ed_tup (ad_cons ed_str (ad_cons ed_int ad_nil))) ad_nil)) ad_nil)))) (ad_cons (ed_tup (ad_cons ed_int (ad_cons (ed_var (i := 2)) (ad_cons (ed_var (i := 3)) ad_nil)))) ad_nil)))))))))))))))).b)))⟩
theorem ok_law_bent_signs {ρ : Type} {I : Wd ρ} {K : PySem.W.Frag} {P : Program} {w : World} {mg : Str → Option Value} {base : Heap} {cl : Str → Addr} {f : Addr} {fd : FuncData} (T : Top K P w mg base cl) (F : FunD K "_law_bent_signs" "_law_bent_signs" (defArgs s_law_bent_signs) (defBody s_law_bent_signs) (defScope s_law_bent_signs) [] [] f fd) : FnOk P w K mg base CX0 1 f fd P_law_bent_signs (spD I K 1 g_law_bent_signs) :=
  fnok_of (k := 0) F sc_law_bent_signs fun cdv A outer s H E hr => bd_end (bd_law_bent_signs T cdv A outer s H E hr)
theorem fn_law_bent_signs {ρ : Type} {I : Wd ρ} {K : PySem.W.Frag} {P : Program} {w : World} {mg : Str → Option Value} {base : Heap} {cl : Str → Addr} (T : Top K P w mg base cl) : Fn I K P w mg base 1 "_law_bent_signs" 1 g_law_bent_signs := by
  obtain ⟨f, fd, F, hm⟩ := T.f_law_bent_signs
  exact ⟨f, fd, P_law_bent_signs, ok_law_bent_signs T F, hm, F.kp, F.bindsN (fun _ _ _ _ _ _ us hl => match us, hl with | [_], _ => rfl)⟩
/-! _law_module_right -/
abbrev N_law_module_right : List Str := ["m", "names", "module_so", "definition", "axioms_so", "signs", "found", "spot", "odd", "rows_so", "sign", "wrong", "value", "place_so"]
abbrev P_law_module_right : List Str := ["m", "names"]
theorem sc_law_module_right : FnScope N_law_module_right P_law_module_right (defScope s_law_module_right) := ⟨rfl, rfl, rfl, by decide +kernel, rfl, by decide +kernel, by decide +kernel⟩
def b_law_module_right  : SS Rw :=
  (sSeq (sAsg (eCall 2 g_law_module (aCons (eVar 0) (aCons (eVar 1) aNil))) (gNm 2))
  (sSeq (sIf (bNot (bOf (eCall 2 (g_law_like fuel_law_like) (aCons (eLst (aCons (eCallK g_need_module pmId (aCons (eVar 2) aNil)) (aCons (eCallK g_is_module pmId (aCons (eVar 2) aNil)) aNil))) (aCons (eLst (aCons (eVar 2) (aCons (eC (.bl true)) aNil))) aNil))))) (sRet (eC (.bl false))) sNil)
  (sSeq (sFor (iSeqD (eBin ixD (eVar 2) (eC (.int 2)))) (gNm 3) (sIf (bNot (bOf (eCall 2 (g_law_like fuel_law_like) (aCons (eCallK g_body_nodes pmRev (aCons (eBin ixD (eVar 3) (eC (.int 0))) (aCons (eVar 2) aNil))) (aCons (eUn tupleD (eCall 1 (g_law_nodes fuel_law_nodes) (aCons (eBin ixD (eVar 3) (eC (.int 2))) aNil))) aNil))))) (sRet (eC (.bl false))) sNil))
  (sSeq (sAsg (eVar 2) (gTp (gC (gNm 4) (gC (gNm 5) (gC (gNm 6) gN)))))
  (sSeq (sAsg (eCall 2 g_law_draw (aCons (eVar 0) (aCons (eUn lenD (eVar 5)) aNil))) (gNm 7))
  (sSeq (sAsg (eBin addD (eBin addD (eSl (eVar 5) oNone (oSome (eVar 7))) (eTup (aCons (eCall 2 g_law_of (aCons (eVar 0) (aCons (eCall 1 g_law_bent_signs (aCons (eBin ixD (eVar 5) (eVar 7)) aNil)) aNil))) aNil))) (eSl (eVar 5) (oSome (eBin addD (eVar 7) (eC (.int 1)))) oNone)) (gNm 8))
  (sSeq (sOwn 9 (eLst (aCons (eTup (aCons (eTup (aCons (eVar 4) (aCons (eVar 8) (aCons (eVar 6) aNil)))) (aCons (eTup (aCons (eC (.int 1)) (aCons (eVar 7) aNil))) aNil))) (aCons (eTup (aCons (eTup (aCons (eVar 4) (aCons (eUn revD (eVar 5)) (aCons (eVar 6) aNil)))) (aCons (eTup (aCons (eC (.int 1)) (aCons (eC (.int 1)) aNil))) aNil))) (aCons (eTup (aCons (eTup (aCons (eVar 4) (aCons (eBin addD (eVar 5) (eSl (eVar 5) (oSome (eC (.int (-1)))) oNone)) (aCons (eVar 6) aNil)))) (aCons (eTup (aCons (eC (.int 1)) (aCons (eUn lenD (eVar 5)) aNil))) aNil))) (aCons (eTup (aCons (eTup (aCons (eVar 4) (aCons (eUn listD (eVar 5)) (aCons (eVar 6) aNil)))) (aCons (eTup (aCons (eC (.int 1)) aNil)) aNil))) (aCons (eTup (aCons (eSl (eVar 2) oNone (oSome (eC (.int 2)))) (aCons (eTup aNil) aNil))) (aCons (eTup (aCons (eUn listD (eVar 2)) (aCons (eTup aNil) aNil))) (aCons (eTup (aCons (eTup (aCons (eVar 4) (aCons (eVar 5) (aCons (eC .non) aNil)))) (aCons (eTup (aCons (eC (.int 2)) aNil)) aNil))) (aCons (eTup (aCons (eTup (aCons (eC .non) (aCons (eVar 5) (aCons (eVar 6) aNil)))) (aCons (eTup (aCons (eC (.int 0)) aNil)) aNil))) aNil))))))))))
  (sSeq (sIf (bOf (eBin neD (eVar 6) (eTup aNil))) (sSeq (sAsg (eCall 2 g_law_draw (aCons (eVar 0) (aCons (eUn lenD (eVar 6)) aNil))) (gNm 7))
  (sSeq (sAsg (eCall 2 g_law_sign (aCons (eVar 2) (aCons (eBin ixD (eBin ixD (eVar 6) (eVar 7)) (eC (.int 0))) aNil))) (gNm 10))
  (sSeq (sAsg (eBin addD (eBin addD (eSl (eVar 6) oNone (oSome (eVar 7))) (eTup (aCons (eCall 2 g_law_of (aCons (eVar 0) (aCons (eCall 2 g_law_bent_bodies (aCons (eBin ixD (eVar 6) (eVar 7)) (aCons (eVar 10) aNil))) aNil))) aNil))) (eSl (eVar 6) (oSome (eBin addD (eVar 7) (eC (.int 1)))) oNone)) (gNm 8))
  (sExt 9 (eLst (aCons (eTup (aCons (eTup (aCons (eVar 4) (aCons (eVar 5) (aCons (eVar 8) aNil)))) (aCons (eTup (aCons (eC (.int 2)) (aCons (eVar 7) aNil))) aNil))) (aCons (eTup (aCons (eTup (aCons (eVar 4) (aCons (eVar 5) (aCons (eBin addD (eVar 6) (eSl (eVar 6) (oSome (eC (.int (-1)))) oNone)) aNil)))) (aCons (eTup (aCons (eC (.int 2)) (aCons (eUn lenD (eVar 6)) aNil))) aNil))) aNil))))))) sNil)
  (sSeq (sAsg (eBin addD (eVar 4) (eTup (aCons (eTup (aCons (eTup (aCons (eC (.str "yes")) aNil)) (aCons (eTup (aCons (eC (.str "and")) (aCons (eTup (aCons (eC (.str "no")) aNil)) (aCons (eC (.int 7)) aNil)))) aNil))) (aCons (eC .non) aNil)))) (gNm 11))
  (sSeq (sApp 9 (eTup (aCons (eTup (aCons (eVar 11) (aCons (eC .non) (aCons (eC .non) aNil)))) (aCons (eBin addD (eTup (aCons (eC (.int 0)) aNil)) (eCall 1 g_law_axioms_refused (aCons (eVar 11) aNil))) aNil))))
  (sSeq (sFor (iSeqD (eVar 9)) (gTp (gC (gNm 12) (gC (gNm 13) gN))) (sIf (bNot (bOf (eCall 2 (g_law_like fuel_law_like) (aCons (eLst (aCons (eCall 1 g_law_refused (aCons (eVar 12) aNil)) (aCons (eCall 1 g_is_module (aCons (eVar 12) aNil)) aNil))) (aCons (eLst (aCons (eTup (aCons (eC (.str "module")) (aCons (eVar 13) aNil))) (aCons (eC (.bl false)) aNil))) aNil))))) (sRet (eC (.bl false))) sNil))
  (sRet (eC (.bl true))))))))))))))
def g_law_module_right  : List D → Rw → Option (D × Rw) := gOf N_law_module_right b_law_module_right
theorem bd_law_module_right   {K : PySem.W.Frag} {P : Program} {w : World} {mg : Str → Option Value} {base : Heap} {cl : Str → Addr} {f : Addr} (T : Top K P w mg base cl) (cdv : Value) (A : Around) (outer : List PySem.Env) (s : Shared) (H : Hp) (E : XK)
    (hr : Room (50) (A.deeper (envOfC "_law_module_right" (defScope s_law_module_right) s.heap.objs.size f cdv))) : ∃ O', Bd Iw (cxOf CX0 P w K mg base N_law_module_right "_law_module_right" (defScope s_law_module_right) f cdv A outer s H E).nox [] (defBody s_law_module_right) b_law_module_right O' := by
  have hN := (sc_law_module_right).nd
  have hu : (A.deeper (envOfC "_law_module_right" (defScope s_law_module_right) s.heap.objs.size f cdv)).units < cLine := hr.units0
  have hu1 : (A.deeper (envOfC "_law_module_right" (defScope s_law_module_right) s.heap.objs.size f cdv)).units + 1 < cLine := by have := hr.units; omega
  exact ⟨[], (bd_cons (sd_asg (ed_call (Fn.mono (fn_law_module T) (by decide)) hr (ad_cons (ed_var (i := 0)) (ad_cons (ed_var (i := 1)) ad_nil))) (gd_name (i := 2) hN))
  (bd_cons (sd_if (td_not (td_val (ed_call (Fn.mono (fn_law_like T (j := fuel_law_like)) (by decide)) hr (ad_cons (ed_lst (ad_cons (ed_callK (FnK.mono (fk_need_module T) (by decide)) hr (kd_cons (ed_var (i := 2)) kd_nil) pmId_reps pmId_len1) (ad_cons (ed_callK (FnK.mono (fk_is_module T) (by decide)) hr (kd_cons (ed_var (i := 2)) kd_nil) pmId_reps pmId_len1) ad_nil))) (ad_cons (ed_lst (ad_cons (ed_var (i := 2)) (ad_cons ed_bl ad_nil))) ad_nil))))) (bd_one (sd_ret ed_bl.b)) bd_nil)
  (bd_cons (sd_for PassesOwn.never rfl (wk_seq (ed_ix (ed_var (i := 2)).b ed_int.b)) (gd_name (i := 3) hN) (bd_one (sd_if (td_not (td_val (ed_call (Fn.mono (fn_law_like T (j := fuel_law_like)) (by decide)) hr (ad_cons (ed_callK (FnK.mono (fk_body_nodes T) (by decide)) hr (kd_cons (ed_ix (ed_var (i := 3)).b ed_int.b) (kd_cons (ed_var (i := 2)) kd_nil)) pmRev_reps pmRev_len2) (ad_cons (ed_callTy cd_tuple (ed_call (Fn.mono (fn_law_nodes T (j := fuel_law_nodes)) (by decide)) hr (ad_cons (ed_ix (ed_var (i := 3)).b ed_int.b) ad_nil)).b (by rfl) T.b_tuple bl_tuple) ad_nil))))) (bd_one (sd_ret ed_bl.b)) bd_nil)))
  (bd_cons (sd_asg (ed_var (i := 2)) (gd_tup rfl (gds_cons (gd_name (i := 4) hN) (gds_cons (gd_name (i := 5) hN) (gds_cons (gd_name (i := 6) hN) gds_nil)))))
  (bd_cons (sd_asg (ed_call (Fn.mono (fn_law_draw T) (by decide)) hr (ad_cons (ed_var (i := 0)) (ad_cons (ed_callB cd_len (ed_var (i := 5)).b (by rfl) T.b_len bl_len) ad_nil))) (gd_name (i := 7) hN))
  (bd_cons (sd_asg (ed_op opd_add (ed_op opd_add (ed_sl (ed_var (i := 5)).b od_none (od_some (ed_var (i := 7)))).b (ed_tup (ad_cons (ed_call (Fn.mono (fn_law_of T) (by decide)) hr (ad_cons (ed_var (i := 0)) (ad_cons (ed_call (Fn.mono (fn_law_bent_signs T) (by decide)) hr (ad_cons (ed_ix (ed_var (i := 5)).b (ed_var (i := 7)).b) ad_nil)) ad_nil))) ad_nil)).b).b (ed_sl (ed_var (i := 5)).b (od_some (ed_op opd_add (ed_var (i := 7)).b ed_int.b)) od_none).b) (gd_name (i := 8) hN))
  (bd_cons (sd_own (i := 9) hN (ef_lst (ad_cons (ed_tup (ad_cons (ed_tup (ad_cons (ed_var (i := 4)) (ad_cons (ed_var (i := 8)) (ad_cons (ed_var (i := 6)) ad_nil)))) (ad_cons (ed_tup (ad_cons ed_int (ad_cons (ed_var (i := 7)) ad_nil))) ad_nil))) (ad_cons (ed_tup (ad_cons (ed_tup (ad_cons (ed_var (i := 4)) (ad_cons (ed_rev (ed_var (i := 5))) (ad_cons (ed_var (i := 6)) ad_nil)))) (ad_cons (ed_tup (ad_cons ed_int (ad_cons ed_int ad_nil))) ad_nil))) (ad_cons (ed_tup (ad_cons (ed_tup (ad_cons (ed_var (i := 4)) (ad_cons (ed_op opd_add (ed_var (i := 5)).b (ed_sl (ed_var (i := 5)).b (od_some ed_negc) od_none).b) (ad_cons (ed_var (i := 6)) ad_nil)))) (ad_cons (ed_tup (ad_cons ed_int (ad_cons (ed_callB cd_len (ed_var (i := 5)).b (by rfl) T.b_len bl_len) ad_nil))) ad_nil))) (ad_cons (ed_tup (ad_cons (ed_tup (ad_cons (ed_var (i := 4)) (ad_cons (ed_callTy cd_list (ed_var (i := 5)).b (by rfl) T.b_list bl_list) (ad_cons (ed_var (i := 6)) ad_nil)))) (ad_cons (ed_tup (ad_cons ed_int ad_nil)) ad_nil))) (ad_cons (ed_tup (ad_cons (ed_sl (ed_var (i := 2)).b od_none (od_some ed_int)) (ad_cons (ed_tup ad_nil) ad_nil))) (ad_cons (ed_tup (ad_cons (ed_callTy cd_list (ed_var (i := 2)).b (by rfl) T.b_list bl_list) (ad_cons (ed_tup ad_nil) ad_nil))) (ad_cons (ed_tup (ad_cons (ed_tup (ad_cons (ed_var (i := 4)) (ad_cons (ed_var (i := 5)) (ad_cons ed_non ad_nil)))) (ad_cons (ed_tup (ad_cons ed_int ad_nil)) ad_nil))) (ad_cons (ed_tup (ad_cons (ed_tup (ad_cons ed_non (ad_cons (ed_var (i := 5)) (ad_cons (ed_var (i := 6)) ad_nil)))) (ad_cons (ed_tup (ad_cons ed_int ad_nil)) ad_nil))) ad_nil))))))))) eLst_lst)
  (bd_cons (sd_if (td_cmp (opd_ne hu) (ed_var (i := 6)).b (ed_tup ad_nil).b) (bd_cons (sd_asg (ed_call (Fn.mono (fn_law_draw T) (by decide)) hr (ad_cons (ed_var (i := 0)) (ad_cons (ed_callB cd_len (ed_var (i := 6)).b (by rfl) T.b_len bl_len) ad_nil))) (gd_name (i := 7) hN))
  (bd_cons (sd_asg (ed_call (Fn.mono (fn_law_sign T) (by decide)) hr (ad_cons (ed_var (i := 2)) (ad_cons (ed_ix (ed_ix (ed_var (i := 6)).b (ed_var (i := 7)).b).b ed_int.b) ad_nil))) (gd_name (i := 10) hN))
  (bd_cons (sd_asg (ed_op opd_add (ed_op opd_add (ed_sl (ed_var (i := 6)).b od_none (od_some (ed_var (i := 7)))).b (ed_tup (ad_cons (ed_call (Fn.mono (fn_law_of T) (by decide)) hr (ad_cons (ed_var (i := 0)) (ad_cons (ed_call (Fn.mono (fn_law_bent_bodies T) (by decide)) hr (ad_cons (ed_ix (ed_var (i := 6)).b (ed_var (i := 7)).b) (ad_cons (ed_var (i := 10)) ad_nil))) ad_nil))) ad_nil)).b).b (ed_sl (ed_var (i := 6)).b (od_some (ed_op opd_add (ed_var (i := 7)).b ed_int.b)) od_none).b) (gd_name (i := 8) hN))
  (bd_one (sd_ext (i := 9) (ed_lst (ad_cons (ed_tup (ad_cons (ed_tup (ad_cons (ed_var (i := 4)) (ad_cons (ed_var (i := 5)) (ad_cons (ed_var (i := 8)) ad_nil)))) (ad_cons (ed_tup (ad_cons ed_int (ad_cons (ed_var (i := 7)) ad_nil))) ad_nil))) (ad_cons (ed_tup (ad_cons (ed_tup (ad_cons (ed_var (i := 4)) (ad_cons (ed_var (i := 5)) (ad_cons (ed_op opd_add (ed_var (i := 6)).b (ed_sl (ed_var (i := 6)).b (od_some ed_negc) od_none).b) ad_nil)))) (ad_cons (ed_tup (ad_cons ed_int (ad_cons (ed_callB cd_len (ed_var (i := 6)).b (by rfl) T.b_len bl_len) ad_nil))) ad_nil))) ad_nil)))))))) bd_nil)
  (bd_cons (sd_asg (ed_op opd_add (ed_var (i := 4)).b (ed_tup (ad_cons (ed_tup (ad_cons (ed_tup (ad_cons ed_str ad_nil)) (ad_cons (ed_tup (ad_cons ed_str (ad_cons (ed_tup (ad_cons ed_str ad_nil)) (ad_cons ed_int ad_nil)))) ad_nil))) (ad_cons ed_non ad_nil))).b) (gd_name (i := 11) hN))
  (bd_cons (sd_app (i := 9) (ed_tup (ad_cons (ed_tup (ad_cons (ed_var (i := 11)) (ad_cons ed_non (ad_cons ed_non ad_nil)))) (ad_cons (ed_op opd_add (ed_tup (ad_cons ed_int ad_nil)).b (ed_call (Fn.mono (fn_law_axioms_refused T) (by decide)) hr (ad_cons (ed_var (i := 11)) ad_nil)).b) ad_nil))))
  (Bd.frz (fun j => j != 9) (bd_cons (sd_for PassesOwn.never rfl (wk_seq (ed_var (i := 9))) (gd_tup rfl (gds_cons (gd_name (i := 12) hN) (gds_cons (gd_name (i := 13) hN) gds_nil))) (bd_one (sd_if (td_not (td_val (ed_call (Fn.mono (fn_law_like T (j := fuel_law_like)) (by decide)) hr (ad_cons (ed_lst (ad_cons (ed_call (Fn.mono (fn_law_refused T) (by decide)) hr (ad_cons (ed_var (i := 12)) ad_nil)) (ad_cons (ed_call (Fn.mono (fn_is_module T) (by decide)) hr (ad_cons (ed_var (i := 12)) ad_nil)) ad_nil))) (ad_cons (ed_lst (ad_cons (ed_tup (ad_cons ed_str (ad_cons (ed_var (i := 13)) ad_nil))) (ad_cons ed_bl ad_nil))) ad_nil))))) (bd_one (sd_ret ed_bl.b)) bd_nil)))
  (bd_one (sd_ret ed_bl.b))))))))))))))⟩
theorem ok_law_module_right   {K : PySem.W.Frag} {P : Program} {w : World} {mg : Str → Option Value} {base : Heap} {cl : Str → Addr} {f : Addr} {fd : FuncData} (T : Top K P w mg base cl) (F : FunD K "_law_module_right" "_law_module_right" (defArgs s_law_module_right) (defBody s_law_module_right) (defScope s_law_module_right) [] [] f fd) : FnOk P w K mg base CX0 51 f fd P_law_module_right (spD Iw K 2 g_law_module_right) :=
  fnok_of (k := 50) F sc_law_module_right fun cdv A outer s H E hr => bd_end (bd_law_module_right T cdv A outer s H E hr)
theorem fn_law_module_right   {K : PySem.W.Frag} {P : Program} {w : World} {mg : Str → Option Value} {base : Heap} {cl : Str → Addr} (T : Top K P w mg base cl) : Fn Iw K P w mg base 51 "_law_module_right" 2 g_law_module_right := by
  obtain ⟨f, fd, F, hm⟩ := T.f_law_module_right
  exact ⟨f, fd, P_law_module_right, ok_law_module_right T F, hm, F.kp, F.bindsN (fun _ _ _ _ _ _ us hl => match us, hl with | [_, _], _ => rfl)⟩
/-! _law_long_body -/
abbrev N_law_long_body : List Str := ["many", "found", "again"]
abbrev P_law_long_body : List Str := ["many"]
theorem sc_law_long_body : FnScope N_law_long_body P_law_long_body (defScope s_law_long_body) := ⟨rfl, rfl, rfl, by decide +kernel, rfl, by decide +kernel, by decide +kernel⟩
def b_law_long_body {ρ : Type} : SS ρ :=
  (sSeq (sAsg (eTup (aCons (eC (.str "use")) (aCons (eC (.str "x")) aNil))) (gNm 1))
  (sSeq (sFor (iRng rng1B (aCons (eVar 0) aNil)) (gNm 2) (sAsg (eTup (aCons (eC (.str "either")) (aCons (eTup (aCons (eC (.str "use")) (aCons (eC (.str "x")) aNil))) (aCons (eVar 1) aNil)))) (gNm 1)))
  (sRet (eVar 1))))
def g_law_long_body {ρ : Type} : List D → ρ → Option (D × ρ) := gOf N_law_long_body b_law_long_body
theorem bd_law_long_body {ρ : Type} {I : Wd ρ} {K : PySem.W.Frag} {P : Program} {w : World} {mg : Str → Option Value} {base : Heap} {cl : Str → Addr} {f : Addr} (T : Top K P w mg base cl) (cdv : Value) (A : Around) (outer : List PySem.Env) (s : Shared) (H : Hp) (E : XK)
    (hr : Room (0) (A.deeper (envOfC "_law_long_body" (defScope s_law_long_body) s.heap.objs.size f cdv))) : ∃ O', Bd I (cxOf CX0 P w K mg base N_law_long_body "_law_long_body" (defScope s_law_long_body) f cdv A outer s H E).nox [] (defBody s_law_long_body) (b_law_long_body (ρ := ρ)) O' := by
  have hN := (sc_law_long_body).nd
  have hu : (A.deeper (envOfC "_law_long_body" (defScope s_law_long_body) s.heap.objs.size f cdv)).units < cLine := hr.units0
  have hu1 : (A.deeper (envOfC "_law_long_body" (defScope s_law_long_body) s.heap.objs.size f cdv)).units + 1 < cLine := by have := hr.units; omega
  exact ⟨[], (bd_cons (sd_asg (ed_tup (ad_cons ed_str (ad_cons ed_str ad_nil))) (gd_name (i := 1) hN))
  (bd_cons (sd_for PassesOwn.never rfl (wk_range1 (by rfl) T.b_range (ad_cons (ed_var (i := 0)) ad_nil)) (gd_name (i := 2) hN) (bd_one (sd_asg (ed_tup (ad_cons ed_str (ad_cons (ed_tup (ad_cons ed_str (ad_cons ed_str ad_nil))) (ad_cons (ed_var (i := 1)) ad_nil)))) (gd_name (i := 1) hN))))
  (bd_one (sd_ret (ed_var (i := 1)).b))))⟩
theorem ok_law_long_body {ρ : Type} {I : Wd ρ} {K : PySem.W.Frag} {P : Program} {w : World} {mg : Str → Option Value} {base : Heap} {cl : Str → Addr} {f : Addr} {fd : FuncData} (T : Top K P w mg base cl) (F : FunD K "_law_long_body" "_law_long_body" (defArgs s_law_long_body) (defBody s_law_long_body) (defScope s_law_long_body) [] [] f fd) : FnOk P w K mg base CX0 1 f fd P_law_long_body (spD I K 1 g_law_long_body) :=
  fnok_of (k := 0) F sc_law_long_body fun cdv A outer s H E hr => bd_end (bd_law_long_body T cdv A outer s H E hr)
theorem fn_law_long_body {ρ : Type} {I : Wd ρ} {K : PySem.W.Frag} {P : Program} {w : World} {mg : Str → Option Value} {base : Heap} {cl : Str → Addr} (T : Top K P w mg base cl) : Fn I K P w mg base 1 "_law_long_body" 1 g_law_long_body := by
  obtain ⟨f, fd, F, hm⟩ := T.f_law_long_body
  exact ⟨f, fd, P_law_long_body, ok_law_long_body T F, hm, F.kp, F.bindsN (fun _ _ _ _ _ _ us hl => match us, hl with | [_], _ => rfl)⟩
/-! _law_sizes_right -/
abbrev N_law_sizes_right : List Str := ["one", "signs", "name", "good", "longer", "many", "double"]
abbrev P_law_sizes_right : List Str := []
theorem sc_law_sizes_right : FnScope N_law_sizes_right P_law_sizes_right (defScope s_law_sizes_right) := ⟨rfl, rfl, rfl, by decide +kernel, rfl, by decide +kernel, by decide +kernel⟩
def b_law_sizes_right {ρ : Type} : SS ρ :=
  (sSeq (sPar [0, 1] (aCons (eTup (aCons (eTup (aCons (eC (.str "yes")) aNil)) (aCons (eTup (aCons (eC (.str "yes")) aNil)) aNil))) (aCons (eLst aNil) aNil)))
  (sSeq (sFor (iSeqD (eLst (aCons (eC (.str "fa")) (aCons (eC (.str "fb")) (aCons (eC (.str "fc")) (aCons (eC (.str "fd")) (aCons (eC (.str "fe")) (aCons (eC (.str "ff")) (aCons (eC (.str "fg")) (aCons (eC (.str "fh")) (aCons (eC (.str "fi")) (aCons (eC (.str "fj")) (aCons (eC (.str "fk")) (aCons (eC (.str "fl")) (aCons (eC (.str "fm")) aNil))))))))))))))) (gNm 2) (sApp 1 (eTup (aCons (eVar 2) (aCons (eBin mulD (eTup (aCons (eVar 0) aNil)) (eIf (bOf (eBin neD (eVar 2) (eC (.str "fl")))) (eC (.int 1)) (eC (.int 4)))) (aCons (eTup aNil) aNil))))))
  (sSeq (sAsg (eTup (aCons (eTup aNil) (aCons (eUn tupleD (eSl (eVar 1) oNone (oSome (eC (.int 12))))) (aCons (eTup (aCons (eTup (aCons (eC (.str "fa")) (aCons (eTup (aCons (eC (.str "x")) aNil)) (aCons (eTup (aCons (eC (.str "let")) (aCons (eC (.str "v")) (aCons (eTup (aCons (eC (.str "use")) (aCons (eC (.str "x")) aNil))) (aCons (eCall 1 g_law_long_body (aCons (eC (.int 28)) aNil)) aNil))))) aNil)))) aNil)) aNil)))) (gNm 3))
  (sSeq (sIf (bOr (bOf (eBin neD (eUn lenD (eCall 2 g_body_nodes (aCons (eVar 3) (aCons (eC (.str "fa")) aNil)))) (eC (.int 59)))) (bOf (eBin isnD (eCall 1 g_is_module (aCons (eTup (aCons (eBin ixD (eVar 3) (eC (.int 0))) (aCons (eBin ixD (eVar 3) (eC (.int 1))) (aCons (eTup (aCons (eTup (aCons (eC (.str "fa")) (aCons (eTup (aCons (eC (.str "x")) aNil)) (aCons (eTup (aCons (eC (.str "call")) (aCons (eC (.str "fb")) (aCons (eTup (aCons (eBin ixD (eBin ixD (eBin ixD (eVar 3) (eC (.int 2))) (eC (.int 0))) (eC (.int 2))) aNil)) aNil)))) aNil)))) aNil)) aNil)))) aNil)) (eC (.bl true))))) (sRet (eC (.bl false))) sNil)
  (sSeq (sAsg (eTup (aCons (eBin ixD (eVar 3) (eC (.int 0))) (aCons (eBin ixD (eVar 3) (eC (.int 1))) (aCons (eTup (aCons (eTup (aCons (eC (.str "fa")) (aCons (eTup (aCons (eC (.str "x")) aNil)) (aCons (eTup (aCons (eC (.str "call")) (aCons (eC (.str "fb")) (aCons (eTup (aCons (eTup (aCons (eC (.str "call")) (aCons (eC (.str "fb")) (aCons (eTup (aCons (eBin ixD (eBin ixD (eBin ixD (eVar 3) (eC (.int 2))) (eC (.int 0))) (eC (.int 2))) aNil)) aNil)))) aNil)) aNil)))) aNil)))) aNil)) aNil)))) (gNm 4))
  (sSeq (sAsg (eTup (aCons (eBin ixD (eVar 3) (eC (.int 0))) (aCons (eUn tupleD (eVar 1)) (aCons (eTup aNil) aNil)))) (gNm 5))
  (sSeq (sAsg (eTup (aCons (eBin ixD (eVar 3) (eC (.int 0))) (aCons (eBin ixD (eVar 3) (eC (.int 1))) (aCons (eTup (aCons (eTup (aCons (eC (.str "fl")) (aCons (eTup (aCons (eC (.str "x")) aNil)) (aCons (eTup (aCons (eC (.str "use")) (aCons (eC (.str "x")) aNil))) aNil)))) aNil)) aNil)))) (gNm 6))
  (sRet (eCall 2 (g_law_like fuel_law_like) (aCons (eLst (aCons (eCall 1 g_law_refused (aCons (eVar 4) aNil)) (aCons (eCall 1 g_law_refused (aCons (eVar 5) aNil)) (aCons (eCall 1 g_law_refused (aCons (eVar 6) aNil)) (aCons (eCall 1 g_law_refused (aCons (eTup (aCons (eTup aNil) (aCons (eTup aNil) (aCons (eTup aNil) aNil)))) aNil)) aNil))))) (aCons (eLst (aCons (eTup (aCons (eC (.str "module")) (aCons (eTup (aCons (eC (.int 2)) (aCons (eC (.int 0)) aNil))) aNil))) (aCons (eTup (aCons (eC (.str "module")) (aCons (eTup (aCons (eC (.int 1)) aNil)) aNil))) (aCons (eTup (aCons (eC (.str "module")) (aCons (eTup (aCons (eC (.int 2)) (aCons (eC (.int 0)) aNil))) aNil))) (aCons (eTup (aCons (eC (.str "told")) (aCons (eC .non) aNil))) aNil))))) aNil)))))))))))
def g_law_sizes_right {ρ : Type} : List D → ρ → Option (D × ρ) := gOf N_law_sizes_right b_law_sizes_right
theorem bd_law_sizes_right {ρ : Type} {I : Wd ρ} {K : PySem.W.Frag} {P : Program} {w : World} {mg : Str → Option Value} {base : Heap} {cl : Str → Addr} {f : Addr} (T : Top K P w mg base cl) (cdv : Value) (A : Around) (outer : List PySem.Env) (s : Shared) (H : Hp) (E : XK)
    (hr : Room (50) (A.deeper (envOfC "_law_sizes_right" (defScope s_law_sizes_right) s.heap.objs.size f cdv))) : ∃ O', Bd I (cxOf CX0 P w K mg base N_law_sizes_right "_law_sizes_right" (defScope s_law_sizes_right) f cdv A outer s H E).nox [] (defBody s_law_sizes_right) (b_law_sizes_right (ρ := ρ)) O' := by
  have hN := (sc_law_sizes_right).nd
  have hu : (A.deeper (envOfC "_law_sizes_right" (defScope s_law_sizes_right) s.heap.objs.size f cdv)).units < cLine := hr.units0
  have hu1 : (A.deeper (envOfC "_law_sizes_right" (defScope s_law_sizes_right) s.heap.objs.size f cdv)).units + 1 < cLine := by have := hr.units; omega
  exact ⟨[], (bd_cons (sd_par2 (i := 0) (j := 1) rfl hN (pd_d (ed_tup (ad_cons (ed_tup (ad_cons ed_str ad_nil)) (ad_cons (ed_tup (ad_cons ed_str ad_nil)) ad_nil))) (pd_f eLst_lst (ef_lst ad_nil) pd_nil)))
  (bd_cons (sd_for PassesOwn.never rfl (wk_seq (ed_lst (ad_cons ed_str (ad_cons ed_str (ad_cons ed_str (ad_cons ed_str (ad_cons ed_str (ad_cons ed_str (ad_cons ed_str (ad_cons ed_str (ad_cons ed_str (ad_cons ed_str (ad_cons ed_str (ad_cons ed_str (ad_cons ed_str ad_nil))))))))))))))) (gd_name (i := 2) hN) (bd_one (sd_app (i := 1) (ed_tup (ad_cons (ed_var (i := 2)) (ad_cons (ed_op opd_mul (ed_tup (ad_cons (ed_var (i := 0)) ad_nil)).b (ed_if (td_cmp (opd_ne hu) (ed_var (i := 2)).b ed_str.b) ed_int ed_int).b) (ad_cons (ed_tup ad_nil) ad_nil)))))))
  (bd_cons (sd_asg (ed_tup (ad_cons (ed_tup ad_nil) (ad_cons (ed_callTy cd_tuple (ed_sl (eb_var (i := 1)) od_none (od_some ed_int)).b (by rfl) T.b_tuple bl_tuple) (ad_cons (ed_tup (ad_cons (ed_tup (ad_cons ed_str (ad_cons (ed_tup (ad_cons ed_str ad_nil)) (ad_cons (ed_tup (ad_cons ed_str (ad_cons ed_str (ad_cons (ed_tup (ad_cons ed_str (ad_cons ed_str ad_nil))) (ad_cons (ed_call (Fn.mono (fn_law_long_body T) (by decide)) hr (ad_cons ed_int ad_nil)) ad_nil))))) ad_nil)))) ad_nil)) ad_nil)))) (gd_name (i := 3) hN))
  (bd_cons (sd_if (td_bool (wt_or (td_cmp (opd_ne hu) (ed_callB cd_len (ed_call (Fn.mono (fn_body_nodes T) (by decide)) hr (ad_cons (ed_var (i := 3)) (ad_cons ed_str ad_nil))).b (by rfl) T.b_len bl_len).b ed_int.b) (wt_or1 (td_cmp opd_isn (ed_call (Fn.mono (fn_is_module T) (by decide)) hr (ad_cons (ed_tup (ad_cons (ed_ix (ed_var (i := 3)).b ed_int.b) (ad_cons (ed_ix (ed_var (i := 3)).b ed_int.b) (ad_cons (ed_tup (ad_cons (ed_tup (ad_cons ed_str (ad_cons (ed_tup (ad_cons ed_str ad_nil)) (ad_cons (ed_tup (ad_cons ed_str (ad_cons ed_str (ad_cons (ed_tup (ad_cons (ed_ix (ed_ix (ed_ix (ed_var (i := 3)).b ed_int.b).b ed_int.b).b ed_int.b) ad_nil)) ad_nil)))) ad_nil)))) ad_nil)) ad_nil)))) ad_nil)).b ed_bl.b)))) (bd_one (sd_ret ed_bl.b)) bd_nil)
  (bd_cons (sd_asg (ed_tup (ad_cons (ed_ix (ed_var (i := 3)).b ed_int.b) (ad_cons (ed_ix (ed_var (i := 3)).b ed_int.b) (ad_cons (ed_tup (ad_cons (ed_tup (ad_cons ed_str (ad_cons (ed_tup (ad_cons ed_str ad_nil)) (ad_cons (ed_tup (ad_cons ed_str (ad_cons ed_str (ad_cons (ed_tup (ad_cons (ed_tup (ad_cons ed_str (ad_cons ed_str (ad_cons (ed_tup (ad_cons (ed_ix (ed_ix (ed_ix (ed_var (i := 3)).b ed_int.b).b ed_int.b).b ed_int.b) ad_nil)) ad_nil)))) ad_nil)) ad_nil)))) ad_nil)))) ad_nil)) ad_nil)))) (gd_name (i := 4) hN))
  (bd_cons (sd_asg (ed_tup (ad_cons (ed_ix (ed_var (i := 3)).b ed_int.b) (ad_cons (ed_callTy cd_tuple (eb_var (i := 1)) (by rfl) T.b_tuple bl_tuple) (ad_cons (ed_tup ad_nil) ad_nil)))) (gd_name (i := 5) hN))
  (bd_cons (sd_asg (ed_tup (ad_cons (ed_ix (ed_var (i := 3)).b ed_int.b) (ad_cons (ed_ix (ed_var (i := 3)).b ed_int.b) (ad_cons (ed_tup (ad_cons (ed_tup (ad_cons ed_str (ad_cons (ed_tup (ad_cons ed_str ad_nil)) (ad_cons (ed_tup (ad_cons ed_str (ad_cons ed_str ad_nil))) ad_nil)))) ad_nil)) ad_nil)))) (gd_name (i := 6) hN))
  (bd_one (sd_ret (ed_call (Fn.mono (fn_law_like T (j := fuel_law_like)) (by decide)) hr (ad_cons (ed_lst (ad_cons (ed_call (Fn.mono (fn_law_refused T) (by decide)) hr (ad_cons (ed_var (i := 4)) ad_nil)) (ad_cons (ed_call (Fn.mono (fn_law_refused T) (by decide)) hr (ad_cons (ed_var (i := 5)) ad_nil)) (ad_cons (ed_call (Fn.mono (fn_law_refused T) (by decide)) hr (ad_cons (ed_var (i := 6)) ad_nil)) (ad_cons (ed_call (Fn.mono (fn_law_refused T) (by decide)) hr (ad_cons (ed_tup (ad_cons (ed_tup ad_nil) (ad_cons (ed_tup ad_nil) (ad_cons (ed_tup ad_nil) ad_nil)))) ad_nil)) ad_nil))))) (ad_cons (ed_lst (ad_cons (ed_tup (ad_cons ed_str (ad_cons (ed_tup (ad_cons ed_int (ad_cons ed_int ad_nil))) ad_nil))) (ad_cons (ed_tup (ad_cons ed_str (ad_cons (ed_tup (ad_cons ed_int ad_nil)) ad_nil))) (ad_cons (ed_tup (ad_cons ed_str (ad_cons (ed_tup (ad_cons ed_int (ad_cons ed_int ad_nil))) ad_nil))) (ad_cons (ed_tup (ad_cons ed_str (ad_cons ed_non ad_nil))) ad_nil))))) ad_nil))).b)))))))))⟩
theorem ok_law_sizes_right {ρ : Type} {I : Wd ρ} {K : PySem.W.Frag} {P : Program} {w : World} {mg : Str → Option Value} {base : Heap} {cl : Str → Addr} {f : Addr} {fd : FuncData} (T : Top K P w mg base cl) (F : FunD K "_law_sizes_right" "_law_sizes_right" (defArgs s_law_sizes_right) (defBody s_law_sizes_right) (defScope s_law_sizes_right) [] [] f fd) : FnOk P w K mg base CX0 51 f fd P_law_sizes_right (spD I K 0 g_law_sizes_right) :=
  fnok_of (k := 50) F sc_law_sizes_right fun cdv A outer s H E hr => bd_end (bd_law_sizes_right T cdv A outer s H E hr)
theorem fn_law_sizes_right {ρ : Type} {I : Wd ρ} {K : PySem.W.Frag} {P : Program} {w : World} {mg : Str → Option Value} {base : Heap} {cl : Str → Addr} (T : Top K P w mg base cl) : Fn I K P w mg base 51 "_law_sizes_right" 0 g_law_sizes_right := by
  obtain ⟨f, fd, F, hm⟩ := T.f_law_sizes_right
  exact ⟨f, fd, P_law_sizes_right, ok_law_sizes_right T F, hm, F.kp, F.bindsN (fun _ _ _ _ _ _ us hl => match us, hl with | [], _ => rfl)⟩
abbrev N_law_begin : List Str := ["script", "found", "n", "cell"]
abbrev P_law_begin : List Str := ["script"]
theorem sc_law_begin : FnScope N_law_begin P_law_begin (defScope s_law_begin) := ⟨rfl, rfl, rfl, by decide +kernel, rfl, by decide +kernel, by decide +kernel⟩
def b_law_begin : SS Unit :=
  (sSeq (sOwn 1 (eComp (iRng rng1B (aCons (eC (.int 64)) aNil)) (gNm 2) bT (eBin addD (eC (.int 31)) (eVar 2)) [2]))
  (sSeq (sFor (iEnumF (eVar 0)) (gTp (gC (gNm 2) (gC (gNm 3) gN))) (sSix 1 (eBin modD (eUn intD (eVar 2)) (eC (.int 64))) (eBin modD (eUn intD (eBin addD (eBin mulD (eBin ixD (eVar 1) (eBin modD (eUn intD (eVar 2)) (eC (.int 64)))) (eC (.int 48271))) (eVar 3))) (eC (.int 2147483647)))))
  (sSeq (sFor (iRng rng2B (aCons (eC (.int 1)) (aCons (eC (.int 64)) aNil))) (gNm 2) (sSix 1 (eVar 2) (eBin modD (eUn intD (eBin addD (eBin ixD (eVar 1) (eVar 2)) (eBin mulD (eBin ixD (eVar 1) (eBin subD (eVar 2) (eC (.int 1)))) (eC (.int 16807))))) (eC (.int 2147483647)))))
  sNil)))
def e_law_begin : SE Unit := (eComp (iSeqF (eVar 0)) (gNm 3) bT (eIf (bOf (eBin geD (eVar 3) (eBin powD (eC (.int 10)) (eC (.int 18))))) (eVar 3) (eC (.int 0))) [3])
theorem bd_law_begin {K : PySem.W.Frag} {P : Program} {w : World} {mg : Str → Option Value} {base : Heap} {cl : Str → Addr} {f : Addr} (T : Top K P w mg base cl) (cdv : Value) (A : Around) (outer : List PySem.Env) (s : Shared) (H : Hp) (E : XK)
    (hr : Room 2 (A.deeper (envOfC "_law_begin" (defScope s_law_begin) s.heap.objs.size f cdv))) : PSs (cxOf CX0 P w K mg base N_law_begin "_law_begin" (defScope s_law_begin) f cdv A outer s H E).nox (defBody s_law_begin)
      (tSK U0 K [] b_law_begin [1] (tRet (tDisp [(tC (.str "small"), tVar 1), (tC (.str "great"), tF U0 K [1] e_law_begin), (tC (.str "spot"), tC (.int 0))]))) := by
  have hN := (sc_law_begin).nd
  have hu : (A.deeper (envOfC "_law_begin" (defScope s_law_begin) s.heap.objs.size f cdv)).units < cLine := hr.units0
  have hu1 : (A.deeper (envOfC "_law_begin" (defScope s_law_begin) s.heap.objs.size f cdv)).units + 1 < cLine := by have := hr.units; omega
  exact (pss_consK (sd_ownC (i := 1) (own := [(("n" : Str), 2)]) rfl hN (wk_range1 (by rfl) T.b_range (ad_cons ed_int ad_nil)) (blkOk_by (by rfl)) (fun _ _ _ _ _ => (gd_name (i := 2) hN)) (fun _ _ _ _ _ => tds_nil) (fun _ _ _ _ _ => (ed_op opd_add ed_int.b (ed_var (i := 2)).b)))
  (pss_consK (sd_for PassesOwn.never rfl (wk_enumF (by rfl) T.b_enumerate (ed_var (i := 0))) (gd_tup rfl (gds_cons (gd_name (i := 2) hN) (gds_cons (gd_name (i := 3) hN) gds_nil))) (bd_one (sd_six (i := 1) (ed_op opd_mod (ed_callTy cd_int (ed_op opd_add (ed_op opd_mul (ed_ix (eb_var (i := 1)) (ed_op opd_mod (ed_callTy cd_int (ed_var (i := 2)).b (by rfl) T.b_int bl_int).b ed_int.b).b).b ed_int.b).b (ed_var (i := 3)).b).b (by rfl) T.b_int bl_int).b ed_int.b) (ed_op opd_mod (ed_callTy cd_int (ed_var (i := 2)).b (by rfl) T.b_int bl_int).b ed_int.b))))
  (pss_consK (sd_for PassesOwn.never rfl (wk_range2 (by rfl) T.b_range (ad_cons ed_int (ad_cons ed_int ad_nil))) (gd_name (i := 2) hN) (bd_one (sd_six (i := 1) (ed_op opd_mod (ed_callTy cd_int (ed_op opd_add (ed_ix (eb_var (i := 1)) (ed_var (i := 2)).b).b (ed_op opd_mul (ed_ix (eb_var (i := 1)) (ed_op opd_sub (ed_var (i := 2)).b ed_int.b).b).b ed_int.b).b).b (by rfl) T.b_int bl_int).b ed_int.b) (ed_var (i := 2)))))
  (pss_last (ps_ret (pe_disp (pps_cons pe_str (pv 1 (by rfl) (by first | exact Or.inl rfl | exact Or.inr (Or.inl rfl) | exact Or.inr (Or.inr rfl)) (by decide) (by decide)) (pps_cons pe_str (ef_comp (own := [(("cell" : Str), 3)]) rfl hN (wk_seqF (ed_var (i := 0))) (blkOk_by (by rfl)) (fun _ _ _ _ _ => (gd_name (i := 3) hN)) (fun _ _ _ _ _ => tds_nil) (fun _ _ _ _ _ => (ed_if (td_cmp opd_ge (ed_var (i := 3)).b (ed_op opd_pow ed_int.b ed_int.b).b) (ed_var (i := 3)) ed_int))) (pps_cons pe_str pe_int pps_nil))) (by rfl) (by rfl) (by decide) (by decide)))))))
theorem ok_law_begin {K : PySem.W.Frag} {P : Program} {w : World} {mg : Str → Option Value} {base : Heap} {cl : Str → Addr} {f : Addr} {fd : FuncData} (T : Top K P w mg base cl) (F : FunD K "_law_begin" "_law_begin" (defArgs s_law_begin) (defBody s_law_begin) (defScope s_law_begin) [] [] f fd) :
    FnOk P w K mg base CX0 3 f fd P_law_begin (spBg K N_law_begin b_law_begin e_law_begin) := by
  refine F.ok (k := 2) sc_law_begin (fun vs H Q E ⟨a, xs, sm, gr, e, _⟩ => by rw [e]; rfl) fun cdv A outer s H vs Q E hr ⟨a, xs, sm, gr, e, ha, hb, hq⟩ => ?_
  subst e
  exact ⟨_, PSs.nox (bd_law_begin T cdv A outer s H E hr), begin_end (X := (cxOf CX0 P w K mg base N_law_begin "_law_begin" (defScope s_law_begin) f cdv A outer s H E).nox) rfl rfl ha hb hq⟩

abbrev N_law : List Str := ["script", "m", "again"]
abbrev P_law : List Str := ["script"]
theorem sc_law : FnScope N_law P_law (defScope s_law) := ⟨rfl, rfl, rfl, by decide +kernel, rfl, by decide +kernel, by decide +kernel⟩
def b_law : SS Rw :=
  (sSeq (sFor (iRng rng1B (aCons (eC (.int 5)) aNil)) (gNm 2) (sIf (bNot (bOf (eCall 2 g_law_module_right (aCons (eVar 1) (aCons (eSl (eLst (aCons (eC (.str "a")) (aCons (eC (.str "b")) (aCons (eC (.str "c")) aNil)))) oNone (oSome (eBin addD (eC (.int 1)) (eCall 2 g_law_draw (aCons (eVar 1) (aCons (eC (.int 3)) aNil)))))) aNil))))) (sRet (eC (.bl false))) sNil))
  (sRet (eCall 0 g_law_sizes_right aNil)))
def spLaw (K : PySem.W.Frag) : Sp := fun vs H Q E => ∃ a xs small great, vs = [.ref a] ∧ SqL K H a (xs.map V.int) ∧ Bg N_law_begin b_law_begin e_law_begin xs small great ∧
  (∀ p sa ga, ∃ r', b_law [none, some (.raw (.ref p)), none] (rwOf p sa ga small great 0) = some (.ret (.bl true) r')) ∧ ∀ H', Q (.bl true) H'
theorem bd_law {K : PySem.W.Frag} {P : Program} {w : World} {mg : Str → Option Value} {base : Heap} {cl : Str → Addr} {f : Addr} (T : Top K P w mg base cl) (cdv : Value) (A : Around) (outer : List PySem.Env) (s : Shared) (H : Hp) (E : XK)
    (hr : Room 51 (A.deeper (envOfC "law" (defScope s_law) s.heap.objs.size f cdv))) : ∃ O', Bd Iw (cxOf CX0 P w K mg base N_law "law" (defScope s_law) f cdv A outer s H E).nox [] ((defBody s_law).drop 1) b_law O' := by
  have hN := (sc_law).nd
  have hu : (A.deeper (envOfC "law" (defScope s_law) s.heap.objs.size f cdv)).units < cLine := hr.units0
  have hu1 : (A.deeper (envOfC "law" (defScope s_law) s.heap.objs.size f cdv)).units + 1 < cLine := by have := hr.units; omega
  exact ⟨[], (bd_cons (sd_for PassesOwn.never rfl (wk_range1 (by rfl) T.b_range (ad_cons ed_int ad_nil)) (gd_name (i := 2) hN) (bd_one (sd_if (td_not (td_val (ed_call (Fn.mono (fn_law_module_right T) (by decide)) hr (ad_cons (ed_var (i := 1)) (ad_cons (ed_sl (ed_lst (ad_cons ed_str (ad_cons ed_str (ad_cons ed_str ad_nil)))).b od_none (od_some (ed_op opd_add ed_int.b (ed_call (Fn.mono (fn_law_draw T) (by decide)) hr (ad_cons (ed_var (i := 1)) (ad_cons ed_int ad_nil))).b))) ad_nil))))) (bd_one (sd_ret ed_bl.b)) bd_nil)))
  (bd_one (sd_ret (ed_call0 (Fn.mono (fn_law_sizes_right T) (by decide)) hr).b)))⟩
theorem ok_law {K : PySem.W.Frag} {P : Program} {w : World} {mg : Str → Option Value} {base : Heap} {cl : Str → Addr} {f : Addr} {fd : FuncData} (T : Top K P w mg base cl) (F : FunD K "law" "law" (defArgs s_law) (defBody s_law) (defScope s_law) [] [] f fd) :
    FnOk P w K mg base CX0 (51 + 1) f fd P_law (spLaw K) := by
  refine F.ok (k := 51) sc_law (fun vs H Q E ⟨a, xs, sm, gr, e, _⟩ => by rw [e]; rfl) fun cdv A outer s H vs Q E hr ⟨a, xs, sm, gr, e, ha, hb, hg, hq⟩ => ?_
  subst e
  obtain ⟨fb, fdb, FB, hmb⟩ := T.f_law_begin
  have hN := (sc_law).nd
  obtain ⟨O', hB⟩ := bd_law T cdv A outer s H E hr
  refine ⟨_, PSs.nox (pss_cons (ps_set (i := 1) hN rfl (by first | exact Or.inl rfl | exact Or.inr rfl) (pe_call ((ok_law_begin T FB).mono (by decide)) hr rfl hmb FB.kp (FB.bindsN (fun _ _ _ _ _ _ us hl => match us, hl with | [_], _ => rfl)) .nil pass0 (pa_cons (pv 0 (by rfl) (by first | exact Or.inl rfl | exact Or.inr (Or.inl rfl) | exact Or.inr (Or.inr rfl)) (by decide) (by decide)) pa_nil))) hB), ?_⟩
  refine ⟨_, rfl, ?_⟩
  refine ⟨a, xs, sm, gr, rfl, ha, hb, fun p sa ga H' wi => ?_⟩
  obtain ⟨r', hr'⟩ := hg p sa ga
  refine tS_out ⟨[p, sa, ga], [p, sa, ga], H', [], [none, some (.raw (.ref p)), none], rwOf p sa ga sm gr 0, ?_, rfl, ?_⟩
  · refine ⟨wi, fun b hb => hb, Iw.at_ wi, Iw.at_ wi, Evo.refl, fun i d h1 h2 => ?_, fun q hq => (by cases hq), fun q hq => (by cases hq), fun q hq => (by cases hq), .nil, rfl⟩
    match i, h1 with
    | 1, h1 => cases h1; exact ⟨_, rfl, .raw _⟩
    | 0, h1 => cases h1
    | 2, h1 => cases h1
    | j + 3, h1 => cases h1
  · rw [hr']
    exact fun v H'' ev wi' rp => by cases rp; exact hq _

end Q
end
section
set_option Elab.async false
set_option linter.all false
set_option maxRecDepth 100000
set_option maxHeartbeats 0
namespace Q
open PySem PySem.Spec PyProof.Rows L2 DL
abbrev s_BadAxioms_init : Stmt := inClass (top 4) 0
def u_BadAxioms : Hq.SuD := ⟨"BadAxioms", "BadAxioms.__init__", defArgs s_BadAxioms_init, defBody s_BadAxioms_init, defScope s_BadAxioms_init⟩
abbrev s_BadModule_init : Stmt := inClass (top 23) 0
def u_BadModule : Hq.SuD := ⟨"BadModule", "BadModule.__init__", defArgs s_BadModule_init, defBody s_BadModule_init, defScope s_BadModule_init⟩
def d_is_name : He.DefD := ⟨("is_name", none), "is_name", "is_name", defArgs s_is_name, defBody s_is_name, defScope s_is_name, [], []⟩
def d_is_node : He.DefD := ⟨("is_node", none), "is_node", "is_node", defArgs s_is_node, defBody s_is_node, defScope s_is_node, [], []⟩
def d_terms_of : He.DefD := ⟨("terms_of", none), "terms_of", "terms_of", defArgs s_terms_of, defBody s_terms_of, defScope s_terms_of, [], []⟩
def d_wrong_place : He.DefD := ⟨("wrong_place", none), "wrong_place", "wrong_place", defArgs s_wrong_place, defBody s_wrong_place, defScope s_wrong_place, [], []⟩
def d_size_and_depth : He.DefD := ⟨("size_and_depth", none), "size_and_depth", "size_and_depth", defArgs s_size_and_depth, defBody s_size_and_depth, defScope s_size_and_depth, [], []⟩
def d_need_small : He.DefD := ⟨("need_small", none), "need_small", "need_small", defArgs s_need_small, defBody s_need_small, defScope s_need_small, [], []⟩
def d_is_term : He.DefD := ⟨("is_term", none), "is_term", "is_term", defArgs s_is_term, defBody s_is_term, defScope s_is_term, [], []⟩
def d_pair_fault : He.DefD := ⟨("pair_fault", none), "pair_fault", "pair_fault", defArgs s_pair_fault, defBody s_pair_fault, defScope s_pair_fault, [], []⟩
def d_need_axioms : He.DefD := ⟨("need_axioms", none), "need_axioms", "need_axioms", defArgs s_need_axioms, defBody s_need_axioms, defScope s_need_axioms, [], []⟩
def d_is_clause : He.DefD := ⟨("is_clause", none), "is_clause", "is_clause", defArgs s_is_clause, defBody s_is_clause, defScope s_is_clause, [], []⟩
def d_is_signature : He.DefD := ⟨("is_signature", none), "is_signature", "is_signature", defArgs s_is_signature, defBody s_is_signature, defScope s_is_signature, [], []⟩
def d_is_expression : He.DefD := ⟨("is_expression", none), "is_expression", "is_expression", defArgs s_is_expression, defBody s_is_expression, defScope s_is_expression, [], []⟩
def d_inner_ones : He.DefD := ⟨("inner_ones", none), "inner_ones", "inner_ones", defArgs s_inner_ones, defBody s_inner_ones, defScope s_inner_ones, [], []⟩
def d_nodes_of : He.DefD := ⟨("nodes_of", none), "nodes_of", "nodes_of", defArgs s_nodes_of, defBody s_nodes_of, defScope s_nodes_of, [], []⟩
def d_is_definition : He.DefD := ⟨("is_definition", none), "is_definition", "is_definition", defArgs s_is_definition, defBody s_is_definition, defScope s_is_definition, [], []⟩
def d_need_signatures : He.DefD := ⟨("need_signatures", none), "need_signatures", "need_signatures", defArgs s_need_signatures, defBody s_need_signatures, defScope s_need_signatures, [], []⟩
def d_need_module : He.DefD := ⟨("need_module", none), "need_module", "need_module", defArgs s_need_module, defBody s_need_module, defScope s_need_module, [], []⟩
def d_is_module : He.DefD := ⟨("is_module", none), "is_module", "is_module", defArgs s_is_module, defBody s_is_module, defScope s_is_module, [], []⟩
def d_definitions_of : He.DefD := ⟨("definitions_of", none), "definitions_of", "definitions_of", defArgs s_definitions_of, defBody s_definitions_of, defScope s_definitions_of, [], []⟩
def d_need_definition : He.DefD := ⟨("need_definition", none), "need_definition", "need_definition", defArgs s_need_definition, defBody s_need_definition, defScope s_need_definition, [], []⟩
def d_body_nodes : He.DefD := ⟨("body_nodes", none), "body_nodes", "body_nodes", defArgs s_body_nodes, defBody s_body_nodes, defScope s_body_nodes, [], []⟩
def d_law_mixed : He.DefD := ⟨("_law_mixed", none), "_law_mixed", "_law_mixed", defArgs s_law_mixed, defBody s_law_mixed, defScope s_law_mixed, [], []⟩
def d_law_begin : He.DefD := ⟨("_law_begin", none), "_law_begin", "_law_begin", defArgs s_law_begin, defBody s_law_begin, defScope s_law_begin, [], []⟩
def d_law_draw : He.DefD := ⟨("_law_draw", none), "_law_draw", "_law_draw", defArgs s_law_draw, defBody s_law_draw, defScope s_law_draw, [], []⟩
def d_law_of : He.DefD := ⟨("_law_of", none), "_law_of", "_law_of", defArgs s_law_of, defBody s_law_of, defScope s_law_of, [], []⟩
def d_law_like : He.DefD := ⟨("_law_like", none), "_law_like", "_law_like", defArgs s_law_like, defBody s_law_like, defScope s_law_like, [], []⟩
def d_law_term : He.DefD := ⟨("_law_term", none), "_law_term", "_law_term", defArgs s_law_term, defBody s_law_term, defScope s_law_term, [], []⟩
def d_law_pairs : He.DefD := ⟨("_law_pairs", none), "_law_pairs", "_law_pairs", defArgs s_law_pairs, defBody s_law_pairs, defScope s_law_pairs, [], []⟩
def d_law_expression : He.DefD := ⟨("_law_expression", none), "_law_expression", "_law_expression", defArgs s_law_expression, defBody s_law_expression, defScope s_law_expression, [], []⟩
def d_law_signature : He.DefD := ⟨("_law_signature", none), "_law_signature", "_law_signature", defArgs s_law_signature, defBody s_law_signature, defScope s_law_signature, [], []⟩
def d_law_module : He.DefD := ⟨("_law_module", none), "_law_module", "_law_module", defArgs s_law_module, defBody s_law_module, defScope s_law_module, [], []⟩
def d_law_sign : He.DefD := ⟨("_law_sign", none), "_law_sign", "_law_sign", defArgs s_law_sign, defBody s_law_sign, defScope s_law_sign, [], []⟩
def d_law_nodes : He.DefD := ⟨("_law_nodes", none), "_law_nodes", "_law_nodes", defArgs s_law_nodes, defBody s_law_nodes, defScope s_law_nodes, [], []⟩
def d_law_refused : He.DefD := ⟨("_law_refused", none), "_law_refused", "_law_refused", defArgs s_law_refused, defBody s_law_refused, defScope s_law_refused, [], []⟩
def d_law_axioms_refused : He.DefD := ⟨("_law_axioms_refused", none), "_law_axioms_refused", "_law_axioms_refused", defArgs s_law_axioms_refused, defBody s_law_axioms_refused, defScope s_law_axioms_refused, [], []⟩
def d_law_bent_bodies : He.DefD := ⟨("_law_bent_bodies", none), "_law_bent_bodies", "_law_bent_bodies", defArgs s_law_bent_bodies, defBody s_law_bent_bodies, defScope s_law_bent_bodies, [], []⟩
def d_law_bent_signs : He.DefD := ⟨("_law_bent_signs", none), "_law_bent_signs", "_law_bent_signs", defArgs s_law_bent_signs, defBody s_law_bent_signs, defScope s_law_bent_signs, [], []⟩
def d_law_module_right : He.DefD := ⟨("_law_module_right", none), "_law_module_right", "_law_module_right", defArgs s_law_module_right, defBody s_law_module_right, defScope s_law_module_right, [], []⟩
def d_law_long_body : He.DefD := ⟨("_law_long_body", none), "_law_long_body", "_law_long_body", defArgs s_law_long_body, defBody s_law_long_body, defScope s_law_long_body, [], []⟩
def d_law_sizes_right : He.DefD := ⟨("_law_sizes_right", none), "_law_sizes_right", "_law_sizes_right", defArgs s_law_sizes_right, defBody s_law_sizes_right, defScope s_law_sizes_right, [], []⟩
def d_law : He.DefD := ⟨("law", none), "law", "law", defArgs s_law, defBody s_law, defScope s_law, [], []⟩
def fnQ : List He.DefD := [d_is_name, d_is_node, d_terms_of, d_wrong_place, d_size_and_depth, d_need_small, d_is_term, d_pair_fault, d_need_axioms, d_is_clause, d_is_signature, d_is_expression, d_inner_ones, d_nodes_of, d_is_definition, d_need_signatures, d_need_module, d_is_module, d_definitions_of, d_need_definition, d_body_nodes, d_law_mixed, d_law_begin, d_law_draw, d_law_of, d_law_like, d_law_term, d_law_pairs, d_law_expression, d_law_signature, d_law_module, d_law_sign, d_law_nodes, d_law_refused, d_law_axioms_refused, d_law_bent_bodies, d_law_bent_signs, d_law_module_right, d_law_long_body, d_law_sizes_right, d_law]
def suQ : List Hq.SuD := [u_BadAxioms, u_BadModule]
def fa0 : List He.Fa := [.glo "is_name", .glo "is_node", .glo "terms_of", .glo "wrong_place", .glo "size_and_depth", .glo "need_small", .glo "is_term", .glo "pair_fault", .glo "need_axioms", .glo "is_clause", .glo "is_signature", .glo "is_expression", .glo "inner_ones", .glo "nodes_of", .glo "is_definition", .glo "need_signatures", .glo "need_module", .glo "is_module", .glo "definitions_of", .glo "need_definition"]
def fa1 : List He.Fa := [.glo "body_nodes", .glo "_law_mixed", .glo "_law_begin", .glo "_law_draw", .glo "_law_of", .glo "_law_like", .glo "_law_term", .glo "_law_pairs", .glo "_law_expression", .glo "_law_signature", .glo "_law_module", .glo "_law_sign", .glo "_law_nodes", .glo "_law_refused", .glo "_law_axioms_refused", .glo "_law_bent_bodies", .glo "_law_bent_signs", .glo "_law_module_right", .glo "_law_long_body", .glo "_law_sizes_right"]
def fa2 : List He.Fa := [.glo "law", .glo "BadAxioms", .glo "BadModule", .glo "CaseError", .free "len", .free "isinstance", .free "all", .free "any", .free "int", .free "tuple", .free "list", .free "max", .free "range", .free "enumerate", .free "zip", .free "str", .free "bool", .str "SMALL_LETTERS" "abcdefghijklmnopqrstuvwxyz", .glo "WORDS", .int "MOST_NAME" 8]
def fa3 : List He.Fa := [.int "MOST_DEEP" 40, .int "MOST_SIZE" 2000, .int "MOST_AXIOMS" 400, .int "MOST_CLAUSES" 4, .int "MOST_FURTHER" 2, .int "MOST_LISTED" 12, .int "MOST_NODES" 60]
def faQ : List He.Fa := fa0 ++ fa1 ++ fa2 ++ fa3
abbrev RQ : PySem.W.OpenRow := PySem.W.OpenLaw.row PySem.Challenge.rw_nocases_k78_modules_and_nodes
abbrev prQ : Program := (PySem.Challenge.rw_nocases_k78_modules_and_nodes).prog
def ex_BadAxioms (K : PySem.W.Frag) : Bool := Hq.oexB K (He.ga K "BadAxioms") && (xfB K (He.ga K "BadAxioms") && (He.eqO (PySem.W.findIn K (.ref (He.ga K "BadAxioms")) "__init__") (some (some (.ref (He.ma K (He.ga K "BadAxioms") "__init__")))) && (decide (PySem.W.typeIn K (.ref (He.ma K (He.ga K "BadAxioms") "__init__")) = some (.type "function")) && (Hq.supB prQ K (He.ga K "BadAxioms") (He.ma K (He.ga K "BadAxioms") "__init__") && He.eqO (PySem.W.findIn K (.ref (He.ga K "BadAxioms")) "place") (some none)))))
def ex_BadModule (K : PySem.W.Frag) : Bool := Hq.oexB K (He.ga K "BadModule") && (xfB K (He.ga K "BadModule") && (He.eqO (PySem.W.findIn K (.ref (He.ga K "BadModule")) "__init__") (some (some (.ref (He.ma K (He.ga K "BadModule") "__init__")))) && (decide (PySem.W.typeIn K (.ref (He.ma K (He.ga K "BadModule") "__init__")) = some (.type "function")) && (Hq.supB prQ K (He.ga K "BadModule") (He.ma K (He.ga K "BadModule") "__init__") && He.eqO (PySem.W.findIn K (.ref (He.ga K "BadModule")) "place") (some none)))))
def exQ (K : PySem.W.Frag) : Bool := ex_BadAxioms K && (ex_BadModule K && (decide (PySem.W.exmOne K (.ref (He.ga K "BadAxioms")) (.ref (He.ga K "BadAxioms")) = some true) && (decide (PySem.W.exmOne K (.ref (He.ga K "BadModule")) (.ref (He.ga K "BadModule")) = some true) && (decide (PySem.W.exmOne K (.ref (He.ga K "BadModule")) (.ref (He.ga K "CaseError")) = some true) && (He.tupB K "WORDS" [.str "and", .str "or", .str "not", .str "yes", .str "no"] && (true))))))
def names0 : List Str := (["CaseError", "TooGreat", "BadName", "BadAxioms", "SMALL_LETTERS", "WORDS", "MOST_NAME", "MOST_DEEP", "MOST_SIZE", "is_name", "is_node", "terms_of", "wrong_place", "size_and_depth", "need_small", "is_term", "MOST_AXIOMS", "pair_fault", "need_axioms", "BadModule", "MOST_CLAUSES", "MOST_FURTHER", "MOST_LISTED", "MOST_NODES", "is_clause", "is_signature", "is_expression", "inner_ones", "nodes_of", "is_definition", "need_signatures", "need_module", "is_module", "definitions_of", "need_definition"] : List String).map Str.ofString
def names1 : List Str := (["body_nodes", "_law_mixed", "_law_begin", "_law_draw", "_law_of", "_law_like", "_law_term", "_law_pairs", "_law_expression", "_law_signature", "_law_module", "_law_sign", "_law_nodes", "_law_refused", "_law_axioms_refused", "_law_bent_bodies", "_law_bent_signs", "_law_module_right", "_law_long_body", "_law_sizes_right"] : List String).map Str.ofString
def namesQ : List Str := names0 ++ names1
abbrev hkQ : PySem.W.Hook := Hq.hookQ 6 faQ fnQ suQ exQ
def obQ (s : PySem.W.SharedT) : Hq.AlQ := Hq.obsQG 6 faQ fnQ suQ exQ (HandSHeadRun.getT s)
theorem obQ_eq (s : PySem.W.SharedT) : obQ s = hkQ.obs s.abs := Hq.obsQG_eq (HandSHeadRun.getT_eq s)
theorem exc_of {K : PySem.W.Frag} {w : World} {h : Heap} {mg : Str → Option Value} {base : Heap} (X : K.In h) (G : h.Ns mainGlobals mg) (c : Hq.SaysQ faQ fnQ suQ exQ K) : True := True.intro
theorem x_BadAxioms {K : PySem.W.Frag} {w : World} {h : Heap} {mg : Str → Option Value} {base : Heap} (X : K.In h) (G : h.Ns mainGlobals mg) (c : Hq.SaysQ faQ fnQ suQ exQ K) : ExcC K prQ w mg base (fun x => He.ga K x) "BadAxioms" "place" := by
  have hx0 := c.ex
  have hx := (He.ba hx0).1
  obtain ⟨h1, hx⟩ := He.ba hx
  obtain ⟨h2, hx⟩ := He.ba hx
  obtain ⟨h3, hx⟩ := He.ba hx
  obtain ⟨h4, hx⟩ := He.ba hx
  obtain ⟨h5, h6⟩ := He.ba hx
  have T := Hq.oexB_ok h1
  obtain ⟨fd, S, hb⟩ := Hq.supB_ok h5 (c.su_ 0 (d := u_BadAxioms) rfl)
  refine ⟨T, He.glo_ok X G (c.d.fact 41 (f := .glo "BadAxioms") rfl), ⟨_, fd, ["self", "place"], He.eqO_ok h3, of_decide_eq_true h4, ?_, ?_, hb _ (fun _ _ _ _ _ _ _ us hl => match us, hl with | [_, _], _ => rfl)⟩, xfB_ok h2, He.eqO_ok h6⟩
  · exact sup_ok (x := "place") (fl := "place") (k := 0) S T rfl (NdefX.nscope_by (by decide +kernel)) (by decide) (He.eqO_ok h6) ⟨_, rfl, rfl⟩ (fun _ _ _ => ⟨_, rfl⟩) (fun _ _ _ => rfl) (fun _ _ _ => rfl) (fun _ _ _ => rfl) (fun _ _ _ => rfl) rfl rfl rfl
  · exact sup_okH (x := "place") (fl := "place") (k := 0) S T rfl (NdefX.nscope_by (by decide +kernel)) (by decide) (He.eqO_ok h6) ⟨_, rfl, rfl⟩ (fun _ _ _ => ⟨_, rfl⟩) (fun _ _ _ => rfl) (fun _ _ _ => rfl) (fun _ _ _ => rfl) (fun _ _ _ => rfl) rfl rfl rfl
theorem x_BadModule {K : PySem.W.Frag} {w : World} {h : Heap} {mg : Str → Option Value} {base : Heap} (X : K.In h) (G : h.Ns mainGlobals mg) (c : Hq.SaysQ faQ fnQ suQ exQ K) : ExcC K prQ w mg base (fun x => He.ga K x) "BadModule" "place" := by
  have hx0 := c.ex
  have hx1 := (He.ba hx0).2
  have hx := (He.ba hx1).1
  obtain ⟨h1, hx⟩ := He.ba hx
  obtain ⟨h2, hx⟩ := He.ba hx
  obtain ⟨h3, hx⟩ := He.ba hx
  obtain ⟨h4, hx⟩ := He.ba hx
  obtain ⟨h5, h6⟩ := He.ba hx
  have T := Hq.oexB_ok h1
  obtain ⟨fd, S, hb⟩ := Hq.supB_ok h5 (c.su_ 1 (d := u_BadModule) rfl)
  refine ⟨T, He.glo_ok X G (c.d.fact 42 (f := .glo "BadModule") rfl), ⟨_, fd, ["self", "place"], He.eqO_ok h3, of_decide_eq_true h4, ?_, ?_, hb _ (fun _ _ _ _ _ _ _ us hl => match us, hl with | [_, _], _ => rfl)⟩, xfB_ok h2, He.eqO_ok h6⟩
  · exact sup_ok (x := "place") (fl := "place") (k := 0) S T rfl (NdefX.nscope_by (by decide +kernel)) (by decide) (He.eqO_ok h6) ⟨_, rfl, rfl⟩ (fun _ _ _ => ⟨_, rfl⟩) (fun _ _ _ => rfl) (fun _ _ _ => rfl) (fun _ _ _ => rfl) (fun _ _ _ => rfl) rfl rfl rfl
  · exact sup_okH (x := "place") (fl := "place") (k := 0) S T rfl (NdefX.nscope_by (by decide +kernel)) (by decide) (He.eqO_ok h6) ⟨_, rfl, rfl⟩ (fun _ _ _ => ⟨_, rfl⟩) (fun _ _ _ => rfl) (fun _ _ _ => rfl) (fun _ _ _ => rfl) (fun _ _ _ => rfl) rfl rfl rfl
theorem t_WORDS {K : PySem.W.Frag} (hx : He.tupB K "WORDS" [.str "and", .str "or", .str "not", .str "yes", .str "no"] = true) (H : Hp) (B : List Addr) : Rep K H B (.tup [(.str "and"), (.str "or"), (.str "not"), (.str "yes"), (.str "no")]) (.ref (He.ga K "WORDS")) := by
  have h := He.tupB_ok hx (fun _ => none)
  rcases h with h | h
  · rcases h with h | ⟨_, h⟩ <;> cases h
  · exact .tup (.inr h) (.cons (.str _) (.cons (.str _) (.cons (.str _) (.cons (.str _) (.cons (.str _) (.nil))))))
theorem topQ {K : PySem.W.Frag} {w : World} {h : Heap} {mg : Str → Option Value} {base : Heap} (X : K.In h) (G : h.Ns mainGlobals mg) (c : Hq.SaysQ faQ fnQ suQ exQ K) : Top K prQ w mg base (fun x => He.ga K x) := by
  have hx0 := c.ex
  have hx1 := (He.ba hx0).2
  have hx2 := (He.ba hx1).2
  have hx3 := (He.ba hx2).2
  have hx4 := (He.ba hx3).2
  have hx5 := (He.ba hx4).2
  have hx6 := (He.ba hx5).2
  exact {
    x_BadAxioms := x_BadAxioms X G c
    x_BadModule := x_BadModule X G c
    m_BadAxioms_BadAxioms := of_decide_eq_true (He.ba hx2).1
    m_BadModule_BadModule := of_decide_eq_true (He.ba hx3).1
    m_BadModule_CaseError := of_decide_eq_true (He.ba hx4).1
    g_CaseError := He.glo_ok X G (c.d.fact 43 (f := .glo "CaseError") rfl)
    b_len := He.free_ok X G (c.d.fact 44 (f := .free "len") rfl)
    b_isinstance := He.free_ok X G (c.d.fact 45 (f := .free "isinstance") rfl)
    b_all := He.free_ok X G (c.d.fact 46 (f := .free "all") rfl)
    b_any := He.free_ok X G (c.d.fact 47 (f := .free "any") rfl)
    b_int := He.free_ok X G (c.d.fact 48 (f := .free "int") rfl)
    b_tuple := He.free_ok X G (c.d.fact 49 (f := .free "tuple") rfl)
    b_list := He.free_ok X G (c.d.fact 50 (f := .free "list") rfl)
    b_max := He.free_ok X G (c.d.fact 51 (f := .free "max") rfl)
    b_range := He.free_ok X G (c.d.fact 52 (f := .free "range") rfl)
    b_enumerate := He.free_ok X G (c.d.fact 53 (f := .free "enumerate") rfl)
    b_zip := He.free_ok X G (c.d.fact 54 (f := .free "zip") rfl)
    b_str := He.free_ok X G (c.d.fact 55 (f := .free "str") rfl)
    b_bool := He.free_ok X G (c.d.fact 56 (f := .free "bool") rfl)
    c_SMALL_LETTERS := He.str_ok X G (c.d.fact 57 (f := .str "SMALL_LETTERS" "abcdefghijklmnopqrstuvwxyz") rfl)
    c_WORDS := ⟨_, He.glo_ok X G (c.d.fact 58 (f := .glo "WORDS") rfl), t_WORDS (He.ba hx5).1⟩
    c_MOST_NAME := He.int_ok X G (c.d.fact 59 (f := .int "MOST_NAME" 8) rfl)
    c_MOST_DEEP := He.int_ok X G (c.d.fact 60 (f := .int "MOST_DEEP" 40) rfl)
    c_MOST_SIZE := He.int_ok X G (c.d.fact 61 (f := .int "MOST_SIZE" 2000) rfl)
    c_MOST_AXIOMS := He.int_ok X G (c.d.fact 62 (f := .int "MOST_AXIOMS" 400) rfl)
    c_MOST_CLAUSES := He.int_ok X G (c.d.fact 63 (f := .int "MOST_CLAUSES" 4) rfl)
    c_MOST_FURTHER := He.int_ok X G (c.d.fact 64 (f := .int "MOST_FURTHER" 2) rfl)
    c_MOST_LISTED := He.int_ok X G (c.d.fact 65 (f := .int "MOST_LISTED" 12) rfl)
    c_MOST_NODES := He.int_ok X G (c.d.fact 66 (f := .int "MOST_NODES" 60) rfl)
    f_is_name := (c.d.def_ 0 (d := d_is_name) rfl).elim fun fd F => ⟨_, fd, F, He.glo_ok X G (c.d.fact 0 (f := .glo "is_name") rfl)⟩
    f_is_node := (c.d.def_ 1 (d := d_is_node) rfl).elim fun fd F => ⟨_, fd, F, He.glo_ok X G (c.d.fact 1 (f := .glo "is_node") rfl)⟩
    f_terms_of := (c.d.def_ 2 (d := d_terms_of) rfl).elim fun fd F => ⟨_, fd, F, He.glo_ok X G (c.d.fact 2 (f := .glo "terms_of") rfl)⟩
    f_wrong_place := (c.d.def_ 3 (d := d_wrong_place) rfl).elim fun fd F => ⟨_, fd, F, He.glo_ok X G (c.d.fact 3 (f := .glo "wrong_place") rfl)⟩
    f_size_and_depth := (c.d.def_ 4 (d := d_size_and_depth) rfl).elim fun fd F => ⟨_, fd, F, He.glo_ok X G (c.d.fact 4 (f := .glo "size_and_depth") rfl)⟩
    f_need_small := (c.d.def_ 5 (d := d_need_small) rfl).elim fun fd F => ⟨_, fd, F, He.glo_ok X G (c.d.fact 5 (f := .glo "need_small") rfl)⟩
    f_is_term := (c.d.def_ 6 (d := d_is_term) rfl).elim fun fd F => ⟨_, fd, F, He.glo_ok X G (c.d.fact 6 (f := .glo "is_term") rfl)⟩
    f_pair_fault := (c.d.def_ 7 (d := d_pair_fault) rfl).elim fun fd F => ⟨_, fd, F, He.glo_ok X G (c.d.fact 7 (f := .glo "pair_fault") rfl)⟩
    f_need_axioms := (c.d.def_ 8 (d := d_need_axioms) rfl).elim fun fd F => ⟨_, fd, F, He.glo_ok X G (c.d.fact 8 (f := .glo "need_axioms") rfl)⟩
    f_is_clause := (c.d.def_ 9 (d := d_is_clause) rfl).elim fun fd F => ⟨_, fd, F, He.glo_ok X G (c.d.fact 9 (f := .glo "is_clause") rfl)⟩
    f_is_signature := (c.d.def_ 10 (d := d_is_signature) rfl).elim fun fd F => ⟨_, fd, F, He.glo_ok X G (c.d.fact 10 (f := .glo "is_signature") rfl)⟩
    f_is_expression := (c.d.def_ 11 (d := d_is_expression) rfl).elim fun fd F => ⟨_, fd, F, He.glo_ok X G (c.d.fact 11 (f := .glo "is_expression") rfl)⟩
    f_inner_ones := (c.d.def_ 12 (d := d_inner_ones) rfl).elim fun fd F => ⟨_, fd, F, He.glo_ok X G (c.d.fact 12 (f := .glo "inner_ones") rfl)⟩
    f_nodes_of := (c.d.def_ 13 (d := d_nodes_of) rfl).elim fun fd F => ⟨_, fd, F, He.glo_ok X G (c.d.fact 13 (f := .glo "nodes_of") rfl)⟩
    f_is_definition := (c.d.def_ 14 (d := d_is_definition) rfl).elim fun fd F => ⟨_, fd, F, He.glo_ok X G (c.d.fact 14 (f := .glo "is_definition") rfl)⟩
    f_need_signatures := (c.d.def_ 15 (d := d_need_signatures) rfl).elim fun fd F => ⟨_, fd, F, He.glo_ok X G (c.d.fact 15 (f := .glo "need_signatures") rfl)⟩
    f_need_module := (c.d.def_ 16 (d := d_need_module) rfl).elim fun fd F => ⟨_, fd, F, He.glo_ok X G (c.d.fact 16 (f := .glo "need_module") rfl)⟩
    f_is_module := (c.d.def_ 17 (d := d_is_module) rfl).elim fun fd F => ⟨_, fd, F, He.glo_ok X G (c.d.fact 17 (f := .glo "is_module") rfl)⟩
    f_definitions_of := (c.d.def_ 18 (d := d_definitions_of) rfl).elim fun fd F => ⟨_, fd, F, He.glo_ok X G (c.d.fact 18 (f := .glo "definitions_of") rfl)⟩
    f_need_definition := (c.d.def_ 19 (d := d_need_definition) rfl).elim fun fd F => ⟨_, fd, F, He.glo_ok X G (c.d.fact 19 (f := .glo "need_definition") rfl)⟩
    f_body_nodes := (c.d.def_ 20 (d := d_body_nodes) rfl).elim fun fd F => ⟨_, fd, F, He.glo_ok X G (c.d.fact 20 (f := .glo "body_nodes") rfl)⟩
    f_law_mixed := (c.d.def_ 21 (d := d_law_mixed) rfl).elim fun fd F => ⟨_, fd, F, He.glo_ok X G (c.d.fact 21 (f := .glo "_law_mixed") rfl)⟩
    f_law_begin := (c.d.def_ 22 (d := d_law_begin) rfl).elim fun fd F => ⟨_, fd, F, He.glo_ok X G (c.d.fact 22 (f := .glo "_law_begin") rfl)⟩
    f_law_draw := (c.d.def_ 23 (d := d_law_draw) rfl).elim fun fd F => ⟨_, fd, F, He.glo_ok X G (c.d.fact 23 (f := .glo "_law_draw") rfl)⟩
    f_law_of := (c.d.def_ 24 (d := d_law_of) rfl).elim fun fd F => ⟨_, fd, F, He.glo_ok X G (c.d.fact 24 (f := .glo "_law_of") rfl)⟩
    f_law_like := (c.d.def_ 25 (d := d_law_like) rfl).elim fun fd F => ⟨_, fd, F, He.glo_ok X G (c.d.fact 25 (f := .glo "_law_like") rfl)⟩
    f_law_term := (c.d.def_ 26 (d := d_law_term) rfl).elim fun fd F => ⟨_, fd, F, He.glo_ok X G (c.d.fact 26 (f := .glo "_law_term") rfl)⟩
    f_law_pairs := (c.d.def_ 27 (d := d_law_pairs) rfl).elim fun fd F => ⟨_, fd, F, He.glo_ok X G (c.d.fact 27 (f := .glo "_law_pairs") rfl)⟩
    f_law_expression := (c.d.def_ 28 (d := d_law_expression) rfl).elim fun fd F => ⟨_, fd, F, He.glo_ok X G (c.d.fact 28 (f := .glo "_law_expression") rfl)⟩
    f_law_signature := (c.d.def_ 29 (d := d_law_signature) rfl).elim fun fd F => ⟨_, fd, F, He.glo_ok X G (c.d.fact 29 (f := .glo "_law_signature") rfl)⟩
    f_law_module := (c.d.def_ 30 (d := d_law_module) rfl).elim fun fd F => ⟨_, fd, F, He.glo_ok X G (c.d.fact 30 (f := .glo "_law_module") rfl)⟩
    f_law_sign := (c.d.def_ 31 (d := d_law_sign) rfl).elim fun fd F => ⟨_, fd, F, He.glo_ok X G (c.d.fact 31 (f := .glo "_law_sign") rfl)⟩
    f_law_nodes := (c.d.def_ 32 (d := d_law_nodes) rfl).elim fun fd F => ⟨_, fd, F, He.glo_ok X G (c.d.fact 32 (f := .glo "_law_nodes") rfl)⟩
    f_law_refused := (c.d.def_ 33 (d := d_law_refused) rfl).elim fun fd F => ⟨_, fd, F, He.glo_ok X G (c.d.fact 33 (f := .glo "_law_refused") rfl)⟩
    f_law_axioms_refused := (c.d.def_ 34 (d := d_law_axioms_refused) rfl).elim fun fd F => ⟨_, fd, F, He.glo_ok X G (c.d.fact 34 (f := .glo "_law_axioms_refused") rfl)⟩
    f_law_bent_bodies := (c.d.def_ 35 (d := d_law_bent_bodies) rfl).elim fun fd F => ⟨_, fd, F, He.glo_ok X G (c.d.fact 35 (f := .glo "_law_bent_bodies") rfl)⟩
    f_law_bent_signs := (c.d.def_ 36 (d := d_law_bent_signs) rfl).elim fun fd F => ⟨_, fd, F, He.glo_ok X G (c.d.fact 36 (f := .glo "_law_bent_signs") rfl)⟩
    f_law_module_right := (c.d.def_ 37 (d := d_law_module_right) rfl).elim fun fd F => ⟨_, fd, F, He.glo_ok X G (c.d.fact 37 (f := .glo "_law_module_right") rfl)⟩
    f_law_long_body := (c.d.def_ 38 (d := d_law_long_body) rfl).elim fun fd F => ⟨_, fd, F, He.glo_ok X G (c.d.fact 38 (f := .glo "_law_long_body") rfl)⟩
    f_law_sizes_right := (c.d.def_ 39 (d := d_law_sizes_right) rfl).elim fun fd F => ⟨_, fd, F, He.glo_ok X G (c.d.fact 39 (f := .glo "_law_sizes_right") rfl)⟩
    f_law := (c.d.def_ 40 (d := d_law) rfl).elim fun fd F => ⟨_, fd, F, He.glo_ok X G (c.d.fact 40 (f := .glo "law") rfl)⟩
  }
theorem runQ (w : World) : HandSHeadRun.RunEq RQ (PySem.W.view RQ.prog [61]) hkQ obQ 8000 namesQ w := by
  intro os
  kernel_rfl
end Q
end
section
set_option Elab.async false
set_option linter.all false
set_option maxRecDepth 100000
set_option maxHeartbeats 0
namespace Q
open PySem PySem.Spec PyProof.Rows L2 DL
/-- what is left to show, in plain Lean -/
def Math : Prop := ∀ xs : List Int, xs.length ≤ 63 → ∃ small great, Bg N_law_begin b_law_begin e_law_begin xs small great ∧ ∀ p sa ga, ∃ r', b_law [none, some (.raw (.ref p)), none] (rwOf p sa ga small great 0) = some (.ret (.bl true) r')
end Q
open PySem PySem.W PySem.Calls PyProof.Rows
theorem holds_of (hm : Q.Math) : PySem.Challenge.rw_nocases_k78_modules_and_nodes.Holds := by
  w_on; o_law
  refine HandSHeadRun.head_any (r := OpenLaw.row PySem.Challenge.rw_nocases_k78_modules_and_nodes) (q := view (OpenLaw.row PySem.Challenge.rw_nocases_k78_modules_and_nodes).prog [61]) (H := Q.hkQ) (ob := Q.obQ) (M := 8000) (loose := Q.namesQ) (d := HandSHeadRun.topDef (OpenLaw.row PySem.Challenge.rw_nocases_k78_modules_and_nodes).prog 61) (kwd := []) Q.obQ_eq
    (by kernel_rfl) (fun s => by kernel_rfl) Q.runQ (by kernel_rfl) (by kernel_rfl) (by kernel_rfl) (by rfl) (by first | assumption | decide +kernel) (by decide +kernel) ⟨rfl, rfl, rfl, rfl, rfl, by decide +kernel⟩ ?hw ?hc
  case hw => w_witness2
  case hc =>
    refine L2.walk_ofE (l := PySem.Challenge.rw_nocases_k78_modules_and_nodes) (n := 63) (k := 52) (x := "script") (CX := L2.CX0) rfl (by decide) (by kernel_rfl) ⟨rfl, by decide, by decide⟩ ?F (fun _ _ _ _ z => z)
    intro w mg fa h Y G hmg0
    obtain ⟨K, KX, c⟩ := Y
    have hmg : mg ("law" : PySem.Str) = some (.ref fa) := by
      have e : (HandSHeadRun.topDef (OpenLaw.row PySem.Challenge.rw_nocases_k78_modules_and_nodes).prog 61).name = ("law" : PySem.Str) := by kernel_rfl
      rw [← e]
      exact hmg0
    obtain ⟨f, fd, F, hf⟩ := (Q.topQ (w := w) (base := h) KX G c).f_law
    have e := hmg.symm.trans hf
    cases e
    have b := L2.FunD.bindsA (ps := ["script"]) F fun _ _ _ _ _ _ us hl => match us, hl with | [_], _ => rfl
    refine ⟨K, fd, Q.spLaw K, KX, fun s v => b s [v] rfl, fun H a ns hl _ hS => ?_, fun base hb hg => Q.ok_law (Q.topQ (w := w) (base := base) KX G c) F⟩
    obtain ⟨small, great, h1, h2⟩ := hm ns hl
    exact ⟨a, ns, small, great, rfl, hS, h1, h2, fun _ => rfl⟩
end
section
set_option Elab.async false
set_option linter.all false
set_option maxRecDepth 100000
set_option maxHeartbeats 400000
namespace Q
open PySem PySem.Spec PyProof.Rows L2 DL
/-- the law's cells at first -/
def sm0 : List Int := (List.range 64).map fun (n : Nat) => (31 + Int.ofNat n : Int)
def stA (sm : List Int) (n : Nat) (c : Int) : List Int := sm.set (n % 64) ((sm.getD (n % 64) 0 * 48271 + c) % 2147483647)
def stB (sm : List Int) (n : Nat) : List Int := sm.set n ((sm.getD n 0 + sm.getD (n - 1) 0 * 16807) % 2147483647)
theorem begin1 (xs : List D) : sOwn 1 (eComp (iRng rng1B (aCons (eC (.int 64)) aNil)) (gNm 2) bT (eBin addD (eC (.int 31)) (eVar 2)) [2]) (startE N_law_begin [.frl xs]) () = some (.nx [some (.frl xs), some (.lst (sm0.map D.int)), none, none] ()) := by
  rfl
theorem atI_map_int {sm : List Int} {j : Nat} {k : Int} (hk : k = (j : Int)) (h : j < sm.length) : atI (sm.map D.int) k = some (.int (sm.getD j 0)) := by
  subst hk
  unfold atI ixN
  rw [List.length_map, if_pos (by omega), if_pos (by omega)]
  show (sm.map D.int)[((j : Int)).toNat]? = _
  rw [Int.toNat_natCast, List.getElem?_map, List.getElem?_eq_getElem h]
  simp [List.getD, List.getElem?_eq_getElem h]
theorem ixN_nat {n j : Nat} {k : Int} (hk : k = (j : Int)) (h : j < n) : ixN n k = some j := by
  subst hk
  unfold ixN
  rw [if_pos (by omega), if_pos (by omega), Int.toNat_natCast]
def bodyA : SS Unit := sSix 1 (eBin modD (eUn intD (eVar 2)) (eC (.int 64))) (eBin modD (eUn intD (eBin addD (eBin mulD (eBin ixD (eVar 1) (eBin modD (eUn intD (eVar 2)) (eC (.int 64)))) (eC (.int 48271))) (eVar 3))) (eC (.int 2147483647)))
theorem stepA {X : D} {sm : List Int} {n : Nat} {c : Int} (h : sm.length = 64) : bodyA [some X, some (.lst (sm.map D.int)), some (.int n), some (.int c)] () =
    some (.nx [some X, some (.lst ((stA sm n c).map D.int)), some (.int n), some (.int c)] ()) := by
  have hm : ((n : Int) % 64) = ((n % 64 : Nat) : Int) := by omega
  have hl : n % 64 < sm.length := by omega
  have a1 := atI_map_int (sm := sm) hm hl
  have a2 := ixN_nat (n := sm.length) hm hl
  simp only [bodyA, sSix, eBin, eUn, eVar, eC, DL.intD, modD, ixD, mulD, addD, lstAt, intOf, List.getElem?_cons_zero, List.getElem?_cons_succ, Option.bind_some, Option.map_some, show (0 : Int) < 64 by decide, if_true, a1, List.length_map, a2, show (0 : Int) < 2147483647 by decide, show (-(2 ^ 64) < (48271 : Int) ∧ (48271 : Int) < 2 ^ 64) by decide, or_true]
  simp [stA, List.map_set]
theorem sFold_cons {ρ : Type} {g : GD} {b : SS ρ} {d : D} {ds : List D} {env : DL.Env} {r : ρ} : sFold g b (d :: ds) env r = (g d env).bind fun e => (b e r).bind (sThen (sFold g b ds)) := rfl
def okS (sm : List Int) : Prop := sm.length = 64 ∧ ∀ x ∈ sm, 0 ≤ x ∧ x < 2147483647
theorem okS_set {sm : List Int} (h : okS sm) (i : Nat) (y : Int) : okS (sm.set i (y % 2147483647)) := by
  refine ⟨by rw [List.length_set]; exact h.1, fun x hx => ?_⟩
  rcases List.mem_or_eq_of_mem_set hx with z | z
  · exact h.2 x z
  · subst z; omega
def gA : GD := gTp (gC (gNm 2) (gC (gNm 3) gN))
theorem foldA {X : D} : ∀ (cs : List Int) (n : Nat) (sm : List Int) (e2 e3 : Option D), okS sm → ∃ sm' e2' e3', okS sm' ∧
    sFold gA bodyA (enumFrom n (cs.map D.int)) [some X, some (.lst (sm.map D.int)), e2, e3] () = some (.nx [some X, some (.lst (sm'.map D.int)), e2', e3'] ())
  | [], n, sm, e2, e3, h => ⟨sm, e2, e3, h, rfl⟩
  | c :: cs, n, sm, e2, e3, h => by
    obtain ⟨sm', e2', e3', h1, h2⟩ := foldA cs (n + 1) (stA sm n c) (some (.int n)) (some (.int c)) (okS_set h _ _)
    refine ⟨sm', e2', e3', h1, ?_⟩
    rw [← h2]
    have g : gA (.tup [.int n, .int c]) [some X, some (.lst (sm.map D.int)), e2, e3] = some [some X, some (.lst (sm.map D.int)), some (.int n), some (.int c)] := rfl
    rw [List.map_cons, enumFrom, sFold_cons, g, Option.bind_some, stepA h.1, Option.bind_some]
    rfl
def bodyB : SS Unit := sSix 1 (eVar 2) (eBin modD (eUn DL.intD (eBin addD (eBin ixD (eVar 1) (eVar 2)) (eBin mulD (eBin ixD (eVar 1) (eBin subD (eVar 2) (eC (.int 1)))) (eC (.int 16807))))) (eC (.int 2147483647)))
theorem stepB {X : D} {sm : List Int} {n : Nat} {e3 : Option D} (h : sm.length = 64) (h1 : 1 ≤ n) (h2 : n < 64) : bodyB [some X, some (.lst (sm.map D.int)), some (.int n), e3] () =
    some (.nx [some X, some (.lst ((stB sm n).map D.int)), some (.int n), e3] ()) := by
  have a0 := atI_map_int (sm := sm) (j := n) rfl (by omega)
  have a1 := atI_map_int (sm := sm) (j := n - 1) (k := (n : Int) - 1) (by omega) (by omega)
  have a2 := ixN_nat (n := sm.length) (j := n) rfl (by omega)
  simp only [bodyB, sSix, eBin, eUn, eVar, eC, DL.intD, modD, ixD, mulD, addD, subD, lstAt, intOf, List.getElem?_cons_zero, List.getElem?_cons_succ, Option.bind_some, Option.map_some, if_true, a0, a1, List.length_map, a2, show (0 : Int) < 2147483647 by decide, show (-(2 ^ 64) < (16807 : Int) ∧ (16807 : Int) < 2 ^ 64) by decide, or_true]
  simp [stB, List.map_set]
theorem foldB {X : D} : ∀ (ns : List Nat) (sm : List Int) (e2 e3 : Option D), okS sm → (∀ n ∈ ns, 1 ≤ n ∧ n < 64) → ∃ sm' e2', okS sm' ∧
    sFold (gNm 2) bodyB (ns.map fun (n : Nat) => D.int (n : Int)) [some X, some (.lst (sm.map D.int)), e2, e3] () = some (.nx [some X, some (.lst (sm'.map D.int)), e2', e3] ())
  | [], sm, e2, e3, h, _ => ⟨sm, e2, h, rfl⟩
  | n :: ns, sm, e2, e3, h, hn => by
    obtain ⟨sm', e2', h1, h2⟩ := foldB ns (stB sm n) (some (.int n)) e3 (okS_set h _ _) fun m hm => hn m (List.mem_cons_of_mem _ hm)
    refine ⟨sm', e2', h1, ?_⟩
    rw [← h2]
    have q := hn n (List.mem_cons_self ..)
    have g : gNm 2 (.int n) [some X, some (.lst (sm.map D.int)), e2, e3] = some [some X, some (.lst (sm.map D.int)), some (.int n), e3] := rfl
    rw [List.map_cons, sFold_cons, g, Option.bind_some, stepB h.1 q.1 q.2, Option.bind_some]
    rfl
def gr0 (c : Int) : Int := if c ≥ 10 ^ 18 then c else 0
def eG : SE Unit := eIf (bOf (eBin geD (eVar 3) (eBin powD (eC (.int 10)) (eC (.int 18))))) (eVar 3) (eC (.int 0))
theorem eG_ok {a b c : Option D} {i : Int} : eG [a, b, c, some (.int i)] () = some (.int (gr0 i), ()) := by
  by_cases h : (1000000000000000000 : Int) ≤ i <;> simp [eG, eIf, bOf, eBin, eVar, eC, geD, powD, toB, gr0, h]
theorem cFold_cons {ρ : Type} {g : GD} {t : SB ρ} {e : SE ρ} {env : DL.Env} {d : D} {ds : List D} {r : ρ} : cFold g t e env (d :: ds) r = (g d env).bind fun e2 => (t e2 r).bind fun p => if p.1 = true then (e e2 p.2).bind fun q => (cFold g t e env ds q.2).map fun z => (q.1 :: z.1, z.2) else cFold g t e env ds p.2 := rfl
theorem foldG {a b c d : Option D} : ∀ cs : List Int, cFold (gNm 3) bT eG [a, b, c, d] (cs.map D.int) () = some ((cs.map gr0).map D.int, ())
  | [] => rfl
  | x :: cs => by
    have g : gNm 3 (.int x) [a, b, c, d] = some [a, b, c, some (.int x)] := rfl
    rw [List.map_cons, cFold_cons, g, Option.bind_some]
    show (Option.bind (eG [a, b, c, some (.int x)] ()) _) = _
    rw [eG_ok, Option.bind_some, foldG cs]
    rfl
theorem bg_ok (xs : List Int) (h : xs.length ≤ 63) : ∃ small, okS small ∧ Bg N_law_begin b_law_begin e_law_begin xs small (xs.map gr0) := by
  have h0 : okS sm0 := by
    refine ⟨by decide, ?_⟩
    decide
  obtain ⟨s1, e2, e3, k1, q1⟩ := foldA (X := .frl (xs.map D.int)) xs 0 sm0 none none h0
  obtain ⟨s2, e4, k2, q2⟩ := foldB (X := .frl (xs.map D.int)) ((List.range 63).map (· + 1)) s1 e2 e3 k1 (by decide)
  refine ⟨s2, k2, [some (.frl (xs.map D.int)), some (.lst (s2.map D.int)), e4, e3], ?_, rfl, ?_⟩
  · have r1 : (iEnumF (ρ := Unit) (eVar 0)) [some (.frl (xs.map D.int)), some (.lst (sm0.map D.int)), none, none] () = some (enumFrom 0 (xs.map D.int), ()) := rfl
    have r2 : (iRng (ρ := Unit) rng2B (aCons (eC (.int 1)) (aCons (eC (.int 64)) aNil))) [some (.frl (xs.map D.int)), some (.lst (s1.map D.int)), e2, e3] () = some (((List.range 63).map (· + 1)).map (fun (n : Nat) => D.int (n : Int)), ()) := rfl
    show sSeq (sOwn 1 _) (sSeq (sFor (iEnumF (eVar 0)) gA bodyA) (sSeq (sFor (iRng rng2B (aCons (eC (.int 1)) (aCons (eC (.int 64)) aNil))) (gNm 2) bodyB) sNil)) _ _ = _
    unfold sSeq
    rw [begin1, Option.bind_some]
    show (sFor (iEnumF (eVar 0)) gA bodyA [some (.frl (xs.map D.int)), some (.lst (sm0.map D.int)), none, none] ()).bind _ = _
    unfold sFor
    rw [r1, Option.bind_some, q1, Option.bind_some]
    show Option.bind (Option.bind ((iRng (ρ := Unit) rng2B (aCons (eC (.int 1)) (aCons (eC (.int 64)) aNil))) [some (.frl (xs.map D.int)), some (.lst (s1.map D.int)), e2, e3] ()) _) _ = _
    rw [r2, Option.bind_some, q2]
    rfl
  · show (Option.bind (cFold (gNm 3) bT eG [some (.frl (xs.map D.int)), some (.lst (s2.map D.int)), e4, none] (xs.map D.int) ()) _) = _
    rw [foldG, Option.bind_some]
    have : (List.map D.int (List.map gr0 xs)).length ≤ big := by
      rw [List.length_map, List.length_map]; exact Nat.le_trans h (by decide)
    show (if (List.map D.int (List.map gr0 xs)).length ≤ big then _ else _) = _
    rw [if_pos this]
end Q
end
section
set_option Elab.async false
set_option linter.all false
set_option maxRecDepth 100000
set_option maxHeartbeats 400000
namespace Q
open PySem PySem.Spec PyProof.Rows L2 DL
theorem mul_r {i j : Int} (h : -(2 ^ 64) < j ∧ j < 2 ^ 64) : mulD (.int i) (.int j) = some (.int (i * j)) := by
  exact if_pos (.inr h)
theorem mul_l {i j : Int} (h : -(2 ^ 64) < i ∧ i < 2 ^ 64) : mulD (.int i) (.int j) = some (.int (i * j)) := by
  exact if_pos (.inl h)
theorem add_i {i j : Int} : addD (.int i) (.int j) = some (.int (i + j)) := rfl
theorem mod_i {i j : Int} (h : 0 < j) : modD (.int i) (.int j) = some (.int (i % j)) := by
  exact if_pos h
theorem fdiv_i {i j : Int} (h : 0 < j ∧ j < 1073741824) : fdivD (.int i) (.int j) = some (.int (i / j)) := by
  exact if_pos h
theorem int_i {i : Int} : DL.intD (.int i) = some (.int i) := rfl
def mixI (c n : Int) : Int := (((c * (1 + 2 * n) * 48271) % 2147483647 + 7919 * n * n + 104729 * n) * 69621) % 2147483629 / 7
theorem mixed_ok {ρ : Type} {r : ρ} (c n : Int) (h : 0 ≤ n ∧ n < 2 ^ 60) : g_law_mixed [.int c, .int n] r = some (.int (mixI c n), r) := by
  have a1 : mulD (.int 2) (.int n) = some (.int (2 * n)) := mul_l (by decide)
  have a2 : mulD (.int c) (.int (1 + 2 * n)) = some (.int (c * (1 + 2 * n))) := mul_r (by omega)
  have a3 : mulD (.int (c * (1 + 2 * n))) (.int 48271) = some (.int (c * (1 + 2 * n) * 48271)) := mul_r (by decide)
  have a4 : mulD (.int 7919) (.int n) = some (.int (7919 * n)) := mul_l (by decide)
  have a5 : mulD (.int (7919 * n)) (.int n) = some (.int (7919 * n * n)) := mul_r (by omega)
  have a6 : mulD (.int 104729) (.int n) = some (.int (104729 * n)) := mul_l (by decide)
  have a7 : ∀ z : Int, mulD (.int z) (.int 69621) = some (.int (z * 69621)) := fun z => mul_r (by decide)
  have m1 : ∀ z : Int, modD (.int z) (.int 2147483647) = some (.int (z % 2147483647)) := fun z => mod_i (by decide)
  have m2 : ∀ z : Int, modD (.int z) (.int 2147483629) = some (.int (z % 2147483629)) := fun z => mod_i (by decide)
  have m3 : ∀ z : Int, fdivD (.int z) (.int 7) = some (.int (z / 7)) := fun z => fdiv_i (by decide)
  have e : startE N_law_mixed [D.int c, D.int n] = [some (.int c), some (.int n), none] := rfl
  unfold g_law_mixed gOf
  rw [e]
  simp only [b_law_mixed, sSeq, sAsg, sRet, gNm, eBin, eUn, eVar, eC, List.getElem?_cons_zero, List.getElem?_cons_succ, Option.bind_some, Option.map_some, a1, a2, a3, a4, a5, a6, a7, m1, m2, m3, int_i, add_i, List.length_cons, List.length_nil, Nat.reduceAdd, Nat.reduceLT, ↓reduceIte, List.set_cons_succ, List.set_cons_zero, sThen, outD]
  rfl
theorem mixI_range (c n : Int) : 0 ≤ mixI c n ∧ mixI c n < 2 ^ 31 := by
  unfold mixI
  generalize ((c * (1 + 2 * n) * 48271) % 2147483647 + 7919 * n * n + 104729 * n) * 69621 = z
  omega
end Q
end
section
set_option Elab.async false
set_option linter.all false
set_option maxRecDepth 100000
set_option maxHeartbeats 400000
namespace Q
open PySem PySem.Spec PyProof.Rows L2 DL
/-- the law's state is sound: small of 64 cells, great of cells that are not negative, a small spot -/
structure Sr (am sa ga : Addr) (t : Nat) (r : Rw) : Prop where
  ex : ∃ small great : List Int, ∃ n : Int, r = rwOf am sa ga small great n ∧ okS small ∧ (∀ x ∈ great, 0 ≤ x) ∧ great.length ≤ 63 ∧ 0 ≤ n ∧ n ≤ t
theorem am_at {am sa ga : Addr} {small great : List Int} {n : Int} {e : DL.Env} : amAt 0 (some (.raw (.ref am)) :: e) (rwOf am sa ga small great n) = some () := by
  unfold amAt rwOf
  simp
theorem f_spot {am sa ga : Addr} {small great : List Int} {n : Int} : fInt "spot" (rwOf am sa ga small great n) = some n := by
  have : (rwOf am sa ga small great n).fs.lookup ("spot" : Str) = some (Fd.int n) := by unfold rwOf; rfl
  unfold fInt
  rw [this]
theorem f_small {am sa ga : Addr} {small great : List Int} {n : Int} : fLst "small" (rwOf am sa ga small great n) = some (sa, small) := by
  have : (rwOf am sa ga small great n).fs.lookup ("small" : Str) = some (Fd.lst sa small) := by unfold rwOf; rfl
  unfold fLst
  rw [this]
theorem f_great {am sa ga : Addr} {small great : List Int} {n : Int} : fLst "great" (rwOf am sa ga small great n) = some (ga, great) := by
  have : (rwOf am sa ga small great n).fs.lookup ("great" : Str) = some (Fd.lst ga great) := by unfold rwOf; rfl
  unfold fLst
  rw [this]
theorem put_spot {am sa ga : Addr} {small great : List Int} {n m : Int} : putF (rwOf am sa ga small great n).fs "spot" (.int m) = (rwOf am sa ga small great m).fs := by
  unfold rwOf; rfl
theorem put_great {am sa ga : Addr} {small great g2 : List Int} {n : Int} : putF (rwOf am sa ga small great n).fs "great" (.lst ga g2) = (rwOf am sa ga small g2 n).fs := by
  unfold rwOf; rfl
end Q
end
section
set_option Elab.async false
set_option linter.all false
set_option maxRecDepth 100000
set_option maxHeartbeats 400000
namespace Q
open PySem PySem.Spec PyProof.Rows L2 DL
theorem rw_am {am sa ga : Addr} {small great : List Int} {n : Int} : (rwOf am sa ga small great n).am = am := rfl
theorem rw_put {am sa ga : Addr} {small great : List Int} {n m : Int} : (⟨am, (rwOf am sa ga small great n).fs⟩ : Rw) = rwOf am sa ga small great n := rfl
theorem atI_i {sm : List Int} {j : Nat} {k : Int} (hk : k = (j : Int)) (h : j < sm.length) : atI sm k = some (sm.getD j 0) := by
  subst hk
  unfold atI ixN
  rw [if_pos (by omega), if_pos (by omega)]
  show sm[((j : Int)).toNat]? = _
  rw [Int.toNat_natCast, List.getElem?_eq_getElem h]
  simp [List.getD, List.getElem?_eq_getElem h]
/-- a draw with no great cell -/
theorem draw0 {am sa ga : Addr} {small : List Int} {n lim : Int} (hs : okS small) (hn : 0 ≤ n ∧ n < 2 ^ 59) (hl : 0 < lim) :
    ∃ k : Int, 0 ≤ k ∧ k < lim ∧ g_law_draw [.raw (.ref am), .int lim] (rwOf am sa ga small [] n) = some (.int k, rwOf am sa ga small [] (n + 1)) := by
  have hm : (n % 64) = ((n % 64).toNat : Int) := by omega
  have a1 := atI_i (sm := small) hm (by have := hs.1; omega)
  have e : startE N_law_draw [D.raw (.ref am), D.int lim] = [some (.raw (.ref am)), some (.int lim), none, none, none] := rfl
  refine ⟨mixI (mixI (small.getD (n % 64).toNat 0 + 31 * (n / 64)) n) (n + 7) % lim, Int.emod_nonneg _ (by omega), Int.emod_lt_of_pos _ hl, ?_⟩
  have x1 := mixed_ok (r := rwOf am sa ga small [] (n + 1)) (small.getD (n % 64).toNat 0 + 31 * (n / 64)) n (by omega)
  have x2 := mixed_ok (r := rwOf am sa ga small [] (n + 1)) (mixI (small.getD (n % 64).toNat 0 + 31 * (n / 64)) n) (n + 7) (by omega)
  have b1 : modD (.int n) (.int 64) = some (.int (n % 64)) := mod_i (by decide)
  have b2 : fdivD (.int n) (.int 64) = some (.int (n / 64)) := fdiv_i (by decide)
  have b3 : mulD (.int 31) (.int (n / 64)) = some (.int (31 * (n / 64))) := mul_l (by decide)
  have b4 : ∀ z : Int, modD (.int z) (.int lim) = some (.int (z % lim)) := fun z => mod_i hl
  unfold g_law_draw gOf
  rw [e]
  simp only [b_law_draw, sSeq, sAsg, sRet, sIf, sNil, gNm, eBin, eUn, eVar, eC, eCall, aCons, aNil, wGet, wPut, wNe, wIx, am_at, f_spot, f_small, f_great, put_spot, rw_am, rw_put, intOf, List.getElem?_cons_zero, List.getElem?_cons_succ, Option.bind_some, Option.map_some, b1, b2, b3, b4, a1, x1, x2, int_i, add_i, List.length_cons, List.length_nil, Nat.reduceAdd, Nat.reduceLT, ↓reduceIte, List.set_cons_succ, List.set_cons_zero, sThen, outD, List.isEmpty_nil, Bool.not_true, Bool.false_eq_true]
end Q
end
section
set_option Elab.async false
set_option linter.all false
set_option maxRecDepth 100000
set_option maxHeartbeats 400000
namespace Q
open PySem PySem.Spec PyProof.Rows L2 DL
theorem draw1 {am sa ga : Addr} {small great : List Int} {n lim : Int} (hs : okS small) (hg : great ≠ []) (hn : 0 ≤ n ∧ n < 2 ^ 59) (hl : 0 < lim ∧ lim < 1073741824) :
    ∃ (k : Int) (g2 : List Int), 0 ≤ k ∧ k < lim ∧ g2.length = great.length ∧ g_law_draw [.raw (.ref am), .int lim] (rwOf am sa ga small great n) = some (.int k, rwOf am sa ga small g2 (n + 1)) := by
  have hp : 0 < great.length := List.length_pos_iff.mpr hg
  have hge : great.isEmpty = false := by cases great <;> simp_all
  have hm : (n % 64) = ((n % 64).toNat : Int) := by omega
  have hh0 : 0 ≤ n % (great.length : Int) := Int.emod_nonneg _ (by omega)
  have hh1 : n % (great.length : Int) < great.length := Int.emod_lt_of_pos _ (by omega)
  have hh : n % (great.length : Int) = ((n % (great.length : Int)).toNat : Int) := by omega
  have hlt : (n % (great.length : Int)).toNat < great.length := by omega
  have a1 := atI_i (sm := small) hm (by have := hs.1; omega)
  have a2 := atI_i (sm := great) hh hlt
  have a3 := ixN_nat (n := great.length) hh hlt
  have e : startE N_law_draw [D.raw (.ref am), D.int lim] = [some (.raw (.ref am)), some (.int lim), none, none, none] := rfl
  have x1 := mixed_ok (r := rwOf am sa ga small great (n + 1)) (small.getD (n % 64).toNat 0 + 31 * (n / 64)) n (by omega)
  have x2 := mixed_ok (r := rwOf am sa ga small great (n + 1)) (mixI (small.getD (n % 64).toNat 0 + 31 * (n / 64)) n) (n + 7) (by omega)
  have b0 : modD (.int n) (.int (great.length : Int)) = some (.int (n % (great.length : Int))) := mod_i (by omega)
  have b1 : modD (.int n) (.int 64) = some (.int (n % 64)) := mod_i (by decide)
  have b2 : fdivD (.int n) (.int 64) = some (.int (n / 64)) := fdiv_i (by decide)
  have b3 : mulD (.int 31) (.int (n / 64)) = some (.int (31 * (n / 64))) := mul_l (by decide)
  have b4 : ∀ z : Int, modD (.int z) (.int lim) = some (.int (z % lim)) := fun z => mod_i hl.1
  have b5 : ∀ z : Int, fdivD (.int z) (.int lim) = some (.int (z / lim)) := fun z => fdiv_i hl
  have b6 : ∀ z : Int, gtD (.int z) (.int 0) = some (.bl (decide (0 < z))) := fun z => rfl
  unfold g_law_draw gOf
  rw [e]
  by_cases hc : 0 < great.getD (n % (great.length : Int)).toNat 0
  · have hd : decide (0 < great.getD (n % (great.length : Int)).toNat 0) = true := decide_eq_true hc
    refine ⟨great.getD (n % (great.length : Int)).toNat 0 % lim, great.set (n % (great.length : Int)).toNat (great.getD (n % (great.length : Int)).toNat 0 / lim), Int.emod_nonneg _ (by omega), Int.emod_lt_of_pos _ hl.1, by rw [List.length_set], ?_⟩
    simp only [b_law_draw, sSeq, sAsg, sRet, sIf, sNil, gNm, eBin, eUn, eVar, eC, eCall, aCons, aNil, wGet, wPut, wPutL, wNe, wLen, wIx, bOf, toB, am_at, f_spot, f_small, f_great, put_spot, put_great, rw_am, rw_put, intOf, List.getElem?_cons_zero, List.getElem?_cons_succ, Option.bind_some, Option.map_some, b0, b1, b2, b3, b4, b5, b6, a1, a2, a3, hd, hge, int_i, add_i, List.length_cons, List.length_nil, Nat.reduceAdd, Nat.reduceLT, ↓reduceIte, List.set_cons_succ, List.set_cons_zero, sThen, outD, Bool.not_false, Bool.false_eq_true]
  · have hd : decide (0 < great.getD (n % (great.length : Int)).toNat 0) = false := decide_eq_false hc
    refine ⟨mixI (mixI (small.getD (n % 64).toNat 0 + 31 * (n / 64)) n) (n + 7) % lim, great, Int.emod_nonneg _ (by omega), Int.emod_lt_of_pos _ hl.1, rfl, ?_⟩
    simp only [b_law_draw, sSeq, sAsg, sRet, sIf, sNil, gNm, eBin, eUn, eVar, eC, eCall, aCons, aNil, wGet, wPut, wPutL, wNe, wLen, wIx, bOf, toB, am_at, f_spot, f_small, f_great, put_spot, put_great, rw_am, rw_put, intOf, List.getElem?_cons_zero, List.getElem?_cons_succ, Option.bind_some, Option.map_some, b0, b1, b2, b3, b4, b5, b6, a1, a2, a3, x1, x2, hd, hge, int_i, add_i, List.length_cons, List.length_nil, Nat.reduceAdd, Nat.reduceLT, ↓reduceIte, List.set_cons_succ, List.set_cons_zero, sThen, outD, Bool.not_false, Bool.false_eq_true]
end Q
end
section
set_option Elab.async false
set_option linter.all false
set_option maxRecDepth 100000
set_option maxHeartbeats 400000
namespace Q
open PySem PySem.Spec PyProof.Rows L2 DL
/-- terms -/
inductive T where
  | yes | no | lt (x : Str) | nt (t : T) | an (a b : T) | or (a b : T)
def T.d : T → D
  | .yes => .tup [.str "yes"]
  | .no => .tup [.str "no"]
  | .lt x => .tup [.str "letter", .str x]
  | .nt t => .tup [.str "not", t.d]
  | .an a b => .tup [.str "and", a.d, b.d]
  | .or a b => .tup [.str "or", a.d, b.d]
def T.size : T → Nat
  | .yes => 1
  | .no => 1
  | .lt _ => 1
  | .nt t => t.size + 1
  | .an a b => a.size + b.size + 1
  | .or a b => a.size + b.size + 1
def T.deep : T → Nat
  | .yes => 0
  | .no => 0
  | .lt _ => 0
  | .nt t => t.deep + 1
  | .an a b => max a.deep b.deep + 1
  | .or a b => max a.deep b.deep + 1
def T.subs : T → List T
  | .yes => []
  | .no => []
  | .lt _ => []
  | .nt t => [t]
  | .an a b => [a, b]
  | .or a b => [a, b]
def Nm (x : Str) : Prop := ∀ (ρ : Type) (r : ρ), g_is_name [.str x] r = some (.bl true, r)
def T.ok : T → Prop
  | .yes => True
  | .no => True
  | .lt x => Nm x
  | .nt t => t.ok
  | .an a b => a.ok ∧ b.ok
  | .or a b => a.ok ∧ b.ok
theorem node_ok {ρ : Type} {r : ρ} : ∀ t : T, t.ok → g_is_node [t.d] r = some (.bl true, r)
  | .yes, _ => rfl
  | .no, _ => rfl
  | .nt _, _ => rfl
  | .an _ _, _ => rfl
  | .or _ _, _ => rfl
  | .lt x, h => by
    have h1 := h ρ r
    have i1 : isiD "tuple" (.tup [.str "letter", .str x]) = some (.bl true) := rfl
    have i2 : isiD "str" (.str "letter") = some (.bl true) := rfl
    have i3 : inD (.str "letter") (.tup [.str "yes", .str "no"]) = some (.bl false) := rfl
    have i4 : eqD (.str "letter") (.str "letter") = some (.bl true) := rfl
    have i5 : eqD (.int ((2 : Nat) : Int)) (.int 2) = some (.bl true) := rfl
    have i6 : eqD (.int ((2 : Nat) : Int)) (.int 0) = some (.bl false) := rfl
    have i7 : ixD (.tup [.str "letter", .str x]) (.int 0) = some (.str "letter") := rfl
    have i8 : ixD (.tup [.str "letter", .str x]) (.int 1) = some (.str x) := rfl
    have i9 : lenD (.tup [.str "letter", .str x]) = some (.int ((2 : Nat) : Int)) := rfl
    have e : startE N_is_node [T.d (.lt x)] = [some (.tup [.str "letter", .str x])] := rfl
    unfold g_is_node gOf
    rw [e]
    simp only [b_is_node, h1, i1, i2, i3, i4, i5, i6, i7, i8, i9, sSeq, sIf, sRet, sNil, sThen, bOr, bNot, bOf, toB, eUn, eBin, eVar, eC, eTup, aCons, aNil, eIf, eCall, outD, Option.bind_some, Option.map_some, List.getElem?_cons_zero, Bool.not_true, Bool.false_eq_true, ↓reduceIte]
theorem subs_ok {ρ : Type} {r : ρ} : ∀ t : T, g_terms_of [t.d] r = some (.tup (t.subs.map T.d), r)
  | .yes => rfl
  | .no => rfl
  | .nt _ => rfl
  | .an _ _ => rfl
  | .or _ _ => rfl
  | .lt x => rfl

/-! wrong_place -/
def itD (q : T × List D) : D := .tup [q.1.d, .tup q.2]
def kids : T × List D → List (T × List D)
  | (.yes, _) => []
  | (.no, _) => []
  | (.lt _, _) => []
  | (.nt t, p) => [(t, p ++ [.int 0])]
  | (.an a b, p) => [(b, p ++ [.int 1]), (a, p ++ [.int 0])]
  | (.or a b, p) => [(b, p ++ [.int 1]), (a, p ++ [.int 0])]
def appW {ρ : Type} : SS ρ := sApp 1 (eTup (aCons (eBin ixD (eVar 4) (eVar 5)) (aCons (eBin addD (eVar 3) (eTup (aCons (eVar 5) aNil))) aNil)))
def bodyW {ρ : Type} : SS ρ := sSeq (sPop 1 (gTp (gC (gNm 2) (gC (gNm 3) gN))))
  (sSeq (sIf (bNot (bOf (eCall 1 g_is_node (aCons (eVar 2) aNil)))) (sRet (eVar 3)) sNil)
  (sSeq (sAsg (eCall 1 g_terms_of (aCons (eVar 2) aNil)) (gNm 4))
  (sFor (iRng rng3B (aCons (eBin subD (eUn lenD (eVar 4)) (eC (.int 1))) (aCons (eC (.int (-1))) (aCons (eC (.int (-1))) aNil)))) (gNm 5) appW)))
theorem sPop_ok {ρ : Type} {r : ρ} {i : Nat} {g : GD} {env : DL.Env} {W : List D} {x : D} (h : lstAt env i = some (W ++ [x])) : sPop i g env r = (g x (env.set i (some (.lst W)))).map fun e => .nx e r := by
  unfold sPop
  rw [h, Option.bind_some, List.getLast?_concat, Option.bind_some, List.dropLast_concat]
theorem appW_ok {ρ : Type} {r : ρ} {v h2 x : D} {W xs p : List D} {i : Int} (hx : atI xs i = some x) (hW : W.length < big) (hp : p.length + 1 ≤ big) :
    appW [some v, some (.lst W), some h2, some (.tup p), some (.tup xs), some (.int i)] r = some (.nx [some v, some (.lst (W ++ [.tup [x, .tup (p ++ [.int i])]])), some h2, some (.tup p), some (.tup xs), some (.int i)] r) := by
  have a1 : ixD (.tup xs) (.int i) = some x := hx
  have a2 : addD (.tup p) (.tup [.int i]) = some (.tup (p ++ [.int i])) := if_pos hp
  simp only [appW, a1, a2, hW, sApp, lstAt, eTup, eBin, eVar, aCons, aNil, Option.bind_some, Option.map_some, List.getElem?_cons_zero, List.getElem?_cons_succ, ↓reduceIte, List.set_cons_succ, List.set_cons_zero]
theorem iRng3_ok {ρ : Type} {r : ρ} {env : DL.Env} {xs : List D} {i k : Nat} (h : env[i]? = some (some (.tup xs))) (hk : xs.length = k ∧ k < 1000000) : (iRng rng3B (aCons (eBin subD (eUn lenD (eVar i)) (eC (.int 1))) (aCons (eC (.int (-1))) (aCons (eC (.int (-1))) aNil)))) env r = some ((List.range k).map fun (j : Nat) => .int ((k : Int) - 1 + (j : Int) * (-1)), r) := by
  obtain ⟨rfl, hk⟩ := hk
  have e : rng3B [.int ((xs.length : Int) - 1), .int (-1), .int (-1)] = some ((List.range xs.length).map fun (j : Nat) => .int ((xs.length : Int) - 1 + (j : Int) * (-1))) := by
    show (if _ then some (rangeD ((xs.length : Int) - 1) (-1) (((xs.length : Int) - 1) - (-1)).toNat) else none) = _
    rw [if_pos (by omega), show (((xs.length : Int) - 1) - (-1)).toNat = xs.length from by omega]
    rfl
  simp only [iRng, aCons, aNil, eBin, eUn, eVar, eC, h, lenD, subD, Option.bind_some, Option.map_some, e]
theorem wp_step {ρ : Type} {r : ρ} {v : D} {W : List D} {q : T × List D} {e2 e3 e4 e5 : Option D} (ht : q.1.ok) (hp : q.2.length + 1 ≤ big) (hW : W.length + 1 < big) :
    ∃ a b c d, bodyW [some v, some (.lst (W ++ [itD q])), e2, e3, e4, e5] r = some (.nx [some v, some (.lst (W ++ (kids q).map itD)), a, b, c, d] r) := by
  obtain ⟨t, p⟩ := q
  have k1 : (sPop 1 (gTp (gC (gNm 2) (gC (gNm 3) gN)))) [some v, some (.lst (W ++ [itD (t, p)])), e2, e3, e4, e5] r = some (.nx [some v, some (.lst W), some t.d, some (.tup p), e4, e5] r) := by
    rw [sPop_ok (W := W) (x := itD (t, p)) rfl]; rfl
  have k2 : (sIf (bNot (bOf (eCall 1 g_is_node (aCons (eVar 2) aNil)))) (sRet (eVar 3)) sNil) [some v, some (.lst W), some t.d, some (.tup p), e4, e5] r = some (.nx [some v, some (.lst W), some t.d, some (.tup p), e4, e5] r) := by
    have := node_ok (r := r) t ht
    simp only [sIf, bNot, bOf, eCall, aCons, aNil, eVar, sNil, toB, this, List.getElem?_cons_zero, List.getElem?_cons_succ, Option.bind_some, Option.map_some, Bool.not_true, Bool.false_eq_true, ↓reduceIte]
  have k3 : (sAsg (eCall 1 g_terms_of (aCons (eVar 2) aNil)) (gNm 4)) [some v, some (.lst W), some t.d, some (.tup p), e4, e5] r = some (.nx [some v, some (.lst W), some t.d, some (.tup p), some (.tup (t.subs.map T.d)), e5] r) := by
    have := subs_ok (r := r) t
    simp only [sAsg, eCall, aCons, aNil, eVar, this, List.getElem?_cons_zero, List.getElem?_cons_succ, Option.bind_some, Option.map_some]
    rfl
  have hW1 : W.length < big := Nat.lt_of_succ_lt hW
  have hb : ∀ (a b : D), W.length + 1 < big → (W ++ [a]).length < big := fun a b h => by rw [List.length_append]; exact h
  unfold bodyW
  unfold sSeq
  rw [k1]; simp only [Option.bind_some, sThen]
  rw [k2]; simp only [Option.bind_some, sThen]
  rw [k3]; simp only [Option.bind_some, sThen]
  have two : ∀ a b : T, ∃ a' b' c d, sFor (iRng rng3B (aCons (eBin subD (eUn lenD (eVar 4)) (eC (.int 1))) (aCons (eC (.int (-1))) (aCons (eC (.int (-1))) aNil)))) (gNm 5) appW [some v, some (.lst W), some t.d, some (.tup p), some (.tup ([a, b].map T.d)), e5] r = some (.nx [some v, some (.lst (W ++ [(b, p ++ [.int 1]), (a, p ++ [.int 0])].map itD)), a', b', c, d] r) := fun a b => by
    refine ⟨some t.d, some (.tup p), some (.tup ([a, b].map T.d)), some (.int 0), ?_⟩
    have f : (iRng rng3B (aCons (eBin subD (eUn lenD (eVar 4)) (eC (.int 1))) (aCons (eC (.int (-1))) (aCons (eC (.int (-1))) aNil)))) [some v, some (.lst W), some t.d, some (.tup p), some (.tup ([a, b].map T.d)), e5] r = some ([.int 1, .int 0], r) := iRng3_ok (k := 2) rfl ⟨rfl, by decide⟩
    unfold sFor
    rw [f, Option.bind_some, sFold_cons]
    show Option.bind (appW [some v, some (.lst W), some t.d, some (.tup p), some (.tup ([a, b].map T.d)), some (.int 1)] r) _ = _
    rw [appW_ok (x := b.d) rfl hW1 hp, Option.bind_some]
    show Option.bind (appW [some v, some (.lst _), some t.d, some (.tup p), some (.tup ([a, b].map T.d)), some (.int 0)] r) _ = _
    rw [appW_ok (x := a.d) rfl (hb _ v hW) hp, Option.bind_some]
    show some (Out.nx [some v, some (.lst _), _, _, _, _] r) = some (Out.nx [some v, some (.lst _), _, _, _, _] r)
    rw [List.append_assoc]
    rfl
  have zero : ∃ a' b' c d, sFor (iRng rng3B (aCons (eBin subD (eUn lenD (eVar 4)) (eC (.int 1))) (aCons (eC (.int (-1))) (aCons (eC (.int (-1))) aNil)))) (gNm 5) appW [some v, some (.lst W), some t.d, some (.tup p), some (.tup []), e5] r = some (.nx [some v, some (.lst (W ++ [])), a', b', c, d] r) := by
    rw [List.append_nil]
    refine ⟨some t.d, some (.tup p), some (.tup []), e5, ?_⟩
    unfold sFor
    rw [iRng3_ok (xs := []) (k := 0) rfl ⟨rfl, by decide⟩]
    rfl
  cases t with
  | yes => exact zero
  | no => exact zero
  | lt x => exact zero
  | an a b => exact two a b
  | or a b => exact two a b
  | nt a =>
    refine ⟨some (T.nt a).d, some (.tup p), some (.tup ([a].map T.d)), some (.int 0), ?_⟩
    have f : (iRng rng3B (aCons (eBin subD (eUn lenD (eVar 4)) (eC (.int 1))) (aCons (eC (.int (-1))) (aCons (eC (.int (-1))) aNil)))) [some v, some (.lst W), some (T.nt a).d, some (.tup p), some (.tup ([a].map T.d)), e5] r = some ([.int 0], r) := iRng3_ok (k := 1) rfl ⟨rfl, by decide⟩
    unfold sFor
    show Option.bind (iRng rng3B _ [some v, some (.lst W), some (T.nt a).d, some (.tup p), some (.tup ([a].map T.d)), e5] r) _ = _
    rw [f, Option.bind_some, sFold_cons]
    show Option.bind (appW [some v, some (.lst W), some (T.nt a).d, some (.tup p), some (.tup ([a].map T.d)), some (.int 0)] r) _ = _
    rw [appW_ok (x := a.d) rfl hW1 hp, Option.bind_some]
    rfl
def sz (Q : List (T × List D)) : Nat := (Q.map fun q => q.1.size).sum
theorem size_pos : ∀ t : T, 0 < t.size
  | .yes => Nat.succ_pos _
  | .no => Nat.succ_pos _
  | .lt _ => Nat.succ_pos _
  | .nt t => Nat.succ_pos _
  | .an _ _ => Nat.succ_pos _
  | .or _ _ => Nat.succ_pos _
theorem len_sz : ∀ Q : List (T × List D), Q.length ≤ sz Q
  | [] => Nat.le_refl _
  | q :: Q => by
    have := len_sz Q
    have h := size_pos q.1
    simp only [sz, List.map_cons, List.sum_cons, List.length_cons] at *
    omega
theorem sz_app (P Q : List (T × List D)) : sz (P ++ Q) = sz P + sz Q := by
  simp [sz]
theorem sz_kids : ∀ q : T × List D, sz (kids q) + 1 = q.1.size
  | (.yes, _) => rfl
  | (.no, _) => rfl
  | (.lt _, _) => rfl
  | (.nt t, p) => by simp [sz, kids, T.size]
  | (.an a b, p) => by simp [sz, kids, T.size]; omega
  | (.or a b, p) => by simp [sz, kids, T.size]; omega
def okW (Q : List (T × List D)) : Prop := ∀ q ∈ Q, q.1.ok ∧ q.2.length + q.1.size < big
theorem okW_kids {q : T × List D} (h : q.1.ok ∧ q.2.length + q.1.size < big) : okW (kids q) := by
  obtain ⟨t, p⟩ := q
  intro z hz
  cases t <;> simp only [kids, List.mem_cons, List.not_mem_nil, or_false] at hz
  case nt a => subst hz; refine ⟨h.1, ?_⟩; have := h.2; simp [T.size] at *; omega
  case an a b =>
    have := h.2
    simp only [T.size] at this
    rcases hz with hz | hz
    · subst hz; refine ⟨h.1.2, ?_⟩; simp; omega
    · subst hz; refine ⟨h.1.1, ?_⟩; simp; omega
  case or a b =>
    have := h.2
    simp only [T.size] at this
    rcases hz with hz | hz
    · subst hz; refine ⟨h.1.2, ?_⟩; simp; omega
    · subst hz; refine ⟨h.1.1, ?_⟩; simp; omega
theorem neNil_false {ρ : Type} {r : ρ} {i : Nat} {env : DL.Env} (h : env[i]? = some (some (.lst []))) : bOf (eBin neD (eVar i) (eLst aNil)) env r = some (false, r) := by
  simp only [bOf, eBin, eVar, h, eLst, aNil, Option.bind_some, Option.map_some]; rfl
theorem neNil_true {ρ : Type} {r : ρ} {i : Nat} {env : DL.Env} {x : D} {xs : List D} (h : env[i]? = some (some (.lst (x :: xs)))) : bOf (eBin neD (eVar i) (eLst aNil)) env r = some (true, r) := by
  simp only [bOf, eBin, eVar, h, eLst, aNil, Option.bind_some, Option.map_some]; rfl
theorem neNil_snoc {ρ : Type} {r : ρ} {i : Nat} {env : DL.Env} {x : D} {xs : List D} (h : env[i]? = some (some (.lst (xs ++ [x])))) : bOf (eBin neD (eVar i) (eLst aNil)) env r = some (true, r) := by
  cases xs with
  | nil => exact neNil_true h
  | cons y ys => exact neNil_true h
theorem sWhile_stop {ρ : Type} {r : ρ} {c : SB ρ} {b : SS ρ} {n : Nat} {env : DL.Env} (h : c env r = some (false, r)) : sWhile c b (n + 1) env r = some (.nx env r) := by
  unfold sWhile; rw [h]; rfl
theorem sWhile_go {ρ : Type} {r : ρ} {c : SB ρ} {b : SS ρ} {n : Nat} {env : DL.Env} (h : c env r = some (true, r)) : sWhile c b (n + 1) env r = (b env r).bind (sThen (sWhile c b n)) := by
  rw [sWhile]; simp only [h, Option.bind_some, if_true]
theorem wp_loop {ρ : Type} {r : ρ} {v : D} : ∀ (n : Nat) (Q : List (T × List D)) (e2 e3 e4 e5 : Option D), okW Q → sz Q < n → sz Q < big - 1 →
    ∃ a b c d, sWhile (bOf (eBin neD (eVar 1) (eLst aNil))) bodyW n [some v, some (.lst (Q.map itD)), e2, e3, e4, e5] r = some (.nx [some v, some (.lst []), a, b, c, d] r)
  | 0, _, _, _, _, _, _, h, _ => absurd h (Nat.not_lt_zero _)
  | n + 1, Q, e2, e3, e4, e5, hk, hn, hb => by
    rcases List.eq_nil_or_concat Q with h | ⟨P, q, h⟩
    · subst h
      exact ⟨e2, e3, e4, e5, sWhile_stop (neNil_false rfl)⟩
    · rw [List.concat_eq_append] at h
      subst h
      have hq := hk q (by simp)
      have hs := sz_kids q
      have hl := len_sz P
      rw [sz_app, show sz [q] = q.1.size from by simp [sz]] at hn hb
      obtain ⟨a, b, c, d, e⟩ := wp_step (r := r) (v := v) (W := P.map itD) (q := q) (e2 := e2) (e3 := e3) (e4 := e4) (e5 := e5) hq.1 (by have := size_pos q.1; omega) (by rw [List.length_map]; have := size_pos q.1; omega)
      obtain ⟨a', b', c', d', e'⟩ := wp_loop n (P ++ kids q) a b c d (fun z hz => by
        rcases List.mem_append.mp hz with y | y
        · exact hk z (by simp [y])
        · exact okW_kids hq z y) (by rw [sz_app]; omega) (by rw [sz_app]; omega)
      refine ⟨a', b', c', d', ?_⟩
      rw [sWhile_go (neNil_snoc (x := itD q) (xs := P.map itD) (by simp)), List.map_append]
      show Option.bind (bodyW [some v, some (.lst (P.map itD ++ [itD q])), e2, e3, e4, e5] r) _ = _
      rw [e, Option.bind_some, ← e', List.map_append]
      rfl
theorem wp_ok {ρ : Type} {r : ρ} (t : T) (h : t.ok) (hs : t.size < 90000) : g_wrong_place [t.d] r = some (.non, r) := by
  obtain ⟨a, b, c, d, e⟩ := wp_loop (r := r) (v := t.d) fuelW [(t, [])] none none none none (fun q hq => by
    rw [List.mem_singleton] at hq; subst hq; exact ⟨h, by simp only [List.length_nil, big]; omega⟩) (by simp [sz, fuelW]; omega) (by simp [sz, big]; omega)
  have e0 : g_wrong_place [t.d] r = Option.map outD (Option.bind (sWhile (bOf (eBin neD (eVar 1) (eLst aNil))) bodyW fuelW [some t.d, some (.lst ([(t, [])].map itD)), none, none, none, none] r) (sThen (sRet (eC .non)))) := rfl
  rw [e0, e]
  rfl
end Q
end
section
set_option Elab.async false
set_option linter.all false
set_option maxRecDepth 100000
set_option maxHeartbeats 400000
namespace Q
open PySem PySem.Spec PyProof.Rows L2 DL
theorem cFold_map {ρ α : Type} {g : GD} {e : SE ρ} {env : DL.Env} {r : ρ} {f h : α → D} : ∀ {xs : List α}, (∀ x ∈ xs, ∃ e2, g (f x) env = some e2 ∧ e e2 r = some (h x, r)) → cFold g bT e env (xs.map f) r = some (xs.map h, r)
  | [], _ => rfl
  | x :: xs, H => by
    obtain ⟨e2, h1, h2⟩ := H x (List.mem_cons_self ..)
    rw [List.map_cons, cFold_cons, h1, Option.bind_some]
    show Option.bind (e e2 r) _ = _
    rw [h2, Option.bind_some]
    show Option.map _ (cFold g bT e env (xs.map f) r) = _
    rw [cFold_map fun y hy => H y (List.mem_cons_of_mem _ hy)]
    rfl
/-- a comprehension over a mapped list, with nothing drawn -/
theorem eComp_map {ρ α : Type} {fa : SA ρ} {g : GD} {e : SE ρ} {vs : List Nat} {env : DL.Env} {r : ρ} {f h : α → D} {xs : List α} (ha : fa env r = some (xs.map f, r)) (hl : xs.length ≤ big)
    (H : ∀ x ∈ xs, ∃ e2, g (f x) (wipeE env vs) = some e2 ∧ e e2 r = some (h x, r)) : eComp fa g bT e vs env r = some (.lst (xs.map h), r) := by
  unfold eComp
  rw [ha, Option.bind_some]
  show (cFold g bT e (wipeE env vs) (xs.map f) r).bind _ = _
  rw [cFold_map H, Option.bind_some]
  show (if (xs.map h).length ≤ big then _ else _) = _
  rw [List.length_map, if_pos hl]
theorem add_ii {i j : Int} : addD (.int i) (.int j) = some (.int (i + j)) := rfl
/-! size_and_depth -/
def itS (q : T × Nat) : D := .tup [q.1.d, .int q.2]
def kidS (q : T × Nat) : List (T × Nat) := q.1.subs.map fun t => (t, q.2 + 1)
def bodyS {ρ : Type} : SS ρ := (sSeq (sPop 3 (gTp (gC (gNm 4) (gC (gNm 5) gN))))
  (sSeq (sPar [1, 2] (aCons (eBin addD (eVar 1) (eC (.int 1))) (aCons (eBin maxD (eVar 2) (eVar 5)) aNil)))
  (sExt 3 (eComp (iSeqD (eCall 1 g_terms_of (aCons (eVar 4) aNil))) (gNm 6) bT (eTup (aCons (eVar 6) (aCons (eBin addD (eVar 5) (eC (.int 1))) aNil))) [6]))))
theorem subs_len : ∀ t : T, t.subs.length ≤ 2
  | .yes => by decide
  | .no => by decide
  | .lt _ => by simp [T.subs]
  | .nt t => by simp [T.subs]
  | .an _ _ => by simp [T.subs]
  | .or _ _ => by simp [T.subs]
theorem sExt_ok {ρ : Type} {r r' : ρ} {i : Nat} {f : SE ρ} {env : DL.Env} {xs ys : List D} (h1 : lstAt env i = some xs) (h2 : f env r = some (.lst ys, r')) (h3 : xs.length + ys.length ≤ big) :
    sExt i f env r = some (.nx (env.set i (some (.lst (xs ++ ys)))) r') := by
  unfold sExt
  rw [h1, Option.bind_some, h2, Option.bind_some, Option.bind_some]
  show (if xs.length + ys.length ≤ big then _ else _) = _
  rw [if_pos h3]
theorem max_ii {i j : Nat} : maxD (.int i) (.int j) = some (.int ((max i j : Nat) : Int)) := by
  show some (D.int (if (j : Int) > (i : Int) then (j : Int) else (i : Int))) = _
  congr 2
  split <;> omega
theorem sd_step {ρ : Type} {r : ρ} {v : D} {W : List D} {q : T × Nat} {s m : Nat} {e4 e5 e6 : Option D} (hW : W.length + 2 ≤ big) :
    bodyS [some v, some (.int s), some (.int m), some (.lst (W ++ [itS q])), e4, e5, e6] r = some (.nx [some v, some (.int ((s + 1 : Nat) : Int)), some (.int ((max m q.2 : Nat) : Int)), some (.lst (W ++ (kidS q).map itS)), some q.1.d, some (.int q.2), e6] r) := by
  obtain ⟨t, n⟩ := q
  have k1 : (sPop 3 (gTp (gC (gNm 4) (gC (gNm 5) gN)))) [some v, some (.int s), some (.int m), some (.lst (W ++ [itS (t, n)])), e4, e5, e6] r = some (.nx [some v, some (.int s), some (.int m), some (.lst W), some t.d, some (.int n), e6] r) := by
    rw [sPop_ok (W := W) (x := itS (t, n)) rfl]; rfl
  have k2 : (sPar [1, 2] (aCons (eBin addD (eVar 1) (eC (.int 1))) (aCons (eBin maxD (eVar 2) (eVar 5)) aNil))) [some v, some (.int s), some (.int m), some (.lst W), some t.d, some (.int n), e6] r = some (.nx [some v, some (.int ((s + 1 : Nat) : Int)), some (.int ((max m n : Nat) : Int)), some (.lst W), some t.d, some (.int n), e6] r) := by
    simp only [sPar, aCons, aNil, eBin, eVar, eC, add_ii, max_ii, Option.bind_some, Option.map_some, List.getElem?_cons_zero, List.getElem?_cons_succ]
    rfl
  unfold bodyS sSeq
  rw [k1]; simp only [Option.bind_some, sThen]
  rw [k2]; simp only [Option.bind_some, sThen]
  have ha : (iSeqD (ρ := ρ) (eCall 1 g_terms_of (aCons (eVar 4) aNil))) [some v, some (.int ((s + 1 : Nat) : Int)), some (.int ((max m n : Nat) : Int)), some (.lst W), some t.d, some (.int n), e6] r = some (t.subs.map T.d, r) := by
    simp only [iSeqD, eCall, aCons, aNil, eVar, subs_ok (r := r) t, items, List.getElem?_cons_zero, List.getElem?_cons_succ, Option.bind_some, Option.map_some]
  have hl := subs_len t
  rw [sExt_ok (xs := W) (ys := (kidS (t, n)).map itS) (r' := r) rfl ?_ (by rw [List.length_map]; unfold kidS; rw [List.length_map]; show W.length + t.subs.length ≤ big; omega)]
  · rfl
  · rw [eComp_map (f := T.d) (h := fun t => itS (t, n + 1)) ha (Nat.le_trans hl (by decide)) fun x _ => ⟨[some v, some (.int ((s + 1 : Nat) : Int)), some (.int ((max m n : Nat) : Int)), some (.lst W), some t.d, some (.int n), some x.d], rfl, rfl⟩]
    unfold kidS
    rw [List.map_map]
    rfl
def szS (Q : List (T × Nat)) : Nat := (Q.map fun q => q.1.size).sum
def dpS (Q : List (T × Nat)) : Nat := (Q.map fun q => q.2 + q.1.deep).foldr max 0
theorem len_szS : ∀ Q : List (T × Nat), Q.length ≤ szS Q
  | [] => Nat.le_refl _
  | q :: Q => by
    have := len_szS Q
    have h := size_pos q.1
    simp only [szS, List.map_cons, List.sum_cons, List.length_cons] at *
    omega
theorem szS_app (P Q : List (T × Nat)) : szS (P ++ Q) = szS P + szS Q := by
  simp [szS]
theorem dpS_app : ∀ (P Q : List (T × Nat)), dpS (P ++ Q) = max (dpS P) (dpS Q)
  | [], Q => by simp [dpS]
  | p :: P, Q => by
    have := dpS_app P Q
    simp only [dpS, List.cons_append, List.map_cons, List.foldr_cons] at *
    rw [this]; omega
theorem szS_kids : ∀ q : T × Nat, szS (kidS q) + 1 = q.1.size
  | (.yes, _) => rfl
  | (.no, _) => rfl
  | (.lt _, _) => rfl
  | (.nt t, p) => by simp [szS, kidS, T.size, T.subs]
  | (.an a b, p) => by simp [szS, kidS, T.size, T.subs]
  | (.or a b, p) => by simp [szS, kidS, T.size, T.subs]
theorem dpS_kids : ∀ q : T × Nat, max q.2 (dpS (kidS q)) = q.2 + q.1.deep
  | (.yes, _) => by simp [dpS, kidS, T.deep, T.subs]
  | (.no, _) => by simp [dpS, kidS, T.deep, T.subs]
  | (.lt _, _) => by simp [dpS, kidS, T.deep, T.subs]
  | (.nt t, p) => by simp [dpS, kidS, T.deep, T.subs]; omega
  | (.an a b, p) => by simp [dpS, kidS, T.deep, T.subs]; omega
  | (.or a b, p) => by simp [dpS, kidS, T.deep, T.subs]; omega
theorem sd_loop {ρ : Type} {r : ρ} {v : D} : ∀ (n : Nat) (Q : List (T × Nat)) (s m : Nat) (e4 e5 e6 : Option D), szS Q < n → szS Q < big - 2 →
    ∃ a b c, sWhile (bOf (eBin neD (eVar 3) (eLst aNil))) bodyS n [some v, some (.int s), some (.int m), some (.lst (Q.map itS)), e4, e5, e6] r = some (.nx [some v, some (.int ((s + szS Q : Nat) : Int)), some (.int ((max m (dpS Q) : Nat) : Int)), some (.lst []), a, b, c] r)
  | 0, _, _, _, _, _, _, h, _ => absurd h (Nat.not_lt_zero _)
  | n + 1, Q, s, m, e4, e5, e6, hn, hb => by
    rcases List.eq_nil_or_concat Q with h | ⟨P, q, h⟩
    · subst h
      refine ⟨e4, e5, e6, ?_⟩
      rw [sWhile_stop (neNil_false rfl)]
      simp [szS, dpS]
    · rw [List.concat_eq_append] at h
      subst h
      have hs := szS_kids q
      have hd := dpS_kids q
      have hl := len_szS P
      rw [szS_app, show szS [q] = q.1.size from by simp [szS]] at hn hb
      obtain ⟨a', b', c', e'⟩ := sd_loop (r := r) (v := v) n (P ++ kidS q) (s + 1) (max m q.2) (some q.1.d) (some (.int q.2)) e6 (by rw [szS_app]; omega) (by rw [szS_app]; omega)
      refine ⟨a', b', c', ?_⟩
      rw [sWhile_go (neNil_snoc (x := itS q) (xs := P.map itS) (by simp)), List.map_append]
      show Option.bind (bodyS [some v, some (.int s), some (.int m), some (.lst (P.map itS ++ [itS q])), e4, e5, e6] r) _ = _
      rw [sd_step (by rw [List.length_map]; omega), Option.bind_some]
      rw [List.map_append] at e'
      show sWhile _ _ _ _ _ = _
      rw [e', szS_app, szS_app, dpS_app, dpS_app, show szS [q] = q.1.size from by simp [szS], show dpS [q] = q.2 + q.1.deep from by simp [dpS]]
      rw [show s + 1 + (szS P + szS (kidS q)) = s + (szS P + q.1.size) from by omega, show max (max m q.2) (max (dpS P) (dpS (kidS q))) = max m (max (dpS P) (q.2 + q.1.deep)) from by omega]
theorem sd_ok {ρ : Type} {r : ρ} (t : T) (hs : t.size < 90000) : g_size_and_depth [t.d] r = some (.tup [.int t.size, .int t.deep], r) := by
  obtain ⟨a, b, c, e⟩ := sd_loop (r := r) (v := t.d) fuelW [(t, 0)] 0 0 none none none (by simp [szS, fuelW]; omega) (by simp [szS, big]; omega)
  have e0 : g_size_and_depth [t.d] r = Option.map outD (Option.bind (sWhile (bOf (eBin neD (eVar 3) (eLst aNil))) bodyS fuelW [some t.d, some (.int ((0 : Nat) : Int)), some (.int ((0 : Nat) : Int)), some (.lst ([(t, 0)].map itS)), none, none, none] r) (sThen (sRet (eTup (aCons (eVar 1) (aCons (eVar 2) aNil)))))) := rfl
  rw [e0, e]
  show some (D.tup [.int ((0 + szS [(t, 0)] : Nat) : Int), .int ((max 0 (dpS [(t, 0)]) : Nat) : Int)], r) = _
  simp [szS, dpS]
theorem le_t {i : Nat} {j : Int} (h : (i : Int) ≤ j) : leD (.int i) (.int j) = some (.bl true) := by
  show some (D.bl (decide ((i : Int) ≤ j))) = _
  rw [decide_eq_true h]
theorem term_ok {ρ : Type} {r : ρ} (t : T) (h : t.ok) (hs : t.size ≤ 2000) (hd : t.deep ≤ 40) : g_is_term [t.d] r = some (.bl true, r) := by
  have e : startE N_is_term [t.d] = [some t.d, none, none] := rfl
  have a1 := wp_ok (r := r) t h (by omega)
  have a2 := sd_ok (r := r) t (by omega)
  have a3 : isnD .non .non = some (.bl false) := rfl
  have a4 := le_t (i := t.size) (j := 2000) (by omega)
  have a5 := le_t (i := t.deep) (j := 40) (by omega)
  unfold g_is_term gOf
  rw [e]
  simp only [b_is_term, a1, a2, a3, a4, a5, sSeq, sIf, sAsg, sRet, sNil, sThen, bOf, toB, eBin, eVar, eC, aCons, aNil, eIf, eCall, gTp, gC, gNm, gN, outD, Option.bind_some, Option.map_some, List.getElem?_cons_zero, List.getElem?_cons_succ, List.length_cons, List.length_nil, List.set_cons_zero, List.set_cons_succ, Nat.reduceAdd, Nat.reduceLT, Bool.false_eq_true, ↓reduceIte]
end Q
end
section
set_option Elab.async false
set_option linter.all false
set_option maxRecDepth 100000
set_option maxHeartbeats 400000
namespace Q
open PySem PySem.Spec PyProof.Rows L2 DL
section
variable {ρ : Type} {r r' : ρ} {env e e' : DL.Env} {d : D}
theorem sSeq_nx {a b : SS ρ} (h : a env r = some (.nx e r')) : sSeq a b env r = b e r' := by
  unfold sSeq; rw [h]; rfl
theorem sSeq_ret {a b : SS ρ} (h : a env r = some (.ret d r')) : sSeq a b env r = some (.ret d r') := by
  unfold sSeq; rw [h]; rfl
theorem xSeq_nx {a b : SX ρ} (h : a env r = some (.ok (.nx e r'))) : xSeq a b env r = b e r' := by
  unfold xSeq; rw [h]; rfl
theorem xSeq_ret {a b : SX ρ} (h : a env r = some (.ok (.ret d r'))) : xSeq a b env r = some (.ok (.ret d r')) := by
  unfold xSeq; rw [h]; rfl
theorem xSeq_exc {a b : SX ρ} {x : Ex} (h : a env r = some (.exc x r')) : xSeq a b env r = some (.exc x r') := by
  unfold xSeq; rw [h]; rfl
theorem sFold_nx {g : GD} {b : SS ρ} {ds : List D} (hg : g d env = some e) (h : b e r = some (.nx e' r')) : sFold g b (d :: ds) env r = sFold g b ds e' r' := by
  rw [sFold_cons, hg, Option.bind_some, h]; rfl
theorem sFold_ret {g : GD} {b : SS ρ} {ds : List D} {x : D} (hg : g d env = some e) (h : b e r = some (.ret x r')) : sFold g b (d :: ds) env r = some (.ret x r') := by
  rw [sFold_cons, hg, Option.bind_some, h]; rfl
theorem xFold_nx {g : GD} {b : SX ρ} {ds : List D} (hg : g d env = some e) (h : b e r = some (.ok (.nx e' r'))) : xFold g b (d :: ds) env r = xFold g b ds e' r' := by
  show (g d env).bind (fun e => (b e r).bind (xThen (xFold g b ds))) = _
  rw [hg, Option.bind_some, h]; rfl
theorem xFold_exc {g : GD} {b : SX ρ} {ds : List D} {x : Ex} (hg : g d env = some e) (h : b e r = some (.exc x r')) : xFold g b (d :: ds) env r = some (.exc x r') := by
  show (g d env).bind (fun e => (b e r).bind (xThen (xFold g b ds))) = _
  rw [hg, Option.bind_some, h]; rfl
end
def T.fine (t : T) : Prop := t.ok ∧ t.size ≤ 2000 ∧ t.deep ≤ 40
def pD (p : T × T) : D := .tup [p.1.d, p.2.d]
def pFine (p : T × T) : Prop := p.1.fine ∧ p.2.fine
theorem gt_f {i : Nat} {j : Int} (h : (i : Int) ≤ j) : gtD (.int i) (.int j) = some (.bl false) := by
  show some (D.bl (decide (j < (i : Int)))) = _
  rw [decide_eq_false (by omega)]
def bodyP {ρ : Type} : SS ρ := (sSeq (sAsg (eCall 1 g_wrong_place (aCons (eVar 2) aNil)) (gNm 3))
  (sSeq (sIf (bOf (eBin isnD (eVar 3) (eC .non))) (sRet (eBin addD (eTup (aCons (eVar 1) aNil)) (eVar 3))) sNil)
  (sSeq (sAsg (eCall 1 g_size_and_depth (aCons (eVar 2) aNil)) (gTp (gC (gNm 4) (gC (gNm 5) gN))))
  (sExpr (eCall 2 g_need_small (aCons (eVar 4) (aCons (eVar 5) aNil)))))))
theorem small_ok {ρ : Type} {r : ρ} {i j : Nat} (h : i ≤ 2000) (k : j ≤ 40) : g_need_small [.int i, .int j] r = some (.non, r) := by
  have e : startE N_need_small [.int i, .int j] = [some (.int i), some (.int j)] := rfl
  have a1 := gt_f (i := i) (j := 2000) (by omega)
  have a2 := gt_f (i := j) (j := 40) (by omega)
  unfold g_need_small gOf
  rw [e]
  simp only [b_need_small, a1, a2, sSeq, sIf, sNil, sThen, bOf, toB, eBin, eVar, eC, outD, Option.bind_some, Option.map_some, List.getElem?_cons_zero, List.getElem?_cons_succ, Bool.false_eq_true, ↓reduceIte]
theorem pf_step {ρ : Type} {r : ρ} {v n : D} {t : T} {e3 e4 e5 : Option D} (h : t.fine) : bodyP [some v, some n, some t.d, e3, e4, e5] r = some (.nx [some v, some n, some t.d, some .non, some (.int t.size), some (.int t.deep)] r) := by
  have a1 := wp_ok (r := r) t h.1 (by have := h.2.1; omega)
  have a2 := sd_ok (r := r) t (by have := h.2.1; omega)
  have a3 : isnD .non .non = some (.bl false) := rfl
  have a4 := small_ok (r := r) h.2.1 h.2.2
  simp only [bodyP, a1, a2, a3, a4, sSeq, sIf, sAsg, sExpr, sRet, sNil, sThen, bOf, toB, eBin, eVar, eC, aCons, aNil, eIf, eCall, gTp, gC, gNm, gN, outD, Option.bind_some, Option.map_some, List.getElem?_cons_zero, List.getElem?_cons_succ, List.length_cons, List.length_nil, List.set_cons_zero, List.set_cons_succ, Nat.reduceAdd, Nat.reduceLT, Bool.false_eq_true, ↓reduceIte]
theorem pf_ok {ρ : Type} {r : ρ} {p : T × T} (h : pFine p) : g_pair_fault [pD p] r = some (.non, r) := by
  obtain ⟨a, b⟩ := p
  have e : startE N_pair_fault [pD (a, b)] = [some (.tup [a.d, b.d]), none, none, none, none, none] := rfl
  have a1 : isiD "tuple" (.tup [a.d, b.d]) = some (.bl true) := rfl
  have a2 : lenD (.tup [a.d, b.d]) = some (.int 2) := rfl
  have a3 : neD (.int 2) (.int 2) = some (.bl false) := rfl
  unfold g_pair_fault gOf
  rw [e]
  unfold b_pair_fault
  rw [sSeq_nx (e := [some (.tup [a.d, b.d]), none, none, none, none, none]) (r' := r)]
  · have f : sFor (iEnumD (eVar 0)) (gTp (gC (gNm 1) (gC (gNm 2) gN))) bodyP [some (.tup [a.d, b.d]), none, none, none, none, none] r = some (.nx [some (.tup [a.d, b.d]), some (.int 1), some b.d, some .non, some (.int b.size), some (.int b.deep)] r) := by
      show sFold (gTp (gC (gNm 1) (gC (gNm 2) gN))) bodyP [.tup [.int 0, a.d], .tup [.int 1, b.d]] [some (.tup [a.d, b.d]), none, none, none, none, none] r = _
      rw [sFold_nx (e := [some (.tup [a.d, b.d]), some (.int 0), some a.d, none, none, none]) rfl (pf_step h.1), sFold_nx (e := [some (.tup [a.d, b.d]), some (.int 1), some b.d, some .non, some (.int a.size), some (.int a.deep)]) rfl (pf_step h.2)]
      rfl
    unfold bodyP at f
    rw [sSeq_nx f]
    rfl
  · simp only [sIf, bOr, bNot, bOf, toB, eUn, eBin, eVar, eC, sNil, a1, a2, a3, Option.bind_some, Option.map_some, List.getElem?_cons_zero, Bool.not_true, Bool.false_eq_true, ↓reduceIte]
theorem xFold_cons {ρ : Type} {g : GD} {b : SX ρ} {d : D} {ds : List D} {env : DL.Env} {r : ρ} : xFold g b (d :: ds) env r = (g d env).bind fun e => (b e r).bind (xThen (xFold g b ds)) := rfl
def bodyAx {ρ : Type} : SX ρ := (xSeq (xOk (sAsg (eCall 1 g_pair_fault (aCons (eVar 2) aNil)) (gNm 3)))
  (xIf (bOf (eBin isnD (eVar 3) (eC .non))) (xRaise "BadAxioms" "place" (eBin addD (eTup (aCons (eVar 1) aNil)) (eVar 3))) (xOk sNil)))
abbrev g12 : GD := (gTp (gC (gNm 1) (gC (gNm 2) gN)))
theorem ax_step {ρ : Type} {r : ρ} {A n : D} {p : T × T} {e3 : Option D} (h : pFine p) : bodyAx [some A, some n, some (pD p), e3] r = some (.ok (.nx [some A, some n, some (pD p), some .non] r)) := by
  have a1 := pf_ok (r := r) h
  have a3 : isnD .non .non = some (.bl false) := rfl
  simp only [bodyAx, a1, a3, xSeq, xOk, xIf, xThen, sAsg, sNil, bOf, toB, eBin, eVar, eC, eCall, aCons, aNil, gNm, Option.bind_some, Option.map_some, List.getElem?_cons_zero, List.getElem?_cons_succ, List.length_cons, List.length_nil, List.set_cons_zero, List.set_cons_succ, Nat.reduceAdd, Nat.reduceLT, Bool.false_eq_true, ↓reduceIte]
theorem ax_fold {ρ : Type} {r : ρ} {A : D} : ∀ (ps : List (T × T)) (n : Nat) (ds : List D) (e1 e2 e3 : Option D), (∀ p ∈ ps, pFine p) →
    ∃ a b c, xFold g12 bodyAx (enumFrom n (ps.map pD ++ ds)) [some A, e1, e2, e3] r = xFold g12 bodyAx (enumFrom (n + ps.length) ds) [some A, a, b, c] r
  | [], n, ds, e1, e2, e3, _ => ⟨e1, e2, e3, rfl⟩
  | p :: ps, n, ds, e1, e2, e3, h => by
    obtain ⟨a, b, c, e⟩ := ax_fold (r := r) (A := A) ps (n + 1) ds (some (.int n)) (some (pD p)) (some .non) fun q hq => h q (List.mem_cons_of_mem _ hq)
    refine ⟨a, b, c, ?_⟩
    rw [List.map_cons, List.cons_append, enumFrom, xFold_cons]
    show Option.bind (bodyAx [some A, some (.int n), some (pD p), e3] r) _ = _
    rw [ax_step (h p (List.mem_cons_self ..)), Option.bind_some]
    show xFold g12 bodyAx _ _ r = _
    rw [e, List.length_cons, show n + 1 + ps.length = n + (ps.length + 1) from by omega]
theorem enum_app : ∀ (xs ys : List D) (n : Nat), enumFrom n (xs ++ ys) = enumFrom n xs ++ enumFrom (n + xs.length) ys
  | [], ys, n => rfl
  | x :: xs, ys, n => by
    rw [List.cons_append, enumFrom, enum_app xs ys (n + 1), enumFrom, List.length_cons, show n + 1 + xs.length = n + (xs.length + 1) from by omega]
    rfl
theorem ax_head {ρ : Type} {r : ρ} {xs : List D} (h : xs.length ≤ 400) : gx_need_axioms [.tup xs] r = Option.map outX (Option.bind (xFold g12 bodyAx (enumFrom 0 xs) [some (.tup xs), none, none, none] r) (xThen (xOk (sRet (eVar 0))))) := by
  have a1 : isiD "tuple" (.tup xs) = some (.bl true) := rfl
  have a2 : lenD (.tup xs) = some (.int (xs.length : Nat)) := rfl
  have a3 := gt_f (i := xs.length) (j := 400) (by omega)
  have e : startE N_need_axioms [.tup xs] = [some (.tup xs), none, none, none] := rfl
  unfold gx_need_axioms gXOf
  rw [e]
  show Option.map outX (Option.bind (xIf _ _ _ _ r) (xThen (xSeq (xFor (iEnumD (eVar 0)) g12 bodyAx) (xOk (sRet (eVar 0)))))) = _
  simp only [xIf, xOk, bOr, bNot, bOf, toB, eUn, eBin, eVar, eC, sNil, a1, a2, a3, Option.bind_some, Option.map_some, List.getElem?_cons_zero, Bool.not_true, Bool.false_eq_true, ↓reduceIte, xThen]
  rfl
theorem ax_ok {ρ : Type} {r : ρ} {ps : List (T × T)} (h : ∀ p ∈ ps, pFine p) (hl : ps.length ≤ 400) : gx_need_axioms [.tup (ps.map pD)] r = some (.inl (.tup (ps.map pD)), r) := by
  obtain ⟨a, b, c, e⟩ := ax_fold (r := r) (A := .tup (ps.map pD)) ps 0 [] none none none h
  rw [List.append_nil] at e
  rw [ax_head (by rw [List.length_map]; exact hl), e]
  rfl
def badP : D := .tup [.tup [.str "yes"], .tup [.str "and", .tup [.str "no"], .int 7]]
theorem badP_fault {ρ : Type} {r : ρ} : g_pair_fault [badP] r = some (.tup [.int 1, .int 1], r) := by
  kernel_rfl
theorem ax_bad {ρ : Type} {r : ρ} {ps : List (T × T)} (h : ∀ p ∈ ps, pFine p) (hl : ps.length ≤ 300) : gx_need_axioms [.tup (ps.map pD ++ [badP, .non])] r = some (.inr ⟨"BadAxioms", ["place"], [.tup [.int (ps.length : Nat), .int 1, .int 1]]⟩, r) := by
  obtain ⟨a, b, c, e⟩ := ax_fold (r := r) (A := .tup (ps.map pD ++ [badP, .non])) ps 0 [badP, .non] none none none h
  have a1 := badP_fault (r := r)
  have a2 : isnD (.tup [.int 1, .int 1]) .non = some (.bl true) := rfl
  have a3 : addD (.tup [.int (ps.length : Nat)]) (.tup [.int 1, .int 1]) = some (.tup [.int (ps.length : Nat), .int 1, .int 1]) := rfl
  have k : bodyAx [some (.tup (ps.map pD ++ [badP, .non])), some (.int (ps.length : Nat)), some badP, c] r = some (.exc ⟨"BadAxioms", ["place"], [.tup [.int (ps.length : Nat), .int 1, .int 1]]⟩ r) := by
    simp only [bodyAx, a1, a2, a3, xSeq, xOk, xIf, xThen, xRaise, sAsg, sNil, bOf, toB, eBin, eVar, eC, eCall, eTup, aCons, aNil, gNm, outX, Option.bind_some, Option.map_some, List.getElem?_cons_zero, List.getElem?_cons_succ, List.length_cons, List.length_nil, List.set_cons_zero, List.set_cons_succ, Nat.reduceAdd, Nat.reduceLT, ↓reduceIte]
  rw [ax_head (by simp; omega), e, Nat.zero_add, enumFrom, xFold_exc rfl k]
  rfl
end Q
end
section
set_option Elab.async false
set_option linter.all false
set_option maxRecDepth 100000
set_option maxHeartbeats 400000
namespace Q
open PySem PySem.Spec PyProof.Rows L2 DL
/-! signatures -/
structure Sg where
  name : Str
  rows : List (T × T)
  fur : List T
def Sg.d (s : Sg) : D := .tup [.str s.name, .tup (s.rows.map pD), .tup (s.fur.map T.d)]
structure Sg.ok (s : Sg) : Prop where
  nm : Nm s.name
  r1 : 1 ≤ s.rows.length
  r4 : s.rows.length ≤ 4
  f2 : s.fur.length ≤ 2
  rf : ∀ p ∈ s.rows, pFine p
  ff : ∀ t ∈ s.fur, t.fine
theorem bls_true {α : Type} : ∀ xs : List α, bls (xs.map fun _ => D.bl true) = some (xs.map fun _ => true)
  | [] => rfl
  | x :: xs => by
    rw [List.map_cons, List.map_cons, bls, bls_true xs]; rfl
theorem all_true {α : Type} (xs : List α) : allD (.lst (xs.map fun _ => D.bl true)) = some (.bl true) := by
  show Option.map (fun bs => D.bl (bs.all id)) (bls (xs.map fun _ => D.bl true)) = _
  rw [bls_true, Option.map_some]
  simp
theorem clause_ok {ρ : Type} {r : ρ} {p : T × T} (h : pFine p) : g_is_clause [pD p] r = some (.bl true, r) := by
  have a1 := term_ok (r := r) p.1 h.1.1 h.1.2.1 h.1.2.2
  have a2 := term_ok (r := r) p.2 h.2.1 h.2.2.1 h.2.2.2
  have c : eComp (ρ := ρ) (iSeqD (eVar 0)) (gNm 1) bT (eCall 1 g_is_term (aCons (eVar 1) aNil)) [1] [some (pD p), none] r = some (.lst ([p.1, p.2].map fun _ => .bl true), r) := by
    refine eComp_map (f := T.d) (xs := [p.1, p.2]) rfl (by simp [big]) fun x hx => ⟨[some (pD p), some x.d], rfl, ?_⟩
    rcases List.mem_cons.mp hx with z | z
    · subst z; exact a1
    · rw [List.mem_singleton] at z; subst z; exact a2
  have e : startE N_is_clause [pD p] = [some (pD p), none] := rfl
  have i1 : isiD "tuple" (pD p) = some (.bl true) := rfl
  have i2 : lenD (pD p) = some (.int 2) := rfl
  have i3 : eqD (.int 2) (.int 2) = some (.bl true) := rfl
  unfold g_is_clause gOf
  rw [e]
  simp only [b_is_clause, sRet, eIf, bOf, toB, eUn, eBin, eVar, eC, c, i1, i2, i3, all_true, outD, Option.bind_some, Option.map_some, List.getElem?_cons_zero, ↓reduceIte]
theorem le_ff {i : Int} {j : Nat} (h : (i : Int) ≤ j) : leD (.int i) (.int j) = some (.bl true) := by
  show some (D.bl (decide (i ≤ (j : Int)))) = _
  rw [decide_eq_true h]
theorem sign_ok {ρ : Type} {r : ρ} {s : Sg} (h : s.ok) : g_is_signature [s.d] r = some (.bl true, r) := by
  obtain ⟨nm, rows, fur⟩ := s
  have e : startE N_is_signature [Sg.d ⟨nm, rows, fur⟩] = [some (.tup [.str nm, .tup (rows.map pD), .tup (fur.map T.d)]), none, none, none, none] := rfl
  have i1 : isiD "tuple" (.tup [.str nm, .tup (rows.map pD), .tup (fur.map T.d)]) = some (.bl true) := rfl
  have i2 : lenD (.tup [.str nm, .tup (rows.map pD), .tup (fur.map T.d)]) = some (.int 3) := rfl
  have i3 : neD (.int 3) (.int 3) = some (.bl false) := rfl
  have i4 := h.nm ρ r
  have j0 : ixD (.tup [.str nm, .tup (rows.map pD), .tup (fur.map T.d)]) (.int 0) = some (.str nm) := rfl
  have j1 : ixD (.tup [.str nm, .tup (rows.map pD), .tup (fur.map T.d)]) (.int 1) = some (.tup (rows.map pD)) := rfl
  have j2 : ixD (.tup [.str nm, .tup (rows.map pD), .tup (fur.map T.d)]) (.int 2) = some (.tup (fur.map T.d)) := rfl
  have i5 : isiD "tuple" (.tup (rows.map pD)) = some (.bl true) := rfl
  have i6 : isiD "tuple" (.tup (fur.map T.d)) = some (.bl true) := rfl
  have i7 : lenD (.tup (rows.map pD)) = some (.int (rows.length : Nat)) := by show some (D.int ((rows.map pD).length : Nat)) = _; rw [List.length_map]
  have i8 : lenD (.tup (fur.map T.d)) = some (.int (fur.length : Nat)) := by show some (D.int ((fur.map T.d).length : Nat)) = _; rw [List.length_map]
  have k1 := le_ff (i := 1) (j := rows.length) (by have := h.r1; simp only at this; omega)
  have k2 := le_t (i := rows.length) (j := 4) (by have := h.r4; simp only at this; omega)
  have k3 := gt_f (i := fur.length) (j := 2) (by have := h.f2; simp only at this; omega)
  have c1 : eComp (ρ := ρ) (iSeqD (eVar 1)) (gNm 3) bT (eCall 1 g_is_clause (aCons (eVar 3) aNil)) [3] [some (.tup [.str nm, .tup (rows.map pD), .tup (fur.map T.d)]), some (.tup (rows.map pD)), some (.tup (fur.map T.d)), none, none] r = some (.lst (rows.map fun _ => .bl true), r) :=
    eComp_map (f := pD) rfl (by have := h.r4; simp only [big] at *; omega) fun x hx => ⟨[some (.tup [.str nm, .tup (rows.map pD), .tup (fur.map T.d)]), some (.tup (rows.map pD)), some (.tup (fur.map T.d)), some (pD x), none], rfl, clause_ok (h.rf x hx)⟩
  have c2 : eComp (ρ := ρ) (iSeqD (eVar 2)) (gNm 4) bT (eCall 1 g_is_term (aCons (eVar 4) aNil)) [4] [some (.tup [.str nm, .tup (rows.map pD), .tup (fur.map T.d)]), some (.tup (rows.map pD)), some (.tup (fur.map T.d)), none, none] r = some (.lst (fur.map fun _ => .bl true), r) :=
    eComp_map (f := T.d) rfl (by have := h.f2; simp only [big] at *; omega) fun x hx => ⟨[some (.tup [.str nm, .tup (rows.map pD), .tup (fur.map T.d)]), some (.tup (rows.map pD)), some (.tup (fur.map T.d)), none, some x.d], rfl, term_ok x (h.ff x hx).1 (h.ff x hx).2.1 (h.ff x hx).2.2⟩
  unfold g_is_signature gOf
  rw [e]
  simp only [b_is_signature, sSeq, sIf, sPar, setAll, sNil, sThen, sRet, bOr, bNot, bChain, eIf, bOf, toB, eUn, eBin, eVar, eC, eCall, aCons, aNil, c1, c2, i1, i2, i3, i4, i5, i6, i7, i8, j0, j1, j2, k1, k2, k3, all_true, outD, Option.bind_some, Option.map_some, List.getElem?_cons_zero, List.getElem?_cons_succ, List.length_cons, List.length_nil, List.set_cons_zero, List.set_cons_succ, Nat.reduceAdd, Nat.reduceLT, List.all_cons, List.all_nil, decide_true, Bool.and_self, Bool.not_true, Bool.false_eq_true, ↓reduceIte]
/-- the order of names -/
def Lt (l x : Str) : Prop := l.cps.toList < x.cps.toList
instance (l x : Str) : Decidable (Lt l x) := inferInstanceAs (Decidable (l.cps.toList < x.cps.toList))
theorem le_lt {l x : Str} (h : Lt l x) : leD (.str x) (.str l) = some (.bl false) := by
  show some (D.bl (!decide (l.cps.toList < x.cps.toList))) = _
  rw [decide_eq_true (show l.cps.toList < x.cps.toList from h)]; rfl
theorem le_nlt {l x : Str} (h : ¬ Lt l x) : leD (.str x) (.str l) = some (.bl true) := by
  show some (D.bl (!decide (l.cps.toList < x.cps.toList))) = _
  rw [decide_eq_false (show ¬ l.cps.toList < x.cps.toList from h)]; rfl
def mkEx (xs : List D) : Ex := ⟨"BadModule", ["place"], [.tup xs]⟩
theorem ct_ok {ρ : Type} {r : ρ} {s : Sg} {l : Str} {n : D} (h : s.ok) (hl : Lt l s.name) : ct_need_signatures (.str l) n s.d r = some (none, r) := by
  have a1 := sign_ok (r := r) h
  have a2 : ixD s.d (.int 0) = some (.str s.name) := rfl
  have a3 := le_lt hl
  simp only [ct_need_signatures, fIf_need_signatures, xIf, xOk, sNil, bOr, bNot, bOf, toB, eBin, eVar, eC, eCall, aCons, aNil, a1, a2, a3, Option.bind_some, Option.map_some, List.getElem?_cons_zero, List.getElem?_cons_succ, Bool.not_true, Bool.false_eq_true, ↓reduceIte]
theorem ct_bad {ρ : Type} {r : ρ} {s l n : D} (h : g_is_signature [s] r = some (.bl false, r)) : ct_need_signatures l n s r = some (some (mkEx [.int 1, n]), r) := by
  simp only [ct_need_signatures, fIf_need_signatures, xIf, xRaise, eTup, bOr, bNot, bOf, toB, eBin, eVar, eC, eCall, aCons, aNil, h, Option.bind_some, Option.map_some, List.getElem?_cons_zero, List.getElem?_cons_succ, Bool.not_false, ↓reduceIte, mkEx]
theorem ct_low {ρ : Type} {r : ρ} {s : Sg} {l : Str} {n : D} (h : s.ok) (hl : ¬ Lt l s.name) : ct_need_signatures (.str l) n s.d r = some (some (mkEx [.int 1, n]), r) := by
  have a1 := sign_ok (r := r) h
  have a2 : ixD s.d (.int 0) = some (.str s.name) := rfl
  have a3 := le_nlt hl
  simp only [ct_need_signatures, fIf_need_signatures, xIf, xRaise, eTup, bOr, bNot, bOf, toB, eBin, eVar, eC, eCall, aCons, aNil, a1, a2, a3, Option.bind_some, Option.map_some, List.getElem?_cons_zero, List.getElem?_cons_succ, Bool.not_true, Bool.false_eq_true, ↓reduceIte, mkEx]
/-- names in ascending order -/
def Asc (l : Str) : List Sg → Prop
  | [] => True
  | s :: ss => Lt l s.name ∧ Asc s.name ss
def ky (s : Sg) : Key := .inr s.name
theorem lt_tr {a b c : Str} (h : Lt a b) (k : Lt b c) : Lt a c := List.lt_trans h k
theorem lt_irr {a : Str} : ¬ Lt a a := List.lt_irrefl _
def lastOf (l : Str) : List Sg → Str
  | [] => l
  | s :: ss => lastOf s.name ss
theorem put_new {ks : List Key} {xs : List D} {k : Key} {d : D} (h : k ∉ ks) : putD ks xs k d = (ks ++ [k], xs ++ [d]) := by
  unfold putD
  rw [if_neg]
  intro e
  obtain ⟨x, hx, e⟩ := List.any_eq_true.mp e
  exact h (of_decide_eq_true e ▸ hx)
/-- the fold over right signatures, in front of what else there is -/
theorem sg_fold {ρ : Type} {r : ρ} : ∀ (ss : List Sg) (n : Nat) (l : Str) (pre : List Sg) (ds : List D), (∀ s ∈ ss, s.ok) → Asc l ss → (∀ s ∈ pre, s.name = l ∨ Lt s.name l) → pre.length + ss.length ≤ 100 →
    sgFold ct_need_signatures (enumFrom n (ss.map Sg.d ++ ds)) (.str l) r (pre.map ky) (pre.map Sg.d) = sgFold ct_need_signatures (enumFrom (n + ss.length) ds) (.str (lastOf l ss)) r ((pre ++ ss).map ky) ((pre ++ ss).map Sg.d)
  | [], n, l, pre, ds, _, _, _, _ => by rw [List.append_nil]; rfl
  | s :: ss, n, l, pre, ds, h, ha, hp, hb => by
    have hs := h s (List.mem_cons_self ..)
    have hn : ky s ∉ pre.map ky := fun hm => by
      obtain ⟨p, q, e⟩ := List.mem_map.mp hm
      have e1 : p.name = s.name := by simpa [ky] using e
      rcases hp p q with z | z
      · exact lt_irr (e1.symm.trans z ▸ ha.1 : Lt l l)
      · exact lt_irr (lt_tr (e1 ▸ z) ha.1)
    have ih := sg_fold (r := r) ss (n + 1) s.name (pre ++ [s]) ds (fun t ht => h t (List.mem_cons_of_mem _ ht)) ha.2 (fun p q => by
      rcases List.mem_append.mp q with z | z
      · rcases hp p z with y | y
        · exact .inr (y ▸ ha.1)
        · exact .inr (lt_tr y ha.1)
      · rw [List.mem_singleton] at z; subst z; exact .inl rfl) (by simp only [List.length_append, List.length_cons, List.length_nil] at *; omega)
    rw [List.map_cons, List.cons_append, enumFrom]
    have hb2 : (pre.map ky).length < big := by rw [List.length_map]; simp only [big]; omega
    show Option.bind (ct_need_signatures (.str l) (.int n) s.d r) _ = _
    rw [ct_ok hs ha.1, Option.bind_some]
    show (if (pre.map ky).length < big then sgFold ct_need_signatures (enumFrom (n + 1) (ss.map Sg.d ++ ds)) (.str s.name) r (putD (pre.map ky) (pre.map Sg.d) (ky s) s.d).1 (putD (pre.map ky) (pre.map Sg.d) (ky s) s.d).2 else none) = _
    rw [if_pos hb2, put_new hn]
    rw [List.map_append, List.map_append] at ih
    show sgFold _ _ _ _ (pre.map ky ++ [ky s]) (pre.map Sg.d ++ [s.d]) = _
    rw [show pre.map ky ++ [ky s] = pre.map ky ++ [s].map ky from rfl, show pre.map Sg.d ++ [s.d] = pre.map Sg.d ++ [s].map Sg.d from rfl, ih, List.length_cons, show n + 1 + ss.length = n + (ss.length + 1) from by omega, List.append_assoc]
    rfl
theorem sigs_head {ρ : Type} {r : ρ} {xs : List D} (h : xs.length ≤ 12) : gx_need_signatures [.tup xs] r = Option.map outX (sgFold ct_need_signatures (enumFrom 0 xs) (.str "") r [] []) := by
  have a1 : isiD "tuple" (.tup xs) = some (.bl true) := rfl
  have a2 : lenD (.tup xs) = some (.int (xs.length : Nat)) := rfl
  have a3 := gt_f (i := xs.length) (j := 12) (by omega)
  have e : startE N_need_signatures [.tup xs] = [some (.tup xs), none, none, none, none] := rfl
  unfold gx_need_signatures gXOf
  rw [e]
  unfold bx_need_signatures
  rw [xSeq_nx (e := [some (.tup xs), none, none, none, none]) (r' := r)]
  · rfl
  · simp only [xIf, xOk, bOr, bNot, bOf, toB, eUn, eBin, eVar, eC, sNil, a1, a2, a3, Option.bind_some, Option.map_some, List.getElem?_cons_zero, Bool.not_true, Bool.false_eq_true, ↓reduceIte]
/-- the dict of signatures -/
def sgD (ss : List Sg) : D := .dct (ss.map ky) (ss.map Sg.d)
theorem sigs_ok {ρ : Type} {r : ρ} {ss : List Sg} (h : ∀ s ∈ ss, s.ok) (ha : Asc "" ss) (hl : ss.length ≤ 12) : gx_need_signatures [.tup (ss.map Sg.d)] r = some (.inl (sgD ss), r) := by
  have e := sg_fold (r := r) ss 0 "" [] [] h ha (fun _ h => absurd h (by simp)) (by simp; omega)
  rw [List.append_nil] at e
  rw [sigs_head (by rw [List.length_map]; exact hl)]
  exact congrArg (Option.map outX) e
/-- refused at the first wrong one -/
theorem sigs_bad {ρ : Type} {r : ρ} {ss : List Sg} {b : D} {ds : List D} (h : ∀ s ∈ ss, s.ok) (ha : Asc "" ss) (hl : ss.length + ds.length + 1 ≤ 12) (hb : ct_need_signatures (.str (lastOf "" ss)) (.int (ss.length : Nat)) b r = some (some (mkEx [.int 1, .int (ss.length : Nat)]), r)) :
    gx_need_signatures [.tup (ss.map Sg.d ++ b :: ds)] r = some (.inr (mkEx [.int 1, .int (ss.length : Nat)]), r) := by
  have e := sg_fold (r := r) ss 0 "" [] (b :: ds) h ha (fun _ h => absurd h (by simp)) (by simp; omega)
  rw [sigs_head (by simp; omega)]
  have e2 : sgFold ct_need_signatures (enumFrom (0 + ss.length) (b :: ds)) (.str (lastOf "" ss)) r ((([] : List Sg) ++ ss).map ky) ((([] : List Sg) ++ ss).map Sg.d) = some (.exc (mkEx [.int 1, .int (ss.length : Nat)]) r) := by
    rw [Nat.zero_add, enumFrom]
    show Option.bind (ct_need_signatures (.str (lastOf "" ss)) (.int (ss.length : Nat)) b r) _ = _
    rw [hb]
    rfl
  exact (congrArg (Option.map outX) (e.trans e2)).trans rfl
end Q
end
section
set_option Elab.async false
set_option linter.all false
set_option maxRecDepth 100000
set_option maxHeartbeats 400000
namespace Q
open PySem PySem.Spec PyProof.Rows L2 DL
/-! expressions -/
mutual
inductive X where
  | use (x : Str) | ei (a b : X) | le (n : Str) (a b : X) | ca (f : Str) (as : Xs)
inductive Xs where
  | nil | cons (a : X) (as : Xs)
end
mutual
def X.d : X → D
  | .use x => .tup [.str "use", .str x]
  | .ei a b => .tup [.str "either", a.d, b.d]
  | .le n a b => .tup [.str "let", .str n, a.d, b.d]
  | .ca f as => .tup [.str "call", .str f, .tup as.ds]
def Xs.ds : Xs → List D
  | .nil => []
  | .cons a as => a.d :: as.ds
end
def Xs.list : Xs → List X
  | .nil => []
  | .cons a as => a :: as.list
theorem Xs.ds_eq : ∀ as : Xs, as.ds = as.list.map X.d
  | .nil => rfl
  | .cons a as => by rw [Xs.ds, Xs.list, List.map_cons, Xs.ds_eq as]
mutual
def X.deep : X → Nat
  | .use _ => 0
  | .ei a b => max a.deep b.deep + 1
  | .le _ a b => max a.deep b.deep + 1
  | .ca _ as => as.deep + 1
def Xs.deep : Xs → Nat
  | .nil => 0
  | .cons a as => max a.deep as.deep
end
mutual
def X.ok (ss : List Sg) : List Str → X → Prop
  | kn, .use x => Nm x ∧ x ∈ kn
  | kn, .ei a b => a.ok ss kn ∧ b.ok ss kn
  | kn, .le n a b => Nm n ∧ a.ok ss kn ∧ b.ok ss (kn ++ [n])
  | kn, .ca f as => Nm f ∧ (∃ s ∈ ss, s.name = f ∧ as.list.length = 1 + s.fur.length) ∧ as.ok ss kn
def Xs.ok (ss : List Sg) : List Str → Xs → Prop
  | _, .nil => True
  | kn, .cons a as => a.ok ss kn ∧ as.ok ss kn
end
theorem Xs.ok_mem {ss : List Sg} {kn : List Str} : ∀ {as : Xs}, as.ok ss kn → ∀ x ∈ as.list, x.ok ss kn
  | .nil, _, x, hx => absurd hx (by simp [Xs.list])
  | .cons a as, h, x, hx => by
    rcases List.mem_cons.mp hx with z | z
    · exact z ▸ h.1
    · exact Xs.ok_mem h.2 x z
theorem Xs.deep_mem : ∀ {as : Xs}, ∀ x ∈ as.list, x.deep ≤ as.deep
  | .nil, x, hx => absurd hx (by simp [Xs.list])
  | .cons a as, x, hx => by
    rcases List.mem_cons.mp hx with z | z
    · subst z; exact Nat.le_max_left ..
    · exact Nat.le_trans (Xs.deep_mem x z) (Nat.le_max_right ..)
/-! lists of names -/
theorem scs_str : ∀ kn : List Str, scs (kn.map D.str) = some (kn.map V.str)
  | [] => rfl
  | x :: kn => by
    rw [List.map_cons, List.map_cons]
    show Option.bind (some (V.str x)) _ = _
    rw [Option.bind_some, scs_str kn]; rfl
theorem inV_str (x : Str) : ∀ kn : List Str, inV (.str x) (kn.map V.str) = decide (x ∈ kn)
  | [] => rfl
  | y :: kn => by
    have := inV_str x kn
    simp only [inV, List.map_cons, List.any_cons, List.mem_cons] at *
    rw [this]
    show (y == x || decide (x ∈ kn)) = _
    by_cases e : x = y
    · subst e; simp
    · have : (y == x) = false := by simpa using fun h => e h.symm
      rw [this]; simp [e]
theorem in_names (x : Str) (kn : List Str) : inD (.str x) (.lst (kn.map D.str)) = some (.bl (decide (x ∈ kn))) := by
  show Option.map D.bl (Option.bind (some (V.str x)) fun v => (scs (kn.map D.str)).map fun vs => inV v vs) = _
  rw [Option.bind_some, scs_str, Option.map_some, Option.map_some, inV_str]
theorem look_at : ∀ {ss : List Sg} {l : Str}, Asc l ss → ∀ s ∈ ss, look (ss.map ky) (ss.map Sg.d) (.inr s.name) = some s.d
  | [], _, _, s, hs => absurd hs (by simp)
  | t :: ts, l, ha, s, hs => by
    rw [List.map_cons, List.map_cons, look]
    rcases List.mem_cons.mp hs with z | z
    · subst z; rw [if_pos (show ky s = .inr s.name from rfl)]
    · rw [if_neg, look_at ha.2 s z]
      intro e
      have e1 : t.name = s.name := by simpa [ky] using e
      exact asc_ne ha.2 s z e1.symm
where
  asc_ne : ∀ {ss : List Sg} {l : Str}, Asc l ss → ∀ s ∈ ss, s.name ≠ l
    | [], _, _, s, hs => absurd hs (by simp)
    | t :: ts, l, ha, s, hs => by
      rcases List.mem_cons.mp hs with z | z
      · subst z; intro e; exact lt_irr (e ▸ ha.1 : Lt s.name s.name)
      · intro e; exact asc_lt ha s hs e
  asc_lt : ∀ {ss : List Sg} {l : Str}, Asc l ss → ∀ s ∈ ss, s.name ≠ l
    | [], _, _, s, hs => absurd hs (by simp)
    | t :: ts, l, ha, s, hs => by
      rcases List.mem_cons.mp hs with z | z
      · subst z; intro e; exact lt_irr (e ▸ ha.1 : Lt s.name s.name)
      · intro e
        have h2 := asc_gt ha.2 s z
        exact lt_irr (lt_tr (e ▸ h2 : Lt t.name l) ha.1)
  asc_gt : ∀ {ss : List Sg} {l : Str}, Asc l ss → ∀ s ∈ ss, Lt l s.name
    | [], _, _, s, hs => absurd hs (by simp)
    | t :: ts, l, ha, s, hs => by
      rcases List.mem_cons.mp hs with z | z
      · subst z; exact ha.1
      · exact lt_tr ha.1 (asc_gt ha.2 s z)
theorem in_sg {ss : List Sg} {l : Str} (h : Asc l ss) {s : Sg} (hs : s ∈ ss) : inD (.str s.name) (sgD ss) = some (.bl true) := by
  show Option.map D.bl (Option.map (fun k => (look (ss.map ky) (ss.map Sg.d) k).isSome) (some (.inr s.name))) = _
  rw [Option.map_some, look_at h s hs]; rfl
theorem nin_sg {ss : List Sg} {l : Str} (h : Asc l ss) {s : Sg} (hs : s ∈ ss) : ninD (.str s.name) (sgD ss) = some (.bl false) := by
  show Option.map (fun b => D.bl (!b)) (Option.map (fun k => (look (ss.map ky) (ss.map Sg.d) k).isSome) (some (.inr s.name))) = _
  rw [Option.map_some, look_at h s hs]; rfl
theorem look_none : ∀ {ss : List Sg} {x : Str}, (∀ s ∈ ss, s.name ≠ x) → look (ss.map ky) (ss.map Sg.d) (.inr x) = none
  | [], _, _ => rfl
  | t :: ts, x, h => by
    rw [List.map_cons, List.map_cons, look, if_neg, look_none fun s hs => h s (List.mem_cons_of_mem _ hs)]
    intro e
    exact h t (List.mem_cons_self ..) (by simpa [ky] using e)
theorem nin_sgf {ss : List Sg} {x : Str} (h : ∀ s ∈ ss, s.name ≠ x) : ninD (.str x) (sgD ss) = some (.bl true) := by
  show Option.map (fun b => D.bl (!b)) (Option.map (fun k => (look (ss.map ky) (ss.map Sg.d) k).isSome) (some (.inr x))) = _
  rw [Option.map_some, look_none h]; rfl
theorem dix_sg {ss : List Sg} {l : Str} (h : Asc l ss) {s : Sg} (hs : s ∈ ss) : dixD (sgD ss) (.str s.name) = some s.d := look_at h s hs
theorem len_tup (xs : List D) : lenD (.tup xs) = some (.int (xs.length : Nat)) := rfl
theorem isi_tup (xs : List D) : isiD "tuple" (.tup xs) = some (.bl true) := rfl
theorem isi_str (x : Str) : isiD "str" (.str x) = some (.bl true) := rfl
theorem eq_nn {i j : Nat} : eqD (.int (i : Int)) (.int (j : Int)) = some (.bl (decide (i = j))) := by
  show Option.map D.bl (if true = true then some (decide (V.int i = V.int j)) else none) = _
  rw [if_pos rfl, Option.map_some]
  congr 2
  rw [Bool.eq_iff_iff]; simp; omega
theorem ne_nn {i j : Nat} : neD (.int (i : Int)) (.int (j : Int)) = some (.bl (!decide (i = j))) := by
  show Option.map (fun b => D.bl (!b)) (if true = true then some (decide (V.int i = V.int j)) else none) = _
  rw [if_pos rfl, Option.map_some]
  congr 2
  rw [Bool.eq_iff_iff]; simp; omega
theorem ix0 {a : D} {xs : List D} : ixD (.tup (a :: xs)) (.int 0) = some a := by
  show atI _ _ = _
  unfold atI ixN
  rw [if_pos (by decide), if_pos (by simp only [List.length_cons]; omega)]; rfl
theorem ix1 {a b : D} {xs : List D} : ixD (.tup (a :: b :: xs)) (.int 1) = some b := by
  show atI _ _ = _
  unfold atI ixN
  rw [if_pos (by decide), if_pos (by simp only [List.length_cons]; omega)]; rfl
theorem ix2 {a b c : D} {xs : List D} : ixD (.tup (a :: b :: c :: xs)) (.int 2) = some c := by
  show atI _ _ = _
  unfold atI ixN
  rw [if_pos (by decide), if_pos (by simp only [List.length_cons]; omega)]; rfl
theorem ix3 {a b c d : D} {xs : List D} : ixD (.tup (a :: b :: c :: d :: xs)) (.int 3) = some d := by
  show atI _ _ = _
  unfold atI ixN
  rw [if_pos (by decide), if_pos (by simp only [List.length_cons]; omega)]; rfl
theorem eqs_uu : eqD (.str "use") (.str "use") = some (.bl true) := rfl
theorem eqs_ue : eqD (.str "either") (.str "use") = some (.bl false) := rfl
theorem eqs_ul : eqD (.str "let") (.str "use") = some (.bl false) := rfl
theorem eqs_uc : eqD (.str "call") (.str "use") = some (.bl false) := rfl
theorem eqs_ee : eqD (.str "either") (.str "either") = some (.bl true) := rfl
theorem eqs_el : eqD (.str "let") (.str "either") = some (.bl false) := rfl
theorem eqs_ec : eqD (.str "call") (.str "either") = some (.bl false) := rfl
theorem eqs_ll : eqD (.str "let") (.str "let") = some (.bl true) := rfl
theorem eqs_lc : eqD (.str "call") (.str "let") = some (.bl false) := rfl
theorem eqs_cc : neD (.str "call") (.str "call") = some (.bl false) := rfl
theorem eqs_ce : eqD (.str "either") (.str "call") = some (.bl false) := rfl
theorem eqs_cl : eqD (.str "let") (.str "call") = some (.bl false) := rfl
theorem eqs_c2 : eqD (.str "call") (.str "call") = some (.bl true) := rfl
theorem ex_ok {ρ : Type} {ss : List Sg} {l0 : Str} (hA : Asc l0 ss) (hS : ∀ s ∈ ss, s.ok) : ∀ (j : Nat) (x : X) (kn : List Str) (r : ρ), x.deep < j → x.ok ss kn → kn.length + x.deep ≤ 1000 →
    g_is_expression j [x.d, .lst (kn.map D.str), sgD ss] r = some (.bl true, r)
  | 0, _, _, _, h, _, _ => absurd h (Nat.not_lt_zero _)
  | j + 1, .use x, kn, r, _, h, _ => by
    have e : startE N_is_expression [X.d (.use x), .lst (kn.map D.str), sgD ss] = [some (.tup [.str "use", .str x]), some (.lst (kn.map D.str)), some (sgD ss), none] := rfl
    have n1 := h.1 ρ r
    have n2 := in_names x kn
    rw [decide_eq_true h.2] at n2
    have n3 : eqD (.int ((2 : Nat) : Int)) (.int 2) = some (.bl true) := rfl
    have n4 : eqD (.int ((2 : Nat) : Int)) (.int 0) = some (.bl false) := rfl
    unfold g_is_expression gOf
    rw [e]
    simp only [b_is_expression, sSeq, sIf, sNil, sThen, sRet, bOr, bNot, eIf, bOf, toB, eUn, eBin, eVar, eC, eCall, aCons, aNil, n1, n2, n3, n4, isi_tup, isi_str, ix0, ix1, len_tup, eqs_uu, outD, Option.bind_some, Option.map_some, List.getElem?_cons_zero, List.getElem?_cons_succ, List.length_cons, List.length_nil, Nat.reduceAdd, Bool.not_true, Bool.false_eq_true, ↓reduceIte]
  | j + 1, .ei a b, kn, r, hj, h, hb => by
    have e : startE N_is_expression [X.d (.ei a b), .lst (kn.map D.str), sgD ss] = [some (.tup [.str "either", a.d, b.d]), some (.lst (kn.map D.str)), some (sgD ss), none] := rfl
    simp only [X.deep] at hj hb
    have i1 := ex_ok hA hS j a kn r (by omega) h.1 (by omega)
    have i2 := ex_ok hA hS j b kn r (by omega) h.2 (by omega)
    have n3 : eqD (.int ((3 : Nat) : Int)) (.int 3) = some (.bl true) := rfl
    have n4 : eqD (.int ((3 : Nat) : Int)) (.int 0) = some (.bl false) := rfl
    have c : eComp (ρ := ρ) (iSeqD (eSl (eVar 0) (oSome (eC (.int 1))) oNone)) (gNm 3) bT (eCall 3 (g_is_expression j) (aCons (eVar 3) (aCons (eVar 1) (aCons (eVar 2) aNil)))) [3] [some (.tup [.str "either", a.d, b.d]), some (.lst (kn.map D.str)), some (sgD ss), none] r = some (.lst ([a, b].map fun _ => .bl true), r) := by
      refine eComp_map (f := X.d) (xs := [a, b]) rfl (by simp [big]) fun x hx => ⟨[some (.tup [.str "either", a.d, b.d]), some (.lst (kn.map D.str)), some (sgD ss), some x.d], rfl, ?_⟩
      rcases List.mem_cons.mp hx with z | z
      · subst z; exact i1
      · rw [List.mem_singleton] at z; subst z; exact i2
    unfold g_is_expression gOf
    rw [e]
    simp only [b_is_expression, sSeq, sIf, sNil, sThen, sRet, bOr, bNot, eIf, bOf, toB, eUn, eBin, eVar, eC, n3, n4, c, all_true, isi_tup, isi_str, ix0, ix1, len_tup, eqs_ue, eqs_ee, outD, Option.bind_some, Option.map_some, List.getElem?_cons_zero, List.getElem?_cons_succ, List.length_cons, List.length_nil, Nat.reduceAdd, Bool.not_true, Bool.false_eq_true, ↓reduceIte]
  | j + 1, .le n a b, kn, r, hj, h, hb => by
    have e : startE N_is_expression [X.d (.le n a b), .lst (kn.map D.str), sgD ss] = [some (.tup [.str "let", .str n, a.d, b.d]), some (.lst (kn.map D.str)), some (sgD ss), none] := rfl
    simp only [X.deep] at hj hb
    have i1 := ex_ok hA hS j a kn r (by omega) h.2.1 (by omega)
    have i2 := ex_ok hA hS j b (kn ++ [n]) r (by omega) h.2.2 (by simp only [List.length_append, List.length_cons, List.length_nil]; omega)
    have n1 := h.1 ρ r
    have n2 : addD (.lst (kn.map D.str)) (.lst [.str n]) = some (.lst ((kn ++ [n]).map D.str)) := by
      rw [List.map_append]
      exact if_pos (by simp only [List.length_map, List.length_cons, List.length_nil, big]; omega)
    have n3 : neD (.int ((4 : Nat) : Int)) (.int 4) = some (.bl false) := rfl
    have n4 : eqD (.int ((4 : Nat) : Int)) (.int 0) = some (.bl false) := rfl
    unfold g_is_expression gOf
    rw [e]
    simp only [b_is_expression, sSeq, sIf, sNil, sThen, sRet, bOr, bNot, eIf, bOf, toB, eUn, eBin, eVar, eC, eLst, eCall, aCons, aNil, n1, n2, n3, n4, i1, i2, isi_tup, isi_str, ix0, ix1, ix2, ix3, len_tup, eqs_ul, eqs_el, eqs_ll, outD, Option.bind_some, Option.map_some, List.getElem?_cons_zero, List.getElem?_cons_succ, List.length_cons, List.length_nil, Nat.reduceAdd, Bool.not_true, Bool.false_eq_true, ↓reduceIte]
  | j + 1, .ca f as, kn, r, hj, h, hb => by
    have e : startE N_is_expression [X.d (.ca f as), .lst (kn.map D.str), sgD ss] = [some (.tup [.str "call", .str f, .tup (as.list.map X.d)]), some (.lst (kn.map D.str)), some (sgD ss), none] := by
      rw [X.d, Xs.ds_eq]; rfl
    simp only [X.deep] at hj hb
    obtain ⟨n1, ⟨s, hs, hf, hl⟩, ha⟩ := h
    subst hf
    have i1 : ∀ x ∈ as.list, g_is_expression j [x.d, .lst (kn.map D.str), sgD ss] r = some (.bl true, r) := fun x hx => by
      have := Xs.deep_mem x hx
      exact ex_ok hA hS j x kn r (by omega) (Xs.ok_mem ha x hx) (by omega)
    have n1 := n1 ρ r
    have n2 := nin_sg hA hs
    have n5 := dix_sg hA hs
    have n6 : ixD s.d (.int 2) = some (.tup (s.fur.map T.d)) := rfl
    have n3 : neD (.int ((3 : Nat) : Int)) (.int 3) = some (.bl false) := rfl
    have n4 : eqD (.int ((3 : Nat) : Int)) (.int 0) = some (.bl false) := rfl
    have n7 : neD (.int ((as.list.length : Nat) : Int)) (.int (1 + (s.fur.length : Nat))) = some (.bl false) := by
      have := ne_nn (i := as.list.length) (j := 1 + s.fur.length)
      rw [decide_eq_true hl] at this
      simpa using this
    have hf2 := (hS s hs).f2
    have c : eComp (ρ := ρ) (iSeqD (eBin ixD (eVar 0) (eC (.int 2)))) (gNm 3) bT (eCall 3 (g_is_expression j) (aCons (eVar 3) (aCons (eVar 1) (aCons (eVar 2) aNil)))) [3] [some (.tup [.str "call", .str s.name, .tup (as.list.map X.d)]), some (.lst (kn.map D.str)), some (sgD ss), none] r = some (.lst (as.list.map fun _ => .bl true), r) :=
      eComp_map (f := X.d) (xs := as.list) rfl (by simp only [big]; omega) fun x hx => ⟨[some (.tup [.str "call", .str s.name, .tup (as.list.map X.d)]), some (.lst (kn.map D.str)), some (sgD ss), some x.d], rfl, i1 x hx⟩
    unfold g_is_expression gOf
    rw [e]
    simp only [b_is_expression, sSeq, sIf, sNil, sThen, sRet, bOr, bNot, eIf, bOf, toB, eUn, eBin, eVar, eC, eCall, aCons, aNil, n1, n2, n3, n4, n5, n6, n7, c, all_true, isi_tup, isi_str, ix0, ix1, ix2, len_tup, add_ii, List.length_map, eqs_uc, eqs_ec, eqs_lc, eqs_cc, outD, Option.bind_some, Option.map_some, List.getElem?_cons_zero, List.getElem?_cons_succ, List.length_cons, List.length_nil, Nat.reduceAdd, Bool.not_true, Bool.false_eq_true, ↓reduceIte]
end Q
end
section
set_option Elab.async false
set_option linter.all false
set_option maxRecDepth 100000
set_option maxHeartbeats 400000
namespace Q
open PySem PySem.Spec PyProof.Rows L2 DL
/-! nodes -/
def X.inner : X → List X
  | .use _ => []
  | .ei a b => [a, b]
  | .le _ a b => [a, b]
  | .ca _ as => as.list
mutual
def X.nodes : X → List X
  | .use x => [.use x]
  | .ei a b => a.nodes ++ b.nodes ++ [.ei a b]
  | .le n a b => a.nodes ++ b.nodes ++ [.le n a b]
  | .ca f as => as.nodes ++ [.ca f as]
def Xs.nodes : Xs → List X
  | .nil => []
  | .cons a as => a.nodes ++ as.nodes
end
theorem Xs.nodes_eq : ∀ as : Xs, as.nodes = (as.list.map X.nodes).flatten
  | .nil => rfl
  | .cons a as => by rw [Xs.nodes, Xs.list, List.map_cons, List.flatten_cons, Xs.nodes_eq as]
theorem X.nodes_eq : ∀ x : X, x.nodes = (x.inner.map X.nodes).flatten ++ [x]
  | .use x => rfl
  | .ei a b => by simp [X.nodes, X.inner]
  | .le n a b => by simp [X.nodes, X.inner]
  | .ca f as => by rw [X.nodes, Xs.nodes_eq]; rfl
theorem inner_ok {ρ : Type} {r : ρ} : ∀ x : X, g_inner_ones [x.d] r = some (.tup (x.inner.map X.d), r)
  | .use x => rfl
  | .ei a b => rfl
  | .le n a b => rfl
  | .ca f as => by
    show g_inner_ones [.tup [.str "call", .str f, .tup as.ds]] r = some (.tup (as.list.map X.d), r)
    rw [← Xs.ds_eq]
    rfl
def itN (q : X × Bool) : D := .tup [q.1.d, .bl q.2]
def outQ (q : X × Bool) : List X := if q.2 = true then [q.1] else q.1.nodes
def outN (W : List (X × Bool)) : List X := (W.reverse.map outQ).flatten
def costN (W : List (X × Bool)) : Nat := (W.map fun q => if q.2 = true then 1 else 2 * q.1.nodes.length).sum
def kidN (x : X) : List (X × Bool) := x.inner.reverse.map fun y => (y, false)
theorem outN_snoc (W : List (X × Bool)) (q : X × Bool) : outN (W ++ [q]) = outQ q ++ outN W := by
  simp [outN]
theorem outN_app (W V : List (X × Bool)) : outN (W ++ V) = outN V ++ outN W := by
  simp [outN]
theorem costN_app (W V : List (X × Bool)) : costN (W ++ V) = costN W + costN V := by
  simp [costN]
theorem out_kid (x : X) : outN (kidN x) = (x.inner.map X.nodes).flatten := by
  simp only [outN, kidN, ← List.map_reverse, List.reverse_reverse, List.map_map]
  rfl
theorem sum_len : ∀ xs : List X, (xs.map fun y => 2 * y.nodes.length).sum = 2 * ((xs.map X.nodes).flatten).length
  | [] => rfl
  | x :: xs => by rw [List.map_cons, List.sum_cons, sum_len xs, List.map_cons, List.flatten_cons, List.length_append]; omega
theorem cost_kid (x : X) : costN (kidN x) + 2 = 2 * x.nodes.length := by
  have h := sum_len x.inner.reverse
  have e : costN (kidN x) = (x.inner.reverse.map fun y => 2 * y.nodes.length).sum := by
    simp only [costN, kidN, List.map_map]; rfl
  rw [e, h, X.nodes_eq x, List.length_append, List.map_reverse]
  simp only [List.length_flatten, List.map_reverse, List.length_cons, List.length_nil, List.sum_reverse]
  omega
theorem nodes_pos (x : X) : 0 < x.nodes.length := by
  rw [X.nodes_eq]; simp
theorem len_cost : ∀ W : List (X × Bool), W.length ≤ costN W
  | [] => Nat.le_refl _
  | q :: W => by
    have h := len_cost W
    have hp := nodes_pos q.1
    simp only [costN, List.map_cons, List.sum_cons, List.length_cons] at *
    split <;> omega
def bodyN {ρ : Type} : SS ρ := (sSeq (sPop 2 (gTp (gC (gNm 3) (gC (gNm 4) gN))))
  (sIf (bOf (eVar 4)) (sApp 1 (eVar 3)) (sSeq (sApp 2 (eTup (aCons (eVar 3) (aCons (eC (.bl true)) aNil))))
  (sExt 2 (eComp (iSeqD (eUn revD (eCall 1 g_inner_ones (aCons (eVar 3) aNil)))) (gNm 5) bT (eTup (aCons (eVar 5) (aCons (eC (.bl false)) aNil))) [5])))))
theorem sApp_ok {ρ : Type} {r r' : ρ} {i : Nat} {f : SE ρ} {env : DL.Env} {xs : List D} {x : D} (h1 : lstAt env i = some xs) (h2 : f env r = some (x, r')) (h3 : xs.length < big) :
    sApp i f env r = some (.nx (env.set i (some (.lst (xs ++ [x])))) r') := by
  unfold sApp
  rw [h1, Option.bind_some, h2, Option.bind_some, Option.bind_some, if_pos h3]
theorem nd_true {ρ : Type} {r : ρ} {v : D} {F W : List D} {x : X} {e3 e4 e5 : Option D} (hF : F.length < big) :
    bodyN [some v, some (.lst F), some (.lst (W ++ [itN (x, true)])), e3, e4, e5] r = some (.nx [some v, some (.lst (F ++ [x.d])), some (.lst W), some x.d, some (.bl true), e5] r) := by
  unfold bodyN
  rw [sSeq_nx (e := [some v, some (.lst F), some (.lst W), some x.d, some (.bl true), e5]) (r' := r)]
  · show sApp 1 (eVar 3) [some v, some (.lst F), some (.lst W), some x.d, some (.bl true), e5] r = _
    rw [sApp_ok (xs := F) (x := x.d) (r' := r) rfl rfl hF]; rfl
  · rw [sPop_ok (W := W) (x := itN (x, true)) rfl]; rfl
theorem nd_false {ρ : Type} {r : ρ} {v : D} {F W : List D} {x : X} {e3 e4 e5 : Option D} (hW : W.length + 1 + x.inner.length ≤ big) :
    bodyN [some v, some (.lst F), some (.lst (W ++ [itN (x, false)])), e3, e4, e5] r = some (.nx [some v, some (.lst F), some (.lst (W ++ itN (x, true) :: (kidN x).map itN)), some x.d, some (.bl false), e5] r) := by
  unfold bodyN
  rw [sSeq_nx (e := [some v, some (.lst F), some (.lst W), some x.d, some (.bl false), e5]) (r' := r)]
  · show sSeq (sApp 2 (eTup (aCons (eVar 3) (aCons (eC (.bl true)) aNil)))) (sExt 2 (eComp (iSeqD (eUn revD (eCall 1 g_inner_ones (aCons (eVar 3) aNil)))) (gNm 5) bT (eTup (aCons (eVar 5) (aCons (eC (.bl false)) aNil))) [5])) [some v, some (.lst F), some (.lst W), some x.d, some (.bl false), e5] r = _
    rw [sSeq_nx (e := [some v, some (.lst F), some (.lst (W ++ [itN (x, true)])), some x.d, some (.bl false), e5]) (r' := r)]
    · have ha : (iSeqD (ρ := ρ) (eUn revD (eCall 1 g_inner_ones (aCons (eVar 3) aNil)))) [some v, some (.lst F), some (.lst (W ++ [itN (x, true)])), some x.d, some (.bl false), e5] r = some (x.inner.reverse.map X.d, r) := by
        simp only [iSeqD, eUn, eCall, aCons, aNil, eVar, inner_ok (r := r) x, revD, items, List.getElem?_cons_zero, List.getElem?_cons_succ, Option.bind_some, Option.map_some, List.map_reverse]
      rw [sExt_ok (xs := W ++ [itN (x, true)]) (ys := (kidN x).map itN) (r' := r) rfl ?_ (by simp only [List.length_append, List.length_cons, List.length_nil, List.length_map, kidN, List.length_reverse]; omega)]
      · rw [List.append_assoc]; rfl
      · rw [eComp_map (f := X.d) (h := fun y => itN (y, false)) ha (by simp only [List.length_reverse]; omega) fun y _ => ⟨[some v, some (.lst F), some (.lst (W ++ [itN (x, true)])), some x.d, some (.bl false), some y.d], rfl, rfl⟩]
        unfold kidN
        rw [List.map_map]; rfl
    · rw [sApp_ok (xs := W) (x := itN (x, true)) (r' := r) rfl rfl (by omega)]; rfl
  · rw [sPop_ok (W := W) (x := itN (x, false)) rfl]; rfl
theorem nd_loop {ρ : Type} {r : ρ} {v : D} : ∀ (n : Nat) (W : List (X × Bool)) (F : List D) (e3 e4 e5 : Option D), costN W < n → F.length + 2 * costN W < big - 2 →
    ∃ a b c, sWhile (bOf (eBin neD (eVar 2) (eLst aNil))) bodyN n [some v, some (.lst F), some (.lst (W.map itN)), e3, e4, e5] r = some (.nx [some v, some (.lst (F ++ (outN W).map X.d)), some (.lst []), a, b, c] r)
  | 0, _, _, _, _, _, h, _ => absurd h (Nat.not_lt_zero _)
  | n + 1, W, F, e3, e4, e5, hn, hb => by
    rcases List.eq_nil_or_concat W with h | ⟨P, q, h⟩
    · subst h
      refine ⟨e3, e4, e5, ?_⟩
      rw [sWhile_stop (neNil_false rfl)]
      simp [outN]
    · rw [List.concat_eq_append] at h
      subst h
      obtain ⟨x, f⟩ := q
      have hl := len_cost P
      have hpos := nodes_pos x
      cases f with
      | true =>
        rw [costN_app, show costN [(x, true)] = 1 from rfl] at hn hb
        obtain ⟨a, b, c, e⟩ := nd_loop (r := r) (v := v) n P (F ++ [x.d]) (some x.d) (some (.bl true)) e5 (by omega) (by simp only [List.length_append, List.length_cons, List.length_nil]; omega)
        refine ⟨a, b, c, ?_⟩
        rw [sWhile_go (neNil_snoc (x := itN (x, true)) (xs := P.map itN) (by simp)), List.map_append]
        show Option.bind (bodyN [some v, some (.lst F), some (.lst (P.map itN ++ [itN (x, true)])), e3, e4, e5] r) _ = _
        rw [nd_true (by omega), Option.bind_some]
        show sWhile _ _ _ _ _ = _
        rw [e, outN_snoc, List.map_append, List.append_assoc]
        rfl
      | false =>
        have hk := cost_kid x
        rw [costN_app, show costN [(x, false)] = 2 * x.nodes.length from by simp [costN]] at hn hb
        have hc : costN (P ++ (x, true) :: kidN x) = costN P + (1 + costN (kidN x)) := by
          rw [costN_app]; simp [costN]
        have hil : x.inner.length ≤ costN (kidN x) := by
          have := len_cost (kidN x)
          simpa [kidN] using this
        obtain ⟨a, b, c, e⟩ := nd_loop (r := r) (v := v) n (P ++ (x, true) :: kidN x) F (some x.d) (some (.bl false)) e5 (by rw [hc]; omega) (by rw [hc]; omega)
        refine ⟨a, b, c, ?_⟩
        rw [sWhile_go (neNil_snoc (x := itN (x, false)) (xs := P.map itN) (by simp)), List.map_append]
        show Option.bind (bodyN [some v, some (.lst F), some (.lst (P.map itN ++ [itN (x, false)])), e3, e4, e5] r) _ = _
        rw [nd_false (by rw [List.length_map]; omega), Option.bind_some]
        show sWhile _ _ _ _ _ = _
        rw [List.map_append, List.map_cons] at e
        rw [e, outN_snoc, show outQ (x, false) = x.nodes from rfl, X.nodes_eq x, ← out_kid, show P ++ (x, true) :: kidN x = (P ++ [(x, true)]) ++ kidN x from by simp, outN_app, outN_snoc]
        simp only [List.append_assoc]
        rfl
theorem nodes_ok {ρ : Type} {r : ρ} (x : X) (h : x.nodes.length ≤ 20000) : g_nodes_of [x.d] r = some (.lst (x.nodes.map X.d), r) := by
  have hc : costN [(x, false)] = 2 * x.nodes.length := by simp [costN]
  obtain ⟨a, b, c, e⟩ := nd_loop (r := r) (v := x.d) fuelW [(x, false)] [] none none none (by rw [hc]; simp only [fuelW]; omega) (by rw [hc]; simp only [big, List.length_nil]; omega)
  have e0 : g_nodes_of [x.d] r = Option.map outD (Option.bind (sWhile (bOf (eBin neD (eVar 2) (eLst aNil))) bodyN fuelW [some x.d, some (.lst []), some (.lst ([(x, false)].map itN)), none, none, none] r) (sThen (sRet (eVar 1)))) := rfl
  rw [e0, e, show outN [(x, false)] = x.nodes from by simp [outN, outQ]]
  rfl
/-! the law's nodes -/
theorem add_ll {xs ys : List D} (h : xs.length + ys.length ≤ big) : addD (.lst xs) (.lst ys) = some (.lst (xs ++ ys)) := if_pos h
theorem ln_fold {ρ : Type} {r : ρ} {v i2 : D} {g : List D → ρ → Option (D × ρ)} : ∀ (xs : List X) (F : List D) (e3 : Option D), (∀ x ∈ xs, g [x.d] r = some (.lst (x.nodes.map X.d), r)) → F.length + ((xs.map X.nodes).flatten).length ≤ big →
    ∃ a, sFold (gNm 3) (sExt 1 (eCall 1 g (aCons (eVar 3) aNil))) (xs.map X.d) [some v, some (.lst F), some i2, e3] r = some (.nx [some v, some (.lst (F ++ ((xs.map X.nodes).flatten).map X.d)), some i2, a] r)
  | [], F, e3, _, _ => ⟨e3, by simp [sFold]⟩
  | x :: xs, F, e3, h, hb => by
    rw [List.map_cons, List.flatten_cons, List.length_append] at hb
    obtain ⟨a, e⟩ := ln_fold (r := r) (v := v) (i2 := i2) (g := g) xs (F ++ x.nodes.map X.d) (some x.d) (fun y hy => h y (List.mem_cons_of_mem _ hy)) (by simp only [List.length_append, List.length_map]; omega)
    refine ⟨a, ?_⟩
    have k : sExt 1 (eCall 1 g (aCons (eVar 3) aNil)) [some v, some (.lst F), some i2, some x.d] r = some (.nx [some v, some (.lst (F ++ x.nodes.map X.d)), some i2, some x.d] r) := by
      rw [sExt_ok (xs := F) (ys := x.nodes.map X.d) (r' := r) rfl (h x (List.mem_cons_self ..)) (by rw [List.length_map]; omega)]; rfl
    rw [List.map_cons, sFold_nx (e := [some v, some (.lst F), some i2, some x.d]) rfl k, e]
    simp
theorem lnodes_step {ρ : Type} {r : ρ} {j : Nat} {x : X} (hd : (eBin (ρ := ρ) dixD (eDisp [((eC (.str "use")), (eTup aNil)), ((eC (.str "call")), (eIf (bOf (eBin gtD (eUn lenD (eVar 0)) (eC (.int 2)))) (eBin ixD (eVar 0) (eC (.int 2))) (eTup aNil))), ((eC (.str "either")), (eSl (eVar 0) (oSome (eC (.int 1))) oNone)), ((eC (.str "let")), (eSl (eVar 0) (oSome (eC (.int 2))) oNone))]) (eBin ixD (eVar 0) (eC (.int 0)))) [some x.d, some (.lst []), none, none] r = some (.tup (x.inner.map X.d), r))
    (h : ∀ y ∈ x.inner, g_law_nodes j [y.d] r = some (.lst (y.nodes.map X.d), r)) (hb : x.nodes.length ≤ 20000) : g_law_nodes (j + 1) [x.d] r = some (.lst (x.nodes.map X.d), r) := by
  have e : startE N_law_nodes [x.d] = [some x.d, none, none, none] := rfl
  have hn := X.nodes_eq x
  have hl : x.nodes.length = ((x.inner.map X.nodes).flatten).length + 1 := by rw [hn]; simp
  obtain ⟨a, f⟩ := ln_fold (r := r) (v := x.d) (i2 := .tup (x.inner.map X.d)) (g := g_law_nodes j) x.inner [] none h (by simp only [List.length_nil, big]; omega)
  unfold g_law_nodes gOf
  rw [e]
  unfold b_law_nodes
  rw [sSeq_nx (e := [some x.d, some (.lst []), none, none]) (r' := r) rfl, sSeq_nx (e := [some x.d, some (.lst []), some (.tup (x.inner.map X.d)), none]) (r' := r)]
  · have f2 : sFor (iSeqD (eVar 2)) (gNm 3) (sExt 1 (eCall 1 (g_law_nodes j) (aCons (eVar 3) aNil))) [some x.d, some (.lst []), some (.tup (x.inner.map X.d)), none] r = _ := f
    rw [sSeq_nx f2]
    have k : (eBin (ρ := ρ) addD (eVar 1) (eLst (aCons (eVar 0) aNil))) [some x.d, some (.lst ([] ++ ((x.inner.map X.nodes).flatten).map X.d)), some (.tup (x.inner.map X.d)), a] r = some (.lst (x.nodes.map X.d), r) := by
      have := add_ll (xs := ((x.inner.map X.nodes).flatten).map X.d) (ys := [x.d]) (by simp only [List.length_map, List.length_cons, List.length_nil, big]; omega)
      simp only [eBin, eVar, eLst, aCons, aNil, List.nil_append, List.getElem?_cons_zero, List.getElem?_cons_succ, Option.bind_some, Option.map_some, this]
      rw [hn, List.map_append]; rfl
    unfold sRet
    rw [k]
    rfl
  · unfold sAsg
    rw [hd]
    rfl
theorem lnodes_ok {ρ : Type} {r : ρ} : ∀ (j : Nat) (x : X), x.deep < j → x.nodes.length ≤ 20000 → g_law_nodes j [x.d] r = some (.lst (x.nodes.map X.d), r)
  | 0, _, h, _ => absurd h (Nat.not_lt_zero _)
  | j + 1, x, hj, hb => by
    have hl : x.nodes.length = ((x.inner.map X.nodes).flatten).length + 1 := by rw [X.nodes_eq x]; simp
    have hi : ∀ y ∈ x.inner, y.deep < x.deep ∧ y.nodes.length ≤ x.nodes.length := fun y hy => by
      refine ⟨?_, ?_⟩
      · cases x with
        | use _ => exact absurd hy (by simp [X.inner])
        | ei a b =>
          simp only [X.inner, List.mem_cons, List.not_mem_nil, or_false] at hy
          simp only [X.deep]
          rcases hy with z | z <;> subst z <;> omega
        | le n a b =>
          simp only [X.inner, List.mem_cons, List.not_mem_nil, or_false] at hy
          simp only [X.deep]
          rcases hy with z | z <;> subst z <;> omega
        | ca f as =>
          have := Xs.deep_mem y hy
          simp only [X.deep]; omega
      · have : y.nodes.length ≤ ((x.inner.map X.nodes).flatten).length := by
          have hs : y.nodes.Sublist ((x.inner.map X.nodes).flatten) := List.sublist_flatten_of_mem (List.mem_map_of_mem hy)
          exact hs.length_le
        omega
    refine lnodes_step ?_ (fun y hy => lnodes_ok j y (by have := (hi y hy).1; omega) (by have := (hi y hy).2; omega)) hb
    cases x with
    | use x => rfl
    | ei a b => rfl
    | le n a b => rfl
    | ca f as =>
      show _ = some (D.tup (as.list.map X.d), r)
      rw [← Xs.ds_eq]
      rfl
end Q
end
section
set_option Elab.async false
set_option linter.all false
set_option maxRecDepth 100000
set_option maxHeartbeats 400000
namespace Q
open PySem PySem.Spec PyProof.Rows L2 DL
/-! definitions and modules -/
structure Df where
  name : Str
  ins : List Str
  body : X
def Df.d (f : Df) : D := .tup [.str f.name, .tup (f.ins.map D.str), f.body.d]
structure Df.ok (ss : List Sg) (f : Df) : Prop where
  nm : Nm f.name
  sg : ∃ s ∈ ss, s.name = f.name ∧ s.rows.length = 1 ∧ f.ins.length = 1 + s.fur.length
  im : ∀ i ∈ f.ins, Nm i
  nd : f.ins.Nodup
  bd : f.body.ok ss f.ins
  nb : f.body.nodes.length ≤ 60
  dp : f.body.deep ≤ 35
theorem dFold_str {ρ : Type} {r : ρ} {env : DL.Env} {i : Nat} (hi : i < env.length) : ∀ (ins : List Str) (ks : List Key) (xs : List D), ins.Nodup → (∀ x ∈ ins, (.inr x : Key) ∉ ks) → ks.length + ins.length ≤ 1000 →
    dFold (gNm i) bT (eVar i) (eC (.bl true)) env (ins.map D.str) r ks xs = some (ks ++ ins.map .inr, xs ++ ins.map (fun _ => .bl true), r)
  | [], ks, xs, _, _, _ => by simp [dFold]
  | x :: ins, ks, xs, hn, hk, hb => by
    have hx := hk x (List.mem_cons_self ..)
    have h2 := List.nodup_cons.mp hn
    have ih := dFold_str (r := r) hi ins (ks ++ [.inr x]) (xs ++ [.bl true]) h2.2 (fun y hy => by
      rw [List.mem_append, not_or]
      refine ⟨hk y (List.mem_cons_of_mem _ hy), fun e => ?_⟩
      rw [List.mem_singleton] at e
      have : y = x := by simpa using e
      exact h2.1 (this ▸ hy)) (by simp only [List.length_append, List.length_cons, List.length_nil] at *; omega)
    have g : gNm i (.str x) env = some (env.set i (some (.str x))) := if_pos hi
    have v : eVar (ρ := ρ) i (env.set i (some (.str x))) r = some (.str x, r) := by
      unfold eVar; rw [List.getElem?_set_self hi]
    rw [List.map_cons, dFold, g, Option.bind_some]
    show Option.bind (eVar i (env.set i (some (.str x))) r) _ = _
    rw [v, Option.bind_some]
    show (if ks.length < big then dFold _ _ _ _ env (ins.map D.str) r (putD ks xs (.inr x) (.bl true)).1 (putD ks xs (.inr x) (.bl true)).2 else none) = _
    rw [if_pos (by simp only [big, List.length_cons] at *; omega), put_new hx, ih]
    simp
theorem def_ok {ρ : Type} {ss : List Sg} {l0 : Str} (hA : Asc l0 ss) (hS : ∀ s ∈ ss, s.ok) {f : Df} (h : f.ok ss) (r : ρ) : g_is_definition [f.d, sgD ss] r = some (.bl true, r) := by
  obtain ⟨nm, ins, body⟩ := f
  obtain ⟨s, hs, e1, e2, e3⟩ := h.sg
  simp only at e1 e2 e3
  subst e1
  have hf2 := (hS s hs).f2
  have e : startE N_is_definition [Df.d ⟨s.name, ins, body⟩, sgD ss] = [some (.tup [.str s.name, .tup (ins.map D.str), body.d]), some (sgD ss), none, none, none] := rfl
  have n1 := h.nm ρ r
  have n2 := nin_sg hA hs
  have n3 := dix_sg hA hs
  have n4 : ixD s.d (.int 1) = some (.tup (s.rows.map pD)) := rfl
  have n5 : ixD s.d (.int 2) = some (.tup (s.fur.map T.d)) := rfl
  have n6 : neD (.int ((3 : Nat) : Int)) (.int 3) = some (.bl false) := rfl
  have n7 : neD (.int ((s.rows.length : Nat) : Int)) (.int 1) = some (.bl false) := by rw [e2]; rfl
  have n8 : neD (.int ((ins.length : Nat) : Int)) (.int (1 + (s.fur.length : Nat))) = some (.bl false) := by
    have := ne_nn (i := ins.length) (j := 1 + s.fur.length)
    rw [decide_eq_true e3] at this
    simpa using this
  have n9 : neD (.int ((ins.length : Nat) : Int)) (.int ((ins.length : Nat) : Int)) = some (.bl false) := by
    have := ne_nn (i := ins.length) (j := ins.length)
    rw [decide_eq_true rfl] at this
    exact this
  have c1 : eComp (ρ := ρ) (iSeqD (eVar 3)) (gNm 4) bT (eCall 1 g_is_name (aCons (eVar 4) aNil)) [4] [some (.tup [.str s.name, .tup (ins.map D.str), body.d]), some (sgD ss), some s.d, some (.tup (ins.map D.str)), none] r = some (.lst (ins.map fun _ => .bl true), r) :=
    eComp_map (f := D.str) rfl (by simp only [big]; omega) fun x hx => ⟨[some (.tup [.str s.name, .tup (ins.map D.str), body.d]), some (sgD ss), some s.d, some (.tup (ins.map D.str)), some (.str x)], rfl, h.im x hx ρ r⟩
  have c2 : eDComp (ρ := ρ) (iSeqD (eVar 3)) (gNm 4) bT (eVar 4) (eC (.bl true)) [4] [some (.tup [.str s.name, .tup (ins.map D.str), body.d]), some (sgD ss), some s.d, some (.tup (ins.map D.str)), none] r = some (.dct (ins.map .inr) (ins.map fun _ => .bl true), r) := by
    have := dFold_str (r := r) (env := [some (.tup [.str s.name, .tup (ins.map D.str), body.d]), some (sgD ss), some s.d, some (.tup (ins.map D.str)), none]) (i := 4) (by simp) ins [] [] h.nd (fun _ _ => by simp) (by simp only [List.length_nil]; omega)
    unfold eDComp
    show Option.map _ (dFold (gNm 4) bT (eVar 4) (eC (.bl true)) [some (.tup [.str s.name, .tup (ins.map D.str), body.d]), some (sgD ss), some s.d, some (.tup (ins.map D.str)), none] (ins.map D.str) r [] []) = _
    rw [this]
    rfl
  have c3 : lenD (.dct (ins.map .inr) (ins.map fun _ => .bl true)) = some (.int (ins.length : Nat)) := by
    show some (D.int ((ins.map fun _ => D.bl true).length : Nat)) = _
    rw [List.length_map]
  have c4 := ex_ok hA hS fuel_is_expression body ins r (by have := h.dp; simp only [fuel_is_expression] at *; omega) h.bd (by have := h.dp; simp only at this; omega)
  have c5 := nodes_ok (r := r) body (by have := h.nb; simp only at this; omega)
  have c6 : lenD (.lst (body.nodes.map X.d)) = some (.int (body.nodes.length : Nat)) := by
    show some (D.int ((body.nodes.map X.d).length : Nat)) = _
    rw [List.length_map]
  have c7 := le_t (i := body.nodes.length) (j := 60) (by have := h.nb; simp only at this; omega)
  have c8 : listD (.tup (ins.map D.str)) = some (.lst (ins.map D.str)) := rfl
  unfold g_is_definition gOf
  rw [e]
  simp only [b_is_definition, sSeq, sIf, sNil, sThen, sRet, sPar, setAll, bOr, bNot, eIf, bOf, toB, eUn, eBin, eVar, eC, eCall, aCons, aNil, n1, n2, n3, n4, n5, n6, n7, n8, n9, c1, c2, c3, c4, c5, c6, c7, c8, all_true, isi_tup, ix0, ix1, ix2, len_tup, add_ii, List.length_map, outD, Option.bind_some, Option.map_some, List.getElem?_cons_zero, List.getElem?_cons_succ, List.length_cons, List.length_nil, List.set_cons_zero, List.set_cons_succ, Nat.reduceAdd, Nat.reduceLT, List.all_cons, List.all_nil, decide_true, Bool.and_self, Bool.not_true, Bool.false_eq_true, ↓reduceIte]
/-! the fold over definitions -/
def AscD (l : Str) : List Df → Prop
  | [] => True
  | s :: ss => Lt l s.name ∧ AscD s.name ss
def lastD (l : Str) : List Df → Str
  | [] => l
  | s :: ss => lastD s.name ss
abbrev g56 : GD := (gTp (gC (gNm 5) (gC (gNm 6) gN)))
def bodyM {ρ : Type} : SX ρ := (xSeq (xIf (bOr (bNot (bOf (eCall 2 g_is_definition (aCons (eVar 6) (aCons (eVar 2) aNil))))) (bOf (eBin leD (eBin ixD (eVar 6) (eC (.int 0))) (eVar 4)))) (xRaise "BadModule" "place" (eTup (aCons (eC (.int 2)) (aCons (eVar 5) aNil)))) (xOk sNil))
  (xOk (sAsg (eBin ixD (eVar 6) (eC (.int 0))) (gNm 4))))
theorem df_step {ρ : Type} {ss : List Sg} {l0 : Str} (hA : Asc l0 ss) (hS : ∀ s ∈ ss, s.ok) {f : Df} (h : f.ok ss) {l : Str} (hl : Lt l f.name) {r : ρ} {a b : Option D} {c n : D} :
    bodyM [a, b, some (sgD ss), some c, some (.str l), some n, some f.d] r = some (.ok (.nx [a, b, some (sgD ss), some c, some (.str f.name), some n, some f.d] r)) := by
  have a1 := def_ok hA hS h r
  have a2 : ixD f.d (.int 0) = some (.str f.name) := rfl
  have a3 := le_lt hl
  simp only [bodyM, xSeq, xThen, xIf, xOk, sAsg, gNm, sNil, bOr, bNot, bOf, toB, eBin, eVar, eC, eCall, aCons, aNil, a1, a2, a3, Option.bind_some, Option.map_some, List.getElem?_cons_zero, List.getElem?_cons_succ, List.length_cons, List.length_nil, List.set_cons_zero, List.set_cons_succ, Nat.reduceAdd, Nat.reduceLT, Bool.not_true, Bool.false_eq_true, ↓reduceIte]
theorem df_bad {ρ : Type} {sg x l n : D} {r : ρ} {a b c : Option D} (h : g_is_definition [x, sg] r = some (.bl false, r)) :
    bodyM [a, b, some sg, c, some l, some n, some x] r = some (.exc (mkEx [.int 2, n]) r) := by
  simp only [bodyM, xSeq, xThen, xIf, xRaise, bOr, bNot, bOf, toB, eBin, eVar, eC, eCall, eTup, aCons, aNil, h, mkEx, Option.bind_some, Option.map_some, List.getElem?_cons_zero, List.getElem?_cons_succ, Bool.not_false, ↓reduceIte]
theorem df_low {ρ : Type} {ss : List Sg} {l0 : Str} (hA : Asc l0 ss) (hS : ∀ s ∈ ss, s.ok) {f : Df} (h : f.ok ss) {l : Str} (hl : ¬ Lt l f.name) {r : ρ} {a b : Option D} {c n : D} :
    bodyM [a, b, some (sgD ss), some c, some (.str l), some n, some f.d] r = some (.exc (mkEx [.int 2, n]) r) := by
  have a1 := def_ok hA hS h r
  have a2 : ixD f.d (.int 0) = some (.str f.name) := rfl
  have a3 := le_nlt hl
  simp only [bodyM, xSeq, xThen, xIf, xRaise, bOr, bNot, bOf, toB, eBin, eVar, eC, eCall, eTup, aCons, aNil, a1, a2, a3, mkEx, Option.bind_some, Option.map_some, List.getElem?_cons_zero, List.getElem?_cons_succ, Bool.not_true, Bool.false_eq_true, ↓reduceIte]
theorem df_fold {ρ : Type} {ss : List Sg} {l0 : Str} (hA : Asc l0 ss) (hS : ∀ s ∈ ss, s.ok) {r : ρ} {a b : Option D} {c : D} : ∀ (fs : List Df) (n : Nat) (l : Str) (ds : List D) (e5 e6 : Option D), (∀ f ∈ fs, f.ok ss) → AscD l fs →
    ∃ x y, xFold g56 bodyM (enumFrom n (fs.map Df.d ++ ds)) [a, b, some (sgD ss), some c, some (.str l), e5, e6] r = xFold g56 bodyM (enumFrom (n + fs.length) ds) [a, b, some (sgD ss), some c, some (.str (lastD l fs)), x, y] r
  | [], n, l, ds, e5, e6, _, _ => ⟨e5, e6, rfl⟩
  | f :: fs, n, l, ds, e5, e6, h, ha => by
    obtain ⟨x, y, e⟩ := df_fold hA hS (r := r) (a := a) (b := b) (c := c) fs (n + 1) f.name ds (some (.int n)) (some f.d) (fun q hq => h q (List.mem_cons_of_mem _ hq)) ha.2
    refine ⟨x, y, ?_⟩
    rw [List.map_cons, List.cons_append, enumFrom, xFold_nx (e := [a, b, some (sgD ss), some c, some (.str l), some (.int n), some f.d]) rfl (df_step hA hS (h f (List.mem_cons_self ..)) ha.1), e, List.length_cons, show n + 1 + fs.length = n + (fs.length + 1) from by omega]
    rfl
/-! need_module -/
def tailM {ρ : Type} : SX ρ := xSeq (xFor (iEnumD (eVar 3)) g56 bodyM) (xOk (sRet (eVar 0)))
theorem nm_len {ρ : Type} {xs : List D} {r : ρ} (h : xs.length ≠ 3) : gx_need_module [.tup xs] r = some (.inr (mkEx []), r) := by
  have e : startE N_need_module [.tup xs] = [some (.tup xs), none, none, none, none, none, none] := rfl
  have n1 : neD (.int (xs.length : Nat)) (.int 3) = some (.bl true) := by
    have := ne_nn (i := xs.length) (j := 3)
    rw [decide_eq_false h] at this
    exact this
  unfold gx_need_module gXOf
  rw [e]
  unfold bx_need_module
  rw [xSeq_exc (x := mkEx []) (r' := r)]
  · rfl
  · simp only [xIf, xRaise, bOr, bNot, bOf, toB, eUn, eBin, eVar, eC, eTup, aNil, isi_tup, len_tup, n1, mkEx, Option.bind_some, Option.map_some, List.getElem?_cons_zero, Bool.not_true, Bool.not_false, Bool.false_eq_true, ↓reduceIte]
theorem nm_lst {ρ : Type} {xs : List D} {r : ρ} : gx_need_module [.lst xs] r = some (.inr (mkEx []), r) := rfl
theorem nm_ax {ρ : Type} {A S F : D} {p : List D} {r : ρ} (h : gx_need_axioms [A] r = some (.inr ⟨"BadAxioms", ["place"], [.tup p]⟩, r)) (hp : p.length < 1000) : gx_need_module [.tup [A, S, F]] r = some (.inr (mkEx (.int 0 :: p)), r) := by
  have e : startE N_need_module [.tup [A, S, F]] = [some (.tup [A, S, F]), none, none, none, none, none, none] := rfl
  have a1 : addD (.tup [.int 0]) (.tup p) = some (.tup (.int 0 :: p)) := if_pos (by simp only [List.length_cons, List.length_nil, big]; omega)
  unfold gx_need_module gXOf
  rw [e]
  unfold bx_need_module
  rw [xSeq_nx (e := [some (.tup [A, S, F]), none, none, none, none, none, none]) (r' := r) rfl, xSeq_exc (x := mkEx (.int 0 :: p)) (r' := r)]
  · rfl
  · have l1 : lookS (["place"] : List Str) [D.tup p] "place" = some (.tup p) := rfl
    simp only [xTryR, aCons, aNil, eBin, eVar, eC, eTup, eXs, ix0, h, a1, l1, mkEx, Option.bind_some, Option.map_some, List.getElem?_cons_zero, List.length_cons, List.length_nil, Nat.reduceAdd, Nat.reduceLT, and_self, ↓reduceIte]
theorem nm_sg {ρ : Type} {A S F : D} {x : Ex} {a : D} {r : ρ} (h : gx_need_axioms [A] r = some (.inl a, r)) (hs : gx_need_signatures [S] r = some (.inr x, r)) : gx_need_module [.tup [A, S, F]] r = some (.inr x, r) := by
  have e : startE N_need_module [.tup [A, S, F]] = [some (.tup [A, S, F]), none, none, none, none, none, none] := rfl
  unfold gx_need_module gXOf
  rw [e]
  unfold bx_need_module
  rw [xSeq_nx (e := [some (.tup [A, S, F]), none, none, none, none, none, none]) (r' := r) rfl, xSeq_nx (e := [some (.tup [A, S, F]), none, none, none, none, none, none]) (r' := r), xSeq_exc (x := x) (r' := r)]
  · rfl
  · simp only [xAsg, xCall, aCons, aNil, eBin, eVar, eC, ix1, hs, Option.bind_some, Option.map_some, List.getElem?_cons_zero]
  · simp only [xTryR, aCons, aNil, eBin, eVar, eC, ix0, h, Option.bind_some, Option.map_some, List.getElem?_cons_zero]
theorem nm_df {ρ : Type} {A S F : D} {a g : D} {r : ρ} (h : gx_need_axioms [A] r = some (.inl a, r)) (hs : gx_need_signatures [S] r = some (.inl g, r)) : gx_need_module [.tup [A, S, F]] r =
    ((xSeq (xIf (bOr (bNot (bOf (eUn (isiD "tuple") (eVar 3)))) (bOf (eBin gtD (eUn lenD (eVar 3)) (eC (.int 12))))) (xRaise "BadModule" "place" (eTup (aCons (eC (.int 2)) aNil))) (xOk sNil)) tailM) [some (.tup [A, S, F]), none, some g, some F, some (.str ""), none, none] r).map outX := by
  have e : startE N_need_module [.tup [A, S, F]] = [some (.tup [A, S, F]), none, none, none, none, none, none] := rfl
  unfold gx_need_module gXOf
  rw [e]
  unfold bx_need_module
  rw [xSeq_nx (e := [some (.tup [A, S, F]), none, none, none, none, none, none]) (r' := r) rfl, xSeq_nx (e := [some (.tup [A, S, F]), none, none, none, none, none, none]) (r' := r), xSeq_nx (e := [some (.tup [A, S, F]), none, some g, none, none, none, none]) (r' := r), xSeq_nx (e := [some (.tup [A, S, F]), none, some g, some F, some (.str ""), none, none]) (r' := r)]
  · rfl
  · rfl
  · simp only [xAsg, xCall, aCons, aNil, eBin, eVar, eC, ix1, hs, gNm, Option.bind_some, Option.map_some, List.getElem?_cons_zero, List.length_cons, List.length_nil, Nat.reduceAdd, Nat.reduceLT, List.set_cons_zero, List.set_cons_succ, ↓reduceIte]
  · simp only [xTryR, aCons, aNil, eBin, eVar, eC, ix0, h, Option.bind_some, Option.map_some, List.getElem?_cons_zero]
theorem nm_none {ρ : Type} {A S : D} {a g : D} {r : ρ} (h : gx_need_axioms [A] r = some (.inl a, r)) (hs : gx_need_signatures [S] r = some (.inl g, r)) : gx_need_module [.tup [A, S, .non]] r = some (.inr (mkEx [.int 2]), r) := by
  rw [nm_df h hs]; rfl
theorem nm_tup {ρ : Type} {A S : D} {xs : List D} {a g : D} {r : ρ} (h : gx_need_axioms [A] r = some (.inl a, r)) (hs : gx_need_signatures [S] r = some (.inl g, r)) (hl : xs.length ≤ 12) :
    gx_need_module [.tup [A, S, .tup xs]] r = (xSeq (xFold g56 bodyM (enumFrom 0 xs)) (xOk (sRet (eVar 0))) [some (.tup [A, S, .tup xs]), none, some g, some (.tup xs), some (.str ""), none, none] r).map outX := by
  have a3 := gt_f (i := xs.length) (j := 12) (by omega)
  rw [nm_df h hs, xSeq_nx (e := [some (.tup [A, S, .tup xs]), none, some g, some (.tup xs), some (.str ""), none, none]) (r' := r)]
  · rfl
  · simp only [xIf, xOk, bOr, bNot, bOf, toB, eUn, eBin, eVar, eC, sNil, isi_tup, len_tup, a3, Option.bind_some, Option.map_some, List.getElem?_cons_zero, List.getElem?_cons_succ, Bool.not_true, Bool.false_eq_true, ↓reduceIte]
end Q
end
section
set_option Elab.async false
set_option linter.all false
set_option maxRecDepth 100000
set_option maxHeartbeats 400000
namespace Q
open PySem PySem.Spec PyProof.Rows L2 DL
structure Mo where
  ax : List (T × T)
  ss : List Sg
  fs : List Df
def Mo.A (m : Mo) : D := .tup (m.ax.map pD)
def Mo.S (m : Mo) : D := .tup (m.ss.map Sg.d)
def Mo.F (m : Mo) : D := .tup (m.fs.map Df.d)
def Mo.d (m : Mo) : D := .tup [m.A, m.S, m.F]
structure Mo.ok (m : Mo) : Prop where
  ax : ∀ p ∈ m.ax, pFine p
  al : m.ax.length ≤ 300
  ss : ∀ s ∈ m.ss, s.ok
  sa : Asc "" m.ss
  sl : m.ss.length ≤ 12
  fs : ∀ f ∈ m.fs, f.ok m.ss
  fa : AscD "" m.fs
  fl : m.fs.length ≤ 11
theorem Mo.ok.okA {ρ : Type} {r : ρ} {m : Mo} (h : m.ok) : gx_need_axioms [m.A] r = some (.inl m.A, r) := ax_ok h.ax (Nat.le_trans h.al (by decide))
theorem Mo.ok.okS {ρ : Type} {r : ρ} {m : Mo} (h : m.ok) : gx_need_signatures [m.S] r = some (.inl (sgD m.ss), r) := sigs_ok h.ss h.sa h.sl
theorem mo_ok {ρ : Type} {r : ρ} {m : Mo} (h : m.ok) : gx_need_module [m.d] r = some (.inl m.d, r) := by
  obtain ⟨x, y, e⟩ := df_fold h.sa h.ss (r := r) (a := some m.d) (b := none) (c := m.F) m.fs 0 "" [] none none h.fs h.fa
  rw [List.append_nil] at e
  have t := nm_tup (xs := m.fs.map Df.d) h.okA h.okS (r := r) (by rw [List.length_map]; exact Nat.le_trans h.fl (by decide))
  have k : (xFold g56 bodyM (enumFrom 0 (m.fs.map Df.d))) [some m.d, none, some (sgD m.ss), some m.F, some (.str ""), none, none] r = some (.ok (.nx [some m.d, none, some (sgD m.ss), some m.F, some (.str (lastD "" m.fs)), x, y] r)) := e
  refine t.trans ?_
  show Option.map outX (xSeq _ _ [some m.d, none, some (sgD m.ss), some m.F, some (.str ""), none, none] r) = _
  rw [xSeq_nx k]
  rfl
theorem mo_bad {ρ : Type} {r : ρ} {m : Mo} (h : m.ok) {fs : List Df} {b : D} {ds : List D} (hf : ∀ f ∈ fs, f.ok m.ss) (ha : AscD "" fs) (hl : fs.length + ds.length + 1 ≤ 12)
    (hb : ∀ (x y z : Option D) (c : D), bodyM [x, none, some (sgD m.ss), some c, some (.str (lastD "" fs)), some (.int (fs.length : Nat)), some b] r = some (.exc (mkEx [.int 2, .int (fs.length : Nat)]) r)) :
    gx_need_module [.tup [m.A, m.S, .tup (fs.map Df.d ++ b :: ds)]] r = some (.inr (mkEx [.int 2, .int (fs.length : Nat)]), r) := by
  obtain ⟨x, y, e⟩ := df_fold h.sa h.ss (r := r) (a := some (.tup [m.A, m.S, .tup (fs.map Df.d ++ b :: ds)])) (b := none) (c := .tup (fs.map Df.d ++ b :: ds)) fs 0 "" (b :: ds) none none hf ha
  have t := nm_tup (xs := fs.map Df.d ++ b :: ds) h.okA h.okS (r := r) (by simp; omega)
  rw [Nat.zero_add, enumFrom, xFold_exc rfl (hb _ y y _)] at e
  rw [t, xSeq_exc e]
  rfl
/-! what the law sees of it -/
theorem refused_ok {ρ : Type} {r : ρ} {v : D} {p : List D} (h : gx_need_module [v] r = some (.inr (mkEx p), r)) : g_law_refused [v] r = some (.tup [.str "module", .tup p], r) := by
  have e : startE N_law_refused [v] = [some v, none] := rfl
  have l1 : lookS (["place"] : List Str) [D.tup p] "place" = some (.tup p) := rfl
  unfold g_law_refused gOf
  rw [e]
  simp only [b_law_refused, sSeq, sTry, aCons, aNil, eVar, eC, eTup, eXs, h, mkEx, l1, sThen, outD, Option.bind_some, Option.map_some, List.getElem?_cons_zero, List.length_cons, List.length_nil, Nat.reduceAdd, Nat.reduceLT, and_self, ↓reduceIte]
theorem told_ok {ρ : Type} {r : ρ} {v a : D} (h : gx_need_module [v] r = some (.inl a, r)) : g_law_refused [v] r = some (.tup [.str "told", .non], r) := by
  have e : startE N_law_refused [v] = [some v, none] := rfl
  unfold g_law_refused gOf
  rw [e]
  simp only [b_law_refused, sSeq, sTry, sRet, aCons, aNil, eVar, eC, eTup, h, sThen, outD, Option.bind_some, Option.map_some, List.getElem?_cons_zero]
theorem ism_no {ρ : Type} {r : ρ} {v : D} {p : List D} (h : gx_need_module [v] r = some (.inr (mkEx p), r)) : g_is_module [v] r = some (.bl false, r) := by
  have e : startE N_is_module [v] = [some v] := rfl
  have l1 : decide ((mkEx p).cls = "BadModule") = true := rfl
  unfold g_is_module gOf
  rw [e]
  simp only [b_is_module, sSeq, sTryO, aCons, aNil, eVar, eC, h, l1, sThen, outD, Option.bind_some, Option.map_some, List.getElem?_cons_zero, ↓reduceIte]
theorem ism_yes {ρ : Type} {r : ρ} {v a : D} (h : gx_need_module [v] r = some (.inl a, r)) : g_is_module [v] r = some (.bl true, r) := by
  have e : startE N_is_module [v] = [some v] := rfl
  unfold g_is_module gOf
  rw [e]
  simp only [b_is_module, sSeq, sTryO, sRet, aCons, aNil, eVar, eC, h, sThen, outD, Option.bind_some, Option.map_some, List.getElem?_cons_zero]
/-! likeness -/
def Plain : Nat → D → Prop
  | 0, _ => False
  | j + 1, .tup xs => xs.length ≤ 1000 ∧ ∀ x ∈ xs, Plain j x
  | j + 1, .lst xs => xs.length ≤ 1000 ∧ ∀ x ∈ xs, Plain j x
  | _ + 1, .non => True
  | _ + 1, .bl _ => True
  | _ + 1, .int _ => True
  | _ + 1, .str _ => True
  | _ + 1, _ => False
theorem Plain.mono : ∀ {i j : Nat} {d : D}, Plain i d → i ≤ j → Plain j d
  | 0, _, _, h, _ => h.elim
  | i + 1, 0, _, _, h => absurd h (by omega)
  | i + 1, j + 1, .tup xs, h, k => ⟨h.1, fun x hx => (h.2 x hx).mono (by omega)⟩
  | i + 1, j + 1, .lst xs, h, k => ⟨h.1, fun x hx => (h.2 x hx).mono (by omega)⟩
  | i + 1, j + 1, .non, _, _ => trivial
  | i + 1, j + 1, .bl _, _, _ => trivial
  | i + 1, j + 1, .int _, _, _ => trivial
  | i + 1, j + 1, .str _, _, _ => trivial
theorem zip_self : ∀ xs : List D, zipD xs xs = xs.map fun x => .tup [x, x]
  | [] => rfl
  | x :: xs => by rw [zipD, zip_self xs]; rfl
theorem cFold_none {ρ α : Type} {g : GD} {t : SB ρ} {e : SE ρ} {env : DL.Env} {r : ρ} {f : α → D} : ∀ {xs : List α}, (∀ x ∈ xs, ∃ e2, g (f x) env = some e2 ∧ t e2 r = some (false, r)) → cFold g t e env (xs.map f) r = some ([], r)
  | [], _ => rfl
  | x :: xs, H => by
    obtain ⟨e2, h1, h2⟩ := H x (List.mem_cons_self ..)
    rw [List.map_cons, cFold_cons, h1, Option.bind_some, h2, Option.bind_some]
    show (if (false = true) then _ else cFold g t e env (xs.map f) r) = _
    rw [if_neg (by decide)]
    exact cFold_none fun y hy => H y (List.mem_cons_of_mem _ hy)
theorem ne_self {n : Nat} : neD (.int ((n : Nat) : Int)) (.int ((n : Nat) : Int)) = some (.bl false) := by
  have := ne_nn (i := n) (j := n)
  rw [decide_eq_true rfl] at this
  exact this
theorem like_ok {ρ : Type} {r : ρ} : ∀ (j : Nat) (d : D), Plain j d → g_law_like j [d, d] r = some (.bl true, r)
  | 0, _, h => h.elim
  | j + 1, .non, _ => rfl
  | j + 1, .bl true, _ => rfl
  | j + 1, .bl false, _ => rfl
  | j + 1, .int i, _ => by
    have e : startE N_law_like [.int i, .int i] = [some (.int i), some (.int i), none, none, none] := rfl
    have a1 : eqD (.int i) (.int i) = some (.bl true) := by
      show Option.map D.bl (if true = true then some (decide (V.int i = V.int i)) else none) = _
      rw [if_pos rfl, decide_eq_true rfl]; rfl
    have a2 : isiD "int" (.int i) = some (.bl true) := rfl
    have a3 : isiD "bool" (.int i) = some (.bl false) := rfl
    have a4 : isiD "tuple" (.int i) = some (.bl false) := rfl
    have a5 : isiD "list" (.int i) = some (.bl false) := rfl
    have a6 : isiD "str" (.int i) = some (.bl false) := rfl
    have a7 : isD (.int i) .non = some (.bl false) := rfl
    have a8 : ∀ b, isD (.int i) (.bl b) = some (.bl false) := fun b => rfl
    unfold g_law_like gOf
    rw [e]
    simp only [b_law_like, a1, a2, a3, a4, a5, a6, a7, a8, sSeq, sIf, sRet, sNil, sThen, bOr, bNot, bOf, toB, eUn, eBin, eVar, eC, eIf, eOf, outD, Option.bind_some, Option.map_some, List.getElem?_cons_zero, List.getElem?_cons_succ, Bool.not_true, Bool.not_false, Bool.false_eq_true, ↓reduceIte]
  | j + 1, .str i, _ => by
    have e : startE N_law_like [.str i, .str i] = [some (.str i), some (.str i), none, none, none] := rfl
    have a1 : eqD (.str i) (.str i) = some (.bl true) := by
      show Option.map D.bl (if true = true then some (decide (V.str i = V.str i)) else none) = _
      rw [if_pos rfl, decide_eq_true rfl]; rfl
    have a4 : isiD "tuple" (.str i) = some (.bl false) := rfl
    have a5 : isiD "list" (.str i) = some (.bl false) := rfl
    have a6 : isiD "str" (.str i) = some (.bl true) := rfl
    have a7 : isD (.str i) .non = some (.bl false) := rfl
    have a8 : ∀ b, isD (.str i) (.bl b) = some (.bl false) := fun b => rfl
    unfold g_law_like gOf
    rw [e]
    simp only [b_law_like, a1, a4, a5, a6, a7, a8, sSeq, sIf, sRet, sNil, sThen, bOr, bNot, bOf, toB, eUn, eBin, eVar, eC, eIf, eOf, outD, Option.bind_some, Option.map_some, List.getElem?_cons_zero, List.getElem?_cons_succ, Bool.not_true, Bool.not_false, Bool.false_eq_true, ↓reduceIte]
  | j + 1, .tup xs, h => by
    have e : startE N_law_like [.tup xs, .tup xs] = [some (.tup xs), some (.tup xs), none, none, none] := rfl
    have c : eComp (ρ := ρ) (iZipD (aCons (eVar 0) (aCons (eVar 1) aNil))) (gTp (gC (gNm 3) (gC (gNm 4) gN))) (bNot (bOf (eCall 2 (g_law_like j) (aCons (eVar 3) (aCons (eVar 4) aNil))))) (eC (.int 1)) [3, 4] [some (.tup xs), some (.tup xs), some (.bl true), none, none] r = some (.lst [], r) := by
      unfold eComp
      show Option.bind (some (zipD xs xs, r)) _ = _
      rw [Option.bind_some, zip_self]
      show (cFold _ _ _ [some (.tup xs), some (.tup xs), some (.bl true), none, none] (xs.map fun x => .tup [x, x]) r).bind _ = _
      rw [cFold_none fun x hx => ⟨[some (.tup xs), some (.tup xs), some (.bl true), some x, some x], rfl, ?_⟩]
      · rfl
      · have := like_ok (r := r) j x (h.2 x hx)
        simp only [bNot, bOf, toB, eCall, aCons, aNil, eVar, this, Option.bind_some, Option.map_some, List.getElem?_cons_zero, List.getElem?_cons_succ, Bool.not_true]
    have a2 : eqD (.lst []) (.lst []) = some (.bl true) := rfl
    have n := ne_self (n := xs.length)
    unfold g_law_like gOf
    rw [e]
    simp only [b_law_like, c, n, a2, isi_tup, len_tup, sSeq, sIf, sRet, sNil, sThen, sAsg, gNm, bOr, bNot, bOf, toB, eUn, eBin, eVar, eC, eIf, eOf, eLst, aNil, outD, Option.bind_some, Option.map_some, List.getElem?_cons_zero, List.getElem?_cons_succ, List.length_cons, List.length_nil, List.set_cons_zero, List.set_cons_succ, Nat.reduceAdd, Nat.reduceLT, Bool.not_true, Bool.not_false, Bool.false_eq_true, ↓reduceIte]
  | j + 1, .lst xs, h => by
    have e : startE N_law_like [.lst xs, .lst xs] = [some (.lst xs), some (.lst xs), none, none, none] := rfl
    have c : eComp (ρ := ρ) (iZipD (aCons (eVar 0) (aCons (eVar 1) aNil))) (gTp (gC (gNm 3) (gC (gNm 4) gN))) (bNot (bOf (eCall 2 (g_law_like j) (aCons (eVar 3) (aCons (eVar 4) aNil))))) (eC (.int 1)) [3, 4] [some (.lst xs), some (.lst xs), some (.bl true), none, none] r = some (.lst [], r) := by
      unfold eComp
      show Option.bind (some (zipD xs xs, r)) _ = _
      rw [Option.bind_some, zip_self]
      show (cFold _ _ _ [some (.lst xs), some (.lst xs), some (.bl true), none, none] (xs.map fun x => .tup [x, x]) r).bind _ = _
      rw [cFold_none fun x hx => ⟨[some (.lst xs), some (.lst xs), some (.bl true), some x, some x], rfl, ?_⟩]
      · rfl
      · have := like_ok (r := r) j x (h.2 x hx)
        simp only [bNot, bOf, toB, eCall, aCons, aNil, eVar, this, Option.bind_some, Option.map_some, List.getElem?_cons_zero, List.getElem?_cons_succ, Bool.not_true]
    have a2 : eqD (.lst []) (.lst []) = some (.bl true) := rfl
    have a3 : isiD "tuple" (.lst xs) = some (.bl false) := rfl
    have a4 : isiD "list" (.lst xs) = some (.bl true) := rfl
    have a5 : lenD (.lst xs) = some (.int (xs.length : Nat)) := rfl
    have n := ne_self (n := xs.length)
    unfold g_law_like gOf
    rw [e]
    simp only [b_law_like, c, n, a2, a3, a4, a5, sSeq, sIf, sRet, sNil, sThen, sAsg, gNm, bOr, bNot, bOf, toB, eUn, eBin, eVar, eC, eIf, eOf, eLst, aNil, outD, Option.bind_some, Option.map_some, List.getElem?_cons_zero, List.getElem?_cons_succ, List.length_cons, List.length_nil, List.set_cons_zero, List.set_cons_succ, Nat.reduceAdd, Nat.reduceLT, Bool.not_true, Bool.not_false, Bool.false_eq_true, ↓reduceIte]
/-! the drawn things are plain -/
theorem plain_t : ∀ t : T, Plain (t.deep + 2) t.d
  | .yes => ⟨by decide, by simp [Plain]⟩
  | .no => ⟨by decide, by simp [Plain]⟩
  | .lt x => ⟨by simp, by simp [Plain]⟩
  | .nt t => by
    refine ⟨by simp, fun x hx => ?_⟩
    rcases List.mem_cons.mp hx with z | z
    · subst z; exact trivial
    · rw [List.mem_singleton] at z; subst z; exact plain_t t
  | .an a b => by
    refine ⟨by simp, fun x hx => ?_⟩
    simp only [List.mem_cons, List.not_mem_nil, or_false] at hx
    rcases hx with z | z | z
    · subst z; exact trivial
    · subst z; exact (plain_t a).mono (by simp only [T.deep]; omega)
    · subst z; exact (plain_t b).mono (by simp only [T.deep]; omega)
  | .or a b => by
    refine ⟨by simp, fun x hx => ?_⟩
    simp only [List.mem_cons, List.not_mem_nil, or_false] at hx
    rcases hx with z | z | z
    · subst z; exact trivial
    · subst z; exact (plain_t a).mono (by simp only [T.deep]; omega)
    · subst z; exact (plain_t b).mono (by simp only [T.deep]; omega)
theorem plain_map {α : Type} {f : α → D} {xs : List α} {j : Nat} (h : ∀ x ∈ xs, Plain j (f x)) (hl : xs.length ≤ 1000) : Plain (j + 1) (.tup (xs.map f)) :=
  ⟨by rw [List.length_map]; exact hl, fun y hy => by
    obtain ⟨x, hx, e⟩ := List.mem_map.mp hy
    exact e ▸ h x hx⟩
theorem plain2 {a b : D} {j : Nat} (ha : Plain j a) (hb : Plain j b) : Plain (j + 1) (.tup [a, b]) :=
  ⟨by simp, fun y hy => by
    simp only [List.mem_cons, List.not_mem_nil, or_false] at hy
    rcases hy with z | z <;> subst z <;> assumption⟩
theorem plain3 {a b c : D} {j : Nat} (ha : Plain j a) (hb : Plain j b) (hc : Plain j c) : Plain (j + 1) (.tup [a, b, c]) :=
  ⟨by simp, fun y hy => by
    simp only [List.mem_cons, List.not_mem_nil, or_false] at hy
    rcases hy with z | z | z <;> subst z <;> assumption⟩
theorem plain_s (x : Str) (j : Nat) : Plain (j + 1) (.str x) := trivial
/-- what the law's likeness wants of a module: small depths -/
structure Mo.lo (m : Mo) : Prop where
  ax : ∀ p ∈ m.ax, p.1.deep ≤ 3 ∧ p.2.deep ≤ 3
  rw : ∀ s ∈ m.ss, ∀ p ∈ s.rows, p.1.deep ≤ 3 ∧ p.2.deep ≤ 3
  fu : ∀ s ∈ m.ss, ∀ t ∈ s.fur, t.deep ≤ 3
  bd : ∀ f ∈ m.fs, Plain 10 f.body.d
theorem plain_p {p : T × T} (h : p.1.deep ≤ 3 ∧ p.2.deep ≤ 3) : Plain 6 (pD p) := plain2 ((plain_t p.1).mono (by omega)) ((plain_t p.2).mono (by omega))
theorem plain_mo {m : Mo} (h : m.ok) (hl : m.lo) : Plain 15 m.d := by
  refine plain3 (plain_map (j := 13) (fun p hp => (plain_p (hl.ax p hp)).mono (by decide)) (Nat.le_trans h.al (by decide))) (plain_map (j := 13) (fun s hs => ?_) (Nat.le_trans h.sl (by decide))) (plain_map (j := 13) (fun f hf => ?_) (Nat.le_trans h.fl (by decide)))
  · have ho := h.ss s hs
    exact plain3 (j := 12) (plain_s _ _) (plain_map (j := 11) (fun p hp => (plain_p (hl.rw s hs p hp)).mono (by decide)) (Nat.le_trans ho.r4 (by decide))) (plain_map (j := 11) (fun t ht => (plain_t t).mono (by have := hl.fu s hs t ht; omega)) (Nat.le_trans ho.f2 (by decide)))
  · have ho := h.fs f hf
    obtain ⟨s, hs, _, _, e⟩ := ho.sg
    have := (h.ss s hs).f2
    exact plain3 (j := 12) (plain_s _ _) (plain_map (j := 11) (fun _ _ => plain_s _ _) (by omega)) ((hl.bd f hf).mono (by decide))
end Q
end
section
set_option Elab.async false
set_option linter.all false
set_option maxRecDepth 100000
set_option maxHeartbeats 400000
namespace Q
open PySem PySem.Spec PyProof.Rows L2 DL
/-! draws: what they give is among what is allowed; t bounds the spot -/
section
variable (am sa ga : Addr)
def St (t : Nat) (r : Rw) : Prop := ∃ small great n, r = rwOf am sa ga small great n ∧ okS small ∧ 0 ≤ n ∧ n ≤ (t : Int)
def lim0 : Nat := 10 ^ 15
def Dr {α : Type} (c : Nat) (f : Rw → Option (α × Rw)) (Q : α → Prop) : Prop := ∀ t r, St am sa ga t r → t + c ≤ lim0 → ∃ a r', f r = some (a, r') ∧ Q a ∧ St am sa ga (t + c) r'
def DrR (c : Nat) (f : Rw → Option (Out Rw)) (Q : D → Prop) : Prop := ∀ t r, St am sa ga t r → t + c ≤ lim0 → ∃ a r', f r = some (.ret a r') ∧ Q a ∧ St am sa ga (t + c) r'
def DrN (c : Nat) (f : Rw → Option (Out Rw)) (Q : DL.Env → Prop) : Prop := ∀ t r, St am sa ga t r → t + c ≤ lim0 → ∃ a r', f r = some (.nx a r') ∧ Q a ∧ St am sa ga (t + c) r'
end
section
variable {am sa ga : Addr} {α β : Type} {c c1 c2 : Nat} {env : DL.Env}
theorem St.mono {t u : Nat} {r : Rw} (h : St am sa ga t r) (k : t ≤ u) : St am sa ga u r := by
  obtain ⟨s, g, n, e, o, a, b⟩ := h
  exact ⟨s, g, n, e, o, a, by omega⟩
theorem Dr.le {f : Rw → Option (α × Rw)} {Q : α → Prop} (h : Dr am sa ga c f Q) (k : c ≤ c2) : Dr am sa ga c2 f Q := fun t r hs hl => by
  obtain ⟨a, r', e, q, s⟩ := h t r hs (by omega)
  exact ⟨a, r', e, q, s.mono (by omega)⟩
theorem DrR.le {f : Rw → Option (Out Rw)} {Q : D → Prop} (h : DrR am sa ga c f Q) (k : c ≤ c2) : DrR am sa ga c2 f Q := fun t r hs hl => by
  obtain ⟨a, r', e, q, s⟩ := h t r hs (by omega)
  exact ⟨a, r', e, q, s.mono (by omega)⟩
theorem DrN.le {f : Rw → Option (Out Rw)} {Q : DL.Env → Prop} (h : DrN am sa ga c f Q) (k : c ≤ c2) : DrN am sa ga c2 f Q := fun t r hs hl => by
  obtain ⟨a, r', e, q, s⟩ := h t r hs (by omega)
  exact ⟨a, r', e, q, s.mono (by omega)⟩
theorem Dr.imp {f : Rw → Option (α × Rw)} {P Q : α → Prop} (h : Dr am sa ga c f P) (k : ∀ a, P a → Q a) : Dr am sa ga c f Q := fun t r hs hl => by
  obtain ⟨a, r', e, q, s⟩ := h t r hs hl
  exact ⟨a, r', e, k a q, s⟩
theorem DrR.imp {f : Rw → Option (Out Rw)} {P Q : D → Prop} (h : DrR am sa ga c f P) (k : ∀ a, P a → Q a) : DrR am sa ga c f Q := fun t r hs hl => by
  obtain ⟨a, r', e, q, s⟩ := h t r hs hl
  exact ⟨a, r', e, k a q, s⟩
theorem DrN.imp {f : Rw → Option (Out Rw)} {P Q : DL.Env → Prop} (h : DrN am sa ga c f P) (k : ∀ a, P a → Q a) : DrN am sa ga c f Q := fun t r hs hl => by
  obtain ⟨a, r', e, q, s⟩ := h t r hs hl
  exact ⟨a, r', e, k a q, s⟩
/-- nothing drawn -/
theorem Dr.pure {f : Rw → Option (α × Rw)} {Q : α → Prop} {a : α} (h : ∀ r, f r = some (a, r)) (q : Q a) : Dr am sa ga 0 f Q := fun t r hs hl => ⟨a, r, h r, q, hs⟩
theorem Dr.var {i : Nat} {d : D} {Q : D → Prop} (h : env[i]? = some (some d)) (q : Q d) : Dr am sa ga 0 (eVar i env) Q := Dr.pure (fun r => by unfold eVar; rw [h]) q
theorem Dr.con {d : D} {Q : D → Prop} (q : Q d) : Dr am sa ga 0 (eC d env) Q := Dr.pure (fun r => rfl) q
theorem Dr.bin {g : D → D → Option D} {f1 f2 : SE Rw} {P1 P2 Q : D → Prop} (h1 : Dr am sa ga c1 (f1 env) P1) (h2 : Dr am sa ga c2 (f2 env) P2) (k : ∀ a b, P1 a → P2 b → ∃ x, g a b = some x ∧ Q x) : Dr am sa ga (c1 + c2) (eBin g f1 f2 env) Q := fun t r hs hl => by
  obtain ⟨a, r1, e1, q1, s1⟩ := h1 t r hs (by omega)
  obtain ⟨b, r2, e2, q2, s2⟩ := h2 _ r1 s1 (by omega)
  obtain ⟨x, ex, q⟩ := k a b q1 q2
  refine ⟨x, r2, ?_, q, s2.mono (by omega)⟩
  unfold eBin
  rw [e1, Option.bind_some, e2, Option.bind_some, ex]; rfl
theorem Dr.un {g : D → Option D} {f1 : SE Rw} {P1 Q : D → Prop} (h1 : Dr am sa ga c (f1 env) P1) (k : ∀ a, P1 a → ∃ x, g a = some x ∧ Q x) : Dr am sa ga c (eUn g f1 env) Q := fun t r hs hl => by
  obtain ⟨a, r1, e1, q1, s1⟩ := h1 t r hs (by omega)
  obtain ⟨x, ex, q⟩ := k a q1
  refine ⟨x, r1, ?_, q, s1⟩
  unfold eUn
  rw [e1, Option.bind_some, ex]; rfl
theorem Dr.nil {Q : List D → Prop} (q : Q []) : Dr am sa ga 0 (aNil env) Q := Dr.pure (fun r => rfl) q
theorem Dr.cons {f : SE Rw} {g : SA Rw} {P : D → Prop} {R Q : List D → Prop} (h1 : Dr am sa ga c1 (f env) P) (h2 : Dr am sa ga c2 (g env) R) (k : ∀ a b, P a → R b → Q (a :: b)) : Dr am sa ga (c1 + c2) (aCons f g env) Q := fun t r hs hl => by
  obtain ⟨a, r1, e1, q1, s1⟩ := h1 t r hs (by omega)
  obtain ⟨b, r2, e2, q2, s2⟩ := h2 _ r1 s1 (by omega)
  refine ⟨a :: b, r2, ?_, k a b q1 q2, s2.mono (by omega)⟩
  unfold aCons
  rw [e1, Option.bind_some, e2]; rfl
theorem Dr.tup {f : SA Rw} {P : List D → Prop} {Q : D → Prop} (h : Dr am sa ga c (f env) P) (k : ∀ ds, P ds → Q (.tup ds)) : Dr am sa ga c (eTup f env) Q := fun t r hs hl => by
  obtain ⟨a, r1, e1, q1, s1⟩ := h t r hs hl
  refine ⟨_, r1, ?_, k a q1, s1⟩
  unfold eTup; rw [e1]; rfl
theorem Dr.lst {f : SA Rw} {P : List D → Prop} {Q : D → Prop} (h : Dr am sa ga c (f env) P) (k : ∀ ds, P ds → Q (.lst ds)) : Dr am sa ga c (eLst f env) Q := fun t r hs hl => by
  obtain ⟨a, r1, e1, q1, s1⟩ := h t r hs hl
  refine ⟨_, r1, ?_, k a q1, s1⟩
  unfold eLst; rw [e1]; rfl
theorem Dr.call {n : Nat} {g : List D → Rw → Option (D × Rw)} {f : SA Rw} {P : List D → Prop} {Q : D → Prop} (h : Dr am sa ga c1 (f env) P) (k : ∀ ds, P ds → Dr am sa ga c2 (g ds) Q) : Dr am sa ga (c1 + c2) (eCall n g f env) Q := fun t r hs hl => by
  obtain ⟨a, r1, e1, q1, s1⟩ := h t r hs (by omega)
  obtain ⟨b, r2, e2, q2, s2⟩ := k a q1 _ r1 s1 (by omega)
  refine ⟨b, r2, ?_, q2, s2.mono (by omega)⟩
  unfold eCall; rw [e1, Option.bind_some, e2]
theorem Dr.ifT {cd : SB Rw} {f g : SE Rw} {Q : D → Prop} (hc : ∀ r, cd env r = some (true, r)) (h : Dr am sa ga c (f env) Q) : Dr am sa ga c (eIf cd f g env) Q := fun t r hs hl => by
  obtain ⟨a, r1, e1, q1, s1⟩ := h t r hs hl
  refine ⟨a, r1, ?_, q1, s1⟩
  unfold eIf; rw [hc, Option.bind_some]
  show (if true = true then f env r else _) = _
  rw [if_pos rfl, e1]
theorem Dr.ifF {cd : SB Rw} {f g : SE Rw} {Q : D → Prop} (hc : ∀ r, cd env r = some (false, r)) (h : Dr am sa ga c (g env) Q) : Dr am sa ga c (eIf cd f g env) Q := fun t r hs hl => by
  obtain ⟨a, r1, e1, q1, s1⟩ := h t r hs hl
  refine ⟨a, r1, ?_, q1, s1⟩
  unfold eIf; rw [hc, Option.bind_some]
  show (if false = true then _ else g env r) = _
  rw [if_neg (by decide), e1]
/-! statements -/
theorem DrR.ret {f : SE Rw} {Q : D → Prop} (h : Dr am sa ga c (f env) Q) : DrR am sa ga c (sRet f env) Q := fun t r hs hl => by
  obtain ⟨a, r1, e1, q1, s1⟩ := h t r hs hl
  refine ⟨a, r1, ?_, q1, s1⟩
  unfold sRet; rw [e1]; rfl
theorem DrN.asg {f : SE Rw} {g : GD} {P : D → Prop} {Q : DL.Env → Prop} (h : Dr am sa ga c (f env) P) (k : ∀ d, P d → ∃ e, g d env = some e ∧ Q e) : DrN am sa ga c (sAsg f g env) Q := fun t r hs hl => by
  obtain ⟨a, r1, e1, q1, s1⟩ := h t r hs hl
  obtain ⟨e, he, q⟩ := k a q1
  refine ⟨e, r1, ?_, q, s1⟩
  unfold sAsg; rw [e1, Option.bind_some, he]; rfl
theorem DrR.seq {a b : SS Rw} {P : DL.Env → Prop} {Q : D → Prop} (h : DrN am sa ga c1 (a env) P) (k : ∀ e, P e → DrR am sa ga c2 (b e) Q) : DrR am sa ga (c1 + c2) (sSeq a b env) Q := fun t r hs hl => by
  obtain ⟨e, r1, e1, q1, s1⟩ := h t r hs (by omega)
  obtain ⟨d, r2, e2, q2, s2⟩ := k e q1 _ r1 s1 (by omega)
  refine ⟨d, r2, ?_, q2, s2.mono (by omega)⟩
  rw [sSeq_nx e1, e2]
theorem DrN.seq {a b : SS Rw} {P : DL.Env → Prop} {Q : DL.Env → Prop} (h : DrN am sa ga c1 (a env) P) (k : ∀ e, P e → DrN am sa ga c2 (b e) Q) : DrN am sa ga (c1 + c2) (sSeq a b env) Q := fun t r hs hl => by
  obtain ⟨e, r1, e1, q1, s1⟩ := h t r hs (by omega)
  obtain ⟨d, r2, e2, q2, s2⟩ := k e q1 _ r1 s1 (by omega)
  refine ⟨d, r2, ?_, q2, s2.mono (by omega)⟩
  rw [sSeq_nx e1, e2]
/-- a store into one slot, and then -/
theorem DrR.asg {f : SE Rw} {i : Nat} {b : SS Rw} {P : D → Prop} {Q : D → Prop} (hi : i < env.length) (h : Dr am sa ga c1 (f env) P) (k : ∀ d, P d → DrR am sa ga c2 (b (env.set i (some d))) Q) : DrR am sa ga (c1 + c2) (sSeq (sAsg f (gNm i)) b env) Q :=
  DrR.seq (P := fun e => ∃ d, P d ∧ e = env.set i (some d)) (DrN.asg h fun d hd => ⟨_, if_pos hi, d, hd, rfl⟩) fun e ⟨d, hd, he⟩ => he ▸ k d hd
theorem DrR.ifRet {cd : SB Rw} {a b x : SS Rw} {Q : D → Prop} (hc : ∀ r, cd env r = some (true, r)) (h : DrR am sa ga c (a env) Q) : DrR am sa ga c (sSeq (sIf cd a x) b env) Q := fun t r hs hl => by
  obtain ⟨d, r1, e1, q1, s1⟩ := h t r hs hl
  refine ⟨d, r1, ?_, q1, s1⟩
  refine sSeq_ret ?_
  unfold sIf; rw [hc, Option.bind_some]
  show (if true = true then a env r else _) = _
  rw [if_pos rfl, e1]
theorem DrR.ifNo {cd : SB Rw} {a b : SS Rw} {Q : D → Prop} (hc : ∀ r, cd env r = some (false, r)) (h : DrR am sa ga c (b env) Q) : DrR am sa ga c (sSeq (sIf cd a sNil) b env) Q := fun t r hs hl => by
  obtain ⟨d, r1, e1, q1, s1⟩ := h t r hs hl
  refine ⟨d, r1, ?_, q1, s1⟩
  rw [sSeq_nx (e := env) (r' := r), e1]
  unfold sIf; rw [hc, Option.bind_some]
  rfl
theorem Dr.gOf {N : List Str} {b : SS Rw} {ds : List D} {Q : D → Prop} (h : DrR am sa ga c (b (startE N ds)) Q) : Dr am sa ga c (gOf N b ds) Q := fun t r hs hl => by
  obtain ⟨d, r1, e1, q1, s1⟩ := h t r hs hl
  refine ⟨d, r1, ?_, q1, s1⟩
  unfold DL.gOf; rw [e1]; rfl
/-- a comprehension with draws -/
theorem Dr.fold {g : GD} {e : SE Rw} {P : D → Prop} : ∀ (xs : List D), (∀ x ∈ xs, ∃ e2, g x env = some e2 ∧ Dr am sa ga c (e e2) P) → Dr am sa ga (xs.length * c) (fun r => cFold g bT e env xs r) (fun ys => ys.length = xs.length ∧ ∀ y ∈ ys, P y)
  | [], _ => (Dr.pure (fun r => rfl) ⟨rfl, fun y h => absurd h (by simp)⟩ : Dr am sa ga 0 (fun r => cFold g bT e env [] r) (fun ys => ys.length = ([] : List D).length ∧ ∀ y ∈ ys, P y)).le (Nat.zero_le _)
  | x :: xs, h => fun t r hs hl => by
    rw [List.length_cons, Nat.succ_mul] at hl
    obtain ⟨e2, hg, hd⟩ := h x (List.mem_cons_self ..)
    obtain ⟨a, r1, e1, q1, s1⟩ := hd t r hs (by omega)
    obtain ⟨ys, r2, e3, ⟨q2, q3⟩, s2⟩ := Dr.fold xs (fun y hy => h y (List.mem_cons_of_mem _ hy)) _ r1 s1 (by omega)
    refine ⟨a :: ys, r2, ?_, ⟨by rw [List.length_cons, q2, List.length_cons], fun y hy => ?_⟩, s2.mono (by rw [List.length_cons, Nat.succ_mul]; omega)⟩
    · show cFold g bT e env (x :: xs) r = _
      rw [cFold_cons, hg, Option.bind_some]
      show Option.bind (e e2 r) _ = _
      rw [e1, Option.bind_some]
      show Option.map _ (cFold g bT e env xs r1) = _
      rw [show cFold g bT e env xs r1 = some (ys, r2) from e3]; rfl
    · rcases List.mem_cons.mp hy with z | z
      · exact z ▸ q1
      · exact q3 y z
theorem Dr.comp {fa : SA Rw} {g : GD} {e : SE Rw} {vs : List Nat} {P : D → Prop} {Q : D → Prop} {k : Nat} (ha : Dr am sa ga c1 (fa env) fun xs => xs.length ≤ k ∧ ∀ x ∈ xs, ∃ e2, g x (wipeE env vs) = some e2 ∧ Dr am sa ga c (e e2) P)
    (hk : k ≤ big) (q : ∀ xs, xs.length ≤ k → (∀ x ∈ xs, P x) → Q (.lst xs)) : Dr am sa ga (c1 + k * c) (eComp fa g bT e vs env) Q := fun t r hs hl => by
  obtain ⟨xs, r1, e1, ⟨q1, q2⟩, s1⟩ := ha t r hs (by omega)
  have hm : xs.length * c ≤ k * c := Nat.mul_le_mul_right c q1
  obtain ⟨ys, r2, e2, ⟨q3, q4⟩, s2⟩ := Dr.fold xs q2 _ r1 s1 (by omega)
  refine ⟨.lst ys, r2, ?_, q ys (by omega) q4, s2.mono (by omega)⟩
  unfold eComp
  rw [e1, Option.bind_some]
  show (cFold g bT e (wipeE env vs) xs r1).bind _ = _
  rw [show cFold g bT e (wipeE env vs) xs r1 = some (ys, r2) from e2, Option.bind_some]
  show (if ys.length ≤ big then _ else _) = _
  rw [if_pos (by omega)]
/-- the same, of a known length -/
theorem Dr.compN {fa : SA Rw} {g : GD} {e : SE Rw} {vs : List Nat} {P : D → Prop} {Q : D → Prop} {k : Nat} (ha : Dr am sa ga c1 (fa env) fun xs => xs.length = k ∧ ∀ x ∈ xs, ∃ e2, g x (wipeE env vs) = some e2 ∧ Dr am sa ga c (e e2) P)
    (hk : k ≤ big) (q : ∀ xs, xs.length = k → (∀ x ∈ xs, P x) → Q (.lst xs)) : Dr am sa ga (c1 + k * c) (eComp fa g bT e vs env) Q := fun t r hs hl => by
  obtain ⟨xs, r1, e1, ⟨q1, q2⟩, s1⟩ := ha t r hs (by omega)
  have hm : xs.length * c = k * c := by rw [q1]
  obtain ⟨ys, r2, e2, ⟨q3, q4⟩, s2⟩ := Dr.fold xs q2 _ r1 s1 (by omega)
  refine ⟨.lst ys, r2, ?_, q ys (by omega) q4, s2.mono (by omega)⟩
  unfold eComp
  rw [e1, Option.bind_some]
  show (cFold g bT e (wipeE env vs) xs r1).bind _ = _
  rw [show cFold g bT e (wipeE env vs) xs r1 = some (ys, r2) from e2, Option.bind_some]
  show (if ys.length ≤ big then _ else _) = _
  rw [if_pos (by omega)]
/-- a loop whose suite goes on -/
theorem DrN.foldI {g : GD} {b : SS Rw} {I : Nat → DL.Env → Prop} : ∀ (xs : List D) (n : Nat) (env : DL.Env), I n env → (∀ (j : Nat) (x : D) (e : DL.Env), xs[j]? = some x → I (n + j) e → ∃ e2, g x e = some e2 ∧ DrN am sa ga c (b e2) (I (n + j + 1))) → DrN am sa ga (xs.length * c) (sFold g b xs env) (I (n + xs.length))
  | [], n, env, h, _ => (fun t r hs _ => ⟨env, r, rfl, h, hs.mono (by omega)⟩ : DrN am sa ga _ _ _)
  | x :: xs, n, env, h, k => fun t r hs hl => by
    rw [List.length_cons, Nat.succ_mul] at hl
    obtain ⟨e2, hg, hd⟩ := k 0 x env rfl h
    obtain ⟨a, r1, e1, q1, s1⟩ := hd t r hs (by omega)
    obtain ⟨e3, r2, f3, q2, s2⟩ := DrN.foldI xs (n + 1) a q1 (fun j y e hy hi => by
      have := k (j + 1) y e (by simpa using hy) (by rw [show n + (j + 1) = n + 1 + j from by omega]; exact hi)
      rw [show n + 1 + j + 1 = n + (j + 1) + 1 from by omega]
      exact this) _ r1 s1 (by omega)
    refine ⟨e3, r2, ?_, by rw [List.length_cons, show n + (xs.length + 1) = n + 1 + xs.length from by omega]; exact q2, s2.mono (by rw [List.length_cons, Nat.succ_mul]; omega)⟩
    rw [sFold_nx hg e1, f3]
end
theorem Dr.draw {am sa ga : Addr} {lim : Int} (hl : 0 < lim ∧ lim < 1073741824) : Dr am sa ga 1 (g_law_draw [.raw (.ref am), .int lim]) fun d => ∃ k : Int, d = .int k ∧ 0 ≤ k ∧ k < lim := fun t r hs h => by
  obtain ⟨small, great, n, e, ho, h0, h1⟩ := hs
  subst e
  have hn : 0 ≤ n ∧ n < 2 ^ 59 := ⟨h0, by simp only [lim0] at h; omega⟩
  by_cases hg : great = []
  · subst hg
    obtain ⟨k, k0, k1, e⟩ := draw0 (am := am) (sa := sa) (ga := ga) ho hn hl.1
    exact ⟨_, _, e, ⟨k, rfl, k0, k1⟩, small, [], n + 1, rfl, ho, by omega, by omega⟩
  · obtain ⟨k, g2, k0, k1, _, e⟩ := draw1 (am := am) (sa := sa) (ga := ga) ho hg hn hl
    exact ⟨_, _, e, ⟨k, rfl, k0, k1⟩, small, g2, n + 1, rfl, ho, by omega, by omega⟩
theorem atI_mem {xs : List D} {k : Int} (h0 : 0 ≤ k) (h1 : k < xs.length) : ∃ x, atI xs k = some x ∧ x ∈ xs := by
  have hk : k.toNat < xs.length := by omega
  refine ⟨xs[k.toNat], ?_, List.getElem_mem hk⟩
  unfold atI ixN
  rw [if_pos h0, if_pos (by omega)]
  show xs[k.toNat]? = _
  rw [List.getElem?_eq_getElem hk]
/-- one of some things -/
theorem Dr.of {am sa ga : Addr} {x : D} {xs : List D} (hx : x = .tup xs ∨ x = .lst xs) (hn : xs ≠ []) (hb : xs.length < 1000000) : Dr am sa ga 1 (g_law_of [.raw (.ref am), x]) fun d => d ∈ xs := by
  have hp : 0 < xs.length := List.length_pos_iff.mpr hn
  refine Dr.gOf (DrR.ret ?_)
  have hl : lenD x = some (.int (xs.length : Nat)) := by rcases hx with h | h <;> subst h <;> rfl
  refine (Dr.bin (c1 := 0) (c2 := 1) (P1 := fun d => d = x) (P2 := fun d => ∃ k : Int, d = .int k ∧ 0 ≤ k ∧ k < (xs.length : Nat)) (Dr.var rfl rfl) ?_ ?_).le (by decide)
  · refine (Dr.call (c1 := 0) (c2 := 1) (P := fun ds => ds = [.raw (.ref am), .int (xs.length : Nat)]) (Dr.pure (fun r => ?_) rfl) fun ds e => e ▸ Dr.draw (by omega)).le (by decide)
    have a1 : (eUn (ρ := Rw) lenD (eVar 1)) (startE N_law_of [.raw (.ref am), x]) r = some (.int (xs.length : Nat), r) := by
      show Option.map _ (lenD x) = _
      rw [hl]; rfl
    unfold aCons aNil
    rw [show (eVar (ρ := Rw) 0) (startE N_law_of [.raw (.ref am), x]) r = some (.raw (.ref am), r) from rfl, Option.bind_some, a1]
    rfl
  · intro a b ea ⟨k, eb, k0, k1⟩
    subst ea; subst eb
    obtain ⟨y, e, hy⟩ := atI_mem k0 k1
    refine ⟨y, ?_, hy⟩
    rcases hx with h | h <;> subst h <;> exact e
end Q
end
section
set_option Elab.async false
set_option linter.all false
set_option maxRecDepth 100000
set_option maxHeartbeats 400000
namespace Q
open PySem PySem.Spec PyProof.Rows L2 DL
theorem eq_ii {i j : Int} : eqD (.int i) (.int j) = some (.bl (decide (i = j))) := by
  show Option.map D.bl (if true = true then some (decide (V.int i = V.int j)) else none) = _
  rw [if_pos rfl, Option.map_some]
  congr 2
  rw [Bool.eq_iff_iff]; simp
section
variable {am sa ga : Addr} {c c1 c2 : Nat} {env : DL.Env}
theorem Dr.callP {n : Nat} {g : List D → Rw → Option (D × Rw)} {f : SA Rw} {ds : List D} {Q : D → Prop} (h : ∀ r, f env r = some (ds, r)) (k : Dr am sa ga c (g ds) Q) : Dr am sa ga c (eCall n g f env) Q :=
  (Dr.call (c1 := 0) (P := fun x => x = ds) (Dr.pure h rfl) fun x e => e ▸ k).le (by omega)
theorem lt_len {i n : Nat} (h : env.length = n) (k : i < n) : i < env.length := h ▸ k
theorem cond_eq {f : SE Rw} {i j : Int} {b : Bool} {r : Rw} (h : f env r = some (.int i, r)) (hb : b = decide (i = j)) : bOf (eBin eqD f (eC (.int j))) env r = some (b, r) := by
  unfold bOf eBin eC
  rw [h, Option.bind_some, Option.bind_some, eq_ii, hb]; rfl
theorem cond_lt {f : SE Rw} {i j : Int} {b : Bool} {r : Rw} (h : f env r = some (.int i, r)) (hb : b = decide (i < j)) : bOf (eBin ltD f (eC (.int j))) env r = some (b, r) := by
  unfold bOf eBin eC
  rw [h, Option.bind_some, Option.bind_some, hb]; rfl
theorem bOr_t1 {f g : SB Rw} {r : Rw} (h : f env r = some (true, r)) : bOr f g env r = some (true, r) := by
  unfold bOr; rw [h]; rfl
theorem bOr_f1 {f g : SB Rw} {r : Rw} {b : Bool} (h : f env r = some (false, r)) (k : g env r = some (b, r)) : bOr f g env r = some (b, r) := by
  unfold bOr; rw [h, Option.bind_some]
  show (if false = true then _ else g env r) = _
  rw [if_neg (by decide), k]
end
def QT (deep : Nat) (d : D) : Prop := ∃ t : T, d = t.d ∧ t.ok ∧ t.deep ≤ deep ∧ t.size + 1 ≤ 2 ^ (deep + 1)
theorem term_dr {am sa ga : Addr} {nms : List Str} (hn : nms ≠ []) (hl : nms.length ≤ 100) (hN : ∀ x ∈ nms, Nm x) : ∀ (j deep : Nat), deep < j → Dr am sa ga (4 ^ j) (g_law_term j [.raw (.ref am), .lst (nms.map .str), .int (deep : Nat)]) (QT deep)
  | 0, _, h => absurd h (Nat.not_lt_zero _)
  | j + 1, deep, h => by
    have h4 : 4 ^ (j + 1) = 4 * 4 ^ j := by rw [Nat.pow_succ, Nat.mul_comm]
    have h41 : 1 ≤ 4 ^ j := Nat.one_le_pow _ _ (by decide)
    show Dr am sa ga _ (gOf N_law_term (b_law_term (g_law_term j)) _) _
    refine Dr.gOf ?_
    unfold b_law_term
    refine (DrR.asg (c1 := 1) (c2 := 2 * 4 ^ j + 1) (lt_len (n := 5) rfl (by decide)) (Dr.callP (fun r => rfl) (Dr.draw (lim := 10) (by decide))) ?_).le (by omega)
    rintro d ⟨k, rfl, k0, k1⟩
    by_cases hc : deep = 0 ∨ k = 0
    · refine DrR.ifRet (fun r => ?_) ?_
      · by_cases h0 : deep = 0
        · exact bOr_t1 (cond_eq (i := (deep : Int)) rfl (decide_eq_true (by omega)).symm)
        · exact bOr_f1 (cond_eq (i := (deep : Int)) rfl (decide_eq_false (by omega)).symm) (cond_eq (i := k) rfl (decide_eq_true (by omega)).symm)
      refine (DrR.asg (c1 := 1) (c2 := 1) (lt_len (n := 5) rfl (by decide)) (Dr.callP (fun r => rfl) (Dr.draw (lim := 12) (by decide))) ?_).le (by omega)
      rintro d ⟨l, rfl, l0, l1⟩
      refine DrR.ret ?_
      have hp : 2 ≤ 2 ^ (deep + 1) := by rw [Nat.pow_succ]; have := Nat.one_le_pow deep 2 (by decide); omega
      by_cases e0 : l = 0
      · exact Dr.ifT (fun r => cond_eq (i := l) rfl (decide_eq_true e0).symm) ((Dr.pure (a := T.yes.d) (fun r => rfl) ⟨.yes, rfl, trivial, Nat.zero_le _, hp⟩ : Dr am sa ga 0 _ (QT deep)).le (by omega))
      · refine Dr.ifF (fun r => cond_eq (i := l) rfl (decide_eq_false e0).symm) ?_
        by_cases e1 : l = 1
        · exact Dr.ifT (fun r => cond_eq (i := l) rfl (decide_eq_true e1).symm) ((Dr.pure (a := T.no.d) (fun r => rfl) ⟨.no, rfl, trivial, Nat.zero_le _, hp⟩ : Dr am sa ga 0 _ (QT deep)).le (by omega))
        · refine Dr.ifF (fun r => cond_eq (i := l) rfl (decide_eq_false e1).symm) ?_
          refine (Dr.tup (c := 1) (P := fun ds => ∃ x ∈ nms, ds = [.str "letter", .str x]) ((Dr.cons (c1 := 0) (c2 := 1) (P := fun d => d = .str "letter") (R := fun ds => ∃ x ∈ nms, ds = [.str x]) (Dr.con rfl) ((Dr.cons (c1 := 1) (c2 := 0) (P := fun d => d ∈ nms.map D.str) (R := fun ds => ds = []) (Dr.callP (fun r => rfl) (Dr.of (xs := nms.map D.str) (.inr rfl) (by simpa using hn) (by rw [List.length_map]; omega))) (Dr.nil rfl) ?_).le (by decide)) ?_).le (by decide)) ?_)
          · rintro a b ha rfl
            obtain ⟨x, hx, rfl⟩ := List.mem_map.mp ha
            exact ⟨x, hx, rfl⟩
          · rintro a b rfl ⟨x, hx, rfl⟩
            exact ⟨x, hx, rfl⟩
          · rintro ds ⟨x, hx, rfl⟩
            exact ⟨.lt x, rfl, hN x hx, Nat.zero_le _, hp⟩
    · have hd : deep ≠ 0 := fun e => hc (.inl e)
      have hk : k ≠ 0 := fun e => hc (.inr e)
      obtain ⟨e, rfl⟩ : ∃ e, deep = e + 1 := ⟨deep - 1, by omega⟩
      have he : (((e + 1 : Nat) : Int) - 1) = (e : Int) := by omega
      refine DrR.ifNo (fun r => bOr_f1 (cond_eq (i := ((e + 1 : Nat) : Int)) rfl (decide_eq_false (by omega)).symm) (cond_eq (i := k) rfl (decide_eq_false hk).symm)) ?_
      have ih := term_dr (am := am) (sa := sa) (ga := ga) hn hl hN j e (by omega)
      rw [← he] at ih
      have cl : Dr am sa ga (4 ^ j) (eCall 3 (g_law_term j) (aCons (eVar 0) (aCons (eVar 1) (aCons (eBin subD (eVar 2) (eC (.int 1))) aNil))) [some (.raw (.ref am)), some (.lst (nms.map .str)), some (.int ((e + 1 : Nat) : Int)), some (.int k), none]) (QT e) :=
        Dr.callP (fun r => rfl) ih
      have hp2 : 2 ^ (e + 1 + 1) = 2 * 2 ^ (e + 1) := by rw [Nat.pow_succ, Nat.mul_comm]
      by_cases h3 : k < 4
      · refine DrR.ifRet (fun r => cond_lt (i := k) rfl (decide_eq_true h3).symm) (DrR.ret ?_)
        refine (Dr.tup (c := 4 ^ j) (P := fun ds => ∃ x, QT e x ∧ ds = [.str "not", x]) ((Dr.cons (c1 := 0) (c2 := 4 ^ j) (P := fun d => d = .str "not") (R := fun ds => ∃ x, QT e x ∧ ds = [x]) (Dr.con rfl) ((Dr.cons (c1 := 4 ^ j) (c2 := 0) (P := QT e) (R := fun ds => ds = []) cl (Dr.nil rfl) ?_).le (by omega)) ?_).le (by omega)) ?_).le (by omega)
        · rintro a b ha rfl
          exact ⟨a, ha, rfl⟩
        · rintro a b rfl ⟨x, hx, rfl⟩
          exact ⟨x, hx, rfl⟩
        · rintro ds ⟨x, ⟨t, rfl, t1, t2, t3⟩, rfl⟩
          exact ⟨.nt t, rfl, t1, by simp only [T.deep]; omega, by simp only [T.size]; omega⟩
      · refine DrR.ifNo (fun r => cond_lt (i := k) rfl (decide_eq_false h3).symm) (DrR.ret ?_)
        refine (Dr.tup (c := 2 * 4 ^ j) (P := fun ds => ∃ o x y, (o = .str "and" ∨ o = .str "or") ∧ QT e x ∧ QT e y ∧ ds = [o, x, y]) ((Dr.cons (c1 := 0) (c2 := 2 * 4 ^ j) (P := fun o => o = .str "and" ∨ o = .str "or") (R := fun ds => ∃ x y, QT e x ∧ QT e y ∧ ds = [x, y]) ?_ ((Dr.cons (c1 := 4 ^ j) (c2 := 4 ^ j) (P := QT e) (R := fun ds => ∃ y, QT e y ∧ ds = [y]) cl ((Dr.cons (c1 := 4 ^ j) (c2 := 0) (P := QT e) (R := fun ds => ds = []) cl (Dr.nil rfl) ?_).le (by omega)) ?_).le (by omega)) ?_).le (by omega)) ?_).le (by omega)
        · by_cases h6 : k < 7
          · exact Dr.ifT (fun r => cond_lt (i := k) rfl (decide_eq_true h6).symm) (Dr.con (.inl rfl))
          · exact Dr.ifF (fun r => cond_lt (i := k) rfl (decide_eq_false h6).symm) (Dr.con (.inr rfl))
        · rintro a b ha rfl
          exact ⟨a, ha, rfl⟩
        · rintro a b ha ⟨x, hx, rfl⟩
          exact ⟨a, x, ha, hx, rfl⟩
        · rintro a b ha ⟨x, y, hx, hy, rfl⟩
          exact ⟨a, x, y, ha, hx, hy, rfl⟩
        · rintro ds ⟨o, x, y, ho, ⟨t, rfl, t1, t2, t3⟩, ⟨u, rfl, u1, u2, u3⟩, rfl⟩
          rcases ho with rfl | rfl
          · exact ⟨.an t u, rfl, ⟨t1, u1⟩, by simp only [T.deep]; omega, by simp only [T.size]; omega⟩
          · exact ⟨.or t u, rfl, ⟨t1, u1⟩, by simp only [T.deep]; omega, by simp only [T.size]; omega⟩
end Q
end
section
set_option Elab.async false
set_option linter.all false
set_option maxRecDepth 100000
set_option maxHeartbeats 400000
namespace Q
open PySem PySem.Spec PyProof.Rows L2 DL
def small (t : T) : Prop := t.ok ∧ t.deep ≤ 3 ∧ t.size ≤ 15
def smallP (p : T × T) : Prop := small p.1 ∧ small p.2
theorem small.fine {t : T} (h : small t) : t.fine := ⟨h.1, by have := h.2.2; omega, by have := h.2.1; omega⟩
theorem QT.small {n : Nat} {d : D} (h : QT n d) (k : n ≤ 3) : ∃ t : T, d = t.d ∧ Q.small t := by
  obtain ⟨t, e, h1, h2, h3⟩ := h
  have : 2 ^ (n + 1) ≤ 2 ^ 4 := Nat.pow_le_pow_right (by decide) (by omega)
  exact ⟨t, e, h1, by omega, by omega⟩
theorem list_ex {α : Type} {f : α → D} {P : α → Prop} : ∀ {xs : List D}, (∀ x ∈ xs, ∃ a, x = f a ∧ P a) → ∃ as : List α, xs = as.map f ∧ ∀ a ∈ as, P a
  | [], _ => ⟨[], rfl, fun _ h => absurd h (by simp)⟩
  | x :: xs, h => by
    obtain ⟨a, e, p⟩ := h x (List.mem_cons_self ..)
    obtain ⟨as, e2, q⟩ := list_ex fun y hy => h y (List.mem_cons_of_mem _ hy)
    refine ⟨a :: as, by rw [List.map_cons, e, e2], fun y hy => ?_⟩
    rcases List.mem_cons.mp hy with z | z
    · exact z ▸ p
    · exact q y z
section
variable {am sa ga : Addr} {c c1 c2 : Nat} {env : DL.Env} {nms : List Str}
theorem Dr.rng {f : SE Rw} {K : Nat} (h : Dr am sa ga c (f env) fun d => ∃ k : Nat, d = .int k ∧ k ≤ K) (hK : K < 100000) : Dr am sa ga c (iRng rng1B (aCons f aNil) env) fun xs => xs.length ≤ K := fun t r hs hl => by
  obtain ⟨d, r1, e1, ⟨k, rfl, hk⟩, s1⟩ := h t r hs hl
  refine ⟨rangeD 0 1 k, r1, ?_, by show (rangeD 0 1 k).length ≤ K; unfold rangeD; rw [List.length_map, List.length_range]; exact hk, s1⟩
  have e : rng1B [.int (k : Int)] = some (rangeD 0 1 k) := by
    have e0 : ∀ n : Int, rng1B [.int n] = if -(2 ^ 62) < n ∧ n < 2 ^ 62 then some (rangeD 0 1 n.toNat) else none := fun _ => rfl
    rw [e0, if_pos (by omega), Int.toNat_natCast]
  unfold iRng aCons aNil
  rw [e1, Option.bind_some, Option.map_some, Option.bind_some, e]; rfl
theorem Dr.rngN {f : SE Rw} {K : Nat} (h : Dr am sa ga c (f env) fun d => d = .int K) (hK : K < 100000) : Dr am sa ga c (iRng rng1B (aCons f aNil) env) fun xs => xs.length = K := fun t r hs hl => by
  obtain ⟨d, r1, e1, rfl, s1⟩ := h t r hs hl
  refine ⟨rangeD 0 1 K, r1, ?_, by show (rangeD 0 1 K).length = K; unfold rangeD; rw [List.length_map, List.length_range], s1⟩
  have e : rng1B [.int (K : Int)] = some (rangeD 0 1 K) := by
    have e0 : ∀ n : Int, rng1B [.int n] = if -(2 ^ 62) < n ∧ n < 2 ^ 62 then some (rangeD 0 1 n.toNat) else none := fun _ => rfl
    rw [e0, if_pos (by omega), Int.toNat_natCast]
  unfold iRng aCons aNil
  rw [e1, Option.bind_some, Option.map_some, Option.bind_some, e]; rfl
/-- a drawn term of a drawn depth -/
theorem Dr.term {i k : Nat} {f : SE Rw} (hn : nms ≠ []) (hl : nms.length ≤ 100) (hN : ∀ x ∈ nms, Nm x) (hi : env[i]? = some (some (.raw (.ref am)))) (hk : env[k]? = some (some (.lst (nms.map .str)))) (hf : Dr am sa ga 1 (f env) fun d => ∃ n : Nat, d = .int n ∧ n ≤ 3) :
    Dr am sa ga 5000 (eCall 3 (g_law_term fuel_law_term) (aCons (eVar i) (aCons (eVar k) (aCons f aNil))) env) fun d => ∃ t : T, d = t.d ∧ small t := by
  refine (Dr.call (c1 := 1) (c2 := 4 ^ 6) (P := fun ds => ∃ n : Nat, n ≤ 3 ∧ ds = [.raw (.ref am), .lst (nms.map .str), .int n]) ?_ ?_).le (by decide)
  · refine (Dr.cons (c1 := 0) (c2 := 1) (P := fun d => d = .raw (.ref am)) (R := fun ds => ∃ n : Nat, n ≤ 3 ∧ ds = [.lst (nms.map .str), .int n]) (Dr.var hi rfl) ((Dr.cons (c1 := 0) (c2 := 1) (P := fun d => d = .lst (nms.map .str)) (R := fun ds => ∃ n : Nat, n ≤ 3 ∧ ds = [.int n]) (Dr.var hk rfl) ((Dr.cons (c1 := 1) (c2 := 0) (R := fun ds => ds = []) hf (Dr.nil rfl) ?_).le (by decide)) ?_).le (by decide)) ?_).le (by decide)
    · rintro a b ⟨n, rfl, hn⟩ rfl
      exact ⟨n, hn, rfl⟩
    · rintro a b rfl ⟨n, hn, rfl⟩
      exact ⟨n, hn, rfl⟩
    · rintro a b rfl ⟨n, hn, rfl⟩
      exact ⟨n, hn, rfl⟩
  · rintro ds ⟨n, h3, rfl⟩
    exact (term_dr hn hl hN 6 n (by omega)).imp fun d h => h.small h3
/-- a pair of two drawn things -/
theorem Dr.pair {f g : SE Rw} {P R : D → Prop} (h1 : Dr am sa ga c1 (f env) P) (h2 : Dr am sa ga c2 (g env) R) : Dr am sa ga (c1 + c2) (eTup (aCons f (aCons g aNil)) env) fun d => ∃ a b, P a ∧ R b ∧ d = .tup [a, b] := by
  refine Dr.tup (P := fun ds => ∃ a b, P a ∧ R b ∧ ds = [a, b]) (Dr.cons (R := fun ds => ∃ b, R b ∧ ds = [b]) h1 ((Dr.cons (c1 := c2) (c2 := 0) (R := fun ds => ds = []) h2 (Dr.nil rfl) ?_).le (by omega)) ?_) ?_
  · rintro a b ha rfl; exact ⟨a, ha, rfl⟩
  · rintro a b ha ⟨x, hx, rfl⟩; exact ⟨a, x, ha, hx, rfl⟩
  · rintro ds ⟨a, b, ha, hb, rfl⟩; exact ⟨a, b, ha, hb, rfl⟩
theorem Dr.pair3 {f g h : SE Rw} {c3 : Nat} {P R S : D → Prop} (h1 : Dr am sa ga c1 (f env) P) (h2 : Dr am sa ga c2 (g env) R) (h3 : Dr am sa ga c3 (h env) S) : Dr am sa ga (c1 + (c2 + c3)) (eTup (aCons f (aCons g (aCons h aNil))) env) fun d => ∃ a b c, P a ∧ R b ∧ S c ∧ d = .tup [a, b, c] := by
  refine Dr.tup (P := fun ds => ∃ a b c, P a ∧ R b ∧ S c ∧ ds = [a, b, c]) (Dr.cons (R := fun ds => ∃ b c, R b ∧ S c ∧ ds = [b, c]) h1 (Dr.cons (R := fun ds => ∃ b, S b ∧ ds = [b]) h2 ((Dr.cons (c1 := c3) (c2 := 0) (R := fun ds => ds = []) h3 (Dr.nil rfl) ?_).le (by omega)) ?_) ?_) ?_
  · rintro a b ha rfl; exact ⟨a, ha, rfl⟩
  · rintro a b ha ⟨x, hx, rfl⟩; exact ⟨a, x, ha, hx, rfl⟩
  · rintro a b ha ⟨x, y, hx, hy, rfl⟩; exact ⟨a, x, y, ha, hx, hy, rfl⟩
  · rintro ds ⟨a, b, c, ha, hb, hc, rfl⟩; exact ⟨a, b, c, ha, hb, hc, rfl⟩
theorem pairs_ex {xs : List D} (h : ∀ x ∈ xs, ∃ a b : D, (∃ t : T, a = t.d ∧ small t) ∧ (∃ t : T, b = t.d ∧ small t) ∧ x = .tup [a, b]) : ∃ ps : List (T × T), xs = ps.map pD ∧ ∀ p ∈ ps, smallP p :=
  list_ex fun x hx => by
    obtain ⟨a, b, ⟨t, rfl, ht⟩, ⟨u, rfl, hu⟩, rfl⟩ := h x hx
    exact ⟨(t, u), rfl, ht, hu⟩
/-- so many drawn pairs -/
theorem Dr.pairs (hn : nms ≠ []) (hl : nms.length ≤ 100) (hN : ∀ x ∈ nms, Nm x) {many deep : Nat} (hm : many ≤ 20) (hd : deep ≤ 3) : Dr am sa ga 200000 (g_law_pairs [.raw (.ref am), .lst (nms.map .str), .int many, .int deep]) fun d => ∃ ps : List (T × T), d = .tup (ps.map pD) ∧ ps.length ≤ many ∧ ∀ p ∈ ps, smallP p := by
  refine Dr.gOf (DrR.ret ?_)
  refine ((Dr.un (P1 := fun d => ∃ ps : List (T × T), d = .lst (ps.map pD) ∧ ps.length ≤ many ∧ ∀ p ∈ ps, smallP p) (Dr.comp (c1 := 0) (c := 10000) (k := many) (P := fun x => ∃ a b : D, (∃ t : T, a = t.d ∧ small t) ∧ (∃ t : T, b = t.d ∧ small t) ∧ x = .tup [a, b]) ?_ (Nat.le_trans hm (by decide)) ?_) ?_).le (by omega))
  · refine (Dr.rng (Dr.pure (a := .int many) (fun r => rfl) ⟨many, rfl, Nat.le_refl _⟩) (by omega)).imp fun xs hx => ⟨hx, fun x _ => ⟨[some (.raw (.ref am)), some (.lst (nms.map .str)), some (.int many), some (.int deep), some x], rfl, ?_⟩⟩
    have dr : Dr am sa ga 1 ((eCall 2 g_law_draw (aCons (eVar 0) (aCons (eBin addD (eVar 3) (eC (.int 1))) aNil))) [some (.raw (.ref am)), some (.lst (nms.map .str)), some (.int many), some (.int deep), some x]) fun d => ∃ n : Nat, d = .int n ∧ n ≤ 3 := by
      refine (Dr.callP (fun r => rfl) (Dr.draw (lim := (deep : Int) + 1) (by omega))).imp ?_
      rintro d ⟨k, rfl, k0, k1⟩
      exact ⟨k.toNat, by rw [Int.toNat_of_nonneg k0], by omega⟩
    have tc := Dr.term (i := 0) (k := 1) hn hl hN (env := [some (.raw (.ref am)), some (.lst (nms.map .str)), some (.int many), some (.int deep), some x]) rfl rfl dr
    exact (Dr.pair tc tc).le (by decide)
  · intro xs hx h
    obtain ⟨ps, rfl, hp⟩ := pairs_ex h
    exact ⟨ps, rfl, by simpa using hx, hp⟩
  · rintro a ⟨ps, rfl, h⟩
    exact ⟨.tup (ps.map pD), rfl, ps, rfl, h⟩
/-- a drawn signature -/
theorem Dr.sign (hn : nms ≠ []) (hl : nms.length ≤ 100) (hN : ∀ x ∈ nms, Nm x) {nm : Str} {cl : Nat} (hc : cl ≤ 20) : Dr am sa ga 300000 (g_law_signature [.raw (.ref am), .str nm, .lst (nms.map .str), .int cl]) fun d => ∃ s : Sg, d = s.d ∧ s.name = nm ∧ s.rows.length = cl ∧ s.fur.length ≤ 2 ∧ (∀ p ∈ s.rows, smallP p) ∧ ∀ t ∈ s.fur, small t := by
  refine Dr.gOf ?_
  unfold b_law_signature
  refine (DrR.asg (c1 := 0 + cl * 10000) (c2 := 50000) (lt_len (n := 6) rfl (by decide)) (P := fun d => ∃ ps : List (T × T), d = .tup (ps.map pD) ∧ ps.length = cl ∧ ∀ p ∈ ps, smallP p) ?_ ?_).le (by omega)
  · refine (Dr.un (P1 := fun d => ∃ ps : List (T × T), d = .lst (ps.map pD) ∧ ps.length = cl ∧ ∀ p ∈ ps, smallP p) (Dr.compN (c1 := 0) (c := 10000) (k := cl) (P := fun x => ∃ a b : D, (∃ t : T, a = t.d ∧ small t) ∧ (∃ t : T, b = t.d ∧ small t) ∧ x = .tup [a, b]) ?_ (Nat.le_trans hc (by decide)) ?_) ?_)
    · refine (Dr.rngN (K := cl) (Dr.pure (a := .int cl) (fun r => rfl) rfl) (by omega)).imp fun xs hx => ⟨hx, fun x _ => ⟨[some (.raw (.ref am)), some (.str nm), some (.lst (nms.map .str)), some (.int cl), none, some x], rfl, ?_⟩⟩
      have dr : Dr am sa ga 1 ((eCall 2 g_law_draw (aCons (eVar 0) (aCons (eC (.int 2)) aNil))) [some (.raw (.ref am)), some (.str nm), some (.lst (nms.map .str)), some (.int cl), none, some x]) fun d => ∃ n : Nat, d = .int n ∧ n ≤ 3 := by
        refine (Dr.callP (fun r => rfl) (Dr.draw (lim := 2) (by decide))).imp ?_
        rintro d ⟨k, rfl, k0, k1⟩
        exact ⟨k.toNat, by rw [Int.toNat_of_nonneg k0], by omega⟩
      have tc := Dr.term (i := 0) (k := 2) hn hl hN (env := [some (.raw (.ref am)), some (.str nm), some (.lst (nms.map .str)), some (.int cl), none, some x]) rfl rfl dr
      exact (Dr.pair tc tc).le (by decide)
    · intro xs hx h
      obtain ⟨ps, rfl, hp⟩ := pairs_ex h
      exact ⟨ps, rfl, by simpa using hx, hp⟩
    · rintro a ⟨ps, rfl, h⟩
      exact ⟨.tup (ps.map pD), rfl, ps, rfl, h⟩
  · rintro d ⟨ps, rfl, h1, h2⟩
    refine DrR.ret ?_
    refine ((Dr.pair3 (c1 := 0) (c2 := 0) (c3 := 1 + 2 * 5000) (P := fun d => d = .str nm) (R := fun d => d = .tup (ps.map pD)) (S := fun d => ∃ ts : List T, d = .tup (ts.map T.d) ∧ ts.length ≤ 2 ∧ ∀ t ∈ ts, small t) (Dr.var rfl rfl) (Dr.var rfl rfl) ?_).imp ?_).le (by decide)
    · refine (Dr.un (P1 := fun d => ∃ ts : List T, d = .lst (ts.map T.d) ∧ ts.length ≤ 2 ∧ ∀ t ∈ ts, small t) (Dr.comp (c1 := 1) (c := 5000) (k := 2) (P := fun x => ∃ t : T, x = t.d ∧ small t) ?_ (by decide) ?_) ?_)
      · have dr : Dr am sa ga 1 ((eCall 2 g_law_of (aCons (eVar 0) (aCons (eLst (aCons (eC (.int 0)) (aCons (eC (.int 0)) (aCons (eC (.int 0)) (aCons (eC (.int 1)) (aCons (eC (.int 2)) aNil)))))) aNil))) [some (.raw (.ref am)), some (.str nm), some (.lst (nms.map .str)), some (.int cl), some (.tup (ps.map pD)), none]) fun d => ∃ k : Nat, d = .int k ∧ k ≤ 2 := by
          refine (Dr.callP (fun r => rfl) (Dr.of (xs := [.int 0, .int 0, .int 0, .int 1, .int 2]) (.inr rfl) (by simp) (by simp))).imp ?_
          intro d hd
          simp only [List.mem_cons, List.not_mem_nil, or_false] at hd
          rcases hd with z | z | z | z | z <;> subst z
          · exact ⟨0, rfl, by decide⟩
          · exact ⟨0, rfl, by decide⟩
          · exact ⟨0, rfl, by decide⟩
          · exact ⟨1, rfl, by decide⟩
          · exact ⟨2, rfl, by decide⟩
        refine (Dr.rng dr (by decide)).imp fun xs hx => ⟨hx, fun x _ => ⟨[some (.raw (.ref am)), some (.str nm), some (.lst (nms.map .str)), some (.int cl), some (.tup (ps.map pD)), some x], rfl, ?_⟩⟩
        exact Dr.term (i := 0) (k := 2) hn hl hN rfl rfl ((Dr.con (d := .int 1) (⟨1, rfl, by decide⟩ : ∃ n : Nat, D.int 1 = .int n ∧ n ≤ 3)).le (by decide))
      · intro xs hx h
        obtain ⟨ts, rfl, hp⟩ := list_ex h
        exact ⟨ts, rfl, by simpa using hx, hp⟩
      · rintro a ⟨ps, rfl, h⟩
        exact ⟨.tup (ps.map T.d), rfl, ps, rfl, h⟩
    · rintro d ⟨a, b, c, rfl, rfl, ⟨ts, rfl, t1, t2⟩, rfl⟩
      exact ⟨⟨nm, ps, ts⟩, rfl, rfl, h1, t1, h2, t2⟩
end
end Q
end
section
set_option Elab.async false
set_option linter.all false
set_option maxRecDepth 100000
set_option maxHeartbeats 400000
namespace Q
open PySem PySem.Spec PyProof.Rows L2 DL
def QX (ss : List Sg) (kn : List Str) (deep : Nat) (d : D) : Prop := ∃ x : X, d = x.d ∧ x.ok ss kn ∧ x.deep ≤ deep ∧ x.nodes.length ≤ 4 ^ deep ∧ Plain (2 * deep + 2) d
theorem xs_of : ∀ l : List X, ∃ as : Xs, as.list = l
  | [] => ⟨.nil, rfl⟩
  | x :: l => by
    obtain ⟨as, e⟩ := xs_of l
    exact ⟨.cons x as, by rw [Xs.list, e]⟩
theorem xs_ok {ss : List Sg} {kn : List Str} : ∀ {as : Xs}, (∀ x ∈ as.list, x.ok ss kn) → as.ok ss kn
  | .nil, _ => trivial
  | .cons a as, h => ⟨h a (List.mem_cons_self ..), xs_ok fun x hx => h x (List.mem_cons_of_mem _ hx)⟩
theorem xs_deep {n : Nat} : ∀ {as : Xs}, (∀ x ∈ as.list, x.deep ≤ n) → as.deep ≤ n
  | .nil, _ => Nat.zero_le _
  | .cons a as, h => by
    have h1 := h a (List.mem_cons_self ..)
    have h2 := xs_deep (as := as) fun x hx => h x (List.mem_cons_of_mem _ hx)
    simp only [Xs.deep]; omega
theorem xs_nodes {n : Nat} : ∀ {as : Xs}, (∀ x ∈ as.list, x.nodes.length ≤ n) → as.nodes.length ≤ as.list.length * n
  | .nil, _ => Nat.zero_le _
  | .cons a as, h => by
    have h1 := h a (List.mem_cons_self ..)
    have h2 := xs_nodes (as := as) fun x hx => h x (List.mem_cons_of_mem _ hx)
    simp only [Xs.nodes, Xs.list, List.length_append, List.length_cons, Nat.succ_mul]; omega
theorem pow4 (n : Nat) : 4 ^ (n + 1) = 4 * 4 ^ n ∧ 1 ≤ 4 ^ n := ⟨by rw [Nat.pow_succ, Nat.mul_comm], Nat.one_le_pow _ _ (by decide)⟩
theorem nm_v : Nm "v" := fun _ _ => by kernel_rfl
theorem nm_w : Nm "w" := fun _ _ => by kernel_rfl
theorem bin_eq {ρ : Type} {g : D → D → Option D} {f1 f2 : SE ρ} {env : DL.Env} {r r1 r2 : ρ} {a b x : D} (h1 : f1 env r = some (a, r1)) (h2 : f2 env r1 = some (b, r2)) (h : g a b = some x) : eBin g f1 f2 env r = some (x, r2) := by
  unfold eBin; rw [h1, Option.bind_some, h2, Option.bind_some, h]; rfl
theorem un_eq {ρ : Type} {g : D → Option D} {f1 : SE ρ} {env : DL.Env} {r r1 : ρ} {a x : D} (h1 : f1 env r = some (a, r1)) (h : g a = some x) : eUn g f1 env r = some (x, r1) := by
  unfold eUn; rw [h1, Option.bind_some, h]; rfl
section
variable {am sa ga : Addr} {ss : List Sg}
theorem expr_dr (hs : ss ≠ []) (hl : ss.length ≤ 100) (hf : ∀ s ∈ ss, s.fur.length ≤ 2 ∧ Nm s.name) : ∀ (j deep : Nat) (kn : List Str), deep < j → kn ≠ [] → (∀ x ∈ kn, Nm x) → kn.length + deep ≤ 100 →
    Dr am sa ga (5 ^ j) (g_law_expression j [.raw (.ref am), .lst (ss.map Sg.d), .lst (kn.map .str), .int (deep : Nat)]) (QX ss kn deep)
  | 0, _, _, h, _, _, _ => absurd h (Nat.not_lt_zero _)
  | j + 1, deep, kn, h, hk, hN, hb => by
    have h5 : 5 ^ (j + 1) = 5 * 5 ^ j := by rw [Nat.pow_succ, Nat.mul_comm]
    have h51 : 1 ≤ 5 ^ j := Nat.one_le_pow _ _ (by decide)
    show Dr am sa ga _ (gOf N_law_expression (b_law_expression (g_law_expression j)) _) _
    refine Dr.gOf ?_
    unfold b_law_expression
    refine (DrR.asg (c1 := 1) (c2 := 4 * 5 ^ j) (lt_len (n := 8) rfl (by decide)) (Dr.callP (fun r => rfl) (Dr.draw (lim := 8) (by decide))) ?_).le (by omega)
    rintro d ⟨k, rfl, k0, k1⟩
    by_cases hc : deep = 0 ∨ k < 2
    · refine DrR.ifRet (fun r => ?_) ?_
      · by_cases h0 : deep = 0
        · exact bOr_t1 (cond_eq (i := (deep : Int)) rfl (decide_eq_true (by omega)).symm)
        · exact bOr_f1 (cond_eq (i := (deep : Int)) rfl (decide_eq_false (by omega)).symm) (cond_lt (i := k) rfl (decide_eq_true (by omega)).symm)
      refine (DrR.ret ((Dr.pair (c1 := 0) (c2 := 1) (P := fun d => d = .str "use") (R := fun d => d ∈ kn.map D.str) (Dr.con rfl) (Dr.callP (fun r => rfl) (Dr.of (xs := kn.map D.str) (.inr rfl) (by simpa using hk) (by rw [List.length_map]; omega)))).imp ?_)).le (by omega)
      rintro d ⟨a, b, rfl, hb, rfl⟩
      obtain ⟨x, hx, rfl⟩ := List.mem_map.mp hb
      refine ⟨.use x, rfl, ⟨hN x hx, hx⟩, Nat.zero_le _, ?_, ?_⟩
      · have := (pow4 deep).2
        simpa [X.nodes] using this
      · exact plain2 (plain_s _ _) (plain_s _ _)
    · have hd : deep ≠ 0 := fun e => hc (.inl e)
      have hk2 : ¬ k < 2 := fun e => hc (.inr e)
      obtain ⟨e, rfl⟩ : ∃ e, deep = e + 1 := ⟨deep - 1, by omega⟩
      have he : (((e + 1 : Nat) : Int) - 1) = (e : Int) := by omega
      have hp := pow4 e
      refine DrR.ifNo (fun r => bOr_f1 (cond_eq (i := ((e + 1 : Nat) : Int)) rfl (decide_eq_false (by omega)).symm) (cond_lt (i := k) rfl (decide_eq_false hk2).symm)) ?_
      have ih := expr_dr hs hl hf j e kn (by omega) hk hN (by omega)
      rw [← he] at ih
      by_cases h2 : k = 2
      · refine DrR.ifRet (fun r => cond_eq (i := k) rfl (decide_eq_true h2).symm) (DrR.ret ?_)
        have cl : Dr am sa ga (5 ^ j) (eCall 4 (g_law_expression j) (aCons (eVar 0) (aCons (eVar 1) (aCons (eVar 2) (aCons (eBin subD (eVar 3) (eC (.int 1))) aNil)))) [some (.raw (.ref am)), some (.lst (ss.map Sg.d)), some (.lst (kn.map .str)), some (.int ((e + 1 : Nat) : Int)), some (.int k), none, none, none]) (QX ss kn e) :=
          Dr.callP (fun r => rfl) ih
        refine ((Dr.pair3 (c1 := 0) (P := fun d => d = .str "either") (Dr.con rfl) cl cl).imp ?_).le (by omega)
        rintro d ⟨o, x, y, rfl, ⟨a, rfl, a1, a2, a3, a4⟩, ⟨b, rfl, b1, b2, b3, b4⟩, rfl⟩
        refine ⟨.ei a b, rfl, ⟨a1, b1⟩, by simp only [X.deep]; omega, by simp only [X.nodes, List.length_append, List.length_cons, List.length_nil]; omega, ?_⟩
        exact plain3 (j := 2 * (e + 1) + 1) (plain_s _ _) (a4.mono (by omega)) (b4.mono (by omega))
      · refine DrR.ifNo (fun r => cond_eq (i := k) rfl (decide_eq_false h2).symm) ?_
        by_cases h3 : k = 3
        · refine DrR.ifRet (fun r => cond_eq (i := k) rfl (decide_eq_true h3).symm) ?_
          obtain ⟨k0n, kr, rfl⟩ : ∃ a r, kn = a :: r := by
            cases kn with
            | nil => exact absurd rfl hk
            | cons a r => exact ⟨a, r, rfl⟩
          refine (DrR.asg (c1 := 1) (c2 := 3 * 5 ^ j) (lt_len (n := 8) rfl (by decide)) (P := fun d => ∃ n, Nm n ∧ d = .str n) ?_ ?_).le (by omega)
          · have kx : ixD (.lst ((k0n :: kr).map D.str)) (.int 0) = some (.str k0n) := atI_0
            refine (Dr.callP (ds := [.raw (.ref am), .lst [.str "v", .str "w", .str k0n]]) (fun r => ?_) (Dr.of (xs := [.str "v", .str "w", .str k0n]) (.inr rfl) (by simp) (by simp))).imp ?_
            · have v1 : (eLst (ρ := Rw) (aCons (eC (.str "v")) (aCons (eC (.str "w")) (aCons (eBin ixD (eVar 2) (eC (.int 0))) aNil)))) [some (.raw (.ref am)), some (.lst (ss.map Sg.d)), some (.lst ((k0n :: kr).map .str)), some (.int ((e + 1 : Nat) : Int)), some (.int k), none, none, none] r = some (.lst [.str "v", .str "w", .str k0n], r) := by
                unfold eLst aCons aNil eBin eVar eC
                simp only [Option.bind_some, Option.map_some, List.getElem?_cons_zero, List.getElem?_cons_succ, kx]
              exact args2 rfl v1
            · intro d hd
              simp only [List.mem_cons, List.not_mem_nil, or_false] at hd
              rcases hd with z | z | z <;> subst z
              · exact ⟨_, nm_v, rfl⟩
              · exact ⟨_, nm_w, rfl⟩
              · exact ⟨_, hN k0n (List.mem_cons_self ..), rfl⟩
          · rintro d ⟨n, hn, rfl⟩
            have ih2 := expr_dr hs hl hf j e ((k0n :: kr) ++ [n]) (by omega) (by simp) (fun x hx => by
              rcases List.mem_append.mp hx with z | z
              · exact hN x z
              · rw [List.mem_singleton] at z; exact z ▸ hn) (by simp only [List.length_append, List.length_cons, List.length_nil] at *; omega)
            rw [← he] at ih2
            have cl1 : Dr am sa ga (5 ^ j) (eCall 4 (g_law_expression j) (aCons (eVar 0) (aCons (eVar 1) (aCons (eVar 2) (aCons (eBin subD (eVar 3) (eC (.int 1))) aNil)))) [some (.raw (.ref am)), some (.lst (ss.map Sg.d)), some (.lst ((k0n :: kr).map .str)), some (.int ((e + 1 : Nat) : Int)), some (.int k), some (.str n), none, none]) (QX ss (k0n :: kr) e) :=
              Dr.callP (fun r => rfl) ih
            have cl2 : Dr am sa ga (5 ^ j) (eCall 4 (g_law_expression j) (aCons (eVar 0) (aCons (eVar 1) (aCons (eBin addD (eVar 2) (eLst (aCons (eVar 5) aNil))) (aCons (eBin subD (eVar 3) (eC (.int 1))) aNil)))) [some (.raw (.ref am)), some (.lst (ss.map Sg.d)), some (.lst ((k0n :: kr).map .str)), some (.int ((e + 1 : Nat) : Int)), some (.int k), some (.str n), none, none]) (QX ss ((k0n :: kr) ++ [n]) e) := by
              refine Dr.callP (fun r => ?_) ih2
              have v2 : addD (.lst ((k0n :: kr).map D.str)) (.lst [.str n]) = some (.lst (((k0n :: kr) ++ [n]).map D.str)) := by
                rw [List.map_append]
                exact if_pos (by simp only [List.length_map, List.length_cons, List.length_nil, big] at *; omega)
              unfold aCons aNil eBin eVar eC eLst
              simp only [Option.bind_some, Option.map_some, List.getElem?_cons_zero, List.getElem?_cons_succ, v2]
              rfl
            refine DrR.ret (((Dr.tup (c := 3 * 5 ^ j) (P := fun ds => ∃ x y, QX ss (k0n :: kr) e x ∧ QX ss ((k0n :: kr) ++ [n]) e y ∧ ds = [.str "let", .str n, x, y]) ((Dr.cons (c1 := 0) (c2 := 2 * 5 ^ j) (P := fun d => d = .str "let") (R := fun ds => ∃ x y, QX ss (k0n :: kr) e x ∧ QX ss ((k0n :: kr) ++ [n]) e y ∧ ds = [.str n, x, y]) (Dr.con rfl) ((Dr.cons (c1 := 0) (c2 := 2 * 5 ^ j) (P := fun d => d = .str n) (R := fun ds => ∃ x y, QX ss (k0n :: kr) e x ∧ QX ss ((k0n :: kr) ++ [n]) e y ∧ ds = [x, y]) (Dr.var rfl rfl) ((Dr.cons (c1 := 5 ^ j) (c2 := 5 ^ j) (R := fun ds => ∃ y, QX ss ((k0n :: kr) ++ [n]) e y ∧ ds = [y]) cl1 ((Dr.cons (c1 := 5 ^ j) (c2 := 0) (R := fun ds => ds = []) cl2 (Dr.nil rfl) ?_).le (by omega)) ?_).le (by omega)) ?_).le (by omega)) ?_).le (by omega)) ?_)))
            · rintro a b ha rfl; exact ⟨a, ha, rfl⟩
            · rintro a b ha ⟨y, hy, rfl⟩; exact ⟨a, y, ha, hy, rfl⟩
            · rintro a b rfl ⟨x, y, hx, hy, rfl⟩; exact ⟨x, y, hx, hy, rfl⟩
            · rintro a b rfl ⟨x, y, hx, hy, rfl⟩; exact ⟨x, y, hx, hy, rfl⟩
            · rintro ds ⟨x, y, ⟨a, rfl, a1, a2, a3, a4⟩, ⟨b, rfl, b1, b2, b3, b4⟩, rfl⟩
              refine ⟨.le n a b, rfl, ⟨hn, a1, b1⟩, by simp only [X.deep]; omega, by simp only [X.nodes, List.length_append, List.length_cons, List.length_nil]; omega, ?_⟩
              refine ⟨by simp, fun z hz => ?_⟩
              simp only [List.mem_cons, List.not_mem_nil, or_false] at hz
              rcases hz with z | z | z | z <;> subst z
              · exact plain_s _ _
              · exact plain_s _ _
              · exact a4.mono (by omega)
              · exact b4.mono (by omega)
        · refine DrR.ifNo (fun r => cond_eq (i := k) rfl (decide_eq_false h3).symm) ?_
          refine (DrR.asg (c1 := 1) (c2 := 3 * 5 ^ j) (lt_len (n := 8) rfl (by decide)) (Dr.callP (fun r => rfl) (Dr.of (xs := ss.map Sg.d) (.inr rfl) (by simpa using hs) (by rw [List.length_map]; omega))) ?_).le (by omega)
          intro d hd
          obtain ⟨s, hs1, rfl⟩ := List.mem_map.mp hd
          have hsf := hf s hs1
          have hle : (1 + s.fur.length) * 5 ^ j ≤ 3 * 5 ^ j := Nat.mul_le_mul_right _ (by omega)
          refine DrR.ret (((Dr.pair3 (c1 := 0) (c2 := 0) (c3 := 0 + (1 + s.fur.length) * 5 ^ j) (P := fun d => d = .str "call") (R := fun d => d = .str s.name) (S := fun d => ∃ xs : List D, d = .tup xs ∧ xs.length = 1 + s.fur.length ∧ ∀ x ∈ xs, QX ss kn e x) (Dr.con rfl) (Dr.pure (fun r => rfl) rfl) ?_).imp ?_).le (by omega))
          · refine Dr.un (P1 := fun d => ∃ xs : List D, d = .lst xs ∧ xs.length = 1 + s.fur.length ∧ ∀ x ∈ xs, QX ss kn e x) (Dr.compN (c1 := 0) (c := 5 ^ j) (k := 1 + s.fur.length) (P := QX ss kn e) ?_ (by simp only [big]; omega) ?_) ?_
            · refine (Dr.rngN (K := 1 + s.fur.length) (Dr.pure (a := .int ((1 + s.fur.length : Nat) : Int)) (fun r => ?_) rfl) (by omega)).imp fun xs hx => ⟨hx, fun x _ => ⟨[some (.raw (.ref am)), some (.lst (ss.map Sg.d)), some (.lst (kn.map .str)), some (.int ((e + 1 : Nat) : Int)), some (.int k), none, some s.d, some x], rfl, Dr.callP (fun r => rfl) ih⟩⟩
              have z : ((1 + s.fur.length : Nat) : Int) = 1 + (s.fur.length : Int) := by omega
              rw [z]
              have l : lenD (.tup (s.fur.map T.d)) = some (.int (s.fur.length : Nat)) := by rw [len_tup, List.length_map]
              have x2 : (eBin (ρ := Rw) ixD (eVar 6) (eC (.int 2))) [some (.raw (.ref am)), some (.lst (ss.map Sg.d)), some (.lst (kn.map .str)), some (.int ((e + 1 : Nat) : Int)), some (.int k), none, some s.d, none] r = some (.tup (s.fur.map T.d), r) := rfl
              show (eBin addD (eC (.int 1)) (eUn lenD (eBin ixD (eVar 6) (eC (.int 2))))) [some (.raw (.ref am)), some (.lst (ss.map Sg.d)), some (.lst (kn.map .str)), some (.int ((e + 1 : Nat) : Int)), some (.int k), none, some s.d, none] r = _
              exact bin_eq rfl (un_eq x2 l) add_ii
            · intro xs hx h
              exact ⟨xs, rfl, hx, h⟩
            · rintro a ⟨xs, rfl, h⟩
              exact ⟨.tup xs, rfl, xs, rfl, h⟩
          · rintro d ⟨a, b, c, rfl, rfl, ⟨xs, rfl, hx, h⟩, rfl⟩
            obtain ⟨l, rfl, h2⟩ := list_ex (f := X.d) (P := fun x => x.ok ss kn ∧ x.deep ≤ e ∧ x.nodes.length ≤ 4 ^ e ∧ Plain (2 * e + 2) x.d) (xs := xs) fun x hx => by
              obtain ⟨y, rfl, q⟩ := h x hx
              exact ⟨y, rfl, q⟩
            obtain ⟨as, rfl⟩ := xs_of l
            rw [List.length_map] at hx
            have hn := xs_nodes (as := as) (n := 4 ^ e) fun x hx => (h2 x hx).2.2.1
            have hm : as.list.length * 4 ^ e ≤ 3 * 4 ^ e := Nat.mul_le_mul_right _ (by omega)
            have hdp := xs_deep (as := as) fun x hx => (h2 x hx).2.1
            refine ⟨.ca s.name as, by rw [X.d, Xs.ds_eq], ⟨hsf.2, ⟨s, hs1, rfl, hx⟩, xs_ok fun x hx => (h2 x hx).1⟩, by simp only [X.deep]; omega, by simp only [X.nodes, List.length_append, List.length_cons, List.length_nil]; omega, ?_⟩
            exact plain3 (j := 2 * (e + 1) + 1) (plain_s _ _) (plain_s _ _) (plain_map (j := 2 * (e + 1)) (fun x hx => (h2 x hx).2.2.2) (by omega))
where
  atI_0 {a : D} {xs : List D} : atI (a :: xs) 0 = some a := by
    unfold atI ixN
    rw [if_pos (by decide), if_pos (by simp only [List.length_cons]; omega)]; rfl
  args2 {f g : SE Rw} {env : DL.Env} {a b : D} {r : Rw} (h1 : f env r = some (a, r)) (h2 : g env r = some (b, r)) : aCons f (aCons g aNil) env r = some ([a, b], r) := by
    unfold aCons aNil; rw [h1, Option.bind_some, h2]; rfl
end
end Q
end
section
set_option Elab.async false
set_option linter.all false
set_option maxRecDepth 100000
set_option maxHeartbeats 400000
namespace Q
open PySem PySem.Spec PyProof.Rows L2 DL
section
variable {am sa ga : Addr} {c c1 c2 : Nat} {env : DL.Env} {nms : List Str}
theorem sFor_dr {fa : SA Rw} {g : GD} {b : SS Rw} {P : List D → Prop} {Q : DL.Env → Prop} (h : Dr am sa ga c1 (fa env) P) (k : ∀ xs, P xs → DrN am sa ga c2 (sFold g b xs env) Q) : DrN am sa ga (c1 + c2) (sFor fa g b env) Q := fun t r hs hl => by
  obtain ⟨a, r1, e1, q1, s1⟩ := h t r hs (by omega)
  obtain ⟨d, r2, e2, q2, s2⟩ := k a q1 _ r1 s1 (by omega)
  refine ⟨d, r2, ?_, q2, s2.mono (by omega)⟩
  unfold sFor; rw [e1, Option.bind_some, e2]
theorem DrN.app {i : Nat} {f : SE Rw} {xs : List D} {P : D → Prop} {Q : DL.Env → Prop} (h1 : lstAt env i = some xs) (h2 : Dr am sa ga c (f env) P) (h3 : xs.length < big) (k : ∀ d, P d → Q (env.set i (some (.lst (xs ++ [d]))))) : DrN am sa ga c (sApp i f env) Q := fun t r hs hl => by
  obtain ⟨a, r1, e1, q1, s1⟩ := h2 t r hs hl
  exact ⟨_, r1, sApp_ok h1 e1 h3, k a q1, s1⟩
theorem DrN.nil {P : DL.Env → Prop} (h : P env) : DrN am sa ga 0 (sNil env) P := fun t r hs _ => ⟨env, r, rfl, h, hs⟩
theorem DrN.ite {cd : SB Rw} {a b : SS Rw} {P : Bool → Prop} {Q : DL.Env → Prop} (h : Dr am sa ga c1 (cd env) P) (h1 : P true → DrN am sa ga c2 (a env) Q) (h2 : P false → DrN am sa ga c2 (b env) Q) : DrN am sa ga (c1 + c2) (sIf cd a b env) Q := fun t r hs hl => by
  obtain ⟨x, r1, e1, q1, s1⟩ := h t r hs (by omega)
  cases x with
  | true =>
    obtain ⟨d, r2, e2, q2, s2⟩ := h1 q1 _ r1 s1 (by omega)
    refine ⟨d, r2, ?_, q2, s2.mono (by omega)⟩
    unfold sIf; rw [e1, Option.bind_some]; exact e2
  | false =>
    obtain ⟨d, r2, e2, q2, s2⟩ := h2 q1 _ r1 s1 (by omega)
    refine ⟨d, r2, ?_, q2, s2.mono (by omega)⟩
    unfold sIf; rw [e1, Option.bind_some]; exact e2
end
theorem nm_f : Nm "f" := fun _ _ => by kernel_rfl
theorem nm_g : Nm "g" := fun _ _ => by kernel_rfl
theorem nm_h : Nm "h" := fun _ _ => by kernel_rfl
theorem nm_show : Nm "show" := fun _ _ => by kernel_rfl
theorem nm_x : Nm "x" := fun _ _ => by kernel_rfl
theorem nm_y : Nm "y" := fun _ _ => by kernel_rfl
theorem nm_z : Nm "z" := fun _ _ => by kernel_rfl
def names4 : List Str := [("f" : Str), "g", "h", "show"]
def insL : List Str := [("x" : Str), "y", "z"]
theorem nm4 : ∀ x ∈ names4, Nm x := by
  intro x hx
  simp only [names4, List.mem_cons, List.not_mem_nil, or_false] at hx
  rcases hx with z | z | z | z <;> subst z
  · exact nm_f
  · exact nm_g
  · exact nm_h
  · exact nm_show
theorem nm3 : ∀ x ∈ insL, Nm x := by
  intro x hx
  simp only [insL, List.mem_cons, List.not_mem_nil, or_false] at hx
  rcases hx with z | z | z <;> subst z
  · exact nm_x
  · exact nm_y
  · exact nm_z
/-- a sound drawn signature -/
def SgQ (s : Sg) : Prop := Nm s.name ∧ 1 ≤ s.rows.length ∧ s.rows.length ≤ 4 ∧ s.fur.length ≤ 2 ∧ (∀ p ∈ s.rows, smallP p) ∧ ∀ t ∈ s.fur, small t
theorem SgQ.ok {s : Sg} (h : SgQ s) : s.ok := ⟨h.1, h.2.1, h.2.2.1, h.2.2.2.1, fun p hp => ⟨(h.2.2.2.2.1 p hp).1.fine, (h.2.2.2.2.1 p hp).2.fine⟩, fun t ht => (h.2.2.2.2.2 t ht).fine⟩
/-- names of a list, as the law has them -/
def AscS (l : Str) : List Str → Prop
  | [] => True
  | x :: xs => Lt l x ∧ AscS x xs
theorem asc_names : ∀ {ss : List Sg} {l : Str}, AscS l (ss.map Sg.name) → Asc l ss
  | [], _, _ => trivial
  | s :: ss, _, h => ⟨h.1, asc_names h.2⟩
theorem ascS_take : ∀ {xs : List Str} {l : Str} (n : Nat), AscS l xs → AscS l (xs.take n)
  | [], _, n, _ => by simp [AscS]
  | x :: xs, l, 0, _ => trivial
  | x :: xs, l, n + 1, h => ⟨h.1, ascS_take n h.2⟩
theorem asc4 : AscS "" names4 := by
  refine ⟨?_, ?_, ?_, ?_, trivial⟩ <;> decide
section
variable {am sa ga : Addr} {nms : List Str}
def kS : Nat := 400000
def kF : Nat := 100000
def bodySg : SS Rw := sApp 3 (eCall 4 g_law_signature (aCons (eVar 0) (aCons (eVar 4) (aCons (eVar 1) (aCons (eCall 2 g_law_of (aCons (eVar 0) (aCons (eLst (aCons (eC (.int 1)) (aCons (eC (.int 1)) (aCons (eC (.int 2)) (aCons (eC (.int 3)) (aCons (eC (.int 4)) aNil)))))) aNil))) aNil)))))
theorem loop1 (hn : nms ≠ []) (hl : nms.length ≤ 100) (hN : ∀ x ∈ nms, Nm x) {A : D} {e5 e6 e7 : Option D} : ∀ (xs : List Str) (pre : List Sg) (e4 : Option D), (∀ x ∈ xs, Nm x) → (∀ s ∈ pre, SgQ s) → pre.length + xs.length ≤ 50 →
    DrN am sa ga (xs.length * kS) (sFold (gNm 4) bodySg (xs.map D.str) [some (.raw (.ref am)), some (.lst (nms.map .str)), some A, some (.lst (pre.map Sg.d)), e4, e5, e6, e7]) fun e => ∃ (ss : List Sg) (a : Option D), e = [some (.raw (.ref am)), some (.lst (nms.map .str)), some A, some (.lst ((pre ++ ss).map Sg.d)), a, e5, e6, e7] ∧ ss.map Sg.name = xs ∧ ∀ s ∈ pre ++ ss, SgQ s
  | [], pre, e4, _, hp, _ => fun t r hs _ => ⟨_, r, rfl, ⟨[], e4, by rw [List.append_nil], rfl, by rw [List.append_nil]; exact hp⟩, hs.mono (by omega)⟩
  | x :: xs, pre, e4, hx, hp, hb => fun t r hs hlim => by
    rw [List.length_cons] at hb
    rw [List.length_cons, Nat.succ_mul] at hlim
    have st : DrN am sa ga kS (bodySg [some (.raw (.ref am)), some (.lst (nms.map .str)), some A, some (.lst (pre.map Sg.d)), some (.str x), e5, e6, e7]) fun e => ∃ s : Sg, s.name = x ∧ SgQ s ∧ e = [some (.raw (.ref am)), some (.lst (nms.map .str)), some A, some (.lst ((pre ++ [s]).map Sg.d)), some (.str x), e5, e6, e7] := by
      refine (DrN.app (c := 1 + 300000) (xs := pre.map Sg.d) (P := fun d => ∃ s : Sg, d = s.d ∧ s.name = x ∧ SgQ s) rfl ?_ (by rw [List.length_map]; simp only [big]; omega) ?_).le (by decide)
      · refine Dr.call (P := fun ds => ∃ k : Nat, 1 ≤ k ∧ k ≤ 4 ∧ ds = [.raw (.ref am), .str x, .lst (nms.map .str), .int k]) ?_ ?_
        · have dr : Dr am sa ga 1 ((eCall 2 g_law_of (aCons (eVar 0) (aCons (eLst (aCons (eC (.int 1)) (aCons (eC (.int 1)) (aCons (eC (.int 2)) (aCons (eC (.int 3)) (aCons (eC (.int 4)) aNil)))))) aNil))) [some (.raw (.ref am)), some (.lst (nms.map .str)), some A, some (.lst (pre.map Sg.d)), some (.str x), e5, e6, e7]) fun d => ∃ k : Nat, d = .int k ∧ 1 ≤ k ∧ k ≤ 4 := by
            refine (Dr.callP (fun r => rfl) (Dr.of (xs := [.int 1, .int 1, .int 2, .int 3, .int 4]) (.inr rfl) (by simp) (by simp))).imp ?_
            intro d hd
            simp only [List.mem_cons, List.not_mem_nil, or_false] at hd
            rcases hd with z | z | z | z | z <;> subst z
            · exact ⟨1, rfl, by decide, by decide⟩
            · exact ⟨1, rfl, by decide, by decide⟩
            · exact ⟨2, rfl, by decide, by decide⟩
            · exact ⟨3, rfl, by decide, by decide⟩
            · exact ⟨4, rfl, by decide, by decide⟩
          refine (Dr.cons (c1 := 0) (c2 := 1) (P := fun d => d = .raw (.ref am)) (R := fun ds => ∃ k : Nat, 1 ≤ k ∧ k ≤ 4 ∧ ds = [.str x, .lst (nms.map .str), .int k]) (Dr.var rfl rfl) ((Dr.cons (c1 := 0) (c2 := 1) (P := fun d => d = .str x) (R := fun ds => ∃ k : Nat, 1 ≤ k ∧ k ≤ 4 ∧ ds = [.lst (nms.map .str), .int k]) (Dr.var rfl rfl) ((Dr.cons (c1 := 0) (c2 := 1) (P := fun d => d = .lst (nms.map .str)) (R := fun ds => ∃ k : Nat, 1 ≤ k ∧ k ≤ 4 ∧ ds = [.int k]) (Dr.var rfl rfl) ((Dr.cons (c1 := 1) (c2 := 0) (R := fun ds => ds = []) dr (Dr.nil rfl) ?_).le (by decide)) ?_).le (by decide)) ?_).le (by decide)) ?_).le (by decide)
          · rintro a b ⟨k, rfl, h⟩ rfl; exact ⟨k, h.1, h.2, rfl⟩
          · rintro a b rfl ⟨k, h1, h2, rfl⟩; exact ⟨k, h1, h2, rfl⟩
          · rintro a b rfl ⟨k, h1, h2, rfl⟩; exact ⟨k, h1, h2, rfl⟩
          · rintro a b rfl ⟨k, h1, h2, rfl⟩; exact ⟨k, h1, h2, rfl⟩
        · rintro ds ⟨k, k1, k4, rfl⟩
          refine (Dr.sign hn hl hN (by omega)).imp ?_
          rintro d ⟨s, rfl, h1, h2, h3, h4, h5⟩
          exact ⟨s, rfl, h1, by rw [h1]; exact hx x (List.mem_cons_self ..), by omega, by omega, h3, h4, h5⟩
      · rintro d ⟨s, rfl, h1, h2⟩
        refine ⟨s, h1, h2, ?_⟩
        rw [List.map_append]; rfl
    obtain ⟨a, r1, e1, ⟨s, rfl, q2, rfl⟩, s1⟩ := st t r hs (by omega)
    obtain ⟨e3, r2, f3, ⟨ss, a, rfl, g1, g2⟩, s2⟩ := loop1 hn hl hN (A := A) (e5 := e5) (e6 := e6) (e7 := e7) xs (pre ++ [s]) (some (.str s.name)) (fun y hy => hx y (List.mem_cons_of_mem _ hy)) (fun y hy => by
      rcases List.mem_append.mp hy with z | z
      · exact hp y z
      · rw [List.mem_singleton] at z; exact z ▸ q2) (by simp only [List.length_append, List.length_cons, List.length_nil]; omega) _ r1 s1 (by omega)
    rw [List.append_assoc] at f3 g2
    refine ⟨_, r2, (by rw [List.map_cons]; exact (sFold_nx rfl e1).trans f3), ⟨s :: ss, a, rfl, by rw [List.map_cons, g1], g2⟩, s2.mono (by rw [List.length_cons, Nat.succ_mul]; omega)⟩
def bodyDf : SS Rw := (sIf (bAnd (bOf (eBin eqD (eUn lenD (eBin ixD (eVar 6) (eC (.int 1)))) (eC (.int 1)))) (bOr (bOf (eBin eqD (eVar 5) (eLst aNil))) (bOf (eBin eqD (eCall 2 g_law_draw (aCons (eVar 0) (aCons (eC (.int 2)) aNil))) (eC (.int 0)))))) (sSeq (sAsg (eUn tupleD (eSl (eLst (aCons (eC (.str "x")) (aCons (eC (.str "y")) (aCons (eC (.str "z")) aNil)))) oNone (oSome (eBin addD (eC (.int 1)) (eUn lenD (eBin ixD (eVar 6) (eC (.int 2)))))))) (gNm 7))
  (sApp 5 (eTup (aCons (eBin ixD (eVar 6) (eC (.int 0))) (aCons (eVar 7) (aCons (eCall 4 (g_law_expression fuel_law_expression) (aCons (eVar 0) (aCons (eVar 3) (aCons (eUn listD (eVar 7)) (aCons (eBin addD (eC (.int 1)) (eCall 2 g_law_draw (aCons (eVar 0) (aCons (eC (.int 2)) aNil)))) aNil))))) aNil)))))) sNil)
def DfQ (ss : List Sg) (f : Df) : Prop := f.ok ss ∧ Plain 10 f.body.d ∧ f.ins = insL.take f.ins.length
theorem bAnd_f {ρ : Type} {f g : SB ρ} {env : DL.Env} {r : ρ} (h : f env r = some (false, r)) : bAnd f g env r = some (false, r) := by
  unfold bAnd; rw [h]; rfl
theorem Dr.andT {f g : SB Rw} {env : DL.Env} {c : Nat} {P : Bool → Prop} (h : ∀ r, f env r = some (true, r)) (k : Dr am sa ga c (g env) P) : Dr am sa ga c (bAnd f g env) P := fun t r hs hl => by
  obtain ⟨a, r1, e, q, s⟩ := k t r hs hl
  refine ⟨a, r1, ?_, q, s⟩
  unfold bAnd; rw [h, Option.bind_some]; exact e
theorem Dr.orF {f g : SB Rw} {env : DL.Env} {c : Nat} {P : Bool → Prop} (h : ∀ r, f env r = some (false, r)) (k : Dr am sa ga c (g env) P) : Dr am sa ga c (bOr f g env) P := fun t r hs hl => by
  obtain ⟨a, r1, e, q, s⟩ := k t r hs hl
  refine ⟨a, r1, ?_, q, s⟩
  unfold bOr; rw [h, Option.bind_some]; exact e
theorem Dr.bOf {f : SE Rw} {env : DL.Env} {c : Nat} {P : D → Prop} {Q : Bool → Prop} (h : Dr am sa ga c (f env) P) (k : ∀ d, P d → ∃ b, d = .bl b ∧ Q b) : Dr am sa ga c (DL.bOf f env) Q := fun t r hs hl => by
  obtain ⟨a, r1, e, q, s⟩ := h t r hs hl
  obtain ⟨b, rfl, q2⟩ := k a q
  refine ⟨b, r1, ?_, q2, s⟩
  unfold DL.bOf; rw [e]; rfl
theorem take_ins {n : Nat} (h : n ≤ 2) : (eUn (ρ := Rw) tupleD (eSl (eLst (aCons (eC (.str "x")) (aCons (eC (.str "y")) (aCons (eC (.str "z")) aNil)))) oNone (oSome (eC (.int (1 + (n : Int))))))) [] = fun r => some (.tup ((insL.take (1 + n)).map D.str), r) := by
  funext r
  obtain z | z | z : n = 0 ∨ n = 1 ∨ n = 2 := by omega
  all_goals subst z; rfl
theorem oSome_ok {ρ : Type} {f : SE ρ} {env : DL.Env} {r : ρ} {i : Int} (h : f env r = some (.int i, r)) : oSome f env r = some (some i, r) := by
  unfold oSome; rw [h]; rfl
theorem eSl_hi {ρ : Type} {f : SE ρ} {g h : SO ρ} {env env2 : DL.Env} {r : ρ} {d : D} {i : Int} (h1 : f env r = some (d, r)) (h2 : g env r = some (some i, r)) : eSl f oNone g env r = (slD d none (some i)).map fun x => (x, r) := by
  unfold eSl; rw [h1, Option.bind_some]
  show (Option.bind (some (none, r)) _) = _
  rw [Option.bind_some, h2]; rfl
theorem nd_take (n : Nat) : (insL.take n).Nodup := List.Nodup.sublist (List.take_sublist ..) (by decide)
theorem lastD_snoc : ∀ (fs : List Df) (l : Str) (f : Df), lastD l (fs ++ [f]) = f.name
  | [], _, _ => rfl
  | _ :: fs, _, f => lastD_snoc fs _ f
theorem ascD_snoc : ∀ (fs : List Df) (l : Str) (f : Df), AscD l fs → Lt (lastD l fs) f.name → AscD l (fs ++ [f])
  | [], _, _, _, h => ⟨h, trivial⟩
  | _ :: fs, _, f, h, k => ⟨h.1, ascD_snoc fs _ f h.2 k⟩
theorem loop2 {ss : List Sg} (hs0 : ss ≠ []) (hl : ss.length ≤ 50) (hQ : ∀ s ∈ ss, SgQ s) {N A : D} {e4 : Option D} : ∀ (post : List Sg) (fs : List Df) (l : Str) (e6 e7 : Option D), (∀ s ∈ post, s ∈ ss) → Asc l post → (lastD "" fs = l ∨ Lt (lastD "" fs) l) → AscD "" fs → (∀ f ∈ fs, DfQ ss f) → fs.length + post.length ≤ 50 →
    DrN am sa ga (post.length * kF) (sFold (gNm 6) bodyDf (post.map Sg.d) [some (.raw (.ref am)), some N, some A, some (.lst (ss.map Sg.d)), e4, some (.lst (fs.map Df.d)), e6, e7]) fun e => ∃ (gs : List Df) (a b : Option D), e = [some (.raw (.ref am)), some N, some A, some (.lst (ss.map Sg.d)), e4, some (.lst (gs.map Df.d)), a, b] ∧ AscD "" gs ∧ (∀ f ∈ gs, DfQ ss f) ∧ gs.length ≤ fs.length + post.length
  | [], fs, l, e6, e7, _, _, _, h1, h2, _ => fun t r hs _ => ⟨_, r, rfl, ⟨fs, e6, e7, rfl, h1, h2, by simp⟩, hs.mono (by omega)⟩
  | s :: post, fs, l, e6, e7, hm, ha, hlast, h1, h2, hb => fun t r hs hlim => by
    rw [List.length_cons] at hb
    rw [List.length_cons, Nat.succ_mul] at hlim
    have hsm := hm s (List.mem_cons_self ..)
    have q := hQ s hsm
    have hlt : Lt (lastD "" fs) s.name := by
      rcases hlast with z | z
      · rw [z]; exact ha.1
      · exact lt_tr z ha.1
    have st : DrN am sa ga kF (bodyDf [some (.raw (.ref am)), some N, some A, some (.lst (ss.map Sg.d)), e4, some (.lst (fs.map Df.d)), some s.d, e7]) fun e => ∃ (gs : List Df) (b : Option D), (gs = fs ∨ ∃ f, f.name = s.name ∧ DfQ ss f ∧ gs = fs ++ [f]) ∧ e = [some (.raw (.ref am)), some N, some A, some (.lst (ss.map Sg.d)), e4, some (.lst (gs.map Df.d)), some s.d, b] := by
      have len : ∀ r, (eUn (ρ := Rw) lenD (eBin ixD (eVar 6) (eC (.int 1)))) [some (.raw (.ref am)), some N, some A, some (.lst (ss.map Sg.d)), e4, some (.lst (fs.map Df.d)), some s.d, e7] r = some (.int (s.rows.length : Nat), r) := fun r =>
        un_eq (a := .tup (s.rows.map pD)) rfl (by rw [len_tup, List.length_map])
      by_cases hr : s.rows.length = 1
      · refine (DrN.ite (c1 := 1) (c2 := 20000) (P := fun _ => True) (Dr.andT (fun r => cond_eq (len r) (decide_eq_true (by omega)).symm) ?_) (fun _ => ?_) (fun _ => ?_)).le (by decide)
        · cases fs with
          | nil => exact ((Dr.pure (a := true) (fun r => bOr_t1 rfl) trivial : Dr am sa ga 0 _ _).le (by decide))
          | cons f0 fs0 =>
            refine Dr.orF (fun r => rfl) (Dr.bOf (P := fun d => ∃ b, d = .bl b) ((Dr.bin (c1 := 1) (c2 := 0) (P1 := fun d => ∃ k : Int, d = .int k ∧ 0 ≤ k ∧ k < 2) (P2 := fun d => d = .int 0) (Dr.callP (fun r => rfl) (Dr.draw (by decide))) (Dr.con rfl) ?_).le (by decide)) ?_)
            · rintro a b ⟨k, rfl, _⟩ rfl
              exact ⟨_, eq_ii, _, rfl⟩
            · rintro d ⟨b, rfl⟩
              exact ⟨b, rfl, trivial⟩
        · refine (DrN.seq (c1 := 0) (c2 := 20000) (P := fun e => e = [some (.raw (.ref am)), some N, some A, some (.lst (ss.map Sg.d)), e4, some (.lst (fs.map Df.d)), some s.d, some (.tup ((insL.take (1 + s.fur.length)).map D.str))]) (DrN.asg (P := fun d => d = .tup ((insL.take (1 + s.fur.length)).map D.str)) (Dr.pure (fun r => ?_) rfl) ?_) ?_).le (by decide)
          · have l2 : (eBin (ρ := Rw) addD (eC (.int 1)) (eUn lenD (eBin ixD (eVar 6) (eC (.int 2))))) [some (.raw (.ref am)), some N, some A, some (.lst (ss.map Sg.d)), e4, some (.lst (fs.map Df.d)), some s.d, e7] r = some (.int (1 + (s.fur.length : Int)), r) :=
              bin_eq rfl (un_eq (a := .tup (s.fur.map T.d)) rfl (by rw [len_tup, List.length_map])) add_ii
            have sl : (eSl (ρ := Rw) (eLst (aCons (eC (.str "x")) (aCons (eC (.str "y")) (aCons (eC (.str "z")) aNil)))) oNone (oSome (eBin addD (eC (.int 1)) (eUn lenD (eBin ixD (eVar 6) (eC (.int 2))))))) [some (.raw (.ref am)), some N, some A, some (.lst (ss.map Sg.d)), e4, some (.lst (fs.map Df.d)), some s.d, e7] r = some (.lst ((insL.take (1 + s.fur.length)).map D.str), r) := by
              rw [eSl_hi (h := oNone) (env2 := []) (d := .lst [.str "x", .str "y", .str "z"]) rfl (oSome_ok l2)]
              have := q.2.2.2.1
              obtain z | z | z : s.fur.length = 0 ∨ s.fur.length = 1 ∨ s.fur.length = 2 := by omega
              all_goals rw [z]; rfl
            exact un_eq sl rfl
          · rintro d rfl
            exact ⟨_, rfl, rfl⟩
          · rintro e rfl
            refine (DrN.app (c := 5 ^ 6 + 1) (xs := fs.map Df.d) (P := fun d => ∃ f : Df, d = f.d ∧ f.name = s.name ∧ DfQ ss f) rfl ?_ (by rw [List.length_map]; simp only [big]; omega) ?_).le (by decide)
            · refine Dr.imp (Dr.pair3 (env := [some (.raw (.ref am)), some N, some A, some (.lst (ss.map Sg.d)), e4, some (.lst (fs.map Df.d)), some s.d, some (.tup ((insL.take (1 + s.fur.length)).map D.str))]) (c1 := 0) (c2 := 0) (c3 := 5 ^ 6 + 1) (P := fun d => d = .str s.name) (R := fun d => d = .tup ((insL.take (1 + s.fur.length)).map D.str)) (S := fun d => ∃ e, e ≤ 2 ∧ QX ss (insL.take (1 + s.fur.length)) e d) (Dr.pure (fun r => rfl) rfl) (Dr.var rfl rfl) ?_) ?_
              · refine (Dr.call (c1 := 1) (c2 := 5 ^ 6) (P := fun ds => ∃ e : Nat, e ≤ 2 ∧ ds = [.raw (.ref am), .lst (ss.map Sg.d), .lst ((insL.take (1 + s.fur.length)).map D.str), .int e]) ?_ ?_)
                · refine (Dr.cons (c1 := 0) (c2 := 1) (P := fun d => d = .raw (.ref am)) (R := fun ds => ∃ e : Nat, e ≤ 2 ∧ ds = [.lst (ss.map Sg.d), .lst ((insL.take (1 + s.fur.length)).map D.str), .int e]) (Dr.var rfl rfl) ((Dr.cons (c1 := 0) (c2 := 1) (P := fun d => d = .lst (ss.map Sg.d)) (R := fun ds => ∃ e : Nat, e ≤ 2 ∧ ds = [.lst ((insL.take (1 + s.fur.length)).map D.str), .int e]) (Dr.var rfl rfl) ((Dr.cons (c1 := 0) (c2 := 1) (P := fun d => d = .lst ((insL.take (1 + s.fur.length)).map D.str)) (R := fun ds => ∃ e : Nat, e ≤ 2 ∧ ds = [.int e]) (Dr.pure (fun r => rfl) rfl) ((Dr.cons (c1 := 1) (c2 := 0) (P := fun d => ∃ e : Nat, e ≤ 2 ∧ d = .int e) (R := fun ds => ds = []) ((Dr.bin (c1 := 0) (c2 := 1) (P1 := fun d => d = .int 1) (P2 := fun d => ∃ k : Int, d = .int k ∧ 0 ≤ k ∧ k < 2) (Dr.con rfl) (Dr.callP (fun r => rfl) (Dr.draw (by decide))) ?_).le (by decide)) (Dr.nil rfl) ?_).le (by decide)) ?_).le (by decide)) ?_).le (by decide)) ?_).le (by decide)
                  · rintro a b rfl ⟨k, rfl, k0, k1⟩
                    exact ⟨_, add_ii, (1 + k).toNat, by omega, by rw [Int.toNat_of_nonneg (by omega)]⟩
                  · rintro a b ⟨e, he, rfl⟩ rfl; exact ⟨e, he, rfl⟩
                  · rintro a b rfl ⟨e, he, rfl⟩; exact ⟨e, he, rfl⟩
                  · rintro a b rfl ⟨e, he, rfl⟩; exact ⟨e, he, rfl⟩
                  · rintro a b rfl ⟨e, he, rfl⟩; exact ⟨e, he, rfl⟩
                · rintro ds ⟨e, he, rfl⟩
                  refine (expr_dr hs0 (by omega) (fun s hs => ⟨(hQ s hs).2.2.2.1, (hQ s hs).1⟩) 6 e (insL.take (1 + s.fur.length)) (by omega) ?_ (fun x hx => nm3 x (List.mem_of_mem_take hx)) ?_).imp fun d h => ⟨e, he, h⟩
                  · rw [Nat.add_comm]; simp [insL]
                  · have : (insL.take (1 + s.fur.length)).length ≤ 3 := by rw [List.length_take]; exact Nat.min_le_right ..
                    omega
              · rintro d ⟨a, b, c, rfl, rfl, ⟨e, he, x, rfl, x1, x2, x3, x4⟩, rfl⟩
                have hf2 := q.2.2.2.1
                have hp : 4 ^ e ≤ 4 ^ 2 := Nat.pow_le_pow_right (by decide) he
                refine ⟨⟨s.name, insL.take (1 + s.fur.length), x⟩, rfl, rfl, ⟨q.1, ⟨s, hsm, rfl, hr, ?_⟩, fun i hi => nm3 i (List.mem_of_mem_take hi), nd_take _, x1, Nat.le_trans x3 (by omega), Nat.le_trans x2 (by omega)⟩, x4.mono (by omega), ?_⟩
                · show (insL.take (1 + s.fur.length)).length = _
                  rw [List.length_take, show insL.length = 3 from rfl]; omega
                · show insL.take (1 + s.fur.length) = insL.take (insL.take (1 + s.fur.length)).length
                  rw [List.length_take, show insL.length = 3 from rfl, Nat.min_eq_left (by omega)]
            · rintro d ⟨f, rfl, f1, f2⟩
              refine ⟨fs ++ [f], some (.tup ((insL.take (1 + s.fur.length)).map D.str)), .inr ⟨f, f1, f2, rfl⟩, ?_⟩
              rw [List.map_append]; rfl
        · exact (DrN.nil ⟨fs, e7, .inl rfl, rfl⟩).le (by decide)
      · refine (DrN.ite (c1 := 0) (c2 := 0) (P := fun b => b = false) (Dr.pure (fun r => bAnd_f (cond_eq (len r) (decide_eq_false (by omega)).symm)) rfl) (fun h => absurd h (by decide)) (fun _ => DrN.nil ⟨fs, e7, .inl rfl, rfl⟩)).le (by decide)
    obtain ⟨a, r1, e1, ⟨gs, b, g1, rfl⟩, s1⟩ := st t r hs (by omega)
    have g2 : (lastD "" gs = s.name ∨ Lt (lastD "" gs) s.name) ∧ AscD "" gs ∧ (∀ f ∈ gs, DfQ ss f) ∧ gs.length ≤ fs.length + 1 := by
      rcases g1 with rfl | ⟨f, f1, f2, rfl⟩
      · exact ⟨.inr hlt, h1, h2, by omega⟩
      · refine ⟨.inl (by rw [lastD_snoc, f1]), ascD_snoc _ _ _ h1 (f1 ▸ hlt), fun y hy => ?_, by simp⟩
        rcases List.mem_append.mp hy with z | z
        · exact h2 y z
        · rw [List.mem_singleton] at z; exact z ▸ f2
    obtain ⟨e3, r2, f3, ⟨hs', a, b', rfl, k1, k2, k3⟩, s2⟩ := loop2 hs0 hl hQ (N := N) (A := A) (e4 := e4) post gs s.name (some s.d) b (fun y hy => hm y (List.mem_cons_of_mem _ hy)) ha.2 g2.1 g2.2.1 g2.2.2.1 (by have := g2.2.2.2; omega) _ r1 s1 (by omega)
    exact ⟨_, r2, (by rw [List.map_cons]; exact (sFold_nx rfl e1).trans f3), ⟨hs', a, b', rfl, k1, k2, by have := g2.2.2.2; simp only [List.length_cons]; omega⟩, s2.mono (by rw [List.length_cons, Nat.succ_mul]; omega)⟩
end
end Q
end
section
set_option Elab.async false
set_option linter.all false
set_option maxRecDepth 100000
set_option maxHeartbeats 400000
namespace Q
open PySem PySem.Spec PyProof.Rows L2 DL
section
variable {am sa ga : Addr} {c c1 c2 : Nat} {env : DL.Env} {nms : List Str}
theorem DrN.par {is : List Nat} {f : SA Rw} {P : List D → Prop} {Q : DL.Env → Prop} (h : Dr am sa ga c (f env) P) (hi : is.all (fun i => decide (i < env.length)) = true) (k : ∀ ds, P ds → Q (setAll is ds env)) : DrN am sa ga c (sPar is f env) Q := fun t r hs hl => by
  obtain ⟨a, r1, e1, q1, s1⟩ := h t r hs hl
  refine ⟨_, r1, ?_, k a q1, s1⟩
  unfold sPar; rw [e1, Option.bind_some, if_pos hi]
theorem DrN.own {i : Nat} {f : SE Rw} {P : D → Prop} {Q : DL.Env → Prop} (h : Dr am sa ga c (f env) P) (hi : i < env.length) (k : ∀ d, P d → Q (env.set i (some d))) : DrN am sa ga c (sOwn i f env) Q := fun t r hs hl => by
  obtain ⟨a, r1, e1, q1, s1⟩ := h t r hs hl
  refine ⟨_, r1, ?_, k a q1, s1⟩
  unfold sOwn; rw [e1, Option.bind_some, if_pos hi]
theorem Dr.slHi {f g : SE Rw} {x : D} {P : Int → Prop} {Q : D → Prop} (h1 : ∀ r, f env r = some (x, r)) (h2 : Dr am sa ga c (g env) fun d => ∃ k, d = .int k ∧ P k) (h3 : ∀ k, P k → ∃ y, slD x none (some k) = some y ∧ Q y) : Dr am sa ga c (eSl f oNone (oSome g) env) Q := fun t r hs hl => by
  obtain ⟨a, r1, e1, ⟨k, rfl, q1⟩, s1⟩ := h2 t r hs hl
  obtain ⟨y, e2, q2⟩ := h3 k q1
  refine ⟨y, r1, ?_, q2, s1⟩
  unfold eSl
  rw [h1, Option.bind_some]
  show (Option.bind (some (none, r)) _) = _
  rw [Option.bind_some]
  show (Option.bind (oSome g env r) _) = _
  have e3 : oSome g env r = some (some k, r1) := by unfold oSome; rw [e1]; rfl
  rw [e3, Option.bind_some]
  show Option.map _ (slD x none (some k)) = _
  rw [e2]; rfl
/-- the same where the slice's upper end is drawn after the list -/
theorem Dr.seq {f : SE Rw} {P : List D → Prop} (h : Dr am sa ga c (f env) fun d => ∃ xs, (d = .lst xs ∨ d = .tup xs) ∧ P xs) : Dr am sa ga c (iSeqD f env) P := fun t r hs hl => by
  obtain ⟨a, r1, e1, ⟨xs, hx, q⟩, s1⟩ := h t r hs hl
  refine ⟨xs, r1, ?_, q, s1⟩
  unfold iSeqD; rw [e1, Option.bind_some]
  rcases hx with rfl | rfl <;> rfl
structure MoQ (m : Mo) : Prop where
  ok : m.ok
  lo : m.lo
  nm : ∃ n, 2 ≤ n ∧ n ≤ 4 ∧ m.ss.map Sg.name = names4.take n
  q : ∀ s ∈ m.ss, SgQ s
  df : ∀ f ∈ m.fs, f.ins = insL.take f.ins.length
theorem asc_mem : ∀ {ss : List Sg} {l : Str}, AscS l (ss.map Sg.name) → Asc l ss := asc_names
theorem module_dr (hn : nms ≠ []) (hl : nms.length ≤ 100) (hN : ∀ x ∈ nms, Nm x) : Dr am sa ga 10000000 (g_law_module [.raw (.ref am), .lst (nms.map .str)]) fun d => ∃ m : Mo, d = m.d ∧ MoQ m := by
  refine Dr.gOf ?_
  unfold b_law_module
  refine (DrR.seq (c1 := 200001) (c2 := 9000000) (P := fun e => ∃ ps : List (T × T), ps.length ≤ 20 ∧ (∀ p ∈ ps, smallP p) ∧ e = [some (.raw (.ref am)), some (.lst (nms.map .str)), some (.tup (ps.map pD)), some (.lst []), none, none, none, none]) (DrN.par (P := fun ds => ∃ ps : List (T × T), ps.length ≤ 20 ∧ (∀ p ∈ ps, smallP p) ∧ ds = [.tup (ps.map pD), .lst []]) ?_ rfl ?_) ?_).le (by decide)
  · refine (Dr.cons (c1 := 1 + 200000) (c2 := 0) (P := fun d => ∃ ps : List (T × T), d = .tup (ps.map pD) ∧ ps.length ≤ 20 ∧ ∀ p ∈ ps, smallP p) (R := fun ds => ds = [.lst []]) (Dr.call (P := fun ds => ∃ k : Nat, k ≤ 2 ∧ ds = [.raw (.ref am), .lst (nms.map .str), .int k, .int (1 : Nat)]) ?_ ?_) (Dr.pure (fun r => rfl) rfl) ?_).le (by decide)
    · refine (Dr.cons (c1 := 0) (c2 := 1) (P := fun d => d = .raw (.ref am)) (R := fun ds => ∃ k : Nat, k ≤ 2 ∧ ds = [.lst (nms.map .str), .int k, .int (1 : Nat)]) (Dr.var rfl rfl) ((Dr.cons (c1 := 0) (c2 := 1) (P := fun d => d = .lst (nms.map .str)) (R := fun ds => ∃ k : Nat, k ≤ 2 ∧ ds = [.int k, .int (1 : Nat)]) (Dr.var rfl rfl) ((Dr.cons (c1 := 1) (c2 := 0) (P := fun d => ∃ k : Int, d = .int k ∧ 0 ≤ k ∧ k < 3) (R := fun ds => ds = [.int (1 : Nat)]) (Dr.callP (fun r => rfl) (Dr.draw (by decide))) (Dr.pure (fun r => rfl) rfl) ?_).le (by decide)) ?_).le (by decide)) ?_).le (by decide)
      · rintro a b ⟨k, rfl, k0, k1⟩ rfl
        exact ⟨k.toNat, by omega, by rw [Int.toNat_of_nonneg k0]⟩
      · rintro a b rfl ⟨k, hk, rfl⟩; exact ⟨k, hk, rfl⟩
      · rintro a b rfl ⟨k, hk, rfl⟩; exact ⟨k, hk, rfl⟩
    · rintro ds ⟨k, hk, rfl⟩
      refine (Dr.pairs hn hl hN (by omega) (by decide)).imp ?_
      rintro d ⟨ps, rfl, h1, h2⟩
      exact ⟨ps, rfl, by omega, h2⟩
    · rintro a b ⟨ps, rfl, h1, h2⟩ rfl
      exact ⟨ps, h1, h2, rfl⟩
  · rintro ds ⟨ps, h1, h2, rfl⟩
    exact ⟨ps, h1, h2, rfl⟩
  · rintro e ⟨ps, p1, p2, rfl⟩
    refine (DrR.seq (c1 := 1 + 4 * kS) (c2 := 4 * kF) (P := fun e => ∃ (n : Nat) (ss : List Sg) (a : Option D), 2 ≤ n ∧ n ≤ 4 ∧ ss.map Sg.name = names4.take n ∧ (∀ s ∈ ss, SgQ s) ∧ e = [some (.raw (.ref am)), some (.lst (nms.map .str)), some (.tup (ps.map pD)), some (.lst (ss.map Sg.d)), a, none, none, none]) ?_ ?_).le (by decide)
    · refine sFor_dr (c1 := 1) (P := fun xs => ∃ n, 2 ≤ n ∧ n ≤ 4 ∧ xs = (names4.take n).map D.str) (Dr.seq ?_) ?_
      · refine (Dr.slHi (x := .lst (names4.map D.str)) (P := fun k => k = 2 ∨ k = 3 ∨ k = 4) (fun r => rfl) ((Dr.bin (c1 := 0) (c2 := 1) (P1 := fun d => d = .int 2) (P2 := fun d => ∃ k : Int, d = .int k ∧ 0 ≤ k ∧ k < 3) (Dr.con rfl) (Dr.callP (fun r => rfl) (Dr.draw (by decide))) ?_).le (by decide)) ?_)
        · rintro a b rfl ⟨k, rfl, k0, k1⟩
          exact ⟨_, add_ii, _, rfl, by omega⟩
        · rintro k (rfl | rfl | rfl)
          · exact ⟨_, rfl, _, .inl rfl, 2, by decide, by decide, rfl⟩
          · exact ⟨_, rfl, _, .inl rfl, 3, by decide, by decide, rfl⟩
          · exact ⟨_, rfl, _, .inl rfl, 4, by decide, by decide, rfl⟩
      · rintro xs ⟨n, n2, n4, rfl⟩
        have hlen : (names4.take n).length = n := by rw [List.length_take, show names4.length = 4 from rfl]; omega
        refine ((loop1 hn hl hN (A := .tup (ps.map pD)) (e5 := none) (e6 := none) (e7 := none) (names4.take n) [] none (fun x hx => nm4 x (List.mem_of_mem_take hx)) (fun s hs => absurd hs (by simp)) (by simp only [List.length_nil]; omega)).imp ?_).le (by rw [hlen]; exact Nat.mul_le_mul_right _ n4)
        rintro e ⟨ss, a, rfl, h1, h2⟩
        exact ⟨n, ss, a, n2, n4, h1, h2, rfl⟩
    · rintro e ⟨n, ss, a, n2, n4, h1, h2, rfl⟩
      have hlen : ss.length = n := by
        have := congrArg List.length h1
        rw [List.length_map, List.length_take, show names4.length = 4 from rfl] at this
        omega
      have hasc : Asc "" ss := asc_names (by rw [h1]; exact ascS_take n asc4)
      have hs0 : ss ≠ [] := fun e => by rw [e] at hlen; simp at hlen; omega
      refine (DrR.seq (c1 := 0) (c2 := 4 * kF) (P := fun e => e = [some (.raw (.ref am)), some (.lst (nms.map .str)), some (.tup (ps.map pD)), some (.lst (ss.map Sg.d)), a, some (.lst []), none, none]) (DrN.own (P := fun d => d = .lst []) (Dr.pure (fun r => rfl) rfl) (lt_len (n := 8) rfl (by decide)) ?_) ?_).le (by decide)
      · rintro d rfl; rfl
      · rintro e rfl
        refine (DrR.seq (c1 := 0 + 4 * kF) (c2 := 0) (P := fun e => ∃ (gs : List Df) (x y : Option D), e = [some (.raw (.ref am)), some (.lst (nms.map .str)), some (.tup (ps.map pD)), some (.lst (ss.map Sg.d)), a, some (.lst (gs.map Df.d)), x, y] ∧ AscD "" gs ∧ (∀ f ∈ gs, DfQ ss f) ∧ gs.length ≤ 4) (sFor_dr (P := fun xs => xs = ss.map Sg.d) (Dr.pure (fun r => rfl) rfl) ?_) ?_).le (by decide)
        · rintro xs rfl
          refine ((loop2 hs0 (by omega) h2 ss [] "" none none (fun _ h => h) hasc (.inl rfl) trivial (fun f hf => absurd hf (by simp)) (by simp only [List.length_nil]; omega)).imp ?_).le (by rw [hlen]; exact Nat.mul_le_mul_right _ n4)
          rintro e ⟨gs, x, y, rfl, k1, k2, k3⟩
          exact ⟨gs, x, y, rfl, k1, k2, by simp only [List.length_nil] at k3; omega⟩
        · rintro e ⟨gs, x, y, rfl, k1, k2, k3⟩
          refine DrR.ret (Dr.pure (a := Mo.d ⟨ps, ss, gs⟩) (fun r => rfl) ⟨⟨ps, ss, gs⟩, rfl, ?_⟩)
          exact {
            ok := ⟨fun p hp => ⟨(p2 p hp).1.fine, (p2 p hp).2.fine⟩, by show ps.length ≤ 300; omega, fun s hs => (h2 s hs).ok, hasc, by show ss.length ≤ 12; omega, fun f hf => (k2 f hf).1, k1, by show gs.length ≤ 11; omega⟩
            lo := ⟨fun p hp => ⟨(p2 p hp).1.2.1, (p2 p hp).2.2.1⟩, fun s hs p hp => ⟨((h2 s hs).2.2.2.2.1 p hp).1.2.1, ((h2 s hs).2.2.2.2.1 p hp).2.2.1⟩, fun s hs t ht => ((h2 s hs).2.2.2.2.2 t ht).2.1, fun f hf => (k2 f hf).2.1⟩
            nm := ⟨n, n2, n4, h1⟩
            q := h2
            df := fun f hf => (k2 f hf).2.2 }
end
end Q
end
section
set_option Elab.async false
set_option linter.all false
set_option maxRecDepth 100000
set_option maxHeartbeats 400000
namespace Q
open PySem PySem.Spec PyProof.Rows L2 DL
def yesD : D := .tup [.str "yes"]
/-- no signatures -/
def bentS (s : Sg) (p : T × T) : List D := [.non, .tup [.str s.name, .tup (s.rows.map pD)], .lst [.str s.name, .tup (s.rows.map pD), .tup (s.fur.map T.d)],
  .tup [.str "", .tup (s.rows.map pD), .tup (s.fur.map T.d)], .tup [.str "abcdefghi", .tup (s.rows.map pD), .tup (s.fur.map T.d)], .tup [.str "not", .tup (s.rows.map pD), .tup (s.fur.map T.d)],
  .tup [.str s.name, .tup [], .tup (s.fur.map T.d)], .tup [.str s.name, .tup [pD p, pD p, pD p, pD p, pD p], .tup (s.fur.map T.d)], .tup [.str s.name, .lst (s.rows.map pD), .tup (s.fur.map T.d)],
  .tup [.str s.name, .tup [.tup [p.1.d, p.2.d, yesD]], .tup (s.fur.map T.d)], .tup [.str s.name, .tup [.tup [yesD, .tup [.str "maybe"]]], .tup (s.fur.map T.d)],
  .tup [.str s.name, .tup (s.rows.map pD), .tup [yesD, yesD, yesD]], .tup [.str s.name, .tup (s.rows.map pD), .lst [yesD]], .tup [.str s.name, .tup (s.rows.map pD), .tup [.tup [.str "letter", .int 1]]],
  .tup [.int 5, .tup (s.rows.map pD), .tup (s.fur.map T.d)]]
theorem call1 {ρ : Type} {n : Nat} {f : SE ρ} {g : List D → ρ → Option (D × ρ)} {env : DL.Env} {r r1 : ρ} {d : D} {x : D × ρ} (h : f env r = some (d, r1)) (k : g [d] r1 = some x) : eCall n g (aCons f aNil) env r = some x := by
  unfold eCall aCons aNil; rw [h, Option.bind_some, Option.map_some, Option.bind_some, k]
theorem sl_hi1 {x : D} {xs : List D} : slD (.tup (x :: xs)) none (some 1) = some (.tup [x]) := by
  show some (D.tup (DL.cutD (x :: xs) none (some 1))) = _
  have : DL.cutD (x :: xs) none (some 1) = [x] := by
    unfold DL.cutD
    have e1 : HT.sIx (x :: xs).length 0 none = 0 := rfl
    have e2 : HT.sIx (x :: xs).length (x :: xs).length (some 1) = 1 := by
      show (HT.sIx (xs.length + 1) (xs.length + 1) (some 1)) = 1
      unfold HT.sIx
      simp
    rw [e1, e2]; rfl
  rw [this]
theorem bentS_ok {ρ : Type} {r : ρ} {s : Sg} {p : T × T} {ps : List (T × T)} (h : s.rows = p :: ps) : g_law_bent_signs [s.d] r = some (.lst (bentS s p), r) := by
  obtain ⟨nm, rows, fur⟩ := s
  simp only at h
  subst h
  have e : startE N_law_bent_signs [Sg.d ⟨nm, p :: ps, fur⟩] = [some (.tup [.str nm, .tup ((p :: ps).map pD), .tup (fur.map T.d)]), none, none, none] := rfl
  unfold g_law_bent_signs gOf
  rw [e]
  unfold b_law_bent_signs
  rw [sSeq_nx (e := [some (.tup [.str nm, .tup ((p :: ps).map pD), .tup (fur.map T.d)]), some (.str nm), some (.tup ((p :: ps).map pD)), some (.tup (fur.map T.d))]) (r' := r) rfl]
  have m1 : (eBin (ρ := ρ) mulD (eSl (eVar 2) oNone (oSome (eC (.int 1)))) (eC (.int 5))) [some (.tup [.str nm, .tup ((p :: ps).map pD), .tup (fur.map T.d)]), some (.str nm), some (.tup ((p :: ps).map pD)), some (.tup (fur.map T.d))] r = some (.tup [pD p, pD p, pD p, pD p, pD p], r) := by
    refine bin_eq (a := .tup [pD p]) (b := .int 5) ?_ rfl rfl
    rw [eSl_hi (h := oNone) (env2 := []) (d := .tup ((p :: ps).map pD)) (i := 1) rfl rfl, List.map_cons, sl_hi1]; rfl
  have m2 : (eSl (ρ := ρ) (eVar 0) oNone (oSome (eC (.int 2)))) [some (.tup [.str nm, .tup ((p :: ps).map pD), .tup (fur.map T.d)]), some (.str nm), some (.tup ((p :: ps).map pD)), some (.tup (fur.map T.d))] r = some (.tup [.str nm, .tup ((p :: ps).map pD)], r) := rfl
  have m3 : (eBin (ρ := ρ) addD (eBin ixD (eVar 2) (eC (.int 0))) (eTup (aCons (eTup (aCons (eC (.str "yes")) aNil)) aNil))) [some (.tup [.str nm, .tup ((p :: ps).map pD), .tup (fur.map T.d)]), some (.str nm), some (.tup ((p :: ps).map pD)), some (.tup (fur.map T.d))] r = some (.tup [p.1.d, p.2.d, yesD], r) :=
    bin_eq (a := pD p) (b := .tup [yesD]) (bin_eq rfl rfl ix0) rfl rfl
  have m4 : (eBin (ρ := ρ) mulD (eTup (aCons (eTup (aCons (eC (.str "yes")) aNil)) aNil)) (eC (.int 3))) [some (.tup [.str nm, .tup ((p :: ps).map pD), .tup (fur.map T.d)]), some (.str nm), some (.tup ((p :: ps).map pD)), some (.tup (fur.map T.d))] r = some (.tup [yesD, yesD, yesD], r) := rfl
  have m5 : (eUn (ρ := ρ) listD (eVar 0)) [some (.tup [.str nm, .tup ((p :: ps).map pD), .tup (fur.map T.d)]), some (.str nm), some (.tup ((p :: ps).map pD)), some (.tup (fur.map T.d))] r = some (.lst [.str nm, .tup ((p :: ps).map pD), .tup (fur.map T.d)], r) := rfl
  have m6 : (eUn (ρ := ρ) listD (eVar 2)) [some (.tup [.str nm, .tup ((p :: ps).map pD), .tup (fur.map T.d)]), some (.str nm), some (.tup ((p :: ps).map pD)), some (.tup (fur.map T.d))] r = some (.lst ((p :: ps).map pD), r) := rfl
  have v1 : (eVar (ρ := ρ) 1) [some (.tup [.str nm, .tup ((p :: ps).map pD), .tup (fur.map T.d)]), some (.str nm), some (.tup ((p :: ps).map pD)), some (.tup (fur.map T.d))] r = some (.str nm, r) := rfl
  have v2 : (eVar (ρ := ρ) 2) [some (.tup [.str nm, .tup ((p :: ps).map pD), .tup (fur.map T.d)]), some (.str nm), some (.tup ((p :: ps).map pD)), some (.tup (fur.map T.d))] r = some (.tup ((p :: ps).map pD), r) := rfl
  have v3 : (eVar (ρ := ρ) 3) [some (.tup [.str nm, .tup ((p :: ps).map pD), .tup (fur.map T.d)]), some (.str nm), some (.tup ((p :: ps).map pD)), some (.tup (fur.map T.d))] r = some (.tup (fur.map T.d), r) := rfl
  simp only [sRet, eLst, eTup, aCons, aNil, m1, m2, m3, m4, m5, m6, v1, v2, v3, Option.map_some, Option.bind_some, outD, eC]
  rfl
theorem nm_no0 {ρ : Type} {r : ρ} : g_is_name [.str ""] r = some (.bl false, r) := by kernel_rfl
theorem nm_no1 {ρ : Type} {r : ρ} : g_is_name [.str "abcdefghi"] r = some (.bl false, r) := by kernel_rfl
theorem nm_no2 {ρ : Type} {r : ρ} : g_is_name [.str "not"] r = some (.bl false, r) := by kernel_rfl
theorem nm_no3 {ρ : Type} {r : ρ} : g_is_name [.int 5] r = some (.bl false, r) := by kernel_rfl
theorem sig_name {ρ : Type} {r : ρ} {n R F : D} (h : g_is_name [n] r = some (.bl false, r)) : g_is_signature [.tup [n, R, F]] r = some (.bl false, r) := by
  have e : startE N_is_signature [.tup [n, R, F]] = [some (.tup [n, R, F]), none, none, none, none] := rfl
  have i2 : lenD (.tup [n, R, F]) = some (.int 3) := rfl
  have i3 : neD (.int 3) (.int 3) = some (.bl false) := rfl
  unfold g_is_signature gOf
  rw [e]
  simp only [b_is_signature, sSeq, sIf, sThen, sRet, bOr, bNot, bOf, toB, eUn, eBin, eVar, eC, eCall, aCons, aNil, h, i2, i3, isi_tup, ix0, outD, Option.bind_some, Option.map_some, List.getElem?_cons_zero, Bool.not_true, Bool.not_false, Bool.false_eq_true, ↓reduceIte]
/-- refused for its rows: the rest of the test, by its own words -/
theorem sig_rest {ρ : Type} {r : ρ} {n : Str} {R F : D} (h : Nm n) : g_is_signature [.tup [.str n, R, F]] r =
    ((sSeq (sIf (bOr (bNot (bOf (eUn (isiD "tuple") (eVar 1)))) (bNot (bChain leD leD (eC (.int 1)) (eUn lenD (eVar 1)) (eC (.int 4))))) (sRet (eC (.bl false))) sNil)
  (sSeq (sIf (bOr (bNot (bOf (eUn (isiD "tuple") (eVar 2)))) (bOf (eBin gtD (eUn lenD (eVar 2)) (eC (.int 2))))) (sRet (eC (.bl false))) sNil)
  (sRet (eIf (bOf (eUn allD (eComp (iSeqD (eVar 1)) (gNm 3) bT (eCall 1 g_is_clause (aCons (eVar 3) aNil)) [3]))) (eUn allD (eComp (iSeqD (eVar 2)) (gNm 4) bT (eCall 1 g_is_term (aCons (eVar 4) aNil)) [4])) (eC (.bl false)))))) [some (.tup [.str n, R, F]), some R, some F, none, none] r).map outD := by
  have e : startE N_is_signature [.tup [.str n, R, F]] = [some (.tup [.str n, R, F]), none, none, none, none] := rfl
  have i2 : lenD (.tup [.str n, R, F]) = some (.int 3) := rfl
  have i3 : neD (.int 3) (.int 3) = some (.bl false) := rfl
  have i4 := h ρ r
  unfold g_is_signature gOf
  rw [e]
  unfold b_is_signature
  rw [sSeq_nx (e := [some (.tup [.str n, R, F]), none, none, none, none]) (r' := r), sSeq_nx (e := [some (.tup [.str n, R, F]), some R, some F, none, none]) (r' := r)]
  · simp only [sPar, setAll, aCons, aNil, eBin, eVar, eC, ix1, ix2, List.getElem?_cons_zero, Option.bind_some, Option.map_some, List.length_cons, List.length_nil, List.set_cons_zero, List.set_cons_succ, Nat.reduceAdd, Nat.reduceLT, List.all_cons, List.all_nil, decide_true, Bool.and_self, ↓reduceIte]
  · simp only [sIf, sNil, bOr, bNot, bOf, toB, eUn, eBin, eVar, eC, eCall, aCons, aNil, i2, i3, i4, isi_tup, ix0, Option.bind_some, Option.map_some, List.getElem?_cons_zero, Bool.not_true, Bool.not_false, Bool.false_eq_true, ↓reduceIte]
theorem rows_yes {ρ : Type} {r : ρ} {env : DL.Env} {s : Sg} (h : s.ok) (h1 : env[1]? = some (some (.tup (s.rows.map pD)))) : (sIf (bOr (bNot (bOf (eUn (isiD "tuple") (eVar 1)))) (bNot (bChain leD leD (eC (.int 1)) (eUn lenD (eVar 1)) (eC (.int 4))))) (sRet (eC (.bl false))) sNil) env r = some (.nx env r) := by
  have k1 := le_ff (i := 1) (j := s.rows.length) (by have := h.r1; omega)
  have k2 := le_t (i := s.rows.length) (j := 4) (by have := h.r4; omega)
  simp only [sIf, sNil, bOr, bNot, bChain, bOf, toB, eUn, eBin, eVar, eC, h1, isi_tup, len_tup, List.length_map, k1, k2, Option.bind_some, Option.map_some, Bool.not_true, Bool.false_eq_true, ↓reduceIte]
theorem fur_yes {ρ : Type} {r : ρ} {env : DL.Env} {s : Sg} (h : s.ok) (h1 : env[2]? = some (some (.tup (s.fur.map T.d)))) : (sIf (bOr (bNot (bOf (eUn (isiD "tuple") (eVar 2)))) (bOf (eBin gtD (eUn lenD (eVar 2)) (eC (.int 2))))) (sRet (eC (.bl false))) sNil) env r = some (.nx env r) := by
  have k3 := gt_f (i := s.fur.length) (j := 2) (by have := h.f2; omega)
  simp only [sIf, sNil, bOr, bNot, bOf, toB, eUn, eBin, eVar, eC, h1, isi_tup, len_tup, List.length_map, k3, Option.bind_some, Option.map_some, Bool.not_true, Bool.false_eq_true, ↓reduceIte]
theorem maybe_no {ρ : Type} {r : ρ} : g_is_clause [.tup [yesD, .tup [.str "maybe"]]] r = some (.bl false, r) := by kernel_rfl
theorem let1_no {ρ : Type} {r : ρ} : g_is_term [.tup [.str "letter", .int 1]] r = some (.bl false, r) := by kernel_rfl
theorem cl3_no {ρ : Type} {r : ρ} {a b c : D} : g_is_clause [.tup [a, b, c]] r = some (.bl false, r) := rfl
theorem bentS_no {ρ : Type} {r : ρ} {s : Sg} {p : T × T} {ps : List (T × T)} (h : s.ok) (hr : s.rows = p :: ps) : ∀ b ∈ bentS s p, g_is_signature [b] r = some (.bl false, r) := by
  intro b hb
  have hn := h.nm
  simp only [bentS, List.mem_cons, List.not_mem_nil, or_false] at hb
  rcases hb with z | z | z | z | z | z | z | z | z | z | z | z | z | z | z <;> subst z
  · rfl
  · rfl
  · rfl
  · exact sig_name nm_no0
  · exact sig_name nm_no1
  · exact sig_name nm_no2
  · rw [sig_rest hn]; rfl
  · rw [sig_rest hn]; rfl
  · rw [sig_rest hn]; rfl
  · rw [sig_rest hn, sSeq_nx (e := [some (.tup [.str s.name, .tup [.tup [p.1.d, p.2.d, yesD]], .tup (s.fur.map T.d)]), some (.tup [.tup [p.1.d, p.2.d, yesD]]), some (.tup (s.fur.map T.d)), none, none]) (r' := r) rfl, sSeq_nx (fur_yes h rfl)]
    rfl
  · rw [sig_rest hn, sSeq_nx (e := [some (.tup [.str s.name, .tup [.tup [yesD, .tup [.str "maybe"]]], .tup (s.fur.map T.d)]), some (.tup [.tup [yesD, .tup [.str "maybe"]]]), some (.tup (s.fur.map T.d)), none, none]) (r' := r) rfl, sSeq_nx (fur_yes h rfl)]
    have c : eComp (ρ := ρ) (iSeqD (eVar 1)) (gNm 3) bT (eCall 1 g_is_clause (aCons (eVar 3) aNil)) [3] [some (.tup [.str s.name, .tup [.tup [yesD, .tup [.str "maybe"]]], .tup (s.fur.map T.d)]), some (.tup [.tup [yesD, .tup [.str "maybe"]]]), some (.tup (s.fur.map T.d)), none, none] r = some (.lst ([D.tup [yesD, .tup [.str "maybe"]]].map fun _ => .bl false), r) := by
      refine eComp_map (f := id) (xs := [.tup [yesD, .tup [.str "maybe"]]]) rfl (by simp [big]) fun x hx => ⟨[some (.tup [.str s.name, .tup [.tup [yesD, .tup [.str "maybe"]]], .tup (s.fur.map T.d)]), some (.tup [.tup [yesD, .tup [.str "maybe"]]]), some (.tup (s.fur.map T.d)), some x, none], rfl, ?_⟩
      rw [List.mem_singleton] at hx; subst hx; exact call1 rfl maybe_no
    have a : allD (.lst ([D.tup [yesD, .tup [.str "maybe"]]].map fun _ => .bl false)) = some (.bl false) := rfl
    simp only [sRet, eIf, bOf, toB, eUn, eC, c, a, Option.bind_some, Option.map_some, Bool.false_eq_true, ↓reduceIte, outD]
  · rw [sig_rest hn, sSeq_nx (rows_yes h rfl)]; rfl
  · rw [sig_rest hn, sSeq_nx (rows_yes h rfl)]; rfl
  · rw [sig_rest hn, sSeq_nx (rows_yes h rfl), sSeq_nx (e := [some (.tup [.str s.name, .tup (s.rows.map pD), .tup [.tup [.str "letter", .int 1]]]), some (.tup (s.rows.map pD)), some (.tup [.tup [.str "letter", .int 1]]), none, none]) (r' := r) rfl]
    have c1 : eComp (ρ := ρ) (iSeqD (eVar 1)) (gNm 3) bT (eCall 1 g_is_clause (aCons (eVar 3) aNil)) [3] [some (.tup [.str s.name, .tup (s.rows.map pD), .tup [.tup [.str "letter", .int 1]]]), some (.tup (s.rows.map pD)), some (.tup [.tup [.str "letter", .int 1]]), none, none] r = some (.lst (s.rows.map fun _ => .bl true), r) :=
      eComp_map (f := pD) rfl (by have := h.r4; simp only [big] at *; omega) fun x hx => ⟨[some (.tup [.str s.name, .tup (s.rows.map pD), .tup [.tup [.str "letter", .int 1]]]), some (.tup (s.rows.map pD)), some (.tup [.tup [.str "letter", .int 1]]), some (pD x), none], rfl, clause_ok (h.rf x hx)⟩
    have c2 : eComp (ρ := ρ) (iSeqD (eVar 2)) (gNm 4) bT (eCall 1 g_is_term (aCons (eVar 4) aNil)) [4] [some (.tup [.str s.name, .tup (s.rows.map pD), .tup [.tup [.str "letter", .int 1]]]), some (.tup (s.rows.map pD)), some (.tup [.tup [.str "letter", .int 1]]), none, none] r = some (.lst ([D.tup [.str "letter", .int 1]].map fun _ => .bl false), r) := by
      refine eComp_map (f := id) (xs := [.tup [.str "letter", .int 1]]) rfl (by simp [big]) fun x hx => ⟨[some (.tup [.str s.name, .tup (s.rows.map pD), .tup [.tup [.str "letter", .int 1]]]), some (.tup (s.rows.map pD)), some (.tup [.tup [.str "letter", .int 1]]), none, some x], rfl, ?_⟩
      rw [List.mem_singleton] at hx; subst hx; exact call1 rfl let1_no
    have a : allD (.lst ([D.tup [.str "letter", .int 1]].map fun _ => .bl false)) = some (.bl false) := rfl
    simp only [sRet, eIf, bOf, toB, eUn, eC, c1, c2, a, all_true, Option.bind_some, Option.map_some, Bool.false_eq_true, ↓reduceIte, outD]
  · exact sig_name nm_no3
end Q
end
section
set_option Elab.async false
set_option linter.all false
set_option maxRecDepth 100000
set_option maxHeartbeats 400000
namespace Q
open PySem PySem.Spec PyProof.Rows L2 DL
/-! bodies that are none -/
def useD (x : Str) : D := .tup [.str "use", .str x]
def leakD (x : Str) : D := .tup [.str "let", .str "v", useD x, useD "v"]
theorem add_tt {xs ys : List D} (h : xs.length + ys.length ≤ big) : addD (.tup xs) (.tup ys) = some (.tup (xs ++ ys)) := if_pos h
theorem rep1 {x : D} {k : Nat} : (List.replicate k [x]).flatten = List.replicate k x := by
  induction k with
  | zero => rfl
  | succ k ih => rw [List.replicate_succ, List.flatten_cons, ih]; rfl
theorem mul_t1 {x : D} {k : Nat} (h : k ≤ 1000) : mulD (.tup [x]) (.int k) = some (.tup (List.replicate k x)) := by
  have : mulD (.tup [x]) (.int (k : Int)) = some (.tup (List.replicate ((k : Int)).toNat [x]).flatten) := if_pos ⟨rfl, by omega, by omega, by simp⟩
  rw [this, Int.toNat_natCast, rep1]
theorem mul_l1 {x : D} {k : Nat} (h : k ≤ 1000) : mulD (.lst [x]) (.int k) = some (.lst (List.replicate k x)) := by
  have : mulD (.lst [x]) (.int (k : Int)) = some (.lst (List.replicate ((k : Int)).toNat [x]).flatten) := if_pos ⟨by omega, by omega, by rw [Int.toNat_natCast]; simp only [List.length_cons, List.length_nil, big]; omega⟩
  rw [this, Int.toNat_natCast, rep1]
/-- the same, for definitions of a signature with fl further places, and inputs i :: is -/
def bentB (nm : Str) (i : Str) (is : List Str) (body : D) (fl : Nat) : List D :=
  [D.tup [.str nm, .tup ((i :: is).map D.str), .tup [.str "either", leakD i, useD "v"]]] ++
  (if fl = 0 then [] else [D.tup [.str nm, .tup ((i :: is).map D.str), .tup [.str "call", .str nm, .tup (leakD i :: List.replicate fl (useD "v"))]],
    .tup [.str nm, .tup (List.replicate (fl + 1) (.str i)), useD i]]) ++
  [.non, .tup [.str nm, .tup ((i :: is).map D.str)], .tup [.str nm, .tup ((i :: is).map D.str)], .lst [.str nm, .tup ((i :: is).map D.str), body],
  .tup [.str "nobody", .tup ((i :: is).map D.str), body], .tup [.str nm, .tup ((i :: is).map D.str ++ [.str "q"]), body], .tup [.str nm, .tup (is.map D.str), body],
  .tup [.str nm, .lst ((i :: is).map D.str), body], .tup [.str nm, .tup (.str "and" :: is.map D.str), useD i], .tup [.str nm, .tup ((i :: is).map D.str), useD "nobody"],
  .tup [.str nm, .tup ((i :: is).map D.str), .tup [.str "use"]], .tup [.str nm, .tup ((i :: is).map D.str), .tup [.str "call", .str "nobody", .tup [useD i]]],
  .tup [.str nm, .tup ((i :: is).map D.str), .tup [.str "call", .str nm, .tup (List.replicate (2 + fl) (useD i))]],
  .tup [.str nm, .tup ((i :: is).map D.str), .tup [.str "call", .str nm, .lst (List.replicate (1 + fl) (useD i))]],
  .tup [.str nm, .tup ((i :: is).map D.str), .tup [.str "either", useD i]], .tup [.str nm, .tup ((i :: is).map D.str), .tup [.str "let", .str "v", useD "v", useD i]],
  .tup [.str nm, .tup ((i :: is).map D.str), .tup [.str "let", .int 5, useD i, useD i]], .tup [.str nm, .tup ((i :: is).map D.str), .tup [.str "let", .str "v", useD i]],
  .tup [.str nm, .tup ((i :: is).map D.str), .tup [.str "either", useD i, .non]], .tup [.str nm, .tup ((i :: is).map D.str), .tup [.str "test", useD i, useD i]]]
theorem sl_lo1 {x : D} {xs : List D} : slD (.tup (x :: xs)) (some 1) none = some (.tup xs) := by
  show some (D.tup (DL.cutD (x :: xs) (some 1) none)) = _
  have : DL.cutD (x :: xs) (some 1) none = xs := by
    unfold DL.cutD
    have e1 : HT.sIx (x :: xs).length 0 (some 1) = 1 := by
      show (HT.sIx (xs.length + 1) 0 (some 1)) = 1
      unfold HT.sIx
      simp
    have e2 : HT.sIx (x :: xs).length (x :: xs).length none = xs.length + 1 := rfl
    rw [e1, e2]
    simp
  rw [this]
theorem bentB_ok {ρ : Type} {r : ρ} {s : Sg} {nm i : Str} {is : List Str} {body : D} (hi : is.length = s.fur.length) (hf : s.fur.length ≤ 2) : g_law_bent_bodies [.tup [.str nm, .tup ((i :: is).map D.str), body], s.d] r = some (.lst (bentB nm i is body s.fur.length), r) := by
  obtain ⟨n, rows, fur⟩ := s
  match fur, is, hi, hf with
  | [], [], _, _ => kernel_rfl
  | [t], [j], _, _ => kernel_rfl
  | [t, u], [j, k], _, _ => kernel_rfl
  | _ :: _ :: _ :: _, _, _, h => simp at h
end Q
end
section
set_option Elab.async false
set_option linter.all false
set_option maxRecDepth 100000
set_option maxHeartbeats 400000
namespace Q
open PySem PySem.Spec PyProof.Rows L2 DL
section
variable {ρ : Type} {r : ρ} {ss : List Sg} {l0 : Str}
theorem def_nobody {n : Str} {I B : D} (hn : Nm n) (h : ∀ s ∈ ss, s.name ≠ n) : g_is_definition [.tup [.str n, I, B], sgD ss] r = some (.bl false, r) := by
  have e : startE N_is_definition [.tup [.str n, I, B], sgD ss] = [some (.tup [.str n, I, B]), some (sgD ss), none, none, none] := rfl
  have n1 := hn ρ r
  have n2 := nin_sgf h
  have n6 : neD (.int ((3 : Nat) : Int)) (.int 3) = some (.bl false) := rfl
  unfold g_is_definition gOf
  rw [e]
  simp only [b_is_definition, sSeq, sIf, sThen, sRet, bOr, bNot, bOf, toB, eUn, eBin, eVar, eC, eCall, aCons, aNil, n1, n2, n6, isi_tup, ix0, len_tup, outD, Option.bind_some, Option.map_some, List.getElem?_cons_zero, List.getElem?_cons_succ, List.length_cons, List.length_nil, Nat.reduceAdd, Bool.not_true, Bool.not_false, Bool.false_eq_true, ↓reduceIte]
def restDf {ρ : Type} : SS ρ := (sSeq (sIf (bOr (bOf (eBin neD (eUn lenD (eBin ixD (eVar 2) (eC (.int 1)))) (eC (.int 1)))) (bOr (bNot (bOf (eUn (isiD "tuple") (eVar 3)))) (bOf (eBin neD (eUn lenD (eVar 3)) (eBin addD (eC (.int 1)) (eUn lenD (eBin ixD (eVar 2) (eC (.int 2))))))))) (sRet (eC (.bl false))) sNil)
  (sSeq (sIf (bOr (bNot (bOf (eUn allD (eComp (iSeqD (eVar 3)) (gNm 4) bT (eCall 1 g_is_name (aCons (eVar 4) aNil)) [4])))) (bOf (eBin neD (eUn lenD (eDComp (iSeqD (eVar 3)) (gNm 4) bT (eVar 4) (eC (.bl true)) [4])) (eUn lenD (eVar 3))))) (sRet (eC (.bl false))) sNil)
  (sRet (eIf (bOf (eCall 3 (g_is_expression fuel_is_expression) (aCons (eBin ixD (eVar 0) (eC (.int 2))) (aCons (eUn listD (eVar 3)) (aCons (eVar 1) aNil))))) (eBin leD (eUn lenD (eCall 1 g_nodes_of (aCons (eBin ixD (eVar 0) (eC (.int 2))) aNil))) (eC (.int 60))) (eC (.bl false))))))
theorem def_rest (hA : Asc l0 ss) {s : Sg} (hs : s ∈ ss) {I B : D} (hn : Nm s.name) : g_is_definition [.tup [.str s.name, I, B], sgD ss] r = (restDf [some (.tup [.str s.name, I, B]), some (sgD ss), some s.d, some I, none] r).map outD := by
  have e : startE N_is_definition [.tup [.str s.name, I, B], sgD ss] = [some (.tup [.str s.name, I, B]), some (sgD ss), none, none, none] := rfl
  have n1 := hn ρ r
  have n2 := nin_sg hA hs
  have n3 := dix_sg hA hs
  have n6 : neD (.int ((3 : Nat) : Int)) (.int 3) = some (.bl false) := rfl
  unfold g_is_definition gOf
  rw [e]
  unfold b_is_definition
  rw [sSeq_nx (e := [some (.tup [.str s.name, I, B]), some (sgD ss), none, none, none]) (r' := r), sSeq_nx (e := [some (.tup [.str s.name, I, B]), some (sgD ss), some s.d, some I, none]) (r' := r)]
  · rfl
  · simp only [sPar, setAll, aCons, aNil, eBin, eVar, eC, n3, ix0, ix1, List.getElem?_cons_zero, List.getElem?_cons_succ, Option.bind_some, Option.map_some, List.length_cons, List.length_nil, List.set_cons_zero, List.set_cons_succ, Nat.reduceAdd, Nat.reduceLT, List.all_cons, List.all_nil, decide_true, Bool.and_self, ↓reduceIte]
  · simp only [sIf, sNil, bOr, bNot, bOf, toB, eUn, eBin, eVar, eC, eCall, aCons, aNil, n1, n2, n6, isi_tup, ix0, len_tup, Option.bind_some, Option.map_some, List.getElem?_cons_zero, List.getElem?_cons_succ, List.length_cons, List.length_nil, Nat.reduceAdd, Bool.not_true, Bool.not_false, Bool.false_eq_true, ↓reduceIte]
/-- the names are right, the body is none -/
theorem rest_body {s : Sg} {i : Str} {is : List Str} {B : D} (hr : s.rows.length = 1) (hl : (i :: is).length = 1 + s.fur.length) (hN : ∀ x ∈ i :: is, Nm x) (hd : (i :: is).Nodup) (hb : (i :: is).length ≤ 100) (h : g_is_expression fuel_is_expression [B, .lst ((i :: is).map D.str), sgD ss] r = some (.bl false, r)) :
    restDf [some (.tup [.str s.name, .tup ((i :: is).map D.str), B]), some (sgD ss), some s.d, some (.tup ((i :: is).map D.str)), none] r = some (.ret (.bl false) r) := by
  generalize hins : i :: is = ins at *
  have n4 : ixD s.d (.int 1) = some (.tup (s.rows.map pD)) := rfl
  have n5 : ixD s.d (.int 2) = some (.tup (s.fur.map T.d)) := rfl
  have n7 : neD (.int ((s.rows.length : Nat) : Int)) (.int 1) = some (.bl false) := by rw [hr]; rfl
  have n8 : neD (.int ((ins.length : Nat) : Int)) (.int (1 + (s.fur.length : Nat))) = some (.bl false) := by
    have := ne_nn (i := ins.length) (j := 1 + s.fur.length)
    rw [decide_eq_true hl] at this
    simpa using this
  have n9 : neD (.int ((ins.length : Nat) : Int)) (.int ((ins.length : Nat) : Int)) = some (.bl false) := ne_self
  have c1 : eComp (ρ := ρ) (iSeqD (eVar 3)) (gNm 4) bT (eCall 1 g_is_name (aCons (eVar 4) aNil)) [4] [some (.tup [.str s.name, .tup (ins.map D.str), B]), some (sgD ss), some s.d, some (.tup (ins.map D.str)), none] r = some (.lst (ins.map fun _ => .bl true), r) :=
    eComp_map (f := D.str) rfl (by simp only [big]; omega) fun x hx => ⟨[some (.tup [.str s.name, .tup (ins.map D.str), B]), some (sgD ss), some s.d, some (.tup (ins.map D.str)), some (.str x)], rfl, call1 rfl (hN x hx ρ r)⟩
  have c2 : eDComp (ρ := ρ) (iSeqD (eVar 3)) (gNm 4) bT (eVar 4) (eC (.bl true)) [4] [some (.tup [.str s.name, .tup (ins.map D.str), B]), some (sgD ss), some s.d, some (.tup (ins.map D.str)), none] r = some (.dct (ins.map .inr) (ins.map fun _ => .bl true), r) := by
    have := dFold_str (r := r) (env := [some (.tup [.str s.name, .tup (ins.map D.str), B]), some (sgD ss), some s.d, some (.tup (ins.map D.str)), none]) (i := 4) (by simp) ins [] [] hd (fun _ _ => by simp) (by simp only [List.length_nil]; omega)
    unfold eDComp
    show Option.map _ (dFold (gNm 4) bT (eVar 4) (eC (.bl true)) [some (.tup [.str s.name, .tup (ins.map D.str), B]), some (sgD ss), some s.d, some (.tup (ins.map D.str)), none] (ins.map D.str) r [] []) = _
    rw [this]
    rfl
  have c3 : lenD (.dct (ins.map .inr) (ins.map fun _ => .bl true)) = some (.int (ins.length : Nat)) := by
    show some (D.int ((ins.map fun _ => D.bl true).length : Nat)) = _
    rw [List.length_map]
  have c8 : listD (.tup (ins.map D.str)) = some (.lst (ins.map D.str)) := rfl
  simp only [restDf, sSeq, sIf, sNil, sThen, sRet, bOr, bNot, eIf, bOf, toB, eUn, eBin, eVar, eC, eCall, aCons, aNil, n4, n5, n7, n8, n9, c1, c2, c3, c8, h, all_true, isi_tup, ix0, ix1, ix2, len_tup, add_ii, List.length_map, Option.bind_some, Option.map_some, List.getElem?_cons_zero, List.getElem?_cons_succ, Bool.not_true, Bool.false_eq_true, ↓reduceIte]
/-! calls -/
theorem ex_call_no {j : Nat} {x : Str} {A : D} {kn : D} (hn : Nm x) (h : ∀ s ∈ ss, s.name ≠ x) : g_is_expression (j + 1) [.tup [.str "call", .str x, A], kn, sgD ss] r = some (.bl false, r) := by
  have e : startE N_is_expression [.tup [.str "call", .str x, A], kn, sgD ss] = [some (.tup [.str "call", .str x, A]), some kn, some (sgD ss), none] := rfl
  have n1 := hn ρ r
  have n2 := nin_sgf h
  have n3 : neD (.int ((3 : Nat) : Int)) (.int 3) = some (.bl false) := rfl
  have n4 : eqD (.int ((3 : Nat) : Int)) (.int 0) = some (.bl false) := rfl
  unfold g_is_expression gOf
  rw [e]
  simp only [b_is_expression, sSeq, sIf, sNil, sThen, sRet, bOr, bNot, eIf, bOf, toB, eUn, eBin, eVar, eC, eCall, aCons, aNil, n1, n2, n3, n4, isi_tup, isi_str, ix0, ix1, ix2, len_tup, eqs_uc, eqs_ec, eqs_lc, eqs_cc, outD, Option.bind_some, Option.map_some, List.getElem?_cons_zero, List.getElem?_cons_succ, List.length_cons, List.length_nil, Nat.reduceAdd, Bool.not_true, Bool.not_false, Bool.false_eq_true, ↓reduceIte]
theorem ex_call_lst {j : Nat} (hA : Asc l0 ss) {s : Sg} (hs : s ∈ ss) (hn : Nm s.name) {xs : List D} {kn : D} : g_is_expression (j + 1) [.tup [.str "call", .str s.name, .lst xs], kn, sgD ss] r = some (.bl false, r) := by
  have e : startE N_is_expression [.tup [.str "call", .str s.name, .lst xs], kn, sgD ss] = [some (.tup [.str "call", .str s.name, .lst xs]), some kn, some (sgD ss), none] := rfl
  have n1 := hn ρ r
  have n2 := nin_sg hA hs
  have n3 : neD (.int ((3 : Nat) : Int)) (.int 3) = some (.bl false) := rfl
  have n4 : eqD (.int ((3 : Nat) : Int)) (.int 0) = some (.bl false) := rfl
  have n5 : isiD "tuple" (.lst xs) = some (.bl false) := rfl
  unfold g_is_expression gOf
  rw [e]
  simp only [b_is_expression, sSeq, sIf, sNil, sThen, sRet, bOr, bNot, eIf, bOf, toB, eUn, eBin, eVar, eC, eCall, aCons, aNil, n1, n2, n3, n4, n5, isi_tup, isi_str, ix0, ix1, ix2, len_tup, eqs_uc, eqs_ec, eqs_lc, eqs_cc, outD, Option.bind_some, Option.map_some, List.getElem?_cons_zero, List.getElem?_cons_succ, List.length_cons, List.length_nil, Nat.reduceAdd, Bool.not_true, Bool.not_false, Bool.false_eq_true, ↓reduceIte]
theorem ex_call_len {j : Nat} (hA : Asc l0 ss) {s : Sg} (hs : s ∈ ss) (hn : Nm s.name) {xs : List D} {kn : D} (h : xs.length ≠ 1 + s.fur.length) : g_is_expression (j + 1) [.tup [.str "call", .str s.name, .tup xs], kn, sgD ss] r = some (.bl false, r) := by
  have e : startE N_is_expression [.tup [.str "call", .str s.name, .tup xs], kn, sgD ss] = [some (.tup [.str "call", .str s.name, .tup xs]), some kn, some (sgD ss), none] := rfl
  have n1 := hn ρ r
  have n2 := nin_sg hA hs
  have n5 := dix_sg hA hs
  have n6 : ixD s.d (.int 2) = some (.tup (s.fur.map T.d)) := rfl
  have n3 : neD (.int ((3 : Nat) : Int)) (.int 3) = some (.bl false) := rfl
  have n4 : eqD (.int ((3 : Nat) : Int)) (.int 0) = some (.bl false) := rfl
  have n7 : neD (.int ((xs.length : Nat) : Int)) (.int (1 + (s.fur.length : Nat))) = some (.bl true) := by
    have := ne_nn (i := xs.length) (j := 1 + s.fur.length)
    rw [decide_eq_false h] at this
    simpa using this
  unfold g_is_expression gOf
  rw [e]
  simp only [b_is_expression, sSeq, sIf, sNil, sThen, sRet, bOr, bNot, eIf, bOf, toB, eUn, eBin, eVar, eC, eCall, aCons, aNil, n1, n2, n3, n4, n5, n6, n7, isi_tup, isi_str, ix0, ix1, ix2, len_tup, add_ii, List.length_map, eqs_uc, eqs_ec, eqs_lc, eqs_cc, outD, Option.bind_some, Option.map_some, List.getElem?_cons_zero, List.getElem?_cons_succ, List.length_cons, List.length_nil, Nat.reduceAdd, Bool.not_true, Bool.not_false, Bool.false_eq_true, ↓reduceIte]
theorem ex_call_args {j : Nat} (hA : Asc l0 ss) {s : Sg} (hs : s ∈ ss) (hn : Nm s.name) {xs : List (D × Bool)} {kn : D} (h : xs.length = 1 + s.fur.length) (hb : xs.length ≤ 100) (hx : ∀ x ∈ xs, g_is_expression j [x.1, kn, sgD ss] r = some (.bl x.2, r)) (ha : allD (.lst (xs.map fun p => .bl p.2)) = some (.bl false)) :
    g_is_expression (j + 1) [.tup [.str "call", .str s.name, .tup (xs.map Prod.fst)], kn, sgD ss] r = some (.bl false, r) := by
  have e : startE N_is_expression [.tup [.str "call", .str s.name, .tup (xs.map Prod.fst)], kn, sgD ss] = [some (.tup [.str "call", .str s.name, .tup (xs.map Prod.fst)]), some kn, some (sgD ss), none] := rfl
  have n1 := hn ρ r
  have n2 := nin_sg hA hs
  have n5 := dix_sg hA hs
  have n6 : ixD s.d (.int 2) = some (.tup (s.fur.map T.d)) := rfl
  have n3 : neD (.int ((3 : Nat) : Int)) (.int 3) = some (.bl false) := rfl
  have n4 : eqD (.int ((3 : Nat) : Int)) (.int 0) = some (.bl false) := rfl
  have n7 : neD (.int ((xs.length : Nat) : Int)) (.int (1 + (s.fur.length : Nat))) = some (.bl false) := by
    have := ne_nn (i := xs.length) (j := 1 + s.fur.length)
    rw [decide_eq_true h] at this
    simpa using this
  have c : eComp (ρ := ρ) (iSeqD (eBin ixD (eVar 0) (eC (.int 2)))) (gNm 3) bT (eCall 3 (g_is_expression j) (aCons (eVar 3) (aCons (eVar 1) (aCons (eVar 2) aNil)))) [3] [some (.tup [.str "call", .str s.name, .tup (xs.map Prod.fst)]), some kn, some (sgD ss), none] r = some (.lst (xs.map fun p => .bl p.2), r) := by
    refine eComp_map (f := Prod.fst) (h := fun p => .bl p.2) (xs := xs) rfl (by simp only [big]; omega) fun x hx2 => ⟨[some (.tup [.str "call", .str s.name, .tup (xs.map Prod.fst)]), some kn, some (sgD ss), some x.1], rfl, ?_⟩
    have := hx x hx2
    simp only [eCall, aCons, aNil, eVar, this, Option.bind_some, Option.map_some, List.getElem?_cons_zero, List.getElem?_cons_succ]
  unfold g_is_expression gOf
  rw [e]
  simp only [b_is_expression, sSeq, sIf, sNil, sThen, sRet, bOr, bNot, eIf, bOf, toB, eUn, eBin, eVar, eC, eCall, aCons, aNil, n1, n2, n3, n4, n5, n6, n7, c, ha, isi_tup, isi_str, ix0, ix1, ix2, len_tup, add_ii, List.length_map, eqs_uc, eqs_ec, eqs_lc, eqs_cc, outD, Option.bind_some, Option.map_some, List.getElem?_cons_zero, List.getElem?_cons_succ, List.length_cons, List.length_nil, Nat.reduceAdd, Bool.not_true, Bool.not_false, Bool.false_eq_true, ↓reduceIte]
end
end Q
end
section
set_option Elab.async false
set_option linter.all false
set_option maxRecDepth 100000
set_option maxHeartbeats 400000
namespace Q
open PySem PySem.Spec PyProof.Rows L2 DL
theorem nm_nobody : Nm "nobody" := fun _ _ => by kernel_rfl
theorem bentB_no {ρ : Type} {r : ρ} {ss : List Sg} {l0 : Str} (hA : Asc l0 ss) (hno : ∀ s ∈ ss, s.name ≠ "nobody") {s : Sg} (hs : s ∈ ss) (hn : Nm s.name) (hr : s.rows.length = 1) (hf : s.fur.length ≤ 2) {i : Str} {is : List Str} (hi : i :: is = insL.take (1 + s.fur.length)) {body : D} :
    ∀ b ∈ bentB s.name i is body s.fur.length, g_is_definition [b, sgD ss] r = some (.bl false, r) := by
  obtain ⟨nm, rows, fur⟩ := s
  simp only at hn hr hf hi ⊢
  obtain ⟨p, rfl⟩ : ∃ p, rows = [p] := by
    match rows, hr with
    | [p], _ => exact ⟨p, rfl⟩
  have dr : ∀ I B, g_is_definition [.tup [.str nm, I, B], sgD ss] r = (restDf [some (.tup [.str nm, I, B]), some (sgD ss), some (Sg.d ⟨nm, [p], fur⟩), some I, none] r).map outD := fun I B => def_rest hA hs hn
  have bd : ∀ (i : Str) (is : List Str) (B : D), (i :: is).length = 1 + fur.length → (∀ x ∈ i :: is, Nm x) → (i :: is).Nodup → g_is_expression fuel_is_expression [B, .lst ((i :: is).map D.str), sgD ss] r = some (.bl false, r) → g_is_definition [.tup [.str nm, .tup ((i :: is).map D.str), B], sgD ss] r = some (.bl false, r) := fun i is B h1 h2 h3 h4 => by
    rw [dr, rest_body (s := ⟨nm, [p], fur⟩) rfl h1 h2 h3 (by rw [h1]; omega) h4]; rfl
  match fur, hf with
  | [], _ =>
    obtain ⟨rfl, rfl⟩ : i = "x" ∧ is = [] := by
      have : i :: is = ([("x" : Str)] : List Str) := hi
      simpa using this
    have nx : ∀ x ∈ (["x"] : List Str), Nm x := fun x hx => by rw [List.mem_singleton] at hx; exact hx ▸ nm_x
    have nd : (["x"] : List Str).Nodup := by decide
    intro b hb
    simp only [bentB, List.length_nil, ↓reduceIte, List.append_nil, List.cons_append, List.nil_append, List.mem_cons, List.not_mem_nil, or_false] at hb
    rcases hb with z | z | z | z | z | z | z | z | z | z | z | z | z | z | z | z | z | z | z | z | z <;> subst z
    · exact bd "x" [] _ rfl nx nd (by kernel_rfl)
    · kernel_rfl
    · kernel_rfl
    · kernel_rfl
    · kernel_rfl
    · exact def_nobody nm_nobody hno
    · rw [dr]; kernel_rfl
    · rw [dr]; kernel_rfl
    · rw [dr]; kernel_rfl
    · rw [dr]; kernel_rfl
    · exact bd "x" [] _ rfl nx nd (by kernel_rfl)
    · exact bd "x" [] _ rfl nx nd (by kernel_rfl)
    · exact bd "x" [] _ rfl nx nd (ex_call_no nm_nobody hno)
    · exact bd "x" [] _ rfl nx nd (ex_call_len hA hs hn (by simp))
    · exact bd "x" [] _ rfl nx nd (ex_call_lst hA hs hn)
    · exact bd "x" [] _ rfl nx nd (by kernel_rfl)
    · exact bd "x" [] _ rfl nx nd (by kernel_rfl)
    · exact bd "x" [] _ rfl nx nd (by kernel_rfl)
    · exact bd "x" [] _ rfl nx nd (by kernel_rfl)
    · exact bd "x" [] _ rfl nx nd (by kernel_rfl)
    · exact bd "x" [] _ rfl nx nd (by kernel_rfl)
  | [t], _ =>
    obtain ⟨rfl, rfl⟩ : i = "x" ∧ is = [("y" : Str)] := by
      have : i :: is = ([("x" : Str), "y"] : List Str) := hi
      simpa using this
    have nx : ∀ x ∈ (["x", "y"] : List Str), Nm x := fun x hx => nm3 x (List.mem_of_mem_take (i := 2) hx)
    have nd : (["x", "y"] : List Str).Nodup := by decide
    intro b hb
    simp only [bentB, List.length_nil, List.length_cons, Nat.reduceAdd, Nat.reduceEqDiff, ↓reduceIte, List.append_nil, List.cons_append, List.nil_append, List.mem_cons, List.not_mem_nil, or_false] at hb
    rcases hb with z | z | z | z | z | z | z | z | z | z | z | z | z | z | z | z | z | z | z | z | z | z | z <;> subst z
    · exact bd "x" ["y"] _ rfl nx nd (by kernel_rfl)
    · refine bd "x" ["y"] _ rfl nx nd (ex_call_args hA hs hn (xs := [(leakD "x", true), (useD "v", false)]) rfl (by decide) (fun x hx => ?_) rfl)
      simp only [List.mem_cons, List.not_mem_nil, or_false] at hx
      rcases hx with z | z <;> subst z <;> kernel_rfl
    · rw [dr]; kernel_rfl
    · kernel_rfl
    · kernel_rfl
    · kernel_rfl
    · kernel_rfl
    · exact def_nobody nm_nobody hno
    · rw [dr]; kernel_rfl
    · rw [dr]; kernel_rfl
    · rw [dr]; kernel_rfl
    · rw [dr]; kernel_rfl
    · exact bd "x" ["y"] _ rfl nx nd (by kernel_rfl)
    · exact bd "x" ["y"] _ rfl nx nd (by kernel_rfl)
    · exact bd "x" ["y"] _ rfl nx nd (ex_call_no nm_nobody hno)
    · exact bd "x" ["y"] _ rfl nx nd (ex_call_len hA hs hn (by simp))
    · exact bd "x" ["y"] _ rfl nx nd (ex_call_lst hA hs hn)
    · exact bd "x" ["y"] _ rfl nx nd (by kernel_rfl)
    · exact bd "x" ["y"] _ rfl nx nd (by kernel_rfl)
    · exact bd "x" ["y"] _ rfl nx nd (by kernel_rfl)
    · exact bd "x" ["y"] _ rfl nx nd (by kernel_rfl)
    · exact bd "x" ["y"] _ rfl nx nd (by kernel_rfl)
    · exact bd "x" ["y"] _ rfl nx nd (by kernel_rfl)
  | [t, u], _ =>
    obtain ⟨rfl, rfl⟩ : i = "x" ∧ is = [("y" : Str), "z"] := by
      have : i :: is = ([("x" : Str), "y", "z"] : List Str) := hi
      simpa using this
    have nx : ∀ x ∈ (["x", "y", "z"] : List Str), Nm x := nm3
    have nd : (["x", "y", "z"] : List Str).Nodup := by decide
    intro b hb
    simp only [bentB, List.length_nil, List.length_cons, Nat.reduceAdd, Nat.reduceEqDiff, ↓reduceIte, List.append_nil, List.cons_append, List.nil_append, List.mem_cons, List.not_mem_nil, or_false] at hb
    rcases hb with z | z | z | z | z | z | z | z | z | z | z | z | z | z | z | z | z | z | z | z | z | z | z <;> subst z
    · exact bd "x" ["y", "z"] _ rfl nx nd (by kernel_rfl)
    · refine bd "x" ["y", "z"] _ rfl nx nd (ex_call_args hA hs hn (xs := [(leakD "x", true), (useD "v", false), (useD "v", false)]) rfl (by decide) (fun x hx => ?_) rfl)
      simp only [List.mem_cons, List.not_mem_nil, or_false] at hx
      rcases hx with z | z | z <;> subst z <;> kernel_rfl
    · rw [dr]; kernel_rfl
    · kernel_rfl
    · kernel_rfl
    · kernel_rfl
    · kernel_rfl
    · exact def_nobody nm_nobody hno
    · rw [dr]; kernel_rfl
    · rw [dr]; kernel_rfl
    · rw [dr]; kernel_rfl
    · rw [dr]; kernel_rfl
    · exact bd "x" ["y", "z"] _ rfl nx nd (by kernel_rfl)
    · exact bd "x" ["y", "z"] _ rfl nx nd (by kernel_rfl)
    · exact bd "x" ["y", "z"] _ rfl nx nd (ex_call_no nm_nobody hno)
    · exact bd "x" ["y", "z"] _ rfl nx nd (ex_call_len hA hs hn (by simp))
    · exact bd "x" ["y", "z"] _ rfl nx nd (ex_call_lst hA hs hn)
    · exact bd "x" ["y", "z"] _ rfl nx nd (by kernel_rfl)
    · exact bd "x" ["y", "z"] _ rfl nx nd (by kernel_rfl)
    · exact bd "x" ["y", "z"] _ rfl nx nd (by kernel_rfl)
    · exact bd "x" ["y", "z"] _ rfl nx nd (by kernel_rfl)
    · exact bd "x" ["y", "z"] _ rfl nx nd (by kernel_rfl)
    · exact bd "x" ["y", "z"] _ rfl nx nd (by kernel_rfl)
end Q
end
section
set_option Elab.async false
set_option linter.all false
set_option maxRecDepth 100000
set_option maxHeartbeats 400000
namespace Q
open PySem PySem.Spec PyProof.Rows L2 DL
/-! slices -/
theorem sIx_k {n k d : Nat} (h : k ≤ n) : HT.sIx n d (some (k : Int)) = k := by
  unfold HT.sIx
  simp only []
  rw [if_neg (by omega)]
  omega
theorem sl_take {xs : List D} {k : Nat} (h : k ≤ xs.length) : slD (.tup xs) none (some (k : Int)) = some (.tup (xs.take k)) := by
  show some (D.tup (DL.cutD xs none (some (k : Int)))) = _
  unfold DL.cutD
  rw [sIx_k h, show HT.sIx xs.length 0 none = 0 from rfl]
  simp
theorem sl_drop {xs : List D} {k : Nat} (h : k ≤ xs.length) : slD (.tup xs) (some (k : Int)) none = some (.tup (xs.drop k)) := by
  show some (D.tup (DL.cutD xs (some (k : Int)) none)) = _
  unfold DL.cutD
  rw [sIx_k h, show HT.sIx xs.length xs.length none = xs.length from rfl, List.take_of_length_le (by rw [List.length_drop]; omega)]
theorem sl_last {xs : List D} {x : D} : slD (.tup (xs ++ [x])) (some (-1)) none = some (.tup [x]) := by
  show some (D.tup (DL.cutD (xs ++ [x]) (some (-1)) none)) = _
  unfold DL.cutD
  have e : HT.sIx (xs ++ [x]).length 0 (some (-1)) = xs.length := by
    unfold HT.sIx
    simp
    omega
  rw [e, show HT.sIx (xs ++ [x]).length (xs ++ [x]).length none = (xs ++ [x]).length from rfl]
  simp
/-! the nodes of a definition -/
theorem asc_uniq : ∀ {ss : List Sg} {l : Str}, Asc l ss → ∀ s ∈ ss, ∀ t ∈ ss, s.name = t.name → s = t
  | [], _, _, s, hs, _, _, _ => absurd hs (by simp)
  | u :: us, l, ha, s, hs, t, ht, e => by
    rcases List.mem_cons.mp hs with z | z <;> rcases List.mem_cons.mp ht with y | y
    · rw [z, y]
    · subst z; exact absurd e.symm (look_at.asc_ne ha.2 t y)
    · subst y; exact absurd e (look_at.asc_ne ha.2 s z)
    · exact asc_uniq ha.2 s z t y e
def kyD (f : Df) : Key := .inr f.name
theorem ascD_gt : ∀ {fs : List Df} {l : Str}, AscD l fs → ∀ f ∈ fs, Lt l f.name
  | [], _, _, s, hs => absurd hs (by simp)
  | t :: ts, l, ha, s, hs => by
    rcases List.mem_cons.mp hs with z | z
    · subst z; exact ha.1
    · exact lt_tr ha.1 (ascD_gt ha.2 s z)
theorem dFold_df {ρ : Type} {r : ρ} {m : D} : ∀ (fs pre : List Df) (l : Str), AscD l fs → (∀ f ∈ pre, f.name = l ∨ Lt f.name l) → pre.length + fs.length ≤ 100 →
    dFold (gNm 1) bT (eBin ixD (eVar 1) (eC (.int 0))) (eVar 1) [some m, none] (fs.map Df.d) r (pre.map kyD) (pre.map Df.d) = some ((pre ++ fs).map kyD, (pre ++ fs).map Df.d, r)
  | [], pre, l, _, _, _ => by rw [List.append_nil]; rfl
  | f :: fs, pre, l, ha, hp, hb => by
    have hn : kyD f ∉ pre.map kyD := fun hm => by
      obtain ⟨p, q, e⟩ := List.mem_map.mp hm
      have e1 : p.name = f.name := by simpa [kyD] using e
      rcases hp p q with z | z
      · exact lt_irr (e1.symm.trans z ▸ ha.1 : Lt l l)
      · exact lt_irr (lt_tr (e1 ▸ z) ha.1)
    have ih := dFold_df (r := r) (m := m) fs (pre ++ [f]) f.name ha.2 (fun p q => by
      rcases List.mem_append.mp q with z | z
      · rcases hp p z with y | y
        · exact .inr (y ▸ ha.1)
        · exact .inr (lt_tr y ha.1)
      · rw [List.mem_singleton] at z; subst z; exact .inl rfl) (by simp only [List.length_append, List.length_cons, List.length_nil] at *; omega)
    have hb2 : (pre.map kyD).length < big := by rw [List.length_map]; simp only [big]; omega
    rw [List.map_cons]
    show (if (pre.map kyD).length < big then dFold _ _ _ _ [some m, none] (fs.map Df.d) r (putD (pre.map kyD) (pre.map Df.d) (kyD f) f.d).1 (putD (pre.map kyD) (pre.map Df.d) (kyD f) f.d).2 else none) = _
    rw [if_pos hb2, put_new hn]
    rw [List.map_append, List.map_append] at ih
    rw [show pre.map kyD ++ [kyD f] = pre.map kyD ++ [f].map kyD from rfl, show pre.map Df.d ++ [f.d] = pre.map Df.d ++ [f].map Df.d from rfl]
    refine ih.trans ?_
    rw [List.append_assoc]; rfl
theorem lookD_at : ∀ {fs : List Df} {l : Str}, AscD l fs → ∀ f ∈ fs, look (fs.map kyD) (fs.map Df.d) (.inr f.name) = some f.d
  | [], _, _, s, hs => absurd hs (by simp)
  | t :: ts, l, ha, s, hs => by
    rw [List.map_cons, List.map_cons, look]
    rcases List.mem_cons.mp hs with z | z
    · subst z; rw [if_pos (show kyD s = .inr s.name from rfl)]
    · rw [if_neg, lookD_at ha.2 s z]
      intro e
      have e1 : t.name = s.name := by simpa [kyD] using e
      exact lt_irr (e1 ▸ ascD_gt ha.2 s z : Lt t.name t.name)
theorem body_nodes_ok {ρ : Type} {r : ρ} {m : Mo} (h : m.ok) {f : Df} (hf : f ∈ m.fs) : g_body_nodes [m.d, .str f.name] r = some (.tup (f.body.nodes.map X.d), r) := by
  have ho := h.fs f hf
  have n1 : g_need_module [m.d] r = some (m.d, r) := by
    unfold g_need_module plainG
    rw [mo_ok h]; rfl
  have n2 : g_definitions_of [m.d] r = some (.dct (m.fs.map kyD) (m.fs.map Df.d), r) := by
    have := dFold_df (r := r) (m := m.d) m.fs [] "" h.fa (fun _ h => absurd h (by simp)) (by have := h.fl; simp only [List.length_nil]; omega)
    unfold g_definitions_of gOf b_definitions_of sRet eDComp
    show Option.map outD (Option.map _ (Option.map _ (dFold (gNm 1) bT (eBin ixD (eVar 1) (eC (.int 0))) (eVar 1) [some m.d, none] (m.fs.map Df.d) r [] []))) = _
    rw [show dFold (gNm 1) bT (eBin ixD (eVar 1) (eC (.int 0))) (eVar 1) [some m.d, none] (m.fs.map Df.d) r [] [] = _ from this]
    rfl
  have n3 := ho.nm ρ r
  have n4 : ninD (.str f.name) (.dct (m.fs.map kyD) (m.fs.map Df.d)) = some (.bl false) := by
    show Option.map (fun b => D.bl (!b)) (Option.map (fun k => (look (m.fs.map kyD) (m.fs.map Df.d) k).isSome) (some (.inr f.name))) = _
    rw [Option.map_some, lookD_at h.fa f hf]; rfl
  have n5 : dixD (.dct (m.fs.map kyD) (m.fs.map Df.d)) (.str f.name) = some f.d := lookD_at h.fa f hf
  have nd : g_need_definition [m.d, .str f.name] r = some (f.d, r) := by
    have e : startE N_need_definition [m.d, .str f.name] = [some m.d, some (.str f.name), none] := rfl
    unfold g_need_definition gOf
    rw [e]
    simp only [b_need_definition, sSeq, sIf, sNil, sThen, sRet, sExpr, sAsg, gNm, bOr, bNot, bOf, toB, eBin, eVar, eC, eCall, aCons, aNil, n1, n2, n3, n4, n5, outD, Option.bind_some, Option.map_some, List.getElem?_cons_zero, List.getElem?_cons_succ, List.length_cons, List.length_nil, List.set_cons_zero, List.set_cons_succ, Nat.reduceAdd, Nat.reduceLT, Bool.not_true, Bool.false_eq_true, ↓reduceIte]
  have n6 : ixD f.d (.int 2) = some f.body.d := rfl
  have n7 := nodes_ok (r := r) f.body (by have := ho.nb; omega)
  have n8 : tupleD (.lst (f.body.nodes.map X.d)) = some (.tup (f.body.nodes.map X.d)) := rfl
  have e : startE N_body_nodes [m.d, .str f.name] = [some m.d, some (.str f.name)] := rfl
  unfold g_body_nodes gOf
  rw [e]
  simp only [b_body_nodes, sRet, eUn, eBin, eVar, eC, eCall, aCons, aNil, nd, n6, n7, n8, outD, Option.bind_some, Option.map_some, List.getElem?_cons_zero, List.getElem?_cons_succ]
theorem plain_in {j : Nat} {xs : List D} {x : D} (h : Plain j (.tup xs)) (hx : x ∈ xs) : Plain j x := by
  cases j with
  | zero => exact h.elim
  | succ j => exact (h.2 x hx).mono (Nat.le_succ _)
mutual
theorem plain_nodes {j : Nat} : ∀ x : X, Plain j x.d → ∀ y ∈ x.nodes, Plain j y.d
  | .use x, h, y, hy => by
    rw [X.nodes, List.mem_singleton] at hy; exact hy ▸ h
  | .ei a b, h, y, hy => by
    simp only [X.nodes, List.mem_append, List.mem_singleton] at hy
    rcases hy with (z | z) | z
    · exact plain_nodes a (plain_in h (by simp)) y z
    · exact plain_nodes b (plain_in h (by simp)) y z
    · exact z ▸ h
  | .le n a b, h, y, hy => by
    simp only [X.nodes, List.mem_append, List.mem_singleton] at hy
    rcases hy with (z | z) | z
    · exact plain_nodes a (plain_in h (by simp)) y z
    · exact plain_nodes b (plain_in h (by simp)) y z
    · exact z ▸ h
  | .ca f as, h, y, hy => by
    simp only [X.nodes, List.mem_append, List.mem_singleton] at hy
    rcases hy with z | z
    · exact plain_nodess as (plain_in h (by simp)) y z
    · exact z ▸ h
theorem plain_nodess {j : Nat} : ∀ as : Xs, Plain j (.tup as.ds) → ∀ y ∈ as.nodes, Plain j y.d
  | .nil, _, y, hy => absurd hy (by simp [Xs.nodes])
  | .cons a as, h, y, hy => by
    simp only [Xs.nodes, List.mem_append] at hy
    rcases hy with z | z
    · exact plain_nodes a (plain_in h (by simp [Xs.ds])) y z
    · refine plain_nodess as ?_ y z
      cases j with
      | zero => exact h.elim
      | succ j => exact ⟨by have := h.1; simp only [Xs.ds, List.length_cons] at this; omega, fun x hx => h.2 x (by simp only [Xs.ds]; exact List.mem_cons_of_mem _ hx)⟩
end
/-! signs by names -/
theorem cFold_filter {ρ α : Type} {g : GD} {t : SB ρ} {e : SE ρ} {env : DL.Env} {r : ρ} {f h : α → D} {p : α → Bool} : ∀ {xs : List α}, (∀ x ∈ xs, ∃ e2, g (f x) env = some e2 ∧ t e2 r = some (p x, r) ∧ e e2 r = some (h x, r)) → cFold g t e env (xs.map f) r = some ((xs.filter p).map h, r)
  | [], _ => rfl
  | x :: xs, H => by
    obtain ⟨e2, h1, h2, h3⟩ := H x (List.mem_cons_self ..)
    have ih := cFold_filter (xs := xs) fun y hy => H y (List.mem_cons_of_mem _ hy)
    rw [List.map_cons, cFold_cons, h1, Option.bind_some, h2, Option.bind_some]
    cases hp : p x with
    | true =>
      rw [if_pos rfl]
      show Option.bind (e e2 r) _ = _
      rw [h3, Option.bind_some]
      show Option.map _ (cFold g t e env (xs.map f) r) = _
      rw [ih, List.filter_cons_of_pos hp]; rfl
    | false =>
      show (if (false = true) then _ else cFold g t e env (xs.map f) r) = _
      rw [if_neg (by decide), ih, List.filter_cons_of_neg (by rw [hp]; decide)]
theorem eq_ss {x y : Str} : eqD (.str x) (.str y) = some (.bl (decide (x = y))) := by
  show Option.map D.bl (if true = true then some (decide (V.str x = V.str y)) else none) = _
  rw [if_pos rfl, Option.map_some]
  congr 2
  rw [Bool.eq_iff_iff]; simp
theorem ixl0 {a : D} {xs : List D} : ixD (.lst (a :: xs)) (.int 0) = some a := by
  show atI _ _ = _
  unfold atI ixN
  rw [if_pos (by decide), if_pos (by simp only [List.length_cons]; omega)]; rfl
theorem law_sign_ok {ρ : Type} {r : ρ} {m : Mo} (h : m.ok) {s : Sg} (hs : s ∈ m.ss) : g_law_sign [m.d, .str s.name] r = some (s.d, r) := by
  have e : startE N_law_sign [m.d, .str s.name] = [some m.d, some (.str s.name), none] := rfl
  have c : eComp (ρ := ρ) (iSeqD (eBin ixD (eVar 0) (eC (.int 1)))) (gNm 2) (bOf (eBin eqD (eBin ixD (eVar 2) (eC (.int 0))) (eVar 1))) (eVar 2) [2] [some m.d, some (.str s.name), none] r = some (.lst ((m.ss.filter fun t => decide (t.name = s.name)).map Sg.d), r) := by
    unfold eComp
    show Option.bind (some (m.ss.map Sg.d, r)) _ = _
    rw [Option.bind_some]
    show (cFold _ _ _ [some m.d, some (.str s.name), none] (m.ss.map Sg.d) r).bind _ = _
    rw [cFold_filter (p := fun t => decide (t.name = s.name)) (h := Sg.d) fun t _ => ⟨[some m.d, some (.str s.name), some t.d], rfl, ?_, rfl⟩, Option.bind_some]
    · show (if _ then _ else _) = _
      rw [if_pos]
      rw [List.length_map]
      have := List.length_filter_le (fun t => decide (t.name = s.name)) m.ss
      have := h.sl
      simp only [big]; omega
    · have a1 : ixD t.d (.int 0) = some (.str t.name) := rfl
      simp only [bOf, eBin, eVar, eC, a1, eq_ss, toB, Option.bind_some, Option.map_some, List.getElem?_cons_zero, List.getElem?_cons_succ]
  have hf : ∃ rest, (m.ss.filter fun t => decide (t.name = s.name)) = s :: rest := by
    have hm : s ∈ m.ss.filter fun t => decide (t.name = s.name) := List.mem_filter.mpr ⟨hs, by simp⟩
    cases hq : m.ss.filter fun t => decide (t.name = s.name) with
    | nil => rw [hq] at hm; exact absurd hm (by simp)
    | cons t rest =>
      have ht : t ∈ m.ss.filter fun t => decide (t.name = s.name) := by rw [hq]; exact List.mem_cons_self ..
      have h2 := List.mem_filter.mp ht
      have : t = s := asc_uniq h.sa t h2.1 s hs (by simpa using h2.2)
      exact ⟨rest, by rw [this]⟩
  obtain ⟨rest, hq⟩ := hf
  rw [hq] at c
  unfold g_law_sign gOf
  rw [e]
  unfold b_law_sign sRet
  rw [bin_eq c rfl (show ixD (.lst ((s :: rest).map Sg.d)) (.int 0) = some s.d from ixl0)]
  rfl
end Q
end
section
set_option Elab.async false
set_option linter.all false
set_option maxRecDepth 100000
set_option maxHeartbeats 400000
namespace Q
open PySem PySem.Spec PyProof.Rows L2 DL
def RowOk (q : D × List D) : Prop := (∀ r : Rw, gx_need_module [q.1] r = some (.inr (mkEx q.2), r)) ∧ q.2.length ≤ 100 ∧ ∀ x ∈ q.2, Plain 5 x
def rowD (q : D × List D) : D := .tup [q.1, .tup q.2]
section
variable {am sa ga : Addr} {c c1 c2 : Nat} {env : DL.Env} {nms : List Str}
theorem DrR.step {a b : SS Rw} {e : DL.Env} {Q : D → Prop} (h : ∀ r, a env r = some (.nx e r)) (k : DrR am sa ga c (b e) Q) : DrR am sa ga c (sSeq a b env) Q := fun t r hs hl => by
  obtain ⟨d, r1, e1, q1, s1⟩ := k t r hs hl
  exact ⟨d, r1, by rw [sSeq_nx (h r), e1], q1, s1⟩
theorem DrN.step {a b : SS Rw} {e : DL.Env} {Q : DL.Env → Prop} (h : ∀ r, a env r = some (.nx e r)) (k : DrN am sa ga c (b e) Q) : DrN am sa ga c (sSeq a b env) Q := fun t r hs hl => by
  obtain ⟨d, r1, e1, q1, s1⟩ := k t r hs hl
  exact ⟨d, r1, by rw [sSeq_nx (h r), e1], q1, s1⟩
theorem DrN.pure {a : SS Rw} {e : DL.Env} {Q : DL.Env → Prop} (h : ∀ r, a env r = some (.nx e r)) (k : Q e) : DrN am sa ga 0 (a env) Q := fun t r hs hl => ⟨e, r, h r, k, hs⟩
theorem DrN.asg1 {f : SE Rw} {i : Nat} {b : SS Rw} {P : D → Prop} {Q : DL.Env → Prop} (hi : i < env.length) (h : Dr am sa ga c1 (f env) P) (k : ∀ d, P d → DrN am sa ga c2 (b (env.set i (some d))) Q) : DrN am sa ga (c1 + c2) (sSeq (sAsg f (gNm i)) b env) Q :=
  DrN.seq (P := fun e => ∃ d, P d ∧ e = env.set i (some d)) (DrN.asg h fun d hd => ⟨_, if_pos hi, d, hd, rfl⟩) fun e ⟨d, hd, he⟩ => he ▸ k d hd
theorem ifNo_step {cd : SB Rw} {a : SS Rw} {r : Rw} (h : cd env r = some (false, r)) : sIf cd a sNil env r = some (.nx env r) := by
  unfold sIf; rw [h]; rfl
theorem not_ok {f : SB Rw} {r : Rw} {b : Bool} (h : f env r = some (b, r)) : bNot f env r = some (!b, r) := by
  unfold bNot; rw [h]; rfl
theorem of_ok {f : SE Rw} {r : Rw} {b : Bool} (h : f env r = some (.bl b, r)) : DL.bOf f env r = some (b, r) := by
  unfold DL.bOf; rw [h]; rfl
theorem call2 {ρ : Type} {n : Nat} {f f2 : SE ρ} {g : List D → ρ → Option (D × ρ)} {env : DL.Env} {r : ρ} {d d2 : D} {x : D × ρ} (h : f env r = some (d, r)) (h2 : f2 env r = some (d2, r)) (k : g [d, d2] r = some x) : eCall n g (aCons f (aCons f2 aNil)) env r = some x := by
  unfold eCall aCons aNil; rw [h, Option.bind_some, h2, Option.bind_some, Option.map_some, Option.map_some, Option.bind_some, k]
theorem lst2 {ρ : Type} {f f2 : SE ρ} {env : DL.Env} {r : ρ} {d d2 : D} (h : f env r = some (d, r)) (h2 : f2 env r = some (d2, r)) : eLst (aCons f (aCons f2 aNil)) env r = some (.lst [d, d2], r) := by
  unfold eLst aCons aNil; rw [h, Option.bind_some, h2]; rfl
theorem tup2 {ρ : Type} {f f2 : SE ρ} {env : DL.Env} {r : ρ} {d d2 : D} (h : f env r = some (d, r)) (h2 : f2 env r = some (d2, r)) : eTup (aCons f (aCons f2 aNil)) env r = some (.tup [d, d2], r) := by
  unfold eTup aCons aNil; rw [h, Option.bind_some, h2]; rfl
theorem tup3 {ρ : Type} {f f2 f3 : SE ρ} {env : DL.Env} {r : ρ} {d d2 d3 : D} (h : f env r = some (d, r)) (h2 : f2 env r = some (d2, r)) (h3 : f3 env r = some (d3, r)) : eTup (aCons f (aCons f2 (aCons f3 aNil))) env r = some (.tup [d, d2, d3], r) := by
  unfold eTup aCons aNil; rw [h, Option.bind_some, h2, Option.bind_some, h3]; rfl
theorem tup1 {ρ : Type} {f : SE ρ} {env : DL.Env} {r : ρ} {d : D} (h : f env r = some (d, r)) : eTup (aCons f aNil) env r = some (.tup [d], r) := by
  unfold eTup aCons aNil; rw [h]; rfl
theorem sl_ok {ρ : Type} {f : SE ρ} {lo hi : SO ρ} {env : DL.Env} {r : ρ} {d x : D} {a b : Option Int} (h : f env r = some (d, r)) (h1 : lo env r = some (a, r)) (h2 : hi env r = some (b, r)) (h3 : slD d a b = some x) : eSl f lo hi env r = some (x, r) := by
  unfold eSl; rw [h, Option.bind_some, h1, Option.bind_some, h2, Option.bind_some, h3]; rfl
theorem like_lst2 {r : Rw} {a b : D} (ha : Plain 19 a) (hb : Plain 19 b) : g_law_like fuel_law_like [.lst [a, b], .lst [a, b]] r = some (.bl true, r) :=
  like_ok 20 _ ⟨by simp, fun x hx => by
    simp only [List.mem_cons, List.not_mem_nil, or_false] at hx
    rcases hx with z | z <;> subst z <;> assumption⟩
/-- the loop over definitions -/
def bodyL : SS Rw := (sIf (bNot (bOf (eCall 2 (g_law_like fuel_law_like) (aCons (eCallK g_body_nodes pmRev (aCons (eBin ixD (eVar 3) (eC (.int 0))) (aCons (eVar 2) aNil))) (aCons (eUn tupleD (eCall 1 (g_law_nodes fuel_law_nodes) (aCons (eBin ixD (eVar 3) (eC (.int 2))) aNil))) aNil))))) (sRet (eC (.bl false))) sNil)
theorem loopL {m : Mo} (h : m.ok) (hl : m.lo) {a b : Option D} {rest : DL.Env} {r : Rw} : ∀ (fs : List Df) (o : Option D), (∀ f ∈ fs, f ∈ m.fs) → ∃ o', sFold (gNm 3) bodyL (fs.map Df.d) (a :: b :: some m.d :: o :: rest) r = some (.nx (a :: b :: some m.d :: o' :: rest) r)
  | [], o, _ => ⟨o, rfl⟩
  | f :: fs, o, hf => by
    obtain ⟨o', e⟩ := loopL h hl (a := a) (b := b) (rest := rest) (r := r) fs (some f.d) fun x hx => hf x (List.mem_cons_of_mem _ hx)
    have hm := hf f (List.mem_cons_self ..)
    have ho := h.fs f hm
    refine ⟨o', ?_⟩
    have a1 : eCallK (ρ := Rw) g_body_nodes pmRev (aCons (eBin ixD (eVar 3) (eC (.int 0))) (aCons (eVar 2) aNil)) (a :: b :: some m.d :: some f.d :: rest) r = some (.tup (f.body.nodes.map X.d), r) := by
      have e1 : (eBin (ρ := Rw) ixD (eVar 3) (eC (.int 0))) (a :: b :: some m.d :: some f.d :: rest) r = some (.str f.name, r) := rfl
      have e2 : (eVar (ρ := Rw) 2) (a :: b :: some m.d :: some f.d :: rest) r = some (m.d, r) := rfl
      unfold eCallK aCons aNil
      rw [e1, Option.bind_some, e2]
      exact body_nodes_ok h hm
    have a2 : (eUn (ρ := Rw) tupleD (eCall 1 (g_law_nodes fuel_law_nodes) (aCons (eBin ixD (eVar 3) (eC (.int 2))) aNil))) (a :: b :: some m.d :: some f.d :: rest) r = some (.tup (f.body.nodes.map X.d), r) := by
      have n := lnodes_ok (r := r) fuel_law_nodes f.body (by have := ho.dp; simp only [fuel_law_nodes]; omega) (by have := ho.nb; omega)
      exact un_eq (call1 (d := f.body.d) rfl n) rfl
    have k : bodyL (a :: b :: some m.d :: some f.d :: rest) r = some (.nx (a :: b :: some m.d :: some f.d :: rest) r) := by
      refine ifNo_step (not_ok (b := true) (of_ok (call2 a1 a2 (like_ok 20 _ ?_))))
      exact plain_map (j := 19) (fun x hx => (plain_nodes f.body (hl.bd f hm) x hx).mono (by decide)) (by have := ho.nb; omega)
    have g : gNm 3 f.d (a :: b :: some m.d :: o :: rest) = some (a :: b :: some m.d :: some f.d :: rest) := by
      unfold gNm
      rw [if_pos (by simp only [List.length_cons]; omega)]; rfl
    rw [List.map_cons, sFold_nx g k, e]
/-- the loop over rows -/
def bodyR : SS Rw := (sIf (bNot (bOf (eCall 2 (g_law_like fuel_law_like) (aCons (eLst (aCons (eCall 1 g_law_refused (aCons (eVar 12) aNil)) (aCons (eCall 1 g_is_module (aCons (eVar 12) aNil)) aNil))) (aCons (eLst (aCons (eTup (aCons (eC (.str "module")) (aCons (eVar 13) aNil))) (aCons (eC (.bl false)) aNil))) aNil))))) (sRet (eC (.bl false))) sNil)
abbrev gRow : GD := (gTp (gC (gNm 12) (gC (gNm 13) gN)))
theorem loopR {r : Rw} {pre : DL.Env} (hp : pre.length = 12) : ∀ (qs : List (D × List D)) (x y : Option D), (∀ q ∈ qs, RowOk q) → ∃ x' y', sFold gRow bodyR (qs.map rowD) (pre ++ [x, y]) r = some (.nx (pre ++ [x', y']) r)
  | [], x, y, _ => ⟨x, y, rfl⟩
  | q :: qs, x, y, h => by
    obtain ⟨x', y', e⟩ := loopR (r := r) hp qs (some q.1) (some (.tup q.2)) fun z hz => h z (List.mem_cons_of_mem _ hz)
    have hq := h q (List.mem_cons_self ..)
    refine ⟨x', y', ?_⟩
    have v1 : (eVar (ρ := Rw) 12) (pre ++ [some q.1, some (.tup q.2)]) r = some (q.1, r) := by
      unfold eVar; rw [List.getElem?_append_right (by omega), hp]; rfl
    have v2 : (eVar (ρ := Rw) 13) (pre ++ [some q.1, some (.tup q.2)]) r = some (.tup q.2, r) := by
      unfold eVar; rw [List.getElem?_append_right (by omega), hp]; rfl
    have a1 : (eLst (ρ := Rw) (aCons (eCall 1 g_law_refused (aCons (eVar 12) aNil)) (aCons (eCall 1 g_is_module (aCons (eVar 12) aNil)) aNil))) (pre ++ [some q.1, some (.tup q.2)]) r = some (.lst [.tup [.str "module", .tup q.2], .bl false], r) :=
      lst2 (call1 v1 (refused_ok (hq.1 r))) (call1 v1 (ism_no (hq.1 r)))
    have a2 : (eLst (ρ := Rw) (aCons (eTup (aCons (eC (.str "module")) (aCons (eVar 13) aNil))) (aCons (eC (.bl false)) aNil))) (pre ++ [some q.1, some (.tup q.2)]) r = some (.lst [.tup [.str "module", .tup q.2], .bl false], r) :=
      lst2 (tup2 rfl v2) rfl
    have k : bodyR (pre ++ [some q.1, some (.tup q.2)]) r = some (.nx (pre ++ [some q.1, some (.tup q.2)]) r) := by
      refine ifNo_step (not_ok (b := true) (of_ok (call2 a1 a2 (like_lst2 (plain2 (j := 18) (plain_s _ _) ?_) trivial))))
      have := plain_map (f := id) (j := 17) (xs := q.2) (fun x hx => (hq.2.2 x hx).mono (by decide)) (by have := hq.2.1; omega)
      rwa [List.map_id] at this
    have g : gRow (rowD q) (pre ++ [x, y]) = some (pre ++ [some q.1, some (.tup q.2)]) := by
      have l : (pre ++ [x, y]).length = 14 := by simp [hp]
      show Option.bind (gNm 12 q.1 (pre ++ [x, y])) _ = _
      unfold gNm
      rw [if_pos (by omega), Option.bind_some]
      have s1 : (pre ++ [x, y]).set 12 (some q.1) = pre ++ [some q.1, y] := by
        rw [List.set_append_right _ _ (by omega), hp]; rfl
      rw [s1]
      show Option.bind (if 13 < (pre ++ [some q.1, y]).length then _ else _) _ = _
      rw [if_pos (by simp [hp]), Option.bind_some]
      have s2 : (pre ++ [some q.1, y]).set 13 (some (.tup q.2)) = pre ++ [some q.1, some (.tup q.2)] := by
        rw [List.set_append_right _ _ (by omega), hp]; rfl
      rw [s2]; rfl
    rw [List.map_cons, sFold_nx g k, e]
end
/-! the rows -/
section
variable {m : Mo}
theorem plain_ii (i : Int) : Plain 5 (.int i) := trivial
theorem row_sg (h : m.ok) {k : Nat} (hk : k < m.ss.length) {b : D} (hb : ∀ r : Rw, g_is_signature [b] r = some (.bl false, r)) : RowOk (.tup [m.A, .tup ((m.ss.take k).map Sg.d ++ b :: (m.ss.drop (k + 1)).map Sg.d), m.F], [.int 1, .int k]) := by
  have hlen : (m.ss.take k).length = k := by rw [List.length_take]; omega
  refine ⟨fun r => nm_sg h.okA ?_, by simp, fun x hx => ?_⟩
  · have := sigs_bad (r := r) (ss := m.ss.take k) (b := b) (ds := (m.ss.drop (k + 1)).map Sg.d) (fun s hs => h.ss s (List.mem_of_mem_take hs)) (asc_take k h.sa) (by rw [hlen, List.length_map, List.length_drop]; have := h.sl; omega) (ct_bad (hb r))
    rw [hlen] at this
    exact this
  · simp only [List.mem_cons, List.not_mem_nil, or_false] at hx
    rcases hx with z | z <;> subst z <;> trivial
where
  asc_take : ∀ {ss : List Sg} {l : Str} (n : Nat), Asc l ss → Asc l (ss.take n)
    | [], l, n, _ => by simp [Asc]
    | x :: xs, l, 0, _ => trivial
    | x :: xs, l, n + 1, h => ⟨h.1, asc_take n h.2⟩
theorem asc_last : ∀ {ss : List Sg} {l : Str} {s : Sg}, lastOf l (ss ++ [s]) = s.name
  | [], _, _ => rfl
  | _ :: ss, _, s => asc_last (ss := ss)
theorem row_dup (h : m.ok) (h11 : m.ss.length ≤ 11) {ini : List Sg} {s : Sg} (e : m.ss = ini ++ [s]) : RowOk (.tup [m.A, .tup (m.ss.map Sg.d ++ [s.d]), m.F], [.int 1, .int m.ss.length]) := by
  refine ⟨fun r => nm_sg h.okA ?_, by simp, fun x hx => ?_⟩
  · refine sigs_bad (r := r) (ss := m.ss) (b := s.d) (ds := []) h.ss h.sa (by simp only [List.length_nil]; omega) (ct_low (h.ss s (by rw [e]; simp)) ?_)
    rw [e, asc_last]; exact lt_irr
  · simp only [List.mem_cons, List.not_mem_nil, or_false] at hx
    rcases hx with z | z <;> subst z <;> trivial
theorem asc_lt2 : ∀ {ini : List Sg} {l : Str} {s t : Sg}, Asc l (ini ++ [s, t]) → Lt s.name t.name
  | [], _, _, _, h => h.2.1
  | _ :: ini, _, _, _, h => asc_lt2 (ini := ini) h.2
theorem row_rev (h : m.ok) {ini : List Sg} {s t : Sg} (e : m.ss = ini ++ [s, t]) : RowOk (.tup [m.A, .tup (m.ss.map Sg.d).reverse, m.F], [.int 1, .int 1]) := by
  have ht := h.ss t (by rw [e]; simp)
  have hs := h.ss s (by rw [e]; simp)
  have hlt : Lt s.name t.name := asc_lt2 (e ▸ h.sa)
  have e2 : (m.ss.map Sg.d).reverse = [t].map Sg.d ++ s.d :: (ini.map Sg.d).reverse := by rw [e]; simp
  refine ⟨fun r => nm_sg h.okA ?_, by simp, fun x hx => ?_⟩
  · rw [e2]
    refine sigs_bad (r := r) (ss := [t]) (b := s.d) (ds := (ini.map Sg.d).reverse) (fun x hx => by rw [List.mem_singleton] at hx; exact hx ▸ ht) ⟨?_, trivial⟩ (by have := h.sl; rw [e] at this; simp only [List.length_reverse, List.length_map, List.length_append, List.length_cons, List.length_nil] at *; omega) (ct_low hs (fun hx => lt_irr (lt_tr hlt hx)))
    have := h.sa
    exact look_at.asc_gt h.sa t (by rw [e]; simp)
  · simp only [List.mem_cons, List.not_mem_nil, or_false] at hx
    rcases hx with z | z <;> subst z <;> trivial
theorem row_lst (h : m.ok) {xs : List D} : RowOk (.tup [m.A, .lst xs, m.F], [.int 1]) := by
  refine ⟨fun r => nm_sg h.okA rfl, by simp, fun x hx => ?_⟩
  rw [List.mem_singleton] at hx; subst hx; trivial
theorem row_two {a b : D} : RowOk (.tup [a, b], []) := ⟨fun r => nm_len (by simp), by simp, fun x hx => absurd hx (by simp)⟩
theorem row_ls {xs : List D} : RowOk (.lst xs, []) := ⟨fun r => nm_lst, by simp, fun x hx => absurd hx (by simp)⟩
theorem row_non (h : m.ok) : RowOk (.tup [m.A, m.S, .non], [.int 2]) := by
  refine ⟨fun r => nm_none h.okA h.okS, by simp, fun x hx => ?_⟩
  rw [List.mem_singleton] at hx; subst hx; trivial
theorem row_ax {S F : D} : RowOk (.tup [.non, S, F], [.int 0]) := by
  refine ⟨fun r => nm_ax (p := []) rfl (by decide), by simp, fun x hx => ?_⟩
  rw [List.mem_singleton] at hx; subst hx; trivial
theorem row_wrong (h : m.ok) : RowOk (.tup [.tup (m.ax.map pD ++ [badP, .non]), .non, .non], [.int 0, .int m.ax.length, .int 1, .int 1]) := by
  refine ⟨fun r => nm_ax (p := [.int m.ax.length, .int 1, .int 1]) (ax_bad h.ax h.al) (by simp), by simp, fun x hx => ?_⟩
  simp only [List.mem_cons, List.not_mem_nil, or_false] at hx
  rcases hx with z | z | z | z <;> subst z <;> trivial
theorem ascD_take : ∀ {ss : List Df} {l : Str} (n : Nat), AscD l ss → AscD l (ss.take n)
  | [], l, n, _ => by simp [AscD]
  | x :: xs, l, 0, _ => trivial
  | x :: xs, l, n + 1, h => ⟨h.1, ascD_take n h.2⟩
theorem row_df (h : m.ok) {k : Nat} (hk : k < m.fs.length) {b : D} (hb : ∀ r : Rw, g_is_definition [b, sgD m.ss] r = some (.bl false, r)) : RowOk (.tup [m.A, m.S, .tup ((m.fs.take k).map Df.d ++ b :: (m.fs.drop (k + 1)).map Df.d)], [.int 2, .int k]) := by
  have hlen : (m.fs.take k).length = k := by rw [List.length_take]; omega
  refine ⟨fun r => ?_, by simp, fun x hx => ?_⟩
  · have := mo_bad (r := r) h (fs := m.fs.take k) (b := b) (ds := (m.fs.drop (k + 1)).map Df.d) (fun s hs => h.fs s (List.mem_of_mem_take hs)) (ascD_take k h.fa) (by rw [hlen, List.length_map, List.length_drop]; have := h.fl; omega) (fun x y z c => df_bad (hb r))
    rw [hlen] at this
    exact this
  · simp only [List.mem_cons, List.not_mem_nil, or_false] at hx
    rcases hx with z | z <;> subst z <;> trivial
theorem row_dfd (h : m.ok) {ini : List Df} {f : Df} (e : m.fs = ini ++ [f]) : RowOk (.tup [m.A, m.S, .tup (m.fs.map Df.d ++ [f.d])], [.int 2, .int m.fs.length]) := by
  refine ⟨fun r => ?_, by simp, fun x hx => ?_⟩
  · refine mo_bad (r := r) h (fs := m.fs) (b := f.d) (ds := []) h.fs h.fa (by have := h.fl; simp only [List.length_nil]; omega) (fun x y z c => df_low h.sa h.ss (h.fs f (by rw [e]; simp)) ?_)
    rw [e, lastD_snoc]; exact lt_irr
  · simp only [List.mem_cons, List.not_mem_nil, or_false] at hx
    rcases hx with z | z <;> subst z <;> trivial
end
end Q
end
section
set_option Elab.async false
set_option linter.all false
set_option maxRecDepth 100000
set_option maxHeartbeats 400000
namespace Q
open PySem PySem.Spec PyProof.Rows L2 DL
theorem names4_no : ∀ x ∈ names4, x ≠ "nobody" := by decide
theorem mo_no {m : Mo} (h : MoQ m) : ∀ s ∈ m.ss, s.name ≠ "nobody" := fun s hs => by
  obtain ⟨n, _, _, e⟩ := h.nm
  have : s.name ∈ m.ss.map Sg.name := List.mem_map_of_mem hs
  rw [e] at this
  exact names4_no _ (List.mem_of_mem_take this)
theorem snoc_ex {α : Type} {xs : List α} (h : xs ≠ []) : ∃ ini x, xs = ini ++ [x] := by
  rcases List.eq_nil_or_concat xs with e | ⟨ini, x, e⟩
  · exact absurd e h
  · exact ⟨ini, x, by rw [e, List.concat_eq_append]⟩
theorem atI_k {xs : List D} {k : Nat} (h : k < xs.length) : atI xs (k : Int) = some xs[k] := by
  unfold atI ixN
  rw [if_pos (by omega), if_pos (by omega)]
  show xs[((k : Int)).toNat]? = _
  rw [Int.toNat_natCast, List.getElem?_eq_getElem h]
section
variable {am sa ga : Addr} {nms : List Str}
/-- some - a drawn spot's thing - some -/
theorem Dr.mid {i j : Nat} {env : DL.Env} {xs : List D} {k : Nat} {f : SE Rw} {c : Nat} {P : D → Prop} (hi : env[i]? = some (some (.tup xs))) (hj : env[j]? = some (some (.int k))) (hk : k < xs.length) (hb : xs.length ≤ 1000) (hf : Dr am sa ga c (f env) P) :
    Dr am sa ga c (eBin addD (eBin addD (eSl (eVar i) oNone (oSome (eVar j))) (eTup (aCons f aNil))) (eSl (eVar i) (oSome (eBin addD (eVar j) (eC (.int 1)))) oNone) env) fun d => ∃ b, P b ∧ d = .tup (xs.take k ++ b :: xs.drop (k + 1)) := by
  have vi : ∀ r, (eVar (ρ := Rw) i) env r = some (.tup xs, r) := fun r => by unfold eVar; rw [hi]
  have vj : ∀ r, (eVar (ρ := Rw) j) env r = some (.int k, r) := fun r => by unfold eVar; rw [hj]
  have ht : (xs.take k).length = k := by rw [List.length_take]; omega
  have hd : (xs.drop (k + 1)).length ≤ xs.length := by rw [List.length_drop]; omega
  refine (Dr.bin (c1 := c) (c2 := 0) (P1 := fun d => ∃ b, P b ∧ d = .tup (xs.take k ++ [b])) (P2 := fun d => d = .tup (xs.drop (k + 1))) ((Dr.bin (c1 := 0) (c2 := c) (P1 := fun d => d = .tup (xs.take k)) (P2 := fun d => ∃ b, P b ∧ d = .tup [b]) (Dr.pure (fun r => sl_ok (vi r) rfl (oSome_ok (vj r)) (sl_take (by omega))) rfl) (Dr.tup (P := fun ds => ∃ b, P b ∧ ds = [b]) ((Dr.cons (c1 := c) (c2 := 0) (R := fun ds => ds = []) hf (Dr.nil rfl) ?_).le (by omega)) ?_) ?_).le (by omega)) (Dr.pure (fun r => sl_ok (vi r) (oSome_ok (i := ((k + 1 : Nat) : Int)) (bin_eq (vj r) rfl ?_)) rfl (sl_drop (by omega))) rfl) ?_).le (by omega)
  · rintro a b ha rfl; exact ⟨a, ha, rfl⟩
  · rintro ds ⟨b, hb, rfl⟩; exact ⟨b, hb, rfl⟩
  · rintro a b rfl ⟨y, hy, rfl⟩
    exact ⟨_, add_tt (by simp only [List.length_cons, List.length_nil, big]; omega), y, hy, rfl⟩
  · rw [add_ii]; rfl
  · rintro a b ⟨y, hy, rfl⟩ rfl
    refine ⟨_, add_tt (by simp only [List.length_append, List.length_cons, List.length_nil, big]; omega), y, hy, ?_⟩
    rw [List.append_assoc]; rfl
theorem axref {v : D} {p : List D} {ρ : Type} {r : ρ} (h : gx_need_axioms [v] r = some (.inr ⟨"BadAxioms", ["place"], [.tup p]⟩, r)) : g_law_axioms_refused [v] r = some (.tup p, r) := by
  have e : startE N_law_axioms_refused [v] = [some v, none] := rfl
  have l1 : lookS (["place"] : List Str) [D.tup p] "place" = some (.tup p) := rfl
  unfold g_law_axioms_refused gOf
  rw [e]
  simp only [b_law_axioms_refused, sSeq, sTry, aCons, aNil, eVar, eXs, h, l1, sThen, outD, Option.bind_some, Option.map_some, List.getElem?_cons_zero, List.length_cons, List.length_nil, Nat.reduceAdd, Nat.reduceLT, and_self, ↓reduceIte]
/-- the refused ones, and what they end in -/
theorem tail_dr {m : Mo} (h : m.ok) {a b e3 e7 e8 e10 : Option D} {rows : List (D × List D)} (hr : ∀ q ∈ rows, RowOk q) (hl : rows.length ≤ 50) :
    DrR am sa ga 0 ((sSeq (sAsg (eBin addD (eVar 4) (eTup (aCons (eTup (aCons (eTup (aCons (eC (.str "yes")) aNil)) (aCons (eTup (aCons (eC (.str "and")) (aCons (eTup (aCons (eC (.str "no")) aNil)) (aCons (eC (.int 7)) aNil)))) aNil))) (aCons (eC .non) aNil)))) (gNm 11))
  (sSeq (sApp 9 (eTup (aCons (eTup (aCons (eVar 11) (aCons (eC .non) (aCons (eC .non) aNil)))) (aCons (eBin addD (eTup (aCons (eC (.int 0)) aNil)) (eCall 1 g_law_axioms_refused (aCons (eVar 11) aNil))) aNil))))
  (sSeq (sFor (iSeqD (eVar 9)) gRow bodyR)
  (sRet (eC (.bl true)))))) [a, b, some m.d, e3, some m.A, some m.S, some m.F, e7, e8, some (.lst (rows.map rowD)), e10, none, none, none]) fun d => d = .bl true := by
  have w : ∀ r : Rw, (eBin (ρ := Rw) addD (eVar 4) (eTup (aCons (eTup (aCons (eTup (aCons (eC (.str "yes")) aNil)) (aCons (eTup (aCons (eC (.str "and")) (aCons (eTup (aCons (eC (.str "no")) aNil)) (aCons (eC (.int 7)) aNil)))) aNil))) (aCons (eC .non) aNil)))) [a, b, some m.d, e3, some m.A, some m.S, some m.F, e7, e8, some (.lst (rows.map rowD)), e10, none, none, none] r = some (.tup (m.ax.map pD ++ [badP, .non]), r) := fun r =>
    bin_eq (a := m.A) (b := .tup [badP, .non]) rfl rfl (add_tt (by have := h.al; simp only [List.length_map, List.length_cons, List.length_nil, big]; omega))
  refine DrR.step (e := [a, b, some m.d, e3, some m.A, some m.S, some m.F, e7, e8, some (.lst (rows.map rowD)), e10, some (.tup (m.ax.map pD ++ [badP, .non])), none, none]) (fun r => ?_) ?_
  · unfold sAsg; rw [w]; rfl
  refine DrR.step (e := [a, b, some m.d, e3, some m.A, some m.S, some m.F, e7, e8, some (.lst ((rows ++ [(D.tup [.tup (m.ax.map pD ++ [badP, .non]), .non, .non], [D.int 0, .int m.ax.length, .int 1, .int 1])]).map rowD)), e10, some (.tup (m.ax.map pD ++ [badP, .non])), none, none]) (fun r => ?_) ?_
  · refine (sApp_ok (xs := rows.map rowD) (x := .tup [.tup [.tup (m.ax.map pD ++ [badP, .non]), .non, .non], .tup [.int 0, .int m.ax.length, .int 1, .int 1]]) (r' := r) rfl ?_ (by rw [List.length_map]; simp only [big]; omega)).trans ?_
    · exact tup2 rfl (bin_eq (a := .tup [.int 0]) (b := .tup [.int m.ax.length, .int 1, .int 1]) rfl (call1 (d := .tup (m.ax.map pD ++ [badP, .non])) rfl (axref (ax_bad h.ax h.al))) rfl)
    · rw [List.map_append]; rfl
  generalize hR : rows ++ [(D.tup [.tup (m.ax.map pD ++ [badP, .non]), .non, .non], [D.int 0, .int m.ax.length, .int 1, .int 1])] = R
  have hR2 : ∀ q ∈ R, RowOk q := fun q hq => by
    rw [← hR] at hq
    rcases List.mem_append.mp hq with z | z
    · exact hr q z
    · rw [List.mem_singleton] at z; exact z ▸ row_wrong h
  refine (DrR.seq (c1 := 0) (c2 := 0) (P := fun _ => True) (fun t r hs _ => ?_) fun e _ => DrR.ret (Dr.con rfl))
  obtain ⟨x', y', e⟩ := loopR (r := r) (pre := [a, b, some m.d, e3, some m.A, some m.S, some m.F, e7, e8, some (.lst (R.map rowD)), e10, some (.tup (m.ax.map pD ++ [badP, .non]))]) rfl R none none hR2
  exact ⟨_, r, e, trivial, hs⟩
end
end Q
end
section
set_option Elab.async false
set_option linter.all false
set_option maxRecDepth 100000
set_option maxHeartbeats 400000
namespace Q
open PySem PySem.Spec PyProof.Rows L2 DL
section
variable {am sa ga : Addr} {nms : List Str}
def rows8 (m : Mo) (k : Nat) (b : D) (last : Sg) : List (D × List D) := [(.tup [m.A, .tup ((m.ss.take k).map Sg.d ++ b :: (m.ss.drop (k + 1)).map Sg.d), m.F], [.int 1, .int k]), (.tup [m.A, .tup (m.ss.map Sg.d).reverse, m.F], [.int 1, .int 1]),
  (.tup [m.A, .tup (m.ss.map Sg.d ++ [last.d]), m.F], [.int 1, .int m.ss.length]), (.tup [m.A, .lst (m.ss.map Sg.d), m.F], [.int 1]), (.tup [m.A, m.S], []), (.lst [m.A, m.S, m.F], []), (.tup [m.A, m.S, .non], [.int 2]), (.tup [.non, m.S, m.F], [.int 0])]
def eRows8 : SE Rw := (eLst (aCons (eTup (aCons (eTup (aCons (eVar 4) (aCons (eVar 8) (aCons (eVar 6) aNil)))) (aCons (eTup (aCons (eC (.int 1)) (aCons (eVar 7) aNil))) aNil))) (aCons (eTup (aCons (eTup (aCons (eVar 4) (aCons (eUn revD (eVar 5)) (aCons (eVar 6) aNil)))) (aCons (eTup (aCons (eC (.int 1)) (aCons (eC (.int 1)) aNil))) aNil))) (aCons (eTup (aCons (eTup (aCons (eVar 4) (aCons (eBin addD (eVar 5) (eSl (eVar 5) (oSome (eC (.int (-1)))) oNone)) (aCons (eVar 6) aNil)))) (aCons (eTup (aCons (eC (.int 1)) (aCons (eUn lenD (eVar 5)) aNil))) aNil))) (aCons (eTup (aCons (eTup (aCons (eVar 4) (aCons (eUn listD (eVar 5)) (aCons (eVar 6) aNil)))) (aCons (eTup (aCons (eC (.int 1)) aNil)) aNil))) (aCons (eTup (aCons (eSl (eVar 2) oNone (oSome (eC (.int 2)))) (aCons (eTup aNil) aNil))) (aCons (eTup (aCons (eUn listD (eVar 2)) (aCons (eTup aNil) aNil))) (aCons (eTup (aCons (eTup (aCons (eVar 4) (aCons (eVar 5) (aCons (eC .non) aNil)))) (aCons (eTup (aCons (eC (.int 2)) aNil)) aNil))) (aCons (eTup (aCons (eTup (aCons (eC .non) (aCons (eVar 5) (aCons (eVar 6) aNil)))) (aCons (eTup (aCons (eC (.int 0)) aNil)) aNil))) aNil)))))))))
theorem atI_mp {α : Type} {f : α → D} {xs : List α} {k : Nat} (h : k < xs.length) : atI (xs.map f) (k : Int) = some (f xs[k]) := by
  rw [atI_k (by rw [List.length_map]; exact h), List.getElem_map]
theorem cons_eq {ρ : Type} {f : SE ρ} {g : SA ρ} {env : DL.Env} {r : ρ} {d : D} {ds : List D} (h : f env r = some (d, r)) (k : g env r = some (ds, r)) : aCons f g env r = some (d :: ds, r) := by
  unfold aCons; rw [h, Option.bind_some, k]; rfl
theorem lst_eq {ρ : Type} {g : SA ρ} {env : DL.Env} {r : ρ} {ds : List D} (k : g env r = some (ds, r)) : eLst g env r = some (.lst ds, r) := by
  unfold eLst; rw [k]; rfl
theorem rows8_eq {m : Mo} (h : m.ok) {a b e3 e9 e10 : Option D} {k : Nat} {o : D} {bt : D} {ini : List Sg} {last : Sg} (e : m.ss = ini ++ [last]) (ho : o = .tup ((m.ss.take k).map Sg.d ++ bt :: (m.ss.drop (k + 1)).map Sg.d)) (r : Rw) :
    eRows8 [a, b, some m.d, e3, some m.A, some m.S, some m.F, some (.int k), some o, e9, e10, none, none, none] r = some (.lst ((rows8 m k bt last).map rowD), r) := by
  subst ho
  have s1 : (eBin (ρ := Rw) addD (eVar 5) (eSl (eVar 5) (oSome (eC (.int (-1)))) oNone)) [a, b, some m.d, e3, some m.A, some m.S, some m.F, some (.int k), some (.tup ((m.ss.take k).map Sg.d ++ bt :: (m.ss.drop (k + 1)).map Sg.d)), e9, e10, none, none, none] r = some (.tup (m.ss.map Sg.d ++ [last.d]), r) := by
    refine bin_eq (a := m.S) (b := .tup [last.d]) rfl (sl_ok (d := m.S) rfl rfl rfl ?_) (add_tt (by have := h.sl; simp only [List.length_map, List.length_cons, List.length_nil, big]; omega))
    show slD (.tup (m.ss.map Sg.d)) _ _ = _
    rw [e, List.map_append]
    exact sl_last
  have s2 : (eUn (ρ := Rw) lenD (eVar 5)) [a, b, some m.d, e3, some m.A, some m.S, some m.F, some (.int k), some (.tup ((m.ss.take k).map Sg.d ++ bt :: (m.ss.drop (k + 1)).map Sg.d)), e9, e10, none, none, none] r = some (.int m.ss.length, r) :=
    un_eq (a := m.S) rfl (by show lenD (.tup (m.ss.map Sg.d)) = _; rw [len_tup, List.length_map])
  refine lst_eq (cons_eq ?_ (cons_eq ?_ (cons_eq ?_ (cons_eq ?_ (cons_eq ?_ (cons_eq ?_ (cons_eq ?_ (cons_eq ?_ rfl))))))))
  · exact tup2 (tup3 rfl rfl rfl) (tup2 rfl rfl)
  · exact tup2 (tup3 rfl (un_eq (a := m.S) rfl rfl) rfl) (tup2 rfl rfl)
  · exact tup2 (tup3 rfl s1 rfl) (tup2 rfl s2)
  · exact tup2 (tup3 rfl (un_eq (a := m.S) rfl rfl) rfl) (tup1 rfl)
  · exact tup2 (sl_ok (d := m.d) rfl rfl rfl (sl_take (k := 2) (xs := [m.A, m.S, m.F]) (by simp))) rfl
  · exact tup2 (un_eq (a := m.d) rfl rfl) rfl
  · exact tup2 (tup3 rfl rfl rfl) (tup1 rfl)
  · exact tup2 (tup3 rfl rfl rfl) (tup1 rfl)
def sFound : SS Rw := (sIf (bOf (eBin neD (eVar 6) (eTup aNil))) (sSeq (sAsg (eCall 2 g_law_draw (aCons (eVar 0) (aCons (eUn lenD (eVar 6)) aNil))) (gNm 7))
  (sSeq (sAsg (eCall 2 g_law_sign (aCons (eVar 2) (aCons (eBin ixD (eBin ixD (eVar 6) (eVar 7)) (eC (.int 0))) aNil))) (gNm 10))
  (sSeq (sAsg (eBin addD (eBin addD (eSl (eVar 6) oNone (oSome (eVar 7))) (eTup (aCons (eCall 2 g_law_of (aCons (eVar 0) (aCons (eCall 2 g_law_bent_bodies (aCons (eBin ixD (eVar 6) (eVar 7)) (aCons (eVar 10) aNil))) aNil))) aNil))) (eSl (eVar 6) (oSome (eBin addD (eVar 7) (eC (.int 1)))) oNone)) (gNm 8))
  (sExt 9 (eLst (aCons (eTup (aCons (eTup (aCons (eVar 4) (aCons (eVar 5) (aCons (eVar 8) aNil)))) (aCons (eTup (aCons (eC (.int 2)) (aCons (eVar 7) aNil))) aNil))) (aCons (eTup (aCons (eTup (aCons (eVar 4) (aCons (eVar 5) (aCons (eBin addD (eVar 6) (eSl (eVar 6) (oSome (eC (.int (-1)))) oNone)) aNil)))) (aCons (eTup (aCons (eC (.int 2)) (aCons (eUn lenD (eVar 6)) aNil))) aNil))) aNil))))))) sNil)
theorem DrN.ext {i : Nat} {env : DL.Env} {f : SE Rw} {xs ys : List D} {Q : DL.Env → Prop} (h1 : lstAt env i = some xs) (h2 : ∀ r, f env r = some (.lst ys, r)) (h3 : xs.length + ys.length ≤ big) (k : Q (env.set i (some (.lst (xs ++ ys))))) : DrN am sa ga 0 (sExt i f env) Q := fun t r hs hl =>
  ⟨_, r, sExt_ok h1 (h2 r) h3, k, hs⟩
theorem found_dr {m : Mo} (h : MoQ m) {b e3 e7 e8 : Option D} {rows : List (D × List D)} (hr : ∀ q ∈ rows, RowOk q) (hl : rows.length ≤ 40) :
    DrN am sa ga 2 (sFound [some (.raw (.ref am)), b, some m.d, e3, some m.A, some m.S, some m.F, e7, e8, some (.lst (rows.map rowD)), none, none, none, none]) fun e => ∃ (x y z : Option D) (R : List (D × List D)), e = [some (.raw (.ref am)), b, some m.d, e3, some m.A, some m.S, some m.F, x, y, some (.lst (R.map rowD)), z, none, none, none] ∧ (∀ q ∈ R, RowOk q) ∧ R.length ≤ 50 := by
  by_cases hf : m.fs = []
  · refine (DrN.pure (e := [some (.raw (.ref am)), b, some m.d, e3, some m.A, some m.S, some m.F, e7, e8, some (.lst (rows.map rowD)), none, none, none, none]) (fun r => ?_) ⟨e7, e8, none, rows, rfl, hr, by omega⟩).le (by decide)
    have : m.F = .tup [] := by unfold Mo.F; rw [hf]; rfl
    rw [this]; rfl
  · have hp : 0 < m.fs.length := List.length_pos_iff.mpr hf
    have hfl := h.ok.fl
    obtain ⟨f0, fs0, hf0⟩ : ∃ f fs, m.fs = f :: fs := by
      cases hq : m.fs with
      | nil => exact absurd hq hf
      | cons f fs => exact ⟨f, fs, rfl⟩
    obtain ⟨ini, last, hlast⟩ := snoc_ex hf
    unfold sFound
    refine (DrN.ite (c1 := 0) (c2 := 2) (P := fun b => b = true) (Dr.pure (fun r => ?_) rfl) (fun _ => ?_) (fun h => absurd h (by decide))).le (by decide)
    · have : m.F = .tup (f0.d :: fs0.map Df.d) := by unfold Mo.F; rw [hf0]; rfl
      rw [this]; rfl
    have lenF : lenD m.F = some (.int m.fs.length) := by unfold Mo.F; rw [len_tup, List.length_map]
    refine (DrN.asg1 (c1 := 1) (c2 := 1) (lt_len (n := 14) rfl (by decide)) (Dr.callP (ds := [.raw (.ref am), .int m.fs.length]) (fun r => ?_) (Dr.draw (by omega))) ?_)
    · exact cons_eq rfl (cons_eq (un_eq (a := m.F) rfl lenF) rfl)
    rintro d ⟨k', rfl, k0, k1⟩
    obtain ⟨k, rfl⟩ : ∃ k : Nat, k' = k := ⟨k'.toNat, by omega⟩
    have hk : k < m.fs.length := by omega
    have hfm := List.getElem_mem hk
    generalize hfk : m.fs[k] = f at hfm
    have hof := h.ok.fs f hfm
    obtain ⟨s, hs, s1, s2, s3⟩ := hof.sg
    have hins := h.df f hfm
    have hsq := h.q s hs
    have ixF : ixD m.F (.int k) = some f.d := by
      show atI (m.fs.map Df.d) (k : Int) = _
      rw [atI_mp hk, hfk]
    have sgn : ∀ r : Rw, g_law_sign [m.d, .str f.name] r = some (s.d, r) := fun r => by rw [← s1]; exact law_sign_ok h.ok hs
    refine DrN.step (e := [some (.raw (.ref am)), b, some m.d, e3, some m.A, some m.S, some m.F, some (.int k), e8, some (.lst (rows.map rowD)), some s.d, none, none, none]) (fun r => ?_) ?_
    · have : (eCall (ρ := Rw) 2 g_law_sign (aCons (eVar 2) (aCons (eBin ixD (eBin ixD (eVar 6) (eVar 7)) (eC (.int 0))) aNil))) [some (.raw (.ref am)), b, some m.d, e3, some m.A, some m.S, some m.F, some (.int k), e8, some (.lst (rows.map rowD)), none, none, none, none] r = some (s.d, r) :=
        call2 (d := m.d) (d2 := .str f.name) rfl (bin_eq (a := f.d) (bin_eq (a := m.F) (b := .int k) rfl rfl ixF) rfl rfl) (sgn r)
      show sAsg _ _ [some (.raw (.ref am)), b, some m.d, e3, some m.A, some m.S, some m.F, some (.int k), e8, some (.lst (rows.map rowD)), none, none, none, none] r = _
      unfold sAsg
      rw [this]; rfl
    obtain ⟨i, is, hi⟩ : ∃ i is, f.ins = i :: is := by
      cases hq : f.ins with
      | nil => rw [hq] at s3; simp only [List.length_nil] at s3; omega
      | cons i is => exact ⟨i, is, rfl⟩
    have hil : is.length = s.fur.length := by rw [hi, List.length_cons] at s3; omega
    have hi2 : i :: is = insL.take (1 + s.fur.length) := by rw [← hi, hins, s3]
    have bents : ∀ r : Rw, g_law_bent_bodies [f.d, s.d] r = some (.lst (bentB s.name i is f.body.d s.fur.length), r) := fun r => by
      have := bentB_ok (r := r) (s := s) (nm := f.name) (i := i) (is := is) (body := f.body.d) hil hsq.2.2.2.1
      rw [← hi] at this
      rw [s1]
      exact this
    have bl : (bentB s.name i is f.body.d s.fur.length) ≠ [] ∧ (bentB s.name i is f.body.d s.fur.length).length < 1000 := by
      unfold bentB
      split <;> simp
    refine (DrN.asg1 (c1 := 1) (c2 := 0) (P := fun d => ∃ bt ∈ bentB s.name i is f.body.d s.fur.length, d = .tup ((m.fs.map Df.d).take k ++ bt :: (m.fs.map Df.d).drop (k + 1))) (lt_len (n := 14) rfl (by decide)) ?_ ?_)
    · refine (Dr.mid (i := 6) (j := 7) (xs := m.fs.map Df.d) (k := k) rfl rfl (by rw [List.length_map]; exact hk) (by rw [List.length_map]; omega) (Dr.callP (ds := [.raw (.ref am), .lst (bentB s.name i is f.body.d s.fur.length)]) (fun r => ?_) (Dr.of (.inr rfl) bl.1 (by have := bl.2; omega))))
      exact cons_eq rfl (cons_eq (call2 (d := f.d) (d2 := s.d) (bin_eq (a := m.F) (b := .int k) rfl rfl ixF) rfl (bents r)) rfl)
    · rintro d ⟨bt, hbt, rfl⟩
      rw [← List.map_take, ← List.map_drop]
      refine (DrN.ext (xs := rows.map rowD) (ys := [(D.tup [m.A, m.S, .tup ((m.fs.take k).map Df.d ++ bt :: (m.fs.drop (k + 1)).map Df.d)], [D.int 2, .int k]), (.tup [m.A, m.S, .tup (m.fs.map Df.d ++ [last.d])], [.int 2, .int m.fs.length])].map rowD) rfl (fun r => ?_) (by simp only [List.length_map, List.length_cons, List.length_nil, big]; omega) ?_)
      · refine lst2 (tup2 (tup3 rfl rfl rfl) (tup2 rfl rfl)) (tup2 (tup3 rfl rfl ?_) (tup2 rfl (un_eq (a := m.F) rfl lenF)))
        refine bin_eq (a := m.F) (b := .tup [last.d]) rfl (sl_ok (d := m.F) rfl rfl rfl ?_) (add_tt (by simp only [List.length_map, List.length_cons, List.length_nil, big]; omega))
        show slD (.tup (m.fs.map Df.d)) _ _ = _
        rw [hlast, List.map_append]
        exact sl_last
      · refine ⟨some (.int k), some (.tup ((m.fs.take k).map Df.d ++ bt :: (m.fs.drop (k + 1)).map Df.d)), some s.d, rows ++ [(D.tup [m.A, m.S, .tup ((m.fs.take k).map Df.d ++ bt :: (m.fs.drop (k + 1)).map Df.d)], [D.int 2, .int k]), (.tup [m.A, m.S, .tup (m.fs.map Df.d ++ [last.d])], [.int 2, .int m.fs.length])], ?_, fun q hq => ?_, by simp only [List.length_append, List.length_cons, List.length_nil]; omega⟩
        · rw [List.map_append]; rfl
        · rcases List.mem_append.mp hq with z | z
          · exact hr q z
          · simp only [List.mem_cons, List.not_mem_nil, or_false] at z
            rcases z with z | z <;> subst z
            · exact row_df h.ok hk fun r => bentB_no h.ok.sa (mo_no h) hs hsq.1 s2 hsq.2.2.2.1 hi2 bt hbt
            · exact row_dfd h.ok hlast
theorem right_dr (hn : nms ≠ []) (hl : nms.length ≤ 100) (hN : ∀ x ∈ nms, Nm x) : Dr am sa ga 10000004 (g_law_module_right [.raw (.ref am), .lst (nms.map .str)]) fun d => d = .bl true := by
  refine Dr.gOf ?_
  unfold b_law_module_right
  refine (DrR.asg (c1 := 10000000) (c2 := 4) (lt_len (n := 14) rfl (by decide)) (Dr.callP (fun r => rfl) (module_dr hn hl hN)) ?_).le (by decide)
  rintro d ⟨m, rfl, h⟩
  refine DrR.step (e := [some (.raw (.ref am)), some (.lst (nms.map .str)), some m.d, none, none, none, none, none, none, none, none, none, none, none]) (fun r => ?_) ?_
  · have nm : g_need_module [m.d] r = some (m.d, r) := by
      unfold g_need_module plainG
      rw [mo_ok h.ok]; rfl
    have a1 : (eCallK (ρ := Rw) g_need_module pmId (aCons (eVar 2) aNil)) [some (.raw (.ref am)), some (.lst (nms.map .str)), some m.d, none, none, none, none, none, none, none, none, none, none, none] r = some (m.d, r) := nm
    have a2 : (eCallK (ρ := Rw) g_is_module pmId (aCons (eVar 2) aNil)) [some (.raw (.ref am)), some (.lst (nms.map .str)), some m.d, none, none, none, none, none, none, none, none, none, none, none] r = some (.bl true, r) := ism_yes (mo_ok h.ok)
    exact ifNo_step (not_ok (b := true) (of_ok (call2 (lst2 a1 a2) (lst2 rfl rfl) (like_lst2 ((plain_mo h.ok h.lo).mono (by decide)) trivial))))
  refine (DrR.seq (c1 := 0) (c2 := 4) (P := fun e => ∃ o, e = [some (.raw (.ref am)), some (.lst (nms.map .str)), some m.d, o, none, none, none, none, none, none, none, none, none, none]) (fun t r hs _ => ?_) ?_).le (by decide)
  · obtain ⟨o, e⟩ := loopL h.ok h.lo (a := some (.raw (.ref am))) (b := some (.lst (nms.map .str))) (rest := [none, none, none, none, none, none, none, none, none, none]) (r := r) m.fs none fun _ h => h
    exact ⟨_, r, e, ⟨o, rfl⟩, hs⟩
  rintro e ⟨o, rfl⟩
  refine DrR.step (e := [some (.raw (.ref am)), some (.lst (nms.map .str)), some m.d, o, some m.A, some m.S, some m.F, none, none, none, none, none, none, none]) (fun r => rfl) ?_
  obtain ⟨n, n2, n4, hnames⟩ := h.nm
  have hlen : m.ss.length = n := by
    have := congrArg List.length hnames
    rw [List.length_map, List.length_take, show names4.length = 4 from rfl] at this
    omega
  have lenS : lenD m.S = some (.int m.ss.length) := by unfold Mo.S; rw [len_tup, List.length_map]
  refine (DrR.asg (c1 := 1) (c2 := 3) (lt_len (n := 14) rfl (by decide)) (Dr.callP (ds := [.raw (.ref am), .int m.ss.length]) (fun r => cons_eq rfl (cons_eq (un_eq (a := m.S) rfl lenS) rfl)) (Dr.draw (by omega))) ?_)
  rintro d ⟨k', rfl, k0, k1⟩
  obtain ⟨k, rfl⟩ : ∃ k : Nat, k' = k := ⟨k'.toNat, by omega⟩
  have hk : k < m.ss.length := by omega
  have hsm := List.getElem_mem hk
  generalize hsk : m.ss[k] = s at hsm
  have hso := h.ok.ss s hsm
  obtain ⟨p, ps, hps⟩ : ∃ p ps, s.rows = p :: ps := by
    cases hq : s.rows with
    | nil => have := hso.r1; rw [hq] at this; simp at this
    | cons p ps => exact ⟨p, ps, rfl⟩
  have ixS : ixD m.S (.int k) = some s.d := by
    show atI (m.ss.map Sg.d) (k : Int) = _
    rw [atI_mp hk, hsk]
  refine (DrR.asg (c1 := 1) (c2 := 2) (P := fun d => ∃ bt ∈ bentS s p, d = .tup ((m.ss.map Sg.d).take k ++ bt :: (m.ss.map Sg.d).drop (k + 1))) (lt_len (n := 14) rfl (by decide)) ?_ ?_)
  · refine (Dr.mid (i := 5) (j := 7) (xs := m.ss.map Sg.d) (k := k) rfl rfl (by rw [List.length_map]; exact hk) (by rw [List.length_map]; omega) (Dr.callP (ds := [.raw (.ref am), .lst (bentS s p)]) (fun r => ?_) (Dr.of (.inr rfl) (by simp [bentS]) (by simp [bentS]))))
    exact cons_eq rfl (cons_eq (call1 (d := s.d) (bin_eq (a := m.S) (b := .int k) rfl rfl ixS) (bentS_ok hps)) rfl)
  rintro d ⟨bt, hbt, rfl⟩
  rw [← List.map_take, ← List.map_drop]
  obtain ⟨ini, s1, s2, hss⟩ : ∃ ini a b, m.ss = ini ++ [a, b] := by
    obtain ⟨i1, b, e1⟩ := snoc_ex (xs := m.ss) (fun e => by rw [e] at hlen; simp at hlen; omega)
    obtain ⟨i2, a, e2⟩ := snoc_ex (xs := i1) (fun e => by rw [e] at e1; rw [e1] at hlen; simp at hlen; omega)
    exact ⟨i2, a, b, by rw [e1, e2, List.append_assoc]; rfl⟩
  have hss2 : m.ss = (ini ++ [s1]) ++ [s2] := by rw [hss, List.append_assoc]; rfl
  refine DrR.step (e := [some (.raw (.ref am)), some (.lst (nms.map .str)), some m.d, o, some m.A, some m.S, some m.F, some (.int k), some (.tup ((m.ss.take k).map Sg.d ++ bt :: (m.ss.drop (k + 1)).map Sg.d)), some (.lst ((rows8 m k bt s2).map rowD)), none, none, none, none]) (fun r => ?_) ?_
  · have := rows8_eq h.ok (a := some (.raw (.ref am))) (b := some (.lst (nms.map .str))) (e3 := o) (e9 := none) (e10 := none) (k := k) hss2 rfl (bt := bt) r
    unfold eRows8 at this
    show sOwn 9 _ [some (.raw (.ref am)), some (.lst (nms.map .str)), some m.d, o, some m.A, some m.S, some m.F, some (.int k), some (.tup ((m.ss.take k).map Sg.d ++ bt :: (m.ss.drop (k + 1)).map Sg.d)), none, none, none, none, none] r = _
    unfold sOwn
    rw [this]; rfl
  refine (DrR.seq (c1 := 2) (c2 := 0) (found_dr h (rows := rows8 m k bt s2) (fun q hq => ?_) (by simp [rows8])) ?_)
  · simp only [rows8, List.mem_cons, List.not_mem_nil, or_false] at hq
    rcases hq with z | z | z | z | z | z | z | z <;> subst z
    · exact row_sg h.ok hk fun r => bentS_no hso hps bt hbt
    · exact row_rev h.ok hss
    · exact row_dup h.ok (by omega) hss2
    · exact row_lst h.ok
    · exact row_two
    · exact row_ls
    · exact row_non h.ok
    · exact row_ax
  · rintro e ⟨x, y, z, R, rfl, hR, hRl⟩
    exact tail_dr h.ok hR hRl
end
end Q
end
section
set_option Elab.async false
set_option linter.all false
set_option maxRecDepth 100000
set_option maxHeartbeats 400000
namespace Q
open PySem PySem.Spec PyProof.Rows L2 DL
/-! sizes -/
def oneP : T × T := (.yes, .yes)
def sg1 (x : Str) (k : Nat) : Sg := ⟨x, List.replicate k oneP, []⟩
def sgs12 : List Sg := [sg1 "fa" 1, sg1 "fb" 1, sg1 "fc" 1, sg1 "fd" 1, sg1 "fe" 1, sg1 "ff" 1, sg1 "fg" 1, sg1 "fh" 1, sg1 "fi" 1, sg1 "fj" 1, sg1 "fk" 1, sg1 "fl" 4]
def sgs13 : List Sg := sgs12 ++ [sg1 "fm" 1]
def longX : Nat → X
  | 0 => .use "x"
  | n + 1 => .ei (.use "x") (longX n)
def bodyG : X := .le "v" (.use "x") (longX 28)
def call1X (x : X) : X := .ca "fb" (.cons x .nil)
theorem long_ok {ss : List Sg} {kn : List Str} (h : ("x" : Str) ∈ kn) : ∀ n, (longX n).ok ss kn
  | 0 => ⟨nm_x, h⟩
  | n + 1 => ⟨⟨nm_x, h⟩, long_ok h n⟩
theorem long_len : ∀ n, (longX n).nodes.length = 2 * n + 1
  | 0 => rfl
  | n + 1 => by simp only [longX, X.nodes, List.length_append, List.length_cons, List.length_nil, long_len n]; omega
theorem long_deep : ∀ n, (longX n).deep = n
  | 0 => rfl
  | n + 1 => by simp only [longX, X.deep, long_deep n]; omega
theorem nm12 : ∀ s ∈ sgs12, Nm s.name := by
  intro s hs
  simp only [sgs12, List.mem_cons, List.not_mem_nil, or_false] at hs
  rcases hs with z | z | z | z | z | z | z | z | z | z | z | z <;> subst z <;> (intro ρ r; kernel_rfl)
theorem yes_fine : pFine oneP := ⟨⟨trivial, by decide, by decide⟩, ⟨trivial, by decide, by decide⟩⟩
theorem sg12_ok : ∀ s ∈ sgs12, s.ok := by
  intro s hs
  have hn := nm12 s hs
  have : (s.rows.length = 1 ∨ s.rows.length = 4) ∧ s.fur = [] ∧ ∀ p ∈ s.rows, p = oneP := by
    simp only [sgs12, List.mem_cons, List.not_mem_nil, or_false] at hs
    rcases hs with z | z | z | z | z | z | z | z | z | z | z | z <;> subst z <;> simp [sg1]
  exact ⟨hn, by omega, by omega, by rw [this.2.1]; decide, fun p hp => by rw [this.2.2 p hp]; exact yes_fine, fun t ht => by rw [this.2.1] at ht; exact absurd ht (by simp)⟩
theorem asc12 : Asc "" sgs12 := by
  refine ⟨?_, ?_, ?_, ?_, ?_, ?_, ?_, ?_, ?_, ?_, ?_, ?_, trivial⟩ <;> decide
theorem mem_fa : sg1 "fa" 1 ∈ sgs12 := by simp [sgs12]
theorem mem_fb : sg1 "fb" 1 ∈ sgs12 := by simp [sgs12]
theorem mem_fl : sg1 "fl" 4 ∈ sgs12 := by simp [sgs12]
theorem nm_fa : Nm "fa" := nm12 _ mem_fa
theorem nm_fb : Nm "fb" := nm12 _ mem_fb
theorem nm_fl : Nm "fl" := nm12 _ mem_fl
def dfG (b : X) : Df := ⟨"fa", [("x" : Str)], b⟩
theorem dfG_ok {b : X} (h1 : b.ok sgs12 [("x" : Str)]) (h2 : b.nodes.length ≤ 60) (h3 : b.deep ≤ 35) : (dfG b).ok sgs12 :=
  ⟨nm_fa, ⟨_, mem_fa, rfl, rfl, rfl⟩, fun i hi => by simp only [dfG, List.mem_singleton] at hi; exact hi ▸ nm_x, (by decide : ([("x" : Str)] : List Str).Nodup), h1, h2, h3⟩
theorem bodyG_ok : bodyG.ok sgs12 [("x" : Str)] := ⟨nm_v, ⟨nm_x, by simp⟩, long_ok (by simp) 28⟩
theorem call_ok {b : X} (h : b.ok sgs12 [("x" : Str)]) : (call1X b).ok sgs12 [("x" : Str)] := ⟨nm_fb, ⟨_, mem_fb, rfl, rfl⟩, h, trivial⟩
theorem bodyG_len : bodyG.nodes.length = 59 := by simp [bodyG, X.nodes, long_len]
theorem bodyG_deep : bodyG.deep = 29 := by simp [bodyG, X.deep, long_deep]
theorem call_len (b : X) : (call1X b).nodes.length = b.nodes.length + 1 := by simp [call1X, X.nodes, Xs.nodes]
theorem call_deep (b : X) : (call1X b).deep = b.deep + 1 := by simp [call1X, X.deep, Xs.deep]
def moG (fs : List Df) : Mo := ⟨[], sgs12, fs⟩
theorem moG_ok {b : X} (h1 : b.ok sgs12 [("x" : Str)]) (h2 : b.nodes.length ≤ 60) (h3 : b.deep ≤ 35) : (moG [dfG b]).ok :=
  ⟨fun p hp => absurd hp (by simp [moG]), by simp [moG], sg12_ok, asc12, by simp [moG, sgs12], fun f hf => by simp only [moG, List.mem_singleton] at hf; exact hf ▸ dfG_ok h1 h2 h3, ⟨(by decide : Lt "" "fa"), trivial⟩, by simp [moG]⟩
theorem mo0_ok : (moG []).ok :=
  ⟨fun p hp => absurd hp (by simp [moG]), by simp [moG], sg12_ok, asc12, by simp [moG, sgs12], fun f hf => absurd hf (by simp [moG]), trivial, by simp [moG]⟩
theorem gt_tt {i : Nat} {j : Int} (h : j < (i : Int)) : gtD (.int i) (.int j) = some (.bl true) := by
  show some (D.bl (decide (j < (i : Int)))) = _
  rw [decide_eq_true h]
theorem le_tf {i : Nat} {j : Int} (h : j < (i : Int)) : leD (.int i) (.int j) = some (.bl false) := by
  show some (D.bl (decide ((i : Int) ≤ j))) = _
  rw [decide_eq_false (by omega)]
def eZ1 {ρ : Type} : SE ρ := (eUn lenD (eCall 2 g_body_nodes (aCons (eVar 3) (aCons (eC (.str "fa")) aNil))))
def eZ2 {ρ : Type} : SE ρ := (eTup (aCons (eBin ixD (eVar 3) (eC (.int 0))) (aCons (eBin ixD (eVar 3) (eC (.int 1))) (aCons (eTup (aCons (eTup (aCons (eC (.str "fa")) (aCons (eTup (aCons (eC (.str "x")) aNil)) (aCons (eTup (aCons (eC (.str "call")) (aCons (eC (.str "fb")) (aCons (eTup (aCons (eBin ixD (eBin ixD (eBin ixD (eVar 3) (eC (.int 2))) (eC (.int 0))) (eC (.int 2))) aNil)) aNil)))) aNil)))) aNil)) aNil))))
theorem cond_z {ρ : Type} {env : DL.Env} {r : ρ} {f g : SE ρ} {a : SS ρ} (h1 : f env r = some (.int 59, r)) (h2 : g env r = some (.bl true, r)) : (sIf (bOr (bOf (eBin neD f (eC (.int 59)))) (bOf (eBin isnD g (eC (.bl true))))) a sNil) env r = some (.nx env r) := by
  have n1 : neD (.int 59) (.int 59) = some (.bl false) := rfl
  have n2 : isnD (.bl true) (.bl true) = some (.bl false) := rfl
  simp only [sIf, sNil, bOr, bOf, eBin, eC, toB, h1, h2, n1, n2, Option.bind_some, Option.map_some, Bool.false_eq_true, ↓reduceIte]
theorem lst4 {ρ : Type} {f1 f2 f3 f4 : SE ρ} {env : DL.Env} {r : ρ} {d1 d2 d3 d4 : D} (h1 : f1 env r = some (d1, r)) (h2 : f2 env r = some (d2, r)) (h3 : f3 env r = some (d3, r)) (h4 : f4 env r = some (d4, r)) : eLst (aCons f1 (aCons f2 (aCons f3 (aCons f4 aNil)))) env r = some (.lst [d1, d2, d3, d4], r) :=
  lst_eq (cons_eq h1 (cons_eq h2 (cons_eq h3 (cons_eq h4 rfl))))
def placeD (p : List D) : D := .tup [.str "module", .tup p]
theorem plain_pl {p : List Int} (h : p.length ≤ 100) : Plain 10 (placeD (p.map D.int)) :=
  plain2 (plain_s _ _) (plain_map (j := 8) (fun _ _ => trivial) (by omega))
section
variable {ρ : Type} {r : ρ}
/-- too many nodes -/
theorem def_long {b : X} (h1 : b.ok sgs12 [("x" : Str)]) (h2 : 60 < b.nodes.length ∧ b.nodes.length ≤ 1000) (h3 : b.deep ≤ 35) : g_is_definition [(dfG b).d, sgD sgs12] r = some (.bl false, r) := by
  have c4 := ex_ok asc12 sg12_ok fuel_is_expression b [("x" : Str)] r (by simp only [fuel_is_expression]; omega) h1 (by simp; omega)
  have c5 := nodes_ok (r := r) b (by omega)
  have c6 : lenD (.lst (b.nodes.map X.d)) = some (.int (b.nodes.length : Nat)) := by
    show some (D.int ((b.nodes.map X.d).length : Nat)) = _
    rw [List.length_map]
  have c7 := le_tf (i := b.nodes.length) (j := 60) (by omega)
  have hd := def_rest (r := r) asc12 mem_fa (I := .tup [.str "x"]) (B := b.d) nm_fa
  refine hd.trans ?_
  unfold restDf
  rw [sSeq_nx (e := [some (.tup [.str "fa", .tup [.str "x"], b.d]), some (sgD sgs12), some (sg1 "fa" 1).d, some (.tup [.str "x"]), none]) (r' := r) (by kernel_rfl), sSeq_nx (e := [some (.tup [.str "fa", .tup [.str "x"], b.d]), some (sgD sgs12), some (sg1 "fa" 1).d, some (.tup [.str "x"]), none]) (r' := r) (by kernel_rfl)]
  have c8 : listD (.tup [.str "x"]) = some (.lst ([("x" : Str)].map D.str)) := rfl
  simp only [sRet, eIf, bOf, toB, eUn, eBin, eVar, eC, eCall, aCons, aNil, ix2, c4, c5, c6, c7, c8, outD, Option.bind_some, Option.map_some, List.getElem?_cons_zero, List.getElem?_cons_succ, ↓reduceIte]
theorem def_fl {b : D} : g_is_definition [.tup [.str "fl", .tup [.str "x"], b], sgD sgs12] r = some (.bl false, r) := by
  refine (def_rest (r := r) asc12 mem_fl nm_fl).trans ?_
  kernel_rfl
theorem sigs_many : gx_need_signatures [.tup (sgs13.map Sg.d)] r = some (.inr (mkEx [.int 1]), r) := by
  kernel_rfl
theorem sizes_ok : g_law_sizes_right [] r = some (.bl true, r) := by
  have e : startE N_law_sizes_right [] = [none, none, none, none, none, none, none] := rfl
  unfold g_law_sizes_right gOf
  rw [e]
  unfold b_law_sizes_right
  rw [sSeq_nx (e := [some (pD oneP), some (.lst []), none, none, none, none, none]) (r' := r) (by kernel_rfl),
    sSeq_nx (e := [some (pD oneP), some (.lst (sgs13.map Sg.d)), some (.str "fm"), none, none, none, none]) (r' := r) (by kernel_rfl),
    sSeq_nx (e := [some (pD oneP), some (.lst (sgs13.map Sg.d)), some (.str "fm"), some (moG [dfG bodyG]).d, none, none, none]) (r' := r) (by kernel_rfl)]
  have okG : (moG [dfG bodyG]).ok := moG_ok bodyG_ok (by rw [bodyG_len]; decide) (by rw [bodyG_deep]; decide)
  have okC : (moG [dfG (call1X bodyG)]).ok := moG_ok (call_ok bodyG_ok) (by rw [call_len, bodyG_len]; decide) (by rw [call_deep, bodyG_deep]; decide)
  have bn := body_nodes_ok (r := r) okG (f := dfG bodyG) (by simp [moG])
  have bl : lenD (.tup (bodyG.nodes.map X.d)) = some (.int 59) := by rw [len_tup, List.length_map, bodyG_len]; rfl
  have im := ism_yes (mo_ok (r := r) okC)
  have z1 : eZ1 [some (pD oneP), some (.lst (sgs13.map Sg.d)), some (.str "fm"), some (moG [dfG bodyG]).d, none, none, none] r = some (.int 59, r) := un_eq (call2 rfl rfl bn) bl
  have z2 : (eCall (ρ := ρ) 1 g_is_module (aCons eZ2 aNil)) [some (pD oneP), some (.lst (sgs13.map Sg.d)), some (.str "fm"), some (moG [dfG bodyG]).d, none, none, none] r = some (.bl true, r) := call1 (d := (moG [dfG (call1X bodyG)]).d) (by kernel_rfl) im
  unfold eZ1 at z1
  unfold eZ2 at z2
  rw [sSeq_nx (cond_z z1 z2),
    sSeq_nx (e := [some (pD oneP), some (.lst (sgs13.map Sg.d)), some (.str "fm"), some (moG [dfG bodyG]).d, some (.tup [(moG []).A, (moG []).S, .tup [(dfG (call1X (call1X bodyG))).d]]), none, none]) (r' := r) (by kernel_rfl),
    sSeq_nx (e := [some (pD oneP), some (.lst (sgs13.map Sg.d)), some (.str "fm"), some (moG [dfG bodyG]).d, some (.tup [(moG []).A, (moG []).S, .tup [(dfG (call1X (call1X bodyG))).d]]), some (.tup [(moG []).A, .tup (sgs13.map Sg.d), .tup []]), none]) (r' := r) (by kernel_rfl),
    sSeq_nx (e := [some (pD oneP), some (.lst (sgs13.map Sg.d)), some (.str "fm"), some (moG [dfG bodyG]).d, some (.tup [(moG []).A, (moG []).S, .tup [(dfG (call1X (call1X bodyG))).d]]), some (.tup [(moG []).A, .tup (sgs13.map Sg.d), .tup []]), some (.tup [(moG []).A, (moG []).S, .tup [.tup [.str "fl", .tup [.str "x"], .tup [.str "use", .str "x"]]]])]) (r' := r) (by kernel_rfl)]
  have l1 := def_long (r := r) (call_ok (call_ok bodyG_ok)) ⟨by rw [call_len, call_len, bodyG_len]; decide, by rw [call_len, call_len, bodyG_len]; decide⟩ (by rw [call_deep, call_deep, bodyG_deep]; decide)
  have r1 : g_law_refused [.tup [(moG []).A, (moG []).S, .tup [(dfG (call1X (call1X bodyG))).d]]] r = some (placeD [.int 2, .int 0], r) :=
    refused_ok (mo_bad mo0_ok (fs := []) (ds := []) (fun _ h => absurd h (by simp)) trivial (by decide) fun x y z c => df_bad l1)
  have r2 : g_law_refused [.tup [(moG []).A, .tup (sgs13.map Sg.d), .tup []]] r = some (placeD [.int 1], r) :=
    refused_ok (nm_sg mo0_ok.okA sigs_many)
  have r3 : g_law_refused [.tup [(moG []).A, (moG []).S, .tup [.tup [.str "fl", .tup [.str "x"], .tup [.str "use", .str "x"]]]]] r = some (placeD [.int 2, .int 0], r) :=
    refused_ok (mo_bad mo0_ok (fs := []) (ds := []) (fun _ h => absurd h (by simp)) trivial (by decide) fun x y z c => df_bad def_fl)
  have ok0 : (⟨[], [], []⟩ : Mo).ok := ⟨fun p hp => absurd hp (by simp), by simp, fun s hs => absurd hs (by simp), trivial, by simp, fun f hf => absurd hf (by simp), trivial, by simp⟩
  have r4 : g_law_refused [.tup [.tup [], .tup [], .tup []]] r = some (.tup [.str "told", .non], r) := told_ok (mo_ok ok0)
  have fin : (eCall (ρ := ρ) 2 (g_law_like fuel_law_like) (aCons (eLst (aCons (eCall 1 g_law_refused (aCons (eVar 4) aNil)) (aCons (eCall 1 g_law_refused (aCons (eVar 5) aNil)) (aCons (eCall 1 g_law_refused (aCons (eVar 6) aNil)) (aCons (eCall 1 g_law_refused (aCons (eTup (aCons (eTup aNil) (aCons (eTup aNil) (aCons (eTup aNil) aNil)))) aNil)) aNil))))) (aCons (eLst (aCons (eTup (aCons (eC (.str "module")) (aCons (eTup (aCons (eC (.int 2)) (aCons (eC (.int 0)) aNil))) aNil))) (aCons (eTup (aCons (eC (.str "module")) (aCons (eTup (aCons (eC (.int 1)) aNil)) aNil))) (aCons (eTup (aCons (eC (.str "module")) (aCons (eTup (aCons (eC (.int 2)) (aCons (eC (.int 0)) aNil))) aNil))) (aCons (eTup (aCons (eC (.str "told")) (aCons (eC .non) aNil))) aNil))))) aNil)))
      [some (pD oneP), some (.lst (sgs13.map Sg.d)), some (.str "fm"), some (moG [dfG bodyG]).d, some (.tup [(moG []).A, (moG []).S, .tup [(dfG (call1X (call1X bodyG))).d]]), some (.tup [(moG []).A, .tup (sgs13.map Sg.d), .tup []]), some (.tup [(moG []).A, (moG []).S, .tup [.tup [.str "fl", .tup [.str "x"], .tup [.str "use", .str "x"]]]])] r = some (.bl true, r) := by
    refine call2 (lst4 (call1 rfl r1) (call1 rfl r2) (call1 rfl r3) (call1 rfl r4)) (lst4 (d1 := placeD [.int 2, .int 0]) (d2 := placeD [.int 1]) (d3 := placeD [.int 2, .int 0]) (d4 := .tup [.str "told", .non]) rfl rfl rfl rfl) (like_ok 20 _ ⟨by simp, fun x hx => ?_⟩)
    simp only [List.mem_cons, List.not_mem_nil, or_false] at hx
    rcases hx with z | z | z | z <;> subst z
    · exact (plain_pl (p := [2, 0]) (by decide)).mono (by decide)
    · exact (plain_pl (p := [1]) (by decide)).mono (by decide)
    · exact (plain_pl (p := [2, 0]) (by decide)).mono (by decide)
    · exact plain2 (j := 18) (plain_s _ _) trivial
  unfold sRet
  rw [fin]
  rfl
end
end Q
end
section
set_option Elab.async false
set_option linter.all false
set_option maxRecDepth 100000
set_option maxHeartbeats 400000
namespace Q
open PySem PySem.Spec PyProof.Rows L2 DL
theorem nm_a : Nm "a" := fun _ _ => by kernel_rfl
theorem nm_b : Nm "b" := fun _ _ => by kernel_rfl
theorem nm_c : Nm "c" := fun _ _ => by kernel_rfl
def abcL : List Str := [("a" : Str), "b", "c"]
theorem nmabc : ∀ x ∈ abcL, Nm x := by
  intro x hx
  simp only [abcL, List.mem_cons, List.not_mem_nil, or_false] at hx
  rcases hx with z | z | z <;> subst z
  · exact nm_a
  · exact nm_b
  · exact nm_c
def kL : Nat := 20000000
section
variable {am sa ga : Addr}
def bodyLaw : SS Rw := (sIf (bNot (bOf (eCall 2 g_law_module_right (aCons (eVar 1) (aCons (eSl (eLst (aCons (eC (.str "a")) (aCons (eC (.str "b")) (aCons (eC (.str "c")) aNil)))) oNone (oSome (eBin addD (eC (.int 1)) (eCall 2 g_law_draw (aCons (eVar 1) (aCons (eC (.int 3)) aNil)))))) aNil))))) (sRet (eC (.bl false))) sNil)
theorem lawL {x : Option D} : ∀ (ds : List D) (o : Option D), DrN am sa ga (ds.length * kL) (sFold (gNm 2) bodyLaw ds [x, some (.raw (.ref am)), o]) fun e => ∃ o', e = [x, some (.raw (.ref am)), o']
  | [], o => fun t r hs _ => ⟨_, r, rfl, ⟨o, rfl⟩, hs.mono (by omega)⟩
  | d :: ds, o => by
    have st : DrN am sa ga kL (bodyLaw [x, some (.raw (.ref am)), some d]) fun e => e = [x, some (.raw (.ref am)), some d] := by
      have cl : Dr am sa ga kL (eCall 2 g_law_module_right (aCons (eVar 1) (aCons (eSl (eLst (aCons (eC (.str "a")) (aCons (eC (.str "b")) (aCons (eC (.str "c")) aNil)))) oNone (oSome (eBin addD (eC (.int 1)) (eCall 2 g_law_draw (aCons (eVar 1) (aCons (eC (.int 3)) aNil)))))) aNil)) [x, some (.raw (.ref am)), some d]) fun d => d = .bl true := by
        refine (Dr.call (c1 := 1) (c2 := 10000004) (P := fun ds => ∃ n, 1 ≤ n ∧ n ≤ 3 ∧ ds = [.raw (.ref am), .lst ((abcL.take n).map .str)]) ?_ ?_).le (by decide)
        · refine (Dr.cons (c1 := 0) (c2 := 1) (P := fun d => d = .raw (.ref am)) (R := fun ds => ∃ n, 1 ≤ n ∧ n ≤ 3 ∧ ds = [.lst ((abcL.take n).map .str)]) (Dr.var rfl rfl) ((Dr.cons (c1 := 1) (c2 := 0) (P := fun d => ∃ n, 1 ≤ n ∧ n ≤ 3 ∧ d = .lst ((abcL.take n).map .str)) (R := fun ds => ds = []) (Dr.slHi (x := .lst (abcL.map D.str)) (P := fun k => k = 1 ∨ k = 2 ∨ k = 3) (fun r => rfl) ((Dr.bin (c1 := 0) (c2 := 1) (P1 := fun d => d = .int 1) (P2 := fun d => ∃ k : Int, d = .int k ∧ 0 ≤ k ∧ k < 3) (Dr.con rfl) (Dr.callP (fun r => rfl) (Dr.draw (by decide))) ?_).le (by decide)) ?_) (Dr.nil rfl) ?_).le (by decide)) ?_).le (by decide)
          · rintro a b rfl ⟨k, rfl, k0, k1⟩
            exact ⟨_, add_ii, _, rfl, by omega⟩
          · rintro k (rfl | rfl | rfl)
            · exact ⟨_, rfl, 1, by decide, by decide, rfl⟩
            · exact ⟨_, rfl, 2, by decide, by decide, rfl⟩
            · exact ⟨_, rfl, 3, by decide, by decide, rfl⟩
          · rintro a b ⟨n, h1, h2, rfl⟩ rfl; exact ⟨n, h1, h2, rfl⟩
          · rintro a b rfl ⟨n, h1, h2, rfl⟩; exact ⟨n, h1, h2, rfl⟩
        · rintro ds ⟨n, h1, h2, rfl⟩
          have hl : (abcL.take n).length = n := by rw [List.length_take, show abcL.length = 3 from rfl]; omega
          exact right_dr (fun e => by rw [e] at hl; simp at hl; omega) (by omega) fun y hy => nmabc y (List.mem_of_mem_take hy)
      intro t r hs hl
      obtain ⟨a, r', e, rfl, s⟩ := cl t r hs hl
      refine ⟨_, r', ?_, rfl, s⟩
      unfold bodyLaw sIf bNot DL.bOf
      rw [e]; rfl
    intro t r hs hl
    rw [List.length_cons, Nat.succ_mul] at hl
    obtain ⟨a, r1, e1, rfl, s1⟩ := st t r hs (by omega)
    obtain ⟨e3, r2, f3, ⟨o', rfl⟩, s2⟩ := lawL ds (some d) _ r1 s1 (by omega)
    exact ⟨_, r2, (sFold_nx rfl e1).trans f3, ⟨o', rfl⟩, s2.mono (by rw [List.length_cons, Nat.succ_mul]; omega)⟩
theorem law_dr {small great : List Int} (h : okS small) : ∃ r', b_law [none, some (.raw (.ref am)), none] (rwOf am sa ga small great 0) = some (.ret (.bl true) r') := by
  have hs : St am sa ga 0 (rwOf am sa ga small great 0) := ⟨small, great, 0, rfl, h, by decide, by decide⟩
  have d : DrR am sa ga (0 + 5 * kL + 0) (b_law [none, some (.raw (.ref am)), none]) fun d => d = .bl true := by
    unfold b_law
    refine DrR.seq (c1 := 0 + 5 * kL) (c2 := 0) (P := fun e => ∃ o', e = [none, some (.raw (.ref am)), o']) (sFor_dr (c1 := 0) (c2 := 5 * kL) (P := fun xs => xs.length = 5) (Dr.rngN (K := 5) (Dr.con rfl) (by decide)) fun xs hx => ?_) ?_
    · have := lawL (am := am) (sa := sa) (ga := ga) (x := none) xs none
      rw [hx] at this
      unfold bodyLaw at this
      exact this
    · rintro e ⟨o', rfl⟩
      refine DrR.ret (Dr.pure (a := .bl true) (fun r => ?_) rfl)
      unfold eCall aNil
      rw [Option.bind_some]
      exact sizes_ok
  obtain ⟨a, r', e, rfl, _⟩ := d 0 _ hs (by simp only [lim0, kL]; omega)
  exact ⟨r', e⟩
end
end Q
end
section
set_option Elab.async false
set_option linter.all false
set_option maxRecDepth 100000
set_option maxHeartbeats 400000
namespace Q
open PySem PySem.Spec PyProof.Rows L2 DL
theorem math_ok : Math := fun xs h => by
  obtain ⟨small, ho, hb⟩ := bg_ok xs h
  exact ⟨small, xs.map gr0, hb, fun p sa ga => law_dr ho⟩
end Q
set_option maxRecDepth 100000 in
set_option maxHeartbeats 8000000 in
theorem PySem.Challenge.cw_nocases_k78_modules_and_nodes_holds : PySem.Challenge.rw_nocases_k78_modules_and_nodes.Holds :=
  holds_of Q.math_ok
end
