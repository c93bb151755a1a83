import PyProof.Rows.All
import Wide.All
import OpenK.AllK
import Wide.FinOn
import HandS.ForMost
import HandS.Codes
import HandS.Evl
import KE.DataEq
import KE.DataAny
import KE.DatumIndex
import HandS.Property
import HandS.Style
import HandS.FStr
import HandS.WideBits
import HandS.Wide
import HandS.IsInst
import HandS.Deep
import HandS.Zip
import HandS.More
import PyProof.InstNe
import HandS.Dict
import HandS.Iter
import HandS.Conv
import HandS.SetFor
import KE.GoesEnum
import HandS.Ends
import HandS.Defaults
import HandS.Head0
import HandS.Head1
import HandS.Head2
import HandS.HeadHook1
import HandS.HeadHook2
import HandS.HeadHook3
import HandS.HeadHook4
import PySem.Challenge.RW_lonetill_k21_houses_as_values
set_option Elab.async false
set_option linter.all false
set_option maxRecDepth 100000
/-! EV 1: data by value, what stands for it in the abstract heap, the ghost state -/
namespace EV
open PySem L2

/-- plain data, instances, references to cells, types, defs of the module -/
inductive D where
  | non | bl (b : Bool) | int (i : Int) | str (x : Str)
  | lst (xs : List D) | tup (xs : List D) | klst (xs : List D)
  | ins (c : Str) (ns : List Str) (xs : List D)
  | dic (ks vs : List D)
  | cell (k : Nat)
  | ty (n : String)
  | fn (x : Str)
  

/-- a dict's key as data -/
def kD : Key → D
  | .inl i => .int i
  | .inr x => .str x

mutual
inductive Rep (mg : Str → Option Value) (K : PySem.W.Frag) (F : Hp) (ρ : List Addr) : V → D → Prop
  | non : Rep mg K F ρ .non .non
  | bl (b : Bool) : Rep mg K F ρ (.bl b) (.bl b)
  | int (i : Int) : Rep mg K F ρ (.int i) (.int i)
  | str (x : Str) : Rep mg K F ρ (.str x) (.str x)
  | lst {a : Addr} {xs : List V} {ds : List D} : F a = some (.lst xs) → Reps mg K F ρ xs ds → Rep mg K F ρ (.ref a) (.lst ds)
  | klst {a : Addr} {xs : List V} {ds : List D} : SqL K F a xs → Reps mg K F ρ xs ds → Rep mg K F ρ (.ref a) (.klst ds)
  | tup {a : Addr} {xs : List V} {ds : List D} : SqT K F a xs → Reps mg K F ρ xs ds → Rep mg K F ρ (.ref a) (.tup ds)
  | ins {a C dx : Addr} {fs : List (Str × V)} {c : Str} {ns : List Str} {ds : List D} : F a = some (.ins C dx fs) → mg c = some (.ref C) → fs.map (·.1) = ns → Reps mg K F ρ (fs.map (·.2)) ds →
      Rep mg K F ρ (.ref a) (.ins c ns ds)
  | dic {a : Addr} {kvs : List (Key × V)} {ks ds : List D} : F a = some (.dK kvs) → kvs.map (fun p => kD p.1) = ks → Reps mg K F ρ (kvs.map (·.2)) ds → Rep mg K F ρ (.ref a) (.dic ks ds)
  | cell {k : Nat} {a : Addr} : ρ[k]? = some a → Rep mg K F ρ (.ref a) (.cell k)
  | ty (n : String) : Rep mg K F ρ (.ty n) (.ty n)
  | fn {x : Str} {a : Addr} : mg x = some (.ref a) → Rep mg K F ρ (.ref a) (.fn x)
inductive Reps (mg : Str → Option Value) (K : PySem.W.Frag) (F : Hp) (ρ : List Addr) : List V → List D → Prop
  | nil : Reps mg K F ρ [] []
  | cons {v : V} {vs : List V} {d : D} {ds : List D} : Rep mg K F ρ v d → Reps mg K F ρ vs ds → Reps mg K F ρ (v :: vs) (d :: ds)
end

section
variable {mg : Str → Option Value} {K : PySem.W.Frag} {F F' : Hp} {ρ ρ' : List Addr}
theorem sqT_same {H H' : Hp} {a : Addr} {xs : List V} (e : Same H H') (h : SqT K H a xs) : SqT K H' a xs := Evl.ex_t e h
mutual
theorem Rep.mono (e : Same F F') (p : ∃ t, ρ' = ρ ++ t) : ∀ (d : D) (v : V), Rep mg K F ρ v d → Rep mg K F' ρ' v d
  | .non, _, h => by cases h; exact .non
  | .bl _, _, h => by cases h; exact .bl _
  | .int _, _, h => by cases h; exact .int _
  | .str _, _, h => by cases h; exact .str _
  | .lst ds, _, h => by
    cases h with
    | lst h1 h2 => exact .lst (e _ _ h1) (Reps.mono e p ds _ h2)
  | .klst ds, _, h => by
    cases h with
    | klst h1 h2 => exact .klst (e.seq h1) (Reps.mono e p ds _ h2)
  | .tup ds, _, h => by
    cases h with
    | tup h1 h2 => exact .tup (sqT_same e h1) (Reps.mono e p ds _ h2)
  | .ins _ _ ds, _, h => by
    cases h with
    | ins h1 h2 h3 h4 => exact .ins (e _ _ h1) h2 h3 (Reps.mono e p ds _ h4)
  | .dic _ vs, _, h => by
    cases h with
    | dic h1 h2 h3 => exact .dic (e _ _ h1) h2 (Reps.mono e p vs _ h3)
  | .cell k, _, h => by
    cases h with
    | cell h1 =>
      obtain ⟨t, rfl⟩ := p
      exact .cell (by
        have hk := (List.getElem?_eq_some_iff.mp h1).1
        rw [List.getElem?_append_left hk]; exact h1)
  | .ty _, _, h => by cases h; exact .ty _
  | .fn _, _, h => by
    cases h with
    | fn h1 => exact .fn h1
theorem Reps.mono (e : Same F F') (p : ∃ t, ρ' = ρ ++ t) : ∀ (ds : List D) (vs : List V), Reps mg K F ρ vs ds → Reps mg K F' ρ' vs ds
  | [], _, h => by cases h; exact .nil
  | d :: ds, _, h => by
    cases h with
    | cons h1 h2 => exact .cons (Rep.mono e p d _ h1) (Reps.mono e p ds _ h2)
end
theorem Reps.length : ∀ {vs : List V} {ds : List D}, Reps mg K F ρ vs ds → vs.length = ds.length
  | _, _, .nil => rfl
  | _, _, .cons _ t => by rw [List.length_cons, List.length_cons, Reps.length t]
theorem Reps.get : ∀ {vs : List V} {ds : List D} {i : Nat} {d : D}, Reps mg K F ρ vs ds → ds[i]? = some d → ∃ v, vs[i]? = some v ∧ Rep mg K F ρ v d
  | _, _, _, _, .nil, e => by simp at e
  | _, _, 0, _, .cons r _, e => by simp at e; subst e; exact ⟨_, rfl, r⟩
  | _, _, i + 1, d, .cons _ t, e => by
    obtain ⟨v, h1, h2⟩ := Reps.get (i := i) (d := d) t (by simpa using e)
    exact ⟨v, by simpa using h1, h2⟩
theorem Reps.append : ∀ {vs ws : List V} {ds es : List D}, Reps mg K F ρ vs ds → Reps mg K F ρ ws es → Reps mg K F ρ (vs ++ ws) (ds ++ es)
  | _, _, _, _, .nil, s => s
  | _, _, _, _, .cons r t, s => .cons r (Reps.append t s)
theorem Reps.set {v : V} {d : D} (r : Rep mg K F ρ v d) : ∀ {vs : List V} {ds : List D} (i : Nat), Reps mg K F ρ vs ds → Reps mg K F ρ (vs.set i v) (ds.set i d)
  | _, _, _, .nil => .nil
  | _, _, 0, .cons _ t => .cons r t
  | _, _, i + 1, .cons q t => .cons q (Reps.set r i t)
theorem Reps.take : ∀ {vs : List V} {ds : List D} (n : Nat), Reps mg K F ρ vs ds → Reps mg K F ρ (vs.take n) (ds.take n)
  | _, _, 0, _ => .nil
  | _, _, _ + 1, .nil => .nil
  | _, _, n + 1, .cons r t => .cons r (Reps.take n t)
theorem Reps.drop : ∀ {vs : List V} {ds : List D} (n : Nat), Reps mg K F ρ vs ds → Reps mg K F ρ (vs.drop n) (ds.drop n)
  | _, _, 0, r => r
  | _, _, _ + 1, .nil => .nil
  | _, _, n + 1, .cons r t => Reps.drop n t
theorem Reps.reverse {vs : List V} {ds : List D} (h : Reps mg K F ρ vs ds) : Reps mg K F ρ vs.reverse ds.reverse := by
  induction vs generalizing ds with
  | nil => cases h; exact .nil
  | cons v vs ih =>
    cases h with
    | cons h1 h2 =>
      rw [List.reverse_cons, List.reverse_cons]
      exact Reps.append (ih h2) (.cons h1 .nil)
theorem Reps.eraseIdx : ∀ {vs : List V} {ds : List D} (n : Nat), Reps mg K F ρ vs ds → Reps mg K F ρ (vs.eraseIdx n) (ds.eraseIdx n)
  | _, _, _, .nil => .nil
  | _, _, 0, .cons _ t => t
  | _, _, n + 1, .cons r t => .cons r (Reps.eraseIdx n t)
end

/-! ### the objects that may change -/
/-- the object at p, which may change, is d; what it holds is frozen -/
def ORep (mg : Str → Option Value) (K : PySem.W.Frag) (F : Hp) (ρ : List Addr) (H : Hp) (p : Addr) : D → Prop
  | .lst ds => ∃ xs, H p = some (.lst xs) ∧ Reps mg K F ρ xs ds
  | .ins c ns ds => ∃ C dx fs, H p = some (.ins C dx fs) ∧ mg c = some (.ref C) ∧ fs.map (·.1) = ns ∧ Reps mg K F ρ (fs.map (·.2)) ds
  | _ => False
/-- v is d as the heap stands: frozen, or an object that may change -/
def CRep (mg : Str → Option Value) (K : PySem.W.Frag) (F : Hp) (ρ : List Addr) (H : Hp) (v : V) (d : D) : Prop :=
  Rep mg K F ρ v d ∨ ∃ p, v = .ref p ∧ ORep mg K F ρ H p d

section
variable {mg : Str → Option Value} {K : PySem.W.Frag} {F F' H H' : Hp} {ρ ρ' : List Addr} {p : Addr} {d : D} {v : V}
theorem ORep.there (h : ORep mg K F ρ H p d) : ∃ o, H p = some o := by
  cases d <;> try exact h.elim
  · obtain ⟨xs, h, _⟩ := h; exact ⟨_, h⟩
  · obtain ⟨C, dx, fs, h, _⟩ := h; exact ⟨_, h⟩
theorem ORep.mono (e : Same F F') (q : ∃ t, ρ' = ρ ++ t) (hp : ∀ o, H p = some o → H' p = some o) (h : ORep mg K F ρ H p d) : ORep mg K F' ρ' H' p d := by
  cases d <;> try exact h.elim
  · obtain ⟨xs, h1, h2⟩ := h; exact ⟨xs, hp _ h1, Reps.mono e q _ _ h2⟩
  · obtain ⟨C, dx, fs, h1, h2, h3, h4⟩ := h; exact ⟨C, dx, fs, hp _ h1, h2, h3, Reps.mono e q _ _ h4⟩
/-- an object that is frozen from now on -/
theorem ORep.froze (h : ORep mg K F ρ H p d) (n : F p = none) : ∃ o, H p = some o ∧ Rep mg K (upd F p o) ρ (.ref p) d := by
  have e : ∀ o, Same F (upd F p o) := fun o b u q => by rw [upd_ne (ne_of_none q n)]; exact q
  cases d <;> try exact h.elim
  · obtain ⟨xs, h1, h2⟩ := h
    exact ⟨_, h1, .lst upd_same (Reps.mono (e _) ⟨[], by simp⟩ _ _ h2)⟩
  · obtain ⟨C, dx, fs, h1, h2, h3, h4⟩ := h
    exact ⟨_, h1, .ins upd_same h2 h3 (Reps.mono (e _) ⟨[], by simp⟩ _ _ h4)⟩
theorem CRep.lst {ds : List D} (s : Same F H) (h : CRep mg K F ρ H v (.lst ds)) : ∃ a xs, v = .ref a ∧ H a = some (.lst xs) ∧ Reps mg K F ρ xs ds := by
  rcases h with h | ⟨p, rfl, xs, h1, h2⟩
  · cases h with
    | lst h1 h2 => exact ⟨_, _, rfl, s _ _ h1, h2⟩
  · exact ⟨p, xs, rfl, h1, h2⟩
theorem CRep.klst {ds : List D} (s : Same F H) (h : CRep mg K F ρ H v (.klst ds)) : ∃ a xs, v = .ref a ∧ SqL K H a xs ∧ Reps mg K F ρ xs ds := by
  rcases h with h | ⟨p, rfl, h1⟩
  · cases h with
    | klst h1 h2 => exact ⟨_, _, rfl, s.seq h1, h2⟩
  · exact h1.elim
theorem CRep.tup {ds : List D} (s : Same F H) (h : CRep mg K F ρ H v (.tup ds)) : ∃ a xs, v = .ref a ∧ SqT K H a xs ∧ Reps mg K F ρ xs ds := by
  rcases h with h | ⟨p, rfl, h1⟩
  · cases h with
    | tup h1 h2 => exact ⟨_, _, rfl, sqT_same s h1, h2⟩
  · exact h1.elim
theorem CRep.ins {c : Str} {ns : List Str} {ds : List D} (s : Same F H) (h : CRep mg K F ρ H v (.ins c ns ds)) : ∃ a C dx fs, v = .ref a ∧ H a = some (.ins C dx fs) ∧ mg c = some (.ref C) ∧ fs.map (·.1) = ns ∧ Reps mg K F ρ (fs.map (·.2)) ds := by
  rcases h with h | ⟨p, rfl, C, dx, fs, h1, h2, h3, h4⟩
  · cases h with
    | ins h1 h2 h3 h4 => exact ⟨_, _, _, _, rfl, s _ _ h1, h2, h3, h4⟩
  · exact ⟨p, C, dx, fs, rfl, h1, h2, h3, h4⟩
theorem CRep.int {i : Int} (h : CRep mg K F ρ H v (.int i)) : v = .int i := by
  rcases h with h | ⟨p, rfl, h1⟩
  · cases h; rfl
  · exact h1.elim
theorem CRep.bl {i : Bool} (h : CRep mg K F ρ H v (.bl i)) : v = .bl i := by
  rcases h with h | ⟨p, rfl, h1⟩
  · cases h; rfl
  · exact h1.elim
theorem CRep.str {i : Str} (h : CRep mg K F ρ H v (.str i)) : v = .str i := by
  rcases h with h | ⟨p, rfl, h1⟩
  · cases h; rfl
  · exact h1.elim
theorem CRep.non (h : CRep mg K F ρ H v .non) : v = .non := by
  rcases h with h | ⟨p, rfl, h1⟩
  · cases h; rfl
  · exact h1.elim
theorem CRep.ty {n : String} (h : CRep mg K F ρ H v (.ty n)) : v = .ty n := by
  rcases h with h | ⟨p, rfl, h1⟩
  · cases h; rfl
  · exact h1.elim
theorem CRep.fn {x : Str} (h : CRep mg K F ρ H v (.fn x)) : ∃ a, v = .ref a ∧ mg x = some (.ref a) := by
  rcases h with h | ⟨p, rfl, h1⟩
  · cases h with
    | fn h1 => exact ⟨_, rfl, h1⟩
  · exact h1.elim
end

/-! ### the state of a body -/
/-- a slot: a value; a list or instance of which no one else knows -/
inductive SD where
  | val (d : D) | own (d : D)
structure DSt where
  sl : List (Option SD)
  ce : List D
/-- a result: a value; the name in a slot; a new list or instance of which no one else knows -/
inductive RV where
  | val (d : D) | slot (i : Nat) | fresh (d : D)
/-- the entry: the heap, what was frozen, the cells -/
structure Bs where
  H0 : Hp
  F0 : Hp
  cs : List Addr
/-- what is frozen, the cells, which slot owns what -/
structure Gh where
  F : Hp
  ρ : List Addr
  ow : Addr → Option Nat
structure Gh.le (G G' : Gh) : Prop where
  F : Same G.F G'.F
  ρ : ∃ t, G'.ρ = G.ρ ++ t
theorem Gh.le.refl (G : Gh) : G.le G := ⟨Same.refl _, [], by simp⟩
theorem Gh.le.trans {G G1 G2 : Gh} (a : G.le G1) (b : G1.le G2) : G.le G2 := ⟨a.F.trans b.F, by
  obtain ⟨t, e⟩ := a.ρ
  obtain ⟨u, e'⟩ := b.ρ
  exact ⟨t ++ u, by rw [e', e, List.append_assoc]⟩⟩

structure Rl (mg : Str → Option Value) (K : PySem.W.Frag) (B : Bs) (G : Gh) (δ : DSt) (σ : L2.St) (H : Hp) : Prop where
  sub : Same G.F H
  fow : ∀ (p : Addr) (i : Nat), G.ow p = some i → G.F p = none
  foc : ∀ p ∈ G.ρ, G.F p = none
  oc : ∀ (p : Addr) (i : Nat), G.ow p = some i → p ∉ G.ρ
  nd : G.ρ.Nodup
  oh : ∀ p i, G.ow p = some i → H p ≠ none
  ch : ∀ p ∈ G.ρ, H p ≠ none
  sv : ∀ (i : Nat) (d : D), δ.sl[i]? = some (some (SD.val d)) → ∃ v, σ[i]? = some (some v) ∧ Rep mg K G.F G.ρ v d
  so : ∀ (i : Nat) (d : D), δ.sl[i]? = some (some (SD.own d)) → ∃ p, σ[i]? = some (some (.ref p)) ∧ G.ow p = some i ∧ ORep mg K G.F G.ρ H p d
  sl : δ.sl.length = σ.length
  ce : ∀ (k : Nat) (d : D), δ.ce[k]? = some d → ∃ p, G.ρ[k]? = some p ∧ ORep mg K G.F G.ρ H p d
  cl : δ.ce.length = G.ρ.length
  fr : ∀ b o, B.H0 b = some o → b ∉ B.cs → H b = some o
  dom : ∀ b, H b = none → B.H0 b = none
  new : ∀ p i, G.ow p = some i → B.H0 p = none
  fnew : ∀ b o, B.H0 b = some o → G.F b = B.F0 b
  pre : ∃ t, G.ρ = B.cs ++ t ∧ ∀ p ∈ t, B.H0 p = none

def RvOk (mg : Str → Option Value) (K : PySem.W.Frag) (B : Bs) (G : Gh) (σ : L2.St) (H : Hp) : RV → V → Prop
  | .val d, v => Rep mg K G.F G.ρ v d
  | .slot i, v => σ[i]? = some (some v)
  | .fresh d, v => ∃ p, v = .ref p ∧ G.F p = none ∧ G.ow p = none ∧ p ∉ G.ρ ∧ B.H0 p = none ∧ ORep mg K G.F G.ρ H p d

/-- what a value is when it is read -/
def rdD (δ : DSt) : D → Option D
  | .cell k => δ.ce[k]?
  | d => some d
def RV.rd (δ : DSt) : RV → Option D
  | .val d => rdD δ d
  | .slot i => match δ.sl[i]? with
    | some (some (SD.val d)) => rdD δ d
    | some (some (SD.own d)) => some d
    | _ => none
  | .fresh d => some d
/-- what a value is when it is kept -/
def RV.keep (δ : DSt) : RV → Option D
  | .val d => some d
  | .slot i => match δ.sl[i]? with
    | some (some (SD.val d)) => some d
    | _ => none
  | .fresh d => some d
/-- no more alone -/
def RV.pin : RV → RV
  | .fresh d => .val d
  | r => r

section
variable {mg : Str → Option Value} {K : PySem.W.Frag} {B : Bs} {G G' : Gh} {δ : DSt} {σ : L2.St} {H H' : Hp} {p : Addr} {o : HO} {d : D} {v : V} {r : RV}
theorem Rl.rdD (R : Rl mg K B G δ σ H) (h : Rep mg K G.F G.ρ v d) {e : D} (q : rdD δ d = some e) : CRep mg K G.F G.ρ H v e := by
  cases d with
  | cell k =>
    obtain ⟨p, h1, h2⟩ := R.ce k e q
    cases h with
    | cell h3 =>
      rw [h1] at h3; cases h3
      exact .inr ⟨_, rfl, h2⟩
  | _ => cases q; exact .inl h
theorem Rl.rd (R : Rl mg K B G δ σ H) (h : RvOk mg K B G σ H r v) (q : r.rd δ = some d) : CRep mg K G.F G.ρ H v d := by
  cases r with
  | val d' => exact R.rdD h q
  | slot i =>
    simp only [RV.rd] at q
    split at q
    · rename_i d' e
      obtain ⟨v', h1, h2⟩ := R.sv i d' e
      have h' : σ[i]? = some (some v) := h
      rw [h1] at h'; cases h'
      exact R.rdD h2 q
    · rename_i d' e
      obtain ⟨p, h1, _, h2⟩ := R.so i d' e
      have h' : σ[i]? = some (some v) := h
      rw [h1] at h'; cases h'
      cases q
      exact .inr ⟨_, rfl, h2⟩
    · cases q
  | fresh d' =>
    obtain ⟨p, e, _, _, _, _, h2⟩ := h
    cases q
    exact .inr ⟨p, e, h2⟩
theorem RvOk.mono (h : RvOk mg K B G σ H r.pin v) (l : G.le G') : RvOk mg K B G' σ H' r.pin v := by
  cases r with
  | val d => exact Rep.mono l.F l.ρ _ _ h
  | slot i => exact h
  | fresh d => exact Rep.mono l.F l.ρ _ _ h
/-- one more object is frozen: one that stands alone -/
theorem Rl.freeze (R : Rl mg K B G δ σ H) (hf : G.F p = none) (ho : G.ow p = none) (hc : p ∉ G.ρ) (h0 : B.H0 p = none) (hp : H p = some o) : G.le { G with F := upd G.F p o } ∧ Rl mg K B { G with F := upd G.F p o } δ σ H := by
  have e : Same G.F (upd G.F p o) := fun b u q => by rw [upd_ne (ne_of_none q hf)]; exact q
  have le : G.le { G with F := upd G.F p o } := ⟨e, [], by simp⟩
  refine ⟨le, ?_⟩
  exact {
    sub := fun b u q => by
      have q : upd G.F p o b = some u := q
      by_cases hb : b = p
      · subst hb; rw [upd_same] at q; cases q; exact hp
      · rw [upd_ne hb] at q; exact R.sub b u q
    fow := fun b i q => by
      have hb : b ≠ p := fun z => by subst z; rw [ho] at q; cases q
      show upd G.F p o b = none
      rw [upd_ne hb]; exact R.fow b i q
    foc := fun b q => by
      have hb : b ≠ p := fun z => by subst z; exact hc q
      show upd G.F p o b = none
      rw [upd_ne hb]; exact R.foc b q
    oc := R.oc, nd := R.nd, oh := R.oh, ch := R.ch
    sv := fun i d q => let ⟨v, h1, h2⟩ := R.sv i d q; ⟨v, h1, Rep.mono le.F le.ρ _ _ h2⟩
    so := fun i d q => let ⟨a, h1, h2, h3⟩ := R.so i d q; ⟨a, h1, h2, h3.mono le.F le.ρ fun _ z => z⟩
    sl := R.sl
    ce := fun k d q => let ⟨a, h1, h2⟩ := R.ce k d q; ⟨a, h1, h2.mono le.F le.ρ fun _ z => z⟩
    cl := R.cl, fr := R.fr, dom := R.dom, new := R.new
    fnew := fun b u q => by
      have hb : b ≠ p := fun z => by subst z; rw [h0] at q; cases q
      show upd G.F p o b = _
      rw [upd_ne hb]; exact R.fnew b u q
    pre := R.pre }
/-- a result is kept -/
theorem Rl.keep (R : Rl mg K B G δ σ H) (h : RvOk mg K B G σ H r v) (q : r.keep δ = some d) : ∃ G', G.le G' ∧ Rl mg K B G' δ σ H ∧ Rep mg K G'.F G'.ρ v d := by
  cases r with
  | val d' => cases q; exact ⟨G, .refl G, R, h⟩
  | slot i =>
    simp only [RV.keep] at q
    split at q
    · rename_i d' e
      obtain ⟨v', h1, h2⟩ := R.sv i d' e
      have h' : σ[i]? = some (some v) := h
      rw [h1] at h'; cases h'; cases q
      exact ⟨G, .refl G, R, h2⟩
    · cases q
  | fresh d' =>
    obtain ⟨p, e, h1, h2, h3, h4, h5⟩ := h
    cases q; subst e
    obtain ⟨o, ho, hr⟩ := h5.froze h1
    obtain ⟨l, R'⟩ := R.freeze h1 h2 h3 h4 ho
    exact ⟨_, l, R', hr⟩
/-- .. stays as an operand -/
theorem Rl.pin (R : Rl mg K B G δ σ H) (h : RvOk mg K B G σ H r v) : ∃ G', G.le G' ∧ Rl mg K B G' δ σ H ∧ RvOk mg K B G' σ H r.pin v := by
  cases r with
  | val d' => exact ⟨G, .refl G, R, h⟩
  | slot i => exact ⟨G, .refl G, R, h⟩
  | fresh d' => exact R.keep (r := .fresh d') h rfl
/-- the heap has one object more -/
theorem Rl.push (R : Rl mg K B G δ σ H) (hp : H p = none) : Rl mg K B G δ σ (upd H p o) ∧ G.F p = none ∧ G.ow p = none ∧ p ∉ G.ρ ∧ B.H0 p = none := by
  have e : ∀ b u, H b = some u → upd H p o b = some u := fun b u q => by rw [upd_ne (ne_of_none q hp)]; exact q
  have e2 : ∀ b, H b ≠ none → upd H p o b ≠ none := fun b q z => by
    by_cases hb : b = p
    · subst hb; rw [upd_same] at z; cases z
    · rw [upd_ne hb] at z; exact q z
  refine ⟨{ sub := fun b u q => e b u (R.sub b u q), fow := R.fow, foc := R.foc, oc := R.oc, nd := R.nd
            oh := fun b i q => e2 b (R.oh b i q), ch := fun b q => e2 b (R.ch b q), sv := R.sv
            so := fun i d q => let ⟨a, h1, h2, h3⟩ := R.so i d q; ⟨a, h1, h2, h3.mono (Same.refl _) ⟨[], by simp⟩ (e a)⟩
            sl := R.sl
            ce := fun k d q => let ⟨a, h1, h2⟩ := R.ce k d q; ⟨a, h1, h2.mono (Same.refl _) ⟨[], by simp⟩ (e a)⟩
            cl := R.cl, fr := fun b u q n => e b u (R.fr b u q n)
            dom := fun b q => R.dom b (by
              by_cases hb : b = p
              · subst hb; exact hp
              · rw [upd_ne hb] at q; exact q)
            new := R.new, fnew := R.fnew, pre := R.pre }, ?_, ?_, ?_, R.dom p hp⟩
  · cases q : G.F p with
    | none => rfl
    | some u => have := R.sub p u q; rw [hp] at this; cases this
  · cases q : G.ow p with
    | none => rfl
    | some u => exact absurd hp (R.oh p u q)
  · exact fun q => R.ch p q hp
theorem Rl.push_lst {xs : List V} {ds : List D} (R : Rl mg K B G δ σ H) (hp : H p = none) (h : Reps mg K G.F G.ρ xs ds) : Rl mg K B G δ σ (upd H p (.lst xs)) ∧ RvOk mg K B G σ (upd H p (.lst xs)) (.fresh (.lst ds)) (.ref p) := by
  obtain ⟨R', h1, h2, h3, h4⟩ := R.push (o := .lst xs) hp
  exact ⟨R', p, rfl, h1, h2, h3, h4, xs, upd_same, h⟩
theorem Rl.push_tup {xs : List V} {ds : List D} (R : Rl mg K B G δ σ H) (hp : H p = none) (h : Reps mg K G.F G.ρ xs ds) : ∃ G', G.le G' ∧ Rl mg K B G' δ σ (upd H p (.tup xs)) ∧ RvOk mg K B G' σ (upd H p (.tup xs)) (.val (.tup ds)) (.ref p) := by
  obtain ⟨R', h1, h2, h3, h4⟩ := R.push (o := .tup xs) hp
  obtain ⟨l, R2⟩ := R'.freeze h1 h2 h3 h4 upd_same
  exact ⟨_, l, R2, .tup (.of upd_same) (Reps.mono l.F l.ρ _ _ h)⟩
end
end EV
set_option Elab.async false
set_option linter.all false
set_option maxRecDepth 100000
/-! EV 2: expressions -/
namespace EV
open PySem L2

abbrev DE := DSt → Option (RV × DSt)
abbrev DT := DSt → Option (Bool × DSt)
abbrev DA := DSt → Option (List RV × DSt)

/-! ### the readings that say just what the model does -/
def tE (X : Cx) (e : Expr) : TE := fun σ H Q => ∀ pins s, Inv X pins σ H s → wpAny (model X.prog X.w) X.A (eval e X.env) (EP X pins σ Q) X.xe s
def tT (X : Cx) (e : Expr) : TT := fun σ H Q => ∀ pins s, Inv X pins σ H s → wpAny (model X.prog X.w) X.A (isTrue e X.env (eval e X.env)) (TP X pins σ Q) X.xe s
def tW (X : Cx) (e : Expr) : TT := fun σ H Q => ∀ whole pins s, Inv X pins σ H s → wpAny (model X.prog X.w) X.A (isTrue e X.env whole) (TP X pins σ Q) X.xe s
def tA (X : Cx) (es : List Expr) : TA := fun σ H Q => ∀ pos pins s, Inv X pins σ H s → wpAny (model X.prog X.w) X.A (spliced (backTo pos (starEach es X.env))) (AP X pins σ Q) X.xe s
section
variable {X : Cx} {e : Expr} {es : List Expr} {σ : L2.St} {H : Hp}
theorem pe_tE (X : Cx) (e : Expr) : PE X e (tE X e) := ⟨fun pins s _ _ _ I q => q pins s I⟩
theorem pt_tT (X : Cx) (e : Expr) : PT X e (tT X e) := ⟨fun pins s _ _ _ I q => q pins s I⟩
theorem pw_tW (X : Cx) (e : Expr) : PW X e (tW X e) := ⟨fun wh pins s _ _ _ I q => q wh pins s I⟩
theorem pa_tA (X : Cx) (es : List Expr) : PA X es (tA X es) := ⟨fun pos pins s _ _ _ I q => q pos pins s I⟩
theorem tE_of {t : TE} {Q : VK} (h : PE X e t) (q : t σ H Q) : tE X e σ H Q := fun pins s I => h.run pins s σ H Q I q
theorem tT_of {t : TT} {Q : Bool → Hp → Prop} (h : PT X e t) (q : t σ H Q) : tT X e σ H Q := fun pins s I => h.run pins s σ H Q I q
theorem tW_of {t : TT} {Q : Bool → Hp → Prop} (h : PW X e t) (q : t σ H Q) : tW X e σ H Q := fun wh pins s I => h.run wh pins s σ H Q I q
theorem tA_of {t : TA} {Q : List V → Hp → Prop} (h : PA X es t) (q : t σ H Q) : tA X es σ H Q := fun pos pins s I => h.run pos pins s σ H Q I q
end

/-- what is wanted of a result -/
abbrev Ct (mg : Str → Option Value) (K : PySem.W.Frag) (B : Bs) (G : Gh) (δ : DSt) (σ : L2.St) (r : RV) (Q : VK) : Prop :=
  ∀ (G' : Gh) (v : V) (H' : Hp), G.le G' → Rl mg K B G' δ σ H' → RvOk mg K B G' σ H' r v → Q v H'
def Snd (X : Cx) (e : Expr) (f : DE) : Prop := ∀ (B : Bs) (G : Gh) (δ : DSt) (r : RV) (δ' : DSt) (σ : L2.St) (H : Hp) (Q : VK), f δ = some (r, δ') → Rl X.mg X.K B G δ σ H → Ct X.mg X.K B G δ' σ r Q → tE X e σ H Q
def SndT (X : Cx) (e : Expr) (f : DT) : Prop := ∀ (B : Bs) (G : Gh) (δ : DSt) (b : Bool) (δ' : DSt) (σ : L2.St) (H : Hp) (Q : Bool → Hp → Prop), f δ = some (b, δ') → Rl X.mg X.K B G δ σ H →
  (∀ (G' : Gh) (H' : Hp), G.le G' → Rl X.mg X.K B G' δ' σ H' → Q b H') → tT X e σ H Q
def SndW (X : Cx) (e : Expr) (f : DT) : Prop := ∀ (B : Bs) (G : Gh) (δ : DSt) (b : Bool) (δ' : DSt) (σ : L2.St) (H : Hp) (Q : Bool → Hp → Prop), f δ = some (b, δ') → Rl X.mg X.K B G δ σ H →
  (∀ (G' : Gh) (H' : Hp), G.le G' → Rl X.mg X.K B G' δ' σ H' → Q b H') → tW X e σ H Q
/-- the results of several expressions, none of them alone any more -/
inductive RvOks (mg : Str → Option Value) (K : PySem.W.Frag) (B : Bs) (G : Gh) (σ : L2.St) (H : Hp) : List RV → List V → Prop
  | nil : RvOks mg K B G σ H [] []
  | cons {r : RV} {rs : List RV} {v : V} {vs : List V} : RvOk mg K B G σ H r.pin v → RvOks mg K B G σ H rs vs → RvOks mg K B G σ H (r :: rs) (v :: vs)
def SndA (X : Cx) (es : List Expr) (f : DA) : Prop := ∀ (B : Bs) (G : Gh) (δ : DSt) (rs : List RV) (δ' : DSt) (σ : L2.St) (H : Hp) (Q : List V → Hp → Prop), f δ = some (rs, δ') → Rl X.mg X.K B G δ σ H →
  (∀ (G' : Gh) (vs : List V) (H' : Hp), G.le G' → Rl X.mg X.K B G' δ' σ H' → RvOks X.mg X.K B G' σ H' rs vs → Q vs H') → tA X es σ H Q

theorem bnd {α β : Type} {o : Option α} {f : α → Option β} {c : β} (h : o.bind f = some c) : ∃ a, o = some a ∧ f a = some c := Option.bind_eq_some_iff.mp h

section
variable {mg : Str → Option Value} {K : PySem.W.Frag} {B : Bs} {G G' : Gh} {δ : DSt} {σ : L2.St} {H H' : Hp} {rs : List RV} {vs : List V}
theorem RvOks.mono (l : G.le G') : ∀ {rs : List RV} {vs : List V}, RvOks mg K B G σ H rs vs → RvOks mg K B G' σ H' rs vs
  | _, _, .nil => .nil
  | _, _, .cons a b => .cons (a.mono l) (RvOks.mono l b)
theorem pin_pin (r : RV) : r.pin.pin = r.pin := by cases r <;> rfl
/-- all of them read -/
def rdAll (δ : DSt) : List RV → Option (List D)
  | [] => some []
  | r :: rs => (r.pin.rd δ).bind fun d => (rdAll δ rs).map (d :: ·)
/-- all of them kept -/
def keepAll (δ : DSt) : List RV → Option (List D)
  | [] => some []
  | r :: rs => (r.pin.keep δ).bind fun d => (keepAll δ rs).map (d :: ·)
inductive CReps (mg : Str → Option Value) (K : PySem.W.Frag) (F : Hp) (ρ : List Addr) (H : Hp) : List V → List D → Prop
  | nil : CReps mg K F ρ H [] []
  | cons {v : V} {vs : List V} {d : D} {ds : List D} : CRep mg K F ρ H v d → CReps mg K F ρ H vs ds → CReps mg K F ρ H (v :: vs) (d :: ds)
theorem Rl.rdAll (R : Rl mg K B G δ σ H) : ∀ {rs : List RV} {vs : List V} {ds : List D}, RvOks mg K B G σ H rs vs → rdAll δ rs = some ds → CReps mg K G.F G.ρ H vs ds
  | _, _, _, .nil, h => by cases h; exact .nil
  | _, _, _, .cons a b, h => by
    obtain ⟨d, h1, h2⟩ := bnd h
    obtain ⟨ds, h3, h4⟩ := Option.map_eq_some_iff.mp h2
    subst h4
    exact .cons (R.rd a h1) (R.rdAll b h3)
theorem Rl.keepPin {r : RV} {v : V} {d : D} (R : Rl mg K B G δ σ H) (h : RvOk mg K B G σ H r.pin v) (q : r.pin.keep δ = some d) : Rep mg K G.F G.ρ v d := by
  cases r with
  | val d' => cases q; exact h
  | slot i =>
    simp only [RV.keep, RV.pin] at q
    split at q
    · rename_i d' e
      obtain ⟨v', h1, h2⟩ := R.sv i d' e
      have h' : σ[i]? = some (some v) := h
      rw [h1] at h'; cases h'; cases q
      exact h2
    · cases q
  | fresh d' => cases q; exact h
theorem Rl.keepAll (R : Rl mg K B G δ σ H) : ∀ {rs : List RV} {vs : List V} {ds : List D}, RvOks mg K B G σ H rs vs → keepAll δ rs = some ds → Reps mg K G.F G.ρ vs ds
  | _, _, _, .nil, h => by cases h; exact .nil
  | _, _, _, .cons a b, h => by
    obtain ⟨d, h1, h2⟩ := bnd h
    obtain ⟨ds, h3, h4⟩ := Option.map_eq_some_iff.mp h2
    subst h4
    exact .cons (R.keepPin a h1) (R.keepAll b h3)
end

section
variable {X : Cx} {e a b c : Expr} {es : List Expr} {fa fb fc : DE} {f : DE} {ft fu : DT} {fas : DA} {pos p : Pos}
/-! ### names, constants -/
def dVar (i : Nat) : DE := fun δ => match δ.sl[i]? with
  | some (some _) => some (.slot i, δ)
  | _ => none
theorem snd_var {i : Nat} {x : Str} (hN : X.N[i]? = some x) (hv : Vis X.env.scope x) (hd : (x == ("__debug__" : Str)) = false) (hcd : (x == ("__classdict__" : Str)) = false) : Snd X (.Name x pos) (dVar i) := by
  intro B G δ r δ' σ H Q h R k
  simp only [dVar] at h
  split at h
  · rename_i sd e
    cases h
    obtain ⟨v, hv'⟩ : ∃ v, σ[i]? = some (some v) := by
      cases sd with
      | val d => obtain ⟨v, h1, _⟩ := R.sv i d e; exact ⟨v, h1⟩
      | own d => obtain ⟨p, h1, _⟩ := R.so i d e; exact ⟨_, h1⟩
    exact tE_of (pe_var hN hv hd hcd) ⟨v, hv', k G v H (.refl G) R hv'⟩
  · cases h
def dC (d : D) : DE := fun δ => some (.val d, δ)
theorem snd_c {v : V} {d : D} (h : PE X e (tC v)) (r : ∀ F ρ, Rep X.mg X.K F ρ v d) : Snd X e (dC d) := by
  intro B G δ r' δ' σ H Q h' R k
  cases h'
  exact tE_of h (k G v H (.refl G) R (r _ _))
theorem snd_int {i : Int} {j : Nat} : Snd X (.Constant (.int i) j pos) (dC (.int i)) := snd_c pe_int fun _ _ => .int i
theorem snd_bl {i : Bool} {j : Nat} : Snd X (.Constant (.bool i) j pos) (dC (.bl i)) := snd_c pe_bl fun _ _ => .bl i
theorem snd_str {i : Str} {j : Nat} : Snd X (.Constant (.str i) j pos) (dC (.str i)) := snd_c pe_str fun _ _ => .str i
theorem snd_non {j : Nat} : Snd X (.Constant .none j pos) (dC .non) := snd_c pe_non fun _ _ => .non
/-- a constant of the module -/
theorem snd_globI {x : Str} {i : Int} (hg : Gl X x) (hm : ∃ t, X.mg x = some (.int i t)) (hd : (x == ("__debug__" : Str)) = false) : Snd X (.Name x pos) (dC (.int i)) := by
  obtain ⟨t, hm⟩ := hm
  exact snd_c (v := .int i) (pe_glob hg hm ⟨t, rfl⟩ hd) fun _ _ => .int i
theorem snd_globS {x y : Str} (hg : Gl X x) (hm : ∃ t, X.mg x = some (.str y t)) (hd : (x == ("__debug__" : Str)) = false) : Snd X (.Name x pos) (dC (.str y)) := by
  obtain ⟨t, hm⟩ := hm
  exact snd_c (v := .str y) (pe_glob hg hm ⟨t, rfl⟩ hd) fun _ _ => .str y
theorem snd_globF {x : Str} (hg : Gl X x) (hm : ∃ f, X.mg x = some (.ref f)) (hd : (x == ("__debug__" : Str)) = false) : Snd X (.Name x pos) (dC (.fn x)) := by
  obtain ⟨f, hm⟩ := hm
  exact snd_c (v := .ref f) (pe_glob hg hm rfl hd) fun _ _ => .fn hm
theorem snd_ty {x : Str} {n : String} (hg : Gl X x) (hm : X.mg x = none) (hv : bootBuiltins x = some (.type n)) (hn : x ≠ "__name__") (hd : (x == ("__debug__" : Str)) = false) : Snd X (.Name x pos) (dC (.ty n)) :=
  snd_c (v := .ty n) (pe_bltn hg hm hv rfl hn hd) fun _ _ => .ty n

/-! ### operators -/
def OpD (mg : Str → Option Value) (K : PySem.W.Frag) (r2 : R2) (g : D → D → Option RV) : Prop :=
  ∀ (B : Bs) (G : Gh) (δ : DSt) (σ : L2.St) (H : Hp) (x y : D) (vx vy : V) (r : RV) (Q : VK), g x y = some r → Rl mg K B G δ σ H → CRep mg K G.F G.ρ H vx x → CRep mg K G.F G.ρ H vy y → Ct mg K B G δ σ r Q → r2 vx vy H Q
def dBin (g : D → D → Option RV) (fa fb : DE) : DE := fun δ => (fa δ).bind fun p => (fb p.2).bind fun q => (p.1.pin.rd q.2).bind fun x => (q.1.pin.rd q.2).bind fun y => (g x y).map fun r => (r, q.2)
theorem bin_run {g : D → D → Option RV} {r2 : R2} (hg : OpD X.mg X.K r2 g) (ha : Snd X a fa) (hb : Snd X b fb) {B : Bs} {G : Gh} {δ δ' : DSt} {r : RV} {σ : L2.St} {H : Hp} {Q : VK} (h : dBin g fa fb δ = some (r, δ')) (R : Rl X.mg X.K B G δ σ H)
    (k : Ct X.mg X.K B G δ' σ r Q) : tOp r2 (tE X a) (tE X b) σ H Q := by
  obtain ⟨⟨ra, δ1⟩, e1, h⟩ := bnd h
  obtain ⟨⟨rb, δ2⟩, e2, h⟩ := bnd h
  obtain ⟨x, e3, h⟩ := bnd h
  obtain ⟨y, e4, h⟩ := bnd h
  obtain ⟨r', e5, h⟩ := Option.map_eq_some_iff.mp h
  cases h
  refine ha B G δ ra δ1 σ H _ e1 R fun G1 va H1 l1 R1 o1 => ?_
  obtain ⟨G1', l1', R1', o1'⟩ := R1.pin o1
  refine hb B G1' δ1 rb δ2 σ H1 _ e2 R1' fun G2 vb H2 l2 R2 o2 => ?_
  obtain ⟨G2', l2', R2', o2'⟩ := R2.pin o2
  exact hg B G2' δ2 σ H2 x y va vb r Q e5 R2' (R2'.rd (o1'.mono (l2.trans l2')) e3) (R2'.rd o2' e4) fun G3 v H3 l3 R3 o3 => k G3 v H3 (((l1.trans l1').trans (l2.trans l2')).trans l3) R3 o3
theorem snd_bin {op : Operator} {g : D → D → Option RV} {r2 : R2} (ho : OpR X (binaryOp op) r2) (hg : OpD X.mg X.K r2 g) (ha : Snd X a fa) (hb : Snd X b fb) : Snd X (.BinOp a op b pos) (dBin g fa fb) :=
  fun B G δ r δ' σ H Q h R k => tE_of (pe_op ho (pe_tE X a) (pe_tE X b)) (bin_run hg ha hb h R k)
theorem snd_cmp {op : CmpOp} {g : D → D → Option RV} {r2 : R2} (ho : OpR X (compareOp op) r2) (hg : OpD X.mg X.K r2 g) (ha : Snd X a fa) (hb : Snd X b fb) (hm : behindInMarks op b = false) : Snd X (.Compare a [op] [b] pos) (dBin g fa fb) :=
  fun B G δ r δ' σ H Q h R k => tE_of (pe_cmpR ho (pe_tE X a) (pe_tE X b) hm) (bin_run hg ha hb h R k)
/-- a value that is a bool, as a test -/
def dTst (f : DE) : DT := fun δ => (f δ).bind fun p => match p.1 with
  | .val (.bl b) => some (b, p.2)
  | _ => none
theorem sndt_cmp {op : CmpOp} {g : D → D → Option RV} {r2 : R2} (ho : OpR X (compareOp op) r2) (hg : OpD X.mg X.K r2 g) (ha : Snd X a fa) (hb : Snd X b fb) (hm : behindInMarks op b = false) : SndT X (.Compare a [op] [b] pos) (dTst (dBin g fa fb)) := by
  intro B G δ b' δ' σ H Q h R k
  obtain ⟨⟨r, δ1⟩, e1, h⟩ := bnd h
  refine tT_of (pt_cmpR ho (pe_tE X a) (pe_tE X b) hm) ?_
  split at h
  · rename_i bb q
    cases h
    have q : r = .val (.bl b') := q
    subst q
    exact bin_run hg ha hb e1 R fun G' v H' l R' o => by
      have o' : Rep X.mg X.K G'.F G'.ρ v (.bl b') := o
      cases o'
      exact ⟨b', rfl, k G' H' l R'⟩
  · cases h
/-- a ? b ? c -/
def dChain (g g' : D → D → Option RV) (fa fb fc : DE) : DE := fun δ => (fa δ).bind fun p => (fb p.2).bind fun q => (p.1.pin.rd q.2).bind fun x => (q.1.pin.rd q.2).bind fun y => (g x y).bind fun r => match r with
  | .val (.bl true) => (fc q.2).bind fun u => (q.1.pin.rd u.2).bind fun y => (u.1.pin.rd u.2).bind fun z => (g' y z).map fun r => (r, u.2)
  | .val (.bl false) => some (.val (.bl false), q.2)
  | _ => none
theorem chain_run {g g' : D → D → Option RV} {r2 r2' : R2} (hg : OpD X.mg X.K r2 g) (hg' : OpD X.mg X.K r2' g') (ha : Snd X a fa) (hb : Snd X b fb) (hc : Snd X c fc) {B : Bs} {G : Gh} {δ δ' : DSt} {r : RV} {σ : L2.St} {H : Hp} {Q : VK} (h : dChain g g' fa fb fc δ = some (r, δ')) (R : Rl X.mg X.K B G δ σ H)
    (k : Ct X.mg X.K B G δ' σ r Q) : tChain r2 r2' (tE X a) (tE X b) (tE X c) σ H Q := by
  obtain ⟨⟨ra, δ1⟩, e1, h⟩ := bnd h
  obtain ⟨⟨rb, δ2⟩, e2, h⟩ := bnd h
  obtain ⟨x, e3, h⟩ := bnd h
  obtain ⟨y, e4, h⟩ := bnd h
  obtain ⟨r', e5, h⟩ := bnd h
  refine ha B G δ ra δ1 σ H _ e1 R fun G1 va H1 l1 R1 o1 => ?_
  obtain ⟨G1', l1', R1', o1'⟩ := R1.pin o1
  refine hb B G1' δ1 rb δ2 σ H1 _ e2 R1' fun G2 vb H2 l2 R2 o2 => ?_
  obtain ⟨G2', l2', R2', o2'⟩ := R2.pin o2
  have lle := (l1.trans l1').trans (l2.trans l2')
  refine hg B G2' δ2 σ H2 x y va vb r' _ e5 R2' (R2'.rd (o1'.mono (l2.trans l2')) e3) (R2'.rd o2' e4) fun G3 v H3 l3 R3 o3 => ?_
  split at h
  · have o' : Rep X.mg X.K G3.F G3.ρ v (.bl true) := o3
    cases o'
    obtain ⟨⟨rc, δ3⟩, e6, h⟩ := bnd h
    obtain ⟨y', e7, h⟩ := bnd h
    obtain ⟨z, e8, h⟩ := bnd h
    obtain ⟨r3, e9, h⟩ := Option.map_eq_some_iff.mp h
    cases h
    refine ⟨true, rfl, ?_⟩
    show tE X c σ H3 _
    refine hc B G3 δ2 rc δ3 σ H3 _ e6 R3 fun G4 vc H4 l4 R4 o4 => ?_
    obtain ⟨G4', l4', R4', o4'⟩ := R4.pin o4
    exact hg' B G4' δ3 σ H4 y' z vb vc r Q e9 R4' (R4'.rd (o2'.mono (l3.trans (l4.trans l4'))) e7) (R4'.rd o4' e8) fun G5 v H5 l5 R5 o5 => k G5 v H5 ((lle.trans l3).trans ((l4.trans l4').trans l5)) R5 o5
  · have o' : Rep X.mg X.K G3.F G3.ρ v (.bl false) := o3
    cases o'
    cases h
    refine ⟨false, rfl, ?_⟩
    show Q (.bl false) H3
    exact k G3 _ H3 (lle.trans l3) R3 (.bl false)
  · cases h
theorem snd_chain {op op' : CmpOp} {g g' : D → D → Option RV} {r2 r2' : R2} (ho : OpR X (compareOp op) r2) (ho' : OpR X (compareOp op') r2') (hg : OpD X.mg X.K r2 g) (hg' : OpD X.mg X.K r2' g') (ha : Snd X a fa) (hb : Snd X b fb) (hc : Snd X c fc)
    (hm : lastMarks [op, op'] [b, c] = false) : Snd X (.Compare a [op, op'] [b, c] pos) (dChain g g' fa fb fc) :=
  fun B G δ r δ' σ H Q h R k => tE_of (pe_chain ho ho' (pe_tE X a) (pe_tE X b) (pe_tE X c) hm) (chain_run hg hg' ha hb hc h R k)
theorem sndt_chain {op op' : CmpOp} {g g' : D → D → Option RV} {r2 r2' : R2} (ho : OpR X (compareOp op) r2) (ho' : OpR X (compareOp op') r2') (hg : OpD X.mg X.K r2 g) (hg' : OpD X.mg X.K r2' g') (ha : Snd X a fa) (hb : Snd X b fb) (hc : Snd X c fc)
    (hm : lastMarks [op, op'] [b, c] = false) : SndT X (.Compare a [op, op'] [b, c] pos) (dTst (dChain g g' fa fb fc)) := by
  intro B G δ b' δ' σ H Q h R k
  obtain ⟨⟨r, δ1⟩, e1, h⟩ := bnd h
  refine tT_of (pt_chain ho ho' (pe_tE X a) (pe_tE X b) (pe_tE X c) hm) ?_
  split at h
  · rename_i bb q
    cases h
    have q : r = .val (.bl b') := q
    subst q
    exact chain_run hg hg' ha hb hc e1 R fun G' v H' l R' o => by
      have o' : Rep X.mg X.K G'.F G'.ρ v (.bl b') := o
      cases o'
      exact ⟨b', rfl, k G' H' l R'⟩
  · cases h
def UnD (mg : Str → Option Value) (K : PySem.W.Frag) (r1 : V → Hp → VK → Prop) (g : D → Option RV) : Prop :=
  ∀ (B : Bs) (G : Gh) (δ : DSt) (σ : L2.St) (H : Hp) (x : D) (vx : V) (r : RV) (Q : VK), g x = some r → Rl mg K B G δ σ H → CRep mg K G.F G.ρ H vx x → Ct mg K B G δ σ r Q → r1 vx H Q
def dUn (g : D → Option RV) (fa : DE) : DE := fun δ => (fa δ).bind fun p => (p.1.pin.rd p.2).bind fun x => (g x).map fun r => (r, p.2)
theorem snd_un {op : UnaryOp} {g : D → Option RV} {r1 : V → Hp → VK → Prop} (ho : UnR X (unaryOp op) r1) (hg : UnD X.mg X.K r1 g) (ha : Snd X a fa) : Snd X (.UnaryOp op a pos) (dUn g fa) := by
  intro B G δ r δ' σ H Q h R k
  obtain ⟨⟨ra, δ1⟩, e1, h⟩ := bnd h
  obtain ⟨x, e3, h⟩ := bnd h
  obtain ⟨r', e5, h⟩ := Option.map_eq_some_iff.mp h
  cases h
  refine tE_of (pe_un ho (pe_tE X a)) ?_
  refine ha B G δ ra δ1 σ H _ e1 R fun G1 va H1 l1 R1 o1 => ?_
  obtain ⟨G1', l1', R1', o1'⟩ := R1.pin o1
  exact hg B G1' δ1 σ H1 x va r Q e5 R1' (R1'.rd o1' e3) fun G3 v H3 l3 R3 o3 => k G3 v H3 ((l1.trans l1').trans l3) R3 o3

/-! ### tests -/
def gTru : D → Option Bool
  | .non => some false
  | .bl b => some b
  | .int i => some (i != 0)
  | .str x => if x.length ≤ 16777216 then some ((x.length : Int) != 0) else none
  | .lst xs => some (!xs.isEmpty)
  | .klst xs => some (!xs.isEmpty)
  | .tup xs => some (!xs.isEmpty)
  | _ => none
def dTru (f : DE) : DT := fun δ => (f δ).bind fun p => (p.1.pin.rd p.2).bind fun x => (gTru x).map fun b => (b, p.2)
theorem reps_empty {mg : Str → Option Value} {K : PySem.W.Frag} {F : Hp} {ρ : List Addr} {vs : List V} {ds : List D} (h : Reps mg K F ρ vs ds) : (!ds.isEmpty) = !vs.isEmpty := by cases h <;> rfl
theorem tru_of {mg : Str → Option Value} {K : PySem.W.Frag} {F H : Hp} {ρ : List Addr} {v : V} {d : D} {b : Bool} (s : Same F H) (h : CRep mg K F ρ H v d) (q : gTru d = some b) : TruV K v H b := by
  cases d with
  | non => cases q; rw [h.non]; exact rfl
  | bl b' => cases q; rw [h.bl]; exact rfl
  | int i => cases q; rw [h.int]; exact rfl
  | str x =>
    rw [h.str]
    simp only [gTru] at q
    split at q
    · cases q; exact ⟨by rw [sizeLine_eq]; assumption, rfl⟩
    · cases q
  | lst xs =>
    obtain ⟨a, vs, rfl, h1, h2⟩ := h.lst s
    cases q
    exact .inl ⟨vs, .of h1, reps_empty h2⟩
  | klst xs =>
    obtain ⟨a, vs, rfl, h1, h2⟩ := h.klst s
    cases q
    exact .inl ⟨vs, h1, reps_empty h2⟩
  | tup xs =>
    obtain ⟨a, vs, rfl, h1, h2⟩ := h.tup s
    cases q
    exact .inr (.inl ⟨vs, h1, reps_empty h2⟩)
  | _ => cases q
theorem sndt_tru (ha : Snd X a fa) (he : ∀ whole, isTrue a X.env whole = (do let v ← whole; standAt a.pos; holding [v] (truthy v))) : SndT X a (dTru fa) := by
  intro B G δ b' δ' σ H Q h R k
  obtain ⟨⟨ra, δ1⟩, e1, h⟩ := bnd h
  obtain ⟨x, e3, h⟩ := bnd h
  obtain ⟨r', e5, h⟩ := Option.map_eq_some_iff.mp h
  cases h
  refine tT_of (pt_truth (pe_tE X a) he) ?_
  refine ha B G δ ra δ1 σ H _ e1 R fun G1 va H1 l1 R1 o1 => ?_
  obtain ⟨G1', l1', R1', o1'⟩ := R1.pin o1
  exact ⟨b', tru_of R1'.sub (R1'.rd o1' e3) e5, k G1' H1 (l1.trans l1') R1'⟩
def dAnd (f g : DT) : DT := fun δ => (f δ).bind fun p => if p.1 = true then g p.2 else some (false, p.2)
def dOr (f g : DT) : DT := fun δ => (f δ).bind fun p => if p.1 = true then some (true, p.2) else g p.2
def dNot (f : DT) : DT := fun δ => (f δ).map fun p => (!p.1, p.2)
variable {rest : List Expr}
theorem SndW.t (h : SndW X e ft) : SndT X e ft := fun B G δ b δ' σ H Q q R k => fun pins s I => h B G δ b δ' σ H Q q R k _ pins s I
theorem sndw_and1 (ha : SndT X a ft) : SndW X (.BoolOp .And [a] pos) ft := fun B G δ b δ' σ H Q q R k => tW_of (pw_and1 (pt_tT X a)) (ha B G δ b δ' σ H Q q R k)
theorem sndw_or1 (ha : SndT X a ft) : SndW X (.BoolOp .Or [a] pos) ft := fun B G δ b δ' σ H Q q R k => tW_of (pw_or1 (pt_tT X a)) (ha B G δ b δ' σ H Q q R k)
theorem sndw_and (ha : SndT X a ft) (hb : SndW X (.BoolOp .And (b :: rest) pos) fu) : SndW X (.BoolOp .And (a :: b :: rest) pos) (dAnd ft fu) := by
  intro B G δ b' δ' σ H Q h R k
  obtain ⟨⟨b1, δ1⟩, e1, h⟩ := bnd h
  refine tW_of (pw_and (pt_tT X a) (pw_tW X _)) ?_
  refine ha B G δ b1 δ1 σ H _ e1 R fun G1 H1 l1 R1 => ?_
  cases b1 with
  | true => exact hb B G1 δ1 b' δ' σ H1 Q h R1 fun G2 H2 l2 R2 => k G2 H2 (l1.trans l2) R2
  | false =>
    have h : some (false, δ1) = some (b', δ') := h
    cases h
    exact k G1 H1 l1 R1
theorem sndw_or (ha : SndT X a ft) (hb : SndW X (.BoolOp .Or (b :: rest) pos) fu) : SndW X (.BoolOp .Or (a :: b :: rest) pos) (dOr ft fu) := by
  intro B G δ b' δ' σ H Q h R k
  obtain ⟨⟨b1, δ1⟩, e1, h⟩ := bnd h
  refine tW_of (pw_or (pt_tT X a) (pw_tW X _)) ?_
  refine ha B G δ b1 δ1 σ H _ e1 R fun G1 H1 l1 R1 => ?_
  cases b1 with
  | false => exact hb B G1 δ1 b' δ' σ H1 Q h R1 fun G2 H2 l2 R2 => k G2 H2 (l1.trans l2) R2
  | true =>
    have h : some (true, δ1) = some (b', δ') := h
    cases h
    exact k G1 H1 l1 R1
theorem sndt_not (ha : SndT X a ft) : SndT X (.UnaryOp .Not a pos) (dNot ft) := by
  intro B G δ b' δ' σ H Q h R k
  obtain ⟨⟨b1, δ1⟩, e1, h⟩ := Option.map_eq_some_iff.mp h
  cases h
  exact tT_of (pt_not (pt_tT X a)) (ha B G δ b1 _ σ H _ e1 R fun G1 H1 l1 R1 => k G1 H1 l1 R1)
/-- and, or, not as values, all but the last bools -/
def dAndV (fa fb : DE) : DE := fun δ => (fa δ).bind fun p => match p.1 with
  | .val (.bl true) => fb p.2
  | .val (.bl false) => some (.val (.bl false), p.2)
  | _ => none
def dOrV (fa fb : DE) : DE := fun δ => (fa δ).bind fun p => match p.1 with
  | .val (.bl false) => fb p.2
  | .val (.bl true) => some (.val (.bl true), p.2)
  | _ => none
def dNotV (fa : DE) : DE := fun δ => (fa δ).bind fun p => match p.1 with
  | .val (.bl b) => some (.val (.bl (!b)), p.2)
  | _ => none
/-- the value in a slot, taken as such (a bool) -/
def dVal (fa : DE) : DE := fun δ => (fa δ).bind fun p => (p.1.pin.rd p.2).map fun d => (.val d, p.2)
theorem snd_one {op : BoolOp} (ha : Snd X a fa) : Snd X (.BoolOp op [a] pos) fa := fun B G δ r δ' σ H Q h R k => tE_of (pe_one (pe_tE X a)) (ha B G δ r δ' σ H Q h R k)
theorem snd_and (ha : Snd X a fa) (hb : Snd X (.BoolOp .And (b :: rest) pos) fb) : Snd X (.BoolOp .And (a :: b :: rest) pos) (dAndV fa fb) := by
  intro B G δ r δ' σ H Q h R k
  obtain ⟨⟨ra, δ1⟩, e1, h⟩ := bnd h
  refine tE_of (pe_and (pe_tE X a) (pe_tE X _)) ?_
  refine ha B G δ ra δ1 σ H _ e1 R fun G1 va H1 l1 R1 o1 => ?_
  split at h
  · rename_i q
    have q : ra = .val (.bl true) := q
    subst q
    have o' : Rep X.mg X.K G1.F G1.ρ va (.bl true) := o1
    cases o'
    exact ⟨true, rfl, hb B G1 δ1 r δ' σ H1 Q h R1 fun G2 v H2 l2 R2 o2 => k G2 v H2 (l1.trans l2) R2 o2⟩
  · rename_i q
    have q : ra = .val (.bl false) := q
    subst q
    have o' : Rep X.mg X.K G1.F G1.ρ va (.bl false) := o1
    cases o'
    cases h
    exact ⟨false, rfl, k G1 _ H1 l1 R1 (.bl false)⟩
  · cases h
theorem snd_or (ha : Snd X a fa) (hb : Snd X (.BoolOp .Or (b :: rest) pos) fb) : Snd X (.BoolOp .Or (a :: b :: rest) pos) (dOrV fa fb) := by
  intro B G δ r δ' σ H Q h R k
  obtain ⟨⟨ra, δ1⟩, e1, h⟩ := bnd h
  refine tE_of (pe_or (pe_tE X a) (pe_tE X _)) ?_
  refine ha B G δ ra δ1 σ H _ e1 R fun G1 va H1 l1 R1 o1 => ?_
  split at h
  · rename_i q
    have q : ra = .val (.bl false) := q
    subst q
    have o' : Rep X.mg X.K G1.F G1.ρ va (.bl false) := o1
    cases o'
    exact ⟨false, rfl, hb B G1 δ1 r δ' σ H1 Q h R1 fun G2 v H2 l2 R2 o2 => k G2 v H2 (l1.trans l2) R2 o2⟩
  · rename_i q
    have q : ra = .val (.bl true) := q
    subst q
    have o' : Rep X.mg X.K G1.F G1.ρ va (.bl true) := o1
    cases o'
    cases h
    exact ⟨true, rfl, k G1 _ H1 l1 R1 (.bl true)⟩
  · cases h
theorem snd_not (ha : Snd X a fa) : Snd X (.UnaryOp .Not a pos) (dNotV fa) := by
  intro B G δ r δ' σ H Q h R k
  obtain ⟨⟨ra, δ1⟩, e1, h⟩ := bnd h
  refine tE_of (pe_not (pe_tE X a)) ?_
  refine ha B G δ ra δ1 σ H _ e1 R fun G1 va H1 l1 R1 o1 => ?_
  split at h
  · rename_i bb q
    have q : ra = .val (.bl bb) := q
    subst q
    have o' : Rep X.mg X.K G1.F G1.ρ va (.bl bb) := o1
    cases o'
    cases h
    exact ⟨bb, rfl, k G1 _ H1 l1 R1 (.bl _)⟩
  · cases h
/-- a name that holds a plain scalar, as an operand that is a value -/
def scalD : D → Bool
  | .non | .bl _ | .int _ | .str _ => true
  | _ => false
def dSc (fa : DE) : DE := fun δ => (fa δ).bind fun p => (p.1.pin.rd p.2).bind fun d => if scalD d = true then some (.val d, p.2) else none
theorem snd_sc (ha : Snd X a fa) : Snd X a (dSc fa) := by
  intro B G δ r δ' σ H Q h R k
  obtain ⟨⟨ra, δ1⟩, e1, h⟩ := bnd h
  obtain ⟨d, e2, h⟩ := bnd h
  split at h
  · rename_i hs
    cases h
    refine ha B G δ ra δ1 σ H _ e1 R fun G1 va H1 l1 R1 o1 => ?_
    obtain ⟨G1', l1', R1', o1'⟩ := R1.pin o1
    refine k G1' va H1 (l1.trans l1') R1' ?_
    have c := R1'.rd o1' e2
    show Rep _ _ _ _ va d
    cases d <;> first | (rw [c.non]; exact .non) | (rw [c.bl]; exact .bl _) | (rw [c.int]; exact .int _) | (rw [c.str]; exact .str _) | cases hs
  · cases h
def dIf (t : DT) (fa fb : DE) : DE := fun δ => (t δ).bind fun p => if p.1 = true then fa p.2 else fb p.2
theorem snd_ifExp (ht : SndT X c ft) (ha : Snd X a fa) (hb : Snd X b fb) : Snd X (.IfExp c a b pos) (dIf ft fa fb) := by
  intro B G δ r δ' σ H Q h R k
  obtain ⟨⟨b1, δ1⟩, e1, h⟩ := bnd h
  refine tE_of (pe_ifExp (pt_tT X c) (pe_tE X a) (pe_tE X b)) ?_
  refine ht B G δ b1 δ1 σ H _ e1 R fun G1 H1 l1 R1 => ?_
  cases b1 with
  | true => exact ha B G1 δ1 r δ' σ H1 Q h R1 fun G2 v H2 l2 R2 o2 => k G2 v H2 (l1.trans l2) R2 o2
  | false => exact hb B G1 δ1 r δ' σ H1 Q h R1 fun G2 v H2 l2 R2 o2 => k G2 v H2 (l1.trans l2) R2 o2

/-! ### argument lists, displays -/
def dNil : DA := fun δ => some ([], δ)
def dCons (f : DE) (fs : DA) : DA := fun δ => (f δ).bind fun p => (fs p.2).map fun q => (p.1 :: q.1, q.2)
theorem snda_nil : SndA X [] dNil := by
  intro B G δ rs δ' σ H Q h R k
  cases h
  exact tA_of pa_nil (k G [] H (.refl G) R .nil)
theorem snda_cons (ha : Snd X a fa) (hs : SndA X es fas) (he : starEach (a :: es) X.env = (false, eval a X.env) :: starEach es X.env) : SndA X (a :: es) (dCons fa fas) := by
  intro B G δ rs δ' σ H Q h R k
  obtain ⟨⟨ra, δ1⟩, e1, h⟩ := bnd h
  obtain ⟨⟨r2, δ2⟩, e2, h⟩ := Option.map_eq_some_iff.mp h
  cases h
  refine tA_of (pa_cons (pe_tE X a) (pa_tA X es) he) ?_
  refine ha B G δ ra δ1 σ H _ e1 R fun G1 va H1 l1 R1 o1 => ?_
  obtain ⟨G1', l1', R1', o1'⟩ := R1.pin o1
  refine hs B G1' δ1 r2 _ σ H1 _ e2 R1' fun G2 vs H2 l2 R2 o2 => ?_
  exact k G2 (va :: vs) H2 ((l1.trans l1').trans l2) R2 (.cons (o1'.mono l2) o2)
def dTup (f : DA) : DE := fun δ => (f δ).bind fun p => (keepAll p.2 p.1).bind fun ds => if ds.length ≤ 16777216 then some (.val (.tup ds), p.2) else none
def dLst (f : DA) : DE := fun δ => (f δ).bind fun p => (keepAll p.2 p.1).bind fun ds => if ds.length ≤ 16777216 then some (.fresh (.lst ds), p.2) else none
theorem snd_tup {x1 : Nat} (h : SndA X es fas) : Snd X (.Tuple es x1 pos) (dTup fas) := by
  intro B G δ r δ' σ H Q q R k
  obtain ⟨⟨rs, δ1⟩, e1, q⟩ := bnd q
  obtain ⟨ds, e2, q⟩ := bnd q
  split at q
  · rename_i hz
    cases q
    refine tE_of (pe_tup (pa_tA X es)) ?_
    refine h B G δ rs δ1 σ H _ e1 R fun G1 vs H1 l1 R1 o1 => ?_
    have rp := R1.keepAll o1 e2
    refine ⟨by rw [rp.length, sizeLine_eq]; exact hz, fun p hp => ?_⟩
    obtain ⟨G2, l2, R2, o2⟩ := R1.push_tup hp rp
    exact k G2 _ _ (l1.trans l2) R2 o2
  · cases q
theorem snd_lst (h : SndA X es fas) : Snd X (.List es pos) (dLst fas) := by
  intro B G δ r δ' σ H Q q R k
  obtain ⟨⟨rs, δ1⟩, e1, q⟩ := bnd q
  obtain ⟨ds, e2, q⟩ := bnd q
  split at q
  · rename_i hz
    cases q
    refine tE_of (pe_lst (pa_tA X es)) ?_
    refine h B G δ rs δ1 σ H _ e1 R fun G1 vs H1 l1 R1 o1 => ?_
    have rp := R1.keepAll o1 e2
    refine ⟨by rw [rp.length, sizeLine_eq]; exact hz, fun p hp => ?_⟩
    obtain ⟨R2, o2⟩ := R1.push_lst hp rp
    exact k G1 _ _ l1 R2 o2
  · cases q
/-! ### built-in functions and classes -/
def CallD (mg : Str → Option Value) (K : PySem.W.Frag) (rc : List V → Hp → VK → Prop) (g : List D → Option RV) : Prop :=
  ∀ (B : Bs) (G : Gh) (δ : DSt) (σ : L2.St) (H : Hp) (ds : List D) (vs : List V) (r : RV) (Q : VK), g ds = some r → Rl mg K B G δ σ H → CReps mg K G.F G.ρ H vs ds → Ct mg K B G δ σ r Q → rc vs H Q
def dBi (g : List D → Option RV) (f : DA) : DE := fun δ => (f δ).bind fun p => (rdAll p.2 p.1).bind fun ds => (g ds).map fun r => (r, p.2)
theorem bi_run {g : List D → Option RV} {rc : List V → Hp → VK → Prop} (hg : CallD X.mg X.K rc g) (h : SndA X es fas) {B : Bs} {G : Gh} {δ δ' : DSt} {r : RV} {σ : L2.St} {H : Hp} {Q : VK} (q : dBi g fas δ = some (r, δ')) (R : Rl X.mg X.K B G δ σ H)
    (k : Ct X.mg X.K B G δ' σ r Q) : tCB rc (tA X es) σ H Q := by
  obtain ⟨⟨rs, δ1⟩, e1, q⟩ := bnd q
  obtain ⟨ds, e2, q⟩ := bnd q
  obtain ⟨r', e3, q⟩ := Option.map_eq_some_iff.mp q
  cases q
  refine h B G δ rs δ1 σ H _ e1 R fun G1 vs H1 l1 R1 o1 => ?_
  exact hg B G1 δ1 σ H1 ds vs r Q e3 R1 (R1.rdAll o1 e2) fun G2 v H2 l2 R2 o2 => k G2 v H2 (l1.trans l2) R2 o2
theorem snd_bi {id : String} {x : Str} {g : List D → Option RV} {rc : List V → Hp → VK → Prop} (hc : CallR X (.builtin id) rc) (hg : CallD X.mg X.K rc g) (hgl : Gl X x) (hm : X.mg x = none) (hv : bootBuiltins x = some (.builtin id)) (h : SndA X (e :: es) fas)
    (hn : x ≠ "__name__") (hdb : (x == ("__debug__" : Str)) = false) (he : starEach (e :: es) X.env = (false, eval e X.env) :: starEach es X.env) (hpl : (backTo pos (starEach es X.env)).any (·.1) = false) : Snd X (.Call (.Name x p) (e :: es) [] pos) (dBi g fas) :=
  fun B G δ r δ' σ H Q q R k => tE_of (pe_callB hc hgl hm hv (pa_tA X _) hn hdb he hpl) (bi_run hg h q R k)
theorem snd_bty {T : String} {x : Str} {g : List D → Option RV} {rc : List V → Hp → VK → Prop} (hc : CallR X (.type T) rc) (hg : CallD X.mg X.K rc g) (hgl : Gl X x) (hm : X.mg x = none) (hv : bootBuiltins x = some (.type T)) (h : SndA X (e :: es) fas)
    (hn : x ≠ "__name__") (hdb : (x == ("__debug__" : Str)) = false) (he : starEach (e :: es) X.env = (false, eval e X.env) :: starEach es X.env) (hpl : (backTo pos (starEach es X.env)).any (·.1) = false) : Snd X (.Call (.Name x p) (e :: es) [] pos) (dBi g fas) :=
  fun B G δ r δ' σ H Q q R k => tE_of (pe_callTy hc hgl hm hv (pa_tA X _) hn hdb he hpl) (bi_run hg h q R k)
/-! ### subscripts -/
theorem snd_ix {g : D → D → Option RV} {r2 : R2} (hr : IxR X r2) (hg : OpD X.mg X.K r2 g) (ha : Snd X a fa) (hb : Snd X b fb) (hs : PlainIx b) : Snd X (.Subscript a b pos) (dBin g fa fb) :=
  fun B G δ r δ' σ H Q h R k => tE_of (pe_ix hr (pe_tE X a) (pe_tE X b) hs) (bin_run hg ha hb h R k)
end
end EV
set_option Elab.async false
set_option linter.all false
set_option maxRecDepth 100000
/-! EV 3: statements, loops, targets, methods that change a list -/
namespace EV
open PySem L2

inductive Fl where
  | nx | bk | ct | rt (r : RV)
abbrev DS := DSt → Option (Fl × DSt)
abbrev DG := D → DSt → Option DSt
abbrev DI := DSt → Option (List D × DSt)

def tSt (X : Cx) (st : Stmt) : TS := fun D σ H => ∀ pins s, Inv X pins σ H s → wpAny (model X.prog X.w) X.A (exec st X.env) (SP X pins D) X.xe s
def tBk (X : Cx) (st : List Stmt) : TS := fun D σ H => ∀ pins s, Inv X pins σ H s → wpAny (model X.prog X.w) X.A (execs st X.env) (SP X pins D) X.xe s
def tTg (X : Cx) (tg : Expr) : TG := fun v σ H Q => ∀ pins s u, Inv X pins σ H s → RelV v u → wpAny (model X.prog X.w) X.A (assign tg X.env u) (fun _ s' => ∃ σ' H', Inv X pins σ' H' s' ∧ Q σ' H') X.xe s
def tTgs (X : Cx) (ts : List Expr) : TGs := fun vs σ H Q => ∀ pins s us, Inv X pins σ H s → Vals vs us → wpAny (model X.prog X.w) X.A (assignInOrder ((assignEach ts X.env).map (·.2)) us) (fun _ s' => ∃ σ' H', Inv X pins σ' H' s' ∧ Q σ' H') X.xe s
def tIt (X : Cx) (tg iter : Expr) : TI := fun σ H R => ∀ pins s, Inv X pins σ H s → wpAny (model X.prog X.w) X.A (eval iter X.env) (fun v s1 => wpAny (model X.prog X.w) X.A (pyIter v) (PIE X pins σ tg R) X.xe s1) X.xe s
section
variable {X : Cx} {st : Stmt} {sts : List Stmt} {tg iter : Expr} {σ : L2.St} {H : Hp}
theorem ps_tSt (X : Cx) (st : Stmt) : PS X st (tSt X st) := ⟨fun pins s _ _ _ I q => q pins s I⟩
theorem pss_tBk (X : Cx) (st : List Stmt) : PSs X st (tBk X st) := ⟨fun pins s _ _ _ I q => q pins s I⟩
theorem pg_tTg (X : Cx) (tg : Expr) : PG X tg (tTg X tg) := ⟨fun pins s _ _ _ u _ I r q => q pins s u I r⟩
theorem pgs_tTgs (X : Cx) (ts : List Expr) : PGs X ts (tTgs X ts) := ⟨fun pins s _ _ _ us _ I r q => q pins s us I r⟩
theorem pi_tIt (X : Cx) (tg iter : Expr) : PI X tg iter (tIt X tg iter) := ⟨fun pins s _ _ _ I q => q pins s I⟩
theorem tSt_of {t : TS} {Dn : Ends} (h : PS X st t) (q : t Dn σ H) : tSt X st Dn σ H := fun pins s I => h.run pins s σ H Dn I q
theorem tBk_of {t : TS} {Dn : Ends} (h : PSs X sts t) (q : t Dn σ H) : tBk X sts Dn σ H := fun pins s I => h.run pins s σ H Dn I q
theorem tTg_of {t : TG} {v : V} {Q : L2.St → Hp → Prop} (h : PG X tg t) (q : t v σ H Q) : tTg X tg v σ H Q := fun pins s u I r => h.run pins s σ H v u Q I r q
theorem tTgs_of {ts : List Expr} {t : TGs} {vs : List V} {Q : L2.St → Hp → Prop} (h : PGs X ts t) (q : t vs σ H Q) : tTgs X ts vs σ H Q := fun pins s us I r => h.run pins s σ H vs us Q I r q
theorem tIt_of {t : TI} {R : It → Hp → Prop} (h : PI X tg iter t) (q : t σ H R) : tIt X tg iter σ H R := fun pins s I => h.run pins s σ H R I q
end

def EndOk (mg : Str → Option Value) (K : PySem.W.Frag) (B : Bs) (G : Gh) (δ : DSt) (Dn : Ends) : Fl → Prop
  | .nx => ∀ (G' : Gh) (σ' : L2.St) (H' : Hp), G.le G' → Rl mg K B G' δ σ' H' → Dn.nx σ' H'
  | .bk => ∀ (G' : Gh) (σ' : L2.St) (H' : Hp), G.le G' → Rl mg K B G' δ σ' H' → Dn.bk σ' H'
  | .ct => ∀ (G' : Gh) (σ' : L2.St) (H' : Hp), G.le G' → Rl mg K B G' δ σ' H' → Dn.ct σ' H'
  | .rt r => ∀ (G' : Gh) (v : V) (σ' : L2.St) (H' : Hp), G.le G' → Rl mg K B G' δ σ' H' → RvOk mg K B G' σ' H' r v → Dn.rt v H'
theorem EndOk.le {mg : Str → Option Value} {K : PySem.W.Frag} {B : Bs} {G G1 : Gh} {δ : DSt} {Dn : Ends} {fl : Fl} (h : EndOk mg K B G δ Dn fl) (l : G.le G1) : EndOk mg K B G1 δ Dn fl := by
  cases fl with
  | nx => exact fun G' σ' H' l' => h G' σ' H' (l.trans l')
  | bk => exact fun G' σ' H' l' => h G' σ' H' (l.trans l')
  | ct => exact fun G' σ' H' l' => h G' σ' H' (l.trans l')
  | rt r => exact fun G' v σ' H' l' => h G' v σ' H' (l.trans l')
def SndS (X : Cx) (st : Stmt) (f : DS) : Prop := ∀ (B : Bs) (G : Gh) (δ : DSt) (fl : Fl) (δ' : DSt) (σ : L2.St) (H : Hp) (Dn : Ends), f δ = some (fl, δ') → Rl X.mg X.K B G δ σ H → EndOk X.mg X.K B G δ' Dn fl → tSt X st Dn σ H
def SndB (X : Cx) (sts : List Stmt) (f : DS) : Prop := ∀ (B : Bs) (G : Gh) (δ : DSt) (fl : Fl) (δ' : DSt) (σ : L2.St) (H : Hp) (Dn : Ends), f δ = some (fl, δ') → Rl X.mg X.K B G δ σ H → EndOk X.mg X.K B G δ' Dn fl → tBk X sts Dn σ H
def SndG (X : Cx) (tg : Expr) (g : DG) : Prop := ∀ (B : Bs) (G : Gh) (δ δ' : DSt) (d : D) (v : V) (σ : L2.St) (H : Hp) (Q : L2.St → Hp → Prop), g d δ = some δ' → Rl X.mg X.K B G δ σ H → Rep X.mg X.K G.F G.ρ v d →
  (∀ (G' : Gh) (σ' : L2.St) (H' : Hp), G.le G' → Rl X.mg X.K B G' δ' σ' H' → Q σ' H') → tTg X tg v σ H Q
def SndGs (X : Cx) (ts : List Expr) (g : List D → DSt → Option DSt) : Prop := ∀ (B : Bs) (G : Gh) (δ δ' : DSt) (ds : List D) (vs : List V) (σ : L2.St) (H : Hp) (Q : L2.St → Hp → Prop), g ds δ = some δ' → Rl X.mg X.K B G δ σ H → Reps X.mg X.K G.F G.ρ vs ds →
  (∀ (G' : Gh) (σ' : L2.St) (H' : Hp), G.le G' → Rl X.mg X.K B G' δ' σ' H' → Q σ' H') → tTgs X ts vs σ H Q
/-- what is walked yields these items, frozen, turn by turn -/
structure ItOk (mg : Str → Option Value) (K : PySem.W.Frag) (G0 : Gh) (J : It) (items : List D) : Prop where
  go : ∀ (i : Nat) (H : Hp), Same G0.F H → i < items.length → J.go i H
  stop : ∀ (i : Nat) (H : Hp), Same G0.F H → i = items.length → J.stop i H
  yld : ∀ (B : Bs) (G : Gh) (δ : DSt) (σ : L2.St) (i : Nat) (H : Hp) (x : V) (H' : Hp) (d : D), G0.le G → Rl mg K B G δ σ H → items[i]? = some d → J.yld i H x H' → ∃ G', G.le G' ∧ Rl mg K B G' δ σ H' ∧ Rep mg K G'.F G'.ρ x d
def SndI (X : Cx) (tg iter : Expr) (f : DI) : Prop := ∀ (B : Bs) (G : Gh) (δ : DSt) (items : List D) (δ' : DSt) (σ : L2.St) (H : Hp) (R : It → Hp → Prop), f δ = some (items, δ') → Rl X.mg X.K B G δ σ H →
  (∀ (G' : Gh) (J : It) (H' : Hp), G.le G' → Rl X.mg X.K B G' δ' σ H' → ItOk X.mg X.K G' J items → R J H') → tIt X tg iter σ H R

/-! ### the state's changes -/
section
variable {mg : Str → Option Value} {K : PySem.W.Frag} {B : Bs} {G G' : Gh} {δ : DSt} {σ : L2.St} {H H' : Hp} {p : Addr} {o : HO} {d : D} {v : V} {r : RV} {i : Nat}
theorem get_set {α : Type} {l : List α} {i j : Nat} {x y : α} (h : (l.set i x)[j]? = some y) : (i = j ∧ x = y ∧ i < l.length) ∨ (i ≠ j ∧ l[j]? = some y) := by
  by_cases e : i = j
  · subst e
    by_cases hl : i < l.length
    · rw [List.getElem?_set_self hl] at h
      exact .inl ⟨rfl, Option.some.inj h, hl⟩
    · rw [List.getElem?_eq_none (by rw [List.length_set]; omega)] at h
      cases h
  · rw [List.getElem?_set_ne e] at h
    exact .inr ⟨e, h⟩
def DSt.putV (δ : DSt) (i : Nat) (d : D) : DSt := ⟨δ.sl.set i (some (SD.val d)), δ.ce⟩
def DSt.putO (δ : DSt) (i : Nat) (d : D) : DSt := ⟨δ.sl.set i (some (SD.own d)), δ.ce⟩
theorem Rl.putV (R : Rl mg K B G δ σ H) (h : Rep mg K G.F G.ρ v d) (i : Nat) : Rl mg K B G (δ.putV i d) (σ.set i (some v)) H :=
  { R with
    sv := fun j e q => by
      rcases get_set q with ⟨rfl, q1, q2⟩ | ⟨hn, q⟩
      · cases q1
        refine ⟨v, ?_, h⟩
        rw [List.getElem?_set_self (by rw [← R.sl]; exact q2)]
      · obtain ⟨w, h1, h2⟩ := R.sv j e q
        exact ⟨w, by rw [List.getElem?_set_ne hn]; exact h1, h2⟩
    so := fun j e q => by
      rcases get_set q with ⟨rfl, q1, q2⟩ | ⟨hn, q⟩
      · cases q1
      · obtain ⟨w, h1, h2⟩ := R.so j e q
        exact ⟨w, by rw [List.getElem?_set_ne hn]; exact h1, h2⟩
    sl := by show (δ.sl.set i _).length = _; rw [List.length_set, List.length_set]; exact R.sl }
/-- what is new goes to slot i alone -/
theorem Rl.putOw (R : Rl mg K B G δ σ H) (h : RvOk mg K B G σ H (.fresh d) v) (i : Nat) : ∃ p, v = .ref p ∧ G.le { G with ow := fun b => if b = p then some i else G.ow b } ∧ Rl mg K B { G with ow := fun b => if b = p then some i else G.ow b } (δ.putO i d) (σ.set i (some v)) H := by
  obtain ⟨p, rfl, h1, h2, h3, h4, h5⟩ := h
  refine ⟨p, rfl, ⟨Same.refl _, [], by simp⟩, ?_⟩
  have owc : ∀ b j, (if b = p then some i else G.ow b) = some j → b = p ∨ G.ow b = some j := fun b j q => by
    split at q
    · exact .inl (by assumption)
    · exact .inr q
  obtain ⟨o, ho⟩ := h5.there
  exact { R with
    fow := fun b j q => by
      rcases owc b j q with rfl | q
      · exact h1
      · exact R.fow b j q
    oc := fun b j q => by
      rcases owc b j q with rfl | q
      · exact h3
      · exact R.oc b j q
    oh := fun b j q => by
      rcases owc b j q with rfl | q
      · rw [ho]; exact fun z => nomatch z
      · exact R.oh b j q
    sv := fun j e q => by
      rcases get_set q with ⟨rfl, q1, q2⟩ | ⟨hn, q⟩
      · cases q1
      · obtain ⟨w, h1, h2⟩ := R.sv j e q
        exact ⟨w, by rw [List.getElem?_set_ne hn]; exact h1, h2⟩
    so := fun j e q => by
      rcases get_set q with ⟨rfl, q1, q2⟩ | ⟨hn, q⟩
      · cases q1
        refine ⟨p, ?_, if_pos rfl, h5⟩
        rw [List.getElem?_set_self (by rw [← R.sl]; exact q2)]
      · obtain ⟨w, h1, h2', h3'⟩ := R.so j e q
        refine ⟨w, by rw [List.getElem?_set_ne hn]; exact h1, ?_, h3'⟩
        show (if w = p then some i else G.ow w) = some j
        rw [if_neg (fun z => by rw [z, h2] at h2'; cases h2')]
        exact h2'
    sl := by show (δ.sl.set i _).length = _; rw [List.length_set, List.length_set]; exact R.sl
    new := fun b j q => by
      rcases owc b j q with rfl | q
      · exact h4
      · exact R.new b j q }
theorem Rl.putO (R : Rl mg K B G δ σ H) (h : RvOk mg K B G σ H (.fresh d) v) (i : Nat) : ∃ G', G.le G' ∧ Rl mg K B G' (δ.putO i d) (σ.set i (some v)) H := by
  obtain ⟨p, _, l, R'⟩ := R.putOw h i
  exact ⟨_, l, R'⟩
/-- what slot i owns is frozen -/
theorem Rl.frozen (R : Rl mg K B G δ σ H) (h : δ.sl[i]? = some (some (SD.own d))) : ∃ G', G.le G' ∧ Rl mg K B G' (δ.putV i d) σ H := by
  obtain ⟨p, h1, h2, h3⟩ := R.so i d h
  obtain ⟨o, ho, hr⟩ := h3.froze (R.fow p i h2)
  have e : Same G.F (upd G.F p o) := fun b u q => by rw [upd_ne (ne_of_none q (R.fow p i h2))]; exact q
  refine ⟨{ G with F := upd G.F p o, ow := fun b => if b = p then none else G.ow b }, ⟨e, [], by simp⟩, ?_⟩
  have owc : ∀ b j, (if b = p then none else G.ow b) = some j → b ≠ p ∧ G.ow b = some j := fun b j q => by
    split at q
    · cases q
    · exact ⟨by assumption, q⟩
  have le : G.le { G with F := upd G.F p o } := ⟨e, [], by simp⟩
  exact {
    sub := fun b u q => by
      have q : upd G.F p o b = some u := q
      by_cases hb : b = p
      · subst hb; rw [upd_same] at q; cases q; exact ho
      · rw [upd_ne hb] at q; exact R.sub b u q
    fow := fun b j q => by
      obtain ⟨n, q⟩ := owc b j q
      show upd G.F p o b = none
      rw [upd_ne n]; exact R.fow b j q
    foc := fun b q => by
      have n : b ≠ p := fun z => by subst z; exact R.oc b i h2 q
      show upd G.F p o b = none
      rw [upd_ne n]; exact R.foc b q
    oc := fun b j q => R.oc b j (owc b j q).2
    nd := R.nd
    oh := fun b j q => R.oh b j (owc b j q).2
    ch := R.ch
    sv := fun j e' q => by
      rcases get_set q with ⟨rfl, q1, q2⟩ | ⟨hn, q⟩
      · cases q1; exact ⟨_, h1, hr⟩
      · obtain ⟨w, h1, h2⟩ := R.sv j e' q
        exact ⟨w, h1, Rep.mono le.F le.ρ _ _ h2⟩
    so := fun j e' q => by
      rcases get_set q with ⟨rfl, q1, q2⟩ | ⟨hn, q⟩
      · cases q1
      · obtain ⟨w, g1, g2, g3⟩ := R.so j e' q
        refine ⟨w, g1, ?_, g3.mono le.F le.ρ fun _ z => z⟩
        show (if w = p then none else G.ow w) = some j
        rw [if_neg (fun z => hn (by rw [z, h2] at g2; cases g2; rfl))]
        exact g2
    sl := by show (δ.sl.set i _).length = _; rw [List.length_set]; exact R.sl
    ce := fun k e' q => let ⟨a, g1, g2⟩ := R.ce k e' q; ⟨a, g1, g2.mono le.F le.ρ fun _ z => z⟩
    cl := R.cl, fr := R.fr, dom := R.dom
    new := fun b j q => R.new b j (owc b j q).2
    fnew := fun b u q => by
      have n : b ≠ p := fun z => by subst z; rw [R.new b i h2] at q; cases q
      show upd G.F p o b = _
      rw [upd_ne n]; exact R.fnew b u q
    pre := R.pre }
/-- the object at p, owned or a cell, is another one -/
theorem Rl.same_but (R : Rl mg K B G δ σ H) (hp : (∃ i, G.ow p = some i) ∨ p ∈ G.ρ) : Same G.F (upd H p o) ∧ (∀ b, H b ≠ none → upd H p o b ≠ none) ∧ (∀ b u, B.H0 b = some u → b ∉ B.cs → upd H p o b = some u) ∧ (∀ b, upd H p o b = none → B.H0 b = none) := by
  have fp : G.F p = none := by
    rcases hp with ⟨i, h⟩ | h
    · exact R.fow p i h
    · exact R.foc p h
  have hh : H p ≠ none := by
    rcases hp with ⟨i, h⟩ | h
    · exact R.oh p i h
    · exact R.ch p h
  refine ⟨fun b u q => ?_, fun b q z => ?_, fun b u q n => ?_, fun b q => ?_⟩
  · rw [upd_ne (ne_of_none q fp)]; exact R.sub b u q
  · by_cases hb : b = p
    · subst hb; rw [upd_same] at z; cases z
    · rw [upd_ne hb] at z; exact q z
  · have hb : b ≠ p := fun z => by
      subst z
      rcases hp with ⟨i, h⟩ | h
      · rw [R.new b i h] at q; cases q
      · obtain ⟨t, e, ht⟩ := R.pre
        rw [e, List.mem_append] at h
        rcases h with h | h
        · exact n h
        · rw [ht b h] at q; cases q
    rw [upd_ne hb]; exact R.fr b u q n
  · by_cases hb : b = p
    · subst hb; rw [upd_same] at q; cases q
    · rw [upd_ne hb] at q; exact R.dom b q
/-- what slot i owns changes -/
theorem Rl.mutO {d d' : D} (R : Rl mg K B G δ σ H) (h : δ.sl[i]? = some (some (SD.own d))) : ∃ p, σ[i]? = some (some (.ref p)) ∧ ORep mg K G.F G.ρ H p d ∧ ∀ o, ORep mg K G.F G.ρ (upd H p o) p d' → Rl mg K B G (δ.putO i d') σ (upd H p o) := by
  obtain ⟨p, h1, h2, h3⟩ := R.so i d h
  refine ⟨p, h1, h3, fun o ho => ?_⟩
  obtain ⟨s1, s2, s3, s4⟩ := R.same_but (o := o) (.inl ⟨i, h2⟩)
  exact { R with
    sub := s1
    oh := fun b j q => s2 b (R.oh b j q), ch := fun b q => s2 b (R.ch b q)
    sv := fun j e q => by
      rcases get_set q with ⟨rfl, q1, q2⟩ | ⟨hn, q⟩
      · cases q1
      · exact R.sv j e q
    so := fun j e q => by
      rcases get_set q with ⟨rfl, q1, q2⟩ | ⟨hn, q⟩
      · cases q1; exact ⟨p, h1, h2, ho⟩
      · obtain ⟨w, g1, g2, g3⟩ := R.so j e q
        refine ⟨w, g1, g2, g3.mono (Same.refl _) ⟨[], by simp⟩ fun u z => ?_⟩
        rw [upd_ne (fun z => hn (by rw [z, h2] at g2; cases g2; rfl))]; exact z
    sl := by show (δ.sl.set i _).length = _; rw [List.length_set]; exact R.sl
    ce := fun k e q => by
      obtain ⟨a, g1, g2⟩ := R.ce k e q
      refine ⟨a, g1, g2.mono (Same.refl _) ⟨[], by simp⟩ fun u z => ?_⟩
      rw [upd_ne (fun y => R.oc p i h2 (by rw [← y]; exact List.mem_of_getElem? g1))]; exact z
    fr := s3, dom := s4 }
def DSt.putC (δ : DSt) (k : Nat) (d : D) : DSt := ⟨δ.sl, δ.ce.set k d⟩
/-- a cell changes -/
theorem Rl.mutC {d d' : D} {k : Nat} (R : Rl mg K B G δ σ H) (h : δ.ce[k]? = some d) : ∃ p, G.ρ[k]? = some p ∧ ORep mg K G.F G.ρ H p d ∧ ∀ o, ORep mg K G.F G.ρ (upd H p o) p d' → Rl mg K B G (δ.putC k d') σ (upd H p o) := by
  obtain ⟨p, h2, h3⟩ := R.ce k d h
  have hm : p ∈ G.ρ := List.mem_of_getElem? h2
  refine ⟨p, h2, h3, fun o ho => ?_⟩
  obtain ⟨s1, s2, s3, s4⟩ := R.same_but (o := o) (.inr hm)
  exact { R with
    sub := s1
    oh := fun b j q => s2 b (R.oh b j q), ch := fun b q => s2 b (R.ch b q)
    so := fun j e q => by
      obtain ⟨w, g1, g2, g3⟩ := R.so j e q
      refine ⟨w, g1, g2, g3.mono (Same.refl _) ⟨[], by simp⟩ fun u z => ?_⟩
      rw [upd_ne (fun y => R.oc w j g2 (by rw [y]; exact hm))]; exact z
    ce := fun m e q => by
      rcases get_set q with ⟨rfl, q1, q2⟩ | ⟨hn, q⟩
      · cases q1; exact ⟨p, h2, ho⟩
      · obtain ⟨a, g1, g2⟩ := R.ce m e q
        refine ⟨a, g1, g2.mono (Same.refl _) ⟨[], by simp⟩ fun u z => ?_⟩
        rw [upd_ne (fun y => hn (nd_ix R.nd h2 (by rw [← y]; exact g1)))]; exact z
    cl := by show (δ.ce.set k _).length = _; rw [List.length_set]; exact R.cl
    fr := s3, dom := s4 }
end

section
variable {X : Cx} {e a b c tg iter : Expr} {es ts : List Expr} {fa fb f : DE} {ft : DT} {fs gs : DS} {g : DG} {pos p : Pos} {st : Stmt} {sts : List Stmt}
/-! ### blocks -/
def dSkip : DS := fun δ => some (.nx, δ)
def dNever : DS := fun _ => none
def dSeq (f g : DS) : DS := fun δ => (f δ).bind fun p => match p.1 with
  | .nx => g p.2
  | _ => some p
theorem sndb_nil : SndB X [] dSkip := by
  intro B G δ fl δ' σ H Dn h R k
  cases h
  exact tBk_of pss_nil (k G σ H (.refl G) R)
theorem snds_never : SndS X st dNever := fun _ _ _ _ _ _ _ _ h => nomatch h
theorem sndb_never : SndB X sts dNever := fun _ _ _ _ _ _ _ _ h => nomatch h
theorem sndb_cons (h1 : SndS X st fs) (h2 : SndB X sts gs) : SndB X (st :: sts) (dSeq fs gs) := by
  intro B G δ fl δ' σ H Dn h R k
  obtain ⟨⟨fl1, δ1⟩, e1, h⟩ := bnd h
  refine tBk_of (pss_cons (ps_tSt X st) (pss_tBk X sts)) ?_
  show tSt X st { Dn with nx := tBk X sts Dn } σ H
  refine h1 B G δ fl1 δ1 σ H _ e1 R ?_
  cases fl1 with
  | nx => exact fun G' σ' H' l R' => h2 B G' δ1 fl δ' σ' H' Dn h R' (k.le l)
  | bk =>
    have h : some (Fl.bk, δ1) = some (fl, δ') := h
    cases h; exact k
  | ct =>
    have h : some (Fl.ct, δ1) = some (fl, δ') := h
    cases h; exact k
  | rt r =>
    have h : some (Fl.rt r, δ1) = some (fl, δ') := h
    cases h; exact k
theorem sndb_one (h1 : SndS X st fs) : SndB X [st] fs := by
  intro B G δ fl δ' σ H Dn h R k
  refine tBk_of (pss_one (ps_tSt X st)) (h1 B G δ fl δ' σ H Dn h R k)
theorem snds_pass : SndS X (.Pass pos) dSkip := by
  intro B G δ fl δ' σ H Dn h R k
  cases h
  exact tSt_of ps_pass (k G σ H (.refl G) R)
theorem snds_doc {x : Str} {j : Nat} {p' : Pos} : SndS X (.Expr (.Constant (.str x) j pos) p') dSkip := by
  intro B G δ fl δ' σ H Dn h R k
  cases h
  exact tSt_of ps_doc (k G σ H (.refl G) R)
def dBrk : DS := fun δ => some (.bk, δ)
def dCnt : DS := fun δ => some (.ct, δ)
theorem snds_break : SndS X (.Break pos) dBrk := by
  intro B G δ fl δ' σ H Dn h R k
  cases h
  exact tSt_of ps_break (k G σ H (.refl G) R)
theorem snds_continue : SndS X (.Continue pos) dCnt := by
  intro B G δ fl δ' σ H Dn h R k
  cases h
  exact tSt_of ps_continue (k G σ H (.refl G) R)
/-- ghost: what slot i owns is frozen ahead of the statement -/
def dFrz (i : Nat) (f : DS) : DS := fun δ => match δ.sl[i]? with
  | some (some (.own d)) => f (δ.putV i d)
  | _ => none
theorem snds_frz (i : Nat) (h1 : SndS X st fs) : SndS X st (dFrz i fs) := by
  intro B G δ fl δ' σ H Dn h R k
  simp only [dFrz] at h
  split at h
  · rename_i d q
    obtain ⟨G', l, R'⟩ := R.frozen q
    exact h1 B G' _ fl δ' σ H Dn h R' (k.le l)
  · cases h
def dRet (f : DE) : DS := fun δ => (f δ).map fun p => (.rt p.1, p.2)
theorem snds_ret (h1 : Snd X e f) : SndS X (.Return (some e) pos) (dRet f) := by
  intro B G δ fl δ' σ H Dn h R k
  obtain ⟨⟨r, δ1⟩, e1, h⟩ := Option.map_eq_some_iff.mp h
  cases h
  exact tSt_of (ps_ret (pe_tE X e)) (h1 B G δ r _ σ H _ e1 R fun G' v H' l R' o => k G' v σ H' l R' o)
def dRetN : DS := fun δ => some (.rt (.val .non), δ)
theorem snds_retN : SndS X (.Return none pos) dRetN := by
  intro B G δ fl δ' σ H Dn h R k
  cases h
  exact tSt_of ps_retN (k G .non σ H (.refl G) R .non)
def dDrop (f : DE) : DS := fun δ => (f δ).map fun p => (.nx, p.2)
theorem snds_expr (h1 : Snd X e f) (hs : swapsWith e none pos.line X.env = pure false) : SndS X (.Expr e pos) (dDrop f) := by
  intro B G δ fl δ' σ H Dn h R k
  obtain ⟨⟨r, δ1⟩, e1, h⟩ := Option.map_eq_some_iff.mp h
  cases h
  exact tSt_of (ps_expr (pe_tE X e) hs) (h1 B G δ r _ σ H _ e1 R fun G' v H' l R' o => k G' σ H' l R')
def dIfS (t : DT) (f g : DS) : DS := fun δ => (t δ).bind fun p => if p.1 = true then f p.2 else g p.2
theorem snds_if {as bs : List Stmt} (ht : SndT X c ft) (ha : SndB X as fs) (hb : SndB X bs gs) : SndS X (.If c as bs pos) (dIfS ft fs gs) := by
  intro B G δ fl δ' σ H Dn h R k
  obtain ⟨⟨b1, δ1⟩, e1, h⟩ := bnd h
  refine tSt_of (ps_if (pt_tT X c) (pss_tBk X as) (pss_tBk X bs)) ?_
  refine ht B G δ b1 δ1 σ H _ e1 R fun G1 H1 l1 R1 => ?_
  cases b1 with
  | true => exact ha B G1 δ1 fl δ' σ H1 Dn h R1 (k.le l1)
  | false => exact hb B G1 δ1 fl δ' σ H1 Dn h R1 (k.le l1)
/-! ### targets -/
def gNm (i : Nat) : DG := fun d δ => some (δ.putV i d)
theorem sndg_name {i : Nat} {x : Str} (hN : X.N.Nodup) (hi : X.N[i]? = some x) (hx : Loc X.env.scope x) (hf : X.fn x = true ∨ X.env.scope.names.lookup x = some .local) : SndG X (.Name x pos) (gNm i) := by
  intro B G δ δ' d v σ H Q h R rv k
  cases h
  exact tTg_of (pg_name hN hi hx hf) (k G _ H (.refl G) (R.putV rv i))
def gNl : List D → DSt → Option DSt := fun ds δ => if ds.isEmpty = true then some δ else none
def gCs (g : DG) (gs : List D → DSt → Option DSt) : List D → DSt → Option DSt := fun ds δ => match ds with
  | d :: ds => (g d δ).bind (gs ds)
  | [] => none
theorem sndgs_nil : SndGs X [] gNl := by
  intro B G δ δ' ds vs σ H Q h R rv k
  cases rv with
  | nil => cases h; exact tTgs_of pgs_nil ⟨rfl, k G _ H (.refl G) R⟩
  | cons => cases h
theorem sndgs_cons {g2 : List D → DSt → Option DSt} (h1 : SndG X e g) (h2 : SndGs X es g2) (hs : (assignEach (e :: es) X.env).map (·.2) = assign e X.env :: (assignEach es X.env).map (·.2)) : SndGs X (e :: es) (gCs g g2) := by
  intro B G δ δ' ds vs σ H Q h R rv k
  cases rv with
  | nil => cases h
  | cons r rr =>
    obtain ⟨δ1, e1, h⟩ := bnd h
    refine tTgs_of (pgs_cons (pg_tTg X e) (pgs_tTgs X es) hs) ⟨_, _, rfl, ?_⟩
    refine h1 B G δ δ1 _ _ σ H _ e1 R r fun G1 σ1 H1 l1 R1 => ?_
    exact h2 B G1 δ1 δ' _ _ σ1 H1 Q h R1 (Reps.mono l1.F l1.ρ _ _ rr) fun G2 σ2 H2 l2 R2 => k G2 σ2 H2 (l1.trans l2) R2
def gTp (n : Nat) (g : List D → DSt → Option DSt) : DG := fun d δ => match d with
  | .tup ds => if ds.length = n then g ds δ else none
  | _ => none
theorem sndg_tup {g2 : List D → DSt → Option DSt} {k n : Nat} (hc : X.calm = true) (h1 : SndGs X es g2) (hn : (assignEach es X.env).length = n) (hst : (assignEach es X.env).findIdx? (·.1) = none) : SndG X (.Tuple es k pos) (gTp n g2) := by
  intro B G δ δ' d v σ H Q h R rv k
  cases d with
  | tup ds =>
    simp only [gTp] at h
    split at h
    · rename_i hl
      cases rv with
      | tup hs rr =>
        refine tTg_of (pg_tup hc (pgs_tTgs X es) hn hst) ⟨_, _, rfl, sqT_same R.sub hs, by rw [rr.length]; exact hl, ?_⟩
        exact h1 B G δ δ' ds _ σ H Q h R rr k
    · cases h
  | _ => cases h
def dAsg (f : DE) (g : DG) : DS := fun δ => (f δ).bind fun p => (p.1.keep p.2).bind fun d => (g d p.2).map fun δ' => (.nx, δ')
theorem snds_asg (he : Snd X e f) (hg : SndG X tg g) (hs : swapsWithSole [tg] e pos.line X.env = pure false) (hw : swappedStores [tg] e X.env = pure none)
    (h1 : (assignEach [tg] X.env).map (·.2) = [assign tg X.env]) : SndS X (.Assign [tg] e pos) (dAsg f g) := by
  intro B G δ fl δ' σ H Dn h R k
  obtain ⟨⟨r, δ1⟩, e1, h⟩ := bnd h
  obtain ⟨d, e2, h⟩ := bnd h
  obtain ⟨δ2, e3, h⟩ := Option.map_eq_some_iff.mp h
  cases h
  refine tSt_of (ps_asg (pe_tE X e) (pg_tTg X tg) hs hw h1) ?_
  refine he B G δ r δ1 σ H _ e1 R fun G1 v H1 l1 R1 o1 => ?_
  obtain ⟨G2, l2, R2, rv⟩ := R1.keep o1 e2
  exact hg B G2 δ1 _ d v σ H1 _ e3 R2 rv fun G3 σ3 H3 l3 R3 => k G3 σ3 H3 ((l1.trans l2).trans l3) R3
/-- name = e, the value kept; name = e, e new: the slot owns it; .. it becomes a cell -/
def dSet (i : Nat) (f : DE) : DS := fun δ => (f δ).bind fun p => (p.1.keep p.2).map fun d => (.nx, p.2.putV i d)
def dOwn (i : Nat) (f : DE) : DS := fun δ => (f δ).bind fun p => match p.1 with
  | .fresh d => some (.nx, p.2.putO i d)
  | _ => none
theorem snds_set {i : Nat} {x : Str} {p' : Pos} (hN : X.N.Nodup) (hi : X.N[i]? = some x) (hx : Loc X.env.scope x) (he : Snd X e f) (hs : swapsWith e (some (.Name x p')) pos.line X.env = pure false) (hf : X.fn x = true ∨ X.env.scope.names.lookup x = some .local) :
    SndS X (.Assign [.Name x p'] e pos) (dSet i f) := by
  intro B G δ fl δ' σ H Dn h R k
  obtain ⟨⟨r, δ1⟩, e1, h⟩ := bnd h
  obtain ⟨d, e2, h⟩ := Option.map_eq_some_iff.mp h
  cases h
  refine tSt_of (ps_set hN hi hx (pe_tE X e) hs hf) ?_
  refine he B G δ r δ1 σ H _ e1 R fun G1 v H1 l1 R1 o1 => ?_
  obtain ⟨G2, l2, R2, rv⟩ := R1.keep o1 e2
  exact k G2 _ H1 (l1.trans l2) (R2.putV rv i)
theorem snds_own {i : Nat} {x : Str} {p' : Pos} (hN : X.N.Nodup) (hi : X.N[i]? = some x) (hx : Loc X.env.scope x) (he : Snd X e f) (hs : swapsWith e (some (.Name x p')) pos.line X.env = pure false) (hf : X.fn x = true ∨ X.env.scope.names.lookup x = some .local) :
    SndS X (.Assign [.Name x p'] e pos) (dOwn i f) := by
  intro B G δ fl δ' σ H Dn h R k
  obtain ⟨⟨r, δ1⟩, e1, h⟩ := bnd h
  split at h
  · rename_i d q
    have q : r = .fresh d := q
    subst q
    cases h
    refine tSt_of (ps_set hN hi hx (pe_tE X e) hs hf) ?_
    refine he B G δ _ δ1 σ H _ e1 R fun G1 v H1 l1 R1 o1 => ?_
    obtain ⟨G2, l2, R2⟩ := R1.putO o1 i
    exact k G2 _ H1 (l1.trans l2) R2
  · cases h
/-! ### loops -/
def whileN (c : DT) (body : DS) : Nat → DS
  | 0, _ => none
  | n + 1, δ => (c δ).bind fun p => if p.1 = true then (body p.2).bind fun q => match q.1 with
      | .nx => whileN c body n q.2
      | .ct => whileN c body n q.2
      | .bk => some (.nx, q.2)
      | .rt r => some (.rt r, q.2)
    else some (.nx, p.2)
theorem snds_while {body : List Stmt} {n : Nat} (hp : PassesOwn (model X.prog X.w) X.A X.env X.xe) (hc : SndT X c ft) (hb : SndB X body fs) : SndS X (.While c body [] pos) (whileN ft fs n) := by
  intro B G δ fl δ' σ H Dn h R k
  refine tSt_of (ps_while hp (pt_tT X c) (pss_tBk X body)) ?_
  refine ⟨fun m σ H => ∃ G1 δ1, G.le G1 ∧ Rl X.mg X.K B G1 δ1 σ H ∧ whileN ft fs m δ1 = some (fl, δ'), ⟨n, G, δ, .refl G, R, h⟩, ?_⟩
  rintro m σ1 H1 ⟨G1, δ1, l1, R1, h1⟩
  cases m with
  | zero => cases h1
  | succ m =>
    obtain ⟨⟨b1, δ2⟩, e1, h1⟩ := bnd h1
    refine hc B G1 δ1 b1 δ2 σ1 H1 _ e1 R1 fun G2 H2 l2 R2 => ?_
    cases b1 with
    | false =>
      have h1 : some (Fl.nx, δ2) = some (fl, δ') := h1
      cases h1
      exact k G2 σ1 H2 (l1.trans l2) R2
    | true =>
      rw [if_pos rfl]
      have h1 : ((fs δ2).bind fun q => match q.1 with
        | .nx => whileN ft fs m q.2
        | .ct => whileN ft fs m q.2
        | .bk => some (.nx, q.2)
        | .rt r => some (.rt r, q.2)) = some (fl, δ') := h1
      obtain ⟨⟨fl3, δ3⟩, e3, h1⟩ := bnd h1
      refine ⟨fun σ' H' => ∃ G1 δ1, G.le G1 ∧ Rl X.mg X.K B G1 δ1 σ' H' ∧ whileN ft fs m δ1 = some (fl, δ'), fun σ' H' q => ⟨m, Nat.lt_succ_self m, q⟩, ?_⟩
      refine hb B G2 δ2 fl3 δ3 σ1 H2 _ e3 R2 ?_
      cases fl3 with
      | nx => exact fun G' σ' H' l R' => ⟨G', δ3, (l1.trans l2).trans l, R', h1⟩
      | ct => exact fun G' σ' H' l R' => ⟨G', δ3, (l1.trans l2).trans l, R', h1⟩
      | bk =>
        have h1 : some (Fl.nx, δ3) = some (fl, δ') := h1
        cases h1
        exact fun G' σ' H' l R' => k G' σ' H' ((l1.trans l2).trans l) R'
      | rt r =>
        have h1 : some (Fl.rt r, δ3) = some (fl, δ') := h1
        cases h1
        exact fun G' v σ' H' l R' o => k G' v σ' H' ((l1.trans l2).trans l) R' o
def forL (g : DG) (body : DS) : List D → DS
  | [], δ => some (.nx, δ)
  | d :: ds, δ => (g d δ).bind fun δ1 => (body δ1).bind fun q => match q.1 with
      | .nx => forL g body ds q.2
      | .ct => forL g body ds q.2
      | .bk => some (.nx, q.2)
      | .rt r => some (.rt r, q.2)
def dFor (fi : DI) (g : DG) (body : DS) : DS := fun δ => (fi δ).bind fun p => forL g body p.1 p.2
theorem snds_for {body : List Stmt} {fi : DI} (hp : PassesOwn (model X.prog X.w) X.A X.env X.xe) (hc : X.calm = true) (hi : SndI X tg iter fi) (hg : SndG X tg g) (hb : SndB X body fs)
    (hs : ∀ x, foldedSetIterable iter X.env x = pure x) : SndS X (.For tg iter body [] pos) (dFor fi g fs) := by
  intro B G δ fl δ' σ H Dn h R k
  obtain ⟨⟨items, δ1⟩, e1, h⟩ := bnd h
  refine tSt_of (ps_for hp hc (pi_tIt X tg iter) (pg_tTg X tg) (pss_tBk X body) hs) ?_
  refine hi B G δ items δ1 σ H _ e1 R fun G1 J H1 l1 R1 io => ?_
  refine ⟨fun i m σ H => m = items.length - i ∧ i ≤ items.length ∧ ∃ G2 δ2, G1.le G2 ∧ Rl X.mg X.K B G2 δ2 σ H ∧ forL g fs (items.drop i) δ2 = some (fl, δ'), ⟨_, rfl, Nat.zero_le _, G1, δ1, .refl G1, R1, h⟩, ?_⟩
  rintro i m σ2 H2 ⟨rfl, hi2, G2, δ2, l2, R2, h2⟩
  have sm : Same G1.F H2 := l2.F.trans R2.sub
  by_cases hlt : i < items.length
  · refine .inr ⟨io.go i H2 sm hlt, fun σ H => ∃ G2 δ2, G1.le G2 ∧ Rl X.mg X.K B G2 δ2 σ H ∧ forL g fs (items.drop (i + 1)) δ2 = some (fl, δ'), fun σ' H' q => ⟨_, (by omega), rfl, hlt, q⟩, fun x H' hy => ?_⟩
    have hd : items.drop i = items[i] :: items.drop (i + 1) := List.drop_eq_getElem_cons hlt
    rw [hd] at h2
    obtain ⟨G3, l3, R3, rx⟩ := io.yld B G2 δ2 σ2 i H2 x H' items[i] l2 R2 (List.getElem?_eq_getElem hlt) hy
    obtain ⟨δ3, e3, h2⟩ := bnd h2
    obtain ⟨⟨fl4, δ4⟩, e4, h2⟩ := bnd h2
    refine hg B G3 δ2 δ3 _ x σ2 H' _ e3 R3 rx fun G4 σ4 H4 l4 R4 => ?_
    refine hb B G4 δ3 fl4 δ4 σ4 H4 _ e4 R4 ?_
    have ll := (l2.trans l3).trans l4
    cases fl4 with
    | nx => exact fun G' σ' H' l R' => ⟨G', δ4, ll.trans l, R', h2⟩
    | ct => exact fun G' σ' H' l R' => ⟨G', δ4, ll.trans l, R', h2⟩
    | bk =>
      have h2 : some (Fl.nx, δ4) = some (fl, δ') := h2
      cases h2
      exact fun G' σ' H' l R' => k G' σ' H' ((l1.trans ll).trans l) R'
    | rt r =>
      have h2 : some (Fl.rt r, δ4) = some (fl, δ') := h2
      cases h2
      exact fun G' v σ' H' l R' o => k G' v σ' H' ((l1.trans ll).trans l) R' o
  · have e : i = items.length := by omega
    subst e
    rw [List.drop_length] at h2
    cases h2
    exact .inl ⟨io.stop _ H2 sm rfl, k G2 σ2 H2 (l1.trans l2) R2⟩
/-! ### what is walked -/
def iLst (f : DE) : DI := fun δ => (f δ).bind fun p => match p.1 with
  | .slot i => match δ.sl[i]? with
    | some (some (.val (.lst ds))) => some (ds, p.2)
    | some (some (.val (.klst ds))) => some (ds, p.2)
    | _ => none
  | .val (.lst ds) => some (ds, p.2)
  | .val (.klst ds) => some (ds, p.2)
  | .fresh (.lst ds) => some (ds, p.2)
  | _ => none
def iSrc (p : RV × DSt) : Option D := match p.1.keep p.2 with
  | some d => some d
  | none => none
def iSeq (f : DE) : DI := fun δ => (f δ).bind fun p => (p.1.keep p.2).bind fun d => match d with
  | .lst ds => some (ds, p.2)
  | .klst ds => some (ds, p.2)
  | _ => none
def iTp (f : DE) : DI := fun δ => (f δ).bind fun p => (p.1.keep p.2).bind fun d => match d with
  | .tup ds => some (ds, p.2)
  | _ => none
theorem itl_ok {mg : Str → Option Value} {K : PySem.W.Frag} {G : Gh} {a : Addr} {xs : List V} {ds : List D} (hs : SqL K G.F a xs) (hr : Reps mg K G.F G.ρ xs ds) : ItOk mg K G (Itl K a) ds where
  go := fun i H s hi => ⟨xs, xs[i]'(by rw [hr.length]; exact hi), s.seq hs, by simp [hr.length, hi]⟩
  stop := fun i H s hi => ⟨xs, s.seq hs, by rw [hr.length]; exact Nat.le_of_eq hi.symm⟩
  yld := by
    intro B G' δ σ i H x H' d l R hd hy
    obtain ⟨e, hy⟩ := hy
    subst e
    obtain ⟨v, hv, rv⟩ := hr.get hd
    have := hy xs ((l.F.trans R.sub).seq hs)
    rw [hv] at this; cases this
    exact ⟨G', .refl G', R, Rep.mono l.F l.ρ _ _ rv⟩
theorem itt_ok {mg : Str → Option Value} {K : PySem.W.Frag} {G : Gh} {a : Addr} {xs : List V} {ds : List D} (hs : SqT K G.F a xs) (hr : Reps mg K G.F G.ρ xs ds) : ItOk mg K G (Itt K a) ds where
  go := fun i H s hi => ⟨xs, xs[i]'(by rw [hr.length]; exact hi), sqT_same s hs, by simp [hr.length, hi]⟩
  stop := fun i H s hi => ⟨xs, sqT_same s hs, by rw [hr.length]; exact Nat.le_of_eq hi.symm⟩
  yld := by
    intro B G' δ σ i H x H' d l R hd hy
    obtain ⟨e, hy⟩ := hy
    subst e
    obtain ⟨v, hv, rv⟩ := hr.get hd
    have := hy xs (sqT_same (l.F.trans R.sub) hs)
    rw [hv] at this; cases this
    exact ⟨G', .refl G', R, Rep.mono l.F l.ρ _ _ rv⟩
theorem sndi_lst (he : Snd X iter f) : SndI X tg iter (iSeq f) := by
  intro B G δ items δ' σ H Rr h R k
  obtain ⟨⟨r, δ1⟩, e1, h⟩ := bnd h
  obtain ⟨d, e2, h⟩ := bnd h
  refine tIt_of (pi_list (pe_tE X iter)) ?_
  refine he B G δ r δ1 σ H _ e1 R fun G1 v H1 l1 R1 o1 => ?_
  obtain ⟨G2, l2, R2, rv⟩ := R1.keep o1 e2
  cases d with
  | lst ds =>
    cases h
    cases rv with
    | lst h1 h2 => exact ⟨_, rfl, ⟨_, .of (R2.sub _ _ h1)⟩, k G2 _ H1 (l1.trans l2) R2 (itl_ok (.of h1) h2)⟩
  | klst ds =>
    cases h
    cases rv with
    | klst h1 h2 => exact ⟨_, rfl, ⟨_, R2.sub.seq h1⟩, k G2 _ H1 (l1.trans l2) R2 (itl_ok h1 h2)⟩
  | _ => cases h
theorem sndi_tup (he : Snd X iter f) : SndI X tg iter (iTp f) := by
  intro B G δ items δ' σ H Rr h R k
  obtain ⟨⟨r, δ1⟩, e1, h⟩ := bnd h
  obtain ⟨d, e2, h⟩ := bnd h
  refine tIt_of (pi_tup (pe_tE X iter)) ?_
  refine he B G δ r δ1 σ H _ e1 R fun G1 v H1 l1 R1 o1 => ?_
  obtain ⟨G2, l2, R2, rv⟩ := R1.keep o1 e2
  cases d with
  | tup ds =>
    cases h
    cases rv with
    | tup h1 h2 => exact ⟨_, rfl, ⟨_, sqT_same R2.sub h1⟩, k G2 _ H1 (l1.trans l2) R2 (itt_ok h1 h2)⟩
  | _ => cases h
/-- lo, lo + 1, .. (n of them) -/
def rngD (lo : Int) (n : Nat) : List D := (List.range n).map fun i => .int (lo + (i : Nat))
theorem itr_ok {mg : Str → Option Value} {K : PySem.W.Frag} {G : Gh} {lo : Int} {n : Nat} : ItOk mg K G (Itr lo n) (rngD lo n) where
  go := fun i H s hi => by
    have q : i < n := by simpa [rngD] using hi
    exact q
  stop := fun i H s hi => by
    have q : n ≤ i := Nat.le_of_eq (by simpa [rngD] using hi.symm)
    exact q
  yld := by
    intro B G' δ σ i H x H' d l R hd hy
    obtain ⟨e, hy⟩ := hy
    subst e
    subst hy
    have hi : i < n := by
      have := (List.getElem?_eq_some_iff.mp hd).1
      simpa [rngD] using this
    have e : d = .int (lo + (i : Nat)) := by
      unfold rngD at hd
      rw [List.getElem?_map, List.getElem?_range hi] at hd
      exact (Option.some.inj hd).symm
    subst e
    exact ⟨G', .refl G', R, .int _⟩
def iRg1 (f : DA) : DI := fun δ => (f δ).bind fun p => (rdAll p.2 p.1).bind fun ds => match ds with
  | [.int j] => if -4611686018427387904 ≤ j ∧ j < 4611686018427387904 then some (rngD 0 j.toNat, p.2) else none
  | _ => none
def iRg2 (f : DA) : DI := fun δ => (f δ).bind fun p => (rdAll p.2 p.1).bind fun ds => match ds with
  | [.int i, .int j] => if (-4611686018427387904 ≤ i ∧ i < 4611686018427387904) ∧ -4611686018427387904 ≤ j ∧ j < 4611686018427387904 then some (rngD i (j - i).toNat, p.2) else none
  | _ => none
theorem creps1 {mg : Str → Option Value} {K : PySem.W.Frag} {F : Hp} {ρ : List Addr} {H : Hp} {vs : List V} {d : D} (h : CReps mg K F ρ H vs [d]) : ∃ v, vs = [v] ∧ CRep mg K F ρ H v d := by
  cases h with
  | cons a b => cases b; exact ⟨_, rfl, a⟩
theorem creps2 {mg : Str → Option Value} {K : PySem.W.Frag} {F : Hp} {ρ : List Addr} {H : Hp} {vs : List V} {d e : D} (h : CReps mg K F ρ H vs [d, e]) : ∃ v w, vs = [v, w] ∧ CRep mg K F ρ H v d ∧ CRep mg K F ρ H w e := by
  cases h with
  | cons a b =>
    cases b with
    | cons b c => cases c; exact ⟨_, _, rfl, a, b⟩
theorem sndi_rng1 {fs1 : DA} (hg : Gl X "range") (hm : X.mg "range" = none) (ha : SndA X [a] fs1) (hs : starEach [a] X.env = [(false, eval a X.env)]) : SndI X tg (.Call (.Name "range" p) [a] [] pos) (iRg1 fs1) := by
  intro B G δ items δ' σ H Rr h R k
  obtain ⟨⟨rs, δ1⟩, e1, h⟩ := bnd h
  obtain ⟨ds, e2, h⟩ := bnd h
  refine tIt_of (pi_range1 hg hm (pa_tA X [a]) hs) ?_
  refine ha B G δ rs δ1 σ H _ e1 R fun G1 vs H1 l1 R1 o1 => ?_
  have cr := R1.rdAll o1 e2
  split at h
  · rename_i j
    split at h
    · rename_i hb
      cases h
      obtain ⟨v, rfl, c1⟩ := creps1 cr
      rw [c1.int]
      exact ⟨j, rfl, by omega, by omega, k G1 _ H1 l1 R1 itr_ok⟩
    · cases h
  · cases h
theorem sndi_rng2 {fs1 : DA} (hg : Gl X "range") (hm : X.mg "range" = none) (ha : SndA X [a, b] fs1) (hs : starEach [a, b] X.env = [(false, eval a X.env), (false, eval b X.env)]) (hs2 : starEach [b] X.env = [(false, eval b X.env)]) : SndI X tg (.Call (.Name "range" p) [a, b] [] pos) (iRg2 fs1) := by
  intro B G δ items δ' σ H Rr h R k
  obtain ⟨⟨rs, δ1⟩, e1, h⟩ := bnd h
  obtain ⟨ds, e2, h⟩ := bnd h
  refine tIt_of (pi_range2 hg hm (pa_tA X [a, b]) hs hs2) ?_
  refine ha B G δ rs δ1 σ H _ e1 R fun G1 vs H1 l1 R1 o1 => ?_
  have cr := R1.rdAll o1 e2
  split at h
  · rename_i i j
    split at h
    · rename_i hb
      cases h
      obtain ⟨v, w, rfl, c1, c2⟩ := creps2 cr
      rw [c1.int, c2.int]
      exact ⟨i, j, rfl, by omega, k G1 _ H1 l1 R1 itr_ok⟩
    · cases h
  · cases h
end
end EV
set_option Elab.async false
set_option linter.all false
set_option maxRecDepth 100000
/-! EV 4: defs, their promises, calls; classes -/
namespace EV
open PySem L2 PySem.Spec PyProof.Rows

/-! ### contracts that know that no guard stands -/
structure FnG (P : Program) (w : World) (K : PySem.W.Frag) (mg : Str → Option Value) (base : Heap) (k : Nat) (f : Addr) (fd : FuncData) (ps : List Str) (sp : Sp) : Prop where
  len : ∀ vs H Q E, sp vs H Q E → vs.length = ps.length
  run : ∀ (A : Around) (outer : List Env) (s : Shared) (H : Hp) (args : Args) (us : List Value) (vs : List V) (Q : VK) (E : XK), A.guards = some [] → Room k A → Env0 P w K mg base A outer s H →
    BindsTo s fd args (ps.zip us) → Vals vs us → sp vs H Q E → codeAny (model P w) A (.call (.ref f) args) (CR L2.CX0 outer P w H s Q E) s
section
variable {P : Program} {w : World} {K : PySem.W.Frag} {mg : Str → Option Value} {base : Heap}
theorem guards_deeper (A : Around) (env : Env) : (A.deeper env).guards = A.guards := rfl
theorem guards_make {A : Around} {C : Addr} {us : List Value} {kw : List (Str × Value)} (h : A.guards = some []) : (A.under (.builtin "type.__call__" ⟨.ref C :: us, kw⟩)).guards = some [] := by
  have e : (Code.builtin "type.__call__" ⟨.ref C :: us, kw⟩).guards = [] := by
    unfold Code.guards
    rw [show (Code.builtin "type.__call__" ⟨.ref C :: us, kw⟩).isGuard = false from by
      show guardIds.contains "type.__call__" = false
      decide +kernel]
    rfl
  have e2 : (A.under (.builtin "type.__call__" ⟨.ref C :: us, kw⟩)).guards = pushGuards (Code.builtin "type.__call__" ⟨.ref C :: us, kw⟩).guards A.guards := rfl
  rw [e2, e]; exact h
/-- a def by its body -/
theorem fnG_of {k : Nat} {f : Addr} {name qual : Str} {params : Arguments} {body : List Stmt} {scope : Scope} {dV kV doc pm cdv ct oc : Value} {an od : Option Addr} {osl : Array (Option Value)} {N ps : List Str} {sp : Sp}
    (lk : K.lookup f = some ⟨oc, od, .func (PySem.W.fnOf name qual params body scope dV kV doc pm an cdv ct), osl⟩) (hcd : PySem.W.codeIn K cdv qual = true) (S : FnScope N ps scope) (len : ∀ vs H Q E, sp vs H Q E → vs.length = ps.length)
    (hb : ∀ (A : Around) (outer : List Env) (s : Shared) (H : Hp) (vs : List V) (Q : VK) (E : XK), A.guards = some [] → Room k (A.deeper (envOfC qual scope s.heap.objs.size f cdv)) → sp vs H Q E →
      tBk ((cxOf L2.CX0 P w K mg base N qual scope f cdv A outer s H E).nox) body { nx := fun _ H' => Q .non H', rt := Q } (L2.start N vs) H) :
    FnG P w K mg base (k + 1) f (PySem.W.fnOf name qual params body scope dV kV doc pm an cdv ct) ps sp := by
  refine ⟨len, fun A outer s H args us vs Q E hgu hr e0 hbd r hsp => ?_⟩
  have hvl := len _ _ _ _ hsp
  have inK : K.In s.heap := e0.mod.kin.keeps fun b o e => (e0.bs b o e).1
  have noL : s.heap.NoLimit := e0.mod.nolimit.keeps fun b o e => (e0.bs b o e).1
  have kinds : ∀ y ∈ ps.zip us, scope.names.lookup y.1 = some .local ∨ (scope.names.lookup y.1 = some .cell ∧ ((cellsFrom (s.heap.objs.size + 1) scope.names []).lookup y.1).isSome = true) := fun ⟨n, v⟩ hy => by
    rcases S.par n (List.of_mem_zip hy).1 with q | q
    · exact .inl q
    · exact .inr ⟨q, PySem.W.cellsFrom_some _ _ _ (.inl q)⟩
  refine codeAny_call_function hr.depth (inK _ _ lk) rfl S.co S.gen rfl (PySem.W.codeRec_of inK hcd) (hbd _ _ _ _ ?_)
  refine wpAny_newFunctionEnv_cells S.kind kinds fun env he s1 x => ?_
  subst he
  refine ⟨noL.keeps x.toInCall.keep, codeAny_func ?_⟩
  have hq := (PSs.nox (pss_tBk ((cxOf L2.CX0 P w K mg base N qual scope f cdv A outer s H E).nox) body)).run [] s1 (L2.start N vs) H _ (inv_start S hr.hd e0 hvl r x) (hb A outer s H vs Q E hgu (hr.deeper _) hsp)
  refine wpAny_mono hq (fun fl s' hs => ?_) fun e s' hs => hs
  cases fl with
  | ret u =>
    obtain ⟨v, σ', H', J, rv, q⟩ := hs
    exact ⟨v, H', J.os, J.bare, J.base, J.hok, rv, q⟩
  | next =>
    obtain ⟨σ', H', J, q⟩ := hs
    exact ⟨V.non, H', J.os, J.bare, J.base, J.hok, rfl, q⟩
  | brk =>
    obtain ⟨_, _, _, q⟩ := hs
    exact False.elim q
  | cont =>
    obtain ⟨_, _, _, q⟩ := hs
    exact False.elim q
end
section
variable {X : Cx} {pins : List (Addr × Obj)} {σ : L2.St} {H : Hp} {s : Shared} {Q : VK} {us ds : List Value} {vs dvs : List V} {k : Nat} {f C : Addr} {fd : FuncData} {ps : List Str} {sp : Sp}
theorem run_G {args : Args} {A : Around} {s1 : Shared} {ws : List Value} {zs : List V} {H1 : Hp} {E' : Value → Shared → Prop} (F : FnG X.prog X.w X.K X.mg X.base k f fd ps sp) (hgu : A.guards = some []) (hr : Room k A) (e0 : Env0 X.prog X.w X.K X.mg X.base A X.stack s1 H1)
    (hb : BindsTo s1 fd args (ps.zip ws)) (r : Vals zs ws) (h : sp zs H1 Q fun _ _ _ => False) {R : Result → Shared → Prop} (hR : ∀ u s', CE X.stack X.prog X.w H1 s1 Q u s' → R (.ok (.ret u)) s') :
    codeAny (model X.prog X.w) A (.call (.ref f) args) R s1 := by
  refine codeAny_mono (F.run A X.stack s1 H1 args ws zs Q _ hgu hr e0 hb r h) fun r s' hq => ?_
  cases r with
  | error e => exact False.elim hq
  | ok fl =>
    cases fl with
    | ret u => exact hR u s' hq
    | next => exact False.elim hq
    | brk => exact False.elim hq
    | cont => exact False.elim hq
theorem run_fnG (F : FnG X.prog X.w X.K X.mg X.base k f fd ps sp) (hgu : X.A.guards = some []) (hr : Room k X.A) (hb : Binds X.K fd ps ds) (hd : Vals dvs ds) (I : Inv X pins σ H s) (r : Vals vs us) (h : sp (vs ++ dvs) H Q fun _ _ _ => False) :
    wpAny (model X.prog X.w) X.A (call (.ref f) us) (EP X pins σ Q) X.xe s := by
  have r2 : Vals (vs ++ dvs) (us ++ ds) := r.append hd
  have hl : (us ++ ds).length = ps.length := by rw [← r2.length]; exact F.len _ _ _ _ h
  exact wpAny_call (run_G (E' := X.xe) F hgu hr I.env0 (hb s us I.kIn hl) r2 h fun u s' q => I.after q)
end

/-! ### promises by data -/
inductive Ret where
  | val (d : D) | fresh (d : D)
def Ret.rv : Ret → RV
  | .val d => .val d
  | .fresh d => .fresh d
def Ces (mg : Str → Option Value) (K : PySem.W.Frag) (F : Hp) (ρ : List Addr) (H : Hp) (ce : List D) : Prop := ce.length = ρ.length ∧ ∀ (k : Nat) (d : D), ce[k]? = some d → ∃ p, ρ[k]? = some p ∧ ORep mg K F ρ H p d
def RetOk (mg : Str → Option Value) (K : PySem.W.Frag) (F : Hp) (ρ : List Addr) (H H' : Hp) : Ret → V → Prop
  | .val d, v => Rep mg K F ρ v d
  | .fresh d, v => ∃ p, v = .ref p ∧ H p = none ∧ F p = none ∧ ORep mg K F ρ H' p d
/-- what a call leaves -/
structure Aft (mg : Str → Option Value) (K : PySem.W.Frag) (F : Hp) (ρ W : List Addr) (H : Hp) (F' H' : Hp) (ce' : List D) : Prop where
  ff : Same F F'
  fh : Same F' H'
  fr : ∀ b o, H b = some o → b ∉ W → H' b = some o
  dom : ∀ b, H' b = none → H b = none
  old : ∀ b o, H b = some o → F' b = F b
  ces : Ces mg K F' ρ H' ce'
def SpD (mg : Str → Option Value) (K : PySem.W.Frag) (n : Nat) (rel : List D → List D → Ret → List D → Prop) : Sp := fun vs H Q _ => ∃ (F : Hp) (ρ : List Addr) (ds ce : List D) (r : Ret) (ce' : List D),
  Same F H ∧ ρ.Nodup ∧ (∀ p ∈ ρ, F p = none) ∧ Reps mg K F ρ vs ds ∧ Ces mg K F ρ H ce ∧ ds.length = n ∧ rel ds ce r ce' ∧
  ∀ (F' : Hp) (v : V) (H' : Hp), Aft mg K F ρ ρ H F' H' ce' → RetOk mg K F' ρ H H' r v → Q v H'

mutual
/-- no cell from n on -/
def D.lowC (n : Nat) : D → Bool
  | .lst xs => D.lowCs n xs
  | .tup xs => D.lowCs n xs
  | .klst xs => D.lowCs n xs
  | .ins _ _ xs => D.lowCs n xs
  | .dic ks vs => D.lowCs n ks && D.lowCs n vs
  | .cell k => decide (k < n)
  | _ => true
def D.lowCs (n : Nat) : List D → Bool
  | [] => true
  | x :: xs => x.lowC n && D.lowCs n xs
end
section
variable {mg : Str → Option Value} {K : PySem.W.Frag} {F H : Hp} {ρ t : List Addr}
mutual
theorem Rep.cut : ∀ (d : D) (v : V), d.lowC ρ.length = true → Rep mg K F (ρ ++ t) v d → Rep mg K F ρ v d
  | .non, _, _, h => by cases h; exact .non
  | .bl _, _, _, h => by cases h; exact .bl _
  | .int _, _, _, h => by cases h; exact .int _
  | .str _, _, _, h => by cases h; exact .str _
  | .lst ds, _, b, h => by
    cases h with
    | lst h1 h2 => exact .lst h1 (Reps.cut ds _ (by simpa [D.lowC] using b) h2)
  | .klst ds, _, b, h => by
    cases h with
    | klst h1 h2 => exact .klst h1 (Reps.cut ds _ (by simpa [D.lowC] using b) h2)
  | .tup ds, _, b, h => by
    cases h with
    | tup h1 h2 => exact .tup h1 (Reps.cut ds _ (by simpa [D.lowC] using b) h2)
  | .ins _ _ ds, _, b, h => by
    cases h with
    | ins h1 h2 h3 h4 => exact .ins h1 h2 h3 (Reps.cut ds _ (by simpa [D.lowC] using b) h4)
  | .dic ks vs, _, b, h => by
    have b' : D.lowCs ρ.length ks = true ∧ D.lowCs ρ.length vs = true := by simpa [D.lowC] using b
    cases h with
    | dic h1 h2 h3 => exact .dic h1 h2 (Reps.cut vs _ b'.2 h3)
  | .cell k, _, b, h => by
    cases h with
    | cell h1 =>
      have hk : k < ρ.length := by simpa [D.lowC] using b
      exact .cell (by rw [List.getElem?_append_left hk] at h1; exact h1)
  | .ty _, _, _, h => by cases h; exact .ty _
  | .fn _, _, _, h => by
    cases h with
    | fn h1 => exact .fn h1
theorem Reps.cut : ∀ (ds : List D) (vs : List V), D.lowCs ρ.length ds = true → Reps mg K F (ρ ++ t) vs ds → Reps mg K F ρ vs ds
  | [], _, _, h => by cases h; exact .nil
  | d :: ds, _, b, h => by
    have b' : d.lowC ρ.length = true ∧ D.lowCs ρ.length ds = true := by simpa [D.lowCs] using b
    cases h with
    | cons h1 h2 => exact .cons (Rep.cut d _ b'.1 h1) (Reps.cut ds _ b'.2 h2)
end
theorem ORep.cut {p : Addr} {d : D} (b : d.lowC ρ.length = true) (h : ORep mg K F (ρ ++ t) H p d) : ORep mg K F ρ H p d := by
  cases d <;> try exact h.elim
  · obtain ⟨xs, h1, h2⟩ := h; exact ⟨xs, h1, Reps.cut _ _ (by simpa [D.lowC] using b) h2⟩
  · obtain ⟨C, dx, fs, h1, h2, h3, h4⟩ := h; exact ⟨C, dx, fs, h1, h2, h3, Reps.cut _ _ (by simpa [D.lowC] using b) h4⟩
theorem lowCs_get {n : Nat} : ∀ {ds : List D} {i : Nat} {d : D}, D.lowCs n ds = true → ds[i]? = some d → d.lowC n = true
  | [], _, _, _, h => by simp at h
  | x :: xs, 0, d, b, h => by
    have b' : x.lowC n = true ∧ D.lowCs n xs = true := by simpa [D.lowCs] using b
    simp at h; subst h; exact b'.1
  | x :: xs, i + 1, d, b, h => by
    have b' : x.lowC n = true ∧ D.lowCs n xs = true := by simpa [D.lowCs] using b
    exact lowCs_get (i := i) b'.2 (by simpa using h)
end

/-! ### the run of a def -/
def Ret.lowC (n : Nat) : Ret → Bool
  | .val d => d.lowC n
  | .fresh d => d.lowC n
/-- the end: cells that were made in the body are gone -/
def fin (n : Nat) (r : Ret) (ce : List D) : Option (Ret × List D) :=
  if ce.length = n then some (r, ce) else if (r.lowC n && D.lowCs n (ce.take n)) = true then some (r, ce.take n) else none
def retOf (δ : DSt) : RV → Option Ret
  | .val d => some (.val d)
  | .fresh d => some (.fresh d)
  | .slot i => match δ.sl[i]? with
    | some (some (.val d)) => some (.val d)
    | some (some (.own d)) => some (.fresh d)
    | _ => none
def startD (n : Nat) (ds ce : List D) : DSt := ⟨ds.map (fun d => some (SD.val d)) ++ List.replicate (n - ds.length) none, ce⟩
def runF (n : Nat) (f : DS) (ds ce : List D) : Option (Ret × List D) := (f (startD n ds ce)).bind fun p => match p.1 with
  | .nx => fin ce.length (.val .non) p.2.ce
  | .rt r => (retOf p.2 r).bind fun q => fin ce.length q p.2.ce
  | _ => none
section
variable {mg : Str → Option Value} {K : PySem.W.Frag} {F H : Hp} {ρ : List Addr} {ds ce : List D} {vs : List V} {N : List Str}
theorem start_rl (h1 : Same F H) (h2 : ρ.Nodup) (h3 : ∀ p ∈ ρ, F p = none) (h4 : Reps mg K F ρ vs ds) (h5 : Ces mg K F ρ H ce) (hn : ds.length ≤ N.length) :
    Rl mg K ⟨H, F, ρ⟩ ⟨F, ρ, fun _ => none⟩ (startD N.length ds ce) (L2.start N vs) H := by
  have hl := h4.length
  exact {
    sub := h1, fow := fun _ _ q => (by cases q), foc := h3, oc := fun _ _ q => (by cases q), nd := h2, oh := fun _ _ q => (by cases q)
    ch := fun p hp z => by
      obtain ⟨k, hk⟩ := List.getElem?_of_mem hp
      have hkl := (List.getElem?_eq_some_iff.mp hk).1
      obtain ⟨d, hd⟩ : ∃ d, ce[k]? = some d := ⟨ce[k]'(by rw [h5.1]; exact hkl), by simp [h5.1, hkl]⟩
      obtain ⟨p', e1, e2⟩ := h5.2 k d hd
      rw [hk] at e1; cases e1
      obtain ⟨o, ho⟩ := e2.there
      have z' : H p = none := z
      rw [ho] at z'; cases z'
    sv := fun i d q => by
      have q : (ds.map (fun d => some (SD.val d)) ++ List.replicate (N.length - ds.length) none)[i]? = some (some (SD.val d)) := q
      by_cases hi : i < ds.length
      · rw [List.getElem?_append_left (by simpa using hi), List.getElem?_map] at q
        cases e : ds[i]? with
        | none => rw [e] at q; cases q
        | some d' =>
          rw [e] at q; cases q
          obtain ⟨v, hv, rv⟩ := h4.get e
          refine ⟨v, ?_, rv⟩
          unfold L2.start
          rw [List.getElem?_append_left (by rw [List.length_map]; omega), List.getElem?_map, hv]
          rfl
      · rw [List.getElem?_append_right (by simpa using hi), List.getElem?_replicate] at q
        split at q <;> cases q
    so := fun i d q => by
      have q : (ds.map (fun d => some (SD.val d)) ++ List.replicate (N.length - ds.length) none)[i]? = some (some (SD.own d)) := q
      by_cases hi : i < ds.length
      · rw [List.getElem?_append_left (by simpa using hi), List.getElem?_map] at q
        cases e : ds[i]? with
        | none => rw [e] at q; cases q
        | some d' => rw [e] at q; cases q
      · rw [List.getElem?_append_right (by simpa using hi), List.getElem?_replicate] at q
        split at q <;> cases q
    sl := by
      unfold startD L2.start
      simp only [List.length_append, List.length_map, List.length_replicate]
      omega
    ce := h5.2, cl := h5.1, fr := fun _ _ q _ => q, dom := fun _ q => q, new := fun _ _ q => (by cases q), fnew := fun _ _ _ => rfl, pre := ⟨[], by simp⟩ }
/-- a body's end is what the promise wants -/
theorem fin_ok {G : Gh} {δ : DSt} {σ : L2.St} {H' : Hp} {r : Ret} {r' : Ret} {ce' : List D} {v : V} (R : Rl mg K ⟨H, F, ρ⟩ G δ σ H') (h5 : Ces mg K F ρ H ce) (ff : Same F G.F) (q : fin ce.length r δ.ce = some (r', ce')) (hr : RetOk mg K G.F G.ρ H H' r v) :
    Aft mg K F ρ ρ H G.F H' ce' ∧ RetOk mg K G.F ρ H H' r' v := by
  obtain ⟨t, et, ht⟩ := R.pre
  have et : G.ρ = ρ ++ t := et
  have cut : ∀ d p, d.lowC ρ.length = true → ORep mg K G.F G.ρ H' p d → ORep mg K G.F ρ H' p d := fun d p b h => ORep.cut b (by rw [et] at h; exact h)
  have fr : ∀ b o, H b = some o → b ∉ ρ → H' b = some o := R.fr
  have old : ∀ b o, H b = some o → G.F b = F b := R.fnew
  unfold fin at q
  split at q
  · rename_i hl
    cases q
    have h0 : t = [] := by
      have e := R.cl
      rw [et, List.length_append, hl, h5.1] at e
      exact List.eq_nil_of_length_eq_zero (by omega)
    subst h0
    rw [List.append_nil] at et
    refine ⟨⟨ff, R.sub, fr, R.dom, old, ⟨by rw [← et]; exact R.cl, fun k d hd => ?_⟩⟩, by rw [et] at hr; exact hr⟩
    have := R.ce k d hd
    rw [et] at this; exact this
  · split at q
    · rename_i hb
      cases q
      have hb : r.lowC ce.length = true ∧ D.lowCs ce.length (δ.ce.take ce.length) = true := by simpa using hb
      rw [h5.1] at hb
      refine ⟨⟨ff, R.sub, fr, R.dom, old, ⟨?_, fun k d hd => ?_⟩⟩, ?_⟩
      · have e := R.cl
        rw [et, List.length_append] at e
        rw [List.length_take, h5.1]; omega
      · have hk : k < ce.length := by
          have := (List.getElem?_eq_some_iff.mp hd).1
          rw [List.length_take] at this; omega
        have bd := lowCs_get (by rw [← h5.1] at hb; exact hb.2) hd
        rw [List.getElem?_take_of_lt hk] at hd
        obtain ⟨p, e1, e2⟩ := R.ce k d hd
        refine ⟨p, ?_, cut d p (by rw [← h5.1]; exact bd) e2⟩
        rw [et, List.getElem?_append_left (by rw [← h5.1]; exact hk)] at e1
        exact e1
      · cases r with
        | val d =>
          have hr : Rep mg K G.F G.ρ v d := hr
          rw [et] at hr
          exact Rep.cut d v hb.1 hr
        | fresh d =>
          obtain ⟨p, e1, e2, e3, e4⟩ := hr
          exact ⟨p, e1, e2, e3, cut d p hb.1 e4⟩
    · cases q
end

/-! ### a def of the text -/
/-- what a call of f is worth: g of the arguments and the cells (fuel first) -/
structure CalD (P : Program) (w : World) (K : PySem.W.Frag) (mg : Str → Option Value) (base : Heap) (k : Nat) (f : Addr) (fd : FuncData) (ps : List Str) (g : Nat → List D → List D → Option (Ret × List D)) : Prop where
  ok : FnG P w K mg base k f fd ps (SpD mg K ps.length fun ds ce r ce' => ∃ n, g n ds ce = some (r, ce'))
  kp : PySem.W.keepIn K (.ref f) = true
theorem body_run {P : Program} {w : World} {K : PySem.W.Frag} {mg : Str → Option Value} {base : Heap} {qual : Str} {st : Stmt} {f : Addr} {N ps : List Str} {g : DS} {cdv : Value} {A : Around} {outer : List Env} {s : Shared} {H H0 F : Hp} {E : XK} {ρ : List Addr} {vs : List V} {ds ce ce' : List D} {r : Ret} {Q : VK} (S : FnScope N ps (defScope st))
    (hb : SndB ((cxOf L2.CX0 P w K mg base N qual (defScope st) f cdv A outer s H0 E).nox) (defBody st) g) (h1 : Same F H) (h2 : ρ.Nodup) (h3 : ∀ p ∈ ρ, F p = none) (h4 : Reps mg K F ρ vs ds) (h5 : Ces mg K F ρ H ce) (h6 : ds.length = ps.length) (h7 : runF N.length g ds ce = some (r, ce'))
    (h8 : ∀ (F' : Hp) (v : V) (H' : Hp), Aft mg K F ρ ρ H F' H' ce' → RetOk mg K F' ρ H H' r v → Q v H') : tBk ((cxOf L2.CX0 P w K mg base N qual (defScope st) f cdv A outer s H0 E).nox) (defBody st) { nx := fun _ H' => Q .non H', rt := Q } (L2.start N vs) H := by
  obtain ⟨⟨fl, δ'⟩, e1, e2⟩ := bnd h7
  have hpl : ds.length ≤ N.length := by
    rw [h6]
    have := congrArg List.length S.pre
    rw [List.length_take] at this; omega
  refine hb ⟨H, F, ρ⟩ ⟨F, ρ, fun _ => none⟩ (startD N.length ds ce) fl δ' (L2.start N vs) H _ e1 (start_rl h1 h2 h3 h4 h5 hpl) ?_
  cases fl with
  | nx =>
    intro G' σ' H' l R'
    obtain ⟨a1, a2⟩ := fin_ok (v := V.non) R' h5 l.F e2 .non
    exact h8 _ _ _ a1 a2
  | bk => cases e2
  | ct => cases e2
  | rt rr =>
    intro G' v σ' H' l R' o
    obtain ⟨q, e3, e4⟩ := bnd e2
    have ro : RetOk mg K G'.F G'.ρ H H' q v := by
      cases rr with
      | val d => cases e3; exact o
      | fresh d =>
        cases e3
        obtain ⟨p, q1, q2, q3, q4, q5, q6⟩ := o
        exact ⟨p, q1, q5, q2, q6⟩
      | slot i =>
        simp only [retOf] at e3
        split at e3
        · rename_i d q
          cases e3
          obtain ⟨v', g1, g2⟩ := R'.sv i d q
          have o' : σ'[i]? = some (some v) := o
          rw [g1] at o'; cases o'
          exact g2
        · rename_i d q
          cases e3
          obtain ⟨p, g1, g2, g3⟩ := R'.so i d q
          have o' : σ'[i]? = some (some v) := o
          rw [g1] at o'; cases o'
          exact ⟨p, rfl, R'.new p i g2, R'.fow p i g2, g3⟩
        · cases e3
    obtain ⟨a1, a2⟩ := fin_ok R' h5 l.F e4 ro
    exact h8 _ _ _ a1 a2

/-! ### calls -/
/-- behind a call (or what is like one) -/
theorem Rl.after {mg : Str → Option Value} {K : PySem.W.Frag} {B : Bs} {G : Gh} {δ : DSt} {σ : L2.St} {H F' H' : Hp} {ce' : List D} {W : List Addr} (R : Rl mg K B G δ σ H) (hW : ∀ p ∈ W, p ∈ G.ρ ∨ (G.ow p = none ∧ B.H0 p = none)) (a : Aft mg K G.F G.ρ W H F' H' ce') : G.le { G with F := F' } ∧ Rl mg K B { G with F := F' } ⟨δ.sl, ce'⟩ σ H' := by
  have le : G.le { G with F := F' } := ⟨a.ff, [], by simp⟩
  have foc : ∀ p ∈ G.ρ, F' p = none := fun p hp => by
    cases q : H p with
    | none => exact absurd q (R.ch p hp)
    | some o => rw [a.old p o q]; exact R.foc p hp
  have nn : ∀ b, H b ≠ none → H' b ≠ none := fun b h z => h (a.dom b z)
  refine ⟨le, ?_⟩
  exact {
    sub := a.fh
    fow := fun p i q => by
      cases e : H p with
      | none => exact absurd e (R.oh p i q)
      | some o =>
        show F' p = none
        rw [a.old p o e]; exact R.fow p i q
    foc := foc, oc := R.oc, nd := R.nd
    oh := fun p i q => nn p (R.oh p i q), ch := fun p q => nn p (R.ch p q)
    sv := fun i d q => let ⟨v, h1, h2⟩ := R.sv i d q; ⟨v, h1, Rep.mono le.F le.ρ _ _ h2⟩
    so := fun i d q => let ⟨p, h1, h2, h3⟩ := R.so i d q; ⟨p, h1, h2, h3.mono le.F le.ρ fun o z => a.fr p o z fun y => (hW p y).elim (R.oc p i h2) fun y => (by rw [y.1] at h2; cases h2)⟩
    sl := R.sl
    ce := a.ces.2, cl := a.ces.1
    fr := fun b o q n => by
      have h1 := R.fr b o q n
      refine a.fr b o h1 fun z => ?_
      rcases hW b z with z | z
      rotate_left
      · rw [z.2] at q; cases q
      obtain ⟨t, e, ht⟩ := R.pre
      rw [e, List.mem_append] at z
      rcases z with z | z
      · exact n z
      · rw [ht b z] at q; cases q
    dom := fun b q => R.dom b (a.dom b q)
    new := R.new
    fnew := fun b o q => by
      have hb : H b ≠ none := fun z => by rw [R.dom b z] at q; cases q
      cases e : H b with
      | none => exact absurd e hb
      | some u =>
        show F' b = _
        rw [a.old b u e]; exact R.fnew b o q
    pre := R.pre }
theorem Rl.ret {mg : Str → Option Value} {K : PySem.W.Frag} {B : Bs} {G : Gh} {δ : DSt} {σ : L2.St} {H F' H' : Hp} {ce' : List D} {r : Ret} {v : V} (R : Rl mg K B G δ σ H) (h : RetOk mg K F' G.ρ H H' r v) : RvOk mg K B { G with F := F' } σ H' r.rv v := by
  cases r with
  | val d => exact h
  | fresh d =>
    obtain ⟨p, e1, e2, e3, e4⟩ := h
    obtain ⟨_, h1, h2, h3, h4⟩ := R.push (o := .lst []) e2
    exact ⟨p, e1, e3, h2, h3, h4, e4⟩
/-- the promise holds at a call -/
theorem Rl.call {mg : Str → Option Value} {K : PySem.W.Frag} {B : Bs} {G : Gh} {δ : DSt} {σ : L2.St} {H : Hp} {n : Nat} {rel : List D → List D → Ret → List D → Prop} {ds ce' : List D} {vs : List V} {r : Ret} {Q : VK} {E : XK} (R : Rl mg K B G δ σ H) (h4 : Reps mg K G.F G.ρ vs ds) (hn : ds.length = n) (hr : rel ds δ.ce r ce')
    (k : Ct mg K B G ⟨δ.sl, ce'⟩ σ r.rv Q) : SpD mg K n rel vs H Q E :=
  ⟨G.F, G.ρ, ds, δ.ce, r, ce', R.sub, R.nd, R.foc, h4, ⟨R.cl, R.ce⟩, hn, hr, fun F' v H' a ro => by
    obtain ⟨l, R'⟩ := R.after (fun _ z => .inl z) a
    exact k _ v H' l R' (R.ret (ce' := ce') ro)⟩
section
variable {X : Cx} {e a b c : Expr} {es : List Expr} {fa fb f : DE} {fas : DA} {pos p apos : Pos} {k j : Nat} {fad : Addr} {fd : FuncData} {ps : List Str} {x m : Str} {g : Nat → List D → List D → Option (Ret × List D)}
def dCall (na : Nat) (g : List D → List D → Option (Ret × List D)) (fas : DA) : DE := fun δ => (fas δ).bind fun p => (keepAll p.2 p.1).bind fun ds => if ds.length = na then (g ds p.2.ce).map fun q => (q.1.rv, ⟨p.2.sl, q.2⟩) else none
theorem snd_call {ddv : List D} {dvs : List V} {ds : List Value} {na : Nat} (n : Nat) (C : CalD X.prog X.w X.K X.mg X.base k fad fd ps g) (hgu : X.A.guards = some []) (hr : Room j X.A) (hk : k ≤ j) (hg : Gl X x) (hm : X.mg x = some (.ref fad)) (hb : Binds X.K fd ps ds) (hd : Vals dvs ds)
    (hdd : ∀ F ρ, Reps X.mg X.K F ρ dvs ddv) (hlen : na + ddv.length = ps.length) (h : SndA X (e :: es) fas)
    (hdb : (x == ("__debug__" : Str)) = false) (he : starEach (e :: es) X.env = (false, eval e X.env) :: starEach es X.env) (hpl : (backTo pos (starEach es X.env)).any (·.1) = false) :
    Snd X (.Call (.Name x p) (e :: es) [] pos) (dCall na (fun ds => g n (ds ++ ddv)) fas) := by
  intro B G δ r δ' σ H Q q R kk pins s I
  obtain ⟨⟨rs, δ1⟩, e1, q⟩ := bnd q
  obtain ⟨ds', e2, q⟩ := bnd q
  split at q
  · rename_i hna
    obtain ⟨⟨r', ce'⟩, e3, q⟩ := Option.map_eq_some_iff.mp q
    cases q
    refine wpAny_Call_Name_kw (ld_glob I hg hm ?_ hdb)
    refine PySem.W.callWith_K (h₀ := X.base) I.ok.mod.kin C.kp (thn (h B G δ rs δ1 σ H (fun vs H1 => SpD X.mg X.K ps.length (fun ds ce r ce' => ∃ n, g n ds ce = some (r, ce')) (vs ++ dvs) H1 Q fun _ _ _ => False) e1 R (fun G1 vs H1 l1 R1 o1 => ?_) pos pins s I) fun us s1 ⟨vs, H1, I1, r1, q1⟩ => ⟨I1.kIn, ?_⟩) he hpl
    · have rp := R1.keepAll o1 e2
      exact R1.call (Reps.append rp (hdd _ _)) (by rw [List.length_append, hna]; exact hlen) ⟨n, e3⟩ fun G2 v H2 l2 R2 o2 => kk G2 v H2 (l1.trans l2) R2 o2
    · exact run_fnG C.ok hgu (hr.mono hk) hb hd I1 r1 q1
  · cases q
end
end EV
set_option Elab.async false
set_option linter.all false
set_option maxRecDepth 100000
/-! EV 5: calls of every form, instances, fields, properties, comprehensions -/
namespace EV
open PySem L2 PySem.Spec PyProof.Rows

/-! ### how arguments come to parameters -/
def pick {α : Type} (ix : List Nat) (l : List α) : List α := ix.filterMap fun i => l[i]?
theorem Vals.pick {vs : List V} {us : List Value} (r : Vals vs us) : ∀ ix : List Nat, Vals (pick ix vs) (pick ix us)
  | [] => .nil
  | i :: ix => by
    unfold EV.pick
    rw [List.filterMap_cons, List.filterMap_cons]
    cases e : vs[i]? with
    | none => rw [r.none_of e]; exact Vals.pick r ix
    | some v =>
      obtain ⟨u, e2, rv⟩ := r.get e
      rw [e2]
      exact .cons rv (Vals.pick r ix)
theorem Reps.pick {mg : Str → Option Value} {K : PySem.W.Frag} {F : Hp} {ρ : List Addr} {vs : List V} {ds : List D} (r : Reps mg K F ρ vs ds) : ∀ ix : List Nat, Reps mg K F ρ (EV.pick ix vs) (EV.pick ix ds)
  | [] => .nil
  | i :: ix => by
    unfold EV.pick
    rw [List.filterMap_cons, List.filterMap_cons]
    cases e : ds[i]? with
    | none =>
      have : vs[i]? = none := by
        have := List.getElem?_eq_none_iff.mp e
        exact List.getElem?_eq_none_iff.mpr (by rw [r.length]; exact this)
      rw [this]; exact Reps.pick r ix
    | some d =>
      obtain ⟨v, e2, rv⟩ := r.get e
      rw [e2]
      exact .cons rv (Reps.pick r ix)
theorem pick_len {α : Type} {l : List α} : ∀ {ix : List Nat}, (∀ i ∈ ix, i < l.length) → (pick ix l).length = ix.length
  | [], _ => rfl
  | i :: ix, h => by
    unfold pick
    rw [List.filterMap_cons, List.getElem?_eq_getElem (h i List.mem_cons_self)]
    exact congrArg Nat.succ (pick_len fun j hj => h j (List.mem_cons_of_mem _ hj))
/-- n positional values, keywords ks, defaults: which goes where -/
structure CalB (mg : Str → Option Value) (K : PySem.W.Frag) (fd : FuncData) (ps : List Str) (n : Nat) (ks : List Str) (ix : List Nat) (ddv : List D) : Prop where
  ex : ∃ (dvs : List V) (ds : List Value), Vals dvs ds ∧ (∀ F ρ, Reps mg K F ρ dvs ddv) ∧
    ∀ (s : Shared) (us ws : List Value), K.In s.heap → us.length = n → ws.length = ks.length → BindsTo s fd ⟨us, ks.zip ws⟩ (ps.zip (pick ix (us ++ (ws ++ ds))))
  len : ix.length = ps.length
  lt : ∀ i ∈ ix, i < n + (ks.length + ddv.length)
section
variable {X : Cx} {pins : List (Addr × Obj)} {σ : L2.St} {H : Hp} {s : Shared} {Q : VK} {us ws : List Value} {vs : List V} {k n : Nat} {f C : Addr} {fd : FuncData} {ps ks : List Str} {ix : List Nat} {ddv : List D} {g : Nat → List D → List D → Option (Ret × List D)}
/-- the promise at values vs (positional, then keywords) -/
def SpC (X : Cx) (ps : List Str) (ix : List Nat) (ddv : List D) (g : Nat → List D → List D → Option (Ret × List D)) (vs : List V) (H : Hp) (Q : VK) : Prop :=
  ∀ dvs : List V, (∀ F ρ, Reps X.mg X.K F ρ dvs ddv) → SpD X.mg X.K ps.length (fun ds ce r ce' => ∃ n, g n ds ce = some (r, ce')) (pick ix (vs ++ dvs)) H Q fun _ _ _ => False
theorem callv {E' : Value → Shared → Prop} {A : Around} (C : CalD X.prog X.w X.K X.mg X.base k f fd ps g) (hb : CalB X.mg X.K fd ps n ks ix ddv) (hgu : A.guards = some []) (hr : Room k A) {s1 : Shared} {H1 : Hp} (e0 : Env0 X.prog X.w X.K X.mg X.base A X.stack s1 H1) (kin : X.K.In s1.heap)
    (r : Vals vs (us ++ ws)) (hn : us.length = n) (hm : ws.length = ks.length) (h : SpC X ps ix ddv g vs H1 Q) {R : Result → Shared → Prop} (hR : ∀ u s', CE X.stack X.prog X.w H1 s1 Q u s' → R (.ok (.ret u)) s') :
    codeAny (model X.prog X.w) A (.call (.ref f) ⟨us, ks.zip ws⟩) R s1 := by
  obtain ⟨dvs, ds, rd, rdd, to⟩ := hb.ex
  have h2 := h dvs rdd
  have r2 : Vals (pick ix (vs ++ dvs)) (pick ix (us ++ (ws ++ ds))) := Vals.pick (by rw [← List.append_assoc]; exact r.append rd) ix
  exact run_G (E' := fun _ _ => False) C.ok hgu hr e0 (to s1 us ws kin hn hm) r2 h2 hR
theorem SpC.of {mg : Str → Option Value} {B : Bs} {G : Gh} {δ : DSt} {ds ce' : List D} {r : Ret} (R : Rl X.mg X.K B G δ σ H) (h4 : Reps X.mg X.K G.F G.ρ vs ds) (hl : ds.length = n + ks.length) (hb : CalB X.mg X.K fd ps n ks ix ddv) {m : Nat} (hr : g m (pick ix (ds ++ ddv)) δ.ce = some (r, ce'))
    (kk : Ct X.mg X.K B G ⟨δ.sl, ce'⟩ σ r.rv Q) : SpC X ps ix ddv g vs H Q := fun dvs hd => by
  refine R.call (Reps.pick (Reps.append h4 (hd _ _)) ix) ?_ ⟨m, hr⟩ kk
  rw [pick_len, hb.len]
  intro i hi
  rw [List.length_append, hl]
  have := hb.lt i hi
  omega
end
/-! ### keywords' values -/
abbrev tKw (X : Cx) (kws : List Keyword) : TA := fun σ H Q => ∀ pos pins s, Inv X pins σ H s → wpAny (model X.prog X.w) X.A (evalAll ((backToKw pos (keywordEach kws X.env)).map (·.2))) (AP X pins σ Q) X.xe s
def SndK (X : Cx) (kws : List Keyword) (f : DA) : Prop := ∀ (B : Bs) (G : Gh) (δ : DSt) (rs : List RV) (δ' : DSt) (σ : L2.St) (H : Hp) (Q : List V → Hp → Prop), f δ = some (rs, δ') → Rl X.mg X.K B G δ σ H →
  (∀ (G' : Gh) (vs : List V) (H' : Hp), G.le G' → Rl X.mg X.K B G' δ' σ H' → RvOks X.mg X.K B G' σ H' rs vs → Q vs H') → tKw X kws σ H Q
section
variable {X : Cx} {e a b c o : Expr} {es : List Expr} {kws : List Keyword} {fa fb fo f : DE} {fas fks : DA} {pos p apos kpos : Pos} {nm : Option Str} {k j n : Nat} {fad C : Addr} {fd : FuncData} {ps ks : List Str} {ix : List Nat} {ddv : List D} {x m : Str} {g : Nat → List D → List D → Option (Ret × List D)}
theorem sndk_nil : SndK X [] dNil := by
  intro B G δ rs δ' σ H Q h R k pos pins s I
  cases h
  exact (pk_nil (X := X)).run pos pins s σ H _ I (k G [] H (.refl G) R .nil)
theorem sndk_cons (ha : Snd X e fa) (hs : SndK X kws fks) : SndK X (⟨nm, e, kpos⟩ :: kws) (dCons fa fks) := by
  intro B G δ rs δ' σ H Q h R k pos pins s I
  obtain ⟨⟨ra, δ1⟩, e1, h⟩ := bnd h
  obtain ⟨⟨r2, δ2⟩, e2, h⟩ := Option.map_eq_some_iff.mp h
  cases h
  have tl : PK X kws (tKw X kws) := ⟨fun pos pins s _ _ _ I q => q pos pins s I⟩
  refine (pk_cons (nm := nm) (kpos := kpos) (pe_tE X e) tl).run pos pins s σ H _ I ?_
  refine ha B G δ ra δ1 σ H _ e1 R fun G1 va H1 l1 R1 o1 => ?_
  obtain ⟨G1', l1', R1', o1'⟩ := R1.pin o1
  refine hs B G1' δ1 r2 _ σ H1 _ e2 R1' fun G2 vs H2 l2 R2 o2 => ?_
  exact k G2 (va :: vs) H2 ((l1.trans l1').trans l2) R2 (.cons (o1'.mono l2) o2)
theorem RvOks.app {mg : Str → Option Value} {K : PySem.W.Frag} {B : Bs} {G : Gh} {σ : L2.St} {H : Hp} : ∀ {rs ts : List RV} {vs ws : List V}, RvOks mg K B G σ H rs vs → RvOks mg K B G σ H ts ws → RvOks mg K B G σ H (rs ++ ts) (vs ++ ws)
  | _, _, _, _, .nil, h => h
  | _, _, _, _, .cons a b, h => .cons a (b.app h)
theorem RvOks.length {mg : Str → Option Value} {K : PySem.W.Frag} {B : Bs} {G : Gh} {σ : L2.St} {H : Hp} : ∀ {rs : List RV} {vs : List V}, RvOks mg K B G σ H rs vs → vs.length = rs.length
  | _, _, .nil => rfl
  | _, _, .cons a b => congrArg Nat.succ b.length
/-- positional values and keywords' values, kept -/
def dAK (n m : Nat) (f fk : DA) : DSt → Option (List D × DSt) := fun δ => (f δ).bind fun p => (fk p.2).bind fun q => (keepAll q.2 (p.1 ++ q.1)).bind fun ds => if p.1.length = n ∧ q.1.length = m then some (ds, q.2) else none
/-- what stands behind the evaluation of all of them -/
theorem ak_run (h : SndA X es fas) (hk : SndK X kws fks) {m : Nat} {B : Bs} {G : Gh} {δ δ' : DSt} {ds : List D} {σ : L2.St} {H : Hp} {Q : List V → List V → Hp → Prop} (q : dAK n m fas fks δ = some (ds, δ')) (R : Rl X.mg X.K B G δ σ H)
    (kk : ∀ (G' : Gh) (vs zs : List V) (H' : Hp), G.le G' → Rl X.mg X.K B G' δ' σ H' → Reps X.mg X.K G'.F G'.ρ (vs ++ zs) ds → vs.length = n → zs.length = m → Q vs zs H') :
    tA X es σ H fun vs H1 => tKw X kws σ H1 fun zs H2 => Q vs zs H2 := by
  obtain ⟨⟨rs, δ1⟩, e1, q⟩ := bnd q
  obtain ⟨⟨ts, δ2⟩, e2, q⟩ := bnd q
  obtain ⟨ds', e3, q⟩ := bnd q
  split at q
  · rename_i hl
    cases q
    refine h B G δ rs δ1 σ H _ e1 R fun G1 vs H1 l1 R1 o1 => ?_
    refine hk B G1 δ1 ts _ σ H1 _ e2 R1 fun G2 zs H2 l2 R2 o2 => ?_
    exact kk G2 vs zs H2 (l1.trans l2) R2 (R2.keepAll ((o1.mono l2).app o2) e3) (o1.length.trans hl.1) (o2.length.trans hl.2)
  · cases q
def dCallK (n m : Nat) (ix : List Nat) (ddv : List D) (g : List D → List D → Option (Ret × List D)) (f fk : DA) : DE := fun δ => (dAK n m f fk δ).bind fun p => (g (pick ix (p.1 ++ ddv)) p.2.ce).map fun q => (q.1.rv, ⟨p.2.sl, q.2⟩)
/-- f(e, .., k = v, ..) -/
theorem snd_callK (N : Nat) (C : CalD X.prog X.w X.K X.mg X.base k fad fd ps g) (hb : CalB X.mg X.K fd ps n ks ix ddv) (hgu : X.A.guards = some []) (hr : Room j X.A) (hk : k ≤ j) (hg : Gl X x) (hm : X.mg x = some (.ref fad)) (h : SndA X (e :: es) fas) (hkw : SndK X kws fks)
    (hall : (backToKw pos (keywordEach kws X.env)).all (·.1.isSome) = true) (hks : (backToKw pos (keywordEach kws X.env)).filterMap (·.1) = ks)
    (hdb : (x == ("__debug__" : Str)) = false) (he : starEach (e :: es) X.env = (false, eval e X.env) :: starEach es X.env) (hpl : ((backTo pos (starEach (e :: es) X.env)).any (·.1) || (backToKw pos (keywordEach kws X.env)).any (·.1.isNone)) = false) :
    Snd X (.Call (.Name x p) (e :: es) kws pos) (dCallK n ks.length ix ddv (g N) fas fks) := by
  intro B G δ r δ' σ H Q q R kk pins s I
  obtain ⟨⟨ds, δ1⟩, e1, q⟩ := bnd q
  obtain ⟨⟨r', ce'⟩, e3, q⟩ := Option.map_eq_some_iff.mp q
  cases q
  refine wpAny_Call_Name_kw (ld_glob I hg hm ?_ hdb)
  refine PySem.W.callWith_KW (h₀ := X.base) I.ok.mod.kin C.kp hall (thn (ak_run h hkw (Q := fun vs zs H2 => SpC X ps ix ddv g (vs ++ zs) H2 Q ∧ vs.length = n ∧ zs.length = ks.length) e1 R (fun G1 vs zs H1 l1 R1 rp hv hz => ⟨?_, hv, hz⟩) pos pins s I) fun us s1 ⟨vs, H1, I1, r1, q1⟩ => thn (q1 pos pins s1 I1) fun ws s2 ⟨zs, H2, I2, r2, q2⟩ => ⟨I2.kIn, ?_⟩) hpl he
  · exact SpC.of (mg := X.mg) R1 rp (by rw [← rp.length, List.length_append, hv, hz]) hb (m := N) e3 fun G2 v H2 l2 R2 o2 => kk G2 v H2 (l1.trans l2) R2 o2
  · rw [hks]
    exact wpAny_call (callv (E' := X.xe) C hb hgu (hr.mono hk) I2.env0 I2.kIn (r1.append r2) (by rw [← r1.length]; exact q2.2.1) (by rw [← r2.length]; exact q2.2.2) q2.1 fun u s' q => I2.after q)
theorem snd_callK0 (N : Nat) (C : CalD X.prog X.w X.K X.mg X.base k fad fd ps g) (hb : CalB X.mg X.K fd ps 0 ks ix ddv) (hgu : X.A.guards = some []) (hr : Room j X.A) (hk : k ≤ j) (hg : Gl X x) (hm : X.mg x = some (.ref fad)) (hkw : SndK X kws fks)
    (hall : (backToKw pos (keywordEach kws X.env)).all (·.1.isSome) = true) (hks : (backToKw pos (keywordEach kws X.env)).filterMap (·.1) = ks)
    (hdb : (x == ("__debug__" : Str)) = false) (hpl : ((backTo pos (starEach [] X.env)).any (·.1) || (backToKw pos (keywordEach kws X.env)).any (·.1.isNone)) = false) :
    Snd X (.Call (.Name x p) [] kws pos) (dCallK 0 ks.length ix ddv (g N) dNil fks) := by
  intro B G δ r δ' σ H Q q R kk pins s I
  obtain ⟨⟨ds, δ1⟩, e1, q⟩ := bnd q
  obtain ⟨⟨r', ce'⟩, e3, q⟩ := Option.map_eq_some_iff.mp q
  cases q
  refine wpAny_Call_Name_kw (ld_glob I hg hm ?_ hdb)
  have run := ak_run (snda_nil (X := X)) hkw (Q := fun vs zs H2 => SpC X ps ix ddv g (vs ++ zs) H2 Q ∧ vs.length = 0 ∧ zs.length = ks.length) e1 R (fun G1 vs zs H1 l1 R1 rp hv hz => ⟨SpC.of (mg := X.mg) R1 rp (by rw [← rp.length, List.length_append, hv, hz]) hb (m := N) e3 fun G2 v H2 l2 R2 o2 => kk G2 v H2 (l1.trans l2) R2 o2, hv, hz⟩)
  obtain ⟨⟨rs, δ2⟩, e4, e5⟩ := bnd e1
  cases e4
  obtain ⟨⟨ts, δ3⟩, e6, e7⟩ := bnd e5
  obtain ⟨ds', e8, e9⟩ := bnd e7
  split at e9
  · rename_i hl
    cases e9
    refine PySem.W.callWith_KW0 (h₀ := X.base) I.ok.mod.kin C.kp hall (thn (hkw B G δ ts _ σ H (fun zs H2 => SpC X ps ix ddv g zs H2 Q ∧ zs.length = ks.length) e6 R (fun G2 zs H2 l2 R2 o2 => ⟨?_, o2.length.trans hl.2⟩) pos pins s I) fun ws s2 ⟨zs, H2, I2, r2, q2⟩ => ⟨I2.kIn, ?_⟩) hpl
    · have rp := R2.keepAll o2 e8
      exact SpC.of (mg := X.mg) R2 rp (by rw [← rp.length, o2.length, hl.2]; omega) hb (m := N) e3 fun G3 v H3 l3 R3 o3 => kk G3 v H3 (l2.trans l3) R3 o3
    · rw [hks]
      exact wpAny_call (callv (E' := X.xe) (us := []) C hb hgu (hr.mono hk) I2.env0 I2.kIn r2 rfl (by rw [← r2.length]; exact q2.2) q2.1 fun u s' q => I2.after q)
  · cases e9
/-- f() -/
def dCall0 (g : List D → List D → Option (Ret × List D)) (ddv : List D) : DE := fun δ => (g ddv δ.ce).map fun q => (q.1.rv, ⟨δ.sl, q.2⟩)
theorem snd_call0 (N : Nat) (C : CalD X.prog X.w X.K X.mg X.base k fad fd ps g) (hb : CalB X.mg X.K fd ps 0 [] ix ddv) (hix : ∀ l : List D, l.length = ddv.length → pick ix l = l) (hgu : X.A.guards = some []) (hr : Room j X.A) (hk : k ≤ j) (hg : Gl X x) (hm : X.mg x = some (.ref fad)) (hdb : (x == ("__debug__" : Str)) = false) :
    Snd X (.Call (.Name x p) [] [] pos) (dCall0 (g N) ddv) := by
  intro B G δ r δ' σ H Q q R kk pins s I
  obtain ⟨⟨r', ce'⟩, e3, q⟩ := Option.map_eq_some_iff.mp q
  cases q
  refine wpAny_Call_Name_kw (ld_glob I hg hm ?_ hdb)
  refine PySem.W.callWith_K0 I.kIn C.kp ?_
  have sp := SpC.of (mg := X.mg) (ks := []) (vs := []) (ds := []) R .nil rfl hb (m := N) (by rw [List.nil_append, hix _ rfl]; exact e3) fun G3 v H3 l3 R3 o3 => kk G3 v H3 l3 R3 o3
  exact wpAny_call (callv (E' := X.xe) (us := []) (ws := []) (ks := []) C hb hgu (hr.mono hk) I.env0 I.kIn .nil rfl rfl sp fun u s' q => I.after q)

/-! ### a new cell for the callee -/
/-- n cells, one more that is made for the callee: what is left of it -/
theorem Rl.callNew {B : Bs} {G : Gh} {δ : DSt} {σ : L2.St} {H : Hp} {q : Addr} {d : D} {m : Nat} {rel : List D → List D → Ret → List D → Prop} {ds ce' : List D} {vs : List V} {r : Ret} {Q : VK} {E : XK} {mg : Str → Option Value} {K : PySem.W.Frag}
    (R : Rl mg K B G δ σ H) (hf : RvOk mg K B G σ H (.fresh d) (.ref q)) (h4 : Reps mg K G.F (G.ρ ++ [q]) vs ds) (hn : ds.length = m) (hr : rel ds (δ.ce ++ [d]) r ce') (lr : r.lowC δ.ce.length = true) (lc : D.lowCs δ.ce.length ce' = true)
    (k : ∀ (F' : Hp) (v : V) (H' : Hp), G.le { G with F := F' } → Rl mg K B { G with F := F' } ⟨δ.sl, ce'.take δ.ce.length⟩ σ H' → RvOk mg K B { G with F := F' } σ H' r.rv v → (∀ dn, ce'[δ.ce.length]? = some dn → RvOk mg K B { G with F := F' } σ H' (.fresh dn) (.ref q)) → Q v H') :
    SpD mg K m rel vs H Q E := by
  obtain ⟨q', e, h1, h2, h3, h5, h6⟩ := hf
  cases e
  have pre : ∃ t, G.ρ ++ [q] = G.ρ ++ t := ⟨[q], rfl⟩
  have cel := R.cl
  have nq : ∀ p ∈ G.ρ, p ≠ q := fun p hp z => h3 (z ▸ hp)
  refine ⟨G.F, G.ρ ++ [q], ds, δ.ce ++ [d], r, ce', R.sub, ?_, ?_, h4, ⟨by rw [List.length_append, List.length_append, cel]; rfl, fun i e hi => ?_⟩, hn, hr, fun F' v H' a ro => ?_⟩
  · rw [List.nodup_append]
    exact ⟨R.nd, List.nodup_cons.mpr ⟨by simp, List.nodup_nil⟩, fun a ha b hb => by
      have : b = q := by simpa using hb
      subst this
      exact nq a ha⟩
  · intro p hp
    rw [List.mem_append] at hp
    rcases hp with hp | hp
    · exact R.foc p hp
    · have : p = q := by simpa using hp
      subst this; exact h1
  · by_cases hl : i < δ.ce.length
    · rw [List.getElem?_append_left hl] at hi
      obtain ⟨p, g1, g2⟩ := R.ce i e hi
      exact ⟨p, by rw [List.getElem?_append_left (by rw [← cel]; exact hl)]; exact g1, g2.mono (Same.refl _) pre fun _ z => z⟩
    · rw [List.getElem?_append_right (by omega)] at hi
      have hi0 : i = δ.ce.length := by
        have := (List.getElem?_eq_some_iff.mp hi).1
        simp at this; omega
      subst hi0
      simp at hi; subst hi
      exact ⟨q, by rw [List.getElem?_append_right (by rw [cel]; exact Nat.le_refl _), cel, Nat.sub_self]; rfl, h6.mono (Same.refl _) pre fun _ z => z⟩
  · have cl' : ce'.length = G.ρ.length + 1 := by rw [a.ces.1, List.length_append]; rfl
    have oq : ∃ o, H q = some o := h6.there
    have low : ∀ (i : Nat) (e : D), ce'[i]? = some e → e.lowC G.ρ.length = true := fun i e he => by rw [← cel]; exact lowCs_get lc he
    have a2 : Aft mg K G.F G.ρ (G.ρ ++ [q]) H F' H' (ce'.take δ.ce.length) := {
      ff := a.ff, fh := a.fh, fr := a.fr, dom := a.dom, old := a.old
      ces := ⟨by rw [List.length_take, cl', cel]; omega, fun i e hi => by
        have hl : i < δ.ce.length := by
          have := (List.getElem?_eq_some_iff.mp hi).1
          rw [List.length_take] at this; omega
        rw [List.getElem?_take_of_lt hl] at hi
        obtain ⟨p, g1, g2⟩ := a.ces.2 i e hi
        rw [List.getElem?_append_left (by rw [← cel]; exact hl)] at g1
        exact ⟨p, g1, ORep.cut (low i e hi) g2⟩⟩ }
    obtain ⟨l2, R2⟩ := R.after (fun p hp => by
      rw [List.mem_append] at hp
      rcases hp with hp | hp
      · exact .inl hp
      · have : p = q := by simpa using hp
        subst this; exact .inr ⟨h2, h5⟩) a2
    have F'q : F' q = none := by
      obtain ⟨o, ho⟩ := oq
      rw [a.old q o ho]; exact h1
    refine k F' v H' l2 R2 ?_ fun dn hdn => ?_
    · cases r with
      | val d' => exact Rep.cut d' v (by rw [← cel]; exact lr) ro
      | fresh d' =>
        obtain ⟨p, e1, e2, e3, e4⟩ := ro
        obtain ⟨_, g1, g2, g3, g4⟩ := R.push (o := .lst []) e2
        exact ⟨p, e1, e3, g2, g3, g4, ORep.cut (by rw [← cel]; exact lr) e4⟩
    · obtain ⟨p, g1, g2⟩ := a.ces.2 _ dn hdn
      rw [List.getElem?_append_right (by rw [cel]; exact Nat.le_refl _), cel, Nat.sub_self] at g1
      have : q = p := by simpa using g1
      subst this
      exact ⟨q, rfl, F'q, h2, h3, h5, ORep.cut (low _ dn hdn) g2⟩
/-- f(e), e new: it is a cell while f runs -/
def dCallNew (g : List D → List D → Option (Ret × List D)) (fa : DE) : DE := fun δ => (fa δ).bind fun p => match p.1 with
  | .fresh d => (g [.cell p.2.ce.length] (p.2.ce ++ [d])).bind fun q => if (q.1.lowC p.2.ce.length && D.lowCs p.2.ce.length q.2) = true then some (q.1.rv, ⟨p.2.sl, q.2.take p.2.ce.length⟩) else none
  | _ => none
theorem snd_callNew {y : Str} (N : Nat) (C : CalD X.prog X.w X.K X.mg X.base k fad fd [y] g) (hb : Binds X.K fd [y] []) (hgu : X.A.guards = some []) (hr : Room j X.A) (hk : k ≤ j) (hg : Gl X x) (hm : X.mg x = some (.ref fad)) (h : Snd X e fa)
    (hdb : (x == ("__debug__" : Str)) = false) (he : starEach [e] X.env = (false, eval e X.env) :: starEach [] X.env) (hpl : (backTo pos (starEach [] X.env)).any (·.1) = false) :
    Snd X (.Call (.Name x p) [e] [] pos) (dCallNew (g N) fa) := by
  intro B G δ r δ' σ H Q q R kk pins s I
  obtain ⟨⟨ra, δ1⟩, e1, q⟩ := bnd q
  split at q
  · rename_i d qq
    have qq : ra = .fresh d := qq
    subst qq
    obtain ⟨⟨r', ce'⟩, e3, q⟩ := bnd q
    split at q
    · rename_i hlow
      cases q
      have hlow : r'.lowC δ1.ce.length = true ∧ D.lowCs δ1.ce.length ce' = true := by simpa using hlow
      refine wpAny_Call_Name_kw (ld_glob I hg hm ?_ hdb)
      refine PySem.W.callWith_K (h₀ := X.base) I.ok.mod.kin C.kp (thn ((pa_cons (pe_tE X e) pa_nil he).run pos pins s σ H (fun vs H1 => SpD X.mg X.K 1 (fun ds ce r ce' => ∃ n, g n ds ce = some (r, ce')) vs H1 Q fun _ _ _ => False) I (h B G δ _ δ1 σ H _ e1 R fun G1 v H1 l1 R1 o1 => ?_)) fun us s1 ⟨vs, H1, I1, r1, q1⟩ => ⟨I1.kIn, ?_⟩) he hpl
      · obtain ⟨q0, ev, o2⟩ := id o1
        subst ev
        refine R1.callNew (E := fun _ _ _ => False) o1 (.cons (.cell ?_) .nil) rfl ⟨N, e3⟩ hlow.1 hlow.2 fun F' v H' l2 R2 ro _ => kk _ v H' (l1.trans l2) R2 ro
        rw [R1.cl, List.getElem?_append_right (Nat.le_refl _), Nat.sub_self]; rfl
      · exact run_fnG C.ok hgu (hr.mono hk) hb .nil I1 r1 (by rw [List.append_nil]; exact q1)
    · cases q
  · cases q

/-! ### instances: made, their methods, fields, properties -/
/-- an instance's class and fields, itself or a cell -/
def insOf (ce : List D) : D → Option (Str × List Str × List D)
  | .ins c ns ds => some (c, ns, ds)
  | .cell k => match ce[k]? with
    | some (.ins c ns ds) => some (c, ns, ds)
    | _ => none
  | _ => none
theorem Rl.insOf {mg : Str → Option Value} {K : PySem.W.Frag} {B : Bs} {G : Gh} {δ : DSt} {σ : L2.St} {H : Hp} {d : D} {v : V} {c : Str} {ns : List Str} {ds : List D} (R : Rl mg K B G δ σ H) (h : Rep mg K G.F G.ρ v d) (q : insOf δ.ce d = some (c, ns, ds)) :
    ∃ a C dx fs, v = .ref a ∧ H a = some (.ins C dx fs) ∧ mg c = some (.ref C) ∧ fs.map (·.1) = ns ∧ Reps mg K G.F G.ρ (fs.map (·.2)) ds := by
  cases d with
  | ins c' ns' ds' => cases q; exact CRep.ins R.sub (.inl h)
  | cell k =>
    simp only [EV.insOf] at q
    split at q
    · rename_i c' ns' ds' e
      cases q
      exact CRep.ins R.sub (R.rdD h (show EV.rdD δ (D.cell k) = _ from e))
    · cases q
  | _ => cases q
theorem lookup_none {fs : List (Str × V)} {m : Str} (h : m ∉ fs.map (·.1)) : fs.lookup m = none := by
  induction fs with
  | nil => rfl
  | cons a fs ih =>
    obtain ⟨n, v⟩ := a
    have h2 : ¬ (m = n ∨ m ∈ fs.map (·.1)) := by simpa using h
    have e : (m == n) = false := by simpa using fun z => h2 (.inl z)
    rw [List.lookup_cons, e]
    exact ih fun z => h2 (.inr z)
/-- o.m(e, .., k = v, ..), o an instance of the class c -/
def dMeth (c m : Str) (n mk : Nat) (ix : List Nat) (ddv : List D) (g : List D → List D → Option (Ret × List D)) (fo : DE) (f fk : DA) : DE := fun δ => (fo δ).bind fun p => (p.1.keep p.2).bind fun d => match insOf p.2.ce d with
  | some (c', ns, _) => if c' = c ∧ m ∉ ns then (dAK n mk f fk p.2).bind fun q => (g (pick ix (d :: (q.1 ++ ddv))) q.2.ce).map fun u => (u.1.rv, ⟨q.2.sl, u.2⟩) else none
  | none => none
theorem snd_meth {pl : Sem Bool} {c : Str} (N : Nat) (Cc : CalD X.prog X.w X.K X.mg X.base k fad fd ps g) (hb : CalB X.mg X.K fd ps (n + 1) ks ix ddv) (hgu : X.A.guards = some []) (hr : Room j X.A) (hk : k ≤ j) (hm : X.mg c = some (.ref C)) (hc : Cls X.K C) (me : Meth X.K C m fad) (ho : Snd X o fo) (h : SndA X (e :: es) fas) (hkw : SndK X kws fks)
    (hall : (backToKw pos (keywordEach kws X.env)).all (·.1.isSome) = true) (hks : (backToKw pos (keywordEach kws X.env)).filterMap (·.1) = ks)
    (he : starEach (e :: es) X.env = (false, eval e X.env) :: starEach es X.env) (hpl : ((backTo pos (starEach (e :: es) X.env)).any (·.1) || (backToKw pos (keywordEach kws X.env)).any (·.1.isNone)) = false)
    (ht : eval (.Call (.Attribute o m apos) (e :: es) kws pos) X.env = (do
      let ov ← eval o X.env
      standAt apos.atName
      let (f, first) ← holding [ov] (getMethod ov m pl)
      callWith pos f first (backTo pos (starEach (e :: es) X.env)) (backToKw pos (keywordEach kws X.env)))) :
    Snd X (.Call (.Attribute o m apos) (e :: es) kws pos) (dMeth c m n ks.length ix ddv (g N) fo fas fks) := by
  intro B G δ r δ' σ H Q q R kk pins s I
  obtain ⟨⟨ro, δ1⟩, e1, q⟩ := bnd q
  obtain ⟨d, e2, q⟩ := bnd q
  split at q
  · rename_i c' ns ds' e3
    split at q
    · rename_i hcn
      obtain ⟨⟨ds, δ2⟩, e4, q⟩ := bnd q
      obtain ⟨⟨r', ce'⟩, e5, q⟩ := Option.map_eq_some_iff.mp q
      cases q
      refine PySem.W.methodCall_KW (pl := pl) (thn (ho B G δ ro δ1 σ H (fun x H1 => ∃ a dx fs, x = .ref a ∧ H1 a = some (.ins C dx fs) ∧ fs.lookup m = none ∧ tA X (e :: es) σ H1 fun vs H2 => tKw X kws σ H2 fun zs H3 => SpC X ps ix ddv g (x :: (vs ++ zs)) H3 Q ∧ vs.length = n ∧ zs.length = ks.length) e1 R (fun G1 v H1 l1 R1 o1 => ?_) pins s I) fun u s1 ⟨x, H1, I1, rx, a, dx, fs, ex, ea, hl, q1⟩ => ?_) ht
      · obtain ⟨G1', l1', R1', rv⟩ := R1.keep o1 e2
        obtain ⟨a, C', dx, fs, ev, ea, hC, hf, hr'⟩ := R1'.insOf rv e3
        rw [hcn.1, hm] at hC
        cases hC
        subst ev
        refine ⟨a, dx, fs, rfl, ea, lookup_none (by rw [hf]; exact hcn.2), ?_⟩
        refine ak_run h hkw e4 R1' fun G2 vs zs H2 l2 R2 rp hv hz => ⟨?_, hv, hz⟩
        exact SpC.of (mg := X.mg) R2 (.cons (Rep.mono l2.F l2.ρ _ _ rv) rp) (by rw [List.length_cons, ← rp.length, List.length_append, hv, hz]; omega) hb (m := N) e5 fun G3 v H3 l3 R3 o3 => kk G3 v H3 (((l1.trans l1').trans l2).trans l3) R3 o3
      · subst ex
        obtain rfl : u = Value.ref a := rx
        refine getmeth_ok I1 ea hc me hl ?_
        refine PySem.W.callWith_KW (first := [.ref a]) (h₀ := X.base) I.ok.mod.kin me.kp hall (thn (q1 pos pins s1 I1) fun us s2 ⟨vs, H2, I2, r2, q2⟩ => thn (q2 pos pins s2 I2) fun ws s3 ⟨zs, H3, I3, r3, q3⟩ => ⟨I3.kIn, ?_⟩) hpl he
        rw [hks]
        exact wpAny_call (callv (E' := X.xe) (us := .ref a :: us) (vs := .ref a :: (vs ++ zs)) Cc hb hgu (hr.mono hk) I3.env0 I3.kIn (.cons rfl (r2.append r3)) (by rw [List.length_cons, ← r2.length, q3.2.1]) (by rw [← r3.length]; exact q3.2.2) q3.1 fun u s' q => I3.after q)
    · cases q
  · cases q
/-- o.m() -/
def dMeth0 (c m : Str) (ix : List Nat) (ddv : List D) (g : List D → List D → Option (Ret × List D)) (fo : DE) : DE := fun δ => (fo δ).bind fun p => (p.1.keep p.2).bind fun d => match insOf p.2.ce d with
  | some (c', ns, _) => if c' = c ∧ m ∉ ns then (g (pick ix (d :: ddv)) p.2.ce).map fun u => (u.1.rv, ⟨p.2.sl, u.2⟩) else none
  | none => none
theorem snd_meth0 {pl : Sem Bool} {c : Str} (N : Nat) (Cc : CalD X.prog X.w X.K X.mg X.base k fad fd ps g) (hb : CalB X.mg X.K fd ps 1 [] ix ddv) (hgu : X.A.guards = some []) (hr : Room j X.A) (hk : k ≤ j) (hm : X.mg c = some (.ref C)) (hc : Cls X.K C) (me : Meth X.K C m fad) (ho : Snd X o fo)
    (ht : eval (.Call (.Attribute o m apos) [] [] pos) X.env = (do
      let ov ← eval o X.env
      standAt apos.atName
      let (f, first) ← holding [ov] (getMethod ov m pl)
      callWith pos f first (backTo pos (starEach [] X.env)) (backToKw pos (keywordEach [] X.env)))) :
    Snd X (.Call (.Attribute o m apos) [] [] pos) (dMeth0 c m ix ddv (g N) fo) := by
  intro B G δ r δ' σ H Q q R kk pins s I
  obtain ⟨⟨ro, δ1⟩, e1, q⟩ := bnd q
  obtain ⟨d, e2, q⟩ := bnd q
  split at q
  · rename_i c' ns ds' e3
    split at q
    · rename_i hcn
      obtain ⟨⟨r', ce'⟩, e5, q⟩ := Option.map_eq_some_iff.mp q
      cases q
      refine PySem.W.methodCall_KW (pl := pl) (thn (ho B G δ ro δ1 σ H (fun x H1 => ∃ a dx fs, x = .ref a ∧ H1 a = some (.ins C dx fs) ∧ fs.lookup m = none ∧ SpC X ps ix ddv g [x] H1 Q) e1 R (fun G1 v H1 l1 R1 o1 => ?_) pins s I) fun u s1 ⟨x, H1, I1, rx, a, dx, fs, ex, ea, hl, q1⟩ => ?_) ht
      · obtain ⟨G1', l1', R1', rv⟩ := R1.keep o1 e2
        obtain ⟨a, C', dx, fs, ev, ea, hC, hf, hr'⟩ := R1'.insOf rv e3
        rw [hcn.1, hm] at hC
        cases hC
        subst ev
        refine ⟨a, dx, fs, rfl, ea, lookup_none (by rw [hf]; exact hcn.2), ?_⟩
        exact SpC.of (mg := X.mg) (ks := []) R1' (.cons rv .nil) rfl hb (m := N) e5 fun G3 v H3 l3 R3 o3 => kk G3 v H3 ((l1.trans l1').trans l3) R3 o3
      · subst ex
        obtain rfl : u = Value.ref a := rx
        refine getmeth_ok I1 ea hc me hl ?_
        refine PySem.W.callWith_K0 (first := [.ref a]) I1.kIn me.kp ?_
        exact wpAny_call (callv (E' := X.xe) (us := [.ref a]) (ws := []) (ks := []) (vs := [.ref a]) Cc hb hgu (hr.mono hk) I1.env0 I1.kIn (.cons rfl .nil) rfl rfl q1 fun u s' q => I1.after q)
    · cases q
  · cases q
/-- o.f, a property -/
theorem snd_prop {pr : Addr} {c : Str} (N : Nat) (Cc : CalD X.prog X.w X.K X.mg X.base k fad fd ps g) (hb : CalB X.mg X.K fd ps 1 [] ix ddv) (hgu : X.A.guards = some []) (hr : Room (j + 1) X.A) (hk : k ≤ j) (hm : X.mg c = some (.ref C)) (hc : Cls X.K C) (me : PropOf X.K C m pr fad) (ho : Snd X o fo)
    (hab : attributeBase o m X.env (eval o X.env) = eval o X.env) : Snd X (.Attribute o m pos) (dMeth0 c m ix ddv (g N) fo) := by
  intro B G δ r δ' σ H Q q R kk pins s I
  obtain ⟨⟨ro, δ1⟩, e1, q⟩ := bnd q
  obtain ⟨d, e2, q⟩ := bnd q
  split at q
  · rename_i c' ns ds' e3
    split at q
    · rename_i hcn
      obtain ⟨⟨r', ce'⟩, e5, q⟩ := Option.map_eq_some_iff.mp q
      cases q
      refine attr_of hab (thn (ho B G δ ro δ1 σ H (fun x H1 => ∃ a dx fs, x = .ref a ∧ H1 a = some (.ins C dx fs) ∧ SpC X ps ix ddv g [x] H1 Q) e1 R (fun G1 v H1 l1 R1 o1 => ?_) pins s I) fun u s1 ⟨x, H1, I1, rx, a, dx, fs, ex, ea, q1⟩ => ?_)
      · obtain ⟨G1', l1', R1', rv⟩ := R1.keep o1 e2
        obtain ⟨a, C', dx, fs, ev, ea, hC, hf, hr'⟩ := R1'.insOf rv e3
        rw [hcn.1, hm] at hC
        cases hC
        subst ev
        refine ⟨a, dx, fs, rfl, ea, ?_⟩
        exact SpC.of (mg := X.mg) (ks := []) R1' (.cons rv .nil) rfl hb (m := N) e5 fun G3 v H3 l3 R3 o3 => kk G3 v H3 ((l1.trans l1').trans l3) R3 o3
      · subst ex
        obtain rfl : u = Value.ref a := rx
        obtain ⟨mA, O, _, _, _, _⟩ := ins_get I1.hok ea
        obtain ⟨od, J, _⟩ := O.look
        obtain ⟨rest, hrec⟩ := me.rec_
        have I2 := I1.tok (s1.toks + 1)
        have hcl : (PySem.W.clsIn X.K C).isSome = true := by
          obtain ⟨cd, e, _⟩ := PySem.W.any_some hc.hd
          rw [e]; rfl
        refine PySem.W.get_bind I1.kIn J (PySem.W.plainGet_of (hc.get m)).1 (PySem.W.findObj_data hcl me.at_ me.get me.tak) (PySem.W.plainGet_of (hc.get m)).2 (wpAny_call (PySem.W.prop_get (s := { s1 with toks := s1.toks + 1 }) I1.kIn hrec ?_))
        refine callv (E' := X.xe) (us := [.ref a]) (ws := []) (ks := []) (vs := [.ref a]) Cc hb (A := X.A.in1) hgu ((hr.in1).mono hk) I2.env0.in1 I2.kIn (.cons rfl .nil) rfl rfl q1 fun u s' hq => ?_
        obtain ⟨v, H', I3, rv, q3⟩ := I2.after hq
        show wpAny _ _ (handedOut u) _ _ _
        rw [PySem.W.handedOut_of (handed_of rv)]
        exact wpAny_pure ⟨v, H', I3, rv, q3⟩
    · cases q
  · cases q
/-- o.f, a field -/
def dFld (c fl : Str) (fo : DE) : DE := fun δ => (fo δ).bind fun p => (p.1.pin.rd p.2).bind fun d => match d with
  | .ins c' ns ds => if c' = c then ((ns.zip ds).lookup fl).map fun x => (.val x, p.2) else none
  | _ => none
theorem lookup_zip {mg : Str → Option Value} {K : PySem.W.Frag} {F : Hp} {ρ : List Addr} {fl : Str} {d : D} : ∀ {fs : List (Str × V)} {ns : List Str} {ds : List D}, fs.map (·.1) = ns → Reps mg K F ρ (fs.map (·.2)) ds → (ns.zip ds).lookup fl = some d → ∃ v, fs.lookup fl = some v ∧ Rep mg K F ρ v d
  | [], ns, ds, h1, h2, h => by
    subst h1
    cases h
  | (n, v) :: fs, ns, ds, h1, h2, h => by
    subst h1
    cases h2 with
    | cons r rr =>
      rename_i d0 ds0
      have h : ((n, d0) :: (fs.map (·.1)).zip ds0).lookup fl = some d := h
      rw [List.lookup_cons] at h
      cases e : fl == n with
      | true =>
        rw [e] at h
        cases h
        exact ⟨v, by rw [List.lookup_cons, e], r⟩
      | false =>
        rw [e] at h
        obtain ⟨w, h3, h4⟩ := lookup_zip rfl rr h
        exact ⟨w, by rw [List.lookup_cons, e]; exact h3, h4⟩
theorem snd_fld {c : Str} (hm : X.mg c = some (.ref C)) (hc : Cls X.K C) (na : NoAttr X.K C m) (ho : Snd X o fo) (hab : attributeBase o m X.env (eval o X.env) = eval o X.env) : Snd X (.Attribute o m pos) (dFld c m fo) := by
  intro B G δ r δ' σ H Q q R kk
  obtain ⟨⟨ro, δ1⟩, e1, q⟩ := bnd q
  obtain ⟨d, e2, q⟩ := bnd q
  split at q
  · rename_i c' ns ds
    split at q
    · rename_i hcc
      rw [← hcc] at hm
      obtain ⟨x, e3, q⟩ := Option.map_eq_some_iff.mp q
      cases q
      refine tE_of (pe_fld (pe_tE X o) hab) ?_
      refine ho B G δ ro δ1 σ H _ e1 R fun G1 v H1 l1 R1 o1 => ?_
      obtain ⟨G1', l1', R1', o1'⟩ := R1.pin o1
      obtain ⟨a, C', dx, fs, ev, ea, hC, hf, hr'⟩ := (R1'.rd o1' e2).ins R1'.sub
      rw [hm] at hC
      cases hC
      obtain ⟨w, g1, g2⟩ := lookup_zip hf hr' e3
      exact ⟨a, C, dx, fs, w, ev, ea, hc, na, g1, kk G1' w H1 (l1.trans l1') R1' g2⟩
    · cases q
  · cases q
/-- C(e, .., k = v, ..): the instance is a cell while __init__ runs -/
def dMake (c : Str) (n m : Nat) (ix : List Nat) (ddv : List D) (g : List D → List D → Option (Ret × List D)) (f fk : DA) : DE := fun δ => (dAK n m f fk δ).bind fun p =>
  (g (pick ix (.cell p.2.ce.length :: (p.1 ++ ddv))) (p.2.ce ++ [.ins c [] []])).bind fun q => match q.1 with
  | .val .non => if D.lowCs p.2.ce.length q.2 = true then (q.2[p.2.ce.length]?).map fun x => (.fresh x, ⟨p.2.sl, q.2.take p.2.ce.length⟩) else none
  | _ => none
theorem make_run {us ws : List Value} {vs : List V} {pins : List (Addr × Obj)} {σ : L2.St} {H : Hp} {s : Shared} {Q : VK} (Cc : CalD X.prog X.w X.K X.mg X.base k fad fd ps g) (hb : CalB X.mg X.K fd ps (n + 1) ks ix ddv) (M : Mk X.K C fad) (hgu : X.A.guards = some []) (hr : Room (j + 1) X.A) (hk : k ≤ j) (I : Inv X pins σ H s) (r : Vals vs (us ++ ws)) (hn : us.length = n) (hm : ws.length = ks.length)
    (h : ∀ x dx, H x = none → H dx = none → dx ≠ x → SpC X ps ix ddv g (.ref x :: vs) (upd (upd H dx (.own x)) x (.ins C dx [])) fun v H2 => v = .non ∧ Q (.ref x) H2) :
    wpAny (model X.prog X.w) X.A (call (.ref C) us (ks.zip ws)) (EP X pins σ Q) X.xe s := by
  have hq := h (s.heap.objs.size + 1) s.heap.objs.size (I.hok.fresh (Nat.le_succ _)) (I.hok.fresh (Nat.le_refl _)) (Nat.ne_of_lt (Nat.lt_succ_self _))
  have I2 := Inv.made (C := C) I
  refine wpAny_call (make_map (f := fad) I.kIn M.makes M.init (beq_iff_eq.mp M.fn) ?_)
  refine callv (E' := X.xe) (us := .ref (s.heap.objs.size + 1) :: us) (vs := .ref (s.heap.objs.size + 1) :: vs) Cc hb (guards_make hgu) ((hr.make C us (ks.zip ws)).mono hk) (I2.env0.make C us (ks.zip ws)) I2.kIn (.cons rfl r) (by rw [List.length_cons, hn]) hm hq fun u s' hq' => ?_
  obtain ⟨v, H', I3, rv, ev, q3⟩ := I2.after hq'
  subst ev
  exact ⟨rv, ⟨V.ref (s.heap.objs.size + 1), H', I3, rfl, q3⟩⟩
theorem make_sp {B : Bs} {G : Gh} {δ : DSt} {σ : L2.St} {H : Hp} {c : Str} {ds ce' : List D} {vs : List V} {x : D} {Q : VK} (N : Nat) (hm : X.mg c = some (.ref C)) (hb : CalB X.mg X.K fd ps (n + 1) ks ix ddv) (R : Rl X.mg X.K B G δ σ H) (rp : Reps X.mg X.K G.F G.ρ vs ds) (hl : ds.length = n + ks.length)
    (e : g N (pick ix (.cell δ.ce.length :: (ds ++ ddv))) (δ.ce ++ [.ins c [] []]) = some (.val .non, ce')) (lc : D.lowCs δ.ce.length ce' = true) (ex : ce'[δ.ce.length]? = some x) (kk : Ct X.mg X.K B G ⟨δ.sl, ce'.take δ.ce.length⟩ σ (.fresh x) Q)
    (a dx : Addr) (ha : H a = none) (hdx : H dx = none) (hne : dx ≠ a) : SpC X ps ix ddv g (.ref a :: vs) (upd (upd H dx (.own a)) a (.ins C dx [])) fun v H2 => v = .non ∧ Q (.ref a) H2 := fun dvs hd => by
  obtain ⟨R1, _⟩ := R.push (o := .own a) hdx
  have ha1 : upd H dx (.own a) a = none := by rw [upd_ne hne.symm]; exact ha
  obtain ⟨R2, f1, f2, f3, f4⟩ := R1.push (o := .ins C dx []) ha1
  have cel := R.cl
  have rp2 : Reps X.mg X.K G.F (G.ρ ++ [a]) (.ref a :: (vs ++ dvs)) (.cell δ.ce.length :: (ds ++ ddv)) :=
    .cons (.cell (by rw [cel, List.getElem?_append_right (Nat.le_refl _), Nat.sub_self]; rfl)) (Reps.mono (Same.refl _) ⟨[a], rfl⟩ _ _ (Reps.append rp (hd _ _)))
  refine R2.callNew (d := .ins c [] []) (q := a) ⟨a, rfl, f1, f2, f3, f4, C, dx, [], upd_same, hm, rfl, .nil⟩ (Reps.pick rp2 ix) ?_ ⟨N, e⟩ rfl lc fun F' v H' l R3 ro hfr => ?_
  · rw [pick_len, hb.len]
    intro i hi
    have := hb.lt i hi
    rw [List.length_cons, List.length_append, hl]; omega
  · have ro' : Rep X.mg X.K F' G.ρ v .non := ro
    cases ro'
    exact ⟨rfl, kk _ _ H' l R3 (hfr x ex)⟩
theorem snd_make {c : Str} (N : Nat) (Cc : CalD X.prog X.w X.K X.mg X.base k fad fd ps g) (hb : CalB X.mg X.K fd ps (n + 1) ks ix ddv) (M : Mk X.K C fad) (hgu : X.A.guards = some []) (hr : Room (j + 1) X.A) (hk : k ≤ j) (hg : Gl X c) (hm : X.mg c = some (.ref C)) (h : SndA X (e :: es) fas) (hkw : SndK X kws fks)
    (hall : (backToKw pos (keywordEach kws X.env)).all (·.1.isSome) = true) (hks : (backToKw pos (keywordEach kws X.env)).filterMap (·.1) = ks)
    (hdb : (c == ("__debug__" : Str)) = false) (he : starEach (e :: es) X.env = (false, eval e X.env) :: starEach es X.env) (hpl : ((backTo pos (starEach (e :: es) X.env)).any (·.1) || (backToKw pos (keywordEach kws X.env)).any (·.1.isNone)) = false) :
    Snd X (.Call (.Name c p) (e :: es) kws pos) (dMake c n ks.length ix ddv (g N) fas fks) := by
  intro B G δ r δ' σ H Q q R kk pins s I
  obtain ⟨⟨ds, δ1⟩, e1, q⟩ := bnd q
  obtain ⟨⟨r', ce'⟩, e3, q⟩ := bnd q
  split at q
  · rename_i qq
    have qq : r' = .val .non := qq
    subst qq
    split at q
    · rename_i lc
      obtain ⟨x, ex, q⟩ := Option.map_eq_some_iff.mp q
      cases q
      refine wpAny_Call_Name_kw (ld_glob I hg hm ?_ hdb)
      refine PySem.W.callWith_KW (h₀ := X.base) I.ok.mod.kin M.kp hall (thn (ak_run h hkw (Q := fun vs zs H2 => (∀ a dx, H2 a = none → H2 dx = none → dx ≠ a → SpC X ps ix ddv g (.ref a :: (vs ++ zs)) (upd (upd H2 dx (.own a)) a (.ins C dx [])) fun v H3 => v = .non ∧ Q (.ref a) H3) ∧ vs.length = n ∧ zs.length = ks.length) e1 R
        (fun G1 vs zs H1 l1 R1 rp hv hz => ⟨make_sp N hm hb R1 rp (by rw [← rp.length, List.length_append, hv, hz]) e3 lc ex fun G2 v H2 l2 R2 o2 => kk G2 v H2 (l1.trans l2) R2 o2, hv, hz⟩) pos pins s I) fun us s1 ⟨vs, H1, I1, r1, q1⟩ => thn (q1 pos pins s1 I1) fun ws s2 ⟨zs, H2, I2, r2, q2⟩ => ⟨I2.kIn, ?_⟩) hpl he
      rw [hks]
      exact make_run (us := us) Cc hb M hgu hr hk I2 (r1.append r2) (by rw [← r1.length]; exact q2.2.1) (by rw [← r2.length]; exact q2.2.2) q2.1
    · cases q
  · cases q
theorem snd_makeK0 {c : Str} (N : Nat) (Cc : CalD X.prog X.w X.K X.mg X.base k fad fd ps g) (hb : CalB X.mg X.K fd ps 1 ks ix ddv) (M : Mk X.K C fad) (hgu : X.A.guards = some []) (hr : Room (j + 1) X.A) (hk : k ≤ j) (hg : Gl X c) (hm : X.mg c = some (.ref C)) (hkw : SndK X kws fks)
    (hall : (backToKw pos (keywordEach kws X.env)).all (·.1.isSome) = true) (hks : (backToKw pos (keywordEach kws X.env)).filterMap (·.1) = ks)
    (hdb : (c == ("__debug__" : Str)) = false) (hpl : ((backTo pos (starEach [] X.env)).any (·.1) || (backToKw pos (keywordEach kws X.env)).any (·.1.isNone)) = false) :
    Snd X (.Call (.Name c p) [] kws pos) (dMake c 0 ks.length ix ddv (g N) dNil fks) := by
  intro B G δ r δ' σ H Q q R kk pins s I
  obtain ⟨⟨ds, δ1⟩, e1, q⟩ := bnd q
  obtain ⟨⟨r', ce'⟩, e3, q⟩ := bnd q
  split at q
  · rename_i qq
    have qq : r' = .val .non := qq
    subst qq
    split at q
    · rename_i lc
      obtain ⟨x, ex, q⟩ := Option.map_eq_some_iff.mp q
      cases q
      obtain ⟨⟨rs, δ2⟩, e4, e5⟩ := bnd e1
      cases e4
      obtain ⟨⟨ts, δ3⟩, e6, e7⟩ := bnd e5
      obtain ⟨ds', e8, e9⟩ := bnd e7
      split at e9
      · rename_i hl
        cases e9
        refine wpAny_Call_Name_kw (ld_glob I hg hm ?_ hdb)
        refine PySem.W.callWith_KW0 (h₀ := X.base) I.ok.mod.kin M.kp hall (thn (hkw B G δ ts _ σ H (fun zs H2 => (∀ a dx, H2 a = none → H2 dx = none → dx ≠ a → SpC X ps ix ddv g (.ref a :: zs) (upd (upd H2 dx (.own a)) a (.ins C dx [])) fun v H3 => v = .non ∧ Q (.ref a) H3) ∧ zs.length = ks.length) e6 R (fun G2 zs H2 l2 R2 o2 => ⟨?_, o2.length.trans hl.2⟩) pos pins s I) fun ws s2 ⟨zs, H2, I2, r2, q2⟩ => ⟨I2.kIn, ?_⟩) hpl
        · have rp := R2.keepAll o2 e8
          exact make_sp N hm hb R2 rp (by rw [← rp.length, o2.length, hl.2]; omega) e3 lc ex fun G3 v H3 l3 R3 o3 => kk G3 v H3 (l2.trans l3) R3 o3
        · rw [hks]
          exact make_run (us := []) Cc hb M hgu hr hk I2 r2 rfl (by rw [← r2.length]; exact q2.2) q2.1
      · cases e9
    · cases q
  · cases q
/-- o.f = e, o a name that holds a cell (self, in __init__) -/
def putN (f : Str) (d : D) : List Str → List D → List Str × List D
  | n :: ns, x :: xs => if f = n then (n :: ns, d :: xs) else let p := putN f d ns xs; (n :: p.1, x :: p.2)
  | _, _ => ([f], [d])
theorem putN_cons (f : Str) (d : D) (n : Str) (ns : List Str) (x : D) (xs : List D) : putN f d (n :: ns) (x :: xs) = if f = n then (n :: ns, d :: xs) else (n :: (putN f d ns xs).1, x :: (putN f d ns xs).2) := rfl
theorem putF_putN {mg : Str → Option Value} {K : PySem.W.Frag} {F : Hp} {ρ : List Addr} {f : Str} {v : V} {d : D} (hv : Rep mg K F ρ v d) : ∀ {fs : List (Str × V)} {ns : List Str} {ds : List D}, fs.map (·.1) = ns → Reps mg K F ρ (fs.map (·.2)) ds → (putF f v fs).map (·.1) = (putN f d ns ds).1 ∧ Reps mg K F ρ ((putF f v fs).map (·.2)) (putN f d ns ds).2
  | [], ns, ds, h1, h2 => by
    subst h1
    cases h2
    exact ⟨rfl, .cons hv .nil⟩
  | (n, w) :: fs, ns, ds, h1, h2 => by
    subst h1
    cases h2 with
    | cons r rr =>
      rename_i d0 ds0
      obtain ⟨i1, i2⟩ := putF_putN hv (fs := fs) rfl rr
      show (putF f v ((n, w) :: fs)).map (·.1) = (putN f d (n :: fs.map (·.1)) (d0 :: ds0)).1 ∧ Reps mg K F ρ ((putF f v ((n, w) :: fs)).map (·.2)) (putN f d (n :: fs.map (·.1)) (d0 :: ds0)).2
      rw [putN_cons]
      unfold putF
      by_cases e : f = n
      · subst e
        rw [if_pos rfl]
        simp only [beq_self_eq_true, if_true]
        exact ⟨rfl, .cons hv rr⟩
      · rw [if_neg e]
        have e2 : ¬ n = f := fun z => e z.symm
        have e3 : (n == f) = false := by simpa using e2
        simp only [e2, e3, if_false, Bool.false_eq_true]
        exact ⟨congrArg (n :: ·) i1, .cons r i2⟩
end
end EV
set_option Elab.async false
set_option linter.all false
set_option maxRecDepth 100000
/-! EV 6: stores to fields, comprehensions, methods of lists -/
namespace EV
open PySem L2 PySem.Spec PyProof.Rows

section
variable {X : Cx} {e a b c o tg iter elt : Expr} {es : List Expr} {fa fb fo f : DE} {ft : DT} {fas : DA} {fi : DI} {g : DG} {pos p apos cpos : Pos} {m : Str} {C : Addr}
/-! ### o.f = e -/
def dSetF (c fl : Str) (fo fv : DE) : DS := fun δ => (fv δ).bind fun p => (p.1.pin.keep p.2).bind fun d => (fo p.2).bind fun q => match q.1 with
  | .slot i => match q.2.sl[i]? with
    | some (some (.val (.cell k))) => match q.2.ce[k]? with
      | some (.ins c' ns ds) => if c' = c ∧ ns.length < 1000 then some (.nx, q.2.putC k (.ins c' (putN fl d ns ds).1 (putN fl d ns ds).2)) else none
      | _ => none
    | _ => none
  | _ => none
theorem snds_fld {c : Str} {p' : Pos} (hm : X.mg c = some (.ref C)) (hc : Cls X.K C) (na : NoAttr X.K C m) (ho : Snd X o fo) (hv : Snd X e fa) (hs : swapsWith e (some (.Attribute o m p')) pos.line X.env = pure false) : SndS X (.Assign [.Attribute o m p'] e pos) (dSetF c m fo fa) := by
  intro B G δ fl δ' σ H Dn q R kk
  obtain ⟨⟨rv, δ1⟩, e1, q⟩ := bnd q
  obtain ⟨d, e2, q⟩ := bnd q
  obtain ⟨⟨ro, δ2⟩, e3, q⟩ := bnd q
  refine tSt_of (ps_fld (pe_tE X o) (pe_tE X e) hs) ?_
  refine hv B G δ rv δ1 σ H _ e1 R fun G1 v H1 l1 R1 o1 => ?_
  obtain ⟨G1', l1', R1', o1'⟩ := R1.pin o1
  refine ho B G1' δ1 ro δ2 σ H1 _ e3 R1' fun G2 x H2 l2 R2 o2 => ?_
  have rd : Rep X.mg X.K G2.F G2.ρ v d := Rep.mono l2.F l2.ρ _ _ (R1'.keepPin o1' e2)
  split at q
  · rename_i i qi
    have qi : ro = .slot i := qi
    subst qi
    have ox : σ[i]? = some (some x) := o2
    split at q
    · rename_i k qk
      split at q
      · rename_i c' ns ds qc
        split at q
        · rename_i hcc
          cases q
          obtain ⟨w, h1, h2⟩ := R2.sv i _ qk
          rw [ox] at h1; cases h1
          cases h2 with
          | cell h3 =>
            obtain ⟨pp, g1, g2, g3⟩ := R2.mutC (d' := .ins c' (putN m d ns ds).1 (putN m d ns ds).2) qc
            rw [g1] at h3; cases h3
            obtain ⟨C', dx, fs, ha, hC, hf, hr⟩ := g2
            have hC' : X.mg c = some (.ref C') := by rw [← hcc.1]; exact hC
            rw [hm] at hC'; cases hC'
            obtain ⟨i1, i2⟩ := putF_putN (f := m) rd hf hr
            refine ⟨_, C, dx, fs, rfl, ha, hc, na, by rw [← hf, List.length_map] at hcc; exact hcc.2, ?_⟩
            exact kk G2 σ _ ((l1.trans l1').trans l2) (g3 _ ⟨C, dx, _, upd_same, hC, i1, i2⟩)
        · cases q
      · cases q
    · cases q
  · cases q

/-! ### comprehensions -/
def SndGw (vs : List Nat) (X : Cx) (tg : Expr) (g : DG) : Prop := ∀ (B : Bs) (G : Gh) (δ δ' : DSt) (d : D) (v : V) (σ : L2.St) (H : Hp) (Q : L2.St → Hp → Prop), g d δ = some δ' → Rl X.mg X.K B G δ σ H → Rep X.mg X.K G.F G.ρ v d →
  (∀ (G' : Gh) (σ' : L2.St) (H' : Hp), G.le G' → wipe σ' vs = wipe σ vs → Rl X.mg X.K B G' δ' σ' H' → Q σ' H') → tTg X tg v σ H Q
def SndGsw (vs : List Nat) (X : Cx) (ts : List Expr) (g : List D → DSt → Option DSt) : Prop := ∀ (B : Bs) (G : Gh) (δ δ' : DSt) (ds : List D) (ws : List V) (σ : L2.St) (H : Hp) (Q : L2.St → Hp → Prop), g ds δ = some δ' → Rl X.mg X.K B G δ σ H → Reps X.mg X.K G.F G.ρ ws ds →
  (∀ (G' : Gh) (σ' : L2.St) (H' : Hp), G.le G' → wipe σ' vs = wipe σ vs → Rl X.mg X.K B G' δ' σ' H' → Q σ' H') → tTgs X ts ws σ H Q
theorem wipe_set {σ : L2.St} {i : Nat} {x : Option V} : ∀ {vs : List Nat}, i ∈ vs → wipe (σ.set i x) vs = wipe σ vs
  | [], h => by cases h
  | v :: vs, h => by
    unfold wipe
    by_cases hi : i ∈ vs
    · rw [wipe_set hi]
    · have e : i = v := by
        rcases List.mem_cons.mp h with e | e
        · exact e
        · exact absurd e hi
      subst e
      have out : ∀ ws : List Nat, i ∉ ws → wipe (σ.set i x) ws = (wipe σ ws).set i x := by
        intro ws
        induction ws with
        | nil => intro _; rfl
        | cons w ws ih =>
          intro hw
          have hw1 : i ≠ w := fun z => hw (z ▸ List.mem_cons_self)
          have hw2 : i ∉ ws := fun z => hw (List.mem_cons_of_mem _ z)
          show (wipe (σ.set i x) ws).set w none = ((wipe σ ws).set w none).set i x
          rw [ih hw2, List.set_comm _ _ hw1]
      rw [out vs hi, List.set_set]
theorem wipe_wipe {σ : L2.St} : ∀ {vs ws : List Nat}, (∀ v ∈ vs, v ∈ ws) → wipe (wipe σ vs) ws = wipe σ ws
  | [], _, _ => rfl
  | v :: vs, ws, h => by
    show wipe ((wipe σ vs).set v none) ws = wipe σ ws
    rw [wipe_set (h v List.mem_cons_self), wipe_wipe fun u hu => h u (List.mem_cons_of_mem _ hu)]
theorem sndgw_name {vs : List Nat} {i : Nat} {x : Str} (hN : X.N.Nodup) (hi : X.N[i]? = some x) (hx : Loc X.env.scope x) (hf : X.fn x = true ∨ X.env.scope.names.lookup x = some .local) (hv : i ∈ vs) : SndGw vs X (.Name x pos) (gNm i) := by
  intro B G δ δ' d v σ H Q h R rv k
  cases h
  exact tTg_of (pg_name hN hi hx hf) (k G _ H (.refl G) (wipe_set hv) (R.putV rv i))
theorem sndgsw_nil {vs : List Nat} : SndGsw vs X [] gNl := by
  intro B G δ δ' ds ws σ H Q h R rv k
  cases rv with
  | nil => cases h; exact tTgs_of pgs_nil ⟨rfl, k G _ H (.refl G) rfl R⟩
  | cons => cases h
theorem sndgsw_cons {vs : List Nat} {g2 : List D → DSt → Option DSt} (h1 : SndGw vs X e g) (h2 : SndGsw vs X es g2) (hs : (assignEach (e :: es) X.env).map (·.2) = assign e X.env :: (assignEach es X.env).map (·.2)) : SndGsw vs X (e :: es) (gCs g g2) := by
  intro B G δ δ' ds ws σ H Q h R rv k
  cases rv with
  | nil => cases h
  | cons r rr =>
    obtain ⟨δ1, e1, h⟩ := bnd h
    refine tTgs_of (pgs_cons (pg_tTg X e) (pgs_tTgs X es) hs) ⟨_, _, rfl, ?_⟩
    refine h1 B G δ δ1 _ _ σ H _ e1 R r fun G1 σ1 H1 l1 w1 R1 => ?_
    exact h2 B G1 δ1 δ' _ _ σ1 H1 Q h R1 (Reps.mono l1.F l1.ρ _ _ rr) fun G2 σ2 H2 l2 w2 R2 => k G2 σ2 H2 (l1.trans l2) (w2.trans w1) R2
theorem sndgw_tup {vs : List Nat} {g2 : List D → DSt → Option DSt} {k n : Nat} (hc : X.calm = true) (h1 : SndGsw vs X es g2) (hn : (assignEach es X.env).length = n) (hst : (assignEach es X.env).findIdx? (·.1) = none) : SndGw vs X (.Tuple es k pos) (gTp n g2) := by
  intro B G δ δ' d v σ H Q h R rv k
  cases d with
  | tup ds =>
    simp only [gTp] at h
    split at h
    · rename_i hl
      cases rv with
      | tup hs rr =>
        refine tTg_of (pg_tup hc (pgs_tTgs X es) hn hst) ⟨_, _, rfl, sqT_same R.sub hs, by rw [rr.length]; exact hl, ?_⟩
        exact h1 B G δ δ' ds _ σ H Q h R rr k
    · cases h
  | _ => cases h

def hideO (sl : List (Option SD)) : List (Option SD) := sl.map fun s => match s with
  | some (.own _) => none
  | x => x
def wipeD (sl : List (Option SD)) : List Nat → List (Option SD)
  | [] => sl
  | v :: vs => (wipeD sl vs).set v none
def lcL (g : DG) (t : DT) (f : DE) (sl : List (Option SD)) : List D → List D → List D → Option (List D × List D)
  | [], acc, ce => some (acc, ce)
  | d :: ds, acc, ce => (g d ⟨sl, ce⟩).bind fun δ1 => (t δ1).bind fun p => if p.1 = true then (f p.2).bind fun q => (q.1.pin.keep q.2).bind fun x => if q.2.ce.length = ce.length ∧ acc.length < 16777216 then lcL g t f sl ds (acc ++ [x]) q.2.ce else none
    else if p.2.ce.length = ce.length then lcL g t f sl ds acc p.2.ce else none
def dLc (fi : DI) (g : DG) (t : DT) (f : DE) (vs : List Nat) : DE := fun δ => (fi δ).bind fun p => (lcL g t f (wipeD (hideO p.2.sl) vs) p.1 [] p.2.ce).map fun q => (.fresh (.lst q.1), ⟨p.2.sl, q.2⟩)
theorem wipeD_len (sl : List (Option SD)) : ∀ vs : List Nat, (wipeD sl vs).length = sl.length
  | [] => rfl
  | v :: vs => by show ((wipeD sl vs).set v none).length = _; rw [List.length_set, wipeD_len sl vs]
theorem wipeD_get {sl : List (Option SD)} {i : Nat} {x : SD} : ∀ {vs : List Nat}, (wipeD sl vs)[i]? = some (some x) → sl[i]? = some (some x) ∧ i ∉ vs
  | [], h => ⟨h, by simp⟩
  | v :: vs, h => by
    have h : ((wipeD sl vs).set v none)[i]? = some (some x) := h
    rcases get_set h with ⟨_, q, _⟩ | ⟨n, q⟩
    · cases q
    · obtain ⟨h1, h2⟩ := wipeD_get q
      exact ⟨h1, fun z => (List.mem_cons.mp z).elim (fun z => n z.symm) h2⟩
theorem hideO_get {sl : List (Option SD)} {i : Nat} {x : SD} (h : (hideO sl)[i]? = some (some x)) : ∃ d, x = .val d ∧ sl[i]? = some (some (.val d)) := by
  unfold hideO at h
  rw [List.getElem?_map] at h
  cases e : sl[i]? with
  | none => rw [e] at h; cases h
  | some y =>
    rw [e] at h
    cases y with
    | none => cases h
    | some z =>
      cases z with
      | val d => cases h; exact ⟨d, rfl, rfl⟩
      | own d => cases h
theorem wipe_get {σ : L2.St} {i : Nat} {x : Option V} : ∀ {vs : List Nat}, i ∉ vs → σ[i]? = some x → (wipe σ vs)[i]? = some x
  | [], _, h => h
  | v :: vs, n, h => by
    show ((wipe σ vs).set v none)[i]? = some x
    rw [List.getElem?_set_ne (fun z => n (by rw [← z]; exact List.mem_cons_self))]
    exact wipe_get (fun z => n (List.mem_cons_of_mem _ z)) h
section
variable {mg : Str → Option Value} {K : PySem.W.Frag} {B : Bs} {G G' : Gh} {δ δ' : DSt} {σ σ' : L2.St} {H H' : Hp} {vs : List Nat}
/-- a block's own state -/
theorem Rl.blk (R : Rl mg K B G δ σ H) (vs : List Nat) : Rl mg K ⟨H, G.F, G.ρ⟩ ⟨G.F, G.ρ, fun _ => none⟩ ⟨wipeD (hideO δ.sl) vs, δ.ce⟩ (wipe σ vs) H where
  sub := R.sub
  fow := fun _ _ q => nomatch q
  foc := R.foc
  oc := fun _ _ q => nomatch q
  nd := R.nd
  oh := fun _ _ q => nomatch q
  ch := R.ch
  sv := fun i d q => by
    obtain ⟨h1, h2⟩ := wipeD_get q
    obtain ⟨d', e, h3⟩ := hideO_get h1
    cases e
    obtain ⟨v, g1, g2⟩ := R.sv i d h3
    exact ⟨v, wipe_get h2 g1, g2⟩
  so := fun i d q => by
    obtain ⟨h1, h2⟩ := wipeD_get q
    obtain ⟨d', e, h3⟩ := hideO_get h1
    cases e
  sl := by
    show (wipeD (hideO δ.sl) vs).length = _
    rw [wipeD_len, wipe_length]
    unfold hideO
    rw [List.length_map]; exact R.sl
  ce := R.ce
  cl := R.cl
  fr := fun _ _ q _ => q
  dom := fun _ q => q
  new := fun _ _ q => nomatch q
  fnew := fun _ _ _ => rfl
  pre := ⟨[], by simp⟩
theorem Rl.back {F : Hp} {ρ : List Addr} (R : Rl mg K ⟨H, F, ρ⟩ G' δ' σ' H') (ff : Same F G'.F) (hl : δ'.ce.length = ρ.length) : G'.ρ = ρ ∧ Aft mg K F ρ ρ H G'.F H' δ'.ce := by
  obtain ⟨t, et, ht⟩ := R.pre
  have et : G'.ρ = ρ ++ t := et
  have h0 : t = [] := by
    have e := R.cl
    rw [et, List.length_append, hl] at e
    exact List.eq_nil_of_length_eq_zero (by omega)
  subst h0
  rw [List.append_nil] at et
  refine ⟨et, ⟨ff, R.sub, R.fr, R.dom, R.fnew, ⟨hl, fun k d hd => ?_⟩⟩⟩
  have := R.ce k d hd
  rw [et] at this; exact this
end
/-- the contexts of a comprehension's block -/
def Blk (X : Cx) (scope : Scope) (Y : Cx) : Prop := ∃ (s : Shared) (H : Hp) (A : Addr) (cl : List (Str × Addr)) (fp : List Addr), Y = X.blk s H scope (compEnvC scope cl A X.env) fp
/-- the judgement of the tests of a clause -/
def SndIf (X : Cx) (ifs : List Expr) (ft : DT) : Prop := ∀ (B : Bs) (G : Gh) (δ : DSt) (b : Bool) (δ' : DSt) (σ : L2.St) (H : Hp) (Q : Bool → Hp → Prop), ft δ = some (b, δ') → Rl X.mg X.K B G δ σ H → (∀ (G' : Gh) (H' : Hp), G.le G' → Rl X.mg X.K B G' δ' σ H' → Q b H') →
  ∀ pins s, L2.Inv X pins σ H s → wpAny (model X.prog X.w) X.A (forIn ifs true fun c r => if r = true then do let ok ← isTrue c X.env (eval c X.env); pure (ForInStep.yield ok) else pure (ForInStep.yield r)) (TP X pins σ Q) X.xe s
def lcG (X : Cx) (scope : Scope) (tg : Expr) : TG := fun v σ H Q => ∀ Y, Blk X scope Y → tTg Y tg v σ H Q
def lcE (X : Cx) (scope : Scope) (elt : Expr) : TE := fun σ H Q => ∀ Y, Blk X scope Y → tE Y elt σ H Q
def lcT (X : Cx) (scope : Scope) (ifs : List Expr) : TT := fun σ H Q => ∀ Y, Blk X scope Y → ∀ pins s, L2.Inv Y pins σ H s → wpAny (model Y.prog Y.w) Y.A (forIn ifs true fun c r => if r = true then do let ok ← isTrue c Y.env (eval c Y.env); pure (ForInStep.yield ok) else pure (ForInStep.yield r)) (TP Y pins σ Q) Y.xe s
theorem lc_run {scope : Scope} {vs : List Nat} {ifs : List Expr} (hi : SndI X tg iter fi) (hg : ∀ Y, Blk X scope Y → SndGw vs Y tg g) (ht : ∀ Y, Blk X scope Y → SndIf Y ifs ft) (he : ∀ Y, Blk X scope Y → Snd Y elt f) {B : Bs} {G : Gh} {δ δ' : DSt} {r : RV} {σ : L2.St} {H : Hp} {Q : VK}
    (q : dLc fi g ft f vs δ = some (r, δ')) (R : Rl X.mg X.K B G δ σ H) (kk : Ct X.mg X.K B G δ' σ r Q) : tLc (tIt X tg iter) (lcG X scope tg) (lcT X scope ifs) (lcE X scope elt) vs σ H Q := by
  obtain ⟨⟨items, δ1⟩, e1, q⟩ := bnd q
  obtain ⟨⟨accF, ceF⟩, e2, q⟩ := Option.map_eq_some_iff.mp q
  cases q
  refine hi B G δ items δ1 σ H _ e1 R fun G1 J H1 l1 R1 io => ?_
  intro Dl hD
  obtain ⟨R2, f1, f2, f3, f4⟩ := R1.push (o := .lst []) hD
  refine ⟨fun i m H => m = items.length - i ∧ i ≤ items.length ∧ ∃ (F2 : Hp) (acc : List D) (xs : List V) (ce2 : List D), Same G1.F F2 ∧ Rl X.mg X.K B { G1 with F := F2 } ⟨δ1.sl, ce2⟩ σ H ∧ F2 Dl = none ∧ H Dl = some (.lst xs) ∧ Reps X.mg X.K F2 G1.ρ xs acc ∧ lcL g ft f (wipeD (hideO δ1.sl) vs) (items.drop i) acc ce2 = some (accF, ceF),
    ⟨_, rfl, Nat.zero_le _, G1.F, [], [], δ1.ce, Same.refl _, R2, f1, upd_same, .nil, e2⟩, ?_⟩
  rintro i m H2 ⟨rfl, hi2, F2, acc, xs, ce2, ff, R3, d1, d2, d3, e3⟩
  have sm : Same G1.F H2 := ff.trans R3.sub
  by_cases hlt : i < items.length
  · refine .inr ⟨io.go i H2 sm hlt, fun H => ∃ (F2 : Hp) (acc : List D) (xs : List V) (ce2 : List D), Same G1.F F2 ∧ Rl X.mg X.K B { G1 with F := F2 } ⟨δ1.sl, ce2⟩ σ H ∧ F2 Dl = none ∧ H Dl = some (.lst xs) ∧ Reps X.mg X.K F2 G1.ρ xs acc ∧ lcL g ft f (wipeD (hideO δ1.sl) vs) (items.drop (i + 1)) acc ce2 = some (accF, ceF), fun H' q => ⟨_, (by omega), rfl, hlt, q⟩, fun x H' hy => ?_⟩
    have hd : items.drop i = items[i] :: items.drop (i + 1) := List.drop_eq_getElem_cons hlt
    rw [hd] at e3
    obtain ⟨δa, ea, e3⟩ := bnd e3
    obtain ⟨⟨bb, δb⟩, eb, e3⟩ := bnd e3
    have Rb := R3.blk vs
    obtain ⟨G4, l4, R4, rx⟩ := io.yld _ ⟨F2, G1.ρ, fun _ => none⟩ _ _ i H2 x H' items[i] ⟨ff, [], by simp⟩ Rb (List.getElem?_eq_getElem hlt) hy
    intro Y hY
    have hmg : Y.mg = X.mg ∧ Y.K = X.K := by obtain ⟨s, H, A, cl, fp, rfl⟩ := hY; exact ⟨rfl, rfl⟩
    have hg' := hg Y hY
    have cel : ce2.length = G1.ρ.length := R3.cl
    refine hg' _ G4 _ δa items[i] x _ H' _ ea (by rw [hmg.1, hmg.2]; exact R4) (by rw [hmg.1, hmg.2]; exact rx) fun G5 σ5 H5 l5 w5 R5 => ⟨by rw [w5]; exact wipe_wipe fun _ h => h, ?_⟩
    intro Y2 hY2 pins s I
    have hmg2 : Y2.mg = X.mg ∧ Y2.K = X.K := by obtain ⟨s, H, A, cl, fp, rfl⟩ := hY2; exact ⟨rfl, rfl⟩
    refine ht Y2 hY2 _ G5 δa bb δb σ5 H5 _ eb (by rw [hmg.1, hmg.2] at R5; rw [hmg2.1, hmg2.2]; exact R5) (fun G6 H6 l6 R6 => ?_) pins s I
    rw [hmg2.1, hmg2.2] at R6
    have ll := (l4.trans l5).trans l6
    cases bb with
    | true =>
      rw [if_pos rfl]
      have e3 : ((f δb).bind fun q => (q.1.pin.keep q.2).bind fun x => if q.2.ce.length = ce2.length ∧ acc.length < 16777216 then lcL g ft f (wipeD (hideO δ1.sl) vs) (items.drop (i + 1)) (acc ++ [x]) q.2.ce else none) = some (accF, ceF) := e3
      obtain ⟨⟨rr, δc⟩, ec, e3⟩ := bnd e3
      obtain ⟨y, ed, e3⟩ := bnd e3
      split at e3
      · rename_i hlen
        intro Y3 hY3
        have hmg3 : Y3.mg = X.mg ∧ Y3.K = X.K := by obtain ⟨s, H, A, cl, fp, rfl⟩ := hY3; exact ⟨rfl, rfl⟩
        refine he Y3 hY3 _ G6 δb rr δc σ5 H6 _ ec (by rw [hmg3.1, hmg3.2]; exact R6) fun G7 v H7 l7 R7 o7 => ?_
        rw [hmg3.1, hmg3.2] at R7 o7
        obtain ⟨G8, l8, R8, o8⟩ := R7.pin o7
        obtain ⟨er, af⟩ := R8.back ((ll.trans l7).trans l8).F (by rw [hlen.1]; exact cel)
        obtain ⟨l9, R9⟩ := R3.after (fun _ z => .inl z) af
        have hDl : H7 Dl = some (.lst xs) := af.fr Dl _ d2 f3
        have hFl : G8.F Dl = none := by rw [af.old Dl _ d2]; exact d1
        have ry : Rep X.mg X.K G8.F G1.ρ v y := by have := R8.keepPin o8 ed; rw [er] at this; exact this
        refine ⟨xs, hDl, by rw [d3.length, sizeLine_eq]; exact hlen.2, G8.F, acc ++ [y], xs ++ [v], δc.ce, ff.trans af.ff, ?_, hFl, upd_same, Reps.append (Reps.mono af.ff ⟨[], by simp⟩ _ _ d3) (.cons ry .nil), e3⟩
        -- the new list grows
        have hne : ∀ b, H7 b = none → b ≠ Dl := fun b z y => by subst y; rw [hDl] at z; cases z
        have sm9 : Same G8.F (upd H7 Dl (.lst (xs ++ [v]))) := fun b u q => by
          rw [upd_ne (ne_of_none q hFl)]; exact R9.sub b u q
        have keep9 : ∀ b, H7 b ≠ none → upd H7 Dl (.lst (xs ++ [v])) b ≠ none := fun b q z => by
          by_cases hb : b = Dl
          · subst hb; rw [upd_same] at z; cases z
          · rw [upd_ne hb] at z; exact q z
        exact { R9 with
          sub := sm9
          oh := fun b j q => keep9 b (R9.oh b j q), ch := fun b q => keep9 b (R9.ch b q)
          so := fun j d q => by
            obtain ⟨a, g1, g2, g3⟩ := R9.so j d q
            refine ⟨a, g1, g2, g3.mono (Same.refl _) ⟨[], by simp⟩ fun u z => ?_⟩
            rw [upd_ne (fun y => by rw [y] at g2; have g2' : G1.ow Dl = some j := g2; rw [f2] at g2'; cases g2')]; exact z
          ce := fun j d q => by
            obtain ⟨a, g1, g2⟩ := R9.ce j d q
            refine ⟨a, g1, g2.mono (Same.refl _) ⟨[], by simp⟩ fun u z => ?_⟩
            rw [upd_ne (fun y => f3 (by rw [← y]; exact List.mem_of_getElem? g1))]; exact z
          fr := fun b u q n => by
            rw [upd_ne (fun y => by rw [y, f4] at q; cases q)]; exact R9.fr b u q n
          dom := fun b q => R9.dom b (by
            by_cases hb : b = Dl
            · subst hb; rw [upd_same] at q; cases q
            · rw [upd_ne hb] at q; exact q) }
      · cases e3
    | false =>
      rw [if_neg Bool.false_ne_true]
      have e3 : (if δb.ce.length = ce2.length then lcL g ft f (wipeD (hideO δ1.sl) vs) (items.drop (i + 1)) acc δb.ce else none) = some (accF, ceF) := e3
      split at e3
      · rename_i hlen
        obtain ⟨er, af⟩ := R6.back ll.F (by rw [hlen]; exact cel)
        obtain ⟨l9, R9⟩ := R3.after (fun _ z => .inl z) af
        exact ⟨G6.F, acc, xs, δb.ce, ff.trans af.ff, R9, by rw [af.old Dl _ d2]; exact d1, af.fr Dl _ d2 f3, Reps.mono af.ff ⟨[], by simp⟩ _ _ d3, e3⟩
      · cases e3
  · have e : i = items.length := by omega
    subst e
    rw [List.drop_length] at e3
    cases e3
    exact .inl ⟨io.stop _ H2 sm rfl, kk _ _ H2 (l1.trans ⟨ff, [], by simp⟩) R3 ⟨Dl, rfl, d1, f2, f3, f4, xs, d2, d3⟩⟩
theorem lc_pg {scope : Scope} (s : Shared) (H : Hp) (A : Addr) (cl : List (Str × Addr)) (fp : List Addr) : PG (X.blk s H scope (compEnvC scope cl A X.env) fp) tg (lcG X scope tg) := ⟨fun pins s' σ H v u Q I r q => q _ ⟨s, _, A, cl, fp, rfl⟩ pins s' u I r⟩
theorem lc_pt {scope : Scope} {ifs : List Expr} (s : Shared) (H : Hp) (A : Addr) (cl : List (Str × Addr)) (fp : List Addr) : PTs (X.blk s H scope (compEnvC scope cl A X.env) fp) ifs (lcT X scope ifs) := ⟨fun pins s' σ H Q I q => q _ ⟨s, _, A, cl, fp, rfl⟩ pins s' I⟩
theorem lc_pe {scope : Scope} (s : Shared) (H : Hp) (A : Addr) (cl : List (Str × Addr)) (fp : List Addr) : PE (X.blk s H scope (compEnvC scope cl A X.env) fp) elt (lcE X scope elt) := ⟨fun pins s' σ H Q I q => q _ ⟨s, _, A, cl, fp, rfl⟩ pins s' I⟩
theorem snd_lc {scope : Scope} {own : List (Str × Nat)} {ifs : List Expr} (hc : X.calm = true) (hN : X.N.Nodup) (ok : BlkOk X.N X.env.scope scope own) (hs : ∀ x, foldedSetIterable iter X.env x = pure x) (hi : SndI X tg iter fi) (hg : ∀ Y, Blk X scope Y → SndGw (own.map (·.2)) Y tg g)
    (ht : ∀ Y, Blk X scope Y → SndIf Y ifs ft) (he : ∀ Y, Blk X scope Y → Snd Y elt f) : Snd X (.ListComp elt [⟨tg, iter, ifs, 0⟩] scope pos) (dLc fi g ft f (own.map (·.2))) :=
  fun B G δ r δ' σ H Q q R kk => tE_of (pe_lc hc hN (pi_tIt X tg iter) ok lc_pg lc_pt lc_pe hs) (lc_run hi hg ht he q R kk)
/-- no test; one test -/
def tYesD : DT := fun δ => some (true, δ)
theorem lct_nil {Y : Cx} : SndIf Y [] tYesD := by
  intro B G δ b δ' σ H Q q R k pins s I
  cases q
  exact (pts_nil (X := Y)).run pins s σ H Q I (k G H (.refl G) R)
theorem lct_one {Y : Cx} (hc : SndT Y c ft) : SndIf Y [c] ft := fun B G δ b δ' σ H Q q R k pins s I => (pts_one (pt_tT Y c)).run pins s σ H Q I (hc B G δ b δ' σ H Q q R k)

/-! ### methods that change a list -/
/-- by values: the items, the arguments (kept where kp, else read); the answer, the items behind -/
def LMut (mg : Str → Option Value) (K : PySem.W.Frag) (r : V → List V → Hp → VK → Prop) (kp : Bool) (u : List D → List D → Option (D × List D)) : Prop :=
  ∀ (F : Hp) (ρ : List Addr) (H : Hp) (p : Addr) (xs : List V) (es : List D) (vs : List V) (ds : List D) (x : D) (es' : List D) (Q : VK), Same F H → H p = some (.lst xs) → Reps mg K F ρ xs es → (if kp = true then Reps mg K F ρ vs ds else CReps mg K F ρ H vs ds) → u es ds = some (x, es') →
    (∀ (v : V) (xs' : List V), Rep mg K F ρ v x → Reps mg K F ρ xs' es' → Q v (upd H p (.lst xs'))) → r (.ref p) vs H Q
def argsOf (kp : Bool) (δ : DSt) (rs : List RV) : Option (List D) := if kp = true then keepAll δ rs else rdAll δ rs
/-- the list that the name in slot i holds -/
def lstAt (δ : DSt) (i : Nat) : Option (List D) := match δ.sl[i]? with
  | some (some (.own (.lst es))) => some es
  | some (some (.val (.cell k))) => match δ.ce[k]? with
    | some (.lst es) => some es
    | _ => none
  | _ => none
def putAt (δ : DSt) (i : Nat) (es : List D) : DSt := match δ.sl[i]? with
  | some (some (.val (.cell k))) => δ.putC k (.lst es)
  | _ => δ.putO i (.lst es)
def dMut (kp : Bool) (u : List D → List D → Option (D × List D)) (i : Nat) (fas : DA) : DE := fun δ => (lstAt δ i).bind fun _ => (fas δ).bind fun q => (argsOf kp q.2 q.1).bind fun ds => (lstAt q.2 i).bind fun es => (u es ds).map fun r => (.val r.1, putAt q.2 i r.2)
theorem Rl.lstAt {mg : Str → Option Value} {K : PySem.W.Frag} {B : Bs} {G : Gh} {δ : DSt} {σ : L2.St} {H : Hp} {i : Nat} {es : List D} (R : Rl mg K B G δ σ H) (h : lstAt δ i = some es) :
    ∃ p xs, σ[i]? = some (some (.ref p)) ∧ H p = some (.lst xs) ∧ Reps mg K G.F G.ρ xs es ∧ ∀ xs' es', Reps mg K G.F G.ρ xs' es' → Rl mg K B G (putAt δ i es') σ (upd H p (.lst xs')) := by
  unfold EV.lstAt at h
  split at h
  · rename_i es0 q
    cases h
    obtain ⟨p, g1, ⟨xs, g2, g3⟩, _⟩ := R.mutO (d' := .lst es) q
    refine ⟨p, xs, g1, g2, g3, fun xs' es' hr => ?_⟩
    obtain ⟨p2, k1, _, k3⟩ := R.mutO (d' := .lst es') q
    rw [g1] at k1; cases k1
    have e : putAt δ i es' = δ.putO i (.lst es') := by unfold putAt; rw [q]
    rw [e]
    exact k3 _ ⟨xs', upd_same, hr⟩
  · rename_i k q
    split at h
    · rename_i es0 qc
      cases h
      obtain ⟨w, h1, h2⟩ := R.sv i _ q
      cases h2 with
      | cell h3 =>
        obtain ⟨p, g1, ⟨xs, g2, g3⟩, _⟩ := R.mutC (d' := .lst es) qc
        rw [g1] at h3; cases h3
        refine ⟨_, xs, h1, g2, g3, fun xs' es' hr => ?_⟩
        obtain ⟨p2, k1, _, k3⟩ := R.mutC (d' := .lst es') qc
        rw [g1] at k1; cases k1
        have e : putAt δ i es' = δ.putC k (.lst es') := by unfold putAt; rw [q]
        rw [e]
        exact k3 _ ⟨xs', upd_same, hr⟩
    · cases h
  · cases h
theorem mut_run {r : V → List V → Hp → VK → Prop} {kp : Bool} {u : List D → List D → Option (D × List D)} {i : Nat} (hu : LMut X.mg X.K r kp u) (hs : SndA X es fas) {B : Bs} {G : Gh} {δ δ' : DSt} {rv : RV} {σ : L2.St} {H : Hp} {Q : VK} (q : dMut kp u i fas δ = some (rv, δ')) (R : Rl X.mg X.K B G δ σ H) (kk : Ct X.mg X.K B G δ' σ rv Q) :
    tVar i σ H fun x H1 => tyV X.K "list" x H1 ∧ tA X es σ H1 fun vs H2 => r x vs H2 Q := by
  obtain ⟨es0, e0, q⟩ := bnd q
  obtain ⟨⟨rs, δ2⟩, e2, q⟩ := bnd q
  obtain ⟨ds, e3, q⟩ := bnd q
  obtain ⟨es1, e4, q⟩ := bnd q
  obtain ⟨⟨y, es'⟩, e5, q⟩ := Option.map_eq_some_iff.mp q
  cases q
  obtain ⟨p, xs, h1, h2, h3, _⟩ := R.lstAt e0
  refine ⟨.ref p, h1, .inl ⟨rfl, xs, .of h2⟩, ?_⟩
  refine hs B G δ rs δ2 σ H _ e2 R fun G2 vs H2 l2 R2 o2 => ?_
  obtain ⟨p2, xs2, g1, g2, g3, g4⟩ := R2.lstAt e4
  rw [h1] at g1; cases g1
  have ar : if kp = true then Reps X.mg X.K G2.F G2.ρ vs ds else CReps X.mg X.K G2.F G2.ρ H2 vs ds := by
    unfold argsOf at e3
    split at e3
    · rename_i hk; rw [if_pos hk]; exact R2.keepAll o2 e3
    · rename_i hk; rw [if_neg hk]; exact R2.rdAll o2 e3
  exact hu G2.F G2.ρ H2 p xs2 es1 vs ds y es' Q R2.sub g2 g3 ar e5 fun v xs' rv rx => kk G2 v _ l2 (g4 xs' es' rx) rv
theorem snd_mut {id : String} {x : Str} {r : V → List V → Hp → VK → Prop} {kp : Bool} {u : List D → List D → Option (D × List D)} {i : Nat} {name : Str} (pa : PlainAttrs "list") (slot : Slot "list" name id) (hty : typeOf (.builtin id) = pure (.type "method_descriptor")) (hm : MtR X id r) (hu : LMut X.mg X.K r kp u)
    (hN : X.N[i]? = some x) (hv : Vis X.env.scope x) (hd : (x == ("__debug__" : Str)) = false) (hcd : (x == ("__classdict__" : Str)) = false) (hs : SndA X (e :: es) fas) (hbase : attributeBase (.Name x p) name X.env (eval (.Name x p) X.env) = eval (.Name x p) X.env)
    (hfew : ((backTo cpos (starEach (e :: es) X.env)).all (fun x => !x.1) && (backToKw cpos (keywordEach [] X.env)).all (fun x => x.1.isSome)
      && decide ((e :: es).length + ([] : List Keyword).length + (if ([] : List Keyword).isEmpty then 0 else 1) < 30)) = true)
    (hline : (apos.endLine == cpos.line) = true) (hst : starEach (e :: es) X.env = (false, eval e X.env) :: starEach es X.env) (hplain : (backTo cpos (starEach es X.env)).any (·.1) = false) :
    Snd X (.Call (.Attribute (.Name x p) name apos) (e :: es) [] cpos) (dMut kp u i fas) := fun B G δ rv δ' σ H Q q R kk =>
  tE_of (pe_bm pa slot hty hm (pe_var hN hv hd hcd) (pa_tA X _) hbase hfew hline hst hplain) (mut_run hu hs q R kk)
theorem snd_mut0 {id : String} {x : Str} {r : V → List V → Hp → VK → Prop} {kp : Bool} {u : List D → List D → Option (D × List D)} {i : Nat} {name : Str} (pa : PlainAttrs "list") (slot : Slot "list" name id) (hty : typeOf (.builtin id) = pure (.type "method_descriptor")) (hm : MtR X id r) (hu : LMut X.mg X.K r kp u)
    (hN : X.N[i]? = some x) (hv : Vis X.env.scope x) (hd : (x == ("__debug__" : Str)) = false) (hcd : (x == ("__classdict__" : Str)) = false) (hbase : attributeBase (.Name x p) name X.env (eval (.Name x p) X.env) = eval (.Name x p) X.env)
    (hline : (apos.endLine == cpos.line) = true) : Snd X (.Call (.Attribute (.Name x p) name apos) [] [] cpos) (dMut kp u i dNil) := by
  intro B G δ rv δ' σ H Q q R kk
  refine tE_of (pe_bm0 pa slot hty hm (pe_var hN hv hd hcd) hbase hline) ?_
  obtain ⟨es0, e0, q⟩ := bnd q
  obtain ⟨⟨rs, δ2⟩, e2, q⟩ := bnd q
  cases e2
  obtain ⟨ds, e3, q⟩ := bnd q
  obtain ⟨es1, e4, q⟩ := bnd q
  obtain ⟨⟨y, es'⟩, e5, q⟩ := Option.map_eq_some_iff.mp q
  cases q
  obtain ⟨p2, xs2, g1, g2, g3, g4⟩ := R.lstAt e4
  refine ⟨.ref p2, g1, .inl ⟨rfl, xs2, .of g2⟩, ?_⟩
  have ed : ds = [] := by
    unfold argsOf at e3
    split at e3 <;> (cases e3; rfl)
  subst ed
  have ar : if kp = true then Reps X.mg X.K G.F G.ρ [] [] else CReps X.mg X.K G.F G.ρ H [] [] := by
    split
    · exact .nil
    · exact .nil
  exact hu G.F G.ρ H p2 xs2 es1 [] [] y es' Q R.sub g2 g3 ar e5 fun v xs' rv rx => kk G v _ (.refl G) (g4 xs' es' rx) rv
section
variable {mg : Str → Option Value} {K : PySem.W.Frag}
def uAppend (es ds : List D) : Option (D × List D) := match ds with
  | [d] => if es.length < 16777216 then some (.non, es ++ [d]) else none
  | _ => none
theorem lm_append : LMut mg K rAppend true uAppend := by
  intro F ρ H p xs es vs ds x es' Q s h1 h2 h3 h4 k
  unfold uAppend at h4
  split at h4
  · split at h4
    · rename_i d hl
      cases h4
      have h3 : Reps mg K F ρ vs [d] := h3
      cases h3 with
      | cons r rr =>
        cases rr
        exact ⟨p, xs, _, rfl, rfl, h1, by rw [h2.length, sizeLine_eq]; exact hl, k _ _ .non (h2.append (.cons r .nil))⟩
    · cases h4
  · cases h4
def uExtend (es ds : List D) : Option (D × List D) := match ds with
  | [.lst zs] => if es.length + zs.length ≤ 16777216 then some (.non, es ++ zs) else none
  | _ => none
theorem lm_extend : LMut mg K rExtend false uExtend := by
  intro F ρ H p xs es vs ds x es' Q s h1 h2 h3 h4 k
  unfold uExtend at h4
  split at h4
  · split at h4
    · rename_i zs hl
      cases h4
      have h3 : CReps mg K F ρ H vs [.lst zs] := h3
      obtain ⟨v, rfl, c⟩ := creps1 h3
      obtain ⟨b, ws, rfl, g1, g2⟩ := c.lst s
      exact ⟨p, b, xs, ws, rfl, rfl, h1, g1, by rw [h2.length, g2.length, sizeLine_eq]; exact hl, k _ _ .non (h2.append g2)⟩
    · cases h4
  · cases h4
def uPop (es ds : List D) : Option (D × List D) := match ds with
  | [] => (es[es.length - 1]?).map fun d => (d, es.dropLast)
  | _ => none
theorem lm_pop : LMut mg K rPop false uPop := by
  intro F ρ H p xs es vs ds x es' Q s h1 h2 h3 h4 k
  unfold uPop at h4
  split at h4
  · obtain ⟨d, e1, e2⟩ := Option.map_eq_some_iff.mp h4
    cases e2
    have h3 : CReps mg K F ρ H vs [] := h3
    cases h3
    obtain ⟨v, g1, g2⟩ := h2.get e1
    refine ⟨p, xs, v, rfl, rfl, h1, by rw [h2.length]; exact g1, k _ _ g2 ?_⟩
    have e3 : xs.dropLast = xs.take (es.length - 1) := by rw [← h2.length, List.dropLast_eq_take]
    rw [e3, List.dropLast_eq_take]
    exact h2.take _
  · cases h4
def uPopAt (es ds : List D) : Option (D × List D) := match ds with
  | [.int i] => if -9223372036854775808 ≤ i ∧ i < 9223372036854775808 then (seqIndex? i es.length).bind fun k => (es[k]?).map fun d => (d, es.eraseIdx k) else none
  | _ => none
theorem lm_popAt : LMut mg K rPopAt false uPopAt := by
  intro F ρ H p xs es vs ds x es' Q s h1 h2 h3 h4 k
  unfold uPopAt at h4
  split at h4
  · split at h4
    · rename_i i hb
      obtain ⟨m, e0, h4⟩ := bnd h4
      obtain ⟨d, e1, e2⟩ := Option.map_eq_some_iff.mp h4
      cases e2
      have h3 : CReps mg K F ρ H vs [.int i] := h3
      obtain ⟨v, rfl, c⟩ := creps1 h3
      obtain ⟨w, g1, g2⟩ := h2.get e1
      refine ⟨p, xs, i, m, w, rfl, by rw [c.int], h1, by omega, by omega, by rw [h2.length]; exact e0, g1, k _ _ g2 (h2.eraseIdx m)⟩
    · cases h4
  · cases h4
def uClear (es ds : List D) : Option (D × List D) := match ds with
  | [] => some (.non, [])
  | _ => none
theorem lm_clear : LMut mg K rClear false uClear := by
  intro F ρ H p xs es vs ds x es' Q s h1 h2 h3 h4 k
  unfold uClear at h4
  split at h4
  · cases h4
    have h3 : CReps mg K F ρ H vs [] := h3
    cases h3
    exact ⟨p, xs, rfl, rfl, h1, k _ _ .non .nil⟩
  · cases h4
def uReverse (es ds : List D) : Option (D × List D) := match ds with
  | [] => some (.non, es.reverse)
  | _ => none
theorem lm_reverse : LMut mg K rReverse false uReverse := by
  intro F ρ H p xs es vs ds x es' Q s h1 h2 h3 h4 k
  unfold uReverse at h4
  split at h4
  · cases h4
    have h3 : CReps mg K F ρ H vs [] := h3
    cases h3
    exact ⟨p, xs, rfl, rfl, h1, k _ _ .non h2.reverse⟩
  · cases h4
end
end
end EV
set_option Elab.async false
set_option linter.all false
set_option maxRecDepth 100000
/-! EV 7: operators and built-in functions on data -/
namespace EV
open PySem L2 PySem.Spec PyProof.Rows

/-! ### plain data as the library's data -/
mutual
def D.toP : D → PyData
  | .non => .none
  | .bl b => .bool b
  | .int i => .int i
  | .str x => .str x
  | .lst xs => .list (D.toPs xs)
  | .klst xs => .list (D.toPs xs)
  | .tup xs => .tuple (D.toPs xs)
  | _ => .none
def D.toPs : List D → List PyData
  | [] => []
  | x :: xs => x.toP :: D.toPs xs
end
mutual
def D.pur : D → Bool
  | .non | .bl _ | .int _ | .str _ => true
  | .lst xs => D.purs xs
  | .klst xs => D.purs xs
  | .tup xs => D.purs xs
  | _ => false
def D.purs : List D → Bool
  | [] => true
  | x :: xs => x.pur && D.purs xs
end
theorem toPs_eq (xs : List D) : D.toPs xs = xs.map D.toP := by
  induction xs with
  | nil => simp [D.toPs]
  | cons x xs ih => simp [D.toPs, ih]
theorem purs_eq (xs : List D) : D.purs xs = xs.all D.pur := by
  induction xs with
  | nil => simp [D.purs]
  | cons x xs ih => simp [D.purs, ih]
mutual
theorem D.plain : ∀ d : D, d.pur = true → d.toP.plain = true
  | .non, _ => by simp [D.toP, PyData.plain]
  | .bl _, _ => by simp [D.toP, PyData.plain]
  | .int _, _ => by simp [D.toP, PyData.plain]
  | .str _, _ => by simp [D.toP, PyData.plain]
  | .lst xs, h => by
    simp only [D.toP, PyData.plain]
    exact D.plains xs (by simpa [D.pur] using h)
  | .klst xs, h => by
    simp only [D.toP, PyData.plain]
    exact D.plains xs (by simpa [D.pur] using h)
  | .tup xs, h => by
    simp only [D.toP, PyData.plain]
    exact D.plains xs (by simpa [D.pur] using h)
  | .ins _ _ _, h => by simp [D.pur] at h
  | .dic _ _, h => by simp [D.pur] at h
  | .cell _, h => by simp [D.pur] at h
  | .ty _, h => by simp [D.pur] at h
  | .fn _, h => by simp [D.pur] at h
theorem D.plains : ∀ ds : List D, D.purs ds = true → PyData.plainAll (D.toPs ds) = true
  | [], _ => by simp [D.toPs, PyData.plainAll]
  | d :: ds, h => by
    have h' : d.pur = true ∧ D.purs ds = true := by simpa [D.purs] using h
    simp only [D.toPs, PyData.plainAll, D.plain d h'.1, D.plains ds h'.2, Bool.and_self]
end
section
variable {mg : Str → Option Value} {K : PySem.W.Frag} {F H : Hp} {ρ : List Addr}
mutual
theorem Rep.dp (s : Same F H) : ∀ (d : D) (v : V), d.pur = true → Rep mg K F ρ v d → Dp K H v d.toP
  | .non, _, _, h => by cases h; exact .non
  | .bl b, _, _, h => by cases h; exact .bl b
  | .int i, _, _, h => by cases h; exact .int i
  | .str x, _, _, h => by cases h; exact .str x
  | .lst xs, _, p, h => by
    cases h with
    | lst h1 h2 => exact .lst (.of (s _ _ h1)) (Reps.dp s xs _ (by simpa [D.pur] using p) h2)
  | .klst xs, _, p, h => by
    cases h with
    | klst h1 h2 => exact .lst (s.seq h1) (Reps.dp s xs _ (by simpa [D.pur] using p) h2)
  | .tup xs, _, p, h => by
    cases h with
    | tup h1 h2 => exact .tup (sqT_same s h1) (Reps.dp s xs _ (by simpa [D.pur] using p) h2)
  | .ins _ _ _, _, p, _ => by simp [D.pur] at p
  | .dic _ _, _, p, _ => by simp [D.pur] at p
  | .cell _, _, p, _ => by simp [D.pur] at p
  | .ty _, _, p, _ => by simp [D.pur] at p
  | .fn _, _, p, _ => by simp [D.pur] at p
theorem Reps.dp (s : Same F H) : ∀ (ds : List D) (vs : List V), D.purs ds = true → Reps mg K F ρ vs ds → DpAll K H vs (D.toPs ds)
  | [], _, _, h => by cases h; simp only [D.toPs]; exact .nil
  | d :: ds, _, p, h => by
    have p' : d.pur = true ∧ D.purs ds = true := by simpa [D.purs] using p
    cases h with
    | cons h1 h2 => simp only [D.toPs]; exact .cons (Rep.dp s d _ p'.1 h1) (Reps.dp s ds _ p'.2 h2)
end
theorem CRep.dp {v : V} {d : D} (s : Same F H) (p : d.pur = true) (h : CRep mg K F ρ H v d) : Dp K H v d.toP := by
  rcases h with h | ⟨a, rfl, h⟩
  · exact Rep.dp s d v p h
  · cases d with
    | lst xs =>
      obtain ⟨vs, h1, h2⟩ := h
      exact .lst (.of h1) (Reps.dp s xs vs (by simpa [D.pur] using p) h2)
    | ins c ns ds => simp [D.pur] at p
    | _ => exact h.elim
end

/-! ### numbers -/
def gI (f : Int → Int → Int) (x y : D) : Option RV := match x, y with
  | .int i, .int j => some (.val (.int (f i j)))
  | _, _ => none
def gIC (C : Int → Int → Bool) (f : Int → Int → Int) (x y : D) : Option RV := match x, y with
  | .int i, .int j => if C i j = true then some (.val (.int (f i j))) else none
  | _, _ => none
def gIB (f : Int → Int → Bool) (x y : D) : Option RV := match x, y with
  | .int i, .int j => some (.val (.bl (f i j)))
  | _, _ => none
section
variable {mg : Str → Option Value} {K : PySem.W.Frag}
theorem opd_I {f : Int → Int → Int} : OpD mg K (rI0 fun i j => .int (f i j)) (gI f) := by
  intro B G δ σ H x y vx vy r Q h R cx cy k
  unfold gI at h
  split at h
  · cases h
    rw [cx.int, cy.int]
    exact ⟨_, _, rfl, rfl, k G _ H (.refl G) R (.int _)⟩
  · cases h
theorem opd_IC {C : Int → Int → Prop} {c : Int → Int → Bool} {f : Int → Int → Int} (hc : ∀ i j, c i j = true → C i j) : OpD mg K (rI C fun i j => .int (f i j)) (gIC c f) := by
  intro B G δ σ H x y vx vy r Q h R cx cy k
  unfold gIC at h
  split at h
  · split at h
    · rename_i hcc
      cases h
      rw [cx.int, cy.int]
      exact ⟨_, _, rfl, rfl, hc _ _ hcc, k G _ H (.refl G) R (.int _)⟩
    · cases h
  · cases h
theorem opd_IB {f : Int → Int → Bool} : OpD mg K (rI0 fun i j => .bl (f i j)) (gIB f) := by
  intro B G δ σ H x y vx vy r Q h R cx cy k
  unfold gIB at h
  split at h
  · cases h
    rw [cx.int, cy.int]
    exact ⟨_, _, rfl, rfl, k G _ H (.refl G) R (.bl _)⟩
  · cases h
/-- either rule, by what the operands are -/
theorem OpD.or {r r' : R2} {g g' : D → D → Option RV} (h : OpD mg K r g) (h' : OpD mg K r' g') : OpD mg K (fun x y H Q => r x y H Q ∨ r' x y H Q) (fun x y => (g x y).or (g' x y)) := by
  intro B G δ σ H x y vx vy rv Q q R cx cy k
  have q : (g x y).or (g' x y) = some rv := q
  cases e : g x y with
  | some z =>
    rw [e] at q
    have : z = rv := by simpa using q
    subst this
    exact .inl (h B G δ σ H x y vx vy z Q e R cx cy k)
  | none =>
    rw [e] at q
    exact .inr (h' B G δ σ H x y vx vy rv Q (by simpa using q) R cx cy k)
/-! ### texts, lists, tuples joined -/
def gStrAdd (x y : D) : Option RV := match x, y with
  | .str a, .str b => if a.length + b.length ≤ 16777216 then some (.val (.str (a ++ b))) else none
  | _, _ => none
theorem opd_strAdd : OpD mg K (fun x y H Q => ∃ i j, x = .str i ∧ y = .str j ∧ i.length + j.length ≤ sizeLine ∧ Q (.str (i ++ j)) H) gStrAdd := by
  intro B G δ σ H x y vx vy r Q h R cx cy k
  unfold gStrAdd at h
  split at h
  · split at h
    · rename_i hl
      cases h
      rw [cx.str, cy.str]
      exact ⟨_, _, rfl, rfl, by rw [sizeLine_eq]; exact hl, k G _ H (.refl G) R (.str _)⟩
    · cases h
  · cases h
def gCat (x y : D) : Option RV := match x, y with
  | .lst a, .lst b => if a.length + b.length ≤ 16777216 then some (.fresh (.lst (a ++ b))) else none
  | _, _ => none
theorem opd_cat : OpD mg K rCat gCat := by
  intro B G δ σ H x y vx vy r Q h R cx cy k
  unfold gCat at h
  split at h
  · split at h
    · rename_i hl
      cases h
      obtain ⟨l, xs, rfl, h1, h2⟩ := cx.lst R.sub
      obtain ⟨b, zs, rfl, h3, h4⟩ := cy.lst R.sub
      refine ⟨l, b, xs, zs, rfl, rfl, h1, h3, by rw [h2.length, h4.length, sizeLine_eq]; exact hl, fun p hp => ?_⟩
      obtain ⟨R', o⟩ := R.push_lst hp (h2.append h4)
      exact k G _ _ (.refl G) R' o
    · cases h
  · cases h
def gCatT (x y : D) : Option RV := match x, y with
  | .tup a, .tup b => if a.length + b.length ≤ 16777216 ∧ a.isEmpty = false ∧ b.isEmpty = false then some (.val (.tup (a ++ b))) else none
  | _, _ => none
theorem opd_catT : OpD mg K (rCatT K) gCatT := by
  intro B G δ σ H x y vx vy r Q h R cx cy k
  unfold gCatT at h
  split at h
  · split at h
    · rename_i hl
      cases h
      obtain ⟨l, xs, rfl, h1, h2⟩ := cx.tup R.sub
      obtain ⟨b, zs, rfl, h3, h4⟩ := cy.tup R.sub
      have n1 : xs ≠ [] := fun z => by subst z; cases h2; exact absurd hl.2.1 (by simp)
      have n2 : zs ≠ [] := fun z => by subst z; cases h4; exact absurd hl.2.2 (by simp)
      refine ⟨l, b, xs, zs, rfl, rfl, h1, h3, n1, by rw [h2.length, h4.length, sizeLine_eq]; exact hl.1, fun z => absurd z n2, fun _ p hp => ?_⟩
      obtain ⟨G', l', R', o⟩ := R.push_tup hp (h2.append h4)
      exact k G' _ _ l' R' o
    · cases h
  · cases h
def gRepL (x y : D) : Option RV := match x, y with
  | .lst a, .int i => if (-9223372036854775808 ≤ i ∧ i < 9223372036854775808) ∧ a.length * i.toNat ≤ 16777216 then some (.fresh (.lst (List.replicate i.toNat a).flatten)) else none
  | _, _ => none
theorem Reps.rep {F : Hp} {ρ : List Addr} {vs : List V} {ds : List D} (h : Reps mg K F ρ vs ds) : ∀ k : Nat, Reps mg K F ρ (List.replicate k vs).flatten (List.replicate k ds).flatten
  | 0 => .nil
  | k + 1 => by
    rw [List.replicate_succ, List.replicate_succ, List.flatten_cons, List.flatten_cons]
    exact h.append (Reps.rep h k)
theorem opd_repL : OpD mg K rRep gRepL := by
  intro B G δ σ H x y vx vy r Q h R cx cy k
  unfold gRepL at h
  split at h
  · split at h
    · rename_i hl
      cases h
      obtain ⟨l, xs, rfl, h1, h2⟩ := cx.lst R.sub
      rw [cy.int]
      refine ⟨l, _, xs, rfl, rfl, h1, by omega, by omega, by rw [h2.length, sizeLine_eq]; exact hl.2, fun p hp => ?_⟩
      obtain ⟨R', o⟩ := R.push_lst hp (h2.rep _)
      exact k G _ _ (.refl G) R' o
    · cases h
  · cases h

/-! ### ==, != of plain data -/
def rEqP (K : PySem.W.Frag) : R2 := fun x y H Q => ∃ d e, Dp K H x d ∧ Dp K H y e ∧ d.plain = true ∧ e.plain = true ∧ d.depth ≤ 64 ∧ Q (.bl (PyData.eqv d e)) H
def rNeP (K : PySem.W.Frag) : R2 := fun x y H Q => ∃ d e, Dp K H x d ∧ Dp K H y e ∧ d.plain = true ∧ e.plain = true ∧ d.depth ≤ 64 ∧ Q (.bl (!PyData.eqv d e)) H
theorem op_eqP {X : Cx} (hu : X.A.units + 64 < cLine) : OpR X (compareOp .Eq) (rEqP X.K) := by
  intro pins s σ H x y v u Q I rx ry ⟨d, e, hd, he, pd, pe, dd, q⟩
  obtain ⟨as, r1⟩ := Dp.reads I d x v hd rx
  obtain ⟨bs, r2⟩ := Dp.reads I e y u he ry
  have hm : min d.depth e.depth ≤ d.depth := Nat.min_le_left _ _
  exact SeqAt.eq_plain r1 r2 pd pe (by omega) ⟨.bl _, H, I, rfl, q⟩
theorem op_neP {X : Cx} (hu : X.A.units + 64 < cLine) : OpR X (compareOp .NotEq) (rNeP X.K) := by
  intro pins s σ H x y v u Q I rx ry ⟨d, e, hd, he, pd, pe, dd, q⟩
  obtain ⟨as, r1⟩ := Dp.reads I d x v hd rx
  obtain ⟨bs, r2⟩ := Dp.reads I e y u he ry
  have hm : min d.depth e.depth ≤ d.depth := Nat.min_le_left _ _
  exact SeqAt.ne_plain r1 r2 pd pe (by omega) ⟨.bl _, H, I, rfl, q⟩
def eqD (x y : D) : Option Bool := if (x.pur && y.pur && decide (x.toP.depth ≤ 64)) = true then some (PyData.eqv x.toP y.toP) else none
def gEq (x y : D) : Option RV := (eqD x y).map fun b => .val (.bl b)
def gNe (x y : D) : Option RV := (eqD x y).map fun b => .val (.bl (!b))
theorem eqD_parts {x y : D} {b : Bool} (h : eqD x y = some b) : x.pur = true ∧ y.pur = true ∧ x.toP.depth ≤ 64 ∧ b = PyData.eqv x.toP y.toP := by
  unfold eqD at h
  split at h
  · rename_i hc
    simp only [Bool.and_eq_true, decide_eq_true_eq] at hc
    cases h
    exact ⟨hc.1.1, hc.1.2, hc.2, rfl⟩
  · cases h
theorem opd_eq : OpD mg K (rEqP K) gEq := by
  intro B G δ σ H x y vx vy r Q h R cx cy k
  obtain ⟨b, e, h⟩ := Option.map_eq_some_iff.mp h
  obtain ⟨p1, p2, p3, p4⟩ := eqD_parts e
  subst h p4
  exact ⟨_, _, cx.dp R.sub p1, cy.dp R.sub p2, D.plain x p1, D.plain y p2, p3, k G _ H (.refl G) R (.bl _)⟩
theorem opd_ne : OpD mg K (rNeP K) gNe := by
  intro B G δ σ H x y vx vy r Q h R cx cy k
  obtain ⟨b, e, h⟩ := Option.map_eq_some_iff.mp h
  obtain ⟨p1, p2, p3, p4⟩ := eqD_parts e
  subst h p4
  exact ⟨_, _, cx.dp R.sub p1, cy.dp R.sub p2, D.plain x p1, D.plain y p2, p3, k G _ H (.refl G) R (.bl _)⟩
/-! ### in, not in -/
def rInP (K : PySem.W.Frag) (neg : Bool) : R2 := fun x y H Q => ∃ d ds, Dp K H x d ∧ (Dp K H y (.list ds) ∨ Dp K H y (.tuple ds)) ∧ d.plain = true ∧ PyData.plainAll ds = true ∧ d.depth ≤ 64 ∧ Q (.bl (if neg = true then !(ds.any fun y => PyData.eqv y d) else ds.any fun y => PyData.eqv y d)) H
theorem op_inP {X : Cx} (hu : X.A.units + 65 < cLine) : OpR X (compareOp .In) (rInP X.K false) := by
  intro pins s σ H x y v u Q I rx ry ⟨d, ds, hd, he, pd, pe, dd, q⟩
  obtain ⟨as, r1⟩ := Dp.reads I d x v hd rx
  have hm : min (PyData.depthAll ds) d.depth ≤ d.depth := Nat.min_le_right _ _
  rcases he with he | he
  · obtain ⟨bs, r2⟩ := Dp.reads I (.list ds) y u he ry
    exact SeqAt.in_list_data r2 r1 pe pd (by omega) ⟨.bl _, H, I, rfl, q⟩
  · obtain ⟨bs, r2⟩ := Dp.reads I (.tuple ds) y u he ry
    exact SeqAt.in_tuple_data r2 r1 pe pd (by omega) ⟨.bl _, H, I, rfl, q⟩
theorem op_notInP {X : Cx} (hu : X.A.units + 65 < cLine) : OpR X (compareOp .NotIn) (rInP X.K true) := by
  intro pins s σ H x y v u Q I rx ry ⟨d, ds, hd, he, pd, pe, dd, q⟩
  obtain ⟨as, r1⟩ := Dp.reads I d x v hd rx
  have hm : min (PyData.depthAll ds) d.depth ≤ d.depth := Nat.min_le_right _ _
  rcases he with he | he
  · obtain ⟨bs, r2⟩ := Dp.reads I (.list ds) y u he ry
    exact SeqAt.notIn_list_data r2 r1 pe pd (by omega) ⟨.bl _, H, I, rfl, q⟩
  · obtain ⟨bs, r2⟩ := Dp.reads I (.tuple ds) y u he ry
    exact SeqAt.notIn_tuple_data r2 r1 pe pd (by omega) ⟨.bl _, H, I, rfl, q⟩
def itemsOf : D → Option (List D)
  | .lst xs => some xs
  | .klst xs => some xs
  | .tup xs => some xs
  | _ => none
def inD (x y : D) : Option Bool := (itemsOf y).bind fun ds => if (x.pur && D.purs ds && decide (x.toP.depth ≤ 64)) = true then some ((D.toPs ds).any fun z => PyData.eqv z x.toP) else none
def gIn (neg : Bool) (x y : D) : Option RV := (inD x y).map fun b => .val (.bl (if neg = true then !b else b))
theorem opd_in {neg : Bool} : OpD mg K (rInP K neg) (gIn neg) := by
  intro B G δ σ H x y vx vy r Q h R cx cy k
  obtain ⟨b, e, h⟩ := Option.map_eq_some_iff.mp h
  subst h
  obtain ⟨ds, e1, e⟩ := bnd e
  split at e
  · rename_i hc
    simp only [Bool.and_eq_true, decide_eq_true_eq] at hc
    cases e
    refine ⟨_, D.toPs ds, cx.dp R.sub hc.1.1, ?_, D.plain x hc.1.1, D.plains ds hc.1.2, hc.2, k G _ H (.refl G) R (.bl _)⟩
    cases y with
    | lst xs => cases e1; exact .inl (by have := cy.dp R.sub (by simpa [D.pur] using hc.1.2); simpa only [D.toP] using this)
    | klst xs => cases e1; exact .inl (by have := cy.dp R.sub (by simpa [D.pur] using hc.1.2); simpa only [D.toP] using this)
    | tup xs => cases e1; exact .inr (by have := cy.dp R.sub (by simpa [D.pur] using hc.1.2); simpa only [D.toP] using this)
    | _ => cases e1
  · cases e
/-! ### is None -/
def isNon : D → Bool
  | .non => true
  | _ => false
def notCell : D → Bool
  | .cell _ => false
  | _ => true
def gIsN (neg : Bool) (x y : D) : Option RV := match y with
  | .non => some (.val (.bl (if neg = true then !isNon x else isNon x)))
  | _ => none
theorem isNon_v {F H : Hp} {ρ : List Addr} {v : V} {d : D} (h : CRep mg K F ρ H v d) : decide (v = .non) = isNon d := by
  rcases h with h | ⟨p, rfl, h⟩
  · cases h <;> rfl
  · cases d <;> first | rfl | exact h.elim
theorem opd_isN : OpD mg K (fun x y H Q => y = .non ∧ Q (.bl (decide (x = .non))) H) (gIsN false) := by
  intro B G δ σ H x y vx vy r Q h R cx cy k
  unfold gIsN at h
  split at h
  · cases h
    refine ⟨cy.non, ?_⟩
    rw [isNon_v cx]
    exact k G _ H (.refl G) R (.bl _)
  · cases h
theorem opd_notN : OpD mg K (fun x y H Q => y = .non ∧ Q (.bl (!decide (x = .non))) H) (gIsN true) := by
  intro B G δ σ H x y vx vy r Q h R cx cy k
  unfold gIsN at h
  split at h
  · cases h
    refine ⟨cy.non, ?_⟩
    rw [isNon_v cx]
    exact k G _ H (.refl G) R (.bl _)
  · cases h
def gNeg (x : D) : Option RV := match x with
  | .int i => some (.val (.int (-i)))
  | _ => none
theorem und_neg : UnD mg K (rU fun i => .int (-i)) gNeg := by
  intro B G δ σ H x vx r Q h R cx k
  unfold gNeg at h
  split at h
  · cases h
    rw [cx.int]
    exact ⟨_, rfl, k G _ H (.refl G) R (.int _)⟩
  · cases h
/-! ### subscripts -/
def gIx (x y : D) : Option RV := match x, y with
  | .lst xs, .int i => (atI xs i).map .val
  | .klst xs, .int i => (atI xs i).map .val
  | .tup xs, .int i => (atI xs i).map .val
  | .str z, .int i => if z.length ≤ 16777216 then (atI z.cps.toList i).map fun c => .val (.str ⟨#[c]⟩) else none
  | _, _ => none
theorem Reps.atI {F : Hp} {ρ : List Addr} {vs : List V} {ds : List D} {i : Int} {d : D} (h : Reps mg K F ρ vs ds) (q : L2.atI ds i = some d) : ∃ v, L2.atI vs i = some v ∧ Rep mg K F ρ v d := by
  unfold L2.atI at q
  obtain ⟨j, e1, e2⟩ := bnd q
  obtain ⟨v, e3, e4⟩ := h.get e2
  refine ⟨v, ?_, e4⟩
  unfold L2.atI
  rw [h.length, e1]
  exact e3
theorem opd_ix : OpD mg K (rIx K) gIx := by
  intro B G δ σ H x y vx vy r Q h R cx cy k
  unfold gIx at h
  split at h
  · obtain ⟨d, e, h⟩ := Option.map_eq_some_iff.mp h
    subst h
    obtain ⟨p, vs, rfl, h1, h2⟩ := cx.lst R.sub
    obtain ⟨v, e1, e2⟩ := h2.atI e
    rw [cy.int]
    exact .inl ⟨p, vs, _, v, rfl, rfl, .of h1, e1, k G v H (.refl G) R e2⟩
  · obtain ⟨d, e, h⟩ := Option.map_eq_some_iff.mp h
    subst h
    obtain ⟨p, vs, rfl, h1, h2⟩ := cx.klst R.sub
    obtain ⟨v, e1, e2⟩ := h2.atI e
    rw [cy.int]
    exact .inl ⟨p, vs, _, v, rfl, rfl, h1, e1, k G v H (.refl G) R e2⟩
  · obtain ⟨d, e, h⟩ := Option.map_eq_some_iff.mp h
    subst h
    obtain ⟨p, vs, rfl, h1, h2⟩ := cx.tup R.sub
    obtain ⟨v, e1, e2⟩ := h2.atI e
    rw [cy.int]
    exact .inr (.inl ⟨p, vs, _, v, rfl, rfl, h1, e1, k G v H (.refl G) R e2⟩)
  · split at h
    · rename_i hl
      obtain ⟨c, e, h⟩ := Option.map_eq_some_iff.mp h
      subst h
      rw [cx.str, cy.int]
      exact .inr (.inr ⟨_, _, c, rfl, rfl, by rw [sizeLine_eq]; exact hl, e, k G _ H (.refl G) R (.str _)⟩)
    · cases h
  · cases h
end

/-! ### slices -/
section
variable {X : Cx} {e a b c : Expr} {es : List Expr} {fa fb f : DE} {fas : DA} {pos p p2 : Pos} {lo hi : Option Expr}
abbrev DO := DSt → Option (Option Int × DSt)
def tPo (X : Cx) (e : Option Expr) : TO := fun σ H Q => ∀ pins s, L2.Inv X pins σ H s → (∀ t, PO X e t → True) → ∀ {t : TO}, PO X e t → t σ H Q → True
def SndO (X : Cx) (e : Option Expr) (f : DO) : Prop := ∃ t : TO, PO X e t ∧ ∀ (B : Bs) (G : Gh) (δ : DSt) (o : Option Int) (δ' : DSt) (σ : L2.St) (H : Hp) (Q : Option Int → Hp → Prop), f δ = some (o, δ') → Rl X.mg X.K B G δ σ H → (∀ (G' : Gh) (H' : Hp), G.le G' → Rl X.mg X.K B G' δ' σ H' → Q o H') → t σ H Q
def dNoP : DO := fun δ => some (none, δ)
def dPart (f : DE) : DO := fun δ => (f δ).bind fun p => (p.1.pin.rd p.2).bind fun d => match d with
  | .int i => some (some i, p.2)
  | _ => none
theorem sndo_none : SndO X none dNoP := ⟨tNoPart, po_none, fun B G δ o δ' σ H Q h R k => by cases h; exact k G H (.refl G) R⟩
theorem sndo_some (ha : Snd X e fa) : SndO X (some e) (dPart fa) := ⟨tPart (tE X e), po_some (pe_tE X e), fun B G δ o δ' σ H Q h R k => by
  obtain ⟨⟨ra, δ1⟩, e1, h⟩ := bnd h
  obtain ⟨d, e2, h⟩ := bnd h
  refine ha B G δ ra δ1 σ H _ e1 R fun G1 v H1 l1 R1 o1 => ?_
  obtain ⟨G1', l1', R1', o1'⟩ := R1.pin o1
  have cr := R1'.rd o1' e2
  split at h
  · cases h
    exact ⟨_, cr.int, k G1' H1 (l1.trans l1') R1'⟩
  · cases h⟩
def cutD (xs : List D) (lo hi : Option Int) : List D := (xs.drop (HT.sIx xs.length 0 lo)).take (HT.sIx xs.length xs.length hi - HT.sIx xs.length 0 lo)
def gSl (x : D) (lo hi : Option Int) : Option RV := match x with
  | .lst xs => some (.fresh (.lst (cutD xs lo hi)))
  | .klst xs => some (.fresh (.lst (cutD xs lo hi)))
  | .tup xs => if HT.sIx xs.length 0 lo = 0 ∧ HT.sIx xs.length xs.length hi = xs.length then none else some (.val (.tup (cutD xs lo hi)))
  | _ => none
def dSl (f : DE) (fl fh : DO) : DE := fun δ => (f δ).bind fun p => (fl p.2).bind fun l => (fh l.2).bind fun h => (p.1.pin.rd h.2).bind fun x => (gSl x l.1 h.1).map fun r => (r, h.2)
theorem Reps.cut' {mg : Str → Option Value} {K : PySem.W.Frag} {F : Hp} {ρ : List Addr} {vs : List V} {ds : List D} (h : Reps mg K F ρ vs ds) (lo hi : Option Int) : Reps mg K F ρ (cutV vs lo hi) (cutD ds lo hi) := by
  unfold cutV cutD
  rw [h.length]
  exact (h.drop _).take _
theorem snd_slice (he : Snd X e f) {fl fh : DO} (hl : SndO X lo fl) (hh : SndO X hi fh) : Snd X (.Subscript e (.Slice lo hi none p2) pos) (dSl f fl fh) := by
  intro B G δ r δ' σ H Q q R kk
  obtain ⟨⟨ra, δ1⟩, e1, q⟩ := bnd q
  obtain ⟨⟨l, δ2⟩, e2, q⟩ := bnd q
  obtain ⟨⟨u, δ3⟩, e3, q⟩ := bnd q
  obtain ⟨x, e4, q⟩ := bnd q
  obtain ⟨r', e5, q⟩ := Option.map_eq_some_iff.mp q
  cases q
  obtain ⟨tl, pl, sl⟩ := hl
  obtain ⟨th, ph, sh⟩ := hh
  refine tE_of (pe_slice (sl_list.or sl_tup) (pe_tE X e) pl ph) ?_
  refine he B G δ ra δ1 σ H _ e1 R fun G1 v H1 l1 R1 o1 => ?_
  obtain ⟨G1', l1', R1', o1'⟩ := R1.pin o1
  refine sl B G1' δ1 l δ2 σ H1 _ e2 R1' fun G2 H2 l2 R2 => ?_
  refine sh B G2 δ2 u _ σ H2 _ e3 R2 fun G3 H3 l3 R3 => ?_
  have cr := R3.rd (o1'.mono (l2.trans l3)) e4
  have ll := ((l1.trans l1').trans (l2.trans l3))
  cases x with
  | lst xs =>
    cases e5
    obtain ⟨a, vs, rfl, h1, h2⟩ := cr.lst R3.sub
    refine .inl ⟨a, vs, rfl, .of h1, fun p hp => ?_⟩
    obtain ⟨R', o⟩ := R3.push_lst hp (h2.cut' l u)
    exact kk G3 _ _ ll R' o
  | klst xs =>
    cases e5
    obtain ⟨a, vs, rfl, h1, h2⟩ := cr.klst R3.sub
    refine .inl ⟨a, vs, rfl, h1, fun p hp => ?_⟩
    obtain ⟨R', o⟩ := R3.push_lst hp (h2.cut' l u)
    exact kk G3 _ _ ll R' o
  | tup xs =>
    simp only [gSl] at e5
    split at e5
    · cases e5
    · rename_i hn
      cases e5
      obtain ⟨a, vs, rfl, h1, h2⟩ := cr.tup R3.sub
      refine .inr ⟨a, vs, rfl, h1, by rw [h2.length]; exact hn, fun p hp => ?_⟩
      obtain ⟨G4, l4, R', o⟩ := R3.push_tup hp (h2.cut' l u)
      exact kk G4 _ _ (ll.trans l4) R' o
  | _ => cases e5
/-- xs[::-1] -/
def dRev (f : DE) : DE := fun δ => (f δ).bind fun p => (p.1.pin.rd p.2).bind fun x => match x with
  | .lst xs => some (.fresh (.lst xs.reverse), p.2)
  | .klst xs => some (.fresh (.lst xs.reverse), p.2)
  | _ => none
theorem snd_rev {k : Nat} {p1 p2 p3 : Pos} (he : Snd X e f) : Snd X (.Subscript e (.Slice none none (some (.UnaryOp .USub (.Constant (.int 1) k p1) p2)) p3) pos) (dRev f) := by
  intro B G δ r δ' σ H Q q R kk
  obtain ⟨⟨ra, δ1⟩, e1, q⟩ := bnd q
  obtain ⟨x, e4, q⟩ := bnd q
  refine tE_of (pe_revL (pe_tE X e)) ?_
  refine he B G δ ra δ1 σ H _ e1 R fun G1 v H1 l1 R1 o1 => ?_
  obtain ⟨G1', l1', R1', o1'⟩ := R1.pin o1
  have cr := R1'.rd o1' e4
  cases x with
  | lst xs =>
    cases q
    obtain ⟨a, vs, rfl, h1, h2⟩ := cr.lst R1'.sub
    refine ⟨a, vs, rfl, .of h1, fun p hp => ?_⟩
    obtain ⟨R', o⟩ := R1'.push_lst hp h2.reverse
    exact kk G1' _ _ (l1.trans l1') R' o
  | klst xs =>
    cases q
    obtain ⟨a, vs, rfl, h1, h2⟩ := cr.klst R1'.sub
    refine ⟨a, vs, rfl, h1, fun p hp => ?_⟩
    obtain ⟨R', o⟩ := R1'.push_lst hp h2.reverse
    exact kk G1' _ _ (l1.trans l1') R' o
  | _ => cases q

/-! ### built-in functions -/
variable {mg : Str → Option Value} {K : PySem.W.Frag}
theorem creps0 {F H : Hp} {ρ : List Addr} {vs : List V} (h : CReps mg K F ρ H vs []) : vs = [] := by cases h; rfl
def gLen (ds : List D) : Option RV := match ds with
  | [.lst xs] => some (.val (.int xs.length))
  | [.klst xs] => some (.val (.int xs.length))
  | [.tup xs] => some (.val (.int xs.length))
  | [.str x] => if x.length ≤ 16777216 then some (.val (.int x.length)) else none
  | _ => none
theorem cd_len : CallD mg K (fun xs H Q => ∃ x n, xs = [x] ∧ LenV K x H n ∧ Q (.int n) H) gLen := by
  intro B G δ σ H ds vs r Q h R c k
  unfold gLen at h
  split at h
  · cases h
    obtain ⟨v, rfl, c1⟩ := creps1 c
    obtain ⟨a, ws, rfl, h1, h2⟩ := c1.lst R.sub
    exact ⟨_, _, rfl, .inl ⟨ws, .of h1, rfl⟩, by rw [h2.length]; exact k G _ H (.refl G) R (.int _)⟩
  · cases h
    obtain ⟨v, rfl, c1⟩ := creps1 c
    obtain ⟨a, ws, rfl, h1, h2⟩ := c1.klst R.sub
    exact ⟨_, _, rfl, .inl ⟨ws, h1, rfl⟩, by rw [h2.length]; exact k G _ H (.refl G) R (.int _)⟩
  · cases h
    obtain ⟨v, rfl, c1⟩ := creps1 c
    obtain ⟨a, ws, rfl, h1, h2⟩ := c1.tup R.sub
    exact ⟨_, _, rfl, .inr ⟨ws, h1, rfl⟩, by rw [h2.length]; exact k G _ H (.refl G) R (.int _)⟩
  · split at h
    · rename_i hl
      cases h
      obtain ⟨v, rfl, c1⟩ := creps1 c
      rw [c1.str]
      exact ⟨_, _, rfl, ⟨by rw [sizeLine_eq]; exact hl, rfl⟩, k G _ H (.refl G) R (.int _)⟩
    · cases h
  · cases h
def gAbs (ds : List D) : Option RV := match ds with
  | [.int i] => some (.val (.int (if i < 0 then -i else i)))
  | _ => none
theorem cd_abs : CallD mg K (fun xs H Q => ∃ i, xs = [.int i] ∧ Q (.int (if i < 0 then -i else i)) H) gAbs := by
  intro B G δ σ H ds vs r Q h R c k
  unfold gAbs at h
  split at h
  · cases h
    obtain ⟨v, rfl, c1⟩ := creps1 c
    rw [c1.int]
    exact ⟨_, rfl, k G _ H (.refl G) R (.int _)⟩
  · cases h
def gMax2 (ds : List D) : Option RV := match ds with
  | [.int i, .int j] => some (.val (.int (if j > i then j else i)))
  | _ => none
theorem cd_max2 : CallD mg K (fun xs H Q => ∃ i j, xs = [.int i, .int j] ∧ Q (.int (if j > i then j else i)) H) gMax2 := by
  intro B G δ σ H ds vs r Q h R c k
  unfold gMax2 at h
  split at h
  · cases h
    obtain ⟨v, w, rfl, c1, c2⟩ := creps2 c
    rw [c1.int, c2.int]
    exact ⟨_, _, rfl, k G _ H (.refl G) R (.int _)⟩
  · cases h
def gMin2 (ds : List D) : Option RV := match ds with
  | [.int i, .int j] => some (.val (.int (if j < i then j else i)))
  | _ => none
theorem cd_min2 : CallD mg K (fun xs H Q => ∃ i j, xs = [.int i, .int j] ∧ Q (.int (if j < i then j else i)) H) gMin2 := by
  intro B G δ σ H ds vs r Q h R c k
  unfold gMin2 at h
  split at h
  · cases h
    obtain ⟨v, w, rfl, c1, c2⟩ := creps2 c
    rw [c1.int, c2.int]
    exact ⟨_, _, rfl, k G _ H (.refl G) R (.int _)⟩
  · cases h
def gInt1 (ds : List D) : Option RV := match ds with
  | [.int i] => some (.val (.int i))
  | [.bl b] => some (.val (.int (if b then 1 else 0)))
  | _ => none
theorem cd_int1 : CallD mg K (fun xs H Q => (∃ i, xs = [.int i] ∧ Q (.int i) H) ∨ ∃ k, xs = [.bl k] ∧ Q (.int (if k then 1 else 0)) H) gInt1 := by
  intro B G δ σ H ds vs r Q h R c k
  unfold gInt1 at h
  split at h
  · cases h
    obtain ⟨v, rfl, c1⟩ := creps1 c
    rw [c1.int]
    exact .inl ⟨_, rfl, k G _ H (.refl G) R (.int _)⟩
  · cases h
    obtain ⟨v, rfl, c1⟩ := creps1 c
    rw [c1.bl]
    exact .inr ⟨_, rfl, k G _ H (.refl G) R (.int _)⟩
  · cases h
def gStrI (ds : List D) : Option RV := match ds with
  | [.int i] => if i.natAbs.log2 < 1920 then some (.val (.str (toString i))) else none
  | _ => none
theorem cd_strI : CallD mg K (fun xs H Q => ∃ i, xs = [.int i] ∧ i.natAbs.log2 < 1920 ∧ Q (.str (toString i)) H) gStrI := by
  intro B G δ σ H ds vs r Q h R c k
  unfold gStrI at h
  split at h
  · split at h
    · cases h
      obtain ⟨v, rfl, c1⟩ := creps1 c
      rw [c1.int]
      exact ⟨_, rfl, by assumption, k G _ H (.refl G) R (.str _)⟩
    · cases h
  · cases h
def gDivmod (ds : List D) : Option RV := match ds with
  | [.int i, .int j] => if 0 < j ∧ j < 1073741824 then some (.val (.tup [.int (i / j), .int (i % j)])) else none
  | _ => none
theorem cd_divmod : CallD mg K (fun xs H Q => ∃ i j, xs = [.int i, .int j] ∧ CDiv i j ∧ ∀ p, H p = none → Q (.ref p) (upd H p (.tup [.int (i / j), .int (i % j)]))) gDivmod := by
  intro B G δ σ H ds vs r Q h R c k
  unfold gDivmod at h
  split at h
  · split at h
    · rename_i hj
      cases h
      obtain ⟨v, w, rfl, c1, c2⟩ := creps2 c
      rw [c1.int, c2.int]
      refine ⟨_, _, rfl, hj, fun p hp => ?_⟩
      obtain ⟨G', l, R', o⟩ := R.push_tup (ds := [.int _, .int _]) hp (.cons (.int _) (.cons (.int _) .nil))
      exact k G' _ _ l R' o
    · cases h
  · cases h
def gList (ds : List D) : Option RV := match ds with
  | [.lst xs] => some (.fresh (.lst xs))
  | [.klst xs] => some (.fresh (.lst xs))
  | [.tup xs] => some (.fresh (.lst xs))
  | _ => none
theorem cd_list : CallD mg K (fun xs H Q => ∃ p ys, xs = [.ref p] ∧ (SqL K H p ys ∨ SqT K H p ys) ∧ ∀ l, H l = none → Q (.ref l) (upd H l (.lst ys))) gList := by
  intro B G δ σ H ds vs r Q h R c k
  unfold gList at h
  split at h
  · cases h
    obtain ⟨v, rfl, c1⟩ := creps1 c
    obtain ⟨a, ws, rfl, h1, h2⟩ := c1.lst R.sub
    refine ⟨a, ws, rfl, .inl (.of h1), fun p hp => ?_⟩
    obtain ⟨R', o⟩ := R.push_lst hp h2
    exact k G _ _ (.refl G) R' o
  · cases h
    obtain ⟨v, rfl, c1⟩ := creps1 c
    obtain ⟨a, ws, rfl, h1, h2⟩ := c1.klst R.sub
    refine ⟨a, ws, rfl, .inl h1, fun p hp => ?_⟩
    obtain ⟨R', o⟩ := R.push_lst hp h2
    exact k G _ _ (.refl G) R' o
  · cases h
    obtain ⟨v, rfl, c1⟩ := creps1 c
    obtain ⟨a, ws, rfl, h1, h2⟩ := c1.tup R.sub
    refine ⟨a, ws, rfl, .inr h1, fun p hp => ?_⟩
    obtain ⟨R', o⟩ := R.push_lst hp h2
    exact k G _ _ (.refl G) R' o
  · cases h
def gTuple (ds : List D) : Option RV := match ds with
  | [.lst xs] => some (.val (.tup xs))
  | [.klst xs] => some (.val (.tup xs))
  | [.tup xs] => some (.val (.tup xs))
  | _ => none
theorem cd_tuple : CallD mg K (fun xs H Q => ∃ p ys, xs = [.ref p] ∧ ((SqL K H p ys ∧ ∀ l, H l = none → Q (.ref l) (upd H l (.tup ys))) ∨ (SqT K H p ys ∧ Q (.ref p) H))) gTuple := by
  intro B G δ σ H ds vs r Q h R c k
  unfold gTuple at h
  split at h
  · cases h
    obtain ⟨v, rfl, c1⟩ := creps1 c
    obtain ⟨a, ws, rfl, h1, h2⟩ := c1.lst R.sub
    refine ⟨a, ws, rfl, .inl ⟨.of h1, fun p hp => ?_⟩⟩
    obtain ⟨G', l, R', o⟩ := R.push_tup hp h2
    exact k G' _ _ l R' o
  · cases h
    obtain ⟨v, rfl, c1⟩ := creps1 c
    obtain ⟨a, ws, rfl, h1, h2⟩ := c1.klst R.sub
    refine ⟨a, ws, rfl, .inl ⟨h1, fun p hp => ?_⟩⟩
    obtain ⟨G', l, R', o⟩ := R.push_tup hp h2
    exact k G' _ _ l R' o
  · cases h
    obtain ⟨v, rfl, c1⟩ := creps1 c
    obtain ⟨a, ws, e, h1, h2⟩ := c1.tup R.sub
    refine ⟨a, ws, by rw [e], .inr ⟨h1, ?_⟩⟩
    rcases c1 with c3 | ⟨p, _, c3⟩
    · rw [e] at c3
      exact k G _ H (.refl G) R c3
    · exact c3.elim
  · cases h
/-- the truth values of a list -/
def blsOf : List D → Option (List Bool)
  | [] => some []
  | .bl b :: r => (blsOf r).map (b :: ·)
  | _ => none
theorem blsOf_v {F : Hp} {ρ : List Addr} : ∀ {ds : List D} {vs : List V} {bs : List Bool}, Reps mg K F ρ vs ds → blsOf ds = some bs → vs = bs.map V.bl
  | [], _, _, h, e => by cases h; cases e; rfl
  | d :: ds, _, _, h, e => by
    cases h with
    | cons h1 h2 =>
      cases d with
      | bl b =>
        obtain ⟨bs, e1, e2⟩ := Option.map_eq_some_iff.mp e
        subst e2
        cases h1
        rw [blsOf_v h2 e1]; rfl
      | _ => cases e
def gAll (ds : List D) : Option RV := match ds with
  | [.lst xs] => (blsOf xs).map fun bs => .val (.bl (bs.all id))
  | [.klst xs] => (blsOf xs).map fun bs => .val (.bl (bs.all id))
  | _ => none
def gAny (ds : List D) : Option RV := match ds with
  | [.lst xs] => (blsOf xs).map fun bs => .val (.bl (bs.any id))
  | [.klst xs] => (blsOf xs).map fun bs => .val (.bl (bs.any id))
  | _ => none
theorem cd_all : CallD mg K (rAll K) gAll := by
  intro B G δ σ H ds vs r Q h R c k
  unfold gAll at h
  split at h
  · obtain ⟨bs, e, h⟩ := Option.map_eq_some_iff.mp h
    subst h
    obtain ⟨v, rfl, c1⟩ := creps1 c
    obtain ⟨a, ws, rfl, h1, h2⟩ := c1.lst R.sub
    rw [blsOf_v h2 e] at h1
    exact ⟨a, bs, rfl, .of h1, k G _ H (.refl G) R (.bl _)⟩
  · obtain ⟨bs, e, h⟩ := Option.map_eq_some_iff.mp h
    subst h
    obtain ⟨v, rfl, c1⟩ := creps1 c
    obtain ⟨a, ws, rfl, h1, h2⟩ := c1.klst R.sub
    rw [blsOf_v h2 e] at h1
    exact ⟨a, bs, rfl, h1, k G _ H (.refl G) R (.bl _)⟩
  · cases h
theorem cd_any : CallD mg K (rAny K) gAny := by
  intro B G δ σ H ds vs r Q h R c k
  unfold gAny at h
  split at h
  · obtain ⟨bs, e, h⟩ := Option.map_eq_some_iff.mp h
    subst h
    obtain ⟨v, rfl, c1⟩ := creps1 c
    obtain ⟨a, ws, rfl, h1, h2⟩ := c1.lst R.sub
    rw [blsOf_v h2 e] at h1
    exact ⟨a, bs, rfl, .of h1, k G _ H (.refl G) R (.bl _)⟩
  · obtain ⟨bs, e, h⟩ := Option.map_eq_some_iff.mp h
    subst h
    obtain ⟨v, rfl, c1⟩ := creps1 c
    obtain ⟨a, ws, rfl, h1, h2⟩ := c1.klst R.sub
    rw [blsOf_v h2 e] at h1
    exact ⟨a, bs, rfl, h1, k G _ H (.refl G) R (.bl _)⟩
  · cases h
/-- repr of plain data -/
def rRepr (K : PySem.W.Frag) : List V → Hp → VK → Prop := fun xs H Q => ∃ x d, xs = [x] ∧ Dp K H x d ∧ d.plain = true ∧ d.showable = true ∧ d.depth ≤ 64 ∧ d.shown.length ≤ sizeLine ∧ Q (.str d.shown) H
theorem plain_noDict : ∀ {d : PyData}, d.plain = true → d.hasDict = false := by
  have h : (∀ d : PyData, d.plain = true → d.hasDict = false) ∧ (∀ ds : List PyData, PyData.plainAll ds = true → PyData.hasDictAll ds = false) := by
    refine ⟨fun d => ?_, fun ds => ?_⟩
    · exact PyData.rec (motive_1 := fun d => d.plain = true → d.hasDict = false) (motive_2 := fun ds => PyData.plainAll ds = true → PyData.hasDictAll ds = false) (motive_3 := fun _ => True) (motive_4 := fun _ => True)
        (fun _ => by simp [PyData.hasDict]) (fun _ _ => by simp [PyData.hasDict]) (fun _ _ => by simp [PyData.hasDict]) (fun _ _ => by simp [PyData.hasDict])
        (fun xs ih p => by simp only [PyData.hasDict]; exact ih (by simpa [PyData.plain] using p)) (fun xs ih p => by simp only [PyData.hasDict]; exact ih (by simpa [PyData.plain] using p)) (fun _ _ p => by simp [PyData.plain] at p)
        (fun _ => by simp [PyData.hasDictAll]) (fun x xs i1 i2 p => by
          have p' : x.plain = true ∧ PyData.plainAll xs = true := by simpa [PyData.plainAll] using p
          simp only [PyData.hasDictAll, i1 p'.1, i2 p'.2, Bool.or_self]) trivial (fun _ _ _ _ => trivial) (fun _ _ _ _ => trivial) d
    · induction ds with
      | nil => intro _; simp [PyData.hasDictAll]
      | cons x xs ih =>
        intro p
        have p' : x.plain = true ∧ PyData.plainAll xs = true := by simpa [PyData.plainAll] using p
        have hx : x.hasDict = false := PyData.rec (motive_1 := fun d => d.plain = true → d.hasDict = false) (motive_2 := fun ds => PyData.plainAll ds = true → PyData.hasDictAll ds = false) (motive_3 := fun _ => True) (motive_4 := fun _ => True)
          (fun _ => by simp [PyData.hasDict]) (fun _ _ => by simp [PyData.hasDict]) (fun _ _ => by simp [PyData.hasDict]) (fun _ _ => by simp [PyData.hasDict])
          (fun xs ih p => by simp only [PyData.hasDict]; exact ih (by simpa [PyData.plain] using p)) (fun xs ih p => by simp only [PyData.hasDict]; exact ih (by simpa [PyData.plain] using p)) (fun _ _ p => by simp [PyData.plain] at p)
          (fun _ => by simp [PyData.hasDictAll]) (fun x xs i1 i2 p => by
            have p' : x.plain = true ∧ PyData.plainAll xs = true := by simpa [PyData.plainAll] using p
            simp only [PyData.hasDictAll, i1 p'.1, i2 p'.2, Bool.or_self]) trivial (fun _ _ _ _ => trivial) (fun _ _ _ _ => trivial) x p'.1
        simp only [PyData.hasDictAll, hx, ih p'.2, Bool.or_self]
  exact fun {d} => h.1 d
theorem call_repr (hgu : X.A.guards = some []) (hu : X.A.units + 66 < cLine) : CallR X (.builtin "repr") (rRepr X.K) := by
  intro pins s σ H xs us Q I r ⟨x, d, e, hd, pd, sd, dd, hz, q⟩
  subst e
  obtain ⟨u, rfl, ru⟩ := vals1 r
  cases d with
  | none =>
    cases hd
    cases ru
    exact PySem.P.repr_of_none ⟨.str "None", H, I.tok _, ⟨_, rfl⟩, by simpa only [PyData.shown] using q⟩
  | bool b =>
    cases hd
    cases ru
    exact PySem.P.repr_of_bool ⟨.str _, H, I.tok _, ⟨_, rfl⟩, by simpa only [PyData.shown] using q⟩
  | int i =>
    cases hd
    obtain ⟨t, rfl⟩ := ru
    exact PySem.P.repr_of_int (by simpa [PyData.showable] using sd) ⟨.str _, H, I.tok _, ⟨_, rfl⟩, by simpa only [PyData.shown] using q⟩
  | str y =>
    cases hd
    obtain ⟨t, rfl⟩ := ru
    exact PySem.P.repr_of_str ⟨.str _, H, I.tok _, ⟨_, rfl⟩, by simpa only [PyData.shown] using q⟩ (by simpa only [PyData.shown] using hz)
  | list ds =>
    obtain ⟨as, r1⟩ := Dp.reads I _ x u hd ru
    cases hd with
    | lst h1 h2 =>
      cases ru
      exact repr_of_reads' r1 sd (PyData.noDict_hsm (plain_noDict pd)) hgu (by omega) (fun _ _ e => e) (fun h' u tk hk => ⟨.str _, H, I.kept hk, ⟨_, rfl⟩, q⟩) hz
  | tuple ds =>
    obtain ⟨as, r1⟩ := Dp.reads I _ x u hd ru
    cases hd with
    | tup h1 h2 =>
      cases ru
      exact repr_of_reads' r1 sd (PyData.noDict_hsm (plain_noDict pd)) hgu (by omega) (fun _ _ e => e) (fun h' u tk hk => ⟨.str _, H, I.kept hk, ⟨_, rfl⟩, q⟩) hz
  | dict _ => simp [PyData.plain] at pd
def gRepr (ds : List D) : Option RV := match ds with
  | [x] => if (x.pur && x.toP.showable && decide (x.toP.depth ≤ 64) && decide (x.toP.shown.length ≤ 16777216)) = true then some (.val (.str x.toP.shown)) else none
  | _ => none
theorem cd_repr : CallD mg K (rRepr K) gRepr := by
  intro B G δ σ H ds vs r Q h R c k
  unfold gRepr at h
  split at h
  · split at h
    · rename_i hc
      simp only [Bool.and_eq_true, decide_eq_true_eq] at hc
      cases h
      obtain ⟨v, rfl, c1⟩ := creps1 c
      exact ⟨v, _, rfl, c1.dp R.sub hc.1.1.1, D.plain _ hc.1.1.1, hc.1.1.2, hc.1.2, by rw [sizeLine_eq]; exact hc.2, k G _ H (.refl G) R (.str _)⟩
    · cases h
  · cases h
end
end EV
set_option Elab.async false
set_option linter.all false
set_option maxRecDepth 100000
set_option maxHeartbeats 2000000
/-! EV 8: types of data, isinstance, the own ==, !=, len, repr of a class -/
namespace EV
open PySem L2 PySem.Spec PyProof.Rows

section
variable {X : Cx} {e : Expr} {st : Stmt} {f g : DE} {ft gt : DT} {fs gs : DS}
/-! ### the one or the other reading -/
def orE (f g : DE) : DE := fun δ => (f δ).or (g δ)
def orT (f g : DT) : DT := fun δ => (f δ).or (g δ)
def orS (f g : DS) : DS := fun δ => (f δ).or (g δ)
theorem or_cases {α : Type} {a b : Option α} {c : α} (h : a.or b = some c) : a = some c ∨ b = some c := by
  cases a with
  | none => exact .inr (by simpa using h)
  | some x => exact .inl (by simpa using h)
theorem snd_alt (h1 : Snd X e f) (h2 : Snd X e g) : Snd X e (orE f g) := fun B G δ r δ' σ H Q q R k => (or_cases q).elim (fun q => h1 B G δ r δ' σ H Q q R k) fun q => h2 B G δ r δ' σ H Q q R k
theorem sndt_alt (h1 : SndT X e ft) (h2 : SndT X e gt) : SndT X e (orT ft gt) := fun B G δ r δ' σ H Q q R k => (or_cases q).elim (fun q => h1 B G δ r δ' σ H Q q R k) fun q => h2 B G δ r δ' σ H Q q R k
theorem snds_alt (h1 : SndS X st fs) (h2 : SndS X st gs) : SndS X st (orS fs gs) := fun B G δ r δ' σ H Q q R k => (or_cases q).elim (fun q => h1 B G δ r δ' σ H Q q R k) fun q => h2 B G δ r δ' σ H Q q R k
end

/-! ### types -/
inductive Tg where
  | bt (n : String) | own (c : Str)
deriving DecidableEq
def tyNs : List String := ["NoneType", "bool", "int", "str", "list", "tuple", "dict"]
def D.tag : D → Option Tg
  | .non => some (.bt "NoneType")
  | .bl _ => some (.bt "bool")
  | .int _ => some (.bt "int")
  | .str _ => some (.bt "str")
  | .lst _ => some (.bt "list")
  | .klst _ => some (.bt "list")
  | .tup _ => some (.bt "tuple")
  | .dic _ _ => some (.bt "dict")
  | .ins c _ _ => some (.own c)
  | _ => none
/-- what isinstance asks of the class at C -/
structure IsC (K : PySem.W.Frag) (C : Addr) : Prop where
  cl : Cls K C
  ca : PySem.W.findIn K (.ref C) "__class__" = some (some (.builtin "object.__class__"))
  cn : PySem.W.specialIn K (.builtin "object.__class__") "__get__" = some (some (.builtin "getset_descriptor.__get__"))
  ct : PySem.W.takesIn K (.builtin "object.__class__") = some true
  cm : PySem.W.mroIn K C (.type "object") = some true
/-- the classes cs of the text: none below another one -/
structure ClsF (mg : Str → Option Value) (K : PySem.W.Frag) (cs : List Str) : Prop where
  at_ : ∀ c ∈ cs, ∃ C, mg c = some (.ref C) ∧ IsC K C
  bt : ∀ c ∈ cs, ∀ C, mg c = some (.ref C) → ∀ b ∈ tyNs, PySem.W.kitOne K (.ref C) (.type b) = some false ∧ PySem.W.kitOne K (.type b) (.ref C) = some false
  own : ∀ c ∈ cs, ∀ c' ∈ cs, ∀ C C', mg c = some (.ref C) → mg c' = some (.ref C') → PySem.W.kitOne K (.ref C) (.ref C') = some (c == c')
def tagV (mg : Str → Option Value) : Tg → Option Value
  | .bt n => some (.type n)
  | .own c => mg c
def okT (cs : List Str) : Tg → Bool
  | .bt n => tyNs.contains n
  | .own c => cs.contains c
section
variable {mg : Str → Option Value} {K : PySem.W.Frag} {F H : Hp} {ρ : List Addr} {v : V} {d : D} {cs : List Str} {t : Tg}
theorem sqT_ty {a : Addr} {xs : List V} (h : SqT K H a xs) : TyX K H (.ref a) (.type "tuple") := by
  rcases h with h | ⟨o, its, n, hk, hc, _⟩
  · rcases h with h | ⟨o, h⟩
    · exact .base (.tup h)
    · exact .fTuple h
  · exact .kTuple hk hc
theorem sqL_ty {a : Addr} {xs : List V} (h : SqL K H a xs) : TyX K H (.ref a) (.type "list") := by
  rcases h with h | ⟨o, its, n, hk, hc, _⟩
  · rcases h with h | ⟨o, h⟩
    · exact .base (.lst h)
    · exact .base (.frz h)
  · exact .kList hk hc
theorem CRep.tyX (W : ClsF mg K cs) (s : Same F H) (h : CRep mg K F ρ H v d) (q : d.tag = some t) (ok : okT cs t = true) : ∃ u, tagV mg t = some u ∧ TyX K H v u := by
  cases d with
  | non => cases q; rw [h.non]; exact ⟨_, rfl, .base .non⟩
  | bl b => cases q; rw [h.bl]; exact ⟨_, rfl, .base (.bl b)⟩
  | int b => cases q; rw [h.int]; exact ⟨_, rfl, .base (.int b)⟩
  | str b => cases q; rw [h.str]; exact ⟨_, rfl, .base (.str b)⟩
  | lst xs =>
    cases q
    obtain ⟨a, vs, rfl, h1, _⟩ := h.lst s
    exact ⟨_, rfl, .base (.lst h1)⟩
  | klst xs =>
    cases q
    obtain ⟨a, vs, rfl, h1, _⟩ := h.klst s
    exact ⟨_, rfl, sqL_ty h1⟩
  | tup xs =>
    cases q
    obtain ⟨a, vs, rfl, h1, _⟩ := h.tup s
    exact ⟨_, rfl, sqT_ty h1⟩
  | dic ks vs =>
    rcases h with h | ⟨p, _, h⟩
    · cases q
      cases h with
      | dic h1 _ _ => exact ⟨_, rfl, .base (.dK (s _ _ h1))⟩
    · exact h.elim
  | ins c ns ds =>
    cases q
    obtain ⟨a, C, dx, fs, rfl, h1, h2, _⟩ := h.ins s
    obtain ⟨C', e, i⟩ := W.at_ c (by simpa [okT] using ok)
    rw [h2] at e; cases e
    exact ⟨_, h2, .base (.ins h1 i.cl i.ca i.cn i.ct i.cm)⟩
  | _ => cases q
/-- is an instance of tag t one of the class at tag u? -/
def subB (a b : String) : Bool := a == b || (a == "bool" && b == "int")
def subT : Tg → Tg → Bool
  | .bt a, .bt b => subB a b
  | .own c, .own c' => c == c'
  | _, _ => false
theorem subB_ok : ∀ a ∈ tyNs, ∀ b ∈ tyNs, kitB a b = some (subB a b) := by decide +kernel
theorem kit_sub (W : ClsF mg K cs) {u : Tg} {x y : Value} (h1 : okT cs t = true) (h2 : okT cs u = true) (e1 : tagV mg t = some x) (e2 : tagV mg u = some y) : PySem.W.kitOne K x y = some (subT t u) := by
  cases t with
  | bt a =>
    cases e1
    cases u with
    | bt b =>
      cases e2
      exact kit_ty (subB_ok a (by simpa [okT] using h1) b (by simpa [okT] using h2))
    | own c =>
      have hc : c ∈ cs := by simpa [okT] using h2
      obtain ⟨C, e, _⟩ := W.at_ c hc
      have e2 : mg c = some y := e2
      rw [e] at e2; cases e2
      exact (W.bt c hc C e a (by simpa [okT] using h1)).2
  | own c =>
    have hc : c ∈ cs := by simpa [okT] using h1
    obtain ⟨C, e, _⟩ := W.at_ c hc
    have e1 : mg c = some x := e1
    rw [e] at e1; cases e1
    cases u with
    | bt b =>
      cases e2
      exact (W.bt c hc C e b (by simpa [okT] using h2)).1
    | own c' =>
      have hc' : c' ∈ cs := by simpa [okT] using h2
      obtain ⟨C', e', _⟩ := W.at_ c' hc'
      have e2 : mg c' = some y := e2
      rw [e'] at e2; cases e2
      exact W.own c hc c' hc' C C' e e'
/-- a class as a value -/
def D.ctag : D → Option Tg
  | .ty n => some (.bt n)
  | .fn c => some (.own c)
  | _ => none
theorem CRep.clsV (h : CRep mg K F ρ H v d) (q : d.ctag = some t) : ∃ u, tagV mg t = some u ∧ ClsV v u := by
  cases d with
  | ty n => cases q; rw [h.ty]; exact ⟨_, rfl, .ty n⟩
  | fn c =>
    cases q
    obtain ⟨a, rfl, e⟩ := h.fn
    exact ⟨_, e, .own a⟩
  | _ => cases q
def ctags : List D → Option (List Tg)
  | [] => some []
  | d :: ds => d.ctag.bind fun t => (ctags ds).map (t :: ·)
theorem reps_clsV : ∀ {ds : List D} {vs : List V} {ts : List Tg}, Reps mg K F ρ vs ds → ctags ds = some ts → ∃ us, us.length = ts.length ∧ (∀ (i : Nat) (t : Tg), ts[i]? = some t → ∃ u, us[i]? = some u ∧ tagV mg t = some u) ∧ Paired ClsV vs us
  | [], _, _, h, q => by cases h; cases q; exact ⟨[], rfl, fun i t z => by simp at z, .nil⟩
  | d :: ds, _, _, h, q => by
    cases h with
    | cons h1 h2 =>
      obtain ⟨t, e1, q⟩ := bnd q
      obtain ⟨ts, e2, q⟩ := Option.map_eq_some_iff.mp q
      subst q
      obtain ⟨u, g1, g2⟩ := CRep.clsV (H := F) (.inl h1) e1
      obtain ⟨us, g3, g4, g5⟩ := reps_clsV h2 e2
      refine ⟨u :: us, congrArg Nat.succ g3, fun i t' z => ?_, .cons g2 g5⟩
      cases i with
      | zero => simp at z; subst z; exact ⟨u, rfl, g1⟩
      | succ i => simpa using g4 i t' (by simpa using z)
theorem kitAny_sub (W : ClsF mg K cs) {x : Value} (h1 : okT cs t = true) (e1 : tagV mg t = some x) : ∀ {ts : List Tg} {us : List Value}, us.length = ts.length → (∀ (i : Nat) (t : Tg), ts[i]? = some t → ∃ u, us[i]? = some u ∧ tagV mg t = some u) → ts.all (okT cs) = true →
    PySem.W.kitAny K x us = some (ts.any (subT t))
  | [], us, hl, _, _ => by
    have : us = [] := List.eq_nil_of_length_eq_zero hl
    subst this
    exact kitAny_nil
  | u :: ts, [], hl, _, _ => by cases hl
  | u :: ts, y :: ys, hl, hi, ha => by
    have ha' : okT cs u = true ∧ ts.all (okT cs) = true := by simpa using ha
    obtain ⟨y', g1, g2⟩ := hi 0 u rfl
    have g1 : y = y' := by simpa using g1
    subst g1
    have r := kitAny_sub W h1 e1 (ts := ts) (us := ys) (by simpa using hl) (fun i t z => by have := hi (i + 1) t (by simpa using z); simpa using this) ha'.2
    refine kitAny_cons (kit_sub W h1 ha'.1 e1 g2) (fun hb => ?_) fun hb => ?_
    · rw [r, List.any_cons, hb, Bool.false_or]
    · rw [List.any_cons, hb, Bool.true_or]
end
/-- isinstance(x, (c1, ..)), the tuple in any form -/
def rIsiQ (K : PySem.W.Frag) : List V → Hp → VK → Prop := fun xs H Q => ∃ (x : V) (tp : Addr) (cs : List V) (t : Value) (us : List Value) (b : Bool), xs = [x, .ref tp] ∧ SqT K H tp cs ∧ Paired ClsV cs us ∧ TyX K H x t ∧ PySem.W.kitAny K t us = some b ∧ Q (.bl b) H
theorem call_isiQ {X : Cx} : CallR X (.builtin "isinstance") (fun xs H Q => rIsi X.K xs H Q ∨ rIsiQ X.K xs H Q) := by
  intro pins s σ H xs us Q I r h
  rcases h with h | h
  · exact call_isi pins s σ H xs us Q I r h
  obtain ⟨x, tp, cs, t, ws, b, rfl, hT, k, ty, e, q⟩ := h
  obtain ⟨u1, u2, rfl, r1, r2⟩ := vals2 r
  obtain rfl : u2 = Value.ref tp := r2
  obtain ⟨P, Z, p, hx⟩ := kit_of I r1 ty
  obtain ⟨its, rv, ⟨⟨oc, od, dt, sl⟩, h1, h2, n, h3⟩, _⟩ := I.tuple hT
  obtain rfl := ClsV.all k rv
  simp only at h2 h3
  subst h2 h3
  exact PySem.W.kia_tup Z I.kIn p h1 e hx fun tk => ⟨.bl b, H, I.tok tk, rfl, q⟩
def gIsi (cs : List Str) (ds : List D) : Option RV := match ds with
  | [x, T] => x.tag.bind fun t => if okT cs t = true then match T with
    | .tup Ts => (ctags Ts).bind fun ts => if ts.all (okT cs) = true then some (.val (.bl (ts.any (subT t)))) else none
    | T => T.ctag.bind fun u => if okT cs u = true then some (.val (.bl (subT t u))) else none
    else none
  | _ => none
theorem cd_isi {mg : Str → Option Value} {K : PySem.W.Frag} {cs : List Str} (W : ClsF mg K cs) : CallD mg K (fun xs H Q => rIsi K xs H Q ∨ rIsiQ K xs H Q) (gIsi cs) := by
  intro B G δ σ H ds vs r Q h R c k
  unfold gIsi at h
  split at h
  · rename_i x T
    obtain ⟨t, e1, h⟩ := bnd h
    split at h
    · rename_i ok
      obtain ⟨v, w, rfl, c1, c2⟩ := creps2 c
      obtain ⟨u, g1, g2⟩ := c1.tyX W R.sub e1 ok
      split at h
      · rename_i Ts
        obtain ⟨ts, e2, h⟩ := bnd h
        split at h
        · rename_i ok2
          cases h
          obtain ⟨a, ws, rfl, h1, h2⟩ := c2.tup R.sub
          obtain ⟨us, g3, g4, g5⟩ := reps_clsV h2 e2
          exact .inr ⟨v, a, ws, u, us, _, rfl, h1, g5, g2, kitAny_sub W ok g1 g3 g4 ok2, k G _ H (.refl G) R (.bl _)⟩
        · cases h
      · obtain ⟨t', e2, h⟩ := bnd h
        split at h
        · rename_i ok2
          cases h
          obtain ⟨u', g3, g4⟩ := c2.clsV e2
          exact .inl ⟨v, w, u, u', _, rfl, g4, g2, kit_sub W ok ok2 g1 g3, k G _ H (.refl G) R (.bl _)⟩
        · cases h
    · cases h
  · cases h

/-! ### the own ==, != -/
section
variable {prog : Program} {w : World} {A : Around} {E : Value → Shared → Prop} {s : Shared} {K : PySem.W.Frag} {x C f : Addr} {ox : Obj} {od : Option Obj} {b tb : Value} {Q : Value → Shared → Prop}
/-- x != b by the own == : object.__ne__ turns its answer -/
theorem ne_own (hu : A.units + 1 < cLine) (hX : K.In s.heap) (I : PySem.W.InstAt s.heap x ox C od) (hb : PySem.W.Looks (model prog w) s.heap (typeOf b) tb) (hn : PySem.W.notFirst K C tb = true)
    (hne : PySem.W.findIn K (.ref C) "__ne__" = some (some (.builtin "object.__ne__"))) (hm : PySem.W.mroIn K C (.type "object") = some true)
    (hs : PySem.W.findIn K (.ref C) "__eq__" = some (some (.ref f))) (hf : PySem.W.isFn K (.ref f) = true)
    (h : wpAny (model prog w) A.in1 (call (.ref f) [.ref x, b]) (fun v s' => ∃ r, v = .bool r ∧ Q (.bool (!r)) s') E s) : wpAny (model prog w) A (richCompare .NotEq (.ref x) b) Q E s := by
  have answer : ∀ {Q' : PySem.Fin → Shared → Prop}, (∀ r s', Q (.bool (!r)) s' → Q' (.done (.ret (.bool (!r)))) s') → wpAny (model prog w) A.in1 (Builtin.«object.__ne__» ⟨[.ref x, b], []⟩) Q' E s := fun {Q'} hQ' => by
    have inner : ∀ {R : Option Value → Shared → Prop}, (∀ r s', Q (.bool (!r)) s' → R (some (.bool r)) s') → wpAny (model prog w) A.in1 (callSpecialIfBound? (.ref x) (Str.ofString "__eq__") [b]) R E s := fun {R} hR =>
      PySem.W.ifBound_K hX I hs hf (wpAny_mono h (fun v s' z => by
        obtain ⟨r, rfl, q⟩ := z
        exact hR r s' q) fun _ _ z => z)
    unfold Builtin.«object.__ne__»
    repeat (first
      | with_reducible refine wpAny_cRoomFor hu ?_
      | (refine wpAny_bind (m := callSpecialIfBound? (.ref x) (Str.ofString "__eq__") [b]) (inner fun r s' q => ?_);
         repeat (first | exact hQ' r s' q | exact wpAny_pure (hQ' r s' q) | exact wpAny_truthy_bool (hQ' r s' q) | (refine wpAny_bind (m := truthy (.bool _)) (wpAny_truthy_bool ?_)) | wp_step))
      | wp_step)
  have bound : wpAny (model prog w) A (callSpecialIfBound? (.ref x) "__ne__" [b]) (fun o s' => ∃ r, o = some (.bool (!r)) ∧ Q (.bool (!r)) s') E s := by
    have called : wpAny (model prog w) A (call (.builtin "object.__ne__") [.ref x, b]) (fun v s' => ∃ r, v = .bool (!r) ∧ Q (.bool (!r)) s') E s :=
      wpAny_call (codeAny_call_builtin F.cmp_object.ne.plain F.cmpEntry_ne (PySem.W.check_slot F.cmpKind_ne F.cmpSplit_ne (I.type.andThen (PySem.W.looks_mroIn hX hm)) (F.cmpArgs_ne _ _) (answer fun r s' q => ⟨r, rfl, q⟩)))
    have tail : wpAny (model prog w) A (call (.builtin "object.__ne__") ([.ref x] ++ [b]) >>= fun v => pure (some v)) (fun o s' => ∃ r, o = some (.bool (!r)) ∧ Q (.bool (!r)) s') E s :=
      wpAny_bind (wpAny_mono called (fun v s' z => by
        obtain ⟨r, rfl, q⟩ := z
        exact wpAny_pure ⟨r, rfl, q⟩) fun _ _ z => z)
    simp only [callSpecialIfBound?, bindSpecialIfBound?]
    refine wpAny_holding (wpAny_bind (wpAny_bind (wpAny_bind (I.type.here ?_))))
    refine (PySem.W.looks_findIn hX hne).here (wpAny_bind (wpAny_askSetting (wpAny_ite ?_)))
    split
    · refine wpAny_bind (wpAny_of_eq (F.cmp_object.ne.bind _) (wpAny_pure ?_))
      exact tail
    · refine wpAny_tryCatch (wpAny_bind (wpAny_of_eq (F.cmp_object.ne.bind _) (wpAny_pure ?_)))
      exact tail
  have asked : wpAny (model prog w) A (tryCompare (.ref x) (cmpInfo .NotEq).2.1 b) (fun r s' => ∃ v, r = some v ∧ Q v s') E s := by
    unfold tryCompare
    refine wpAny_bind (wpAny_mono bound (fun o s' z => ?_) fun _ _ z => z)
    obtain ⟨r, rfl, q⟩ := z
    exact wpAny_pure ⟨_, rfl, q⟩
  have over : ∀ {t : Option Value → Sem Value}, (∀ v s', Q v s' → wpAny (model prog w) A (t (some v)) Q E s') → wpAny (model prog w) A (tryCompare (.ref x) (cmpInfo .NotEq).2.1 b >>= t) Q E s := fun {t} ht =>
    wpAny_bind (wpAny_mono asked (fun r s' z => by
      obtain ⟨v, rfl, q⟩ := z
      exact ht v s' q) fun _ _ z => z)
  unfold richCompare
  simp only [oneThing_ref]
  refine wpAny_holding (wpAny_bind (wpAny_cRoomFor (Nat.lt_of_succ_lt hu) ?_))
  refine wpAny_bind (I.type.here (wpAny_bind (PySem.W.Looks.here hb ?_)))
  have done : ∀ v s', Q v s' → wpAny (model prog w) A (pure v) Q E s' := fun v s' q => wpAny_pure q
  split
  · rename_i q
    have e : PySem.W.subIn K tb (.ref C) = some false := (Bool.or_eq_true_iff.mp hn).elim (fun e => by rw [beq_iff_eq.mp e] at q; simp at q) fun e => beq_iff_eq.mp e
    refine wpAny_bind ((PySem.W.looks_subIn hX e).here ?_)
    simp only [Bool.false_eq_true, if_false]
    exact over done
  · refine wpAny_bind (wpAny_pure ?_)
    simp only [Bool.false_eq_true, if_false]
    exact over done
end
end EV
set_option Elab.async false
set_option linter.all false
set_option maxRecDepth 100000
set_option maxHeartbeats 1000000
/-! EV 9: x == y, len(x), repr(x) by a class's own defs -/
namespace EV
open PySem L2 PySem.Spec PyProof.Rows

structure EqO (K : PySem.W.Frag) (C f : Addr) : Prop where
  eq : PySem.W.findIn K (.ref C) "__eq__" = some (some (.ref f))
  fn : PySem.W.isFn K (.ref f) = true
  ne : PySem.W.findIn K (.ref C) "__ne__" = some (some (.builtin "object.__ne__"))
  cm : PySem.W.mroIn K C (.type "object") = some true
theorem kit_notFirst {K : PySem.W.Frag} {tb : Value} {C : Addr} {r : Bool} (h : PySem.W.kitOne K tb (.ref C) = some r) (hr : tb = .ref C ∨ r = false) : PySem.W.notFirst K C tb = true := by
  unfold PySem.W.notFirst
  rcases hr with rfl | rfl
  · simp
  · unfold PySem.W.kitOne at h
    split at h
    · cases h
    · unfold PySem.W.kitCls at h
      simp only at h
      split at h
      · rw [h]; simp
      · cases h
theorem notFirst_of {mg : Str → Option Value} {K : PySem.W.Frag} {cs : List Str} {c : Str} {C : Addr} {t : Tg} {u : Value} (W : ClsF mg K cs) (hc : c ∈ cs) (hm : mg c = some (.ref C)) (ok : okT cs t = true) (e : tagV mg t = some u) : PySem.W.notFirst K C u = true := by
  have hk := kit_sub W ok (u := .own c) (by simpa [okT] using hc) e hm
  refine kit_notFirst hk ?_
  cases t with
  | bt n => exact .inr rfl
  | own c' =>
    by_cases q : c' = c
    · subst q
      have e : mg c' = some u := e
      rw [hm] at e; cases e
      exact .inl rfl
    · exact .inr (by simpa [subT] using q)
section
variable {X : Cx} {a b e : Expr} {fa fb f : DE} {fas : DA} {pos p : Pos} {k j n : Nat} {fad C : Addr} {fd : FuncData} {ps : List Str} {ix : List Nat} {ddv : List D} {c : Str} {cs : List Str} {g : Nat → List D → List D → Option (Ret × List D)}
/-! ### x == y, x != y -/
def rEqO (X : Cx) (C : Addr) (neg : Bool) (ps : List Str) (ix : List Nat) (ddv : List D) (g : Nat → List D → List D → Option (Ret × List D)) : R2 := fun x y H Q =>
  ∃ a dx fs tb, x = .ref a ∧ H a = some (.ins C dx fs) ∧ TyX X.K H y tb ∧ PySem.W.notFirst X.K C tb = true ∧ SpC X ps ix ddv g [x, y] H fun v H' => ∃ r, v = .bl r ∧ Q (.bl (if neg = true then !r else r)) H'
theorem op_eqO (Cc : CalD X.prog X.w X.K X.mg X.base k fad fd ps g) (hb : CalB X.mg X.K fd ps 2 [] ix ddv) (hgu : X.A.guards = some []) (hr : Room j X.A) (hk : k ≤ j) (eo : EqO X.K C fad) : OpR X (compareOp .Eq) (rEqO X C false ps ix ddv g) := by
  intro pins s σ H x y v u Q I rx ry ⟨a, dx, fs, tb, ex, ea, ty, hn, q⟩
  subst ex
  obtain rfl : v = Value.ref a := rx
  obtain ⟨mA, O, _⟩ := ins_get I.hok ea
  obtain ⟨od, J, _⟩ := O.look
  obtain ⟨m, hF⟩ := I.fr
  obtain ⟨P, Z, hp, _⟩ := kit_of I ry ty
  show wpAny (model X.prog X.w) X.A (richCompare .Eq (.ref a) u) (EP X pins σ Q) X.xe s
  refine PySem.W.cmp_K (op := .Eq) (tb := tb) hr.units0 hF I.ok.mod.kin J (Z.ty _ _ I.kIn hp) hn eo.eq eo.fn ?_
  refine wpAny_call (callv (E' := X.xe) (us := [.ref a, u]) (ws := []) (ks := []) (vs := [.ref a, y]) Cc hb hgu (hr.mono hk) I.env0 I.kIn (.cons rfl (.cons ry .nil)) rfl rfl q fun z s' hq => ?_)
  obtain ⟨v', H', I', rv, r, ev, q'⟩ := I.after hq
  subst ev
  obtain rfl : z = Value.bool r := rv
  exact ⟨.bl r, H', I', rfl, by simpa using q'⟩
theorem op_neO (Cc : CalD X.prog X.w X.K X.mg X.base k fad fd ps g) (hb : CalB X.mg X.K fd ps 2 [] ix ddv) (hgu : X.A.guards = some []) (hr : Room (j + 1) X.A) (hk : k ≤ j) (eo : EqO X.K C fad) : OpR X (compareOp .NotEq) (rEqO X C true ps ix ddv g) := by
  intro pins s σ H x y v u Q I rx ry ⟨a, dx, fs, tb, ex, ea, ty, hn, q⟩
  subst ex
  obtain rfl : v = Value.ref a := rx
  obtain ⟨mA, O, _⟩ := ins_get I.hok ea
  obtain ⟨od, J, _⟩ := O.look
  obtain ⟨P, Z, hp, _⟩ := kit_of I ry ty
  show wpAny (model X.prog X.w) X.A (richCompare .NotEq (.ref a) u) (EP X pins σ Q) X.xe s
  refine ne_own (tb := tb) (by have := hr.un; omega) I.kIn J (Z.ty _ _ I.kIn hp) hn eo.ne eo.cm eo.eq eo.fn ?_
  refine wpAny_call (callv (E' := X.xe) (us := [.ref a, u]) (ws := []) (ks := []) (vs := [.ref a, y]) Cc hb (A := X.A.in1) hgu ((hr.in1).mono hk) I.env0.in1 I.kIn (.cons rfl (.cons ry .nil)) rfl rfl q fun z s' hq => ?_)
  obtain ⟨v', H', I', rv, r, ev, q'⟩ := I.after hq
  subst ev
  obtain rfl : z = Value.bool r := rv
  exact ⟨r, rfl, .bl (!r), H', I', rfl, by simpa using q'⟩
def dEqO (cs : List Str) (c : Str) (neg : Bool) (ix : List Nat) (ddv : List D) (g : List D → List D → Option (Ret × List D)) (fa fb : DE) : DE := fun δ => (fa δ).bind fun p => (fb p.2).bind fun q => (p.1.pin.keep q.2).bind fun x => (q.1.pin.keep q.2).bind fun y => match insOf q.2.ce x with
  | some (c', _, _) => if c' = c then (rdD q.2 y).bind fun y' => y'.tag.bind fun t => if okT cs t = true then (g (pick ix ([x, y] ++ ddv)) q.2.ce).bind fun u => match u.1 with
      | .val (.bl r) => some (.val (.bl (if neg = true then !r else r)), ⟨q.2.sl, u.2⟩)
      | _ => none
    else none else none
  | none => none
theorem eqO_run {neg : Bool} (N : Nat) (hbb : CalB X.mg X.K fd ps 2 [] ix ddv) (W : ClsF X.mg X.K cs) (hc : c ∈ cs) (hm : X.mg c = some (.ref C)) (ha : Snd X a fa) (hb : Snd X b fb) {B : Bs} {G : Gh} {δ δ' : DSt} {r : RV} {σ : L2.St} {H : Hp} {Q : VK} (h : dEqO cs c neg ix ddv (g N) fa fb δ = some (r, δ')) (R : Rl X.mg X.K B G δ σ H)
    (kk : Ct X.mg X.K B G δ' σ r Q) : tOp (rEqO X C neg ps ix ddv g) (tE X a) (tE X b) σ H Q := by
  obtain ⟨⟨ra, δ1⟩, e1, h⟩ := bnd h
  obtain ⟨⟨rb, δ2⟩, e2, h⟩ := bnd h
  obtain ⟨x, e3, h⟩ := bnd h
  obtain ⟨y, e4, h⟩ := bnd h
  split at h
  · rename_i c' ns ds e5
    split at h
    · rename_i hcc
      obtain ⟨y', e6, h⟩ := bnd h
      obtain ⟨t, e7, h⟩ := bnd h
      split at h
      · rename_i ok
        obtain ⟨⟨r', ce'⟩, e8, h⟩ := bnd h
        split at h
        · rename_i rr er
          have er : r' = .val (.bl rr) := er
          subst er
          cases h
          refine ha B G δ ra δ1 σ H _ e1 R fun G1 va H1 l1 R1 o1 => ?_
          obtain ⟨G1', l1', R1', o1'⟩ := R1.pin o1
          refine hb B G1' δ1 rb δ2 σ H1 _ e2 R1' fun G2 vb H2 l2 R2 o2 => ?_
          obtain ⟨G2', l2', R2', o2'⟩ := R2.pin o2
          have rx := R2'.keepPin (o1'.mono (l2.trans l2')) e3
          have ry := R2'.keepPin o2' e4
          obtain ⟨a0, C', dx, fs, ev, ea, hC, _, _⟩ := R2'.insOf rx e5
          rw [hcc, hm] at hC; cases hC
          subst ev
          obtain ⟨tb, g1, g2⟩ := (R2'.rdD ry e6).tyX W R2'.sub e7 ok
          refine ⟨a0, dx, fs, tb, rfl, ea, g2, notFirst_of W hc hm ok g1, ?_⟩
          refine SpC.of (mg := X.mg) (ks := []) R2' (.cons rx (.cons ry .nil)) rfl hbb (m := N) e8 fun G3 v H3 l3 R3 o3 => ?_
          have o3 : Rep X.mg X.K G3.F G3.ρ v (.bl rr) := o3
          cases o3
          exact ⟨rr, rfl, kk G3 _ H3 (((l1.trans l1').trans (l2.trans l2')).trans l3) R3 (.bl _)⟩
        · cases h
      · cases h
    · cases h
  · cases h
theorem snd_eqO (N : Nat) (Cc : CalD X.prog X.w X.K X.mg X.base k fad fd ps g) (hbb : CalB X.mg X.K fd ps 2 [] ix ddv) (hgu : X.A.guards = some []) (hr : Room (j + 1) X.A) (hk : k ≤ j) (W : ClsF X.mg X.K cs) (hc : c ∈ cs) (hm : X.mg c = some (.ref C)) (eo : EqO X.K C fad) (ha : Snd X a fa) (hb : Snd X b fb) (hmk : behindInMarks .Eq b = false) :
    Snd X (.Compare a [.Eq] [b] pos) (dEqO cs c false ix ddv (g N) fa fb) :=
  fun B G δ r δ' σ H Q h R kk => tE_of (pe_cmpR (op_eqO Cc hbb hgu hr (Nat.le_succ_of_le hk) eo) (pe_tE X a) (pe_tE X b) hmk) (eqO_run N hbb W hc hm ha hb h R kk)
theorem snd_neO (N : Nat) (Cc : CalD X.prog X.w X.K X.mg X.base k fad fd ps g) (hbb : CalB X.mg X.K fd ps 2 [] ix ddv) (hgu : X.A.guards = some []) (hr : Room (j + 1) X.A) (hk : k ≤ j) (W : ClsF X.mg X.K cs) (hc : c ∈ cs) (hm : X.mg c = some (.ref C)) (eo : EqO X.K C fad) (ha : Snd X a fa) (hb : Snd X b fb) (hmk : behindInMarks .NotEq b = false) :
    Snd X (.Compare a [.NotEq] [b] pos) (dEqO cs c true ix ddv (g N) fa fb) :=
  fun B G δ r δ' σ H Q h R kk => tE_of (pe_cmpR (op_neO Cc hbb hgu hr hk eo) (pe_tE X a) (pe_tE X b) hmk) (eqO_run N hbb W hc hm ha hb h R kk)
theorem sndt_eqO (N : Nat) (Cc : CalD X.prog X.w X.K X.mg X.base k fad fd ps g) (hbb : CalB X.mg X.K fd ps 2 [] ix ddv) (hgu : X.A.guards = some []) (hr : Room (j + 1) X.A) (hk : k ≤ j) (W : ClsF X.mg X.K cs) (hc : c ∈ cs) (hm : X.mg c = some (.ref C)) (eo : EqO X.K C fad) (ha : Snd X a fa) (hb : Snd X b fb) (hmk : behindInMarks .Eq b = false) :
    SndT X (.Compare a [.Eq] [b] pos) (dTst (dEqO cs c false ix ddv (g N) fa fb)) := by
  intro B G δ b' δ' σ H Q h R kk
  obtain ⟨⟨r, δ1⟩, e1, h⟩ := bnd h
  refine tT_of (pt_cmpR (op_eqO Cc hbb hgu hr (Nat.le_succ_of_le hk) eo) (pe_tE X a) (pe_tE X b) hmk) ?_
  split at h
  · rename_i bb q
    cases h
    have q : r = .val (.bl b') := q
    subst q
    exact eqO_run N hbb W hc hm ha hb e1 R fun G' v H' l R' o => by
      have o' : Rep X.mg X.K G'.F G'.ρ v (.bl b') := o
      cases o'
      exact ⟨b', rfl, kk G' H' l R'⟩
  · cases h
theorem sndt_neO (N : Nat) (Cc : CalD X.prog X.w X.K X.mg X.base k fad fd ps g) (hbb : CalB X.mg X.K fd ps 2 [] ix ddv) (hgu : X.A.guards = some []) (hr : Room (j + 1) X.A) (hk : k ≤ j) (W : ClsF X.mg X.K cs) (hc : c ∈ cs) (hm : X.mg c = some (.ref C)) (eo : EqO X.K C fad) (ha : Snd X a fa) (hb : Snd X b fb) (hmk : behindInMarks .NotEq b = false) :
    SndT X (.Compare a [.NotEq] [b] pos) (dTst (dEqO cs c true ix ddv (g N) fa fb)) := by
  intro B G δ b' δ' σ H Q h R kk
  obtain ⟨⟨r, δ1⟩, e1, h⟩ := bnd h
  refine tT_of (pt_cmpR (op_neO Cc hbb hgu hr hk eo) (pe_tE X a) (pe_tE X b) hmk) ?_
  split at h
  · rename_i bb q
    cases h
    have q : r = .val (.bl b') := q
    subst q
    exact eqO_run N hbb W hc hm ha hb e1 R fun G' v H' l R' o => by
      have o' : Rep X.mg X.K G'.F G'.ρ v (.bl b') := o
      cases o'
      exact ⟨b', rfl, kk G' H' l R'⟩
  · cases h

/-! ### len(x), repr(x) -/
def rOwn1 (X : Cx) (C : Addr) (P : V → Prop) (ps : List Str) (ix : List Nat) (ddv : List D) (g : Nat → List D → List D → Option (Ret × List D)) : List V → Hp → VK → Prop := fun xs H Q =>
  ∃ a dx fs, xs = [.ref a] ∧ H a = some (.ins C dx fs) ∧ SpC X ps ix ddv g [.ref a] H fun v H' => P v ∧ Q v H'
def isLen (v : V) : Prop := ∃ i : Int, v = .int i ∧ 0 ≤ i ∧ i < 9223372036854775808
def isTxt (v : V) : Prop := ∃ x : Str, v = .str x
theorem call_lenO (Cc : CalD X.prog X.w X.K X.mg X.base k fad fd ps g) (hb : CalB X.mg X.K fd ps 1 [] ix ddv) (hgu : X.A.guards = some []) (hr : Room (j + 1) X.A) (hk : k ≤ j) (hs : PySem.W.findIn X.K (.ref C) "__len__" = some (some (.ref fad))) (hf : PySem.W.isFn X.K (.ref fad) = true) :
    CallR X (.builtin "len") (rOwn1 X C isLen ps ix ddv g) := by
  intro pins s σ H xs us Q I r ⟨a, dx, fs, ex, ea, q⟩
  subst ex
  obtain ⟨u, rfl, ru⟩ := vals1 r
  obtain rfl : u = Value.ref a := ru
  obtain ⟨mA, O, _⟩ := ins_get I.hok ea
  obtain ⟨od, J, _⟩ := O.look
  obtain ⟨m, hF⟩ := I.fr
  refine PySem.W.len_K hF I.ok.mod.kin J hs hf ?_
  refine wpAny_call (callv (E' := X.xe) (us := [.ref a]) (ws := []) (ks := []) (vs := [.ref a]) Cc hb (A := X.A.in1) hgu ((hr.in1).mono hk) I.env0.in1 I.kIn (.cons rfl .nil) rfl rfl q fun z s' hq => ?_)
  obtain ⟨v', H', I', rv, ⟨i, ev, h0, h1⟩, q'⟩ := I.after hq
  subst ev
  obtain ⟨t, rfl⟩ := rv
  exact ⟨⟨h0, by omega⟩, .int i, H', I'.tok _, ⟨_, rfl⟩, q'⟩
theorem call_reprO (Cc : CalD X.prog X.w X.K X.mg X.base k fad fd ps g) (hb : CalB X.mg X.K fd ps 1 [] ix ddv) (hgu : X.A.guards = some []) (hr : Room (j + 1) X.A) (hk : k ≤ j) (hs : PySem.W.findIn X.K (.ref C) "__repr__" = some (some (.ref fad))) (hf : PySem.W.isFn X.K (.ref fad) = true) :
    CallR X (.builtin "repr") (rOwn1 X C isTxt ps ix ddv g) := by
  intro pins s σ H xs us Q I r ⟨a, dx, fs, ex, ea, q⟩
  subst ex
  obtain ⟨u, rfl, ru⟩ := vals1 r
  obtain rfl : u = Value.ref a := ru
  obtain ⟨mA, O, _⟩ := ins_get I.hok ea
  obtain ⟨od, J, _⟩ := O.look
  obtain ⟨m, hF⟩ := I.fr
  refine PySem.W.repr_K hr.in1.units0 hF I.ok.mod.kin J hs hf ?_
  refine wpAny_call (callv (E' := X.xe) (us := [.ref a]) (ws := []) (ks := []) (vs := [.ref a]) Cc hb (A := X.A.in1) hgu ((hr.in1).mono hk) I.env0.in1 I.kIn (.cons rfl .nil) rfl rfl q fun z s' hq => ?_)
  obtain ⟨v', H', I', rv, ⟨x, ev⟩, q'⟩ := I.after hq
  subst ev
  obtain ⟨t, rfl⟩ := rv
  exact ⟨.str x, H', I', ⟨_, rfl⟩, q'⟩
def okLen : D → Bool
  | .int i => decide (0 ≤ i ∧ i < 9223372036854775808)
  | _ => false
def okTxt : D → Bool
  | .str _ => true
  | _ => false
def dOwn1 (c : Str) (ok : D → Bool) (ix : List Nat) (ddv : List D) (g : List D → List D → Option (Ret × List D)) (fas : DA) : DE := fun δ => (fas δ).bind fun p => (keepAll p.2 p.1).bind fun ds => match ds with
  | [d] => match insOf p.2.ce d with
    | some (c', _, _) => if c' = c then (g (pick ix ([d] ++ ddv)) p.2.ce).bind fun u => match u.1 with
        | .val x => if ok x = true then some (.val x, ⟨p.2.sl, u.2⟩) else none
        | _ => none
      else none
    | none => none
  | _ => none
theorem own1_run {P : V → Prop} {ok : D → Bool} (hP : ∀ F ρ v d, Rep X.mg X.K F ρ v d → ok d = true → P v) (N : Nat) (hb : CalB X.mg X.K fd ps 1 [] ix ddv) (hm : X.mg c = some (.ref C)) {es : List Expr} (h : SndA X es fas) {B : Bs} {G : Gh} {δ δ' : DSt} {r : RV} {σ : L2.St} {H : Hp} {Q : VK}
    (q : dOwn1 c ok ix ddv (g N) fas δ = some (r, δ')) (R : Rl X.mg X.K B G δ σ H) (kk : Ct X.mg X.K B G δ' σ r Q) : tCB (rOwn1 X C P ps ix ddv g) (tA X es) σ H Q := by
  obtain ⟨⟨rs, δ1⟩, e1, q⟩ := bnd q
  obtain ⟨ds, e2, q⟩ := bnd q
  split at q
  · rename_i d
    split at q
    · rename_i c' ns xs e3
      split at q
      · rename_i hcc
        obtain ⟨⟨r', ce'⟩, e4, q⟩ := bnd q
        split at q
        · rename_i x er
          have er : r' = .val x := er
          subst er
          split at q
          · rename_i hok
            cases q
            refine h B G δ rs δ1 σ H _ e1 R fun G1 vs H1 l1 R1 o1 => ?_
            have rp := R1.keepAll o1 e2
            cases rp with
            | cons rx rr =>
              cases rr
              obtain ⟨a0, C', dx, fs, ev, ea, hC, _, _⟩ := R1.insOf rx e3
              rw [hcc, hm] at hC; cases hC
              subst ev
              refine ⟨a0, dx, fs, rfl, ea, ?_⟩
              exact SpC.of (mg := X.mg) (ks := []) R1 (.cons rx .nil) rfl hb (m := N) e4 fun G3 v H3 l3 R3 o3 => ⟨hP _ _ v x o3 hok, kk G3 v H3 (l1.trans l3) R3 o3⟩
          · cases q
        · cases q
      · cases q
    · cases q
  · cases q
theorem snd_lenO (N : Nat) (Cc : CalD X.prog X.w X.K X.mg X.base k fad fd ps g) (hb : CalB X.mg X.K fd ps 1 [] ix ddv) (hgu : X.A.guards = some []) (hr : Room (j + 1) X.A) (hk : k ≤ j) (hs : PySem.W.findIn X.K (.ref C) "__len__" = some (some (.ref fad))) (hf : PySem.W.isFn X.K (.ref fad) = true) (hm : X.mg c = some (.ref C))
    (hgl : Gl X "len") (hml : X.mg "len" = none) (h : SndA X [e] fas) (he : starEach [e] X.env = (false, eval e X.env) :: starEach [] X.env) (hpl : (backTo pos (starEach [] X.env)).any (·.1) = false) : Snd X (.Call (.Name "len" p) [e] [] pos) (dOwn1 c okLen ix ddv (g N) fas) :=
  fun B G δ r δ' σ H Q q R kk => tE_of (pe_callB (call_lenO Cc hb hgu hr hk hs hf) hgl hml boot_len (pa_tA X _) (by decide) rfl he hpl) (own1_run (fun F ρ v d r ok => by
    cases d with
    | int i =>
      cases r
      have ok : 0 ≤ i ∧ i < 9223372036854775808 := by simpa [okLen] using ok
      exact ⟨i, rfl, ok.1, ok.2⟩
    | _ => cases ok) N hb hm h q R kk)
theorem snd_reprO (N : Nat) (Cc : CalD X.prog X.w X.K X.mg X.base k fad fd ps g) (hb : CalB X.mg X.K fd ps 1 [] ix ddv) (hgu : X.A.guards = some []) (hr : Room (j + 1) X.A) (hk : k ≤ j) (hs : PySem.W.findIn X.K (.ref C) "__repr__" = some (some (.ref fad))) (hf : PySem.W.isFn X.K (.ref fad) = true) (hm : X.mg c = some (.ref C))
    (hgl : Gl X "repr") (hml : X.mg "repr" = none) (h : SndA X [e] fas) (he : starEach [e] X.env = (false, eval e X.env) :: starEach [] X.env) (hpl : (backTo pos (starEach [] X.env)).any (·.1) = false) : Snd X (.Call (.Name "repr" p) [e] [] pos) (dOwn1 c okTxt ix ddv (g N) fas) :=
  fun B G δ r δ' σ H Q q R kk => tE_of (pe_callB (call_reprO Cc hb hgu hr hk hs hf) hgl hml (by decide +kernel) (pa_tA X _) (by decide) rfl he hpl) (own1_run (fun F ρ v d r ok => by
    cases d with
    | str x =>
      cases r
      exact ⟨x, rfl⟩
    | _ => cases ok) N hb hm h q R kk)
end
end EV
set_option Elab.async false
set_option linter.all false
set_option maxRecDepth 100000
set_option maxHeartbeats 1000000
/-! EV 10: {}, cells made in a body, parallel assignment, stores by subscript -/
namespace EV
open PySem L2 PySem.Spec PyProof.Rows

section
variable {X : Cx} {a b c e o i : Expr} {fa fb fo f : DE} {fas : DA} {pos p p1 p2 pt pt2 px py : Pos}
theorem snd_dic0 : Snd X (.Dict [] [] pos) (dC (.dic [] [])) := by
  intro B G δ r δ' σ H Q h R k
  cases h
  refine tE_of pe_dnewK ?_
  intro p hp
  obtain ⟨R', h1, h2, h3, h4⟩ := R.push (o := .dK []) hp
  obtain ⟨l, R2⟩ := R'.freeze h1 h2 h3 h4 upd_same
  exact k _ _ _ l R2 (.dic upd_same rfl .nil)

/-! ### a new list (or instance) becomes a cell -/
theorem Rl.newCell {mg : Str → Option Value} {K : PySem.W.Frag} {B : Bs} {G : Gh} {δ : DSt} {σ : L2.St} {H : Hp} {d : D} {v : V} (R : Rl mg K B G δ σ H) (h : RvOk mg K B G σ H (.fresh d) v) : ∃ G', G.le G' ∧ Rl mg K B G' ⟨δ.sl, δ.ce ++ [d]⟩ σ H ∧ Rep mg K G'.F G'.ρ v (.cell δ.ce.length) := by
  obtain ⟨q, rfl, h1, h2, h3, h4, h5⟩ := h
  have pre : ∃ t, G.ρ ++ [q] = G.ρ ++ t := ⟨[q], rfl⟩
  have le : G.le { G with ρ := G.ρ ++ [q] } := ⟨Same.refl _, pre⟩
  have cel := R.cl
  obtain ⟨ob, hob⟩ := h5.there
  have mem : ∀ {z}, z ∈ G.ρ ++ [q] → z ∈ G.ρ ∨ z = q := fun {z} hz => by simpa using hz
  refine ⟨{ G with ρ := G.ρ ++ [q] }, le, ?_, .cell (by rw [cel]; simp)⟩
  exact {
    sub := R.sub, fow := R.fow
    foc := fun z hz => (mem hz).elim (R.foc z) fun e => by rw [e]; exact h1
    oc := fun z j hz hm => (mem hm).elim (R.oc z j hz) fun e => by rw [e] at hz; rw [h2] at hz; cases hz
    nd := by
      rw [List.nodup_append]
      exact ⟨R.nd, by simp, fun x hx y hy => by
        have : y = q := by simpa using hy
        subst this
        exact fun z => h3 (z ▸ hx)⟩
    oh := R.oh
    ch := fun z hz => (mem hz).elim (R.ch z) fun e => by rw [e, hob]; exact fun z => nomatch z
    sv := fun j x hx => let ⟨v, g1, g2⟩ := R.sv j x hx; ⟨v, g1, Rep.mono le.F le.ρ _ _ g2⟩
    so := fun j x hx => let ⟨v, g1, g2, g3⟩ := R.so j x hx; ⟨v, g1, g2, g3.mono le.F le.ρ fun _ z => z⟩
    sl := R.sl
    ce := fun m x hx => by
      have hx : (δ.ce ++ [d])[m]? = some x := hx
      by_cases hm : m < δ.ce.length
      · rw [List.getElem?_append_left hm] at hx
        obtain ⟨z, g1, g2⟩ := R.ce m x hx
        exact ⟨z, by show (G.ρ ++ [q])[m]? = _; rw [List.getElem?_append_left (by rw [← cel]; exact hm)]; exact g1, g2.mono le.F le.ρ fun _ z => z⟩
      · rw [List.getElem?_append_right (by omega)] at hx
        have hm0 : m = δ.ce.length := by
          have := (List.getElem?_eq_some_iff.mp hx).1
          simp at this; omega
        subst hm0
        simp at hx; subst hx
        exact ⟨q, by show (G.ρ ++ [q])[_]? = _; rw [cel]; simp, h5.mono le.F le.ρ fun _ z => z⟩
    cl := by show (δ.ce ++ [d]).length = (G.ρ ++ [q]).length; simp [cel]
    fr := R.fr, dom := R.dom, new := R.new, fnew := R.fnew
    pre := by
      obtain ⟨t, e, ht⟩ := R.pre
      exact ⟨t ++ [q], by show G.ρ ++ [q] = _; rw [e, List.append_assoc], fun z hz => by
        rcases List.mem_append.mp hz with hz | hz
        · exact ht z hz
        · have : z = q := by simpa using hz
          subst this; exact h4⟩ }
def dCel (i : Nat) (f : DE) : DS := fun δ => (f δ).bind fun p => match p.1 with
  | .fresh d => some (.nx, DSt.putV ⟨p.2.sl, p.2.ce ++ [d]⟩ i (.cell p.2.ce.length))
  | _ => none
theorem snds_cel {i : Nat} {x : Str} {p' : Pos} (hN : X.N.Nodup) (hi : X.N[i]? = some x) (hx : Loc X.env.scope x) (he : Snd X e f) (hs : swapsWith e (some (.Name x p')) pos.line X.env = pure false) (hf : X.fn x = true ∨ X.env.scope.names.lookup x = some .local) :
    SndS X (.Assign [.Name x p'] e pos) (dCel i f) := by
  intro B G δ fl δ' σ H Dn h R k
  obtain ⟨⟨r, δ1⟩, e1, h⟩ := bnd h
  split at h
  · rename_i d q
    have q : r = .fresh d := q
    subst q
    cases h
    refine tSt_of (ps_set hN hi hx (pe_tE X e) hs hf) ?_
    refine he B G δ _ δ1 σ H _ e1 R fun G1 v H1 l1 R1 o1 => ?_
    obtain ⟨G2, l2, R2, rv⟩ := R1.newCell o1
    exact k G2 _ H1 (l1.trans l2) (R2.putV rv i)
  · cases h

/-! ### a, b = x, y -/
inductive Md where
  | keep | own
/-- a value goes to slot i -/
def putM (m : Md) (i : Nat) (r : RV) (δ : DSt) : Option DSt := match m with
  | .keep => (r.keep δ).map (δ.putV i)
  | .own => match r with
    | .fresh d => some (δ.putO i d)
    | _ => none
def dPar (m1 m2 : Md) (i j : Nat) (f1 f2 : DE) : DS := fun δ => (f1 δ).bind fun p => match m1 with
  | .keep => (f2 p.2).bind fun q => (p.1.pin.keep q.2).bind fun d1 => match m2 with
    | .keep => (q.1.keep q.2).map fun d2 => (.nx, (q.2.putV i d1).putV j d2)
    | .own => match q.1 with
      | .fresh d2 => some (.nx, (q.2.putV i d1).putO j d2)
      | _ => none
  | .own => match p.1 with
    | .fresh d1 => (f2 ⟨hideO p.2.sl, p.2.ce⟩).bind fun q => if q.2.ce.length = p.2.ce.length then match m2 with
        | .keep => match q.1 with
          | .val d2 => some (.nx, (DSt.putO ⟨p.2.sl, q.2.ce⟩ i d1).putV j d2)
          | _ => none
        | .own => match q.1 with
          | .fresh d2 => some (.nx, (DSt.putO ⟨p.2.sl, q.2.ce⟩ i d1).putO j d2)
          | _ => none
      else none
    | _ => none
theorem hide_blk {mg : Str → Option Value} {K : PySem.W.Frag} {B : Bs} {G : Gh} {δ : DSt} {σ : L2.St} {H : Hp} (R : Rl mg K B G δ σ H) : Rl mg K ⟨H, G.F, G.ρ⟩ ⟨G.F, G.ρ, fun _ => none⟩ ⟨hideO δ.sl, δ.ce⟩ σ H := R.blk []
/-- x, y evaluated: the pair -/
theorem par_run {m1 m2 : Md} {i j : Nat} (hij : i ≠ j) (ha : Snd X a fa) (hb : Snd X b fb) (hs : starEach [a, b] X.env = (false, eval a X.env) :: starEach [b] X.env) (hs2 : starEach [b] X.env = (false, eval b X.env) :: starEach [] X.env) {B : Bs} {G : Gh} {δ δ' : DSt} {fl : Fl} {σ : L2.St} {H : Hp} {Q : List V → Hp → Prop}
    (q : dPar m1 m2 i j fa fb δ = some (fl, δ')) (R : Rl X.mg X.K B G δ σ H) (kk : ∀ (G' : Gh) (v w : V) (H' : Hp), G.le G' → Rl X.mg X.K B G' δ' ((σ.set i (some v)).set j (some w)) H' → Q [v, w] H') : fl = .nx ∧ tA X [a, b] σ H Q := by
  obtain ⟨⟨r1, δ1⟩, e1, q⟩ := bnd q
  cases m1 with
  | keep =>
    obtain ⟨⟨r2, δ2⟩, e2, q⟩ := bnd q
    obtain ⟨d1, e3, q⟩ := bnd q
    refine ⟨?_, tA_of (pa_cons (pe_tE X a) (pa_cons (pe_tE X b) pa_nil hs2) hs) ?_⟩
    · cases m2 with
      | keep => obtain ⟨d2, _, q⟩ := Option.map_eq_some_iff.mp q; cases q; rfl
      | own => cases r2 <;> cases q; rfl
    refine ha B G δ r1 δ1 σ H _ e1 R fun G1 v H1 l1 R1 o1 => ?_
    obtain ⟨G1', l1', R1', o1'⟩ := R1.pin o1
    refine hb B G1' δ1 r2 δ2 σ H1 _ e2 R1' fun G2 w H2 l2 R2 o2 => ?_
    have rv := R2.keepPin (o1'.mono l2) e3
    cases m2 with
    | keep =>
      obtain ⟨d2, e4, q⟩ := Option.map_eq_some_iff.mp q
      cases q
      obtain ⟨G3, l3, R3, rw'⟩ := R2.keep o2 e4
      exact kk G3 v w H2 (((l1.trans l1').trans l2).trans l3) ((R3.putV (Rep.mono l3.F l3.ρ _ _ rv) i).putV rw' j)
    | own =>
      cases r2 with
      | fresh d2 =>
        cases q
        obtain ⟨G3, l3, R3⟩ := (R2.putV rv i).putO (v := w) o2 j
        exact kk G3 v w H2 (((l1.trans l1').trans l2).trans l3) R3
      | _ => cases q
  | own =>
    cases r1 with
    | fresh d1 =>
      obtain ⟨⟨r2, δ2⟩, e2, q⟩ := bnd q
      split at q
      · rename_i hlen
        refine ⟨?_, tA_of (pa_cons (pe_tE X a) (pa_cons (pe_tE X b) pa_nil hs2) hs) ?_⟩
        · cases m2 with
          | keep => cases r2 <;> cases q; rfl
          | own => cases r2 <;> cases q; rfl
        refine ha B G δ _ δ1 σ H _ e1 R fun G1 v H1 l1 R1 o1 => ?_
        obtain ⟨p1, rfl, f1, f2, f3, f4, f5⟩ := o1
        obtain ⟨ob, hob⟩ := f5.there
        have cel := R1.cl
        refine hb ⟨H1, G1.F, G1.ρ⟩ _ _ r2 δ2 σ H1 _ e2 (hide_blk R1) fun G2 w H2 l2 R2 o2 => ?_
        have hlen : δ2.ce.length = G1.ρ.length := by rw [← cel]; exact hlen
        obtain ⟨er, af⟩ := R2.back l2.F hlen
        obtain ⟨l3, R3⟩ := R1.after (fun _ z => .inl z) af
        have hH2 : H2 p1 = some ob := af.fr p1 ob hob f3
        have o1' : RvOk X.mg X.K B { G1 with F := G2.F } σ H2 (.fresh d1) (.ref p1) :=
          ⟨p1, rfl, by show G2.F p1 = none; rw [af.old p1 ob hob]; exact f1, f2, f3, f4, f5.mono l3.F l3.ρ fun o z => by rw [hob] at z; cases z; exact hH2⟩
        obtain ⟨p1', ep, l4, R4⟩ := R3.putOw o1' i
        cases ep
        cases m2 with
        | keep =>
          cases r2 with
          | val d2 =>
            cases q
            have o2 : Rep X.mg X.K G2.F G2.ρ w d2 := o2
            rw [er] at o2
            exact kk _ _ w H2 ((l1.trans l3).trans l4) (R4.putV (Rep.mono l4.F l4.ρ _ _ o2) j)
          | _ => cases q
        | own =>
          cases r2 with
          | fresh d2 =>
            cases q
            obtain ⟨p2, rfl, g1, g2, g3, g4, g5⟩ := o2
            rw [er] at g5
            have g4 : H1 p2 = none := g4
            have hne : p2 ≠ p1 := fun z => by rw [z, hob] at g4; cases g4
            have hw : G1.ow p2 = none := by
              cases z : G1.ow p2 with
              | none => rfl
              | some m => exact absurd g4 (R1.oh p2 m z)
            obtain ⟨G5, l5, R5⟩ := R4.putO (d := d2) (v := .ref p2) ⟨p2, rfl, g1, by show (if p2 = p1 then some i else G1.ow p2) = none; rw [if_neg hne]; exact hw, fun z => R1.ch p2 z g4, R1.dom p2 g4, g5.mono l4.F l4.ρ fun _ z => z⟩ j
            exact kk G5 _ _ H2 (((l1.trans l3).trans l4).trans l5) R5
          | _ => cases q
      · cases q
    | _ => cases q
theorem snds_par {m1 m2 : Md} {i j : Nat} {x y : Str} {kt k2 : Nat} (hc : X.calm = true) (hN : X.N.Nodup) (hi : X.N[i]? = some x) (hj : X.N[j]? = some y) (hij : i ≠ j) (hx : X.env.scope.names.lookup x = some .local) (hy : X.env.scope.names.lookup y = some .local) (ha : Snd X a fa) (hb : Snd X b fb)
    (hsa : starEach [a, b] X.env = (false, eval a X.env) :: starEach [b] X.env) (hsb : starEach [b] X.env = (false, eval b X.env) :: starEach [] X.env)
    (hw : swappedStores [.Tuple [.Name x px, .Name y py] kt pt] (.Tuple [a, b] k2 pt2) X.env = pure (some [x, y])) (hs : swapsWithSole [.Tuple [.Name x px, .Name y py] kt pt] (.Tuple [a, b] k2 pt2) pos.line X.env = pure false) :
    SndS X (.Assign [.Tuple [.Name x px, .Name y py] kt pt] (.Tuple [a, b] k2 pt2) pos) (dPar m1 m2 i j fa fb) := by
  intro B G δ fl δ' σ H Dn h R k
  have run := fun Q kk => par_run (Q := Q) hij ha hb hsa hsb h R kk
  obtain ⟨rfl, _⟩ := run (fun _ _ => True) fun _ _ _ _ _ _ => trivial
  refine tSt_of (ps_par hc hN hi hj hij hx hy (pa_tA X [a, b]) hw hs) ?_
  exact (run _ fun G' v w H' l R' => ⟨v, w, rfl, k G' _ H' l R'⟩).2
end
end EV
set_option Elab.async false
set_option linter.all false
set_option maxRecDepth 100000
set_option maxHeartbeats 1000000
/-! EV 11: stores of every kind, subscript targets, enumerate, loops over cells, conversions -/
namespace EV
open PySem L2 PySem.Spec PyProof.Rows

section
variable {X : Cx} {a b c e o tg iter elt : Expr} {es : List Expr} {fa fb fo f : DE} {ft : DT} {fi : DI} {g : DG} {fas : DA} {fs : DS} {pos p p1 p2 apos cpos spos : Pos}
/-! ### a name = e -/
inductive Ks where
  | keep | own | cel
def putR (m : Ks) (i : Nat) (r : RV) (δ : DSt) : Option DSt := match m with
  | .keep => (r.keep δ).map (δ.putV i)
  | .own => match r with
    | .fresh d => some (δ.putO i d)
    | _ => none
  | .cel => match r with
    | .fresh d => some (DSt.putV ⟨δ.sl, δ.ce ++ [d]⟩ i (.cell δ.ce.length))
    | _ => none
theorem Rl.putR {mg : Str → Option Value} {K : PySem.W.Frag} {B : Bs} {G : Gh} {δ δ' : DSt} {σ : L2.St} {H : Hp} {m : Ks} {i : Nat} {r : RV} {v : V} (R : Rl mg K B G δ σ H) (h : RvOk mg K B G σ H r v) (q : putR m i r δ = some δ') : ∃ G', G.le G' ∧ Rl mg K B G' δ' (σ.set i (some v)) H := by
  cases m with
  | keep =>
    obtain ⟨d, e1, q⟩ := Option.map_eq_some_iff.mp q
    subst q
    obtain ⟨G', l, R', rv⟩ := R.keep h e1
    exact ⟨G', l, R'.putV rv i⟩
  | own =>
    cases r with
    | fresh d => cases q; exact R.putO h i
    | _ => cases q
  | cel =>
    cases r with
    | fresh d =>
      cases q
      obtain ⟨G', l, R', rv⟩ := R.newCell h
      exact ⟨G', l, R'.putV rv i⟩
    | _ => cases q
def dSt (m : Ks) (i : Nat) (f : DE) : DS := fun δ => (f δ).bind fun p => (putR m i p.1 p.2).map fun δ' => (.nx, δ')
theorem snds_st {m : Ks} {i : Nat} {x : Str} {p' : Pos} (hN : X.N.Nodup) (hi : X.N[i]? = some x) (hx : Loc X.env.scope x) (hs : swapsWith e (some (.Name x p')) pos.line X.env = pure false) (hf : X.fn x = true ∨ X.env.scope.names.lookup x = some .local) (he : Snd X e f) :
    SndS X (.Assign [.Name x p'] e pos) (dSt m i f) := by
  intro B G δ fl δ' σ H Dn h R k
  obtain ⟨⟨r, δ1⟩, e1, h⟩ := bnd h
  obtain ⟨δ2, e2, h⟩ := Option.map_eq_some_iff.mp h
  cases h
  refine tSt_of (ps_set hN hi hx (pe_tE X e) hs hf) ?_
  refine he B G δ r δ1 σ H _ e1 R fun G1 v H1 l1 R1 o1 => ?_
  obtain ⟨G2, l2, R2⟩ := R1.putR o1 e2
  exact k G2 _ H1 (l1.trans l2) R2
theorem snds_stLc {m : Ks} {i : Nat} {y : Str} {py : Pos} {scope : Scope} {own : List (Str × Nat)} {ifs : List Expr} (hc : X.calm = true) (hN : X.N.Nodup) (hy : X.N[i]? = some y) (hyl : X.env.scope.names.lookup y = some .local) (hsw : swapsWith (.ListComp elt [⟨tg, iter, ifs, 0⟩] scope pos) (some (.Name y py)) spos.line X.env = pure true)
    (ok : BlkOk X.N X.env.scope scope own) (hs : ∀ x, foldedSetIterable iter X.env x = pure x) (hi : SndI X tg iter fi) (hg : ∀ Y, Blk X scope Y → SndGw (own.map (·.2)) Y tg g) (ht : ∀ Y, Blk X scope Y → SndIf Y ifs ft) (he : ∀ Y, Blk X scope Y → Snd Y elt f) :
    SndS X (.Assign [.Name y py] (.ListComp elt [⟨tg, iter, ifs, 0⟩] scope pos) spos) (dSt m i (dLc fi g ft f (own.map (·.2)))) := by
  intro B G δ fl δ' σ H Dn h R k
  obtain ⟨⟨r, δ1⟩, e1, h⟩ := bnd h
  obtain ⟨δ2, e2, h⟩ := Option.map_eq_some_iff.mp h
  cases h
  refine tSt_of (ps_setLc hc hN hy hyl hsw (pi_tIt X tg iter) ok lc_pg lc_pt lc_pe hs) ?_
  refine lc_run (Q := fun x H1 => Dn.nx (σ.set i (some x)) H1) hi hg ht he e1 R fun G1 v H1 l1 R1 o1 => ?_
  obtain ⟨G2, l2, R2⟩ := R1.putR o1 e2
  exact k G2 _ H1 (l1.trans l2) R2

/-! ### x[e] as a target, x a name that holds a list -/
def gSb (i : Nat) (fi : DE) : DG := fun d δ => (lstAt δ i).bind fun _ => (fi δ).bind fun q => (q.1.pin.rd q.2).bind fun k => match k with
  | .int k => (lstAt q.2 i).bind fun es => (ixN es.length k).map fun j => putAt q.2 i (es.set j d)
  | _ => none
theorem sndg_sub {i : Nat} {x : Str} (hN : X.N[i]? = some x) (hv : Vis X.env.scope x) (hd : (x == ("__debug__" : Str)) = false) (hcd : (x == ("__classdict__" : Str)) = false) (hb : Snd X b fb)
    (ha : ∀ v, assign (.Subscript (.Name x p) b pos) X.env v = (do
      let ov ← holding [v] (eval (.Name x p) X.env)
      let iv ← holding [v, ov] (eval b X.env)
      standAt pos
      holding [v, ov, iv] (setItem ov iv v)
      release [v, ov, iv] [])) : SndG X (.Subscript (.Name x p) b pos) (gSb i fb) := by
  intro B G δ δ' d v σ H Q h R rv k
  obtain ⟨es0, e0, h⟩ := bnd h
  obtain ⟨⟨rb, δ1⟩, e1, h⟩ := bnd h
  obtain ⟨kx, e2, h⟩ := bnd h
  refine tTg_of (pg_sub (pe_var hN hv hd hcd) (pe_tE X b) set_list ha) ?_
  obtain ⟨q0, xs0, h1, _, _, _⟩ := R.lstAt e0
  refine ⟨.ref q0, h1, ?_⟩
  show tE X b σ H fun i' H2 => rSetL (.ref q0) i' v H2 fun H3 => Q σ H3
  refine hb B G δ rb δ1 σ H _ e1 R fun G1 vb H1 l1 R1 o1 => ?_
  obtain ⟨G1', l1', R1', o1'⟩ := R1.pin o1
  have cb := R1'.rd o1' e2
  split at h
  · rename_i kk
    obtain ⟨es, e3, h⟩ := bnd h
    obtain ⟨j, e4, h⟩ := Option.map_eq_some_iff.mp h
    subst h
    obtain ⟨q1, xs, g1, g2, g3, g4⟩ := R1'.lstAt e3
    rw [h1] at g1; cases g1
    exact ⟨q0, xs, kk, j, rfl, cb.int, g2, by rw [g3.length]; exact e4, k G1' _ _ (l1.trans l1') (g4 _ _ (Reps.set (Rep.mono (l1.trans l1').F (l1.trans l1').ρ _ _ rv) j g3))⟩
  · cases h
end

/-! ### enumerate of a tuple -/
section
open PySem.W
theorem enum_meets {v : Value} {ob : Obj} {P : Heap → Prop} (B : Begins v ob P) : Meets (Builtin.«enumerate.__new__» ⟨[.type "enumerate", v], []⟩) (fun _ R s => P s.heap ∧
    R (.ok (.ret (.ref (s.heap.push ob).objs.size))) { s with heap := (s.heap.push ob).push { cls := .type "enumerate", data := .fields #[.none, .bool false, .ref s.heap.objs.size, rawInt 0, .none, .none] } }) :=
  .of_wp fun prog w A R s hyp => by
    obtain ⟨hp, gn, dr, tk, os⟩ := s
    obtain ⟨hP, hR⟩ := hyp
    have subE := sub_enumerate
    have itr : ∀ {A' : Around} {E Q : Value → Shared → Prop}, Q (.ref hp.objs.size) ⟨hp.push ob, gn, dr, tk, os⟩ → wpAny (model prog w) A' (pyIter v) Q E ⟨hp, gn, dr, tk, os⟩ := fun q => B.iter prog w _ _ ⟨hp, gn, dr, tk, os⟩ _ hP q
    wp_walk using itr
    refine wpAny_stack_any fun st => wpAny_pure ?_
    split
    · rename_i cc _ _ _ _ _
      cases (cc == Value.type "enumerate") <;> (wp_walk using itr; exact ⟨_, rfl, hR⟩)
    · wp_walk using itr; exact ⟨_, rfl, hR⟩
theorem call_enumT {prog : Program} {w : World} {A : Around} {E Q : Value → Shared → Prop} {s : Shared} {a : Addr} {its : Array Value} (ht : s.heap.IsTuple a its)
    (h : ∀ h', IsEnum h' (s.heap.objs.size + 1) s.heap.objs.size 0 .none → h'.IsTupleIter s.heap.objs.size a 0 → (∀ x u, s.heap.get? x = some u → h'.get? x = some u) → Q (.ref (s.heap.objs.size + 1)) { s with heap := h' }) :
    wpAny (model prog w) A (call (.type "enumerate") [.ref a]) Q E s := by
  have Bg := begins_tuple a its
  refine callType_new F.called_enumerate (by decide) (F.typeCall_enumerate_1 _) (F.newCall_enumerate_1 _) (fun x => F.args_object_init_2 x _) F.entry_enumerate_new (enum_meets Bg) ⟨ht, ?_⟩
  generalize hob : ({ cls := .type "tuple_iterator", data := .fields #[.ref a, .int 0 0] } : Obj) = ob
  have hfree : ob.isFreed = false := by rw [← hob]; rfl
  have sz : (s.heap.push ob).objs.size = s.heap.objs.size + 1 := Heap.size_push ..
  show _ ∧ _
  rw [sz]
  have ie : IsEnum ((s.heap.push ob).push { cls := .type "enumerate", data := .fields #[.none, .bool false, .ref s.heap.objs.size, rawInt 0, .none, .none] }) (s.heap.objs.size + 1) s.heap.objs.size 0 .none := by
    have z := Heap.get?_push_size (s.heap.push ob) (o := { cls := .type "enumerate", data := .fields #[.none, .bool false, .ref s.heap.objs.size, rawInt 0, .none, .none] }) rfl
    rw [sz] at z; exact z
  exact ⟨⟨_, ie, rfl⟩, h _ ie ⟨ob, Heap.get?_push_of_some _ (Heap.get?_push_size _ hfree), by rw [← hob], by rw [← hob]; rfl⟩ fun x u z => Heap.get?_push_of_some _ (Heap.get?_push_of_some _ z)⟩
end
/-- the tuple at a, each item in a new pair -/
def IteT (K : PySem.W.Frag) (a : Addr) : It where
  go i H := ∃ (xs : List V) (x : V), SqT K H a xs ∧ xs[i]? = some x
  yld i H v H' := ∃ T x, v = .ref T ∧ H T = none ∧ H' = upd H T (.tup [.int (i : Nat), x]) ∧ ∀ xs, SqT K H a xs → xs[i]? = some x
  stop i H := ∃ xs : List V, SqT K H a xs ∧ i = xs.length
theorem turn_enumT {P : Program} {w : World} {K : PySem.W.Frag} {elts : List Expr} {kk : Nat} {tpos : Pos} (a e it : Addr) (hae : a ≠ e) (hai : a ≠ it) :
    Turn P w K (.Tuple elts kk tpos) (IteT K a) [e, it] e (fun i h => (∃ old, IsEnum h e it ((i : Nat) : Int) old) ∧ h.IsTupleIter it a i ∧ e ≠ it) where
  mem := List.mem_cons_self
  obj := fun i h ⟨⟨old, he⟩, ⟨u, hu, hc, hd⟩, _⟩ b hb => by
    rcases List.mem_cons.mp hb with z | z
    · rw [z]; exact ⟨_, he, fun v q => nomatch q⟩
    · rw [List.mem_singleton.mp z]; exact ⟨u, hu, fun v q => by rw [hd] at q; cases q⟩
  keep := fun i h h' ⟨⟨old, he⟩, hi, hne⟩ k => ⟨⟨old, k e List.mem_cons_self _ he⟩, hi.at fun u q => k it (by simp) u q, hne⟩
  item := by
    intro X hP hw hK hc i pins s σ H E I hf st hg
    subst hP hw hK
    obtain ⟨⟨old, he⟩, hit, hne⟩ := st
    obtain ⟨xs, x, hq, hx⟩ := hg
    obtain ⟨its, rv, p, hz⟩ := I.tuple hq
    obtain ⟨u, hu, ru⟩ := rv.get hx
    have p' : s.heap.IsTuple a its.toArray := p
    have hil : it < s.heap.objs.size := hit.elim fun _ q => Heap.lt_size q.1
    have hel : e < s.heap.objs.size := Heap.lt_size he
    have hlt : i < its.toArray.size := by
      have := (List.getElem?_eq_some_iff.mp hu).1
      simpa using this
    have dr : Draws X.prog X.w X.A.in1 it [it, a] its.toArray.size (fun i v => its.toArray[i]? = some v) (fun i h => h.IsTupleIter it a i ∧ h.IsTuple a its.toArray) := Draws.tuple (A := X.A.in1) (I.ok.hd hc) it a hai its.toArray
    refine wpAny_pyNext_enum_itemD dr he ⟨hit, p'⟩ hlt hne (by simp [hne, Ne.symm hae]) fun y h' tk hy ho hst hT hsz hk => ?_
    have ey : y = u := by
      have hy : its.toArray[i]? = some y := hy
      rw [List.getElem?_toArray, hu] at hy
      exact (Option.some.inj hy).symm
    subst ey
    refine ⟨_, rfl, wpAny_letOwnedTupleGo_enum (s := { s with heap := h', toks := tk + 1 }) ho fun h'' he' sb => ?_⟩
    have hNe : s.heap.objs.size ≠ e := Nat.ne_of_gt hel
    have hT2 := (sb.2 s.heap.objs.size hNe).trans hT
    have new : ObjOk X.prog X.w (upd H s.heap.objs.size (.tup [.int (i : Nat), x])) h'' s.heap.objs.size (.tup [.int (i : Nat), x]) := ⟨(by decide : 2 ≤ sizeLine), [.int i tk, y], .cons ⟨tk, rfl⟩ (.cons ru .nil), _, hT2, rfl, _, rfl⟩
    have I1 : Inv X pins σ (upd H s.heap.objs.size (.tup [.int (i : Nat), x])) { s with heap := h'', toks := tk + 1 } :=
      I.turnedNew (ch := [e, it]) (fun b u hb q => by
        have nb : b ≠ e ∧ b ≠ it := by simpa using hb
        exact (sb.2 b nb.1).trans (hk b u nb.1 nb.2 q)) hf (Nat.le_refl _) new
    refine ⟨.ref s.heap.objs.size, _, I1, rfl, ⟨_, x, rfl, I.hok.fresh (Nat.le_refl _), rfl, fun ys hy => by rw [I.tuple_inj hy hq]; exact hx⟩, ⟨⟨y, ?_⟩, hst.1.at fun u q => (sb.2 it (Ne.symm hne)).trans q, hne⟩, fun b hb => ?_⟩
    · rw [show ((i + 1 : Nat) : Int) = (i : Int) + 1 from by omega]
      exact he'
    · have lb : b < s.heap.objs.size := by
        rcases List.mem_cons.mp hb with z | z
        · rw [z]; exact hel
        · rw [List.mem_singleton.mp z]; exact hil
      rw [upd_ne (Nat.ne_of_lt lb)]
      exact (hf b hb).1
  done := by
    intro X hP hw hK hc i pins s σ H E I hf st hg
    subst hP hw hK
    obtain ⟨⟨old, he⟩, hit, hne⟩ := st
    obtain ⟨xs, hq, hx⟩ := hg
    obtain ⟨its, rv, p, hz⟩ := I.tuple hq
    have p' : s.heap.IsTuple a its.toArray := p
    obtain ⟨f0, f1, f2, f3, f4, f5⟩ := hf it (by simp)
    have dr : Draws X.prog X.w X.A.in1 it [it, a] its.toArray.size (fun i v => its.toArray[i]? = some v) (fun i h => h.IsTupleIter it a i ∧ h.IsTuple a its.toArray) := Draws.tuple (A := X.A.in1) (I.ok.hd hc) it a hai its.toArray
    refine wpAny_pyNext_enum_endD dr he ?_ fun h' eb => ⟨rfl, I.turned (t' := s.toks) (fun b o hb q => eb b o hb q) f0 f1 f3 f4 f5⟩
    have e2 : its.toArray.size = i := by rw [List.size_toArray, ← rv.length, hx]
    rw [e2]
    exact ⟨hit, p'⟩
  self := fun A i s Q E ⟨⟨_, he⟩, _⟩ h => wpAny_pyIter_enum he h
section
variable {X : Cx} {a b c e o tg iter elt : Expr} {es : List Expr} {fa fb fo f : DE} {ft : DT} {fi : DI} {g : DG} {fas : DA} {fs : DS} {pos p p1 p2 apos cpos spos : Pos}
theorem one_run (ha : SndA X [e] fas) {B : Bs} {G : Gh} {δ δ' : DSt} {rs : List RV} {d : D} {σ : L2.St} {H : Hp} {Q : List V → Hp → Prop} (q : fas δ = some (rs, δ')) (q2 : keepAll δ' (rs.map RV.pin) = some [d]) (R : Rl X.mg X.K B G δ σ H)
    (k : ∀ (G' : Gh) (v : V) (H' : Hp), G.le G' → Rl X.mg X.K B G' δ' σ H' → Rep X.mg X.K G'.F G'.ρ v d → Q [v] H') : tA X [e] σ H Q := by
  refine ha B G δ rs δ' σ H _ q R fun G1 vs H1 l1 R1 o1 => ?_
  cases o1 with
  | nil => cases q2
  | cons o oo =>
    rename_i r rs v vs
    cases oo with
    | nil =>
      obtain ⟨d', e1, e2⟩ := bnd q2
      cases e2
      rw [pin_pin] at e1
      exact k G1 v H1 l1 R1 (R1.keepPin o e1)
    | cons =>
      exfalso
      obtain ⟨d', e1, e2⟩ := bnd q2
      obtain ⟨ds, e3, e4⟩ := Option.map_eq_some_iff.mp e2
      obtain ⟨d2, e5, e6⟩ := bnd e3
      obtain ⟨_, _, e7⟩ := Option.map_eq_some_iff.mp e6
      subst e7
      cases e4
/-! ### enumerate -/
def enumD : Nat → List D → List D
  | _, [] => []
  | i, d :: ds => .tup [.int (i : Nat), d] :: enumD (i + 1) ds
theorem enumD_len (ds : List D) : ∀ i, (enumD i ds).length = ds.length := by
  induction ds with
  | nil => intro i; rfl
  | cons d ds ih => intro i; simp [enumD, ih]
theorem enumD_get {ds : List D} : ∀ {k i : Nat} {x : D}, (enumD k ds)[i]? = some x → ∃ d, ds[i]? = some d ∧ x = .tup [.int ((k + i : Nat) : Int), d] := by
  induction ds with
  | nil => intro k i x h; simp [enumD] at h
  | cons d ds ih =>
    intro k i x h
    cases i with
    | zero => simp [enumD] at h; exact ⟨d, rfl, by rw [← h]; simp⟩
    | succ i =>
      have h : (enumD (k + 1) ds)[i]? = some x := by simpa [enumD] using h
      obtain ⟨y, h1, h2⟩ := ih h
      exact ⟨y, by simpa using h1, by rw [h2, show k + (i + 1) = k + 1 + i from by omega]⟩
theorem ite_ok {mg : Str → Option Value} {K : PySem.W.Frag} {G : Gh} {a : Addr} {xs : List V} {ds : List D} (hs : SqL K G.F a xs) (hr : Reps mg K G.F G.ρ xs ds) : ItOk mg K G (Ite K a) (enumD 0 ds) where
  go := fun i H s hi => by
    rw [enumD_len] at hi
    exact ⟨xs, xs[i]'(by rw [hr.length]; exact hi), s.seq hs, by simp [hr.length, hi]⟩
  stop := fun i H s hi => by
    rw [enumD_len] at hi
    exact ⟨xs, s.seq hs, by rw [hr.length]; exact Nat.le_of_eq hi.symm⟩
  yld := by
    intro B G' δ σ i H x H' d l R hd hy
    obtain ⟨T, y, rfl, hT, rfl, hy⟩ := hy
    obtain ⟨d', h1, rfl⟩ := enumD_get hd
    obtain ⟨v, hv, rv⟩ := hr.get h1
    have e := hy xs ((l.F.trans R.sub).seq hs)
    rw [hv] at e; cases e
    have rp : Reps mg K G'.F G'.ρ [.int (i : Nat), y] [.int ((0 + i : Nat) : Int), d'] := .cons (by rw [Nat.zero_add]; exact .int _) (.cons (Rep.mono l.F l.ρ _ _ rv) .nil)
    exact R.push_tup hT rp
theorem iteT_ok {mg : Str → Option Value} {K : PySem.W.Frag} {G : Gh} {a : Addr} {xs : List V} {ds : List D} (hs : SqT K G.F a xs) (hr : Reps mg K G.F G.ρ xs ds) : ItOk mg K G (IteT K a) (enumD 0 ds) where
  go := fun i H s hi => by
    rw [enumD_len] at hi
    exact ⟨xs, xs[i]'(by rw [hr.length]; exact hi), sqT_same s hs, by simp [hr.length, hi]⟩
  stop := fun i H s hi => by
    rw [enumD_len] at hi
    exact ⟨xs, sqT_same s hs, by rw [hr.length]; exact hi⟩
  yld := by
    intro B G' δ σ i H x H' d l R hd hy
    obtain ⟨T, y, rfl, hT, rfl, hy⟩ := hy
    obtain ⟨d', h1, rfl⟩ := enumD_get hd
    obtain ⟨v, hv, rv⟩ := hr.get h1
    have e := hy xs (sqT_same (l.F.trans R.sub) hs)
    rw [hv] at e; cases e
    have rp : Reps mg K G'.F G'.ρ [.int (i : Nat), y] [.int ((0 + i : Nat) : Int), d'] := .cons (by rw [Nat.zero_add]; exact .int _) (.cons (Rep.mono l.F l.ρ _ _ rv) .nil)
    exact R.push_tup hT rp
def iEn (fas : DA) : DI := fun δ => (fas δ).bind fun p => (keepAll p.2 (p.1.map RV.pin)).bind fun ds => match ds with
  | [.lst xs] => some (enumD 0 xs, p.2)
  | [.klst xs] => some (enumD 0 xs, p.2)
  | [.tup xs] => some (enumD 0 xs, p.2)
  | _ => none
def iEnumQ (K : PySem.W.Frag) (ta : TA) : TI := fun σ H R => ta σ H fun vs H1 => ∃ a xs, vs = [.ref a] ∧ ((SqL K H1 a xs ∧ R (Ite K a) H1) ∨ (SqT K H1 a xs ∧ R (IteT K a) H1))
theorem pi_enumQ {elts : List Expr} {kk : Nat} {tpos : Pos} {ta : TA} (hg : Gl X "enumerate") (hm : X.mg "enumerate" = none) (ha : PA X [e] ta) (hs : starEach [e] X.env = [(false, eval e X.env)]) : PI X (.Tuple elts kk tpos) (.Call (.Name "enumerate" p) [e] [] pos) (iEnumQ X.K ta) := by
  refine ⟨fun pins s σ H R I h => ?_⟩
  refine Call_ (ld_blt I hg hm boot_enumerate (PyProof.Rows.callWith_type1 (thn (ha.run pos pins s σ H _ I h) fun us s1 ⟨vs, H1, I1, r1, q1⟩ => ?_) hs rfl))
  obtain ⟨a, xs, ex, q⟩ := q1
  subst ex
  obtain ⟨u, rfl, ru⟩ := vals1 r1
  obtain rfl : u = Value.ref a := ru
  have near : ∀ b, b ∈ [s1.heap.objs.size + 1, s1.heap.objs.size] → FpOk X pins H1 b := fun b hb => by
    have z : s1.heap.objs.size ≤ b := by
      rcases List.mem_cons.mp hb with z | z
      · omega
      · rw [List.mem_singleton.mp z]; exact Nat.le_refl _
    exact I1.fpOk z (I1.hok.fresh z)
  rcases q with ⟨hq, q⟩ | ⟨hq, q⟩
  · obtain ⟨its, rv, pl, hz⟩ := I1.list hq
    refine call_enumerate_list pl.isList fun h' he hit hsz hk => wpAny_pyIter_enum he ?_
    exact ⟨s1.heap.objs.size + 1, _, _, _, H1, rfl, I1.kept (t' := s1.toks) hk, turn_enum a (s1.heap.objs.size + 1) s1.heap.objs.size, ⟨⟨.none, he⟩, hit, Nat.succ_ne_self _⟩, near, q⟩
  · obtain ⟨its, rv, pt, hz⟩ := I1.tuple hq
    have pt' : s1.heap.IsTuple a its.toArray := pt
    have la : a < s1.heap.objs.size := pt'.elim fun _ z => Heap.lt_size z.1
    refine call_enumT pt' fun h' he hit hk => wpAny_pyIter_enum he ?_
    exact ⟨s1.heap.objs.size + 1, _, _, _, H1, rfl, I1.kept (t' := s1.toks) hk, turn_enumT a (s1.heap.objs.size + 1) s1.heap.objs.size (Nat.ne_of_lt (Nat.lt_succ_of_lt la)) (Nat.ne_of_lt la), ⟨⟨.none, he⟩, hit, Nat.succ_ne_self _⟩, near, q⟩
theorem sndi_en {elts : List Expr} {kk : Nat} {tpos : Pos} (hg : Gl X "enumerate") (hm : X.mg "enumerate" = none) (hs : starEach [e] X.env = [(false, eval e X.env)]) (ha : SndA X [e] fas) : SndI X (.Tuple elts kk tpos) (.Call (.Name "enumerate" p) [e] [] pos) (iEn fas) := by
  intro B G δ items δ' σ H Rr h R k
  obtain ⟨⟨rs, δ1⟩, e1, h⟩ := bnd h
  obtain ⟨ds, e2, h⟩ := bnd h
  refine tIt_of (pi_enumQ hg hm (pa_tA X [e]) hs) ?_
  split at h
  · cases h
    refine one_run ha e1 e2 R fun G1 v H1 l1 R1 rv => ?_
    cases rv with
    | lst h1 h2 => exact ⟨_, _, rfl, .inl ⟨.of (R1.sub _ _ h1), k G1 _ H1 l1 R1 (ite_ok (.of h1) h2)⟩⟩
  · cases h
    refine one_run ha e1 e2 R fun G1 v H1 l1 R1 rv => ?_
    cases rv with
    | klst h1 h2 => exact ⟨_, _, rfl, .inl ⟨R1.sub.seq h1, k G1 _ H1 l1 R1 (ite_ok h1 h2)⟩⟩
  · cases h
    refine one_run ha e1 e2 R fun G1 v H1 l1 R1 rv => ?_
    cases rv with
    | tup h1 h2 => exact ⟨_, _, rfl, .inr ⟨sqT_same R1.sub h1, k G1 _ H1 l1 R1 (iteT_ok h1 h2)⟩⟩
  · cases h

/-! ### loops over a cell -/
def cellL (k : Nat) (δ : DSt) : Option (List D) := match δ.ce[k]? with
  | some (.lst es) => some es
  | _ => none
structure ItC (mg : Str → Option Value) (K : PySem.W.Frag) (G0 : Gh) (J : It) (k : Nat) (mk : Nat → D → D) : Prop where
  go : ∀ (B : Bs) (G : Gh) (δ : DSt) (σ : L2.St) (i : Nat) (H : Hp) (es : List D), G0.le G → Rl mg K B G δ σ H → cellL k δ = some es → i < es.length → J.go i H
  stop : ∀ (B : Bs) (G : Gh) (δ : DSt) (σ : L2.St) (i : Nat) (H : Hp) (es : List D), G0.le G → Rl mg K B G δ σ H → cellL k δ = some es → es.length ≤ i → J.stop i H
  yld : ∀ (B : Bs) (G : Gh) (δ : DSt) (σ : L2.St) (i : Nat) (H : Hp) (es : List D) (x : V) (H' : Hp) (d : D), G0.le G → Rl mg K B G δ σ H → cellL k δ = some es → es[i]? = some d → J.yld i H x H' → ∃ G', G.le G' ∧ Rl mg K B G' δ σ H' ∧ Rep mg K G'.F G'.ρ x (mk i d)
def SndC (X : Cx) (tg iter : Expr) (mk : Nat → D → D) (f : DSt → Option (Nat × DSt)) : Prop := ∀ (B : Bs) (G : Gh) (δ : DSt) (k : Nat) (δ' : DSt) (σ : L2.St) (H : Hp) (R : It → Hp → Prop), f δ = some (k, δ') → Rl X.mg X.K B G δ σ H →
  (∀ (G' : Gh) (J : It) (H' : Hp), G.le G' → Rl X.mg X.K B G' δ' σ H' → ItC X.mg X.K G' J k mk → R J H') → tIt X tg iter σ H R
def forC (k : Nat) (mk : Nat → D → D) (g : DG) (body : DS) : Nat → Nat → DS
  | 0, _, _ => none
  | n + 1, i, δ => (cellL k δ).bind fun es => match es[i]? with
    | none => some (.nx, δ)
    | some d => (g (mk i d) δ).bind fun δ1 => (body δ1).bind fun q => match q.1 with
      | .nx => forC k mk g body n (i + 1) q.2
      | .ct => forC k mk g body n (i + 1) q.2
      | .bk => some (.nx, q.2)
      | .rt r => some (.rt r, q.2)
def dForC (mk : Nat → D → D) (fi : DSt → Option (Nat × DSt)) (g : DG) (body : DS) (n : Nat) : DS := fun δ => (fi δ).bind fun p => forC p.1 mk g body n 0 p.2
theorem snds_forC {body : List Stmt} {mk : Nat → D → D} {fi : DSt → Option (Nat × DSt)} {n : Nat} (hp : PassesOwn (model X.prog X.w) X.A X.env X.xe) (hc : X.calm = true) (hs : ∀ x, foldedSetIterable iter X.env x = pure x) (hi : SndC X tg iter mk fi) (hg : SndG X tg g) (hb : SndB X body fs) :
    SndS X (.For tg iter body [] pos) (dForC mk fi g fs n) := by
  intro B G δ fl δ' σ H Dn h R k
  obtain ⟨⟨kc, δ1⟩, e1, h⟩ := bnd h
  refine tSt_of (ps_for hp hc (pi_tIt X tg iter) (pg_tTg X tg) (pss_tBk X body) hs) ?_
  refine hi B G δ kc δ1 σ H _ e1 R fun G1 J H1 l1 R1 io => ?_
  refine ⟨fun i m σ H => ∃ G2 δ2, G1.le G2 ∧ Rl X.mg X.K B G2 δ2 σ H ∧ forC kc mk g fs m i δ2 = some (fl, δ'), ⟨n, G1, δ1, .refl G1, R1, h⟩, ?_⟩
  rintro i m σ2 H2 ⟨G2, δ2, l2, R2, h2⟩
  cases m with
  | zero => cases h2
  | succ m =>
    obtain ⟨es, e0, h2⟩ := bnd h2
    cases ei : es[i]? with
    | none =>
      rw [ei] at h2
      cases h2
      exact .inl ⟨io.stop B G2 _ σ2 i H2 es l2 R2 e0 (List.getElem?_eq_none_iff.mp ei), k G2 σ2 H2 (l1.trans l2) R2⟩
    | some d =>
      rw [ei] at h2
      refine .inr ⟨io.go B G2 δ2 σ2 i H2 es l2 R2 e0 (List.getElem?_eq_some_iff.mp ei).1, fun σ H => ∃ G2 δ2, G1.le G2 ∧ Rl X.mg X.K B G2 δ2 σ H ∧ forC kc mk g fs m (i + 1) δ2 = some (fl, δ'), fun σ' H' q => ⟨m, Nat.lt_succ_self m, q⟩, fun x H' hy => ?_⟩
      obtain ⟨G3, l3, R3, rx⟩ := io.yld B G2 δ2 σ2 i H2 es x H' d l2 R2 e0 ei hy
      obtain ⟨δ3, e3, h2⟩ := bnd h2
      obtain ⟨⟨fl4, δ4⟩, e4, h2⟩ := bnd h2
      refine hg B G3 δ2 δ3 _ x σ2 H' _ e3 R3 rx fun G4 σ4 H4 l4 R4 => ?_
      refine hb B G4 δ3 fl4 δ4 σ4 H4 _ e4 R4 ?_
      have ll := (l2.trans l3).trans l4
      cases fl4 with
      | nx => exact fun G' σ' H' l R' => ⟨G', δ4, ll.trans l, R', h2⟩
      | ct => exact fun G' σ' H' l R' => ⟨G', δ4, ll.trans l, R', h2⟩
      | bk =>
        have h2 : some (Fl.nx, δ4) = some (fl, δ') := h2
        cases h2
        exact fun G' σ' H' l R' => k G' σ' H' ((l1.trans ll).trans l) R'
      | rt r =>
        have h2 : some (Fl.rt r, δ4) = some (fl, δ') := h2
        cases h2
        exact fun G' v σ' H' l R' o => k G' v σ' H' ((l1.trans ll).trans l) R' o
theorem cellL_get {mg : Str → Option Value} {K : PySem.W.Frag} {B : Bs} {G : Gh} {δ : DSt} {σ : L2.St} {H : Hp} {k : Nat} {es : List D} {a : Addr} (R : Rl mg K B G δ σ H) (q : cellL k δ = some es) (ha : G.ρ[k]? = some a) : ∃ xs, H a = some (.lst xs) ∧ Reps mg K G.F G.ρ xs es := by
  unfold cellL at q
  split at q
  · rename_i es' e
    cases q
    obtain ⟨p, g1, xs, g2, g3⟩ := R.ce k _ e
    rw [ha] at g1; cases g1
    exact ⟨xs, g2, g3⟩
  · cases q
theorem le_rho {G G' : Gh} {k : Nat} {a : Addr} (l : G.le G') (h : G.ρ[k]? = some a) : G'.ρ[k]? = some a := by
  obtain ⟨t, e⟩ := l.ρ
  rw [e, List.getElem?_append_left (List.getElem?_eq_some_iff.mp h).1]; exact h
theorem itc_l {mg : Str → Option Value} {K : PySem.W.Frag} {G : Gh} {a : Addr} {k : Nat} (ha : G.ρ[k]? = some a) : ItC mg K G (Itl K a) k fun _ d => d where
  go := fun B G' δ σ i H es l R q hi => by
    obtain ⟨xs, h1, h2⟩ := cellL_get R q (le_rho l ha)
    exact ⟨xs, xs[i]'(by rw [h2.length]; exact hi), .of h1, by simp [h2.length, hi]⟩
  stop := fun B G' δ σ i H es l R q hi => by
    obtain ⟨xs, h1, h2⟩ := cellL_get R q (le_rho l ha)
    exact ⟨xs, .of h1, by rw [h2.length]; exact hi⟩
  yld := by
    intro B G' δ σ i H es x H' d l R q hd hy
    obtain ⟨xs, h1, h2⟩ := cellL_get R q (le_rho l ha)
    obtain ⟨e, hy⟩ := hy
    subst e
    obtain ⟨v, hv, rv⟩ := h2.get hd
    have := hy xs (.of h1)
    rw [hv] at this; cases this
    exact ⟨G', .refl G', R, rv⟩
def mkE (i : Nat) (d : D) : D := .tup [.int (i : Nat), d]
theorem itc_e {mg : Str → Option Value} {K : PySem.W.Frag} {G : Gh} {a : Addr} {k : Nat} (ha : G.ρ[k]? = some a) : ItC mg K G (Ite K a) k mkE where
  go := fun B G' δ σ i H es l R q hi => by
    obtain ⟨xs, h1, h2⟩ := cellL_get R q (le_rho l ha)
    exact ⟨xs, xs[i]'(by rw [h2.length]; exact hi), .of h1, by simp [h2.length, hi]⟩
  stop := fun B G' δ σ i H es l R q hi => by
    obtain ⟨xs, h1, h2⟩ := cellL_get R q (le_rho l ha)
    exact ⟨xs, .of h1, by rw [h2.length]; exact hi⟩
  yld := by
    intro B G' δ σ i H es x H' d l R q hd hy
    obtain ⟨xs, h1, h2⟩ := cellL_get R q (le_rho l ha)
    obtain ⟨T, y, rfl, hT, rfl, hy⟩ := hy
    obtain ⟨v, hv, rv⟩ := h2.get hd
    have e := hy xs (.of h1)
    rw [hv] at e; cases e
    exact R.push_tup (ds := [.int (i : Nat), d]) hT (.cons (.int _) (.cons rv .nil))
def cOf (f : DE) : DSt → Option (Nat × DSt) := fun δ => (f δ).bind fun p => (p.1.pin.keep p.2).bind fun d => match d with
  | .cell k => (cellL k p.2).map fun _ => (k, p.2)
  | _ => none
theorem sndc_en {elts : List Expr} {kk : Nat} {tpos : Pos} (hg : Gl X "enumerate") (hm : X.mg "enumerate" = none) (hs : starEach [e] X.env = [(false, eval e X.env)]) (hs2 : starEach [e] X.env = (false, eval e X.env) :: starEach [] X.env) (he : Snd X e f) : SndC X (.Tuple elts kk tpos) (.Call (.Name "enumerate" p) [e] [] pos) mkE (cOf f) := by
  intro B G δ k δ' σ H Rr h R kk'
  obtain ⟨⟨r, δ1⟩, e1, h⟩ := bnd h
  obtain ⟨d, e2, h⟩ := bnd h
  split at h
  · obtain ⟨es, e3, h⟩ := Option.map_eq_some_iff.mp h
    cases h
    refine tIt_of (pi_enumQ hg hm (pa_cons (pe_tE X e) pa_nil hs2) hs) ?_
    refine he B G δ r δ1 σ H _ e1 R fun G1 v H1 l1 R1 o1 => ?_
    obtain ⟨G1', l1', R1', o1'⟩ := R1.pin o1
    have rv := R1'.keepPin o1' e2
    cases rv with
    | cell h3 =>
      obtain ⟨xs, h1, h2⟩ := cellL_get R1' e3 h3
      exact ⟨_, xs, rfl, .inl ⟨.of h1, kk' G1' _ H1 (l1.trans l1') R1' (itc_e h3)⟩⟩
  · cases h
theorem sndc_l (he : Snd X iter f) : SndC X tg iter (fun _ d => d) (cOf f) := by
  intro B G δ k δ' σ H Rr h R kk'
  obtain ⟨⟨r, δ1⟩, e1, h⟩ := bnd h
  obtain ⟨d, e2, h⟩ := bnd h
  split at h
  · obtain ⟨es, e3, h⟩ := Option.map_eq_some_iff.mp h
    cases h
    refine tIt_of (pi_list (pe_tE X iter)) ?_
    refine he B G δ r δ1 σ H _ e1 R fun G1 v H1 l1 R1 o1 => ?_
    obtain ⟨G1', l1', R1', o1'⟩ := R1.pin o1
    have rv := R1'.keepPin o1' e2
    cases rv with
    | cell h3 =>
      obtain ⟨xs, h1, h2⟩ := cellL_get R1' e3 h3
      exact ⟨_, rfl, ⟨xs, .of h1⟩, kk' G1' _ H1 (l1.trans l1') R1' (itc_l h3)⟩
  · cases h
end
end EV
set_option Elab.async false
set_option linter.all false
set_option maxRecDepth 100000
set_option maxHeartbeats 1000000
/-! EV 12: len(set(..)), list(range(..)), methods that only read, f-strings -/
namespace EV
open PySem L2 PySem.Spec PyProof.Rows

section
variable {X : Cx} {a b c e o tg iter elt : Expr} {es : List Expr} {fa fb fo f : DE} {ft : DT} {fi : DI} {g : DG} {fas : DA} {fs : DS} {pos p p1 p2 q0 apos cpos spos : Pos}
def intsOf : List D → Option (List Int)
  | [] => some []
  | .int i :: r => (intsOf r).map (i :: ·)
  | _ => none
theorem intsOf_v {mg : Str → Option Value} {K : PySem.W.Frag} {F : Hp} {ρ : List Addr} : ∀ {ds : List D} {vs : List V} {ns : List Int}, Reps mg K F ρ vs ds → intsOf ds = some ns → vs = ns.map V.int
  | [], _, _, h, e => by cases h; cases e; rfl
  | d :: ds, _, _, h, e => by
    cases h with
    | cons h1 h2 =>
      cases d with
      | int b =>
        obtain ⟨bs, e1, e2⟩ := Option.map_eq_some_iff.mp e
        subst e2
        cases h1
        rw [intsOf_v h2 e1]; rfl
      | _ => cases e
/-! ### len(set(xs)) of distinct ints -/
def tLs (K : PySem.W.Frag) (ta : TE) : TE := fun σ H Q => ta σ H fun x H1 => ∃ (l : Addr) (ns : List Int), x = .ref l ∧ SqT K H1 l (ns.map V.int) ∧ ns.Nodup ∧ ns.length ≤ 4000 ∧ Q (.int (ns.length : Nat)) H1
theorem pe_lenSetT (hg : Gl X "len") (hm : X.mg "len" = none) (hg2 : Gl X "set") (hm2 : X.mg "set" = none) {ta : TE} (ha : PE X a ta) (hc : X.calm = true) (na : starEach [a] X.env = (false, eval a X.env) :: starEach [] X.env) : PE X (.Call (.Name "len" p) [.Call (.Name "set" p2) [a] [] q0] [] pos) (tLs X.K ta) := by
  refine ⟨fun pins s σ H Q I h => ?_⟩
  refine Call_ (ld_blt I hg hm PySem.boot_len (PyProof.Rows.callWith_builtin1 (PyProof.Rows.args_cons ?_ rfl) rfl rfl))
  refine Call_ (ld_blt I hg2 hm2 PyProof.Rows.boot_set (PyProof.Rows.callWith_type1 (PyProof.Rows.args_cons (thn (ha.run pins s σ H _ I h) fun v s1 ⟨x, H1, I1, r1, q1⟩ => PyProof.Rows.args_nil ?_) na) na rfl))
  obtain ⟨l, ns, rfl, hq, hnd, hl, q1⟩ := q1
  obtain rfl : v = Value.ref l := r1
  obtain ⟨its, r, pt, hz⟩ := I1.tuple hq
  have hi : IntsAre its.toArray.toList ns := by simpa using ints_of_vals r
  refine call_set_tupI ns (I1.ok.hd hc) (show s1.heap.IsTuple l its.toArray from pt) hi (by unfold scanBound; omega) fun h' tk cn R1 hcn kp => PyProof.Rows.args_nil ?_
  obtain ⟨ob, es, ep, t, ho, hex, hdt, _, nd, mem, _, hf, hn, _⟩ := R1
  have len : es.size = ns.length := by
    have pm : (es.toList.map keyOf).Perm ns := (List.perm_ext_iff_of_nodup nd hnd).mpr fun k => by rw [← mem k]; simp
    have := pm.length_eq
    simpa using this
  have I2 : Inv X pins σ H1 { s1 with heap := h', toks := tk } := I1.kept kp
  exact call_len_set ho hex hdt hf (by rw [len]; omega) ⟨.int ns.length, H1, I2.tok _, ⟨_, by rw [len]⟩, q1⟩
def dLs (f : DE) : DE := fun δ => (f δ).bind fun p => (p.1.pin.rd p.2).bind fun x => (itemsOf x).bind fun ds => (intsOf ds).bind fun ns => if ns.Nodup ∧ ns.length ≤ 4000 then some (.val (.int ns.length), p.2) else none
theorem snd_lenSet (hg : Gl X "len") (hm : X.mg "len" = none) (hg2 : Gl X "set") (hm2 : X.mg "set" = none) (hc : X.calm = true) (na : starEach [a] X.env = (false, eval a X.env) :: starEach [] X.env) (ha : Snd X a fa) : Snd X (.Call (.Name "len" p) [.Call (.Name "set" p2) [a] [] q0] [] pos) (dLs fa) := by
  intro B G δ r δ' σ H Q q R k
  obtain ⟨⟨ra, δ1⟩, e1, q⟩ := bnd q
  obtain ⟨x, e2, q⟩ := bnd q
  obtain ⟨ds, e3, q⟩ := bnd q
  obtain ⟨ns, e4, q⟩ := bnd q
  split at q
  · rename_i hn
    cases q
    have common : ∀ {P : V → Hp → Prop}, (∀ G' v H', G.le G' → Rl X.mg X.K B G' δ1 σ H' → CRep X.mg X.K G'.F G'.ρ H' v x → P v H') → tE X a σ H P := fun {P} hP => ha B G δ ra δ1 σ H _ e1 R fun G1 v H1 l1 R1 o1 => by
      obtain ⟨G1', l1', R1', o1'⟩ := R1.pin o1
      exact hP G1' v H1 (l1.trans l1') R1' (R1'.rd o1' e2)
    cases x with
    | tup xs =>
      cases e3
      refine tE_of (pe_lenSetT hg hm hg2 hm2 (pe_tE X a) hc na) (common fun G' v H' l R' cr => ?_)
      obtain ⟨l0, vs, rfl, h1, h2⟩ := cr.tup R'.sub
      rw [intsOf_v h2 e4] at h1
      exact ⟨l0, ns, rfl, h1, hn.1, hn.2, k G' _ H' l R' (.int _)⟩
    | lst xs =>
      cases e3
      refine tE_of (RZ.pe_lenSetI hg hm hg2 hm2 (pe_tE X a) hc na) (common fun G' v H' l R' cr => ?_)
      obtain ⟨l0, vs, rfl, h1, h2⟩ := cr.lst R'.sub
      rw [intsOf_v h2 e4] at h1
      exact ⟨l0, ns, rfl, .of h1, hn.1, hn.2, k G' _ H' l R' (.int _)⟩
    | klst xs =>
      cases e3
      refine tE_of (RZ.pe_lenSetI hg hm hg2 hm2 (pe_tE X a) hc na) (common fun G' v H' l R' cr => ?_)
      obtain ⟨l0, vs, rfl, h1, h2⟩ := cr.klst R'.sub
      rw [intsOf_v h2 e4] at h1
      exact ⟨l0, ns, rfl, h1, hn.1, hn.2, k G' _ H' l R' (.int _)⟩
    | _ => cases e3
  · cases q
/-! ### list(range(..)) -/
theorem rg_rep {mg : Str → Option Value} {K : PySem.W.Frag} {F : Hp} {ρ : List Addr} (i j : Int) : Reps mg K F ρ (rgV i j) (rngD i (j - i).toNat) := by
  unfold rgV rngD
  generalize List.range (j - i).toNat = l
  induction l with
  | nil => exact .nil
  | cons x l ih => exact .cons (.int _) ih
def smallR (i j : Int) : Bool := decide (-4611686018427387904 ≤ i ∧ i < 4611686018427387904 ∧ -4611686018427387904 ≤ j ∧ j < 4611686018427387904 ∧ (j - i).toNat ≤ 16777216)
theorem smallR_ok {i j : Int} (h : smallR i j = true) : RgOk i j := by
  have h : -4611686018427387904 ≤ i ∧ i < 4611686018427387904 ∧ -4611686018427387904 ≤ j ∧ j < 4611686018427387904 ∧ (j - i).toNat ≤ 16777216 := by simpa [smallR] using h
  exact ⟨by omega, by omega, by omega, by omega, by omega⟩
def dLr1 (fa : DE) : DE := fun δ => (fa δ).bind fun p => (p.1.pin.rd p.2).bind fun x => match x with
  | .int j => if smallR 0 j = true then some (.fresh (.lst (rngD 0 (j - 0).toNat)), p.2) else none
  | _ => none
def dLr2 (fa fb : DE) : DE := fun δ => (fa δ).bind fun p => (fb p.2).bind fun q => (p.1.pin.rd q.2).bind fun x => (q.1.pin.rd q.2).bind fun y => match x, y with
  | .int i, .int j => if smallR i j = true then some (.fresh (.lst (rngD i (j - i).toNat)), q.2) else none
  | _, _ => none
theorem snd_listRg1 (hc : X.calm = true) (hg : Gl X "list") (hm : X.mg "list" = none) (hg2 : Gl X "range") (hm2 : X.mg "range" = none) (na : starEach [a] X.env = (false, eval a X.env) :: starEach [] X.env)
    (ne : starEach [.Call (.Name "range" p2) [a] [] q0] X.env = (false, eval (.Call (.Name "range" p2) [a] [] q0) X.env) :: starEach [] X.env) (ha : Snd X a fa) : Snd X (.Call (.Name "list" p) [.Call (.Name "range" p2) [a] [] q0] [] pos) (dLr1 fa) := by
  intro B G δ r δ' σ H Q q R k
  obtain ⟨⟨ra, δ1⟩, e1, q⟩ := bnd q
  obtain ⟨x, e2, q⟩ := bnd q
  split at q
  · rename_i j
    split at q
    · rename_i hs
      cases q
      refine tE_of (pe_listRg hc hg hm (prg_1 hg2 hm2 (pe_tE X a) na) ne) ?_
      refine ha B G δ ra _ σ H _ e1 R fun G1 v H1 l1 R1 o1 => ?_
      obtain ⟨G1', l1', R1', o1'⟩ := R1.pin o1
      refine ⟨j, (R1'.rd o1' e2).int, smallR_ok hs, fun l0 hp => ?_⟩
      obtain ⟨R2, o2⟩ := R1'.push_lst hp (rg_rep 0 j)
      exact k G1' _ _ (l1.trans l1') R2 o2
    · cases q
  · cases q
theorem snd_listRg2 (hc : X.calm = true) (hg : Gl X "list") (hm : X.mg "list" = none) (hg2 : Gl X "range") (hm2 : X.mg "range" = none) (na : starEach [a, b] X.env = (false, eval a X.env) :: starEach [b] X.env) (nb : starEach [b] X.env = (false, eval b X.env) :: starEach [] X.env) (hpl : (backTo q0 (starEach [b] X.env)).any (·.1) = false)
    (ne : starEach [.Call (.Name "range" p2) [a, b] [] q0] X.env = (false, eval (.Call (.Name "range" p2) [a, b] [] q0) X.env) :: starEach [] X.env) (ha : Snd X a fa) (hb : Snd X b fb) : Snd X (.Call (.Name "list" p) [.Call (.Name "range" p2) [a, b] [] q0] [] pos) (dLr2 fa fb) := by
  intro B G δ r δ' σ H Q q R k
  obtain ⟨⟨ra, δ1⟩, e1, q⟩ := bnd q
  obtain ⟨⟨rb, δ2⟩, e2, q⟩ := bnd q
  obtain ⟨x, e3, q⟩ := bnd q
  obtain ⟨y, e4, q⟩ := bnd q
  split at q
  · rename_i i j _
    split at q
    · rename_i hs
      cases q
      refine tE_of (pe_listRg hc hg hm (prg_2 hg2 hm2 (pe_tE X a) (pe_tE X b) na nb hpl) ne) ?_
      refine ha B G δ ra δ1 σ H _ e1 R fun G1 v H1 l1 R1 o1 => ?_
      obtain ⟨G1', l1', R1', o1'⟩ := R1.pin o1
      refine hb B G1' δ1 rb _ σ H1 _ e2 R1' fun G2 w H2 l2 R2 o2 => ?_
      obtain ⟨G2', l2', R2', o2'⟩ := R2.pin o2
      refine ⟨i, j, (R2'.rd (o1'.mono (l2.trans l2')) e3).int, (R2'.rd o2' e4).int, smallR_ok hs, fun l0 hp => ?_⟩
      obtain ⟨R3, o3⟩ := R2'.push_lst hp (rg_rep i j)
      exact k G2' _ _ ((l1.trans l1').trans (l2.trans l2')) R3 o3
    · cases q
  · cases q
/-! ### methods of lists that only read -/
def LRd (mg : Str → Option Value) (K : PySem.W.Frag) (r : V → List V → Hp → VK → Prop) (u : D → List D → Option RV) : Prop :=
  ∀ (B : Bs) (G : Gh) (δ : DSt) (σ : L2.St) (H : Hp) (x : D) (vx : V) (ds : List D) (vs : List V) (rv : RV) (Q : VK), u x ds = some rv → Rl mg K B G δ σ H → CRep mg K G.F G.ρ H vx x → CReps mg K G.F G.ρ H vs ds → Ct mg K B G δ σ rv Q → r vx vs H Q
def dRd (u : D → List D → Option RV) (fo : DE) (fas : DA) : DE := fun δ => (fo δ).bind fun p => (p.1.pin.rd p.2).bind fun x0 => (itemsOf x0).bind fun _ => (fas p.2).bind fun q => (p.1.pin.rd q.2).bind fun x => (rdAll q.2 q.1).bind fun ds => (u x ds).map fun r => (r, q.2)
theorem snd_rdm {id : String} {r : V → List V → Hp → VK → Prop} {u : D → List D → Option RV} {name : Str} (pa : PlainAttrs "list") (slot : Slot "list" name id) (hty : typeOf (.builtin id) = pure (.type "method_descriptor")) (hm : MtR X id r) (hu : LRd X.mg X.K r u)
    (ho : Snd X o fo) (hs : SndA X (e :: es) fas) (hbase : attributeBase o name X.env (eval o X.env) = eval o X.env)
    (hfew : ((backTo cpos (starEach (e :: es) X.env)).all (fun x => !x.1) && (backToKw cpos (keywordEach [] X.env)).all (fun x => x.1.isSome)
      && decide ((e :: es).length + ([] : List Keyword).length + (if ([] : List Keyword).isEmpty then 0 else 1) < 30)) = true)
    (hline : (apos.endLine == cpos.line) = true) (hst : starEach (e :: es) X.env = (false, eval e X.env) :: starEach es X.env) (hplain : (backTo cpos (starEach es X.env)).any (·.1) = false) (hnt : ∀ x ds rv, u x ds = some rv → ∀ xs, x ≠ .tup xs) :
    Snd X (.Call (.Attribute o name apos) (e :: es) [] cpos) (fun δ => (fo δ).bind fun p => (p.1.pin.rd p.2).bind fun x0 => match x0 with
      | .lst _ => dRd u fo fas δ
      | .klst _ => dRd u fo fas δ
      | _ => none) := by
  intro B G δ rv δ' σ H Q q R kk
  obtain ⟨⟨r0, δ0⟩, e0, q⟩ := bnd q
  obtain ⟨x0, ex0, q⟩ := bnd q
  have main : (∃ xs, x0 = .lst xs ∨ x0 = .klst xs) → dRd u fo fas δ = some (rv, δ') → tE X (.Call (.Attribute o name apos) (e :: es) [] cpos) σ H Q := fun hx q => by
    obtain ⟨⟨r1, δ1⟩, e1, q⟩ := bnd q
    obtain ⟨x1, e2, q⟩ := bnd q
    obtain ⟨_, _, q⟩ := bnd q
    obtain ⟨⟨rs, δ2⟩, e3, q⟩ := bnd q
    obtain ⟨x2, e4, q⟩ := bnd q
    obtain ⟨ds, e5, q⟩ := bnd q
    obtain ⟨r', e6, q⟩ := Option.map_eq_some_iff.mp q
    cases q
    rw [e0] at e1; cases e1
    refine tE_of (pe_bm pa slot hty hm (pe_tE X o) (pa_tA X _) hbase hfew hline hst hplain) ?_
    refine ho B G δ _ _ σ H _ e0 R fun G1 v H1 l1 R1 o1 => ?_
    obtain ⟨G1', l1', R1', o1'⟩ := R1.pin o1
    have c0 := R1'.rd o1' ex0
    refine ⟨?_, hs B G1' _ rs _ σ H1 _ e3 R1' fun G2 vs H2 l2 R2 o2 => hu B G2 _ σ H2 x2 v ds vs rv Q e6 R2 (R2.rd (o1'.mono l2) e4) (R2.rdAll o2 e5) fun G3 w H3 l3 R3 o3 => kk G3 w H3 (((l1.trans l1').trans l2).trans l3) R3 o3⟩
    obtain ⟨xs, rfl | rfl⟩ := hx
    · obtain ⟨a0, vs, rfl, h1, _⟩ := c0.lst R1'.sub
      exact .inl ⟨rfl, vs, .of h1⟩
    · obtain ⟨a0, vs, rfl, h1, _⟩ := c0.klst R1'.sub
      exact .inl ⟨rfl, vs, h1⟩
  split at q
  · exact main ⟨_, .inl rfl⟩ q
  · exact main ⟨_, .inr rfl⟩ q
  · cases q
def uIdx (x : D) (ds : List D) : Option RV := match ds with
  | [d] => (itemsOf x).bind fun xs => if (D.purs xs && d.pur && SeqAt.shaped (.list (D.toPs xs)) && SeqAt.shaped d.toP) = true then ((D.toPs xs).findIdx? fun z => PyData.eqv z d.toP).map fun j => .val (.int (j : Nat)) else none
  | _ => none
theorem lrd_index {mg : Str → Option Value} {K : PySem.W.Frag} : LRd mg K (rIndexD K) fun x ds => match x with
    | .tup _ => none
    | x => uIdx x ds := by
  intro B G δ σ H x vx ds vs rv Q q R cx cs k
  have hnt : ∀ xs, x ≠ .tup xs := fun xs z => by subst z; cases q
  have q : uIdx x ds = some rv := by cases x <;> first | exact q | cases q
  unfold uIdx at q
  split at q
  · rename_i d _
    obtain ⟨xs, e1, q⟩ := bnd q
    split at q
    · rename_i hc
      simp only [Bool.and_eq_true] at hc
      obtain ⟨j, e2, q⟩ := Option.map_eq_some_iff.mp q
      subst q
      obtain ⟨v, rfl, c1⟩ := creps1 cs
      have hp : Dp K H vx (.list (D.toPs xs)) := by
        cases x with
        | lst ys => cases e1; have := cx.dp R.sub (by simpa [D.pur] using hc.1.1.1); simpa only [D.toP] using this
        | klst ys => cases e1; have := cx.dp R.sub (by simpa [D.pur] using hc.1.1.1); simpa only [D.toP] using this
        | tup ys => exact absurd rfl (hnt ys)
        | _ => cases e1
      obtain ⟨a0, rfl⟩ : ∃ a0, vx = V.ref a0 := by cases hp with | lst _ _ => exact ⟨_, rfl⟩
      obtain ⟨hj, h1, h2⟩ := List.findIdx?_eq_some_iff_getElem.mp e2
      refine ⟨a0, v, d.toP, D.toPs xs, j, (D.toPs xs)[j], rfl, rfl, hp, c1.dp R.sub hc.1.1.2, hc.1.2, hc.2, List.getElem?_eq_getElem hj, h1, fun m z hm hz => ?_, k G _ H (.refl G) R (.int _)⟩
      obtain ⟨hml, hz⟩ := List.getElem?_eq_some_iff.mp hz
      have := h2 m hm
      rw [hz] at this
      simpa using this
    · cases q
  · cases q
/-! ### f-strings -/
abbrev DP := DSt → Option (Str × DSt)
def SndP (X : Cx) (e : Expr) (f : DP) : Prop := ∃ t : TE, PE X e t ∧ ∀ (B : Bs) (G : Gh) (δ : DSt) (y : Str) (δ' : DSt) (σ : L2.St) (H : Hp) (Q : VK), f δ = some (y, δ') → Rl X.mg X.K B G δ σ H → (∀ (G' : Gh) (H' : Hp), G.le G' → Rl X.mg X.K B G' δ' σ H' → Q (.str y) H') → t σ H Q
def pS (y : Str) : DP := fun δ => some (y, δ)
theorem sndp_s {y : Str} {j : Nat} : SndP X (.Constant (.str y) j pos) (pS y) := ⟨_, pe_str, fun B G δ y' δ' σ H Q h R k => by
  cases h
  exact k G H (.refl G) R⟩
def pF (f : DE) : DP := fun δ => (f δ).bind fun p => (p.1.pin.rd p.2).bind fun x => match x with
  | .int i => if i.natAbs.log2 < 1920 then some (toString i, p.2) else none
  | .str y => if y.length ≤ 16777216 then some (y, p.2) else none
  | _ => none
theorem sndp_f (he : Snd X e f) : SndP X (.FormattedValue e (-1) none pos) (pF f) := ⟨_, pe_fmt (pe_tE X e), fun B G δ y δ' σ H Q h R k => by
  obtain ⟨⟨r, δ1⟩, e1, h⟩ := bnd h
  obtain ⟨x, e2, h⟩ := bnd h
  refine he B G δ r δ1 σ H _ e1 R fun G1 v H1 l1 R1 o1 => ?_
  obtain ⟨G1', l1', R1', o1'⟩ := R1.pin o1
  have c := R1'.rd o1' e2
  split at h
  · split at h
    · rename_i hb
      cases h
      exact .inr ⟨_, c.int, hb, k G1' H1 (l1.trans l1') R1'⟩
    · cases h
  · split at h
    · rename_i hb
      cases h
      exact .inl ⟨_, c.str, by rw [sizeLine_eq]; exact hb, k G1' H1 (l1.trans l1') R1'⟩
    · cases h
  · cases h⟩
def tFmtD (K : PySem.W.Frag) (te : TE) : TE := fun σ H Q => te σ H fun x H1 => ∃ d, Dp K H1 x d ∧ d.plain = true ∧ d.showable = true ∧ d.depth ≤ 64 ∧ d.shown.length ≤ sizeLine ∧ (∃ a, x = .ref a) ∧ Q (.str d.shown) H1
theorem pe_fmtD (hgu : X.A.guards = some []) (hu : X.A.units + 66 < cLine) {te : TE} (he : PE X e te) : PE X (.FormattedValue e 114 none pos) (tFmtD X.K te) := by
  refine ⟨fun pins s σ H Q I h => ?_⟩
  refine wpAny_FormattedValue_repr (thn (he.run pins s σ H _ I h) fun v s1 ⟨x, H1, I1, r1, d, hd, pd, sd, dd, hz, ⟨a, ex⟩, q⟩ => ?_)
  subst ex
  obtain rfl : v = Value.ref a := r1
  obtain ⟨as, rr⟩ := Dp.reads I1 d _ _ hd (rfl : RelV (.ref a) (.ref a))
  refine pyReprObj_of_reads rr sd (PyData.noDict_hsm (plain_noDict pd)) hgu (by omega) (fun _ _ e => e) (fun h' u tk hk => ?_) hz
  have I2 : Inv X pins σ H1 { s1 with heap := h', toks := tk } := I1.kept hk
  exact wpAny_formatField_str ⟨.str _, H1, I2, ⟨_, rfl⟩, q⟩ ⟨.str _, H1, I2.tok _, ⟨_, rfl⟩, q⟩ hz
def boxD : D → Bool
  | .lst _ => true
  | .klst _ => true
  | .tup _ => true
  | _ => false
def pR (f : DE) : DP := fun δ => (f δ).bind fun p => (p.1.pin.rd p.2).bind fun x => if (boxD x && x.pur && x.toP.showable && decide (x.toP.depth ≤ 64) && decide (x.toP.shown.length ≤ 16777216)) = true then some (x.toP.shown, p.2) else none
theorem sndp_r (hgu : X.A.guards = some []) (hu : X.A.units + 66 < cLine) (he : Snd X e f) : SndP X (.FormattedValue e 114 none pos) (pR f) := ⟨_, pe_fmtD hgu hu (pe_tE X e), fun B G δ y δ' σ H Q h R k => by
  obtain ⟨⟨r, δ1⟩, e1, h⟩ := bnd h
  obtain ⟨x, e2, h⟩ := bnd h
  split at h
  · rename_i hc
    cases h
    simp only [Bool.and_eq_true, decide_eq_true_eq] at hc
    refine he B G δ r _ σ H _ e1 R fun G1 v H1 l1 R1 o1 => ?_
    obtain ⟨G1', l1', R1', o1'⟩ := R1.pin o1
    have c := R1'.rd o1' e2
    refine ⟨x.toP, c.dp R1'.sub hc.1.1.1.2, D.plain x hc.1.1.1.2, hc.1.1.2, hc.1.2, by rw [sizeLine_eq]; exact hc.2, ?_, k G1' H1 (l1.trans l1') R1'⟩
    cases x with
    | lst xs => obtain ⟨a0, _, e, _⟩ := c.lst R1'.sub; exact ⟨a0, e⟩
    | klst xs => obtain ⟨a0, _, e, _⟩ := c.klst R1'.sub; exact ⟨a0, e⟩
    | tup xs => obtain ⟨a0, _, e, _⟩ := c.tup R1'.sub; exact ⟨a0, e⟩
    | _ => cases hc.1.1.1.1
  · cases h⟩
abbrev DJ := DSt → Option (List Str × DSt)
def jnS (acc : Str) : List Str → Option Str
  | [] => some acc
  | y :: ys => if (acc ++ y).length ≤ 16777216 then jnS (acc ++ y) ys else none
def SndJ (X : Cx) (es : List Expr) (f : DJ) : Prop := ∃ ts : List TE, PJ X es ts ∧ ∀ (B : Bs) (G : Gh) (δ : DSt) (ys : List Str) (δ' : DSt) (σ : L2.St) (H : Hp) (acc out : Str) (Q : Str → Hp → Prop), f δ = some (ys, δ') → jnS acc ys = some out → Rl X.mg X.K B G δ σ H → (∀ (G' : Gh) (H' : Hp), G.le G' → Rl X.mg X.K B G' δ' σ H' → Q out H') → tJs ts acc σ H Q
def jNil : DJ := fun δ => some ([], δ)
def jCons (f : DP) (g : DJ) : DJ := fun δ => (f δ).bind fun p => (g p.2).map fun q => (p.1 :: q.1, q.2)
theorem sndj_nil : SndJ X [] jNil := ⟨[], .nil, fun B G δ ys δ' σ H acc out Q h j R k => by
  cases h; cases j
  exact k G H (.refl G) R⟩
theorem sndj_cons {fp : DP} {fj : DJ} (h1 : SndP X e fp) (h2 : SndJ X es fj) : SndJ X (e :: es) (jCons fp fj) := by
  obtain ⟨t, p1, r1⟩ := h1
  obtain ⟨ts, p2, r2⟩ := h2
  refine ⟨t :: ts, .cons p1 p2, fun B G δ ys δ' σ H acc out Q h j R k => ?_⟩
  obtain ⟨⟨y, δ1⟩, e1, h⟩ := bnd h
  obtain ⟨⟨zs, δ2⟩, e2, h⟩ := Option.map_eq_some_iff.mp h
  cases h
  simp only [jnS] at j
  split at j
  · rename_i hz
    refine r1 B G δ y δ1 σ H _ e1 R fun G1 H1 l1 R1 => ⟨y, rfl, by rw [sizeLine_eq]; exact hz, r2 B G1 δ1 zs _ σ H1 _ out Q e2 j R1 fun G2 H2 l2 R2 => k G2 H2 (l1.trans l2) R2⟩
  · cases j
def dJ (f : DJ) : DE := fun δ => (f δ).bind fun p => (jnS Str.empty p.1).map fun y => (.val (.str y), p.2)
theorem snd_joined {v1 v2 : Expr} {rest : List Expr} {fj : DJ} (h : SndJ X (v1 :: v2 :: rest) fj) : Snd X (.JoinedStr (v1 :: v2 :: rest) pos) (dJ fj) := by
  obtain ⟨ts, p1, r1⟩ := h
  intro B G δ r δ' σ H Q q R k
  obtain ⟨⟨ys, δ1⟩, e1, q⟩ := bnd q
  obtain ⟨y, e2, q⟩ := Option.map_eq_some_iff.mp q
  cases q
  exact tE_of (pe_joined p1) (r1 B G δ ys _ σ H _ y _ e1 e2 R fun G1 H1 l1 R1 => k G1 _ H1 l1 R1 (.str _))
end
end EV
set_option Elab.async false
set_option linter.all false
set_option maxRecDepth 100000
set_option maxHeartbeats 1000000
/-! EV 13: defs as the head tells them, the law's call -/
namespace EV
open PySem L2 PySem.Spec PyProof.Rows

theorem fnD' {P : Program} {w : World} {K : PySem.W.Frag} {mg : Str → Option Value} {base : Heap} {x qual : Str} {st : Stmt} {dvs : List V} {kws : List (Str × V)} {f : Addr} {fd : FuncData} {N ps : List Str} {k : Nat} {g : Nat → DS} (Fn : FunD K x qual (defArgs st) (defBody st) (defScope st) dvs kws f fd) (S : FnScope N ps (defScope st))
    (hb : ∀ (n : Nat) (cdv : Value) (A : Around) (outer : List Env) (s : Shared) (H : Hp) (E : XK), A.guards = some [] → Room k (A.deeper (envOfC qual (defScope st) s.heap.objs.size f cdv)) →
      SndB ((cxOf L2.CX0 P w K mg base N qual (defScope st) f cdv A outer s H E).nox) (defBody st) (g n)) :
    CalD P w K mg base (k + 1) f fd ps fun n => runF N.length (g n) := by
  obtain ⟨oc, od, dV, kV, doc, pm, an, cdv, ct, osl, rfl, lk, hcd, _, _⟩ := Fn.ex
  refine ⟨fnG_of lk hcd S (fun vs H Q E h => ?_) fun A outer s H vs Q E hgu hr h => ?_, Fn.kp⟩
  · obtain ⟨F, ρ, ds, ce, r, ce', h1, h2, h3, h4, h5, h6, h7, h8⟩ := h
    rw [h4.length]; exact h6
  · obtain ⟨F, ρ, ds, ce, r, ce', h1, h2, h3, h4, h5, h6, ⟨n, h7⟩, h8⟩ := h
    exact body_run S (hb n cdv A outer s H E hgu hr) h1 h2 h3 h4 h5 h6 h7 h8

theorem calB_of {mg : Str → Option Value} {K : PySem.W.Frag} {x qual : Str} {params : Arguments} {body : List Stmt} {scope : Scope} {f : Addr} {fd : FuncData} {ps ks : List Str} {n : Nat} {ix : List Nat} (F : FunD K x qual params body scope [] [] f fd)
    (h : ∀ (kV doc pm : Value) (an : Option Addr) (cdv ct : Value) (us ws : List Value), us.length = n → ws.length = ks.length → bindArgs (PySem.W.fnOf x qual params body scope .none kV doc pm an cdv ct) ⟨us, ks.zip ws⟩ = pure (ps.zip (pick ix (us ++ (ws ++ []))))) (len : ix.length = ps.length) (lt : ∀ i ∈ ix, i < n + (ks.length + 0)) :
    CalB mg K fd ps n ks ix [] where
  ex := by
    obtain ⟨oc, od, dV, kV, doc, pm, an, cdv, ct, osl, rfl, lk, hcd, hD, hK⟩ := F.ex
    rcases hD with ⟨_, rfl⟩ | ⟨e, _⟩
    · exact ⟨[], [], .nil, fun _ _ => .nil, fun s us ws _ h1 h2 => .of_eq (h kV doc pm an cdv ct us ws h1 h2)⟩
    · exact absurd rfl e
  len := len
  lt := lt
/-! ### the law's call -/
theorem law_callG {P : Program} {w : World} {K : PySem.W.Frag} {mg mb : Str → Option Value} {k : Nat} {fa a : Addr} {fd : FuncData} {x : Str} {g : Nat → List D → List D → Option (Ret × List D)} {s₁ : Shared} {us : List Value} {ns : List Int}
    (KX : K.In s₁.heap) (hns : s₁.heap.Ns mainGlobals mg) (hb : s₁.heap.Ns builtinsNs mb) (hbb : ∀ y : Str, y ≠ "__name__" → mb y = bootBuiltins y) (hlim : s₁.heap.NoLimit) (hg : s₁.gens = #[]) (ha : s₁.heap.get? a = some { cls := .type "list", data := .seq us.toArray })
    (hi : IntsAre us ns) (hl : ns.length ≤ sizeLine) (hr : Room k callerA) (Fn : ∀ base : Heap, K.In base → base.Ns mainGlobals mg → CalD P w K mg base k fa fd [x] g) (bind : ∀ (s : Shared) (u : Value), BindsTo s fd ⟨[u], []⟩ [(x, u)])
    (hgood : ∃ n, g n [.klst (ns.map .int)] [] = some (.val (.bl true), [])) :
    codeAny (model P w) callerA (.call (.ref fa) ⟨[.ref a], []⟩) (fun r s' => r = .ok (.ret (.bool true)) ∧ OldK s₁.heap s'.heap ∧ s'.os = s₁.os ∧ AllBare s'.gens) s₁ := by
  have script : Vals (ns.map V.int) us := vals_ints hi
  have ulen := hi.length
  -- H tells of nothing but the script, if of that
  have main : ∀ H : Hp, (∀ b u, H b = some u → b = a ∧ K.lookup a = none ∧ ∃ ob zs, u = .frz ob (.lst zs)) → HOk P w H s₁.heap → SqL K H a (ns.map V.int) →
      codeAny (model P w) callerA (.call (.ref fa) ⟨[.ref a], []⟩) (fun r s' => r = .ok (.ret (.bool true)) ∧ OldK s₁.heap s'.heap ∧ s'.os = s₁.os ∧ AllBare s'.gens) s₁ := by
    intro H only hok hS
    have none_of : ∀ b, b ≠ a ∨ K.lookup a ≠ none → H b = none := fun b hb' => by
      cases q : H b with
      | none => rfl
      | some u =>
        obtain ⟨e1, e2, _⟩ := only b u q
        exact hb'.elim (fun z => absurd e1 z) fun z => absurd e2 z
    have keep : ∀ {b : Addr} {o : Obj}, H b = none → s₁.heap.get? b = some o → (hidT s₁.heap H).get? b = some o := fun q e => hidT_get e q
    have ns_of : ∀ {b : Addr} {m : Str → Option Value}, s₁.heap.Ns b m → (hidT s₁.heap H).Ns b m := fun {b m} z => by
      obtain ⟨o, es, ep, e, d, r⟩ := z
      refine ⟨o, es, ep, keep (none_of b (.inl fun y => ?_)) e, d, r⟩
      subst y
      rw [ha] at e
      cases e
      cases d
    have inB : K.In (hidT s₁.heap H) := fun b o e => keep (by
      by_cases y : b = a
      · exact none_of b (.inr (by rw [← y, e]; exact fun z => nomatch z))
      · exact none_of b (.inl y)) (KX b o e)
    obtain ⟨ml, l1, l2⟩ := hlim
    have env0 : Env0 P w K mg (hidT s₁.heap H) callerA [] s₁ H := {
      frames := rfl
      mod := ⟨inB, ns_of hns, ⟨mb, ns_of hb, hbb⟩, ml, ns_of l1, l2⟩
      bs := fun b o e => of_hidT e
      bsz := Nat.le_of_eq (hidT_size _ _)
      funs := trivial
      frf := fun b hb => nomatch hb
      hok := hok
      bare := .of_eq hg }
    have rp : ∀ ms : List Int, Reps mg K H [] (ms.map V.int) (ms.map D.int) := fun ms => by
      induction ms with
      | nil => exact .nil
      | cons m ms ih => exact .cons (.int m) ih
    have sp : SpD mg K ([x] : List Str).length (fun ds ce r ce' => ∃ n, g n ds ce = some (r, ce')) [.ref a] H (fun v H' => v = .bl true ∧ ∀ b u, H b = some u → H' b = some u) fun _ _ _ => False := by
      obtain ⟨n, hn⟩ := hgood
      refine ⟨H, [], [.klst (ns.map .int)], [], .val (.bl true), [], Same.refl _, List.nodup_nil, fun _ z => (by cases z), .cons (.klst hS (rp ns)) .nil, ⟨rfl, fun _ _ z => (by simp at z)⟩, rfl, ⟨n, hn⟩, fun F' v H' af ro => ?_⟩
      have ro : Rep mg K F' [] v (.bl true) := ro
      cases ro
      exact ⟨rfl, fun b u z => af.fr b u z (by simp)⟩
    refine codeAny_mono ((Fn _ inB (ns_of hns)).ok.run callerA [] s₁ H ⟨[.ref a], []⟩ [.ref a] [.ref a] _ _ rfl hr env0 (bind s₁ (.ref a)) (.cons rfl .nil) sp) fun r s' h => ?_
    cases r with
    | error e => exact False.elim h
    | ok fl =>
      cases fl with
      | ret u =>
        obtain ⟨v, H', os, bare, un, hok', rv, rfl, old⟩ := h
        obtain rfl : u = Value.bool true := rv
        refine ⟨rfl, OldK.of_keep fun b o e => ?_, os, bare⟩
        cases q : H b with
        | none => exact un.keep b o e q (fun z => nomatch z) (fun z => nomatch z)
        | some u =>
          obtain ⟨_, _, ob, zs, rfl⟩ := only b u q
          obtain ⟨g1, _⟩ := hok b _ q
          obtain ⟨g2, _⟩ := hok' b _ (old b _ q)
          rw [e] at g1
          cases g1
          exact g2
      | next => exact False.elim h
      | brk => exact False.elim h
      | cont => exact False.elim h
  cases hk : K.lookup a with
  | none =>
    generalize hob : ({ cls := .type "list", data := .seq us.toArray } : Obj) = ob at ha
    refine main (upd (fun _ => none) a (.frz ob (.lst (ns.map V.int)))) (fun b u z => ?_) (fun b u z => ?_) (.inl (.inr ⟨ob, upd_same⟩))
    · by_cases y : b = a
      · subst y
        rw [upd_same] at z; cases z
        exact ⟨rfl, hk, ob, _, rfl⟩
      · rw [upd_ne y] at z; cases z
    · by_cases y : b = a
      · subst y
        rw [upd_same] at z; cases z
        exact ⟨ha, by rw [List.length_map]; exact hl, us, _, script, by rw [ha, ← hob]⟩
      · rw [upd_ne y] at z; cases z
  | some o =>
    have e := KX a o hk
    rw [ha] at e
    obtain rfl := Option.some.inj e
    exact main (fun _ => none) (fun b u z => nomatch z) (fun b u z => nomatch z) (.inr ⟨_, us.toArray, _, hk, rfl, rfl, rfl, by rw [List.size_toArray, ulen]; exact hl, by simpa using script⟩)
theorem walk_ofG {l : PySem.W.OpenLaw} {n k : Nat} {q : Program} {loose : List Str} {XP : (Str → Option Value) → Heap → Prop} {YP : World → Heap → Prop} {d : DefRec} {x : Str} (hn : l.most = some n) (hn2 : n ≤ sizeLine) (hdf : d.params.defaults = []) (hr : Room k callerA)
    (F : ∀ (w : World) (mg : Str → Option Value) (fa : Addr) (h : Heap), YP w h → h.Ns mainGlobals mg → mg d.name = some (.ref fa) → ∃ (K : PySem.W.Frag) (fd : FuncData) (g : Nat → List D → List D → Option (Ret × List D)), K.In h ∧ (∀ (s : Shared) (u : Value), BindsTo s fd ⟨[u], []⟩ [(x, u)]) ∧
      (∀ ns : List Int, ns.length ≤ n → ∃ m, g m [.klst (ns.map .int)] [] = some (.val (.bl true), [])) ∧ ∀ base : Heap, K.In base → base.Ns mainGlobals mg → CalD l.prog w K mg base k fa fd [x] g) :
    PySem.W.WalkO q loose XP YP l.row.toRowW d [] (fun f vs => PySem.call f vs) := by
  refine Att.attach_call hn hdf fun w s₀ s₁ mg mb fa o pm cd doc a vs ns G Y ho hd hcd hmg hobj hints hlen hg => ?_
  obtain ⟨K, fd, g, KX, bind, good, Fn⟩ := F w mg fa _ Y G.T.g hmg
  exact law_callG KX G.T.g G.T.b G.T.builtins G.T.nolimit hg hobj hints (Nat.le_trans hlen hn2) hr Fn bind (good ns hlen)
end EV
set_option Elab.async false
set_option linter.all false
set_option maxRecDepth 100000
set_option maxHeartbeats 1000000
/-! EV 14: the rules with their small goals closed, for printed proofs -/
namespace EV
open PySem L2 PySem.Spec PyProof.Rows

section
variable {X : Cx} {e a b c o tg iter elt : Expr} {es : List Expr} {fa fb fc fo f : DE} {ft : DT} {fi fj : DI} {g : DG} {fas : DA} {fs : DS} {pos p p1 p2 q0 apos cpos spos : Pos} {x m : Str} {k j : Nat}
/-! ### alternatives of what is walked -/
def orI (f g : DI) : DI := fun δ => (f δ).or (g δ)
theorem sndi_alt (h1 : SndI X tg iter fi) (h2 : SndI X tg iter fj) : SndI X tg iter (orI fi fj) := fun B G δ r δ' σ H Q q R k => (or_cases q).elim (fun q => h1 B G δ r δ' σ H Q q R k) fun q => h2 B G δ r δ' σ H Q q R k
theorem u66 {j : Nat} {A : Around} (hr : Room j A) : A.units + 66 < cLine := by have := hr.un; omega
/-! ### operators -/
def gAdd (x y : D) : Option RV := (gI (· + ·) x y).or ((gStrAdd x y).or ((gCat x y).or (gCatT x y)))
def cMul (i j : Int) : Bool := decide ((-18446744073709551616 < i ∧ i < 18446744073709551616) ∨ (-18446744073709551616 < j ∧ j < 18446744073709551616))
theorem cMul_ok (i j : Int) (h : cMul i j = true) : CMul i j := by
  have h : (-18446744073709551616 < i ∧ i < 18446744073709551616) ∨ (-18446744073709551616 < j ∧ j < 18446744073709551616) := by simpa [cMul] using h
  unfold CMul
  omega
def gMul (x y : D) : Option RV := (gIC cMul (· * ·) x y).or (gRepL x y)
def cDiv (i j : Int) : Bool := decide (0 < j ∧ j < 1073741824)
def cMod (i j : Int) : Bool := decide (0 < j)
def cPow (i j : Int) : Bool := decide (0 ≤ j ∧ j ≤ 1000000 ∧ i.natAbs < 18446744073709551616)
def gPow : D → D → Option RV := gIC cPow fun i j => i ^ j.toNat
theorem p_add (ha : Snd X a fa) (hb : Snd X b fb) : Snd X (.BinOp a .Add b pos) (dBin gAdd fa fb) := snd_bin (op_add.or (op_add_str.or (op_cat.or op_catT))) (opd_I.or (opd_strAdd.or (opd_cat.or opd_catT))) ha hb
theorem p_sub (ha : Snd X a fa) (hb : Snd X b fb) : Snd X (.BinOp a .Sub b pos) (dBin (gI (· - ·)) fa fb) := snd_bin op_sub opd_I ha hb
theorem p_mul (ha : Snd X a fa) (hb : Snd X b fb) : Snd X (.BinOp a .Mult b pos) (dBin gMul fa fb) := snd_bin (op_mul.or op_rep) ((opd_IC cMul_ok).or opd_repL) ha hb
theorem p_fdv (ha : Snd X a fa) (hb : Snd X b fb) : Snd X (.BinOp a .FloorDiv b pos) (dBin (gIC cDiv (· / ·)) fa fb) := snd_bin op_fdiv (opd_IC fun i j h => (by show 0 < j ∧ j < 1073741824; simpa [cDiv] using h)) ha hb
theorem p_mod (ha : Snd X a fa) (hb : Snd X b fb) : Snd X (.BinOp a .Mod b pos) (dBin (gIC cMod (· % ·)) fa fb) := snd_bin op_mod (opd_IC fun i j h => (by simpa [cMod] using h)) ha hb
theorem p_pow (ha : Snd X a fa) (hb : Snd X b fb) : Snd X (.BinOp a .Pow b pos) (dBin gPow fa fb) := snd_bin op_pow (opd_IC fun i j h => (by
  have h : 0 ≤ j ∧ j ≤ 1000000 ∧ i.natAbs < 18446744073709551616 := by simpa [cPow] using h
  exact ⟨h.1, h.2.1, by omega⟩)) ha hb
theorem p_neg (ha : Snd X a fa) : Snd X (.UnaryOp .USub a pos) (dUn gNeg fa) := snd_un un_neg und_neg ha
/-! ### comparisons -/
def gLt : D → D → Option RV := gIB fun i j => decide (i < j)
def gLe : D → D → Option RV := gIB fun i j => decide (i ≤ j)
def gGt : D → D → Option RV := gIB fun i j => decide (j < i)
def gGe : D → D → Option RV := gIB fun i j => decide (j ≤ i)
theorem p_lt (ha : Snd X a fa) (hb : Snd X b fb) : Snd X (.Compare a [.Lt] [b] pos) (dBin gLt fa fb) := snd_cmp op_lt opd_IB ha hb (nomark _)
theorem p_le (ha : Snd X a fa) (hb : Snd X b fb) : Snd X (.Compare a [.LtE] [b] pos) (dBin gLe fa fb) := snd_cmp op_le opd_IB ha hb (nomark _)
theorem p_gt (ha : Snd X a fa) (hb : Snd X b fb) : Snd X (.Compare a [.Gt] [b] pos) (dBin gGt fa fb) := snd_cmp op_gt opd_IB ha hb (nomark _)
theorem p_ge (ha : Snd X a fa) (hb : Snd X b fb) : Snd X (.Compare a [.GtE] [b] pos) (dBin gGe fa fb) := snd_cmp op_ge opd_IB ha hb (nomark _)
theorem p_eq (hr : Room j X.A) (ha : Snd X a fa) (hb : Snd X b fb) : Snd X (.Compare a [.Eq] [b] pos) (dBin gEq fa fb) := snd_cmp (op_eqP hr.units) opd_eq ha hb (nomark _)
theorem p_ne (hr : Room j X.A) (ha : Snd X a fa) (hb : Snd X b fb) : Snd X (.Compare a [.NotEq] [b] pos) (dBin gNe fa fb) := snd_cmp (op_neP hr.units) opd_ne ha hb (nomark _)
theorem p_in (hr : Room j X.A) (ha : Snd X a fa) (hb : Snd X b fb) (hm : behindInMarks .In b = false := by with_unfolding_all rfl) : Snd X (.Compare a [.In] [b] pos) (dBin (gIn false) fa fb) := snd_cmp (op_inP (by have := hr.un; omega)) opd_in ha hb hm
theorem p_nin (hr : Room j X.A) (ha : Snd X a fa) (hb : Snd X b fb) (hm : behindInMarks .NotIn b = false := by with_unfolding_all rfl) : Snd X (.Compare a [.NotIn] [b] pos) (dBin (gIn true) fa fb) := snd_cmp (op_notInP (by have := hr.un; omega)) opd_in ha hb hm
theorem p_isn (ha : Snd X a fa) (hb : Snd X b fb) : Snd X (.Compare a [.Is] [b] pos) (dBin (gIsN false) fa fb) := snd_cmp op_isN opd_isN ha hb (nomark _)
theorem p_ntn (ha : Snd X a fa) (hb : Snd X b fb) : Snd X (.Compare a [.IsNot] [b] pos) (dBin (gIsN true) fa fb) := snd_cmp op_notN opd_notN ha hb (nomark _)
theorem t_lt (ha : Snd X a fa) (hb : Snd X b fb) : SndT X (.Compare a [.Lt] [b] pos) (dTst (dBin gLt fa fb)) := sndt_cmp op_lt opd_IB ha hb (nomark _)
theorem t_le (ha : Snd X a fa) (hb : Snd X b fb) : SndT X (.Compare a [.LtE] [b] pos) (dTst (dBin gLe fa fb)) := sndt_cmp op_le opd_IB ha hb (nomark _)
theorem t_gt (ha : Snd X a fa) (hb : Snd X b fb) : SndT X (.Compare a [.Gt] [b] pos) (dTst (dBin gGt fa fb)) := sndt_cmp op_gt opd_IB ha hb (nomark _)
theorem t_ge (ha : Snd X a fa) (hb : Snd X b fb) : SndT X (.Compare a [.GtE] [b] pos) (dTst (dBin gGe fa fb)) := sndt_cmp op_ge opd_IB ha hb (nomark _)
theorem t_eq (hr : Room j X.A) (ha : Snd X a fa) (hb : Snd X b fb) : SndT X (.Compare a [.Eq] [b] pos) (dTst (dBin gEq fa fb)) := sndt_cmp (op_eqP hr.units) opd_eq ha hb (nomark _)
theorem t_ne (hr : Room j X.A) (ha : Snd X a fa) (hb : Snd X b fb) : SndT X (.Compare a [.NotEq] [b] pos) (dTst (dBin gNe fa fb)) := sndt_cmp (op_neP hr.units) opd_ne ha hb (nomark _)
theorem t_in (hr : Room j X.A) (ha : Snd X a fa) (hb : Snd X b fb) (hm : behindInMarks .In b = false := by with_unfolding_all rfl) : SndT X (.Compare a [.In] [b] pos) (dTst (dBin (gIn false) fa fb)) := sndt_cmp (op_inP (by have := hr.un; omega)) opd_in ha hb hm
theorem t_nin (hr : Room j X.A) (ha : Snd X a fa) (hb : Snd X b fb) (hm : behindInMarks .NotIn b = false := by with_unfolding_all rfl) : SndT X (.Compare a [.NotIn] [b] pos) (dTst (dBin (gIn true) fa fb)) := sndt_cmp (op_notInP (by have := hr.un; omega)) opd_in ha hb hm
theorem t_isn (ha : Snd X a fa) (hb : Snd X b fb) : SndT X (.Compare a [.Is] [b] pos) (dTst (dBin (gIsN false) fa fb)) := sndt_cmp op_isN opd_isN ha hb (nomark _)
theorem t_ntn (ha : Snd X a fa) (hb : Snd X b fb) : SndT X (.Compare a [.IsNot] [b] pos) (dTst (dBin (gIsN true) fa fb)) := sndt_cmp op_notN opd_notN ha hb (nomark _)
theorem p_chLeLe (ha : Snd X a fa) (hb : Snd X b fb) (hc : Snd X c fc) (hm : lastMarks [.LtE, .LtE] [b, c] = false := by with_unfolding_all rfl) : Snd X (.Compare a [.LtE, .LtE] [b, c] pos) (dChain gLe gLe fa fb fc) := snd_chain op_le op_le opd_IB opd_IB ha hb hc hm
theorem t_chLeLe (ha : Snd X a fa) (hb : Snd X b fb) (hc : Snd X c fc) (hm : lastMarks [.LtE, .LtE] [b, c] = false := by with_unfolding_all rfl) : SndT X (.Compare a [.LtE, .LtE] [b, c] pos) (dTst (dChain gLe gLe fa fb fc)) := sndt_chain op_le op_le opd_IB opd_IB ha hb hc hm
theorem p_chLeLt (ha : Snd X a fa) (hb : Snd X b fb) (hc : Snd X c fc) (hm : lastMarks [.LtE, .Lt] [b, c] = false := by with_unfolding_all rfl) : Snd X (.Compare a [.LtE, .Lt] [b, c] pos) (dChain gLe gLt fa fb fc) := snd_chain op_le op_lt opd_IB opd_IB ha hb hc hm
theorem t_chLeLt (ha : Snd X a fa) (hb : Snd X b fb) (hc : Snd X c fc) (hm : lastMarks [.LtE, .Lt] [b, c] = false := by with_unfolding_all rfl) : SndT X (.Compare a [.LtE, .Lt] [b, c] pos) (dTst (dChain gLe gLt fa fb fc)) := sndt_chain op_le op_lt opd_IB opd_IB ha hb hc hm
/-! ### names -/
theorem v (i : Nat) (hN : X.N[i]? = some x := by rfl) (hv : Vis X.env.scope x := by first | exact Or.inl rfl | exact Or.inr (Or.inl rfl) | exact Or.inr (Or.inr rfl)) (hd : (x == ("__debug__" : Str)) = false := by decide) (hcd : (x == ("__classdict__" : Str)) = false := by decide) : Snd X (.Name x pos) (dVar i) := snd_var hN hv hd hcd
theorem gi {i : Int} (hm : ∃ t, X.mg x = some (.int i t)) (hg : Gl X x := by rfl) (hd : (x == ("__debug__" : Str)) = false := by decide) : Snd X (.Name x pos) (dC (.int i)) := snd_globI hg hm hd
theorem gs {y : Str} (hm : ∃ t, X.mg x = some (.str y t)) (hg : Gl X x := by rfl) (hd : (x == ("__debug__" : Str)) = false := by decide) : Snd X (.Name x pos) (dC (.str y)) := snd_globS hg hm hd
theorem gf {f : Addr} (hm : X.mg x = some (.ref f)) (hg : Gl X x := by rfl) (hd : (x == ("__debug__" : Str)) = false := by decide) : Snd X (.Name x pos) (dC (.fn x)) := snd_globF hg ⟨f, hm⟩ hd
theorem gt {n : String} (hm : X.mg x = none) (hv : bootBuiltins x = some (.type n) := by decide +kernel) (hg : Gl X x := by rfl) (hn : x ≠ "__name__" := by decide) (hd : (x == ("__debug__" : Str)) = false := by decide) : Snd X (.Name x pos) (dC (.ty n)) := snd_ty hg hm hv hn hd
/-! ### argument lists -/
theorem ac (ha : Snd X a fa) (hs : SndA X es fas) (he : starEach (a :: es) X.env = (false, eval a X.env) :: starEach es X.env := by rfl) : SndA X (a :: es) (dCons fa fas) := snda_cons ha hs he
/-! ### built-ins -/
theorem b_fn {id : String} {G : List D → Option RV} {rc : List V → Hp → VK → Prop} (hc : CallR X (.builtin id) rc) (hg : CallD X.mg X.K rc G) (hm : X.mg x = none) (h : SndA X (e :: es) fas) (hgl : Gl X x := by rfl) (hv : bootBuiltins x = some (.builtin id) := by decide +kernel)
    (hn : x ≠ "__name__" := by decide) (hdb : (x == ("__debug__" : Str)) = false := by decide) (he : starEach (e :: es) X.env = (false, eval e X.env) :: starEach es X.env := by rfl) (hpl : (backTo pos (starEach es X.env)).any (·.1) = false := by rfl) : Snd X (.Call (.Name x p) (e :: es) [] pos) (dBi G fas) := snd_bi hc hg hgl hm hv h hn hdb he hpl
theorem b_ty {T : String} {G : List D → Option RV} {rc : List V → Hp → VK → Prop} (hc : CallR X (.type T) rc) (hg : CallD X.mg X.K rc G) (hm : X.mg x = none) (h : SndA X (e :: es) fas) (hgl : Gl X x := by rfl) (hv : bootBuiltins x = some (.type T) := by decide +kernel)
    (hn : x ≠ "__name__" := by decide) (hdb : (x == ("__debug__" : Str)) = false := by decide) (he : starEach (e :: es) X.env = (false, eval e X.env) :: starEach es X.env := by rfl) (hpl : (backTo pos (starEach es X.env)).any (·.1) = false := by rfl) : Snd X (.Call (.Name x p) (e :: es) [] pos) (dBi G fas) := snd_bty hc hg hgl hm hv h hn hdb he hpl
/-! ### tests of values -/
theorem t_v (ha : Snd X a fa) (he : ∀ whole, isTrue a X.env whole = (do let v ← whole; standAt a.pos; holding [v] (truthy v)) := by intro _; rfl) : SndT X a (dTru fa) := sndt_tru ha he
/-! ### subscripts -/
theorem p_ix (ha : Snd X a fa) (hb : Snd X b fb) (hs : PlainIx b := by intro _ _; rfl) : Snd X (.Subscript a b pos) (dBin gIx fa fb) := snd_ix ix_seq opd_ix ha hb hs
end
end EV
set_option Elab.async false
set_option linter.all false
set_option maxRecDepth 100000
set_option maxHeartbeats 1000000
/-! EV 15: calls, methods, statements with their small goals closed -/
namespace EV
open PySem L2 PySem.Spec PyProof.Rows

section
variable {X : Cx} {e a b c o tg iter elt : Expr} {es : List Expr} {kws : List Keyword} {fa fb fc fo f : DE} {ft : DT} {fi fj : DI} {gg : DG} {fas fks : DA} {fs hs : DS} {pos p p1 p2 p' q0 apos cpos spos kpos : Pos} {x m cn : Str} {nm : Option Str} {k j n na : Nat} {fad C pr : Addr} {fd : FuncData} {ps ks : List Str} {ix : List Nat} {ddv : List D} {st : Stmt} {sts as bs : List Stmt}
  {g : Nat → List D → List D → Option (Ret × List D)}
/-- o.m(k = v, ..), no positional value -/
theorem snd_methK0 {pl : Sem Bool} (N : Nat) (Cc : CalD X.prog X.w X.K X.mg X.base k fad fd ps g) (hb : CalB X.mg X.K fd ps 1 ks ix ddv) (hgu : X.A.guards = some []) (hr : Room j X.A) (hk : k ≤ j) (hm : X.mg cn = some (.ref C)) (hc : Cls X.K C) (me : Meth X.K C m fad) (ho : Snd X o fo) (hkw : SndK X kws fks)
    (hall : (backToKw pos (keywordEach kws X.env)).all (·.1.isSome) = true) (hks : (backToKw pos (keywordEach kws X.env)).filterMap (·.1) = ks) (hpl : ((backTo pos (starEach [] X.env)).any (·.1) || (backToKw pos (keywordEach kws X.env)).any (·.1.isNone)) = false)
    (ht : eval (.Call (.Attribute o m apos) [] kws pos) X.env = (do
      let ov ← eval o X.env
      standAt apos.atName
      let (f, first) ← holding [ov] (getMethod ov m pl)
      callWith pos f first (backTo pos (starEach [] X.env)) (backToKw pos (keywordEach kws X.env)))) :
    Snd X (.Call (.Attribute o m apos) [] kws pos) (dMeth cn m 0 ks.length ix ddv (g N) fo dNil fks) := by
  intro B G δ r δ' σ H Q q R kk pins s I
  obtain ⟨⟨ro, δ1⟩, e1, q⟩ := bnd q
  obtain ⟨d, e2, q⟩ := bnd q
  split at q
  · rename_i c' ns ds' e3
    split at q
    · rename_i hcn
      obtain ⟨⟨ds, δ2⟩, e4, q⟩ := bnd q
      obtain ⟨⟨r', ce'⟩, e5, q⟩ := Option.map_eq_some_iff.mp q
      cases q
      obtain ⟨⟨rs, δ3⟩, e6, e7⟩ := bnd e4
      cases e6
      obtain ⟨⟨ts, δ4⟩, e8, e9⟩ := bnd e7
      obtain ⟨ds2, e10, e11⟩ := bnd e9
      split at e11
      · rename_i hl2
        cases e11
        refine PySem.W.methodCall_KW (pl := pl) (thn (ho B G δ ro δ1 σ H (fun x H1 => ∃ a dx fs, x = .ref a ∧ H1 a = some (.ins C dx fs) ∧ fs.lookup m = none ∧ tKw X kws σ H1 fun zs H3 => SpC X ps ix ddv g (x :: zs) H3 Q ∧ zs.length = ks.length) e1 R (fun G1 v H1 l1 R1 o1 => ?_) pins s I) fun u s1 ⟨x, H1, I1, rx, a, dx, fs, ex, ea, hl, q1⟩ => ?_) ht
        · obtain ⟨G1', l1', R1', rv⟩ := R1.keep o1 e2
          obtain ⟨a, C', dx, fs, ev, ea, hC, hf, hr'⟩ := R1'.insOf rv e3
          rw [hcn.1, hm] at hC
          cases hC
          subst ev
          refine ⟨a, dx, fs, rfl, ea, lookup_none (by rw [hf]; exact hcn.2), ?_⟩
          refine hkw B G1' δ1 ts _ σ H1 _ e8 R1' fun G2 zs H2 l2 R2 o2 => ⟨?_, o2.length.trans hl2.2⟩
          have rp := R2.keepAll o2 e10
          exact SpC.of (mg := X.mg) R2 (.cons (Rep.mono l2.F l2.ρ _ _ rv) rp) (by rw [List.length_cons, ← rp.length, o2.length, hl2.2]; omega) hb (m := N) e5 fun G3 v H3 l3 R3 o3 => kk G3 v H3 (((l1.trans l1').trans l2).trans l3) R3 o3
        · subst ex
          obtain rfl : u = Value.ref a := rx
          refine getmeth_ok I1 ea hc me hl ?_
          refine PySem.W.callWith_KW0 (first := [.ref a]) (h₀ := X.base) I.ok.mod.kin me.kp hall (thn (q1 pos pins s1 I1) fun ws s3 ⟨zs, H3, I3, r3, q3⟩ => ⟨I3.kIn, ?_⟩) hpl
          rw [hks]
          exact wpAny_call (callv (E' := X.xe) (us := [.ref a]) (vs := .ref a :: zs) Cc hb hgu (hr.mono hk) I3.env0 I3.kIn (.cons rfl r3) rfl (by rw [← r3.length]; exact q3.2) q3.1 fun u s' q => I3.after q)
      · cases e11
    · cases q
  · cases q
theorem kc (ha : Snd X e fa) (hs : SndK X kws fks) : SndK X (⟨nm, e, kpos⟩ :: kws) (dCons fa fks) := sndk_cons ha hs
/-! ### calls -/
theorem c_def (N : Nat) (na : Nat) (Cc : CalD X.prog X.w X.K X.mg X.base k fad fd ps g) (hb : Binds X.K fd ps []) (hgu : X.A.guards = some []) (hr : Room j X.A) (hm : X.mg x = some (.ref fad)) (h : SndA X (e :: es) fas) (hk : k ≤ j := by decide) (hlen : na + ([] : List D).length = ps.length := by rfl) (hg : Gl X x := by rfl)
    (hdb : (x == ("__debug__" : Str)) = false := by decide) (he : starEach (e :: es) X.env = (false, eval e X.env) :: starEach es X.env := by rfl) (hpl : (backTo pos (starEach es X.env)).any (·.1) = false := by rfl) : Snd X (.Call (.Name x p) (e :: es) [] pos) (dCall na (fun ds => g N (ds ++ [])) fas) :=
  snd_call N Cc hgu hr hk hg hm hb .nil (fun _ _ => .nil) hlen h hdb he hpl
theorem c_new {y : Str} (N : Nat) (Cc : CalD X.prog X.w X.K X.mg X.base k fad fd [y] g) (hb : Binds X.K fd [y] []) (hgu : X.A.guards = some []) (hr : Room j X.A) (hm : X.mg x = some (.ref fad)) (h : Snd X e fa) (hk : k ≤ j := by decide) (hg : Gl X x := by rfl)
    (hdb : (x == ("__debug__" : Str)) = false := by decide) (he : starEach [e] X.env = (false, eval e X.env) :: starEach [] X.env := by rfl) (hpl : (backTo pos (starEach [] X.env)).any (·.1) = false := by rfl) : Snd X (.Call (.Name x p) [e] [] pos) (dCallNew (g N) fa) := snd_callNew N Cc hb hgu hr hk hg hm h hdb he hpl
theorem c_kw (N : Nat) (Cc : CalD X.prog X.w X.K X.mg X.base k fad fd ps g) (hb : CalB X.mg X.K fd ps n ks ix ddv) (hgu : X.A.guards = some []) (hr : Room j X.A) (hm : X.mg x = some (.ref fad)) (h : SndA X (e :: es) fas) (hkw : SndK X kws fks) (hk : k ≤ j := by decide) (hg : Gl X x := by rfl)
    (hall : (backToKw pos (keywordEach kws X.env)).all (·.1.isSome) = true := by rfl) (hks : (backToKw pos (keywordEach kws X.env)).filterMap (·.1) = ks := by rfl) (hdb : (x == ("__debug__" : Str)) = false := by decide) (he : starEach (e :: es) X.env = (false, eval e X.env) :: starEach es X.env := by rfl)
    (hpl : ((backTo pos (starEach (e :: es) X.env)).any (·.1) || (backToKw pos (keywordEach kws X.env)).any (·.1.isNone)) = false := by rfl) : Snd X (.Call (.Name x p) (e :: es) kws pos) (dCallK n ks.length ix ddv (g N) fas fks) := snd_callK N Cc hb hgu hr hk hg hm h hkw hall hks hdb he hpl
theorem c_mk (N : Nat) (Cc : CalD X.prog X.w X.K X.mg X.base k fad fd ps g) (hb : CalB X.mg X.K fd ps (n + 1) ks ix ddv) (M : Mk X.K C fad) (hgu : X.A.guards = some []) (hr : Room (j + 1) X.A) (hm : X.mg cn = some (.ref C)) (h : SndA X (e :: es) fas) (hkw : SndK X kws fks) (hk : k ≤ j := by decide) (hg : Gl X cn := by rfl)
    (hall : (backToKw pos (keywordEach kws X.env)).all (·.1.isSome) = true := by rfl) (hks : (backToKw pos (keywordEach kws X.env)).filterMap (·.1) = ks := by rfl) (hdb : (cn == ("__debug__" : Str)) = false := by decide) (he : starEach (e :: es) X.env = (false, eval e X.env) :: starEach es X.env := by rfl)
    (hpl : ((backTo pos (starEach (e :: es) X.env)).any (·.1) || (backToKw pos (keywordEach kws X.env)).any (·.1.isNone)) = false := by rfl) : Snd X (.Call (.Name cn p) (e :: es) kws pos) (dMake cn n ks.length ix ddv (g N) fas fks) := snd_make N Cc hb M hgu hr hk hg hm h hkw hall hks hdb he hpl
theorem c_mk0 (N : Nat) (Cc : CalD X.prog X.w X.K X.mg X.base k fad fd ps g) (hb : CalB X.mg X.K fd ps 1 ks ix ddv) (M : Mk X.K C fad) (hgu : X.A.guards = some []) (hr : Room (j + 1) X.A) (hm : X.mg cn = some (.ref C)) (hkw : SndK X kws fks) (hk : k ≤ j := by decide) (hg : Gl X cn := by rfl)
    (hall : (backToKw pos (keywordEach kws X.env)).all (·.1.isSome) = true := by rfl) (hks : (backToKw pos (keywordEach kws X.env)).filterMap (·.1) = ks := by rfl) (hdb : (cn == ("__debug__" : Str)) = false := by decide)
    (hpl : ((backTo pos (starEach [] X.env)).any (·.1) || (backToKw pos (keywordEach kws X.env)).any (·.1.isNone)) = false := by rfl) : Snd X (.Call (.Name cn p) [] kws pos) (dMake cn 0 ks.length ix ddv (g N) dNil fks) := snd_makeK0 N Cc hb M hgu hr hk hg hm hkw hall hks hdb hpl
theorem c_met {pl : Sem Bool} (N : Nat) (Cc : CalD X.prog X.w X.K X.mg X.base k fad fd ps g) (hb : CalB X.mg X.K fd ps (n + 1) ks ix ddv) (hgu : X.A.guards = some []) (hr : Room j X.A) (hm : X.mg cn = some (.ref C)) (hc : Cls X.K C) (me : Meth X.K C m fad) (ho : Snd X o fo) (h : SndA X (e :: es) fas) (hkw : SndK X kws fks) (hk : k ≤ j := by decide)
    (hall : (backToKw pos (keywordEach kws X.env)).all (·.1.isSome) = true := by rfl) (hks : (backToKw pos (keywordEach kws X.env)).filterMap (·.1) = ks := by rfl)
    (he : starEach (e :: es) X.env = (false, eval e X.env) :: starEach es X.env := by rfl) (hpl : ((backTo pos (starEach (e :: es) X.env)).any (·.1) || (backToKw pos (keywordEach kws X.env)).any (·.1.isNone)) = false := by rfl)
    (ht : eval (.Call (.Attribute o m apos) (e :: es) kws pos) X.env = (do
      let ov ← eval o X.env
      standAt apos.atName
      let (f, first) ← holding [ov] (getMethod ov m pl)
      callWith pos f first (backTo pos (starEach (e :: es) X.env)) (backToKw pos (keywordEach kws X.env))) := by rfl) :
    Snd X (.Call (.Attribute o m apos) (e :: es) kws pos) (dMeth cn m n ks.length ix ddv (g N) fo fas fks) := snd_meth N Cc hb hgu hr hk hm hc me ho h hkw hall hks he hpl ht
theorem c_metK {pl : Sem Bool} (N : Nat) (Cc : CalD X.prog X.w X.K X.mg X.base k fad fd ps g) (hb : CalB X.mg X.K fd ps 1 ks ix ddv) (hgu : X.A.guards = some []) (hr : Room j X.A) (hm : X.mg cn = some (.ref C)) (hc : Cls X.K C) (me : Meth X.K C m fad) (ho : Snd X o fo) (hkw : SndK X kws fks) (hk : k ≤ j := by decide)
    (hall : (backToKw pos (keywordEach kws X.env)).all (·.1.isSome) = true := by rfl) (hks : (backToKw pos (keywordEach kws X.env)).filterMap (·.1) = ks := by rfl) (hpl : ((backTo pos (starEach [] X.env)).any (·.1) || (backToKw pos (keywordEach kws X.env)).any (·.1.isNone)) = false := by rfl)
    (ht : eval (.Call (.Attribute o m apos) [] kws pos) X.env = (do
      let ov ← eval o X.env
      standAt apos.atName
      let (f, first) ← holding [ov] (getMethod ov m pl)
      callWith pos f first (backTo pos (starEach [] X.env)) (backToKw pos (keywordEach kws X.env))) := by rfl) :
    Snd X (.Call (.Attribute o m apos) [] kws pos) (dMeth cn m 0 ks.length ix ddv (g N) fo dNil fks) := snd_methK0 N Cc hb hgu hr hk hm hc me ho hkw hall hks hpl ht
theorem c_met0 {pl : Sem Bool} (N : Nat) (Cc : CalD X.prog X.w X.K X.mg X.base k fad fd ps g) (hb : CalB X.mg X.K fd ps 1 [] ix ddv) (hgu : X.A.guards = some []) (hr : Room j X.A) (hm : X.mg cn = some (.ref C)) (hc : Cls X.K C) (me : Meth X.K C m fad) (ho : Snd X o fo) (hk : k ≤ j := by decide)
    (ht : eval (.Call (.Attribute o m apos) [] [] pos) X.env = (do
      let ov ← eval o X.env
      standAt apos.atName
      let (f, first) ← holding [ov] (getMethod ov m pl)
      callWith pos f first (backTo pos (starEach [] X.env)) (backToKw pos (keywordEach [] X.env))) := by rfl) :
    Snd X (.Call (.Attribute o m apos) [] [] pos) (dMeth0 cn m ix ddv (g N) fo) := snd_meth0 N Cc hb hgu hr hk hm hc me ho ht
theorem c_prop (N : Nat) (Cc : CalD X.prog X.w X.K X.mg X.base k fad fd ps g) (hb : CalB X.mg X.K fd ps 1 [] ix ddv) (hgu : X.A.guards = some []) (hr : Room (j + 1) X.A) (hm : X.mg cn = some (.ref C)) (hc : Cls X.K C) (me : PropOf X.K C m pr fad) (ho : Snd X o fo) (hk : k ≤ j := by decide)
    (hab : attributeBase o m X.env (eval o X.env) = eval o X.env := by rfl) : Snd X (.Attribute o m pos) (dMeth0 cn m ix ddv (g N) fo) := snd_prop N Cc hb hgu hr hk hm hc me ho hab
theorem c_fld (hm : X.mg cn = some (.ref C)) (hc : Cls X.K C) (na : NoAttr X.K C m) (ho : Snd X o fo) (hab : attributeBase o m X.env (eval o X.env) = eval o X.env := by rfl) : Snd X (.Attribute o m pos) (dFld cn m fo) := snd_fld hm hc na ho hab
theorem c_len (N : Nat) (Cc : CalD X.prog X.w X.K X.mg X.base k fad fd ps g) (hb : CalB X.mg X.K fd ps 1 [] ix ddv) (hgu : X.A.guards = some []) (hr : Room (j + 1) X.A) (me : Meth X.K C "__len__" fad) (hm : X.mg cn = some (.ref C)) (hml : X.mg "len" = none) (h : SndA X [e] fas) (hk : k ≤ j := by decide)
    (hgl : Gl X "len" := by rfl) (he : starEach [e] X.env = (false, eval e X.env) :: starEach [] X.env := by rfl) (hpl : (backTo pos (starEach [] X.env)).any (·.1) = false := by rfl) : Snd X (.Call (.Name "len" p) [e] [] pos) (dOwn1 cn okLen ix ddv (g N) fas) := snd_lenO N Cc hb hgu hr hk me.at_ me.fn hm hgl hml h he hpl
theorem c_repr (N : Nat) (Cc : CalD X.prog X.w X.K X.mg X.base k fad fd ps g) (hb : CalB X.mg X.K fd ps 1 [] ix ddv) (hgu : X.A.guards = some []) (hr : Room (j + 1) X.A) (me : Meth X.K C "__repr__" fad) (hm : X.mg cn = some (.ref C)) (hml : X.mg "repr" = none) (h : SndA X [e] fas) (hk : k ≤ j := by decide)
    (hgl : Gl X "repr" := by rfl) (he : starEach [e] X.env = (false, eval e X.env) :: starEach [] X.env := by rfl) (hpl : (backTo pos (starEach [] X.env)).any (·.1) = false := by rfl) : Snd X (.Call (.Name "repr" p) [e] [] pos) (dOwn1 cn okTxt ix ddv (g N) fas) := snd_reprO N Cc hb hgu hr hk me.at_ me.fn hm hgl hml h he hpl
/-! ### methods of lists -/
theorem m_app (i : Nat) (hs : SndA X [e] fas) (hN : X.N[i]? = some x := by rfl) (hv : Vis X.env.scope x := by first | exact Or.inl rfl | exact Or.inr (Or.inl rfl) | exact Or.inr (Or.inr rfl)) (hd : (x == ("__debug__" : Str)) = false := by decide) (hcd : (x == ("__classdict__" : Str)) = false := by decide)
    (hbase : attributeBase (.Name x p) "append" X.env (eval (.Name x p) X.env) = eval (.Name x p) X.env := by rfl)
    (hfew : ((backTo cpos (starEach [e] X.env)).all (fun x => !x.1) && (backToKw cpos (keywordEach [] X.env)).all (fun x => x.1.isSome) && decide ([e].length + ([] : List Keyword).length + (if ([] : List Keyword).isEmpty then 0 else 1) < 30)) = true := by rfl)
    (hline : (apos.endLine == cpos.line) = true := by rfl) (hst : starEach [e] X.env = (false, eval e X.env) :: starEach [] X.env := by rfl) (hplain : (backTo cpos (starEach [] X.env)).any (·.1) = false := by rfl) : Snd X (.Call (.Attribute (.Name x p) "append" apos) [e] [] cpos) (dMut true uAppend i fas) :=
  snd_mut PySem.F.plainAttrs_list PySem.F.slot_list_append PySem.F.type_list_append mt_append lm_append hN hv hd hcd hs hbase hfew hline hst hplain
theorem m_popAt (i : Nat) (hs : SndA X [e] fas) (hN : X.N[i]? = some x := by rfl) (hv : Vis X.env.scope x := by first | exact Or.inl rfl | exact Or.inr (Or.inl rfl) | exact Or.inr (Or.inr rfl)) (hd : (x == ("__debug__" : Str)) = false := by decide) (hcd : (x == ("__classdict__" : Str)) = false := by decide)
    (hbase : attributeBase (.Name x p) "pop" X.env (eval (.Name x p) X.env) = eval (.Name x p) X.env := by rfl)
    (hfew : ((backTo cpos (starEach [e] X.env)).all (fun x => !x.1) && (backToKw cpos (keywordEach [] X.env)).all (fun x => x.1.isSome) && decide ([e].length + ([] : List Keyword).length + (if ([] : List Keyword).isEmpty then 0 else 1) < 30)) = true := by rfl)
    (hline : (apos.endLine == cpos.line) = true := by rfl) (hst : starEach [e] X.env = (false, eval e X.env) :: starEach [] X.env := by rfl) (hplain : (backTo cpos (starEach [] X.env)).any (·.1) = false := by rfl) : Snd X (.Call (.Attribute (.Name x p) "pop" apos) [e] [] cpos) (dMut false uPopAt i fas) :=
  snd_mut PySem.F.plainAttrs_list PySem.F.slot_list_pop PySem.F.type_list_pop mt_popAt lm_popAt hN hv hd hcd hs hbase hfew hline hst hplain
def uIdxL (x : D) (ds : List D) : Option RV := match x with
  | .tup _ => none
  | x => uIdx x ds
def dIdx (fo : DE) (fas : DA) : DE := fun δ => (fo δ).bind fun p => (p.1.pin.rd p.2).bind fun x0 => match x0 with
  | .lst _ => dRd uIdxL fo fas δ
  | .klst _ => dRd uIdxL fo fas δ
  | _ => none
theorem m_index (hr : Room j X.A) (ho : Snd X o fo) (hs : SndA X [e] fas) (hbase : attributeBase o "index" X.env (eval o X.env) = eval o X.env := by rfl)
    (hfew : ((backTo cpos (starEach [e] X.env)).all (fun x => !x.1) && (backToKw cpos (keywordEach [] X.env)).all (fun x => x.1.isSome) && decide ([e].length + ([] : List Keyword).length + (if ([] : List Keyword).isEmpty then 0 else 1) < 30)) = true := by rfl)
    (hline : (apos.endLine == cpos.line) = true := by rfl) (hst : starEach [e] X.env = (false, eval e X.env) :: starEach [] X.env := by rfl) (hplain : (backTo cpos (starEach [] X.env)).any (·.1) = false := by rfl) : Snd X (.Call (.Attribute o "index" apos) [e] [] cpos) (dIdx fo fas) :=
  snd_rdm PySem.F.plainAttrs_list PySem.F.slot_list_index PySem.F.type_list_index (mt_indexD (by have := hr.un; omega)) lrd_index ho hs hbase hfew hline hst hplain fun x ds rv q xs e => by subst e; cases q
/-! ### statements -/
theorem s_st (mk : Ks) (i : Nat) (hN : X.N.Nodup) (he : Snd X e f) (hi : X.N[i]? = some x := by rfl) (hx : Loc X.env.scope x := by first | exact Or.inl rfl | exact Or.inr rfl) (hs : swapsWith e (some (.Name x p')) pos.line X.env = pure false := by rfl) (hf : X.fn x = true ∨ X.env.scope.names.lookup x = some .local := by first | exact .inl rfl | exact .inr rfl) :
    SndS X (.Assign [.Name x p'] e pos) (dSt mk i f) := snds_st hN hi hx hs hf he
theorem s_asg (he : Snd X e f) (hg : SndG X tg gg) (hs : swapsWithSole [tg] e pos.line X.env = pure false := by rfl) (hw : swappedStores [tg] e X.env = pure none := by rfl) (h1 : (assignEach [tg] X.env).map (·.2) = [assign tg X.env] := by rfl) : SndS X (.Assign [tg] e pos) (dAsg f gg) := snds_asg he hg hs hw h1
theorem s_ex (h1 : Snd X e f) (hs : swapsWith e none pos.line X.env = pure false := by rfl) : SndS X (.Expr e pos) (dDrop f) := snds_expr h1 hs
theorem s_for {body : List Stmt} (hi : SndI X tg iter fi) (hg : SndG X tg gg) (hb : SndB X body fs) (hp : PassesOwn (model X.prog X.w) X.A X.env X.xe := by exact PassesOwn.never) (hc : X.calm = true := by rfl) (hs : ∀ x, foldedSetIterable iter X.env x = pure x := by intro _; rfl) : SndS X (.For tg iter body [] pos) (dFor fi gg fs) := snds_for hp hc hi hg hb hs
theorem s_forC {body : List Stmt} {mk : Nat → D → D} {fi : DSt → Option (Nat × DSt)} (n : Nat) (hi : SndC X tg iter mk fi) (hg : SndG X tg gg) (hb : SndB X body fs) (hp : PassesOwn (model X.prog X.w) X.A X.env X.xe := by exact PassesOwn.never) (hc : X.calm = true := by rfl) (hs : ∀ x, foldedSetIterable iter X.env x = pure x := by intro _; rfl) : SndS X (.For tg iter body [] pos) (dForC mk fi gg fs n) := snds_forC hp hc hs hi hg hb
theorem s_fld (hm : X.mg cn = some (.ref C)) (hc : Cls X.K C) (na : NoAttr X.K C m) (ho : Snd X o fo) (hv : Snd X e fa) (hs : swapsWith e (some (.Attribute o m p')) pos.line X.env = pure false := by rfl) : SndS X (.Assign [.Attribute o m p'] e pos) (dSetF cn m fo fa) := snds_fld hm hc na ho hv hs
theorem s_par (m1 m2 : Md) (i j : Nat) {x y : Str} {kt k2 : Nat} {px py pt pt2 : Pos} (hN : X.N.Nodup) (ha : Snd X a fa) (hb : Snd X b fb) (hi : X.N[i]? = some x := by rfl) (hj : X.N[j]? = some y := by rfl) (hij : i ≠ j := by decide) (hx : X.env.scope.names.lookup x = some .local := by rfl) (hy : X.env.scope.names.lookup y = some .local := by rfl) (hc : X.calm = true := by rfl)
    (hsa : starEach [a, b] X.env = (false, eval a X.env) :: starEach [b] X.env := by rfl) (hsb : starEach [b] X.env = (false, eval b X.env) :: starEach [] X.env := by rfl)
    (hw : swappedStores [.Tuple [.Name x px, .Name y py] kt pt] (.Tuple [a, b] k2 pt2) X.env = pure (some [x, y]) := by rfl) (hs : swapsWithSole [.Tuple [.Name x px, .Name y py] kt pt] (.Tuple [a, b] k2 pt2) pos.line X.env = pure false := by rfl) :
    SndS X (.Assign [.Tuple [.Name x px, .Name y py] kt pt] (.Tuple [a, b] k2 pt2) pos) (dPar m1 m2 i j fa fb) := snds_par hc hN hi hj hij hx hy ha hb hsa hsb hw hs
/-! ### targets -/
theorem g_nm (i : Nat) (hN : X.N.Nodup) (hi : X.N[i]? = some x := by rfl) (hx : Loc X.env.scope x := by first | exact Or.inl rfl | exact Or.inr rfl) (hf : X.fn x = true ∨ X.env.scope.names.lookup x = some .local := by first | exact .inl rfl | exact .inr rfl) : SndG X (.Name x pos) (gNm i) := sndg_name hN hi hx hf
theorem g_cs {ts : List Expr} {g2 : List D → DSt → Option DSt} (h1 : SndG X e gg) (h2 : SndGs X ts g2) (hs : (assignEach (e :: ts) X.env).map (·.2) = assign e X.env :: (assignEach ts X.env).map (·.2) := by rfl) : SndGs X (e :: ts) (gCs gg g2) := sndgs_cons h1 h2 hs
theorem g_tp {ts : List Expr} {g2 : List D → DSt → Option DSt} {k : Nat} (n : Nat) (h1 : SndGs X ts g2) (hc : X.calm = true := by rfl) (hn : (assignEach ts X.env).length = n := by rfl) (hst : (assignEach ts X.env).findIdx? (·.1) = none := by rfl) : SndG X (.Tuple ts k pos) (gTp n g2) := sndg_tup hc h1 hn hst
theorem g_sb (i : Nat) (hb : Snd X b fb) (hN : X.N[i]? = some x := by rfl) (hv : Vis X.env.scope x := by first | exact Or.inl rfl | exact Or.inr (Or.inl rfl) | exact Or.inr (Or.inr rfl)) (hd : (x == ("__debug__" : Str)) = false := by decide) (hcd : (x == ("__classdict__" : Str)) = false := by decide)
    (ha : ∀ v, assign (.Subscript (.Name x p) b pos) X.env v = (do
      let ov ← holding [v] (eval (.Name x p) X.env)
      let iv ← holding [v, ov] (eval b X.env)
      standAt pos
      holding [v, ov, iv] (setItem ov iv v)
      release [v, ov, iv] []) := by intro _; rfl) : SndG X (.Subscript (.Name x p) b pos) (gSb i fb) := sndg_sub hN hv hd hcd hb ha
theorem w_nm {vs : List Nat} (i : Nat) (hN : X.N.Nodup) (hi : X.N[i]? = some x := by rfl) (hx : Loc X.env.scope x := by first | exact Or.inl rfl | exact Or.inr rfl) (hf : X.fn x = true ∨ X.env.scope.names.lookup x = some .local := by first | exact .inl rfl | exact .inr rfl) (hv : i ∈ vs := by decide) : SndGw vs X (.Name x pos) (gNm i) := sndgw_name hN hi hx hf hv
theorem w_cs {vs : List Nat} {ts : List Expr} {g2 : List D → DSt → Option DSt} (h1 : SndGw vs X e gg) (h2 : SndGsw vs X ts g2) (hs : (assignEach (e :: ts) X.env).map (·.2) = assign e X.env :: (assignEach ts X.env).map (·.2) := by rfl) : SndGsw vs X (e :: ts) (gCs gg g2) := sndgsw_cons h1 h2 hs
theorem w_tp {vs : List Nat} {ts : List Expr} {g2 : List D → DSt → Option DSt} {k : Nat} (n : Nat) (h1 : SndGsw vs X ts g2) (hc : X.calm = true := by rfl) (hn : (assignEach ts X.env).length = n := by rfl) (hst : (assignEach ts X.env).findIdx? (·.1) = none := by rfl) : SndGw vs X (.Tuple ts k pos) (gTp n g2) := sndgw_tup hc h1 hn hst
/-! ### what is walked -/
theorem i_seq (he : Snd X iter f) : SndI X tg iter (orI (iSeq f) (iTp f)) := sndi_alt (sndi_lst he) (sndi_tup he)
theorem i_r1 (hm : X.mg "range" = none) (ha : SndA X [a] fas) (hg : Gl X "range" := by rfl) (hs : starEach [a] X.env = [(false, eval a X.env)] := by rfl) : SndI X tg (.Call (.Name "range" p) [a] [] pos) (iRg1 fas) := sndi_rng1 hg hm ha hs
theorem i_r2 (hm : X.mg "range" = none) (ha : SndA X [a, b] fas) (hg : Gl X "range" := by rfl) (hs : starEach [a, b] X.env = [(false, eval a X.env), (false, eval b X.env)] := by rfl) (hs2 : starEach [b] X.env = [(false, eval b X.env)] := by rfl) : SndI X tg (.Call (.Name "range" p) [a, b] [] pos) (iRg2 fas) := sndi_rng2 hg hm ha hs hs2
theorem i_en {elts : List Expr} {kk : Nat} {tpos : Pos} (hm : X.mg "enumerate" = none) (ha : SndA X [e] fas) (hg : Gl X "enumerate" := by rfl) (hs : starEach [e] X.env = [(false, eval e X.env)] := by rfl) : SndI X (.Tuple elts kk tpos) (.Call (.Name "enumerate" p) [e] [] pos) (iEn fas) := sndi_en hg hm hs ha
theorem i_enC {elts : List Expr} {kk : Nat} {tpos : Pos} (hm : X.mg "enumerate" = none) (he : Snd X e f) (hg : Gl X "enumerate" := by rfl) (hs : starEach [e] X.env = [(false, eval e X.env)] := by rfl) (hs2 : starEach [e] X.env = (false, eval e X.env) :: starEach [] X.env := by rfl) : SndC X (.Tuple elts kk tpos) (.Call (.Name "enumerate" p) [e] [] pos) mkE (cOf f) := sndc_en hg hm hs hs2 he
/-! ### comprehensions -/
theorem e_lc (own : List (Str × Nat)) {scope : Scope} {ifs : List Expr} (hN : X.N.Nodup) (hi : SndI X tg iter fi) (hg : ∀ Y, Blk X scope Y → SndGw (own.map (·.2)) Y tg gg) (ht : ∀ Y, Blk X scope Y → SndIf Y ifs ft) (he : ∀ Y, Blk X scope Y → Snd Y elt f) (ok : BlkOk X.N X.env.scope scope own := by exact blkOk_by (by decide +kernel)) (hc : X.calm = true := by rfl) (hs : ∀ x, foldedSetIterable iter X.env x = pure x := by intro _; rfl) :
    Snd X (.ListComp elt [⟨tg, iter, ifs, 0⟩] scope pos) (dLc fi gg ft f (own.map (·.2))) := snd_lc hc hN ok hs hi hg ht he
theorem s_stLc (mk : Ks) (i : Nat) (own : List (Str × Nat)) {y : Str} {py : Pos} {scope : Scope} {ifs : List Expr} (hN : X.N.Nodup) (hi : SndI X tg iter fi) (hg : ∀ Y, Blk X scope Y → SndGw (own.map (·.2)) Y tg gg) (ht : ∀ Y, Blk X scope Y → SndIf Y ifs ft) (he : ∀ Y, Blk X scope Y → Snd Y elt f) (hy : X.N[i]? = some y := by rfl) (hyl : X.env.scope.names.lookup y = some .local := by rfl)
    (hsw : swapsWith (.ListComp elt [⟨tg, iter, ifs, 0⟩] scope pos) (some (.Name y py)) spos.line X.env = pure true := by rfl) (ok : BlkOk X.N X.env.scope scope own := by exact blkOk_by (by decide +kernel)) (hc : X.calm = true := by rfl) (hs : ∀ x, foldedSetIterable iter X.env x = pure x := by intro _; rfl) :
    SndS X (.Assign [.Name y py] (.ListComp elt [⟨tg, iter, ifs, 0⟩] scope pos) spos) (dSt mk i (dLc fi gg ft f (own.map (·.2)))) := snds_stLc hc hN hy hyl hsw ok hs hi hg ht he
/-! ### slices, sets, ranges -/
theorem p_lset (hml : X.mg "len" = none) (hms : X.mg "set" = none) (ha : Snd X a fa) (hg : Gl X "len" := by rfl) (hg2 : Gl X "set" := by rfl) (hc : X.calm = true := by rfl) (na : starEach [a] X.env = (false, eval a X.env) :: starEach [] X.env := by rfl) : Snd X (.Call (.Name "len" p) [.Call (.Name "set" p2) [a] [] q0] [] pos) (dLs fa) := snd_lenSet hg hml hg2 hms hc na ha
theorem p_lr1 (hml : X.mg "list" = none) (hmr : X.mg "range" = none) (ha : Snd X a fa) (hg : Gl X "list" := by rfl) (hg2 : Gl X "range" := by rfl) (hc : X.calm = true := by rfl) (na : starEach [a] X.env = (false, eval a X.env) :: starEach [] X.env := by rfl)
    (ne : starEach [.Call (.Name "range" p2) [a] [] q0] X.env = (false, eval (.Call (.Name "range" p2) [a] [] q0) X.env) :: starEach [] X.env := by rfl) : Snd X (.Call (.Name "list" p) [.Call (.Name "range" p2) [a] [] q0] [] pos) (dLr1 fa) := snd_listRg1 hc hg hml hg2 hmr na ne ha
theorem p_lr2 (hml : X.mg "list" = none) (hmr : X.mg "range" = none) (ha : Snd X a fa) (hb : Snd X b fb) (hg : Gl X "list" := by rfl) (hg2 : Gl X "range" := by rfl) (hc : X.calm = true := by rfl) (na : starEach [a, b] X.env = (false, eval a X.env) :: starEach [b] X.env := by rfl) (nb : starEach [b] X.env = (false, eval b X.env) :: starEach [] X.env := by rfl) (hpl : (backTo q0 (starEach [b] X.env)).any (·.1) = false := by rfl)
    (ne : starEach [.Call (.Name "range" p2) [a, b] [] q0] X.env = (false, eval (.Call (.Name "range" p2) [a, b] [] q0) X.env) :: starEach [] X.env := by rfl) : Snd X (.Call (.Name "list" p) [.Call (.Name "range" p2) [a, b] [] q0] [] pos) (dLr2 fa fb) := snd_listRg2 hc hg hml hg2 hmr na nb hpl ne ha hb
end
end EV
set_option Elab.async false
set_option linter.all false
set_option maxRecDepth 100000
set_option maxHeartbeats 1000000
/-! EV 16: what the head tells -/
namespace EV
open PySem L2 PySem.Spec PyProof.Rows

/-- where a def stands: a global, a method, a property's getter -/
inductive Ad where
  | glo (x : Str) | met (c m : Str) | prp (c m : Str)
def Ad.at_ (K : PySem.W.Frag) : Ad → Addr
  | .glo x => He.ga K x
  | .met c m => He.ma K (He.ga K c) m
  | .prp c m => match PySem.W.recIn K (He.ma K (He.ga K c) m) "property" with
    | some (.ref g :: _) => g
    | _ => 0
structure Df where
  ad : Ad
  name : Str
  qual : Str
  st : Stmt
def fnZ (K : PySem.W.Frag) (a : Addr) : He.FnW := match K.lookup a with
  | some ⟨_, _, .func fd, _⟩ => some (fd.name, fd.qualname, fd.params, fd.body, fd.scope, fd.globals, fd.closure, fd.builtins)
  | _ => none
def Df.val (d : Df) : He.FnW := some (d.name, d.qual, defArgs d.st, .stmts (defBody d.st), defScope d.st, mainGlobals, [], builtinsNs)
def isNo : Value → Bool
  | .none => true
  | _ => false
def Df.ok (K : PySem.W.Frag) (d : Df) : Bool := PySem.W.keepIn K (.ref (d.ad.at_ K)) && (match K.lookup (d.ad.at_ K) with
  | some ⟨_, _, .func fd, _⟩ => PySem.W.codeIn K fd.code d.qual && isNo fd.defaults
  | _ => false)
theorem Df.funD {K : PySem.W.Frag} {d : Df} (e : fnZ K (d.ad.at_ K) = d.val) (c : d.ok K = true) : ∃ fd, FunD K d.name d.qual (defArgs d.st) (defBody d.st) (defScope d.st) [] [] (d.ad.at_ K) fd := by
  have ⟨kp, c2⟩ : PySem.W.keepIn K (.ref (d.ad.at_ K)) = true ∧ (match K.lookup (d.ad.at_ K) with
    | some ⟨_, _, .func fd, _⟩ => PySem.W.codeIn K fd.code d.qual && isNo fd.defaults
    | _ => false) = true := Bool.and_eq_true_iff.mp c
  unfold fnZ at e
  revert e c2
  cases q : K.lookup (d.ad.at_ K) with
  | none => intro _ c2; cases c2
  | some o =>
    obtain ⟨oc, od, dt, osl⟩ := o
    cases dt with
    | func fd =>
      intro e c2
      obtain ⟨z1, z2, z3, z4, z5, z6, z7, z8, z9, z10, z11, z12, z13, z14, z15⟩ := fd
      have c5 : PySem.W.codeIn K z13 d.qual = true ∧ isNo z8 = true := Bool.and_eq_true_iff.mp c2
      clear c2
      have e : (some (z1, z2, z3, z4, z5, z6, z7, z15) : He.FnW) = some (d.name, d.qual, defArgs d.st, .stmts (defBody d.st), defScope d.st, mainGlobals, [], builtinsNs) := e
      obtain ⟨rfl, rfl, rfl, rfl, rfl, rfl, rfl, rfl⟩ : z1 = d.name ∧ z2 = d.qual ∧ z3 = defArgs d.st ∧ z4 = .stmts (defBody d.st) ∧ z5 = defScope d.st ∧ z6 = mainGlobals ∧ z7 = [] ∧ z15 = builtinsNs := by simpa using e
      obtain ⟨c3, c4⟩ := c5
      have hz : z8 = .none := by
        clear q
        cases z8 <;> first | rfl | exact (nomatch c4)
      exact ⟨_, ⟨oc, od, z8, z9, z10, z11, z12, z13, z14, osl, rfl, q, c3, .inl ⟨rfl, hz⟩, .inl rfl⟩, kp⟩
    | _ => intro _ c2; cases c2
abbrev AlZ : Type := Bool × Bool × List He.FnW
def obsZ (fa : List He.Fa) (fn : List Df) (ex : PySem.W.Frag → Bool) (K : PySem.W.Frag) : AlZ := ((fa.all fun f => f.ok K) && ex K, fn.all fun d => d.ok K, fn.map fun d => fnZ K (d.ad.at_ K))
def valZ (fn : List Df) : AlZ := (true, true, fn.map Df.val)
def hookZ (n : Nat) (fa : List He.Fa) (fn : List Df) (ex : PySem.W.Frag → Bool) : PySem.W.Hook where
  α := AlZ
  obs := fun s => obsZ fa fn ex (He.frG s.heap.get? (He.asD s.heap.get? n))
  val := fun _ => valZ fn
  says := fun _ h => ∃ K : PySem.W.Frag, K.In h ∧ obsZ fa fn ex K = valZ fn
  of := fun _ _ e => ⟨_, He.frG_in, e⟩
  keeps := fun _ _ _ ⟨K, hK, c⟩ k => ⟨K, PySem.W.Frag.In.keeps hK k, c⟩
theorem obsZ_eq {n : Nat} {fa : List He.Fa} {fn : List Df} {ex : PySem.W.Frag → Bool} {g : Addr → Option Obj} {s : Shared} (h : ∀ a, g a = s.heap.get? a) : obsZ fa fn ex (He.frG g (He.asD g n)) = (hookZ n fa fn ex).obs s := by
  have e : g = s.heap.get? := funext h
  subst e
  rfl
section
variable {fa : List He.Fa} {fn : List Df} {ex : PySem.W.Frag → Bool} {K : PySem.W.Frag} (c : obsZ fa fn ex K = valZ fn)
include c
theorem saysZ_fact (i : Nat) {f : He.Fa} (h : fa[i]? = some f) : f.ok K = true := by
  have c1 : ((fa.all fun f => f.ok K) && ex K) = true := congrArg (fun z : AlZ => z.1) c
  exact List.all_eq_true.mp (Bool.and_eq_true_iff.mp c1).1 f (List.mem_of_getElem? h)
theorem saysZ_ex : ex K = true := by
  have c1 : ((fa.all fun f => f.ok K) && ex K) = true := congrArg (fun z : AlZ => z.1) c
  exact (Bool.and_eq_true_iff.mp c1).2
theorem saysZ_def (i : Nat) {d : Df} (h : fn[i]? = some d) : ∃ fd, FunD K d.name d.qual (defArgs d.st) (defBody d.st) (defScope d.st) [] [] (d.ad.at_ K) fd := by
  have c2 : (fn.all fun d => d.ok K) = true := congrArg (fun z : AlZ => z.2.1) c
  have c3 : fn.map (fun d => fnZ K (d.ad.at_ K)) = fn.map Df.val := congrArg (fun z : AlZ => z.2.2) c
  have c4 := congrArg (fun l => l[i]?) c3
  simp only [List.getElem?_map, h, Option.map_some] at c4
  exact Df.funD (Option.some.inj c4) (List.all_eq_true.mp c2 d (List.mem_of_getElem? h))
end
/-! ### facts of classes -/
def oB (a b : Option (Option Value)) : Bool := decide (a = b)
def propB (K : PySem.W.Frag) (C : Addr) (m : Str) : Bool := oB (PySem.W.findIn K (.ref C) m) (some (some (.ref (He.ma K C m)))) && (oB (PySem.W.specialIn K (.ref (He.ma K C m)) "__get__") (some (some (.builtin "property.__get__"))) && (decide (PySem.W.takesIn K (.ref (He.ma K C m)) = some true) &&
  (match PySem.W.recIn K (He.ma K C m) "property" with
    | some (.ref _ :: _) => true
    | _ => false)))
theorem propB_ok {K : PySem.W.Frag} {c m : Str} (h : propB K (He.ga K c) m = true) : PropOf K (He.ga K c) m (He.ma K (He.ga K c) m) ((Ad.prp c m).at_ K) := by
  unfold propB at h
  simp only [Bool.and_eq_true] at h
  obtain ⟨h1, h2, h3, h4⟩ := h
  refine ⟨of_decide_eq_true h1, of_decide_eq_true h2, of_decide_eq_true h3, ?_⟩
  show ∃ rest, PySem.W.recIn K (He.ma K (He.ga K c) m) "property" = some (.ref (match PySem.W.recIn K (He.ma K (He.ga K c) m) "property" with
    | some (.ref g :: _) => g
    | _ => 0) :: rest)
  split at h4
  · rename_i g rest e
    rw [e]
    exact ⟨rest, rfl⟩
  · cases h4
def iscB (K : PySem.W.Frag) (C : Addr) : Bool := oB (PySem.W.findIn K (.ref C) "__class__") (some (some (.builtin "object.__class__"))) && (oB (PySem.W.specialIn K (.builtin "object.__class__") "__get__") (some (some (.builtin "getset_descriptor.__get__"))) &&
  (decide (PySem.W.takesIn K (.builtin "object.__class__") = some true) && decide (PySem.W.mroIn K C (.type "object") = some true)))
theorem iscB_ok {K : PySem.W.Frag} {C : Addr} (cl : Cls K C) (h : iscB K C = true) : IsC K C := by
  unfold iscB at h
  simp only [Bool.and_eq_true] at h
  exact ⟨cl, of_decide_eq_true h.1, of_decide_eq_true h.2.1, of_decide_eq_true h.2.2.1, of_decide_eq_true h.2.2.2⟩
def kitsB (K : PySem.W.Frag) (cs : List Str) : Bool := (cs.all fun c => tyNs.all fun b => decide (PySem.W.kitOne K (.ref (He.ga K c)) (.type b) = some false) && decide (PySem.W.kitOne K (.type b) (.ref (He.ga K c)) = some false)) &&
  cs.all fun c => cs.all fun c' => decide (PySem.W.kitOne K (.ref (He.ga K c)) (.ref (He.ga K c')) = some (c == c'))
theorem clsF_of {mg : Str → Option Value} {K : PySem.W.Frag} {cs : List Str} (g : ∀ c ∈ cs, mg c = some (.ref (He.ga K c))) (i : ∀ c ∈ cs, IsC K (He.ga K c)) (h : kitsB K cs = true) : ClsF mg K cs := by
  unfold kitsB at h
  obtain ⟨h1, h2⟩ := Bool.and_eq_true_iff.mp h
  refine ⟨fun c hc => ⟨_, g c hc, i c hc⟩, fun c hc C e b hb => ?_, fun c hc c' hc' C C' e e' => ?_⟩
  · rw [g c hc] at e
    obtain rfl : He.ga K c = C := by simpa using e
    have z := List.all_eq_true.mp (List.all_eq_true.mp h1 c hc) b hb
    obtain ⟨z1, z2⟩ := Bool.and_eq_true_iff.mp z
    exact ⟨of_decide_eq_true z1, of_decide_eq_true z2⟩
  · rw [g c hc] at e
    rw [g c' hc'] at e'
    obtain rfl : He.ga K c = C := by simpa using e
    obtain rfl : He.ga K c' = C' := by simpa using e'
    exact of_decide_eq_true (List.all_eq_true.mp (List.all_eq_true.mp h2 c hc) c' hc')
def neB (K : PySem.W.Frag) (C : Addr) : Bool := oB (PySem.W.findIn K (.ref C) "__ne__") (some (some (.builtin "object.__ne__")))
theorem eqO_of {K : PySem.W.Frag} {C f : Addr} (i : IsC K C) (me : Meth K C "__eq__" f) (h : neB K C = true) : EqO K C f := ⟨me.at_, me.fn, of_decide_eq_true h, i.cm⟩
end EV
set_option Elab.async false
set_option linter.all false
set_option maxRecDepth 100000
set_option maxHeartbeats 1000000
/-! EV 17: comprehensions over typed lists -/
namespace EV
open PySem L2
/-- one turn of a comprehension: the item x, kept if b, then as y -/
def Turn1 (g : DG) (t : DT) (f : DE) (sl : List (Option SD)) (ce : List D) (x : D) (b : Bool) (y : D) : Prop :=
  ∃ δ1 δ2, g x ⟨sl, ce⟩ = some δ1 ∧ t δ1 = some (b, δ2) ∧ (b = false → δ2.ce = ce) ∧ (b = true → ∃ r δ3, f δ2 = some (r, δ3) ∧ r.pin.keep δ3 = some y ∧ δ3.ce = ce)
theorem turn_yes {g : DG} {f : DE} {sl : List (Option SD)} {ce : List D} {x y : D} {δ1 : DSt} {r : RV} (hg : g x ⟨sl, ce⟩ = some δ1) (hf : f δ1 = some (r, δ1)) (hk : r.pin.keep δ1 = some y) (hc : δ1.ce = ce) : Turn1 g tYesD f sl ce x true y :=
  ⟨δ1, δ1, hg, rfl, fun h => (nomatch h), fun _ => ⟨r, δ1, hf, hk, hc⟩⟩
theorem turn_tst {g : DG} {t : DT} {f : DE} {sl : List (Option SD)} {ce : List D} {x y : D} {b : Bool} {δ1 : DSt} {r : RV} (hg : g x ⟨sl, ce⟩ = some δ1) (ht : t δ1 = some (b, δ1)) (hf : f δ1 = some (r, δ1)) (hk : r.pin.keep δ1 = some y) (hc : δ1.ce = ce) : Turn1 g t f sl ce x b y :=
  ⟨δ1, δ1, hg, ht, fun _ => hc, fun _ => ⟨r, δ1, hf, hk, hc⟩⟩
theorem filter_yes {α : Type} (xs : List α) : (xs.filter fun _ => true) = xs := by simp
theorem lcL_typed {α : Type} {g : DG} {t : DT} {f : DE} {sl : List (Option SD)} {ce : List D} (enc : α → D) (P : α → Bool) (out : α → D) : ∀ (xs : List α) (acc : List D), (∀ x ∈ xs, Turn1 g t f sl ce (enc x) (P x) (out x)) → acc.length + xs.length ≤ 16777216 →
    lcL g t f sl (xs.map enc) acc ce = some (acc ++ (xs.filter P).map out, ce)
  | [], acc, _, _ => by simp [lcL]
  | x :: xs, acc, h, hl => by
    have hl : acc.length + (xs.length + 1) ≤ 16777216 := by simpa using hl
    obtain ⟨δ1, δ2, h1, h2, h3, h4⟩ := h x (by simp)
    have rest := fun acc' hl' => lcL_typed enc P out xs acc' (fun y hy => h y (by simp [hy])) hl'
    have l1 : acc.length < 16777216 := by omega
    cases hp : P x with
    | true =>
      obtain ⟨r, δ3, h5, h6, h7⟩ := h4 hp
      simp only [List.map_cons, lcL, h1, Option.bind_some, h2, hp, if_true, h5, h6, h7, l1, and_self]
      rw [rest _ (by simp; omega)]
      simp [hp]
    | false =>
      simp only [List.map_cons, lcL, h1, Option.bind_some, h2, hp, h3 hp, if_true]
      simp only [Bool.false_eq_true, if_false]
      rw [rest _ (by omega)]
      simp [hp]
theorem dLc_typed {α : Type} {fi : DI} {g : DG} {t : DT} {f : DE} {vs : List Nat} {δ δ1 : DSt} (enc : α → D) (P : α → Bool) (out : α → D) (xs : List α) (hi : fi δ = some (xs.map enc, δ1)) (h : ∀ x ∈ xs, Turn1 g t f (wipeD (hideO δ1.sl) vs) δ1.ce (enc x) (P x) (out x)) (hl : xs.length ≤ 16777216) :
    dLc fi g t f vs δ = some (.fresh (.lst ((xs.filter P).map out)), δ1) := by
  unfold dLc
  rw [hi, Option.bind_some, lcL_typed enc P out xs [] h (by simpa using hl)]
  simp
end EV
set_option Elab.async false
set_option linter.all false
set_option maxRecDepth 100000
set_option maxHeartbeats 1000000
/-! EV 18: {i: j}, three names at once, calls by names alone, f(), repr of a dict of scalars -/
namespace EV
open PySem L2 PySem.Spec PyProof.Rows

section
variable {X : Cx} {e a b c : Expr} {kws : List Keyword} {fa fb fc f : DE} {fas fks : DA} {pos p1 p2 p : Pos} {x : Str} {k j : Nat} {fad : Addr} {fd : FuncData} {ps ks : List Str} {ix : List Nat} {ddv : List D} {g : Nat → List D → List D → Option (Ret × List D)}
theorem snd_dic1 {i k : Int} {m n : Nat} : Snd X (.Dict [some (.Constant (.int i) m p1)] [.Constant (.int k) n p2] pos) (dC (.dic [.int i] [.int k])) := by
  intro B G δ r δ' σ H Q h R kk
  cases h
  refine tE_of (pe_disp (pps_cons pe_int pe_int pps_nil) rfl rfl (by simp) (by simp)) ?_
  intro p hp
  refine ⟨upd_same, [(.inl i, .int k)], rfl, by simp, ?_⟩
  obtain ⟨R', h1, h2, h3, h4⟩ := R.push (o := .dK [(.inl i, .int k)]) hp
  obtain ⟨l, R2⟩ := R'.freeze h1 h2 h3 h4 upd_same
  show Q (.ref p) (upd (upd H p (.dK [])) p (.dK [(.inl i, .int k)]))
  rw [upd_upd]
  exact kk _ _ _ l R2 (.dic upd_same rfl (.cons (.int k) .nil))
/-! ### calls -/
theorem c_kw0 (N : Nat) (Cc : CalD X.prog X.w X.K X.mg X.base k fad fd ps g) (hb : CalB X.mg X.K fd ps 0 ks ix ddv) (hgu : X.A.guards = some []) (hr : Room j X.A) (hm : X.mg x = some (.ref fad)) (hkw : SndK X kws fks) (hk : k ≤ j := by decide) (hg : Gl X x := by rfl)
    (hall : (backToKw pos (keywordEach kws X.env)).all (·.1.isSome) = true := by rfl) (hks : (backToKw pos (keywordEach kws X.env)).filterMap (·.1) = ks := by rfl) (hdb : (x == ("__debug__" : Str)) = false := by decide)
    (hpl : ((backTo pos (starEach [] X.env)).any (·.1) || (backToKw pos (keywordEach kws X.env)).any (·.1.isNone)) = false := by rfl) : Snd X (.Call (.Name x p) [] kws pos) (dCallK 0 ks.length ix ddv (g N) dNil fks) := snd_callK0 N Cc hb hgu hr hk hg hm hkw hall hks hdb hpl
theorem c_def0 (N : Nat) (Cc : CalD X.prog X.w X.K X.mg X.base k fad fd [] g) (hb : CalB X.mg X.K fd [] 0 [] [] []) (hgu : X.A.guards = some []) (hr : Room j X.A) (hm : X.mg x = some (.ref fad)) (hk : k ≤ j := by decide) (hg : Gl X x := by rfl) (hdb : (x == ("__debug__" : Str)) = false := by decide) :
    Snd X (.Call (.Name x p) [] [] pos) (dCall0 (g N) []) := snd_call0 N Cc hb (fun l h => by cases l with | nil => rfl | cons _ _ => simp at h) hgu hr hk hg hm hdb
/-! ### three names at once -/
def dPar3 (i j l : Nat) (fas : DA) : DS := fun δ => (fas δ).bind fun p => (keepAll p.2 p.1).bind fun ds => match ds with
  | [a, b, c] => some (.nx, ((p.2.putV i a).putV j b).putV l c)
  | _ => none
theorem s_par3 (i j l : Nat) {x y z : Str} {px py pz pt pt2 : Pos} {kt k2 : Nat} (hN : X.N.Nodup) (ha : SndA X [a, b, c] fas) (hc : X.calm = true := by rfl) (hi : X.N[i]? = some x := by rfl) (hj : X.N[j]? = some y := by rfl) (hl : X.N[l]? = some z := by rfl) (hij : i ≠ j := by decide) (hil : i ≠ l := by decide) (hjl : j ≠ l := by decide)
    (hx : X.env.scope.names.lookup x = some .local := by rfl) (hy : X.env.scope.names.lookup y = some .local := by rfl) (hz : X.env.scope.names.lookup z = some .local := by rfl)
    (hw : swappedStores [.Tuple [.Name x px, .Name y py, .Name z pz] kt pt] (.Tuple [a, b, c] k2 pt2) X.env = pure (some [x, y, z]) := by rfl)
    (hs : swapsWithSole [.Tuple [.Name x px, .Name y py, .Name z pz] kt pt] (.Tuple [a, b, c] k2 pt2) pos.line X.env = pure false := by rfl) :
    SndS X (.Assign [.Tuple [.Name x px, .Name y py, .Name z pz] kt pt] (.Tuple [a, b, c] k2 pt2) pos) (dPar3 i j l fas) := by
  intro B G δ fl δ' σ H Dn h R k
  obtain ⟨⟨rs, δ1⟩, e1, h⟩ := bnd h
  obtain ⟨ds, e2, h⟩ := bnd h
  split at h
  · rename_i d1 d2 d3
    cases h
    refine tSt_of (ps_par3 hc hN hi hj hl hij hil hjl hx hy hz (pa_tA X [a, b, c]) hw hs) ?_
    refine ha B G δ rs δ1 σ H _ e1 R fun G1 vs H1 l1 R1 o1 => ?_
    have rp := R1.keepAll o1 e2
    cases rp with
    | cons r1 t1 =>
      cases t1 with
      | cons r2 t2 =>
        cases t2 with
        | cons r3 t3 =>
          cases t3
          exact ⟨_, _, _, rfl, k G1 _ H1 l1 (((R1.putV r1 i).putV r2 j).putV r3 l)⟩
  · cases h
/-! ### repr of a dict of scalars -/
def scD : D → Bool
  | .non | .bl _ | .int _ | .str _ => true
  | _ => false
inductive Sc1 : V → PyData → Prop
  | non : Sc1 .non .none
  | bl (b : Bool) : Sc1 (.bl b) (.bool b)
  | int (i : Int) : Sc1 (.int i) (.int i)
  | str (x : Str) : Sc1 (.str x) (.str x)
def kP : Key → PyData
  | .inl i => .int i
  | .inr x => .str x
theorem reads_sc {h : Heap} {v : V} {u : Value} {d : PyData} (s : Sc1 v d) (r : RelV v u) : Reads h u d [] := by
  cases s with
  | non => cases r; exact .none
  | bl b => cases r; exact .bool b
  | int i => obtain ⟨t, rfl⟩ := r; exact .int i t
  | str x => obtain ⟨t, rfl⟩ := r; exact .str x t
theorem reads_key {h : Heap} {k : Key} {u : Value} (e : keyIs k u = true) : Reads h u (kP k) [] := by
  rcases keyIs_shape e with ⟨i, t, rfl, rfl⟩ | ⟨x, t, rfl, rfl⟩
  · exact .int i t
  · exact .str x t
theorem reads_pairs {P : Program} {w : World} {h : Heap} : ∀ {kvs : List (Key × V)} {vs : List (Key × Value)} {es : List DictEntry} {ds : List PyData}, KV kvs vs → Pairs (mixKind P w) es vs → Paired Sc1 (kvs.map (·.2)) ds →
    ReadsAll h (es.map (·.key)) (kvs.map fun p => kP p.1) [] ∧ ReadsAll h (es.map (·.val)) ds []
  | [], _, _, _, r, q, s => by
    cases r; cases q; cases s
    exact ⟨.nil, .nil⟩
  | p :: kvs, _, _, _, r, q, s => by
    cases r with
    | @cons _ v _ vs hv tv =>
      cases q with
      | @cons e _ es _ he1 he2 te =>
        rw [List.map_cons] at s
        cases s with
        | @cons _ d _ ds hd td =>
          obtain ⟨h1, h2⟩ := reads_pairs (h := h) tv te td
          have hk : keyIs p.1 e.key = true := by rw [hv.1]; exact he1
          refine ⟨?_, ?_⟩
          · exact ReadsAll.cons (as := []) (bs := []) (reads_key hk) h1
          · exact ReadsAll.cons (as := []) (bs := []) (by show Reads h e.val d []; rw [he2]; exact reads_sc hd hv.2) h2
theorem paired_len {α β : Type} {R : α → β → Prop} : ∀ {xs : List α} {ys : List β}, Paired R xs ys → xs.length = ys.length
  | _, _, .nil => rfl
  | _, _, .cons _ t => by rw [List.length_cons, List.length_cons, paired_len t]
theorem zip_fst {α β : Type} : ∀ {xs : List α} {ys : List β}, xs.length = ys.length → (xs.zip ys).map (·.1) = xs
  | [], [], _ => rfl
  | x :: xs, y :: ys, h => by rw [List.zip_cons_cons, List.map_cons, zip_fst (by simpa using h)]
theorem zip_snd {α β : Type} : ∀ {xs : List α} {ys : List β}, xs.length = ys.length → (xs.zip ys).map (·.2) = ys
  | [], [], _ => rfl
  | x :: xs, y :: ys, h => by rw [List.zip_cons_cons, List.map_cons, zip_snd (by simpa using h)]
def rReprD : List V → Hp → VK → Prop := fun xs H Q => ∃ p kvs ds d, xs = [.ref p] ∧ H p = some (.dK kvs) ∧ Paired Sc1 (kvs.map (·.2)) ds ∧ d = PyData.dict ((kvs.map fun p => kP p.1).zip ds) ∧ d.showable = true ∧ d.depth ≤ 64 ∧ d.shown.length ≤ sizeLine ∧ Q (.str d.shown) H
theorem call_reprD (hgu : X.A.guards = some []) (hu : X.A.units + 66 < cLine) : CallR X (.builtin "repr") rReprD := by
  intro pins s σ H xs us Q I r ⟨p, kvs, ds, d, e, hp, sc, ed, sd, dd, hz, q⟩
  subst e
  obtain ⟨u, rfl, ru⟩ := vals1 r
  obtain rfl : u = Value.ref p := ru
  obtain ⟨_, hd, vs, rel, o, es, ep, g1, g2, g3, g4, g5, g6⟩ := dk_of I.hok hp
  obtain ⟨k1, k2⟩ := reads_pairs (h := s.heap) rel g5 sc
  have hl : (kvs.map fun p => kP p.1).length = ds.length := by
    have := paired_len sc
    rw [List.length_map] at this
    rw [List.length_map, this]
  have rd : Reads s.heap (.ref p) d (p :: [] ++ []) := by
    subst ed
    exact Reads.dict g1 g2.1 g3 (by rw [zip_fst hl]; exact k1) (by rw [zip_snd hl]; exact k2)
  have hne : sysModules ∉ (p :: [] ++ [] : List Addr) := by
    intro z
    have z : sysModules = p := by simpa using z
    rw [z] at hd
    simp at hd
  exact repr_of_reads' rd sd (fun _ => hne) hgu (by omega) (fun _ _ e => e) (fun h' u tk hk => ⟨.str _, H, I.kept hk, ⟨_, rfl⟩, q⟩) hz
def rRepr2 (K : PySem.W.Frag) : List V → Hp → VK → Prop := fun xs H Q => rRepr K xs H Q ∨ rReprD xs H Q
theorem call_repr2 (hgu : X.A.guards = some []) (hu : X.A.units + 66 < cLine) : CallR X (.builtin "repr") (rRepr2 X.K) := by
  intro pins s σ H xs us Q I r h
  rcases h with h | h
  · exact call_repr hgu hu pins s σ H xs us Q I r h
  · exact call_reprD hgu hu pins s σ H xs us Q I r h
def dicP (ks vs : List D) : PyData := .dict ((D.toPs ks).zip (D.toPs vs))
def gRepr2 (ds : List D) : Option RV := match ds with
  | [.dic ks vs] => if (vs.all scD && (dicP ks vs).showable && decide ((dicP ks vs).depth ≤ 64) && decide ((dicP ks vs).shown.length ≤ 16777216)) = true then some (.val (.str (dicP ks vs).shown)) else none
  | ds => gRepr ds
theorem toPs_map : ∀ ds : List D, D.toPs ds = ds.map D.toP
  | [] => rfl
  | d :: ds => by rw [List.map_cons, ← toPs_map ds]; rfl
theorem scs_of {mg : Str → Option Value} {K : PySem.W.Frag} {F : Hp} {ρ : List Addr} : ∀ {xs : List V} {ds : List D}, Reps mg K F ρ xs ds → ds.all scD = true → Paired Sc1 xs (D.toPs ds)
  | _, _, .nil, _ => .nil
  | _, _, .cons (d := d) (ds := ds) r t, h => by
    rw [List.all_cons, Bool.and_eq_true] at h
    have : D.toPs (d :: ds) = d.toP :: D.toPs ds := rfl
    rw [this]
    refine .cons ?_ (scs_of t h.2)
    cases r with
    | non => exact .non
    | bl b => exact .bl b
    | int i => exact .int i
    | str x => exact .str x
    | _ => exact absurd h.1 (by simp [scD])
theorem cd_repr2 {mg : Str → Option Value} {K : PySem.W.Frag} : CallD mg K (rRepr2 K) gRepr2 := by
  intro B G δ σ H ds vs r Q h R c k
  unfold gRepr2 at h
  split at h
  · rename_i ks ws
    split at h
    · rename_i hc
      simp only [Bool.and_eq_true, decide_eq_true_eq] at hc
      cases h
      obtain ⟨v, rfl, c1⟩ := creps1 c
      rcases c1 with c1 | ⟨p, rfl, c1⟩
      · cases c1 with
        | @dic p kvs _ _ h1 h2 h3 =>
          have ek : (kvs.map fun p => kP p.1) = D.toPs ks := by
            rw [toPs_map, ← h2, List.map_map]
            refine List.map_congr_left fun x _ => ?_
            rcases x with ⟨i | y, z⟩ <;> rfl
          refine .inr ⟨p, kvs, D.toPs ws, dicP ks ws, rfl, R.sub _ _ h1, scs_of h3 hc.1.1.1, ?_, hc.1.1.2, hc.1.2, by rw [sizeLine_eq]; exact hc.2, k G _ H (.refl G) R (.str _)⟩
          rw [ek]; rfl
      · exact c1.elim
    · cases h
  · exact .inl (cd_repr B G δ σ H ds vs r Q h R c k)
end
end EV
set_option Elab.async false
set_option linter.all false
set_option maxRecDepth 100000
set_option maxHeartbeats 1000000
/-! EV 19: evaluation without lambdas: each combinator at a state is a step (K) upon what was evaluated before; for simp -/
namespace EV
open PySem L2

def outK (δ : DSt) : Option RV → Option (RV × DSt)
  | some r => some (r, δ)
  | none => none
theorem outK_s (δ : DSt) (r : RV) : outK δ (some r) = some (r, δ) := rfl
theorem outK_eq (δ : DSt) (o : Option RV) : o.map (fun r => (r, δ)) = outK δ o := by cases o <;> rfl
/-! ### reading, keeping -/
def slR (δ : DSt) : Option (Option SD) → Option D
  | some (some (.val d)) => rdD δ d
  | some (some (.own d)) => some d
  | _ => none
def slP : Option (Option SD) → Option D
  | some (some (.val d)) => some d
  | _ => none
section
variable {δ : DSt} {d x y : D} {ds : List D} {r s : RV} {rs : List RV} {i j : Nat} {sl : List (Option SD)} {ce : List D}
theorem pin_v : RV.pin (.val d) = .val d := rfl
theorem pin_s : RV.pin (.slot i) = .slot i := rfl
theorem pin_f : RV.pin (.fresh d) = .val d := rfl
theorem rd_v : RV.rd δ (.val d) = rdD δ d := rfl
theorem rd_f : RV.rd δ (.fresh d) = some d := rfl
theorem rd_s : RV.rd ⟨sl, ce⟩ (.slot i) = slR ⟨sl, ce⟩ sl[i]? := by
  show (match sl[i]? with
    | some (some (SD.val d)) => rdD ⟨sl, ce⟩ d
    | some (some (SD.own d)) => some d
    | _ => none) = _
  cases sl[i]? with
  | none => rfl
  | some o =>
    cases o with
    | none => rfl
    | some a => cases a <;> rfl
theorem slR_v : slR δ (some (some (.val d))) = rdD δ d := rfl
theorem slR_o : slR δ (some (some (.own d))) = some d := rfl
theorem kp_v : RV.keep δ (.val d) = some d := rfl
theorem kp_f : RV.keep δ (.fresh d) = some d := rfl
theorem kp_s : RV.keep ⟨sl, ce⟩ (.slot i) = slP sl[i]? := by
  show (match sl[i]? with
    | some (some (SD.val d)) => some d
    | _ => none) = _
  cases sl[i]? with
  | none => rfl
  | some o =>
    cases o with
    | none => rfl
    | some a => cases a <;> rfl
theorem slP_v : slP (some (some (.val d))) = some d := rfl
theorem rdD_int (k : Int) : rdD δ (.int k) = some (.int k) := rfl
theorem rdD_str (k : Str) : rdD δ (.str k) = some (.str k) := rfl
theorem rdD_bl (k : Bool) : rdD δ (.bl k) = some (.bl k) := rfl
theorem rdD_non : rdD δ .non = some .non := rfl
theorem rdD_lst : rdD δ (.lst ds) = some (.lst ds) := rfl
theorem rdD_tup : rdD δ (.tup ds) = some (.tup ds) := rfl
theorem rdD_klst : rdD δ (.klst ds) = some (.klst ds) := rfl
theorem rdD_dic {ks vs : List D} : rdD δ (.dic ks vs) = some (.dic ks vs) := rfl
theorem rdD_fn (x : Str) : rdD δ (.fn x) = some (.fn x) := rfl
theorem rdD_ty (x : String) : rdD δ (.ty x) = some (.ty x) := rfl
theorem rdD_ins {c : Str} {ns : List Str} : rdD δ (.ins c ns ds) = some (.ins c ns ds) := rfl
theorem rdD_cell : rdD ⟨sl, ce⟩ (.cell i) = ce[i]? := rfl
def consO : Option D → Option (List D) → Option (List D)
  | some d, some ds => some (d :: ds)
  | _, _ => none
theorem consO_s : consO (some d) (some ds) = some (d :: ds) := rfl
theorem consO_eq (o : Option D) (p : Option (List D)) : (o.bind fun d => p.map (d :: ·)) = consO o p := by cases o <;> cases p <;> rfl
theorem rda_n : rdAll δ [] = some [] := rfl
theorem rda_c : rdAll δ (r :: rs) = consO (r.pin.rd δ) (rdAll δ rs) := consO_eq _ _
theorem kpa_n : keepAll δ [] = some [] := rfl
theorem kpa_c : keepAll δ (r :: rs) = consO (r.pin.keep δ) (keepAll δ rs) := consO_eq _ _
theorem putV_k : DSt.putV ⟨sl, ce⟩ i d = ⟨sl.set i (some (.val d)), ce⟩ := rfl
theorem putO_k : DSt.putO ⟨sl, ce⟩ i d = ⟨sl.set i (some (.own d)), ce⟩ := rfl
theorem putC_k : DSt.putC ⟨sl, ce⟩ i d = ⟨sl, ce.set i d⟩ := rfl
end
/-! ### expressions -/
def varK (i : Nat) (δ : DSt) : Option (Option SD) → Option (RV × DSt)
  | some (some _) => some (.slot i, δ)
  | _ => none
def bin3 (g : D → D → Option RV) (δ : DSt) : Option D → Option D → Option (RV × DSt)
  | some x, some y => outK δ (g x y)
  | _, _ => none
def bin2 (g : D → D → Option RV) (r : RV) : Option (RV × DSt) → Option (RV × DSt)
  | some (s, δ) => bin3 g δ (r.pin.rd δ) (s.pin.rd δ)
  | none => none
def bin1 (g : D → D → Option RV) (fb : DE) : Option (RV × DSt) → Option (RV × DSt)
  | some (r, δ) => bin2 g r (fb δ)
  | none => none
def un2 (g : D → Option RV) (δ : DSt) : Option D → Option (RV × DSt)
  | some x => outK δ (g x)
  | none => none
def un1 (g : D → Option RV) : Option (RV × DSt) → Option (RV × DSt)
  | some (r, δ) => un2 g δ (r.pin.rd δ)
  | none => none
def tstK : Option (RV × DSt) → Option (Bool × DSt)
  | some (.val (.bl b), δ) => some (b, δ)
  | _ => none
def tru3 (δ : DSt) : Option Bool → Option (Bool × DSt)
  | some b => some (b, δ)
  | none => none
def tru2 (δ : DSt) : Option D → Option (Bool × DSt)
  | some d => tru3 δ (gTru d)
  | none => none
def truK : Option (RV × DSt) → Option (Bool × DSt)
  | some (r, δ) => tru2 δ (r.pin.rd δ)
  | none => none
def andK (g : DT) : Option (Bool × DSt) → Option (Bool × DSt)
  | some (true, δ) => g δ
  | some (false, δ) => some (false, δ)
  | none => none
def orK (g : DT) : Option (Bool × DSt) → Option (Bool × DSt)
  | some (true, δ) => some (true, δ)
  | some (false, δ) => g δ
  | none => none
def notK : Option (Bool × DSt) → Option (Bool × DSt)
  | some (b, δ) => some (!b, δ)
  | none => none
def andVK (g : DE) : Option (RV × DSt) → Option (RV × DSt)
  | some (.val (.bl true), δ) => g δ
  | some (.val (.bl false), δ) => some (.val (.bl false), δ)
  | _ => none
def orVK (g : DE) : Option (RV × DSt) → Option (RV × DSt)
  | some (.val (.bl false), δ) => g δ
  | some (.val (.bl true), δ) => some (.val (.bl true), δ)
  | _ => none
def notVK : Option (RV × DSt) → Option (RV × DSt)
  | some (.val (.bl b), δ) => some (.val (.bl (!b)), δ)
  | _ => none
def sc2 (δ : DSt) : Option D → Option (RV × DSt)
  | some d => if scalD d = true then some (.val d, δ) else none
  | none => none
def scK : Option (RV × DSt) → Option (RV × DSt)
  | some (r, δ) => sc2 δ (r.pin.rd δ)
  | none => none
def ifK (f g : DE) : Option (Bool × DSt) → Option (RV × DSt)
  | some (true, δ) => f δ
  | some (false, δ) => g δ
  | none => none
def cons2 (r : RV) : Option (List RV × DSt) → Option (List RV × DSt)
  | some (rs, δ) => some (r :: rs, δ)
  | none => none
def cons1 (fs : DA) : Option (RV × DSt) → Option (List RV × DSt)
  | some (r, δ) => cons2 r (fs δ)
  | none => none
def tup2 (δ : DSt) : Option (List D) → Option (RV × DSt)
  | some ds => if ds.length ≤ 16777216 then some (.val (.tup ds), δ) else none
  | none => none
def tupK : Option (List RV × DSt) → Option (RV × DSt)
  | some (rs, δ) => tup2 δ (keepAll δ rs)
  | none => none
def lst2 (δ : DSt) : Option (List D) → Option (RV × DSt)
  | some ds => if ds.length ≤ 16777216 then some (.fresh (.lst ds), δ) else none
  | none => none
def lstK : Option (List RV × DSt) → Option (RV × DSt)
  | some (rs, δ) => lst2 δ (keepAll δ rs)
  | none => none
def bi2 (g : List D → Option RV) (δ : DSt) : Option (List D) → Option (RV × DSt)
  | some ds => outK δ (g ds)
  | none => none
def biK (g : List D → Option RV) : Option (List RV × DSt) → Option (RV × DSt)
  | some (rs, δ) => bi2 g δ (rdAll δ rs)
  | none => none
def call3 (sl : List (Option SD)) : Option (Ret × List D) → Option (RV × DSt)
  | some (r, ce) => some (r.rv, ⟨sl, ce⟩)
  | none => none
def call2 (na : Nat) (g : List D → List D → Option (Ret × List D)) (δ : DSt) : Option (List D) → Option (RV × DSt)
  | some ds => if ds.length = na then call3 δ.sl (g ds δ.ce) else none
  | none => none
def callK (na : Nat) (g : List D → List D → Option (Ret × List D)) : Option (List RV × DSt) → Option (RV × DSt)
  | some (rs, δ) => call2 na g δ (keepAll δ rs)
  | none => none
def ak3 (n m : Nat) (δ : DSt) (a b : List RV) : Option (List D) → Option (List D × DSt)
  | some ds => if a.length = n ∧ b.length = m then some (ds, δ) else none
  | none => none
def ak2 (n m : Nat) (a : List RV) : Option (List RV × DSt) → Option (List D × DSt)
  | some (b, δ) => ak3 n m δ a b (keepAll δ (a ++ b))
  | none => none
def ak1 (n m : Nat) (fk : DA) : Option (List RV × DSt) → Option (List D × DSt)
  | some (a, δ) => ak2 n m a (fk δ)
  | none => none
def callkK (ix : List Nat) (ddv : List D) (g : List D → List D → Option (Ret × List D)) : Option (List D × DSt) → Option (RV × DSt)
  | some (ds, δ) => call3 δ.sl (g (pick ix (ds ++ ddv)) δ.ce)
  | none => none
def fld3 (δ : DSt) : Option D → Option (RV × DSt)
  | some x => some (.val x, δ)
  | none => none
def fld2 (c fl : Str) (δ : DSt) : Option D → Option (RV × DSt)
  | some (.ins c' ns ds) => if c' = c then fld3 δ ((ns.zip ds).lookup fl) else none
  | _ => none
def fldK (c fl : Str) : Option (RV × DSt) → Option (RV × DSt)
  | some (r, δ) => fld2 c fl δ (r.pin.rd δ)
  | none => none
def po2 (δ : DSt) : Option D → Option (Option Int × DSt)
  | some (.int i) => some (some i, δ)
  | _ => none
def poK : Option (RV × DSt) → Option (Option Int × DSt)
  | some (r, δ) => po2 δ (r.pin.rd δ)
  | none => none
def sl4 (lo hi : Option Int) (δ : DSt) : Option D → Option (RV × DSt)
  | some x => outK δ (gSl x lo hi)
  | none => none
def sl3 (r : RV) (lo : Option Int) : Option (Option Int × DSt) → Option (RV × DSt)
  | some (hi, δ) => sl4 lo hi δ (r.pin.rd δ)
  | none => none
def sl2 (r : RV) (fh : DO) : Option (Option Int × DSt) → Option (RV × DSt)
  | some (lo, δ) => sl3 r lo (fh δ)
  | none => none
def slK (fl fh : DO) : Option (RV × DSt) → Option (RV × DSt)
  | some (r, δ) => sl2 r fh (fl δ)
  | none => none
/-! ### statements -/
def seqK (g : DS) : Option (Fl × DSt) → Option (Fl × DSt)
  | some (.nx, δ) => g δ
  | x => x
def retK : Option (RV × DSt) → Option (Fl × DSt)
  | some (r, δ) => some (.rt r, δ)
  | none => none
def dropK : Option (RV × DSt) → Option (Fl × DSt)
  | some (_, δ) => some (.nx, δ)
  | none => none
def ifsK (f g : DS) : Option (Bool × DSt) → Option (Fl × DSt)
  | some (true, δ) => f δ
  | some (false, δ) => g δ
  | none => none
def st2 (i : Nat) (δ : DSt) : Option D → Option (Fl × DSt)
  | some d => some (.nx, δ.putV i d)
  | none => none
def stK (m : Ks) (i : Nat) : Option (RV × DSt) → Option (Fl × DSt)
  | some (r, δ) => match m with
    | .keep => st2 i δ (r.keep δ)
    | .own => match r with
      | .fresh d => some (.nx, δ.putO i d)
      | _ => none
    | .cel => match r with
      | .fresh d => some (.nx, DSt.putV ⟨δ.sl, δ.ce ++ [d]⟩ i (.cell δ.ce.length))
      | _ => none
  | none => none
def nxK : Option DSt → Option (Fl × DSt)
  | some δ => some (.nx, δ)
  | none => none
def asg2 (g : DG) (δ : DSt) : Option D → Option (Fl × DSt)
  | some d => nxK (g d δ)
  | none => none
def asgK (g : DG) : Option (RV × DSt) → Option (Fl × DSt)
  | some (r, δ) => asg2 g δ (r.keep δ)
  | none => none
def gcsK (gs : List D → DSt → Option DSt) (ds : List D) : Option DSt → Option DSt
  | some δ => gs ds δ
  | none => none
def forB (g : DG) (body : DS) (ds : List D) : Option (Fl × DSt) → Option (Fl × DSt)
  | some (.nx, δ) => forL g body ds δ
  | some (.ct, δ) => forL g body ds δ
  | some (.bk, δ) => some (.nx, δ)
  | some (.rt r, δ) => some (.rt r, δ)
  | none => none
def bodK (body : DS) : Option DSt → Option (Fl × DSt)
  | some δ => body δ
  | none => none
def forK (g : DG) (body : DS) : Option (List D × DSt) → Option (Fl × DSt)
  | some (ds, δ) => forL g body ds δ
  | none => none
def par3 (i j : Nat) (d1 : D) (δ : DSt) : Option D → Option (Fl × DSt)
  | some d2 => some (.nx, (δ.putV i d1).putV j d2)
  | none => none
def par2 (i j : Nat) (s : RV) (δ : DSt) : Option D → Option (Fl × DSt)
  | some d1 => par3 i j d1 δ (s.keep δ)
  | none => none
def par1 (i j : Nat) (r : RV) : Option (RV × DSt) → Option (Fl × DSt)
  | some (s, δ) => par2 i j s δ (r.pin.keep δ)
  | none => none
def parK (i j : Nat) (f2 : DE) : Option (RV × DSt) → Option (Fl × DSt)
  | some (r, δ) => par1 i j r (f2 δ)
  | none => none
def pt3 (i j l : Nat) (δ : DSt) : Option (List D) → Option (Fl × DSt)
  | some [a, b, c] => some (.nx, ((δ.putV i a).putV j b).putV l c)
  | _ => none
def pt3K (i j l : Nat) : Option (List RV × DSt) → Option (Fl × DSt)
  | some (rs, δ) => pt3 i j l δ (keepAll δ rs)
  | none => none
def rt2 (n : Nat) (ce : List D) : Option Ret → Option (Ret × List D)
  | some q => fin n q ce
  | none => none
def runK (n : Nat) : Option (Fl × DSt) → Option (Ret × List D)
  | some (.nx, δ) => fin n (.val .non) δ.ce
  | some (.rt r, δ) => rt2 n δ.ce (retOf δ r)
  | _ => none
def rtS : Option (Option SD) → Option Ret
  | some (some (.val d)) => some (.val d)
  | some (some (.own d)) => some (.fresh d)
  | _ => none
section
variable {δ δ1 : DSt} {d d1 d2 x y : D} {ds ce : List D} {r s : RV} {rs : List RV} {i j l n m na : Nat} {sl : List (Option SD)} {f g fa fb fc : DE} {fs gs : DS} {t u : DT} {fas fks : DA} {G : D → D → Option RV} {U : D → Option RV} {B : List D → Option RV} {b : Bool} {mk : Ks} {gg : DG} {fi : DI} {F : List D → List D → Option (Ret × List D)} {ix : List Nat} {ddv : List D} {c fl : Str} {fl1 fh : DO} {gl : List D → DSt → Option DSt} {q : Ret} {lo hi : Option Int}
theorem k_c : dC d δ = some (.val d, δ) := rfl
theorem k_var : dVar i ⟨sl, ce⟩ = varK i ⟨sl, ce⟩ sl[i]? := rfl
theorem varK_s {a : SD} : varK i δ (some (some a)) = some (.slot i, δ) := rfl
theorem k_bin : dBin G fa fb δ = bin1 G fb (fa δ) := by
  unfold dBin bin1
  cases fa δ with
  | none => rfl
  | some p =>
    show _ = bin2 G p.1 (fb p.2)
    rw [Option.bind_some]
    cases fb p.2 with
    | none => rfl
    | some q =>
      show _ = bin3 G q.2 (p.1.pin.rd q.2) (q.1.pin.rd q.2)
      rw [Option.bind_some]
      cases p.1.pin.rd q.2 with
      | none => rfl
      | some x =>
        cases q.1.pin.rd q.2 with
        | none => rfl
        | some y => exact outK_eq _ _
theorem bin1_s : bin1 G fb (some (r, δ)) = bin2 G r (fb δ) := rfl
theorem bin2_s : bin2 G r (some (s, δ)) = bin3 G δ (r.pin.rd δ) (s.pin.rd δ) := rfl
theorem bin3_s : bin3 G δ (some x) (some y) = outK δ (G x y) := rfl
theorem k_un : dUn U fa δ = un1 U (fa δ) := by
  unfold dUn un1
  cases fa δ with
  | none => rfl
  | some p =>
    show _ = un2 U p.2 (p.1.pin.rd p.2)
    rw [Option.bind_some]
    cases p.1.pin.rd p.2 with
    | none => rfl
    | some x => exact outK_eq _ _
theorem un1_s : un1 U (some (r, δ)) = un2 U δ (r.pin.rd δ) := rfl
theorem un2_s : un2 U δ (some x) = outK δ (U x) := rfl
theorem k_tst : dTst f δ = tstK (f δ) := by
  unfold dTst tstK
  cases f δ with
  | none => rfl
  | some p =>
    obtain ⟨r, δ⟩ := p
    cases r with
    | val d => cases d <;> rfl
    | _ => rfl
theorem tstK_s : tstK (some (.val (.bl b), δ)) = some (b, δ) := rfl
theorem k_tru : dTru f δ = truK (f δ) := by
  unfold dTru truK
  cases f δ with
  | none => rfl
  | some p =>
    show _ = tru2 p.2 (p.1.pin.rd p.2)
    rw [Option.bind_some]
    cases p.1.pin.rd p.2 with
    | none => rfl
    | some x =>
      show _ = tru3 p.2 (gTru x)
      rw [Option.bind_some]
      cases gTru x <;> rfl
theorem truK_s : truK (some (r, δ)) = tru2 δ (r.pin.rd δ) := rfl
theorem tru2_s : tru2 δ (some d) = tru3 δ (gTru d) := rfl
theorem tru3_s : tru3 δ (some b) = some (b, δ) := rfl
theorem gTru_bl : gTru (.bl b) = some b := rfl
theorem k_and : dAnd t u δ = andK u (t δ) := by
  unfold dAnd andK
  cases t δ with
  | none => rfl
  | some p => obtain ⟨b, δ⟩ := p; cases b <;> rfl
theorem andK_t : andK u (some (true, δ)) = u δ := rfl
theorem andK_f : andK u (some (false, δ)) = some (false, δ) := rfl
theorem k_or : dOr t u δ = orK u (t δ) := by
  unfold dOr orK
  cases t δ with
  | none => rfl
  | some p => obtain ⟨b, δ⟩ := p; cases b <;> rfl
theorem orK_t : orK u (some (true, δ)) = some (true, δ) := rfl
theorem orK_f : orK u (some (false, δ)) = u δ := rfl
theorem k_not : dNot t δ = notK (t δ) := by
  unfold dNot notK
  cases t δ <;> rfl
theorem notK_s : notK (some (b, δ)) = some (!b, δ) := rfl
theorem k_andV : dAndV fa fb δ = andVK fb (fa δ) := by
  unfold dAndV andVK
  cases fa δ with
  | none => rfl
  | some p =>
    obtain ⟨r, δ⟩ := p
    cases r with
    | val d => cases d with
      | bl b => cases b <;> rfl
      | _ => rfl
    | _ => rfl
theorem andVK_t : andVK g (some (.val (.bl true), δ)) = g δ := rfl
theorem andVK_f : andVK g (some (.val (.bl false), δ)) = some (.val (.bl false), δ) := rfl
theorem k_orV : dOrV fa fb δ = orVK fb (fa δ) := by
  unfold dOrV orVK
  cases fa δ with
  | none => rfl
  | some p =>
    obtain ⟨r, δ⟩ := p
    cases r with
    | val d => cases d with
      | bl b => cases b <;> rfl
      | _ => rfl
    | _ => rfl
theorem orVK_t : orVK g (some (.val (.bl true), δ)) = some (.val (.bl true), δ) := rfl
theorem orVK_f : orVK g (some (.val (.bl false), δ)) = g δ := rfl
theorem k_notV : dNotV fa δ = notVK (fa δ) := by
  unfold dNotV notVK
  cases fa δ with
  | none => rfl
  | some p =>
    obtain ⟨r, δ⟩ := p
    cases r with
    | val d => cases d <;> rfl
    | _ => rfl
theorem notVK_s : notVK (some (.val (.bl b), δ)) = some (.val (.bl (!b)), δ) := rfl
theorem k_sc : dSc fa δ = scK (fa δ) := by
  unfold dSc scK
  cases fa δ with
  | none => rfl
  | some p =>
    show _ = sc2 p.2 (p.1.pin.rd p.2)
    rw [Option.bind_some]
    cases p.1.pin.rd p.2 <;> rfl
theorem scK_s : scK (some (r, δ)) = sc2 δ (r.pin.rd δ) := rfl
theorem sc2_bl : sc2 δ (some (.bl b)) = some (.val (.bl b), δ) := rfl
theorem k_if : dIf t fa fb δ = ifK fa fb (t δ) := by
  unfold dIf ifK
  cases t δ with
  | none => rfl
  | some p => obtain ⟨b, δ⟩ := p; cases b <;> rfl
theorem ifK_t : ifK f g (some (true, δ)) = f δ := rfl
theorem ifK_f : ifK f g (some (false, δ)) = g δ := rfl
theorem k_nil : dNil δ = some ([], δ) := rfl
theorem k_cons : dCons f fas δ = cons1 fas (f δ) := by
  unfold dCons cons1
  cases f δ with
  | none => rfl
  | some p =>
    show _ = cons2 p.1 (fas p.2)
    rw [Option.bind_some]
    cases fas p.2 <;> rfl
theorem cons1_s : cons1 fas (some (r, δ)) = cons2 r (fas δ) := rfl
theorem cons2_s : cons2 r (some (rs, δ)) = some (r :: rs, δ) := rfl
theorem k_tup : dTup fas δ = tupK (fas δ) := by
  unfold dTup tupK
  cases fas δ with
  | none => rfl
  | some p =>
    show _ = tup2 p.2 (keepAll p.2 p.1)
    rw [Option.bind_some]
    cases keepAll p.2 p.1 <;> rfl
theorem tupK_s : tupK (some (rs, δ)) = tup2 δ (keepAll δ rs) := rfl
theorem tup2_s : tup2 δ (some ds) = if ds.length ≤ 16777216 then some (.val (.tup ds), δ) else none := rfl
theorem k_lst : dLst fas δ = lstK (fas δ) := by
  unfold dLst lstK
  cases fas δ with
  | none => rfl
  | some p =>
    show _ = lst2 p.2 (keepAll p.2 p.1)
    rw [Option.bind_some]
    cases keepAll p.2 p.1 <;> rfl
theorem lstK_s : lstK (some (rs, δ)) = lst2 δ (keepAll δ rs) := rfl
theorem lst2_s : lst2 δ (some ds) = if ds.length ≤ 16777216 then some (.fresh (.lst ds), δ) else none := rfl
theorem k_bi : dBi B fas δ = biK B (fas δ) := by
  unfold dBi biK
  cases fas δ with
  | none => rfl
  | some p =>
    show _ = bi2 B p.2 (rdAll p.2 p.1)
    rw [Option.bind_some]
    cases rdAll p.2 p.1 with
    | none => rfl
    | some ds => exact outK_eq _ _
theorem biK_s : biK B (some (rs, δ)) = bi2 B δ (rdAll δ rs) := rfl
theorem bi2_s : bi2 B δ (some ds) = outK δ (B ds) := rfl
theorem k_call : dCall na F fas δ = callK na F (fas δ) := by
  unfold dCall callK
  cases fas δ with
  | none => rfl
  | some p =>
    show _ = call2 na F p.2 (keepAll p.2 p.1)
    rw [Option.bind_some]
    cases keepAll p.2 p.1 with
    | none => rfl
    | some ds =>
      show (if ds.length = na then _ else none) = if ds.length = na then call3 p.2.sl (F ds p.2.ce) else none
      split
      · cases F ds p.2.ce <;> rfl
      · rfl
theorem callK_s : callK na F (some (rs, δ)) = call2 na F δ (keepAll δ rs) := rfl
theorem call2_s : call2 na F ⟨sl, ce⟩ (some ds) = if ds.length = na then call3 sl (F ds ce) else none := rfl
theorem call3_s : call3 sl (some (q, ce)) = some (q.rv, ⟨sl, ce⟩) := rfl
theorem rv_v : Ret.rv (.val d) = .val d := rfl
theorem rv_f : Ret.rv (.fresh d) = .fresh d := rfl
theorem k_ak : dAK n m fas fks δ = ak1 n m fks (fas δ) := by
  unfold dAK ak1
  cases fas δ with
  | none => rfl
  | some p =>
    show _ = ak2 n m p.1 (fks p.2)
    rw [Option.bind_some]
    cases fks p.2 with
    | none => rfl
    | some q =>
      show _ = ak3 n m q.2 p.1 q.1 (keepAll q.2 (p.1 ++ q.1))
      rw [Option.bind_some]
      cases keepAll q.2 (p.1 ++ q.1) <;> rfl
theorem ak1_s : ak1 n m fks (some (rs, δ)) = ak2 n m rs (fks δ) := rfl
theorem ak2_s {a : List RV} : ak2 n m a (some (rs, δ)) = ak3 n m δ a rs (keepAll δ (a ++ rs)) := rfl
theorem ak3_s {a : List RV} : ak3 n m δ a rs (some ds) = if a.length = n ∧ rs.length = m then some (ds, δ) else none := rfl
theorem k_callk : dCallK n m ix ddv F fas fks δ = callkK ix ddv F (dAK n m fas fks δ) := by
  unfold dCallK callkK
  cases dAK n m fas fks δ with
  | none => rfl
  | some p =>
    show Option.map _ (F (pick ix (p.1 ++ ddv)) p.2.ce) = call3 p.2.sl (F (pick ix (p.1 ++ ddv)) p.2.ce)
    cases F (pick ix (p.1 ++ ddv)) p.2.ce <;> rfl
theorem callkK_s : callkK ix ddv F (some (ds, ⟨sl, ce⟩)) = call3 sl (F (pick ix (ds ++ ddv)) ce) := rfl
theorem k_call0 : dCall0 F ddv ⟨sl, ce⟩ = call3 sl (F ddv ce) := by
  unfold dCall0
  show Option.map _ (F ddv ce) = call3 sl (F ddv ce)
  cases F ddv ce <;> rfl
theorem k_fld : dFld c fl f δ = fldK c fl (f δ) := by
  unfold dFld fldK
  cases f δ with
  | none => rfl
  | some p =>
    show _ = fld2 c fl p.2 (p.1.pin.rd p.2)
    rw [Option.bind_some]
    cases p.1.pin.rd p.2 with
    | none => rfl
    | some d =>
      rw [Option.bind_some]
      cases d with
      | ins c' ns ds =>
        show (if c' = c then _ else none) = if c' = c then fld3 p.2 ((ns.zip ds).lookup fl) else none
        split
        · cases (ns.zip ds).lookup fl <;> rfl
        · rfl
      | _ => rfl
theorem fldK_s : fldK c fl (some (r, δ)) = fld2 c fl δ (r.pin.rd δ) := rfl
theorem fld2_s {c' : Str} {ns : List Str} : fld2 c fl δ (some (.ins c' ns ds)) = if c' = c then fld3 δ ((ns.zip ds).lookup fl) else none := rfl
theorem fld3_s : fld3 δ (some x) = some (.val x, δ) := rfl
theorem k_nop : dNoP δ = some (none, δ) := rfl
theorem k_part : dPart f δ = poK (f δ) := by
  unfold dPart poK
  cases f δ with
  | none => rfl
  | some p =>
    show _ = po2 p.2 (p.1.pin.rd p.2)
    rw [Option.bind_some]
    cases p.1.pin.rd p.2 with
    | none => rfl
    | some d => cases d <;> rfl
theorem poK_s : poK (some (r, δ)) = po2 δ (r.pin.rd δ) := rfl
theorem po2_s {i : Int} : po2 δ (some (.int i)) = some (some i, δ) := rfl
theorem k_sl : dSl f fl1 fh δ = slK fl1 fh (f δ) := by
  unfold dSl slK
  cases f δ with
  | none => rfl
  | some p =>
    show _ = sl2 p.1 fh (fl1 p.2)
    rw [Option.bind_some]
    cases fl1 p.2 with
    | none => rfl
    | some lo =>
      show _ = sl3 p.1 lo.1 (fh lo.2)
      rw [Option.bind_some]
      cases fh lo.2 with
      | none => rfl
      | some hi =>
        show _ = sl4 lo.1 hi.1 hi.2 (p.1.pin.rd hi.2)
        rw [Option.bind_some]
        cases p.1.pin.rd hi.2 with
        | none => rfl
        | some x => exact outK_eq _ _
theorem slK_s : slK fl1 fh (some (r, δ)) = sl2 r fh (fl1 δ) := rfl
theorem sl2_s : sl2 r fh (some (lo, δ)) = sl3 r lo (fh δ) := rfl
theorem sl3_s : sl3 r lo (some (hi, δ)) = sl4 lo hi δ (r.pin.rd δ) := rfl
theorem sl4_s : sl4 lo hi δ (some x) = outK δ (gSl x lo hi) := rfl
/-! statements -/
theorem k_seq : dSeq fs gs δ = seqK gs (fs δ) := by
  unfold dSeq seqK
  cases fs δ with
  | none => rfl
  | some p => obtain ⟨a, δ⟩ := p; cases a <;> rfl
theorem seqK_n : seqK gs (some (.nx, δ)) = gs δ := rfl
theorem seqK_r : seqK gs (some (.rt r, δ)) = some (.rt r, δ) := rfl
theorem k_skip : dSkip δ = some (.nx, δ) := rfl
theorem k_ret : dRet f δ = retK (f δ) := by
  unfold dRet retK
  cases f δ <;> rfl
theorem retK_s : retK (some (r, δ)) = some (.rt r, δ) := rfl
theorem k_retN : dRetN δ = some (.rt (.val .non), δ) := rfl
theorem k_drop : dDrop f δ = dropK (f δ) := by
  unfold dDrop dropK
  cases f δ <;> rfl
theorem dropK_s : dropK (some (r, δ)) = some (.nx, δ) := rfl
theorem k_ifs : dIfS t fs gs δ = ifsK fs gs (t δ) := by
  unfold dIfS ifsK
  cases t δ with
  | none => rfl
  | some p => obtain ⟨b, δ⟩ := p; cases b <;> rfl
theorem ifsK_t : ifsK fs gs (some (true, δ)) = fs δ := rfl
theorem ifsK_f : ifsK fs gs (some (false, δ)) = gs δ := rfl
theorem k_st : dSt mk i f δ = stK mk i (f δ) := by
  unfold dSt stK
  cases f δ with
  | none => rfl
  | some p =>
    obtain ⟨r, δ⟩ := p
    cases mk with
    | keep =>
      show Option.map _ ((r.keep δ).map (δ.putV i)) = st2 i δ (r.keep δ)
      cases r.keep δ <;> rfl
    | own => cases r <;> rfl
    | cel => cases r <;> rfl
theorem stK_k : stK .keep i (some (r, δ)) = st2 i δ (r.keep δ) := rfl
theorem stK_o : stK .own i (some (.fresh d, δ)) = some (.nx, δ.putO i d) := rfl
theorem stK_c : stK .cel i (some (.fresh d, ⟨sl, ce⟩)) = some (.nx, DSt.putV ⟨sl, ce ++ [d]⟩ i (.cell ce.length)) := rfl
theorem st2_s : st2 i δ (some d) = some (.nx, δ.putV i d) := rfl
theorem k_asg : dAsg f gg δ = asgK gg (f δ) := by
  unfold dAsg asgK
  cases f δ with
  | none => rfl
  | some p =>
    show _ = asg2 gg p.2 (p.1.keep p.2)
    rw [Option.bind_some]
    cases p.1.keep p.2 with
    | none => rfl
    | some d =>
      show Option.map _ (gg d p.2) = nxK (gg d p.2)
      cases gg d p.2 <;> rfl
theorem asgK_s : asgK gg (some (r, δ)) = asg2 gg δ (r.keep δ) := rfl
theorem asg2_s : asg2 gg δ (some d) = nxK (gg d δ) := rfl
theorem nxK_s : nxK (some δ) = some (.nx, δ) := rfl
theorem k_gnm : gNm i d δ = some (δ.putV i d) := rfl
theorem k_gtp : gTp n gl (.tup ds) δ = if ds.length = n then gl ds δ else none := rfl
theorem k_gcs : gCs gg gl (d :: ds) δ = gcsK gl ds (gg d δ) := by
  show (gg d δ).bind (gl ds) = gcsK gl ds (gg d δ)
  cases gg d δ <;> rfl
theorem gcsK_s : gcsK gl ds (some δ) = gl ds δ := rfl
theorem k_gnl : gNl [] δ = some δ := rfl
theorem k_forL : forL gg fs (d :: ds) δ = forB gg fs ds (bodK fs (gg d δ)) := by
  show ((gg d δ).bind fun δ1 => (fs δ1).bind _) = _
  cases gg d δ with
  | none => rfl
  | some δ1 =>
    show (fs δ1).bind _ = forB gg fs ds (fs δ1)
    cases fs δ1 with
    | none => rfl
    | some p => obtain ⟨a, δ⟩ := p; cases a <;> rfl
theorem k_forN : forL gg fs [] δ = some (.nx, δ) := rfl
theorem bodK_s : bodK fs (some δ) = fs δ := rfl
theorem forB_n : forB gg fs ds (some (.nx, δ)) = forL gg fs ds δ := rfl
theorem forB_r : forB gg fs ds (some (.rt r, δ)) = some (.rt r, δ) := rfl
theorem k_for : dFor fi gg fs δ = forK gg fs (fi δ) := by
  unfold dFor forK
  cases fi δ <;> rfl
theorem forK_s : forK gg fs (some (ds, δ)) = forL gg fs ds δ := rfl
theorem k_par : dPar .keep .keep i j fa fb δ = parK i j fb (fa δ) := by
  unfold dPar parK
  cases fa δ with
  | none => rfl
  | some p =>
    show _ = par1 i j p.1 (fb p.2)
    rw [Option.bind_some]
    cases fb p.2 with
    | none => rfl
    | some q =>
      show _ = par2 i j q.1 q.2 (p.1.pin.keep q.2)
      show ((p.1.pin.keep q.2).bind fun d1 => (q.1.keep q.2).map _) = _
      cases p.1.pin.keep q.2 with
      | none => rfl
      | some d1 =>
        show (q.1.keep q.2).map _ = par3 i j d1 q.2 (q.1.keep q.2)
        cases q.1.keep q.2 <;> rfl
theorem parK_s : parK i j fb (some (r, δ)) = par1 i j r (fb δ) := rfl
theorem par1_s : par1 i j r (some (s, δ)) = par2 i j s δ (r.pin.keep δ) := rfl
theorem par2_s : par2 i j s δ (some d1) = par3 i j d1 δ (s.keep δ) := rfl
theorem par3_s : par3 i j d1 δ (some d2) = some (.nx, (δ.putV i d1).putV j d2) := rfl
theorem k_par3 : dPar3 i j l fas δ = pt3K i j l (fas δ) := by
  unfold dPar3 pt3K
  cases fas δ with
  | none => rfl
  | some p =>
    show _ = pt3 i j l p.2 (keepAll p.2 p.1)
    rw [Option.bind_some]
    cases keepAll p.2 p.1 with
    | none => rfl
    | some l =>
      match l with
      | [] => rfl
      | [_] => rfl
      | [_, _] => rfl
      | [_, _, _] => rfl
      | _ :: _ :: _ :: _ :: _ => rfl
theorem pt3K_s : pt3K i j l (some (rs, δ)) = pt3 i j l δ (keepAll δ rs) := rfl
theorem pt3_s {a b c : D} : pt3 i j l δ (some [a, b, c]) = some (.nx, ((δ.putV i a).putV j b).putV l c) := rfl
theorem k_run : runF n fs ds ce = runK ce.length (fs (startD n ds ce)) := by
  unfold runF runK
  cases fs (startD n ds ce) with
  | none => rfl
  | some p =>
    obtain ⟨a, δ⟩ := p
    cases a with
    | rt r =>
      show (retOf δ r).bind _ = rt2 ce.length δ.ce (retOf δ r)
      cases retOf δ r <;> rfl
    | _ => rfl
theorem runK_n : runK n (some (.nx, ⟨sl, ce⟩)) = fin n (.val .non) ce := rfl
theorem runK_r : runK n (some (.rt r, ⟨sl, ce⟩)) = rt2 n ce (retOf ⟨sl, ce⟩ r) := rfl
theorem rt2_s : rt2 n ce (some q) = fin n q ce := rfl
theorem retOf_v : retOf δ (.val d) = some (.val d) := rfl
theorem retOf_f : retOf δ (.fresh d) = some (.fresh d) := rfl
theorem retOf_s : retOf ⟨sl, ce⟩ (.slot i) = rtS sl[i]? := by
  show (match sl[i]? with
    | some (some (.val d)) => some (Ret.val d)
    | some (some (.own d)) => some (.fresh d)
    | _ => none) = _
  cases sl[i]? with
  | none => rfl
  | some o => cases o with
    | none => rfl
    | some a => cases a <;> rfl
theorem rtS_v : rtS (some (some (.val d))) = some (.val d) := rfl
theorem rtS_o : rtS (some (some (.own d))) = some (.fresh d) := rfl
theorem fin_s : fin ce.length q ce = some (q, ce) := by simp [fin]
theorem start_0 {k : Nat} : startD k [] ce = ⟨List.replicate k none, ce⟩ := rfl
theorem start_c {k : Nat} : startD (k + 1) (d :: ds) ce = ⟨some (.val d) :: (startD k ds ce).sl, ce⟩ := by
  simp [startD]
end
end EV
set_option Elab.async false
set_option linter.all false
set_option maxRecDepth 100000
set_option maxHeartbeats 4000000
namespace L
open PySem L2 EV PySem.Spec PyProof.Rows
abbrev prg : Program := PySem.Challenge.pw_lonetill_k21_houses_as_values
def topS (i : Nat) : Stmt := prg.main.body.getD i (.Pass ⟨0, 0, 0, 0⟩)
abbrev s_is_integer : Stmt := (topS 13)
abbrev s_is_count : Stmt := (topS 14)
abbrev s_is_list : Stmt := (topS 15)
abbrev s_is_place_of : Stmt := (topS 21)
abbrev s_is_deed : Stmt := (topS 22)
abbrev s_want_deeds : Stmt := (topS 23)
abbrev s_want_few : Stmt := (topS 24)
abbrev s_House_init : Stmt := (inClass (topS 25) 0)
abbrev s_House_places : Stmt := (inClass (topS 25) 1)
abbrev s_House_is_plain : Stmt := (inClass (topS 25) 2)
abbrev s_House_deeds : Stmt := (inClass (topS 25) 3)
abbrev s_House_len : Stmt := (inClass (topS 25) 4)
abbrev s_House_eq : Stmt := (inClass (topS 25) 5)
abbrev s_House_repr : Stmt := (inClass (topS 25) 6)
abbrev s_House_with_deed : Stmt := (inClass (topS 25) 7)
abbrev s_House_without_deed : Stmt := (inClass (topS 25) 8)
abbrev s_is_order : Stmt := (topS 26)
abbrev s_moved : Stmt := (topS 27)
abbrev s_House_renumbered : Stmt := (inClass (topS 25) 9)
abbrev s_House_beside : Stmt := (inClass (topS 25) 10)
abbrev s_House_plain : Stmt := (inClass (topS 25) 11)
abbrev s_want_plain : Stmt := (topS 28)
abbrev s_House_turned : Stmt := (inClass (topS 25) 12)
abbrev s_law_pot : Stmt := (topS 30)
abbrev s_law_draw : Stmt := (topS 31)
abbrev s_law_deeds : Stmt := (topS 33)
abbrev s_law_mixed : Stmt := (topS 34)
abbrev s_law_tells : Stmt := (topS 35)
abbrev s_law_equal_right : Stmt := (topS 36)
abbrev s_law_made : Stmt := (topS 37)
abbrev s_law_right : Stmt := (topS 38)
abbrev s_law : Stmt := (topS 39)
def csL : List Str := ["House"]
/-! ### what each def computes -/
def d_is_integer (n : Nat) : DS :=
  (dRet (dAndV (dBi (gIsi csL) (dCons (dVar 0) (dCons (dC (.ty "int")) dNil))) (dNotV (dBi (gIsi csL) (dCons (dVar 0) (dCons (dC (.ty "bool")) dNil))))))
def e_is_integer (n : Nat) : List D → List D → Option (Ret × List D) := runF 1 (d_is_integer n)
def d_is_count (n : Nat) : DS :=
  (dRet (dAndV (dCall 1 (fun ds => e_is_integer n (ds ++ [])) (dCons (dVar 0) dNil)) (dBin gGe (dVar 0) (dC (.int 0)))))
def e_is_count (n : Nat) : List D → List D → Option (Ret × List D) := runF 1 (d_is_count n)
def d_is_list (n : Nat) : DS :=
  (dRet (dBi (gIsi csL) (dCons (dVar 0) (dCons (dTup (dCons (dC (.ty "list")) (dCons (dC (.ty "tuple")) dNil))) dNil))))
def e_is_list (n : Nat) : List D → List D → Option (Ret × List D) := runF 1 (d_is_list n)
def d_is_place_of (n : Nat) : DS :=
  (dRet (dAndV (dCall 1 (fun ds => e_is_count n (ds ++ [])) (dCons (dVar 0) dNil)) (dBin gLt (dVar 0) (dVar 1))))
def e_is_place_of (n : Nat) : List D → List D → Option (Ret × List D) := runF 2 (d_is_place_of n)
def d_is_deed (n : Nat) : DS :=
  (dSeq (dIfS (dOr (dNot (dTru (dBi (gIsi csL) (dCons (dVar 0) (dCons (dC (.ty "tuple")) dNil))))) (dTst (dBin gNe (dBi gLen (dCons (dVar 0) dNil)) (dC (.int 4))))) (dRet (dC (.bl false))) dSkip)
    (dSeq (dAsg (dVar 0) (gTp 4 (gCs (gNm 2) (gCs (gNm 3) (gCs (gNm 4) (gCs (gNm 5) gNl))))))
    (dSeq (dIfS (dOr (dNot (dTru (dCall 2 (fun ds => e_is_place_of n (ds ++ [])) (dCons (dVar 2) (dCons (dVar 1) dNil))))) (dNot (dTru (dCall 2 (fun ds => e_is_place_of n (ds ++ [])) (dCons (dVar 4) (dCons (dVar 1) dNil)))))) (dRet (dC (.bl false))) dSkip)
    (dSeq (dIfS (dOr (dNot (dTru (dCall 1 (fun ds => e_is_integer n (ds ++ [])) (dCons (dVar 3) dNil)))) (dOr (dNot (dTst (dChain gLe gLe (dUn gNeg (dC (.int 1))) (dVar 3) (dC (.int 1))))) (dNot (dTru (dBi (gIsi csL) (dCons (dVar 5) (dCons (dC (.ty "str")) dNil))))))) (dRet (dC (.bl false))) dSkip)
    (dRet (dOrV (dBin gEq (dVar 5) (dC (.str "any"))) (dAndV (dBin gEq (dVar 5) (dC (.str "empty"))) (dBin gGe (dVar 3) (dC (.int 0))))))))))
def e_is_deed (n : Nat) : List D → List D → Option (Ret × List D) := runF 6 (d_is_deed n)
def lp_want_deeds_0 (n : Nat) : DS := (orS (dFor (iEn (dCons (dVar 0) dNil)) (gTp 2 (gCs (gNm 3) (gCs (gNm 4) gNl))) (dSeq (dIfS (dOr (dNot (dTru (dCall 2 (fun ds => e_is_deed n (ds ++ [])) (dCons (dVar 4) (dCons (dVar 1) dNil))))) (dTst (dBin (gIn false) (dVar 4) (dVar 2)))) dNever dSkip)
    (dDrop (dMut true uAppend 2 (dCons (dVar 4) dNil))))) (dForC mkE (cOf (dVar 0)) (gTp 2 (gCs (gNm 3) (gCs (gNm 4) gNl))) (dSeq (dIfS (dOr (dNot (dTru (dCall 2 (fun ds => e_is_deed n (ds ++ [])) (dCons (dVar 4) (dCons (dVar 1) dNil))))) (dTst (dBin (gIn false) (dVar 4) (dVar 2)))) dNever dSkip)
    (dDrop (dMut true uAppend 2 (dCons (dVar 4) dNil)))) n))
def d_want_deeds (n : Nat) : DS :=
  (dSeq (dIfS (dNot (dTru (dCall 1 (fun ds => e_is_list n (ds ++ [])) (dCons (dVar 0) dNil)))) dNever dSkip)
    (dSeq (dSt .own 2 (dLst dNil))
    (lp_want_deeds_0 n)))
def e_want_deeds (n : Nat) : List D → List D → Option (Ret × List D) := runF 5 (d_want_deeds n)
def d_want_few (n : Nat) : DS :=
  (dIfS (dTst (dBin gGt (dVar 2) (dVar 1))) dNever dSkip)
def e_want_few (n : Nat) : List D → List D → Option (Ret × List D) := runF 3 (d_want_few n)
def d_House_init (n : Nat) : DS :=
  (dSeq (dIfS (dOr (dNot (dTru (dCall 1 (fun ds => e_is_integer n (ds ++ [])) (dCons (dVar 1) dNil)))) (dNot (dTst (dChain gLe gLe (dC (.int 1)) (dVar 1) (dC (.int 16)))))) dNever dSkip)
    (dSeq (dDrop (dCall 2 (fun ds => e_want_deeds n (ds ++ [])) (dCons (dVar 2) (dCons (dVar 1) dNil))))
    (dSeq (dDrop (dCall 3 (fun ds => e_want_few n (ds ++ [])) (dCons (dC (.str "deeds")) (dCons (dC (.int 60)) (dCons (dBi gLen (dCons (dVar 2) dNil)) dNil)))))
    (dSeq (dSetF "House" "own_places" (dVar 0) (dVar 1))
    (dSetF "House" "own_deeds" (dVar 0) (dBi gList (dCons (dVar 2) dNil)))))))
def e_House_init (n : Nat) : List D → List D → Option (Ret × List D) := runF 3 (d_House_init n)
def d_House_places (n : Nat) : DS :=
  (dRet (dFld "House" "own_places" (dVar 0)))
def e_House_places (n : Nat) : List D → List D → Option (Ret × List D) := runF 1 (d_House_places n)
def lc_House_is_plain_0 (n : Nat) : DE := dLc (orI (iSeq (dFld "House" "own_deeds" (dVar 0))) (iTp (dFld "House" "own_deeds" (dVar 0)))) (gNm 1) tYesD (dBin gEq (dBin gIx (dVar 1) (dC (.int 3))) (dC (.str "any"))) [1]
def d_House_is_plain (n : Nat) : DS :=
  (dRet (dBi gAll (dCons (lc_House_is_plain_0 n) dNil)))
def e_House_is_plain (n : Nat) : List D → List D → Option (Ret × List D) := runF 2 (d_House_is_plain n)
def d_House_deeds (n : Nat) : DS :=
  (dRet (dBi gList (dCons (dFld "House" "own_deeds" (dVar 0)) dNil)))
def e_House_deeds (n : Nat) : List D → List D → Option (Ret × List D) := runF 1 (d_House_deeds n)
def d_House_len (n : Nat) : DS :=
  (dRet (dBi gLen (dCons (dFld "House" "own_deeds" (dVar 0)) dNil)))
def e_House_len (n : Nat) : List D → List D → Option (Ret × List D) := runF 1 (d_House_len n)
def d_House_eq (n : Nat) : DS :=
  (dSeq (dIfS (dNot (dTru (dBi (gIsi csL) (dCons (dVar 1) (dCons (dC (.fn "House")) dNil))))) (dRet (dC (.bl false))) dSkip)
    (dRet (dAndV (dBin gEq (dFld "House" "own_places" (dVar 0)) (dFld "House" "own_places" (dVar 1))) (dBin gEq (dFld "House" "own_deeds" (dVar 0)) (dFld "House" "own_deeds" (dVar 1))))))
def e_House_eq (n : Nat) : List D → List D → Option (Ret × List D) := runF 2 (d_House_eq n)
def d_House_repr (n : Nat) : DS :=
  (dRet (dJ (jCons (pS "House(") (jCons (pF (dFld "House" "own_places" (dVar 0))) (jCons (pS ", ") (jCons (pR (dFld "House" "own_deeds" (dVar 0))) (jCons (pS ")") jNil)))))))
def e_House_repr (n : Nat) : List D → List D → Option (Ret × List D) := runF 1 (d_House_repr n)
def mk_House_with_deed_0 (n : Nat) : DE := dMake "House" 2 0 [0, 1, 2] [] (e_House_init n) (dCons (dFld "House" "own_places" (dVar 0)) (dCons (dBin gAdd (dFld "House" "own_deeds" (dVar 0)) (dLst (dCons (dVar 1) dNil))) dNil)) dNil
def d_House_with_deed (n : Nat) : DS :=
  (dSeq (dIfS (dOr (dNot (dTru (dCall 2 (fun ds => e_is_deed n (ds ++ [])) (dCons (dVar 1) (dCons (dFld "House" "own_places" (dVar 0)) dNil))))) (dTst (dBin (gIn false) (dVar 1) (dFld "House" "own_deeds" (dVar 0))))) dNever dSkip)
    (dSeq (dDrop (dCall 3 (fun ds => e_want_few n (ds ++ [])) (dCons (dC (.str "deeds")) (dCons (dC (.int 60)) (dCons (dBin gAdd (dBi gLen (dCons (dFld "House" "own_deeds" (dVar 0)) dNil)) (dC (.int 1))) dNil)))))
    (dRet (mk_House_with_deed_0 n))))
def e_House_with_deed (n : Nat) : List D → List D → Option (Ret × List D) := runF 2 (d_House_with_deed n)
def mk_House_without_deed_0 (n : Nat) : DE := dMake "House" 2 0 [0, 1, 2] [] (e_House_init n) (dCons (dFld "House" "own_places" (dVar 0)) (dCons (dBin gAdd (dSl (dFld "House" "own_deeds" (dVar 0)) dNoP (dPart (dVar 1))) (dSl (dFld "House" "own_deeds" (dVar 0)) (dPart (dBin gAdd (dVar 1) (dC (.int 1)))) dNoP)) dNil)) dNil
def d_House_without_deed (n : Nat) : DS :=
  (dSeq (dIfS (dOr (dNot (dTru (dCall 1 (fun ds => e_is_count n (ds ++ [])) (dCons (dVar 1) dNil)))) (dTst (dBin gGe (dVar 1) (dBi gLen (dCons (dFld "House" "own_deeds" (dVar 0)) dNil))))) dNever dSkip)
    (dRet (mk_House_without_deed_0 n)))
def e_House_without_deed (n : Nat) : List D → List D → Option (Ret × List D) := runF 2 (d_House_without_deed n)
def lc_is_order_0 (n : Nat) : DE := dLc (orI (iSeq (dVar 0)) (iTp (dVar 0))) (gNm 2) tYesD (dCall 2 (fun ds => e_is_place_of n (ds ++ [])) (dCons (dVar 2) (dCons (dVar 1) dNil))) [2]
def d_is_order (n : Nat) : DS :=
  (dSeq (dIfS (dOr (dNot (dTru (dCall 1 (fun ds => e_is_list n (ds ++ [])) (dCons (dVar 0) dNil)))) (dOr (dTst (dBin gNe (dBi gLen (dCons (dVar 0) dNil)) (dVar 1))) (dNot (dTru (dBi gAll (dCons (lc_is_order_0 n) dNil)))))) (dRet (dC (.bl false))) dSkip)
    (dRet (dBin gEq (dLs (dVar 0)) (dVar 1))))
def e_is_order (n : Nat) : List D → List D → Option (Ret × List D) := runF 3 (d_is_order n)
def d_moved (n : Nat) : DS :=
  (dRet (dTup (dCons (dBin gIx (dVar 1) (dBin gIx (dVar 0) (dC (.int 0)))) (dCons (dBin gIx (dVar 0) (dC (.int 1))) (dCons (dBin gIx (dVar 1) (dBin gIx (dVar 0) (dC (.int 2)))) (dCons (dBin gIx (dVar 0) (dC (.int 3))) dNil))))))
def e_moved (n : Nat) : List D → List D → Option (Ret × List D) := runF 2 (d_moved n)
def lc_House_renumbered_0 (n : Nat) : DE := dLc (orI (iSeq (dFld "House" "own_deeds" (dVar 0))) (iTp (dFld "House" "own_deeds" (dVar 0)))) (gNm 2) tYesD (dCall 2 (fun ds => e_moved n (ds ++ [])) (dCons (dVar 2) (dCons (dVar 1) dNil))) [2]
def mk_House_renumbered_1 (n : Nat) : DE := dMake "House" 2 0 [0, 1, 2] [] (e_House_init n) (dCons (dFld "House" "own_places" (dVar 0)) (dCons (lc_House_renumbered_0 n) dNil)) dNil
def d_House_renumbered (n : Nat) : DS :=
  (dSeq (dIfS (dNot (dTru (dCall 2 (fun ds => e_is_order n (ds ++ [])) (dCons (dVar 1) (dCons (dFld "House" "own_places" (dVar 0)) dNil))))) dNever dSkip)
    (dRet (mk_House_renumbered_1 n)))
def e_House_renumbered (n : Nat) : List D → List D → Option (Ret × List D) := runF 3 (d_House_renumbered n)
def lc_House_beside_0 (n : Nat) : DE := dLc (orI (iSeq (dFld "House" "own_deeds" (dVar 1))) (iTp (dFld "House" "own_deeds" (dVar 1)))) (gNm 4) tYesD (dCall 2 (fun ds => e_moved n (ds ++ [])) (dCons (dVar 4) (dCons (dVar 2) dNil))) [4]
def mk_House_beside_1 (n : Nat) : DE := dMake "House" 2 0 [0, 1, 2] [] (e_House_init n) (dCons (dBin gAdd (dFld "House" "own_places" (dVar 0)) (dFld "House" "own_places" (dVar 1))) (dCons (dBin gAdd (dFld "House" "own_deeds" (dVar 0)) (dVar 3)) dNil)) dNil
def d_House_beside (n : Nat) : DS :=
  (dSeq (dIfS (dNot (dTru (dBi (gIsi csL) (dCons (dVar 1) (dCons (dC (.fn "House")) dNil))))) dNever dSkip)
    (dSeq (dDrop (dCall 3 (fun ds => e_want_few n (ds ++ [])) (dCons (dC (.str "places")) (dCons (dC (.int 16)) (dCons (dBin gAdd (dFld "House" "own_places" (dVar 0)) (dFld "House" "own_places" (dVar 1))) dNil)))))
    (dSeq (dDrop (dCall 3 (fun ds => e_want_few n (ds ++ [])) (dCons (dC (.str "deeds")) (dCons (dC (.int 60)) (dCons (dBin gAdd (dBi gLen (dCons (dFld "House" "own_deeds" (dVar 0)) dNil)) (dBi gLen (dCons (dFld "House" "own_deeds" (dVar 1)) dNil))) dNil)))))
    (dSeq (dSt .keep 2 (dLr2 (dFld "House" "own_places" (dVar 0)) (dBin gAdd (dFld "House" "own_places" (dVar 0)) (dFld "House" "own_places" (dVar 1)))))
    (dSeq (dSt .keep 3 (lc_House_beside_0 n))
    (dRet (mk_House_beside_1 n)))))))
def e_House_beside (n : Nat) : List D → List D → Option (Ret × List D) := runF 5 (d_House_beside n)
def lc_House_plain_0 (n : Nat) : DE := dLc (orI (iSeq (dFld "House" "own_deeds" (dVar 0))) (iTp (dFld "House" "own_deeds" (dVar 0)))) (gNm 1) (dTst (dBin gEq (dBin gIx (dVar 1) (dC (.int 3))) (dC (.str "any")))) (dVar 1) [1]
def mk_House_plain_1 (n : Nat) : DE := dMake "House" 2 0 [0, 1, 2] [] (e_House_init n) (dCons (dFld "House" "own_places" (dVar 0)) (dCons (lc_House_plain_0 n) dNil)) dNil
def d_House_plain (n : Nat) : DS :=
  (dRet (mk_House_plain_1 n))
def e_House_plain (n : Nat) : List D → List D → Option (Ret × List D) := runF 2 (d_House_plain n)
def d_want_plain (n : Nat) : DS :=
  (dIfS (dNot (dTru (dMeth0 "House" "is_plain" [0] [] (e_House_is_plain n) (dVar 0)))) dNever dSkip)
def e_want_plain (n : Nat) : List D → List D → Option (Ret × List D) := runF 1 (d_want_plain n)
def lc_House_turned_0 (n : Nat) : DE := dLc (orI (iSeq (dFld "House" "own_deeds" (dVar 0))) (iTp (dFld "House" "own_deeds" (dVar 0)))) (gTp 4 (gCs (gNm 1) (gCs (gNm 2) (gCs (gNm 3) (gCs (gNm 4) gNl))))) tYesD (dTup (dCons (dVar 3) (dCons (dBin (gI (· - ·)) (dC (.int 0)) (dVar 2)) (dCons (dVar 1) (dCons (dC (.str "any")) dNil))))) [1, 2, 3, 4]
def mk_House_turned_1 (n : Nat) : DE := dMake "House" 2 0 [0, 1, 2] [] (e_House_init n) (dCons (dFld "House" "own_places" (dVar 0)) (dCons (lc_House_turned_0 n) dNil)) dNil
def d_House_turned (n : Nat) : DS :=
  (dSeq (dDrop (dCall 1 (fun ds => e_want_plain n (ds ++ [])) (dCons (dVar 0) dNil)))
    (dRet (mk_House_turned_1 n)))
def e_House_turned (n : Nat) : List D → List D → Option (Ret × List D) := runF 5 (d_House_turned n)
def d_law_pot (n : Nat) : DS :=
  (dSeq (dSt .keep 2 (dBin gAdd (dBin gMul (dC (.int 89)) (dVar 1)) (dC (.int 23))))
    (dSeq (dIfS (dTst (dBin gLt (dVar 1) (dBi gLen (dCons (dVar 0) dNil)))) (dSt .keep 2 (dBi gAbs (dCons (dBin gIx (dVar 0) (dVar 1)) dNil))) dSkip)
    (dRet (dLst (dCons (dBi gMax2 (dCons (dC (.int 0)) (dCons (dBin (gI (· - ·)) (dVar 2) (dBin gPow (dC (.int 10)) (dC (.int 18)))) dNil))) (dCons (dBin gAdd (dBin (gIC cMod (· % ·)) (dBi gInt1 (dCons (dBin gAdd (dBin gAdd (dBin gMul (dBin (gIC cMod (· % ·)) (dBi gInt1 (dCons (dVar 2) dNil)) (dC (.int 2147483549))) (dC (.int 48271))) (dBin gMul (dC (.int 5003)) (dVar 1))) (dC (.int 47))) dNil)) (dC (.int 2147483563))) (dC (.int 1))) dNil))))))
def e_law_pot (n : Nat) : List D → List D → Option (Ret × List D) := runF 3 (d_law_pot n)
def d_law_draw (n : Nat) : DS :=
  (dSeq (dIfS (dTst (dBin gGt (dBin gIx (dVar 0) (dC (.int 0))) (dC (.int 0)))) (dSeq (dAsg (dBi gDivmod (dCons (dBin gIx (dVar 0) (dC (.int 0))) (dCons (dVar 1) dNil))) (gTp 2 (gCs (gSb 0 (dC (.int 0))) (gCs (gNm 2) gNl))))
    (dRet (dVar 2))) dSkip)
    (dSeq (dAsg (dBin (gIC cMod (· % ·)) (dBi gInt1 (dCons (dBin gAdd (dBin gMul (dBin gIx (dVar 0) (dC (.int 1))) (dC (.int 39373))) (dC (.int 47))) dNil)) (dC (.int 2147483587))) (gSb 0 (dC (.int 1))))
    (dRet (dBin (gIC cMod (· % ·)) (dBi gInt1 (dCons (dBin (gIC cDiv (· / ·)) (dBin (gIC cMod (· % ·)) (dBi gInt1 (dCons (dBin gMul (dBin gIx (dVar 0) (dC (.int 1))) (dBin gIx (dVar 0) (dC (.int 1)))) dNil)) (dC (.int 2147483563))) (dC (.int 17))) dNil)) (dVar 1)))))
def e_law_draw (n : Nat) : List D → List D → Option (Ret × List D) := runF 3 (d_law_draw n)
def lp_law_deeds_0 (n : Nat) : DS := (dFor (iRg1 (dCons (dVar 2) dNil)) (gNm 5) (dSeq (dPar .keep .keep 6 7 (dCall 2 (fun ds => e_law_draw n (ds ++ [])) (dCons (dVar 0) (dCons (dVar 1) dNil))) (dCall 2 (fun ds => e_law_draw n (ds ++ [])) (dCons (dVar 0) (dCons (dVar 1) dNil))))
    (dSeq (dSt .keep 8 (dTup (dCons (dVar 6) (dCons (dBin (gI (· - ·)) (dCall 2 (fun ds => e_law_draw n (ds ++ [])) (dCons (dVar 0) (dCons (dC (.int 3)) dNil))) (dC (.int 1))) (dCons (dVar 7) (dCons (dC (.str "any")) dNil))))))
    (dSeq (dIfS (dAnd (dTru (dVar 3)) (dTst (dBin gEq (dCall 2 (fun ds => e_law_draw n (ds ++ [])) (dCons (dVar 0) (dCons (dC (.int 4)) dNil))) (dC (.int 0))))) (dSt .keep 8 (dTup (dCons (dVar 6) (dCons (dCall 2 (fun ds => e_law_draw n (ds ++ [])) (dCons (dVar 0) (dCons (dC (.int 2)) dNil))) (dCons (dVar 7) (dCons (dC (.str "empty")) dNil)))))) dSkip)
    (dIfS (dTst (dBin (gIn true) (dVar 8) (dVar 4))) (dDrop (dMut true uAppend 4 (dCons (dVar 8) dNil))) dSkip)))))
def d_law_deeds (n : Nat) : DS :=
  (dSeq (dSt .own 4 (dLst dNil))
    (dSeq (lp_law_deeds_0 n)
    (dRet (dVar 4))))
def e_law_deeds (n : Nat) : List D → List D → Option (Ret × List D) := runF 9 (d_law_deeds n)
def lp_law_mixed_0 (n : Nat) : DS := (dFor (iRg1 (dCons (dBi gLen (dCons (dVar 2) dNil)) dNil)) (gNm 4) (dDrop (dMut true uAppend 3 (dCons (dMut false uPopAt 2 (dCons (dCall 2 (fun ds => e_law_draw n (ds ++ [])) (dCons (dVar 0) (dCons (dBi gLen (dCons (dVar 2) dNil)) dNil))) dNil)) dNil))))
def d_law_mixed (n : Nat) : DS :=
  (dSeq (dPar .own .own 2 3 (dBi gList (dCons (dVar 1) dNil)) (dLst dNil))
    (dSeq (lp_law_mixed_0 n)
    (dRet (dVar 3))))
def e_law_mixed (n : Nat) : List D → List D → Option (Ret × List D) := runF 5 (d_law_mixed n)
def lc_law_tells_0 (n : Nat) : DE := dLc (orI (iSeq (dVar 2)) (iTp (dVar 2))) (gNm 5) (dTst (dBin gEq (dBin gIx (dVar 5) (dC (.int 3))) (dC (.str "empty")))) (dVar 5) [5]
def mk_law_tells_1 (n : Nat) : DE := dMake "House" 2 0 [0, 1, 2] [] (e_House_init n) (dCons (dVar 1) (dCons (dBi gTuple (dCons (dVar 2) dNil)) dNil)) dNil
def mk_law_tells_2 (n : Nat) : DE := dMake "House" 2 0 [0, 1, 2] [] (e_House_init n) (dCons (dVar 1) (dCons (dVar 2) dNil)) dNil
def d_law_tells (n : Nat) : DS :=
  (dSeq (dSt .keep 3 (dBin gEq (lc_law_tells_0 n) (dLst dNil)))
    (dSeq (dIfS (dTst (dBin gNe (dBi gRepr (dCons (dLst (dCons (dMeth0 "House" "places" [0] [] (e_House_places n) (dVar 0)) (dCons (dMeth0 "House" "deeds" [0] [] (e_House_deeds n) (dVar 0)) (dCons (dOwn1 "House" okLen [0] [] (e_House_len n) (dCons (dVar 0) dNil)) (dCons (dMeth0 "House" "is_plain" [0] [] (e_House_is_plain n) (dVar 0)) dNil))))) dNil)) (dBi gRepr (dCons (dLst (dCons (dVar 1) (dCons (dVar 2) (dCons (dBi gLen (dCons (dVar 2) dNil)) (dCons (dVar 3) dNil))))) dNil)))) (dRet (dC (.bl false))) dSkip)
    (dSeq (dSt .own 4 (dMeth0 "House" "deeds" [0] [] (e_House_deeds n) (dVar 0)))
    (dSeq (dDrop (dMut true uAppend 4 (dCons (dC .non) dNil)))
    (dSeq (dIfS (dOr (dTst (dBin gNe (dMeth0 "House" "deeds" [0] [] (e_House_deeds n) (dVar 0)) (dVar 2))) (dTst (dBin gNe (dOwn1 "House" okTxt [0] [] (e_House_repr n) (dCons (dVar 0) dNil)) (dBin gAdd (dBin gAdd (dBin gAdd (dBin gAdd (dC (.str "House(")) (dBi gStrI (dCons (dVar 1) dNil))) (dC (.str ", "))) (dBi gRepr (dCons (dVar 2) dNil))) (dC (.str ")")))))) (dRet (dC (.bl false))) dSkip)
    (dRet (dAndV (dEqO csL "House" false [0, 1] [] (e_House_eq n) (dVar 0) (mk_law_tells_1 n)) (dEqO csL "House" false [0, 1] [] (e_House_eq n) (mk_law_tells_2 n) (dVar 0)))))))))
def e_law_tells (n : Nat) : List D → List D → Option (Ret × List D) := runF 6 (d_law_tells n)
def mk_law_equal_right_0 (n : Nat) : DE := dMake "House" 2 0 [0, 1, 2] [] (e_House_init n) (dCons (dVar 2) (dCons (dSl (dVar 3) (dPart (dC (.int 1))) dNoP) dNil)) dNil
def mk_law_equal_right_1 (n : Nat) : DE := dMake "House" 2 0 [0, 1, 2] [] (e_House_init n) (dCons (dVar 2) (dCons (dLst (dCons (dTup (dCons (dC (.int 0)) (dCons (dC (.int 0)) (dCons (dC (.int 0)) (dCons (dC (.str "any")) dNil))))) dNil)) dNil)) dNil
def mk_law_equal_right_2 (n : Nat) : DE := dMake "House" 2 0 [0, 1, 2] [] (e_House_init n) (dCons (dBin gAdd (dVar 2) (dC (.int 1))) (dCons (dVar 3) dNil)) dNil
def mk_law_equal_right_3 (n : Nat) : DE := dMake "House" 2 0 [0, 1, 2] [] (e_House_init n) (dCons (dVar 2) (dCons (dVar 5) dNil)) dNil
def lc_law_equal_right_4 (n : Nat) : DE := dLc (orI (iSeq (dVar 4)) (iTp (dVar 4))) (gNm 6) (dOr (dTst (dEqO csL "House" false [0, 1] [] (e_House_eq n) (dVar 1) (dVar 6))) (dTst (dEqO csL "House" false [0, 1] [] (e_House_eq n) (dVar 6) (dVar 1)))) (dVar 6) [6]
def lc_law_equal_right_5 (n : Nat) : DE := dLc (orI (iSeq (dLst (dCons (dC .non) (dCons (dC (.int 0)) (dCons (dVar 3) (dCons (dTup (dCons (dVar 2) (dCons (dVar 3) dNil))) (dCons (dOwn1 "House" okTxt [0] [] (e_House_repr n) (dCons (dVar 1) dNil)) (dCons (dC (.dic [] [])) dNil)))))))) (iTp (dLst (dCons (dC .non) (dCons (dC (.int 0)) (dCons (dVar 3) (dCons (dTup (dCons (dVar 2) (dCons (dVar 3) dNil))) (dCons (dOwn1 "House" okTxt [0] [] (e_House_repr n) (dCons (dVar 1) dNil)) (dCons (dC (.dic [] [])) dNil))))))))) (gNm 7) tYesD (dEqO csL "House" false [0, 1] [] (e_House_eq n) (dVar 1) (dVar 7)) [7]
def d_law_equal_right (n : Nat) : DS :=
  (dSeq (dSt .keep 4 (dLst (dCons (mk_law_equal_right_2 n) (dCons (dIf (dTst (dBin gNe (dVar 3) (dLst dNil))) (mk_law_equal_right_0 n) (mk_law_equal_right_1 n)) dNil))))
    (dSeq (dSt .keep 5 (dRev (dVar 3)))
    (dSeq (dSt .keep 4 (dBin gAdd (dVar 4) (dIf (dTst (dBin gNe (dVar 5) (dVar 3))) (dLst (dCons (mk_law_equal_right_3 n) dNil)) (dLst dNil))))
    (dSeq (dIfS (dTst (dBin gNe (lc_law_equal_right_4 n) (dLst dNil))) (dRet (dC (.bl false))) dSkip)
    (dRet (dNotV (dBi gAny (dCons (lc_law_equal_right_5 n) dNil))))))))
def e_law_equal_right (n : Nat) : List D → List D → Option (Ret × List D) := runF 8 (d_law_equal_right n)
def lc_law_made_0 (n : Nat) : DE := dLc (orI (iSeq (dVar 3)) (iTp (dVar 3))) (gTp 4 (gCs (gNm 12) (gCs (gNm 13) (gCs (gNm 14) (gCs (gNm 15) gNl))))) tYesD (dTup (dCons (dBin gIx (dVar 8) (dVar 12)) (dCons (dVar 13) (dCons (dBin gIx (dVar 8) (dVar 14)) (dCons (dVar 15) dNil))))) [12, 13, 14, 15]
def lc_law_made_1 (n : Nat) : DE := dLc (orI (iSeq (dVar 10)) (iTp (dVar 10))) (gTp 4 (gCs (gNm 12) (gCs (gNm 13) (gCs (gNm 14) (gCs (gNm 15) gNl))))) tYesD (dTup (dCons (dBin gAdd (dVar 12) (dVar 2)) (dCons (dVar 13) (dCons (dBin gAdd (dVar 14) (dVar 2)) (dCons (dVar 15) dNil))))) [12, 13, 14, 15]
def mk_law_made_2 (n : Nat) : DE := dMake "House" 2 0 [0, 1, 2] [] (e_House_init n) (dCons (dC (.int 2)) (dCons (dVar 10) dNil)) dNil
def mk_law_made_3 (n : Nat) : DE := dMake "House" 2 0 [0, 1, 2] [] (e_House_init n) (dCons (dC (.int 2)) (dCons (dVar 10) dNil)) dNil
def lc_law_made_4 (n : Nat) : DE := dLc (orI (iSeq (dVar 3)) (iTp (dVar 3))) (gNm 11) (dTst (dBin gEq (dBin gIx (dVar 11) (dC (.int 3))) (dC (.str "any")))) (dVar 11) [11]
def lc_law_made_5 (n : Nat) : DE := dLc (orI (iSeq (dVar 3)) (iTp (dVar 3))) (gNm 11) (dTst (dBin gEq (dBin gIx (dVar 11) (dC (.int 3))) (dC (.str "any")))) (dVar 11) [11]
def lc_law_made_6 (n : Nat) : DE := dLc (orI (iSeq (dVar 5)) (iTp (dVar 5))) (gTp 4 (gCs (gNm 12) (gCs (gNm 13) (gCs (gNm 14) (gCs (gNm 15) gNl))))) tYesD (dTup (dCons (dVar 14) (dCons (dBin (gI (· - ·)) (dC (.int 0)) (dVar 13)) (dCons (dVar 12) (dCons (dVar 15) dNil))))) [12, 13, 14, 15]
def d_law_made (n : Nat) : DS :=
  (dSeq (dSt .keep 4 (dCall 2 (fun ds => e_law_draw n (ds ++ [])) (dCons (dVar 0) (dCons (dC (.int 6)) dNil))))
    (dSeq (dIfS (dTst (dBin gEq (dVar 4) (dC (.int 0)))) (dSeq (dSt .keep 6 (dTup (dCons (dCall 2 (fun ds => e_law_draw n (ds ++ [])) (dCons (dVar 0) (dCons (dVar 2) dNil))) (dCons (dBin (gI (· - ·)) (dCall 2 (fun ds => e_law_draw n (ds ++ [])) (dCons (dVar 0) (dCons (dC (.int 3)) dNil))) (dC (.int 1))) (dCons (dCall 2 (fun ds => e_law_draw n (ds ++ [])) (dCons (dVar 0) (dCons (dVar 2) dNil))) (dCons (dC (.str "any")) dNil))))))
    (dSeq (dIfS (dTst (dBin (gIn false) (dVar 6) (dVar 3))) (dRet (dTup (dCons (dVar 1) (dCons (dVar 2) (dCons (dVar 3) dNil))))) dSkip)
    (dRet (dTup (dCons (dIf (dTst (dBin gEq (dCall 2 (fun ds => e_law_draw n (ds ++ [])) (dCons (dVar 0) (dCons (dC (.int 2)) dNil))) (dC (.int 0)))) (dMeth "House" "with_deed" 1 0 [0, 1] [] (e_House_with_deed n) (dVar 1) (dCons (dVar 6) dNil) dNil) (dMeth "House" "with_deed" 0 1 [0, 1] [] (e_House_with_deed n) (dVar 1) dNil (dCons (dVar 6) dNil))) (dCons (dVar 2) (dCons (dBin gAdd (dVar 3) (dLst (dCons (dVar 6) dNil))) dNil))))))) dSkip)
    (dSeq (dIfS (dAnd (dTst (dBin gEq (dVar 4) (dC (.int 1)))) (dTst (dBin gNe (dVar 3) (dLst dNil)))) (dSeq (dSt .keep 7 (dCall 2 (fun ds => e_law_draw n (ds ++ [])) (dCons (dVar 0) (dCons (dBi gLen (dCons (dVar 3) dNil)) dNil))))
    (dRet (dTup (dCons (dIf (dTst (dBin gEq (dCall 2 (fun ds => e_law_draw n (ds ++ [])) (dCons (dVar 0) (dCons (dC (.int 2)) dNil))) (dC (.int 0)))) (dMeth "House" "without_deed" 1 0 [0, 1] [] (e_House_without_deed n) (dVar 1) (dCons (dVar 7) dNil) dNil) (dMeth "House" "without_deed" 0 1 [0, 1] [] (e_House_without_deed n) (dVar 1) dNil (dCons (dVar 7) dNil))) (dCons (dVar 2) (dCons (dBin gAdd (dSl (dVar 3) dNoP (dPart (dVar 7))) (dSl (dVar 3) (dPart (dBin gAdd (dVar 7) (dC (.int 1)))) dNoP)) dNil)))))) dSkip)
    (dSeq (dIfS (dTst (dBin gEq (dVar 4) (dC (.int 2)))) (dSeq (dSt .keep 8 (dCall 2 (fun ds => e_law_mixed n (ds ++ [])) (dCons (dVar 0) (dCons (dLr1 (dVar 2)) dNil))))
    (dSeq (dSt .keep 9 (lc_law_made_0 n))
    (dRet (dTup (dCons (dIf (dTst (dBin gEq (dCall 2 (fun ds => e_law_draw n (ds ++ [])) (dCons (dVar 0) (dCons (dC (.int 2)) dNil))) (dC (.int 0)))) (dMeth "House" "renumbered" 1 0 [0, 1] [] (e_House_renumbered n) (dVar 1) (dCons (dVar 8) dNil) dNil) (dMeth "House" "renumbered" 0 1 [0, 1] [] (e_House_renumbered n) (dVar 1) dNil (dCons (dBi gTuple (dCons (dVar 8) dNil)) dNil))) (dCons (dVar 2) (dCons (dVar 9) dNil))))))) dSkip)
    (dSeq (dIfS (dAnd (dTst (dBin gEq (dVar 4) (dC (.int 3)))) (dAnd (dTst (dBin gLt (dVar 2) (dC (.int 9)))) (dTst (dBin gLt (dBi gLen (dCons (dVar 3) dNil)) (dC (.int 20)))))) (dSeq (dSt .keep 10 (dCall 4 (fun ds => e_law_deeds n (ds ++ [])) (dCons (dVar 0) (dCons (dC (.int 2)) (dCons (dC (.int 2)) (dCons (dC (.bl true)) dNil))))))
    (dSeq (dSt .keep 9 (lc_law_made_1 n))
    (dRet (dTup (dCons (dIf (dTst (dBin gEq (dCall 2 (fun ds => e_law_draw n (ds ++ [])) (dCons (dVar 0) (dCons (dC (.int 2)) dNil))) (dC (.int 0)))) (dMeth "House" "beside" 1 0 [0, 1] [] (e_House_beside n) (dVar 1) (dCons (mk_law_made_2 n) dNil) dNil) (dMeth "House" "beside" 0 1 [0, 1] [] (e_House_beside n) (dVar 1) dNil (dCons (mk_law_made_3 n) dNil))) (dCons (dBin gAdd (dVar 2) (dC (.int 2))) (dCons (dBin gAdd (dVar 3) (dVar 9)) dNil))))))) dSkip)
    (dSeq (dIfS (dTst (dBin gEq (dVar 4) (dC (.int 4)))) (dRet (dTup (dCons (dMeth0 "House" "plain" [0] [] (e_House_plain n) (dVar 1)) (dCons (dVar 2) (dCons (lc_law_made_4 n) dNil))))) dSkip)
    (dSeq (dSt .keep 5 (lc_law_made_5 n))
    (dRet (dTup (dCons (dMeth0 "House" "turned" [0] [] (e_House_turned n) (dMeth0 "House" "plain" [0] [] (e_House_plain n) (dVar 1))) (dCons (dVar 2) (dCons (lc_law_made_6 n) dNil))))))))))))
def e_law_made (n : Nat) : List D → List D → Option (Ret × List D) := runF 16 (d_law_made n)
def mk_law_right_0 (n : Nat) : DE := dMake "House" 0 2 [0, 1, 2] [] (e_House_init n) dNil (dCons (dVar 1) (dCons (dIf (dTst (dBin gEq (dCall 2 (fun ds => e_law_draw n (ds ++ [])) (dCons (dVar 0) (dCons (dC (.int 2)) dNil))) (dC (.int 0)))) (dVar 3) (dBi gTuple (dCons (dVar 3) dNil))) dNil))
def lp_law_right_1 (n : Nat) : DS := (dFor (iRg1 (dCons (dC (.int 7)) dNil)) (gNm 5) (dSeq (dSt .keep 8 (dTup (dCons (dVar 4) (dCons (dVar 1) (dCons (dVar 2) dNil)))))
    (dSeq (dAsg (dCall 4 (fun ds => e_law_made n (ds ++ [])) (dCons (dVar 0) (dCons (dVar 4) (dCons (dVar 1) (dCons (dVar 2) dNil))))) (gTp 3 (gCs (gNm 4) (gCs (gNm 1) (gCs (gNm 2) gNl)))))
    (dIfS (dOr (dNot (dTru (dCall 3 (fun ds => e_law_tells n (ds ++ [])) (dCons (dVar 4) (dCons (dVar 1) (dCons (dVar 2) dNil)))))) (dNot (dTru (dCall 3 (fun ds => e_law_tells n (ds ++ [])) (dCons (dBin gIx (dVar 8) (dC (.int 0))) (dCons (dBin gIx (dVar 8) (dC (.int 1))) (dCons (dBin gIx (dVar 8) (dC (.int 2))) dNil))))))) (dRet (dC (.bl false))) dSkip))))
def lc_law_right_2 (n : Nat) : DE := dLc (iRg1 (dCons (dVar 1) dNil)) (gNm 9) tYesD (dIdx (dVar 6) (dCons (dVar 9) dNil)) [9]
def mk_law_right_3 (n : Nat) : DE := dMake "House" 2 0 [0, 1, 2] [] (e_House_init n) (dCons (dC (.int 1)) (dCons (dLst dNil) dNil)) dNil
def d_law_right (n : Nat) : DS :=
  (dSeq (dSt .keep 1 (dBin gAdd (dC (.int 1)) (dCall 2 (fun ds => e_law_draw n (ds ++ [])) (dCons (dVar 0) (dCons (dC (.int 5)) dNil)))))
    (dSeq (dSt .keep 2 (dCall 4 (fun ds => e_law_deeds n (ds ++ [])) (dCons (dVar 0) (dCons (dVar 1) (dCons (dCall 2 (fun ds => e_law_draw n (ds ++ [])) (dCons (dVar 0) (dCons (dC (.int 9)) dNil))) (dCons (dC (.bl true)) dNil))))))
    (dSeq (dSt .cel 3 (dBi gList (dCons (dVar 2) dNil)))
    (dSeq (dSt .keep 4 (mk_law_right_0 n))
    (dSeq (dDrop (dMut true uAppend 3 (dCons (dTup (dCons (dC (.int 0)) (dCons (dC (.int 0)) (dCons (dC (.int 0)) (dCons (dC (.str "any")) dNil))))) dNil)))
    (dSeq (dIfS (dOr (dNot (dTru (dCall 3 (fun ds => e_law_tells n (ds ++ [])) (dCons (dVar 4) (dCons (dVar 1) (dCons (dVar 2) dNil)))))) (dNot (dTru (dCall 4 (fun ds => e_law_equal_right n (ds ++ [])) (dCons (dVar 0) (dCons (dVar 4) (dCons (dVar 1) (dCons (dVar 2) dNil)))))))) (dRet (dC (.bl false))) dSkip)
    (dSeq (lp_law_right_1 n)
    (dSeq (dSt .keep 6 (dCall 2 (fun ds => e_law_mixed n (ds ++ [])) (dCons (dVar 0) (dCons (dLr1 (dVar 1)) dNil))))
    (dSeq (dSt .keep 7 (lc_law_right_2 n))
    (dSeq (dIfS (dOr (dTst (dEqO csL "House" true [0, 1] [] (e_House_eq n) (dMeth "House" "renumbered" 1 0 [0, 1] [] (e_House_renumbered n) (dMeth "House" "renumbered" 1 0 [0, 1] [] (e_House_renumbered n) (dVar 4) (dCons (dVar 6) dNil) dNil) (dCons (dVar 7) dNil) dNil) (dVar 4))) (dTst (dEqO csL "House" true [0, 1] [] (e_House_eq n) (dMeth0 "House" "plain" [0] [] (e_House_plain n) (dMeth0 "House" "plain" [0] [] (e_House_plain n) (dVar 4))) (dMeth0 "House" "plain" [0] [] (e_House_plain n) (dVar 4))))) (dRet (dC (.bl false))) dSkip)
    (dRet (dAndV (dEqO csL "House" false [0, 1] [] (e_House_eq n) (dMeth0 "House" "turned" [0] [] (e_House_turned n) (dMeth0 "House" "turned" [0] [] (e_House_turned n) (dMeth0 "House" "plain" [0] [] (e_House_plain n) (dVar 4)))) (dMeth0 "House" "plain" [0] [] (e_House_plain n) (dVar 4))) (dCall 3 (fun ds => e_law_tells n (ds ++ [])) (dCons (mk_law_right_3 n) (dCons (dC (.int 1)) (dCons (dLst dNil) dNil))))))))))))))))
def e_law_right (n : Nat) : List D → List D → Option (Ret × List D) := runF 10 (d_law_right n)
def lc_law_0 (n : Nat) : DE := dLc (iRg1 (dCons (dBi gMax2 (dCons (dC (.int 1)) (dCons (dBi gMin2 (dCons (dC (.int 3)) (dCons (dBi gLen (dCons (dVar 0) dNil)) dNil))) dNil))) dNil)) (gNm 1) tYesD (dCallNew (e_law_right n) (dCall 2 (fun ds => e_law_pot n (ds ++ [])) (dCons (dVar 0) (dCons (dVar 1) dNil)))) [1]
def d_law (n : Nat) : DS :=
  (dRet (dBi gAll (dCons (lc_law_0 n) dNil)))
def e_law (n : Nat) : List D → List D → Option (Ret × List D) := runF 2 (d_law n)
end L
set_option Elab.async false
set_option linter.all false
set_option maxRecDepth 100000
set_option maxHeartbeats 4000000
namespace L
open PySem L2 EV

theorem rd_int (δ : DSt) (i : Int) : rdD δ (.int i) = some (.int i) := rfl
theorem rd_str (δ : DSt) (i : Str) : rdD δ (.str i) = some (.str i) := rfl
theorem rd_bl (δ : DSt) (i : Bool) : rdD δ (.bl i) = some (.bl i) := rfl
theorem rd_non (δ : DSt) : rdD δ .non = some .non := rfl
theorem rd_lst (δ : DSt) (i : List D) : rdD δ (.lst i) = some (.lst i) := rfl
theorem rd_tup (δ : DSt) (i : List D) : rdD δ (.tup i) = some (.tup i) := rfl
theorem rd_klst (δ : DSt) (i : List D) : rdD δ (.klst i) = some (.klst i) := rfl
theorem rd_fn (δ : DSt) (x : Str) : rdD δ (.fn x) = some (.fn x) := rfl
theorem rd_ty (δ : DSt) (x : String) : rdD δ (.ty x) = some (.ty x) := rfl
theorem rd_dic (δ : DSt) (x y : List D) : rdD δ (.dic x y) = some (.dic x y) := rfl
theorem rd_cell (δ : DSt) (k : Nat) : rdD δ (.cell k) = δ.ce[k]? := rfl
/-! ### unlike names -/
theorem sn0 : (Str.ofString "own_deeds" = Str.ofString "own_places") = False := eq_false (by decide)
theorem sb0 : (Str.ofString "own_deeds" == Str.ofString "own_places") = false := by decide
theorem sn1 : (Str.ofString "own_places" = Str.ofString "own_deeds") = False := eq_false (by decide)
theorem sb1 : (Str.ofString "own_places" == Str.ofString "own_deeds") = false := by decide
theorem sn2 : (Str.ofString "empty" = Str.ofString "any") = False := eq_false (by decide)
theorem sb2 : (Str.ofString "empty" == Str.ofString "any") = false := by decide
theorem sn3 : (Str.ofString "any" = Str.ofString "empty") = False := eq_false (by decide)
theorem sb3 : (Str.ofString "any" == Str.ofString "empty") = false := by decide
/-! ### deeds, houses as data -/
structure Dd where
  p : Int
  c : Int
  g : Int
  w : Str
deriving DecidableEq
def Dd.d (x : Dd) : D := .tup [.int x.p, .int x.c, .int x.g, .str x.w]
def ds (xs : List Dd) : List D := xs.map Dd.d
def hs (P : Int) (xs : List Dd) : D := .ins "House" ["own_places", "own_deeds"] [.int P, .lst (ds xs)]
structure okD (P : Int) (x : Dd) : Prop where
  p0 : 0 ≤ x.p
  p1 : x.p < P
  g0 : 0 ≤ x.g
  g1 : x.g < P
  w : (x.w = "any" ∧ -1 ≤ x.c ∧ x.c ≤ 1) ∨ (x.w = "empty" ∧ 0 ≤ x.c ∧ x.c ≤ 1)
structure good (P : Int) (xs : List Dd) : Prop where
  P0 : 1 ≤ P
  P1 : P ≤ 16
  ok : ∀ x ∈ xs, okD P x
  nd : xs.Nodup
  len : xs.length ≤ 60
theorem ds_len (xs : List Dd) : (ds xs).length = xs.length := List.length_map ..
/-! ### equality of deeds, of lists of deeds -/
theorem eqv_deed (x y : Dd) : PyData.eqv x.d.toP y.d.toP = decide (x = y) := by
  obtain ⟨a, b, c, d⟩ := x
  obtain ⟨a', b', c', d'⟩ := y
  simp only [Dd.d, D.toP, D.toPs, PyData.eqv, PyData.eqvAll, Bool.and_true, Dd.mk.injEq, Bool.decide_and]
  simp [Bool.beq_eq_decide_eq]
theorem eqv_deeds (xs ys : List Dd) : PyData.eqv (D.lst (ds xs)).toP (D.lst (ds ys)).toP = decide (xs = ys) := by
  simp only [D.toP, PyData.eqv]
  induction xs generalizing ys with
  | nil => cases ys <;> simp [ds, D.toPs, PyData.eqvAll]
  | cons x xs ih =>
    cases ys with
    | nil => simp [ds, D.toPs, PyData.eqvAll]
    | cons y ys =>
      have := ih ys
      simp only [ds, List.map_cons, D.toPs, PyData.eqvAll] at this ⊢
      rw [eqv_deed, this]
      simp [Bool.decide_and]
theorem pur_deed (x : Dd) : x.d.pur = true := by simp [Dd.d, D.pur, D.purs]
theorem purs_ds (xs : List Dd) : D.purs (ds xs) = true := by
  rw [purs_eq]
  simp [ds, pur_deed]
theorem depth_deed (x : Dd) : x.d.toP.depth = 1 := by simp [Dd.d, D.toP, D.toPs, PyData.depth, PyData.depthAll]
theorem depths_ds (xs : List Dd) : PyData.depthAll (D.toPs (ds xs)) ≤ 1 := by
  induction xs with
  | nil => simp [ds, D.toPs, PyData.depthAll]
  | cons x xs ih =>
    have e : PyData.depthAll (D.toPs (ds (x :: xs))) = max x.d.toP.depth (PyData.depthAll (D.toPs (ds xs))) := by simp [ds, D.toPs, PyData.depthAll]
    rw [e, depth_deed]
    omega
theorem gEq_deeds (xs ys : List Dd) : gEq (.lst (ds xs)) (.lst (ds ys)) = some (.val (.bl (decide (xs = ys)))) := by
  have h1 : (D.lst (ds xs)).pur = true := by simp only [D.pur]; exact purs_ds xs
  have h2 : (D.lst (ds ys)).pur = true := by simp only [D.pur]; exact purs_ds ys
  have h3 : (D.lst (ds xs)).toP.depth ≤ 64 := by simp only [D.toP, PyData.depth]; have := depths_ds xs; omega
  simp only [gEq, eqD, h1, h2, h3, decide_true, Bool.and_self, if_true, Option.map_some, eqv_deeds]
theorem gNe_deeds (xs ys : List Dd) : gNe (.lst (ds xs)) (.lst (ds ys)) = some (.val (.bl (!decide (xs = ys)))) := by
  have h1 : (D.lst (ds xs)).pur = true := by simp only [D.pur]; exact purs_ds xs
  have h2 : (D.lst (ds ys)).pur = true := by simp only [D.pur]; exact purs_ds ys
  have h3 : (D.lst (ds xs)).toP.depth ≤ 64 := by simp only [D.toP, PyData.depth]; have := depths_ds xs; omega
  simp only [gNe, eqD, h1, h2, h3, decide_true, Bool.and_self, if_true, Option.map_some, eqv_deeds]
theorem any_deeds (xs : List Dd) (x : Dd) : ((D.toPs (ds xs)).any fun z => PyData.eqv z x.d.toP) = decide (x ∈ xs) := by
  induction xs with
  | nil => simp [ds, D.toPs]
  | cons y ys ih =>
    have e : D.toPs (ds (y :: ys)) = y.d.toP :: D.toPs (ds ys) := by simp [ds, D.toPs]
    rw [e, List.any_cons, ih, eqv_deed]
    simp only [List.mem_cons, Bool.decide_or]
    congr 1
    exact decide_eq_decide.mpr ⟨fun h => h.symm, fun h => h.symm⟩
theorem gIn_deeds (neg : Bool) (xs : List Dd) (x : Dd) : gIn neg x.d (.lst (ds xs)) = some (.val (.bl (if neg = true then !decide (x ∈ xs) else decide (x ∈ xs)))) := by
  simp only [gIn, inD, itemsOf, Option.bind_some, pur_deed, purs_ds, depth_deed, any_deeds]
  simp
theorem gEq_str (a b : Str) : gEq (.str a) (.str b) = some (.val (.bl (decide (a = b)))) := by
  simp [gEq, eqD, D.pur, D.toP, PyData.depth, PyData.eqv, Bool.beq_eq_decide_eq]
theorem gNe_str (a b : Str) : gNe (.str a) (.str b) = some (.val (.bl (!decide (a = b)))) := by
  simp [gNe, eqD, D.pur, D.toP, PyData.depth, PyData.eqv, Bool.beq_eq_decide_eq]
theorem gEq_int (a b : Int) : gEq (.int a) (.int b) = some (.val (.bl (decide (a = b)))) := by
  simp [gEq, eqD, D.pur, D.toP, PyData.depth, PyData.eqv, Bool.beq_eq_decide_eq]
theorem gNe_int (a b : Int) : gNe (.int a) (.int b) = some (.val (.bl (!decide (a = b)))) := by
  simp [gNe, eqD, D.pur, D.toP, PyData.depth, PyData.eqv, Bool.beq_eq_decide_eq]
/-! ### the judges -/
theorem is_integer_int (n : Nat) (i : Int) (ce : List D) : e_is_integer n [.int i] ce = some (.val (.bl true), ce) := by
  simp [e_is_integer, d_is_integer, runF, startD, fin, retOf, dRet, dRetN, dSeq, dIfS, dNever, dSkip, dSt, putR, DSt.putV, DSt.putO, DSt.putC, dAsg, dDrop, gNm, gTp, gCs, gNl, dTst, dTru, gTru, dNot, dAnd, dOr, dAndV, dOrV, dNotV, dSc, scalD, dBin, dUn, gNeg, dChain, dVar, dC, dCall, dCallK, dAK, dCons, dNil, dTup, dLst, dBi, dIf, rdAll, keepAll, RV.pin, RV.rd, RV.keep, rdD, Ret.rv, gI, gIC, gIB, gLt, gLe, gGt, gGe, pick, Ret.lowC, List.lookup, sn0, sb0, sn1, sb1, sn2, sb2, sn3, sb3, gIsi, D.tag, D.ctag, okT, tyNs, subT, subB]
theorem is_count_int (n : Nat) (i : Int) (ce : List D) : e_is_count n [.int i] ce = some (.val (.bl (decide (0 ≤ i))), ce) := by
  simp [e_is_count, d_is_count, runF, startD, fin, retOf, dRet, dRetN, dSeq, dIfS, dNever, dSkip, dSt, putR, DSt.putV, DSt.putO, DSt.putC, dAsg, dDrop, gNm, gTp, gCs, gNl, dTst, dTru, gTru, dNot, dAnd, dOr, dAndV, dOrV, dNotV, dSc, scalD, dBin, dUn, gNeg, dChain, dVar, dC, dCall, dCallK, dAK, dCons, dNil, dTup, dLst, dBi, dIf, rdAll, keepAll, RV.pin, RV.rd, RV.keep, rdD, Ret.rv, gI, gIC, gIB, gLt, gLe, gGt, gGe, pick, Ret.lowC, List.lookup, sn0, sb0, sn1, sb1, sn2, sb2, sn3, sb3, is_integer_int]
theorem is_place_int (n : Nat) (i P : Int) (ce : List D) : e_is_place_of n [.int i, .int P] ce = some (.val (.bl (decide (0 ≤ i) && decide (i < P))), ce) := by
  by_cases h : 0 ≤ i <;> simp [e_is_place_of, d_is_place_of, runF, startD, fin, retOf, dRet, dRetN, dSeq, dIfS, dNever, dSkip, dSt, putR, DSt.putV, DSt.putO, DSt.putC, dAsg, dDrop, gNm, gTp, gCs, gNl, dTst, dTru, gTru, dNot, dAnd, dOr, dAndV, dOrV, dNotV, dSc, scalD, dBin, dUn, gNeg, dChain, dVar, dC, dCall, dCallK, dAK, dCons, dNil, dTup, dLst, dBi, dIf, rdAll, keepAll, RV.pin, RV.rd, RV.keep, rdD, Ret.rv, gI, gIC, gIB, gLt, gLe, gGt, gGe, pick, Ret.lowC, List.lookup, sn0, sb0, sn1, sb1, sn2, sb2, sn3, sb3, is_count_int, h]
theorem is_list_lst (n : Nat) (xs : List D) (ce : List D) : e_is_list n [.lst xs] ce = some (.val (.bl true), ce) := by
  simp [e_is_list, d_is_list, runF, startD, fin, retOf, dRet, dRetN, dSeq, dIfS, dNever, dSkip, dSt, putR, DSt.putV, DSt.putO, DSt.putC, dAsg, dDrop, gNm, gTp, gCs, gNl, dTst, dTru, gTru, dNot, dAnd, dOr, dAndV, dOrV, dNotV, dSc, scalD, dBin, dUn, gNeg, dChain, dVar, dC, dCall, dCallK, dAK, dCons, dNil, dTup, dLst, dBi, dIf, rdAll, keepAll, RV.pin, RV.rd, RV.keep, rdD, Ret.rv, gI, gIC, gIB, gLt, gLe, gGt, gGe, pick, Ret.lowC, List.lookup, sn0, sb0, sn1, sb1, sn2, sb2, sn3, sb3, gIsi, D.tag, D.ctag, ctags, okT, tyNs, subT, subB]
theorem is_list_tup (n : Nat) (xs : List D) (ce : List D) : e_is_list n [.tup xs] ce = some (.val (.bl true), ce) := by
  simp [e_is_list, d_is_list, runF, startD, fin, retOf, dRet, dRetN, dSeq, dIfS, dNever, dSkip, dSt, putR, DSt.putV, DSt.putO, DSt.putC, dAsg, dDrop, gNm, gTp, gCs, gNl, dTst, dTru, gTru, dNot, dAnd, dOr, dAndV, dOrV, dNotV, dSc, scalD, dBin, dUn, gNeg, dChain, dVar, dC, dCall, dCallK, dAK, dCons, dNil, dTup, dLst, dBi, dIf, rdAll, keepAll, RV.pin, RV.rd, RV.keep, rdD, Ret.rv, gI, gIC, gIB, gLt, gLe, gGt, gGe, pick, Ret.lowC, List.lookup, sn0, sb0, sn1, sb1, sn2, sb2, sn3, sb3, gIsi, D.tag, D.ctag, ctags, okT, tyNs, subT, subB]
theorem is_list_cell (n k : Nat) (xs : List D) (ce : List D) (h : ce[k]? = some (.lst xs)) : e_is_list n [.cell k] ce = some (.val (.bl true), ce) := by
  simp [e_is_list, d_is_list, runF, startD, fin, retOf, dRet, dRetN, dSeq, dIfS, dNever, dSkip, dSt, putR, DSt.putV, DSt.putO, DSt.putC, dAsg, dDrop, gNm, gTp, gCs, gNl, dTst, dTru, gTru, dNot, dAnd, dOr, dAndV, dOrV, dNotV, dSc, scalD, dBin, dUn, gNeg, dChain, dVar, dC, dCall, dCallK, dAK, dCons, dNil, dTup, dLst, dBi, dIf, rdAll, keepAll, RV.pin, RV.rd, RV.keep, rdD, Ret.rv, gI, gIC, gIB, gLt, gLe, gGt, gGe, pick, Ret.lowC, List.lookup, sn0, sb0, sn1, sb1, sn2, sb2, sn3, sb3, gIsi, D.tag, D.ctag, ctags, okT, tyNs, subT, subB, h]
theorem is_deed_ok (n : Nat) (P : Int) (x : Dd) (ok : okD P x) (ce : List D) : e_is_deed n [x.d, .int P] ce = some (.val (.bl true), ce) := by
  obtain ⟨p, c, g, w⟩ := x
  obtain ⟨h1, h2, h3, h4, h5⟩ := ok
  simp only at h1 h2 h3 h4 h5
  have c1 : -1 ≤ c := by omega
  have c2 : c ≤ 1 := by omega
  have ne : (Str.ofString "empty" = Str.ofString "any") = False := eq_false (by decide)
  rcases h5 with ⟨rfl, _, _⟩ | ⟨rfl, h6, _⟩
  · simp [e_is_deed, d_is_deed, runF, startD, fin, retOf, dRet, dRetN, dSeq, dIfS, dNever, dSkip, dSt, putR, DSt.putV, DSt.putO, DSt.putC, dAsg, dDrop, gNm, gTp, gCs, gNl, dTst, dTru, gTru, dNot, dAnd, dOr, dAndV, dOrV, dNotV, dSc, scalD, dBin, dUn, gNeg, dChain, dVar, dC, dCall, dCallK, dAK, dCons, dNil, dTup, dLst, dBi, dIf, rdAll, keepAll, RV.pin, RV.rd, RV.keep, rdD, Ret.rv, gI, gIC, gIB, gLt, gLe, gGt, gGe, pick, Ret.lowC, List.lookup, sn0, sb0, sn1, sb1, sn2, sb2, sn3, sb3, Dd.d, gIsi, D.tag, D.ctag, okT, tyNs, subT, subB, gLen, is_place_int, is_integer_int, h1, h2, h3, h4, c1, c2, gEq_str, gNe_int, eqD, D.pur, D.toP, PyData.depth, PyData.eqv]
  · simp [e_is_deed, d_is_deed, runF, startD, fin, retOf, dRet, dRetN, dSeq, dIfS, dNever, dSkip, dSt, putR, DSt.putV, DSt.putO, DSt.putC, dAsg, dDrop, gNm, gTp, gCs, gNl, dTst, dTru, gTru, dNot, dAnd, dOr, dAndV, dOrV, dNotV, dSc, scalD, dBin, dUn, gNeg, dChain, dVar, dC, dCall, dCallK, dAK, dCons, dNil, dTup, dLst, dBi, dIf, rdAll, keepAll, RV.pin, RV.rd, RV.keep, rdD, Ret.rv, gI, gIC, gIB, gLt, gLe, gGt, gGe, pick, Ret.lowC, List.lookup, sn0, sb0, sn1, sb1, sn2, sb2, sn3, sb3, Dd.d, gIsi, D.tag, D.ctag, okT, tyNs, subT, subB, gLen, is_place_int, is_integer_int, h1, h2, h3, h4, c1, c2, gEq_str, gNe_int, h6, ne, eqD, D.pur, D.toP, PyData.depth, PyData.eqv]
theorem want_few_ok (n : Nat) (w : Str) (m k : Int) (h : k ≤ m) (ce : List D) : e_want_few n [.str w, .int m, .int k] ce = some (.val .non, ce) := by
  have h' : ¬ m < k := by omega
  simp [e_want_few, d_want_few, runF, startD, fin, retOf, dRet, dRetN, dSeq, dIfS, dNever, dSkip, dSt, putR, DSt.putV, DSt.putO, DSt.putC, dAsg, dDrop, gNm, gTp, gCs, gNl, dTst, dTru, gTru, dNot, dAnd, dOr, dAndV, dOrV, dNotV, dSc, scalD, dBin, dUn, gNeg, dChain, dVar, dC, dCall, dCallK, dAK, dCons, dNil, dTup, dLst, dBi, dIf, rdAll, keepAll, RV.pin, RV.rd, RV.keep, rdD, Ret.rv, gI, gIC, gIB, gLt, gLe, gGt, gGe, pick, Ret.lowC, List.lookup, sn0, sb0, sn1, sb1, sn2, sb2, sn3, sb3, h']
/-! ### want_deeds -/
def seenL (pre : List Dd) : List Dd → Prop
  | [] => True
  | x :: xs => x ∉ pre ∧ seenL (pre ++ [x]) xs
theorem seen_nodup : ∀ (xs pre : List Dd), (pre ++ xs).Nodup → seenL pre xs
  | [], _, _ => trivial
  | x :: xs, pre, h => by
    refine ⟨fun hm => ?_, seen_nodup xs (pre ++ [x]) (by simpa using h)⟩
    rw [List.nodup_append] at h
    exact h.2.2 x hm x (by simp) rfl
/-- the loop of want_deeds, its body -/
def wdB (n : Nat) : DS := dSeq (dIfS (dOr (dNot (dTru (dCall 2 (fun ds => e_is_deed n (ds ++ [])) (dCons (dVar 4) (dCons (dVar 1) dNil))))) (dTst (dBin (gIn false) (dVar 4) (dVar 2)))) dNever dSkip) (dDrop (dMut true uAppend 2 (dCons (dVar 4) dNil)))
def wdG : DG := gTp 2 (gCs (gNm 3) (gCs (gNm 4) gNl))
theorem wd_turn (n : Nat) (P : Int) (v a b : Option SD) (pre : List Dd) (i : Nat) (x : Dd) (ok : okD P x) (hx : x ∉ pre) (hl : pre.length < 16777216) (ce : List D) :
    (wdG (.tup [.int i, x.d]) ⟨[v, some (.val (.int P)), some (.own (.lst (ds pre))), a, b], ce⟩).bind (wdB n) = some (.nx, ⟨[v, some (.val (.int P)), some (.own (.lst (ds (pre ++ [x])))), some (.val (.int i)), some (.val x.d)], ce⟩) := by
  have e : ds (pre ++ [x]) = ds pre ++ [x.d] := by simp [ds]
  have hd : ∃ xs, x.d = .tup xs := ⟨_, rfl⟩
  obtain ⟨xs, hxs⟩ := hd
  have q1 := is_deed_ok n P x ok ce
  have q2 := gIn_deeds false pre x
  have hl' : (ds pre).length < 16777216 := by rw [ds_len]; exact hl
  rw [hxs] at q1 q2 ⊢
  simp [wdG, wdB, runF, startD, fin, retOf, dRet, dRetN, dSeq, dIfS, dNever, dSkip, dSt, putR, DSt.putV, DSt.putO, DSt.putC, dAsg, dDrop, gNm, gTp, gCs, gNl, dTst, dTru, gTru, dNot, dAnd, dOr, dAndV, dOrV, dNotV, dSc, scalD, dBin, dUn, gNeg, dChain, dVar, dC, dCall, dCallK, dAK, dCons, dNil, dTup, dLst, dBi, dIf, rdAll, keepAll, RV.pin, RV.rd, RV.keep, rdD, Ret.rv, gI, gIC, gIB, gLt, gLe, gGt, gGe, pick, Ret.lowC, List.lookup, sn0, sb0, sn1, sb1, sn2, sb2, sn3, sb3, q1, q2, hx, dMut, lstAt, argsOf, uAppend, hl', EV.putAt, e, hxs]
theorem wd_loop (n : Nat) (P : Int) (v : Option SD) (ce : List D) : ∀ (xs pre : List Dd) (i : Nat) (a b : Option SD), (∀ x ∈ xs, okD P x) → seenL pre xs → pre.length + xs.length ≤ 60 →
    ∃ δ, forL wdG (wdB n) (enumD i (ds xs)) ⟨[v, some (.val (.int P)), some (.own (.lst (ds pre))), a, b], ce⟩ = some (.nx, δ) ∧ δ.ce = ce
  | [], pre, i, a, b, _, _, _ => ⟨⟨_, ce⟩, rfl, rfl⟩
  | x :: xs, pre, i, a, b, ok, sn, hl => by
    have hl : pre.length + (xs.length + 1) ≤ 60 := by simpa using hl
    obtain ⟨δ, h1, h2⟩ := wd_loop n P v ce xs (pre ++ [x]) (i + 1) (some (.val (.int i))) (some (.val x.d)) (fun y hy => ok y (by simp [hy])) sn.2 (by simp; omega)
    refine ⟨δ, ?_, h2⟩
    have t := wd_turn n P v a b pre i x (ok x (by simp)) sn.1 (by omega) ce
    have e : enumD i (ds (x :: xs)) = .tup [.int i, x.d] :: enumD (i + 1) (ds xs) := rfl
    rw [e]
    unfold forL
    obtain ⟨δ1, e1, e2⟩ := bnd t
    rw [e1, Option.bind_some, e2]
    exact h1
theorem wd_loopC (n : Nat) (P : Int) (k : Nat) (v : Option SD) (ce : List D) (all : List Dd) (hk : ce[k]? = some (.lst (ds all))) : ∀ (xs pre : List Dd) (a b : Option SD) (m : Nat), all = pre ++ xs → (∀ x ∈ xs, okD P x) → seenL pre xs → pre.length + xs.length ≤ 60 → xs.length < m →
    ∃ δ, forC k mkE wdG (wdB n) m pre.length ⟨[v, some (.val (.int P)), some (.own (.lst (ds pre))), a, b], ce⟩ = some (.nx, δ) ∧ δ.ce = ce
  | [], pre, a, b, m, ha, _, _, _, hm => by
    cases m with
    | zero => omega
    | succ m =>
      have hn : (ds all)[pre.length]? = none := by rw [List.getElem?_eq_none_iff, ds_len, ha]; simp
      refine ⟨⟨[v, some (SD.val (D.int P)), some (SD.own (D.lst (ds pre))), a, b], ce⟩, ?_, rfl⟩
      unfold forC
      simp only [cellL, hk, Option.bind_some, hn]
  | x :: xs, pre, a, b, m, ha, ok, sn, hl, hm => by
    cases m with
    | zero => omega
    | succ m =>
      have hl : pre.length + (xs.length + 1) ≤ 60 := by simpa using hl
      have hm : xs.length + 1 < m + 1 := by simpa using hm
      obtain ⟨δ, h1, h2⟩ := wd_loopC n P k v ce all hk xs (pre ++ [x]) (some (.val (.int pre.length))) (some (.val x.d)) m (by simp [ha]) (fun y hy => ok y (by simp [hy])) sn.2 (by simp; omega) (by omega)
      refine ⟨δ, ?_, h2⟩
      have hx : (ds all)[pre.length]? = some x.d := by rw [ha]; simp [ds]
      have t := wd_turn n P v a b pre pre.length x (ok x (by simp)) sn.1 (by omega) ce
      unfold forC
      simp only [cellL, hk, Option.bind_some, hx, mkE]
      obtain ⟨δ1, e1, e2⟩ := bnd t
      rw [e1, Option.bind_some, e2]
      rw [List.length_append, List.length_singleton] at h1
      exact h1
theorem wd_eq (n : Nat) : lp_want_deeds_0 n = orS (dFor (iEn (dCons (dVar 0) dNil)) wdG (wdB n)) (dForC mkE (cOf (dVar 0)) wdG (wdB n) n) := rfl
theorem want_deeds_lst (n : Nat) (P : Int) (xs : List Dd) (g : good P xs) (ce : List D) : e_want_deeds n [.lst (ds xs), .int P] ce = some (.val .non, ce) := by
  obtain ⟨δ, h1, h2⟩ := wd_loop n P (some (.val (.lst (ds xs)))) ce xs [] 0 none none g.ok (seen_nodup xs [] (by simpa using g.nd)) (by simpa using g.len)
  have h1 : forL wdG (wdB n) (enumD 0 (ds xs)) ⟨[some (.val (.lst (ds xs))), some (.val (.int P)), some (.own (.lst [])), none, none], ce⟩ = some (.nx, δ) := h1
  simp [e_want_deeds, d_want_deeds, wd_eq, runF, startD, fin, retOf, dRet, dRetN, dSeq, dIfS, dNever, dSkip, dSt, putR, DSt.putV, DSt.putO, DSt.putC, dAsg, dDrop, gNm, gTp, gCs, gNl, dTst, dTru, gTru, dNot, dAnd, dOr, dAndV, dOrV, dNotV, dSc, scalD, dBin, dUn, gNeg, dChain, dVar, dC, dCall, dCallK, dAK, dCons, dNil, dTup, dLst, dBi, dIf, rdAll, keepAll, RV.pin, RV.rd, RV.keep, rdD, Ret.rv, gI, gIC, gIB, gLt, gLe, gGt, gGe, pick, Ret.lowC, List.lookup, sn0, sb0, sn1, sb1, sn2, sb2, sn3, sb3, is_list_lst, orS, dFor, iEn, h1, h2]
theorem want_deeds_tup (n : Nat) (P : Int) (xs : List Dd) (g : good P xs) (ce : List D) : e_want_deeds n [.tup (ds xs), .int P] ce = some (.val .non, ce) := by
  obtain ⟨δ, h1, h2⟩ := wd_loop n P (some (.val (.tup (ds xs)))) ce xs [] 0 none none g.ok (seen_nodup xs [] (by simpa using g.nd)) (by simpa using g.len)
  have h1 : forL wdG (wdB n) (enumD 0 (ds xs)) ⟨[some (.val (.tup (ds xs))), some (.val (.int P)), some (.own (.lst [])), none, none], ce⟩ = some (.nx, δ) := h1
  simp [e_want_deeds, d_want_deeds, wd_eq, runF, startD, fin, retOf, dRet, dRetN, dSeq, dIfS, dNever, dSkip, dSt, putR, DSt.putV, DSt.putO, DSt.putC, dAsg, dDrop, gNm, gTp, gCs, gNl, dTst, dTru, gTru, dNot, dAnd, dOr, dAndV, dOrV, dNotV, dSc, scalD, dBin, dUn, gNeg, dChain, dVar, dC, dCall, dCallK, dAK, dCons, dNil, dTup, dLst, dBi, dIf, rdAll, keepAll, RV.pin, RV.rd, RV.keep, rdD, Ret.rv, gI, gIC, gIB, gLt, gLe, gGt, gGe, pick, Ret.lowC, List.lookup, sn0, sb0, sn1, sb1, sn2, sb2, sn3, sb3, is_list_tup, orS, dFor, iEn, h1, h2]
theorem want_deeds_cell (n : Nat) (hn : 60 < n) (P : Int) (k : Nat) (xs : List Dd) (g : good P xs) (ce : List D) (hk : ce[k]? = some (.lst (ds xs))) : e_want_deeds n [.cell k, .int P] ce = some (.val .non, ce) := by
  obtain ⟨δ, h1, h2⟩ := wd_loopC n P k (some (.val (.cell k))) ce xs hk xs [] none none n rfl g.ok (seen_nodup xs [] (by simpa using g.nd)) (by simpa using g.len) (by have := g.len; omega)
  have h1 : forC k mkE wdG (wdB n) n 0 ⟨[some (.val (.cell k)), some (.val (.int P)), some (.own (.lst [])), none, none], ce⟩ = some (.nx, δ) := h1
  simp [e_want_deeds, d_want_deeds, wd_eq, runF, startD, fin, retOf, dRet, dRetN, dSeq, dIfS, dNever, dSkip, dSt, putR, DSt.putV, DSt.putO, DSt.putC, dAsg, dDrop, gNm, gTp, gCs, gNl, dTst, dTru, gTru, dNot, dAnd, dOr, dAndV, dOrV, dNotV, dSc, scalD, dBin, dUn, gNeg, dChain, dVar, dC, dCall, dCallK, dAK, dCons, dNil, dTup, dLst, dBi, dIf, rdAll, keepAll, RV.pin, RV.rd, RV.keep, rdD, Ret.rv, gI, gIC, gIB, gLt, gLe, gGt, gGe, pick, Ret.lowC, List.lookup, sn0, sb0, sn1, sb1, sn2, sb2, sn3, sb3, is_list_cell n k _ _ hk, orS, dFor, iEn, dForC, cOf, cellL, hk, h1, h2]
end L
set_option Elab.async false
set_option linter.all false
set_option maxRecDepth 100000
set_option maxHeartbeats 4000000
namespace L
open PySem L2 EV

/-! ### House -/
theorem House_init_ok (n : Nat) (hn : 60 < n) (P : Int) (xs : List Dd) (g : good P xs) (k : Nat) (a : D) (ce : List D) (hk : ce[k]? = some (.ins "House" [] [])) (ha : a = .lst (ds xs) ∨ a = .tup (ds xs) ∨ ∃ j, j ≠ k ∧ a = .cell j ∧ ce[j]? = some (.lst (ds xs))) :
    e_House_init n [.cell k, .int P, a] ce = some (.val .non, ce.set k (hs P xs)) := by
  have h0 : 1 ≤ P := g.P0
  have h1 : P ≤ 16 := g.P1
  have h2 : ((ds xs).length : Int) ≤ 60 := by rw [ds_len]; have := g.len; omega
  obtain ⟨kl, hk2⟩ := List.getElem?_eq_some_iff.mp hk
  have w2 := want_few_ok n "deeds" 60 ((ds xs).length : Int) h2
  have sz : (ce.set k (hs P xs)).length = ce.length := List.length_set ..
  rcases ha with rfl | rfl | ⟨j, hj, rfl, hc⟩
  · simp [e_House_init, d_House_init, runF, startD, fin, retOf, dRet, dRetN, dSeq, dIfS, dNever, dSkip, dSt, putR, DSt.putV, DSt.putO, DSt.putC, dAsg, dDrop, gNm, gTp, gCs, gNl, dTst, dTru, gTru, dNot, dAnd, dOr, dAndV, dOrV, dNotV, dSc, scalD, dBin, dUn, gNeg, dChain, dVar, dC, dCall, dCallK, dAK, dCons, dNil, dTup, dLst, dBi, dIf, rdAll, keepAll, RV.pin, RV.rd, RV.keep, rdD, Ret.rv, gI, gIC, gIB, gLt, gLe, gGt, gGe, pick, Ret.lowC, List.lookup, sn0, sb0, sn1, sb1, sn2, sb2, sn3, sb3, is_integer_int, h0, h1, want_deeds_lst n P xs g, gLen, w2, dSetF, hk, hk2, putN, kl, gList, hs]
  · simp [e_House_init, d_House_init, runF, startD, fin, retOf, dRet, dRetN, dSeq, dIfS, dNever, dSkip, dSt, putR, DSt.putV, DSt.putO, DSt.putC, dAsg, dDrop, gNm, gTp, gCs, gNl, dTst, dTru, gTru, dNot, dAnd, dOr, dAndV, dOrV, dNotV, dSc, scalD, dBin, dUn, gNeg, dChain, dVar, dC, dCall, dCallK, dAK, dCons, dNil, dTup, dLst, dBi, dIf, rdAll, keepAll, RV.pin, RV.rd, RV.keep, rdD, Ret.rv, gI, gIC, gIB, gLt, gLe, gGt, gGe, pick, Ret.lowC, List.lookup, sn0, sb0, sn1, sb1, sn2, sb2, sn3, sb3, is_integer_int, h0, h1, want_deeds_tup n P xs g, gLen, w2, dSetF, hk, hk2, putN, kl, gList, hs]
  · have q : (ce.set k (.ins "House" ["own_places"] [.int P]))[j]? = some (.lst (ds xs)) := by rw [List.getElem?_set_ne hj.symm]; exact hc
    simp [e_House_init, d_House_init, runF, startD, fin, retOf, dRet, dRetN, dSeq, dIfS, dNever, dSkip, dSt, putR, DSt.putV, DSt.putO, DSt.putC, dAsg, dDrop, gNm, gTp, gCs, gNl, dTst, dTru, gTru, dNot, dAnd, dOr, dAndV, dOrV, dNotV, dSc, scalD, dBin, dUn, gNeg, dChain, dVar, dC, dCall, dCallK, dAK, dCons, dNil, dTup, dLst, dBi, dIf, rdAll, keepAll, RV.pin, RV.rd, RV.keep, rdD, Ret.rv, gI, gIC, gIB, gLt, gLe, gGt, gGe, pick, Ret.lowC, List.lookup, sn0, sb0, sn1, sb1, sn2, sb2, sn3, sb3, is_integer_int, h0, h1, want_deeds_cell n hn P j xs g _ hc, gLen, hc, w2, dSetF, hk, hk2, putN, kl, gList, hs, q]
theorem places_ok (n : Nat) (P : Int) (xs : List Dd) (ce : List D) : e_House_places n [hs P xs] ce = some (.val (.int P), ce) := by
  simp [e_House_places, d_House_places, runF, startD, fin, retOf, dRet, dRetN, dSeq, dIfS, dNever, dSkip, dSt, putR, DSt.putV, DSt.putO, DSt.putC, dAsg, dDrop, gNm, gTp, gCs, gNl, dTst, dTru, gTru, dNot, dAnd, dOr, dAndV, dOrV, dNotV, dSc, scalD, dBin, dUn, gNeg, dChain, dVar, dC, dCall, dCallK, dAK, dCons, dNil, dTup, dLst, dBi, dIf, rdAll, keepAll, RV.pin, RV.rd, RV.keep, rdD, Ret.rv, gI, gIC, gIB, gLt, gLe, gGt, gGe, pick, Ret.lowC, List.lookup, sn0, sb0, sn1, sb1, sn2, sb2, sn3, sb3, hs, dFld]
theorem deeds_ok (n : Nat) (P : Int) (xs : List Dd) (ce : List D) : e_House_deeds n [hs P xs] ce = some (.fresh (.lst (ds xs)), ce) := by
  simp [e_House_deeds, d_House_deeds, runF, startD, fin, retOf, dRet, dRetN, dSeq, dIfS, dNever, dSkip, dSt, putR, DSt.putV, DSt.putO, DSt.putC, dAsg, dDrop, gNm, gTp, gCs, gNl, dTst, dTru, gTru, dNot, dAnd, dOr, dAndV, dOrV, dNotV, dSc, scalD, dBin, dUn, gNeg, dChain, dVar, dC, dCall, dCallK, dAK, dCons, dNil, dTup, dLst, dBi, dIf, rdAll, keepAll, RV.pin, RV.rd, RV.keep, rdD, Ret.rv, gI, gIC, gIB, gLt, gLe, gGt, gGe, pick, Ret.lowC, List.lookup, sn0, sb0, sn1, sb1, sn2, sb2, sn3, sb3, hs, dFld, gList]
theorem len_ok (n : Nat) (P : Int) (xs : List Dd) (ce : List D) : e_House_len n [hs P xs] ce = some (.val (.int xs.length), ce) := by
  simp [e_House_len, d_House_len, runF, startD, fin, retOf, dRet, dRetN, dSeq, dIfS, dNever, dSkip, dSt, putR, DSt.putV, DSt.putO, DSt.putC, dAsg, dDrop, gNm, gTp, gCs, gNl, dTst, dTru, gTru, dNot, dAnd, dOr, dAndV, dOrV, dNotV, dSc, scalD, dBin, dUn, gNeg, dChain, dVar, dC, dCall, dCallK, dAK, dCons, dNil, dTup, dLst, dBi, dIf, rdAll, keepAll, RV.pin, RV.rd, RV.keep, rdD, Ret.rv, gI, gIC, gIB, gLt, gLe, gGt, gGe, pick, Ret.lowC, List.lookup, sn0, sb0, sn1, sb1, sn2, sb2, sn3, sb3, hs, dFld, gLen, ds_len]
theorem eq_ok (n : Nat) (P Q : Int) (xs ys : List Dd) (ce : List D) : e_House_eq n [hs P xs, hs Q ys] ce = some (.val (.bl (decide (P = Q ∧ xs = ys))), ce) := by
  have t : (hs Q ys).tag = some (.own "House") := rfl
  by_cases h : P = Q <;> simp [e_House_eq, d_House_eq, runF, startD, fin, retOf, dRet, dRetN, dSeq, dIfS, dNever, dSkip, dSt, putR, DSt.putV, DSt.putO, DSt.putC, dAsg, dDrop, gNm, gTp, gCs, gNl, dTst, dTru, gTru, dNot, dAnd, dOr, dAndV, dOrV, dNotV, dSc, scalD, dBin, dUn, gNeg, dChain, dVar, dC, dCall, dCallK, dAK, dCons, dNil, dTup, dLst, dBi, dIf, rdAll, keepAll, RV.pin, RV.rd, RV.keep, rdD, Ret.rv, gI, gIC, gIB, gLt, gLe, gGt, gGe, pick, Ret.lowC, List.lookup, sn0, sb0, sn1, sb1, sn2, sb2, sn3, sb3, hs, dFld, gIsi, D.tag, D.ctag, okT, csL, subT, gEq_int, gEq_deeds, h]
/-- any value that is no instance is unequal -/
theorem eq_other (n : Nat) (P : Int) (xs : List Dd) (d : D) (ht : d = .non ∨ (∃ i, d = .int i) ∨ (∃ l, d = .lst l) ∨ (∃ l, d = .tup l) ∨ (∃ l, d = .str l) ∨ ∃ k l, d = .dic k l) (ce : List D) : e_House_eq n [hs P xs, d] ce = some (.val (.bl false), ce) := by
  rcases ht with rfl | ⟨i, rfl⟩ | ⟨l, rfl⟩ | ⟨l, rfl⟩ | ⟨l, rfl⟩ | ⟨k, l, rfl⟩ <;> simp [e_House_eq, d_House_eq, runF, startD, fin, retOf, dRet, dRetN, dSeq, dIfS, dNever, dSkip, dSt, putR, DSt.putV, DSt.putO, DSt.putC, dAsg, dDrop, gNm, gTp, gCs, gNl, dTst, dTru, gTru, dNot, dAnd, dOr, dAndV, dOrV, dNotV, dSc, scalD, dBin, dUn, gNeg, dChain, dVar, dC, dCall, dCallK, dAK, dCons, dNil, dTup, dLst, dBi, dIf, rdAll, keepAll, RV.pin, RV.rd, RV.keep, rdD, Ret.rv, gI, gIC, gIB, gLt, gLe, gGt, gGe, pick, Ret.lowC, List.lookup, sn0, sb0, sn1, sb1, sn2, sb2, sn3, sb3, hs, gIsi, D.tag, D.ctag, okT, csL, subT, tyNs]
theorem is_plain_ok (n : Nat) (P : Int) (xs : List Dd) (hl : xs.length ≤ 60) (ce : List D) : e_House_is_plain n [hs P xs] ce = some (.val (.bl (xs.all fun x => decide (x.w = ("any" : Str)))), ce) := by
  have q : lc_House_is_plain_0 n ⟨[some (.val (hs P xs)), none], ce⟩ = some (.fresh (.lst ((xs.filter fun _ => true).map fun x => .bl (decide (x.w = ("any" : Str))))), ⟨[some (.val (hs P xs)), none], ce⟩) := by
    refine dLc_typed Dd.d (fun _ => true) (fun x => .bl (decide (x.w = ("any" : Str)))) xs ?_ (fun x hx => ?_) (by omega)
    · simp [orI, iSeq, iTp, dFld, runF, startD, fin, retOf, dRet, dRetN, dSeq, dIfS, dNever, dSkip, dSt, putR, DSt.putV, DSt.putO, DSt.putC, dAsg, dDrop, gNm, gTp, gCs, gNl, dTst, dTru, gTru, dNot, dAnd, dOr, dAndV, dOrV, dNotV, dSc, scalD, dBin, dUn, gNeg, dChain, dVar, dC, dCall, dCallK, dAK, dCons, dNil, dTup, dLst, dBi, dIf, rdAll, keepAll, RV.pin, RV.rd, RV.keep, rdD, Ret.rv, gI, gIC, gIB, gLt, gLe, gGt, gGe, pick, Ret.lowC, List.lookup, sn0, sb0, sn1, sb1, sn2, sb2, sn3, sb3, hs, ds]
    · refine turn_yes (r := .val (.bl (decide (x.w = ("any" : Str))))) rfl ?_ rfl rfl
      simp [runF, startD, fin, retOf, dRet, dRetN, dSeq, dIfS, dNever, dSkip, dSt, putR, DSt.putV, DSt.putO, DSt.putC, dAsg, dDrop, gNm, gTp, gCs, gNl, dTst, dTru, gTru, dNot, dAnd, dOr, dAndV, dOrV, dNotV, dSc, scalD, dBin, dUn, gNeg, dChain, dVar, dC, dCall, dCallK, dAK, dCons, dNil, dTup, dLst, dBi, dIf, rdAll, keepAll, RV.pin, RV.rd, RV.keep, rdD, Ret.rv, gI, gIC, gIB, gLt, gLe, gGt, gGe, pick, Ret.lowC, List.lookup, sn0, sb0, sn1, sb1, sn2, sb2, sn3, sb3, wipeD, hideO, Dd.d, gIx, atI, ixN, gEq_str]
  have bl : ∀ ys : List Dd, blsOf (ys.map fun x => D.bl (decide (x.w = ("any" : Str)))) = some (ys.map fun x => decide (x.w = ("any" : Str))) := by
    intro ys
    induction ys with
    | nil => rfl
    | cons y ys ih => simp [blsOf, ih]
  rw [filter_yes] at q
  simp [e_House_is_plain, d_House_is_plain, runF, startD, fin, retOf, dRet, dRetN, dSeq, dIfS, dNever, dSkip, dSt, putR, DSt.putV, DSt.putO, DSt.putC, dAsg, dDrop, gNm, gTp, gCs, gNl, dTst, dTru, gTru, dNot, dAnd, dOr, dAndV, dOrV, dNotV, dSc, scalD, dBin, dUn, gNeg, dChain, dVar, dC, dCall, dCallK, dAK, dCons, dNil, dTup, dLst, dBi, dIf, rdAll, keepAll, RV.pin, RV.rd, RV.keep, rdD, Ret.rv, gI, gIC, gIB, gLt, gLe, gGt, gGe, pick, Ret.lowC, List.lookup, sn0, sb0, sn1, sb1, sn2, sb2, sn3, sb3, q, gAll, bl]
/-! ### a house made by a call -/
theorem lowCs_ds (m : Nat) (xs : List Dd) : D.lowCs m (ds xs) = true := by
  induction xs with
  | nil => rfl
  | cons x xs ih => simp [ds, D.lowCs, Dd.d, D.lowC] at ih ⊢; exact ih
theorem lowC_hs (m : Nat) (P : Int) (xs : List Dd) : (hs P xs).lowC m = true := by
  simp [hs, D.lowC, D.lowCs, lowCs_ds]
theorem lowCs_app (m : Nat) (xs ys : List D) : D.lowCs m (xs ++ ys) = (D.lowCs m xs && D.lowCs m ys) := by
  induction xs with
  | nil => simp [D.lowCs]
  | cons x xs ih => simp [D.lowCs, ih, Bool.and_assoc]
/-- a value that tells deeds -/
def Tells (ce : List D) (a : D) (xs : List Dd) : Prop := a = .lst (ds xs) ∨ a = .tup (ds xs) ∨ ∃ j, a = .cell j ∧ ce[j]? = some (.lst (ds xs))
theorem House_new (n : Nat) (hn : 60 < n) (P : Int) (xs : List Dd) (g : good P xs) (a : D) (ce : List D) (ha : Tells ce a xs) :
    e_House_init n [.cell ce.length, .int P, a] (ce ++ [.ins "House" [] []]) = some (.val .non, ce ++ [hs P xs]) := by
  have h := House_init_ok n hn P xs g ce.length a (ce ++ [.ins "House" [] []]) (by simp) (by
    rcases ha with h | h | ⟨j, h1, h2⟩
    · exact .inl h
    · exact .inr (.inl h)
    · have hj := (List.getElem?_eq_some_iff.mp h2).1
      exact .inr (.inr ⟨j, by omega, h1, by rw [List.getElem?_append_left hj]; exact h2⟩))
  rw [h]
  simp
/-- House(p, d) -/
theorem make_ok (n : Nat) (hn : 60 < n) {P : Int} {xs : List Dd} (g : good P xs) {a : D} {fas : DA} {δ δ1 : DSt} {r1 r2 : RV} (h1 : fas δ = some ([r1, r2], δ1)) (h2 : r1.pin.keep δ1 = some (.int P)) (h3 : r2.pin.keep δ1 = some a) (ha : Tells δ1.ce a xs) (low : D.lowCs δ1.ce.length δ1.ce = true) :
    dMake "House" 2 0 [0, 1, 2] [] (e_House_init n) fas dNil δ = some (.fresh (hs P xs), δ1) := by
  have q := House_new n hn P xs g a δ1.ce ha
  have low2 : D.lowCs δ1.ce.length (δ1.ce ++ [hs P xs]) = true := by simp [lowCs_app, low, D.lowCs, lowC_hs]
  simp [dMake, dAK, h1, dNil, keepAll, h2, h3, pick, q, low2]
theorem makeK_ok (n : Nat) (hn : 60 < n) {P : Int} {xs : List Dd} (g : good P xs) {a : D} {fks : DA} {δ δ1 : DSt} {r1 r2 : RV} (h1 : fks δ = some ([r1, r2], δ1)) (h2 : r1.pin.keep δ1 = some (.int P)) (h3 : r2.pin.keep δ1 = some a) (ha : Tells δ1.ce a xs) (low : D.lowCs δ1.ce.length δ1.ce = true) :
    dMake "House" 0 2 [0, 1, 2] [] (e_House_init n) dNil fks δ = some (.fresh (hs P xs), δ1) := by
  have q := House_new n hn P xs g a δ1.ce ha
  have low2 : D.lowCs δ1.ce.length (δ1.ce ++ [hs P xs]) = true := by simp [lowCs_app, low, D.lowCs, lowC_hs]
  simp [dMake, dAK, h1, dNil, keepAll, h2, h3, pick, q, low2]
end L
set_option Elab.async false
set_option linter.all false
set_option maxRecDepth 100000
set_option maxHeartbeats 4000000
namespace L
open PySem L2 EV

/-! ### how long the texts are -/
theorem textFrom_le (m : Nat) : ∀ (ts : List Str) (k : Nat) (acc : Str), (∀ t ∈ ts, t.length ≤ m) → (textFrom k acc ts).length ≤ acc.length + ts.length * (m + 2)
  | [], k, acc, _ => by simp [textFrom]
  | t :: r, k, acc, h => by
    have h1 := h t (by simp)
    have ih := textFrom_le m r (k + 1) (acc ++ (if k > 0 then ", " else "" : String) ++ t) (fun y hy => h y (by simp [hy]))
    have e : (acc ++ (if k > 0 then ", " else "" : String) ++ t).length ≤ acc.length + 2 + t.length := by
      rw [strLen_append, strLen_append]
      split
      · have : ((", " : String) : Str).length = 2 := rfl
        omega
      · have : (("" : String) : Str).length = 0 := rfl
        omega
    show (textFrom (k + 1) (acc ++ (if k > 0 then ", " else "" : String) ++ t) r).length ≤ _
    rw [List.length_cons, Nat.add_mul]
    omega
theorem small_int (i : Int) (h0 : -1 ≤ i) (h1 : i ≤ 60) : ((toString i : String) : Str).length ≤ 2 ∧ i.natAbs.log2 < 1920 := by
  have all : ∀ j : Fin 62, ((toString ((j.val : Int) - 1) : String) : Str).length ≤ 2 ∧ ((j.val : Int) - 1).natAbs.log2 < 1920 := by decide +kernel
  have := all ⟨(i + 1).toNat, by omega⟩
  have e : (((i + 1).toNat : Nat) : Int) - 1 = i := by omega
  simp only [e] at this
  exact this
theorem listText_le (m : Nat) (ts : List Str) (h : ∀ t ∈ ts, t.length ≤ m) : (listText ts).length ≤ ts.length * (m + 2) + 2 := by
  unfold listText
  rw [strLen_append]
  have := textFrom_le m ts 0 "[" h
  have e1 : (("[" : String) : Str).length = 1 := rfl
  have e2 : (("]" : String) : Str).length = 1 := rfl
  omega
theorem tuple4_le (m : Nat) (a b c d : Str) (ha : a.length ≤ m) (hb : b.length ≤ m) (hc : c.length ≤ m) (hd : d.length ≤ m) : (tupleText [a, b, c, d]).length ≤ 4 * m + 20 := by
  unfold tupleText
  have h := join_length_add [a, b, c, d] (by simp)
  simp only [piled, List.map_cons, List.map_nil, List.sum_cons, List.sum_nil] at h
  rw [strLen_append, strLen_append]
  have e1 : (("(" : String) : Str).length = 1 := rfl
  have e2 : ((if ([a, b, c, d] : List Str).length == 1 then ",)" else ")" : String) : Str).length ≤ 2 := by
    split <;> decide
  omega
theorem shown_deed {P : Int} (hP : P ≤ 16) (x : Dd) (ok : okD P x) : x.d.toP.shown.length ≤ 60 ∧ x.d.toP.showable = true := by
  obtain ⟨p, c, g, w⟩ := x
  obtain ⟨h1, h2, h3, h4, h5⟩ := ok
  simp only at h1 h2 h3 h4 h5
  have i1 := small_int p (by omega) (by omega)
  have i2 := small_int c (by omega) (by omega)
  have i3 := small_int g (by omega) (by omega)
  have hw : (reprText w).length ≤ 8 := by rcases h5 with ⟨rfl, _, _⟩ | ⟨rfl, _, _⟩ <;> decide +kernel
  refine ⟨?_, ?_⟩
  · have := tuple4_le 8 (toString p : String) (toString c : String) (toString g : String) (reprText w) (by omega) (by omega) (by omega) hw
    have t : (Dd.d ⟨p, c, g, w⟩).toP.shown.length ≤ 52 := by simpa [Dd.d, D.toP, D.toPs, PyData.shown, PyData.shownAll] using this
    exact Nat.le_trans t (by decide)
  · simp [Dd.d, D.toP, D.toPs, PyData.showable, PyData.showableAll, i1.2, i2.2, i3.2]
theorem shown_list {P : Int} {xs : List Dd} (g : good P xs) : (D.lst (ds xs)).toP.shown.length ≤ 4000 ∧ (D.lst (ds xs)).toP.showable = true := by
  have all : ∀ ys : List Dd, (∀ y ∈ ys, okD P y) → (∀ t ∈ PyData.shownAll (D.toPs (ds ys)), t.length ≤ 60) ∧ PyData.showableAll (D.toPs (ds ys)) = true ∧ (PyData.shownAll (D.toPs (ds ys))).length = ys.length := by
    intro ys
    induction ys with
    | nil => intro _; exact ⟨fun t ht => (by simp [ds, D.toPs, PyData.shownAll] at ht), by simp [ds, D.toPs, PyData.showableAll], by simp [ds, D.toPs, PyData.shownAll]⟩
    | cons y ys ih =>
      intro ok
      obtain ⟨a, b, c⟩ := ih fun z hz => ok z (by simp [hz])
      obtain ⟨d, e⟩ := shown_deed g.P1 y (ok y (by simp))
      have e0 : D.toPs (ds (y :: ys)) = y.d.toP :: D.toPs (ds ys) := by simp [ds, D.toPs]
      rw [e0]
      refine ⟨fun t ht => ?_, by simp [PyData.showableAll, e, b], by simp [PyData.shownAll, c]⟩
      simp only [PyData.shownAll, List.mem_cons] at ht
      rcases ht with rfl | ht
      · exact d
      · exact a t ht
  obtain ⟨h1, h2, h3⟩ := all xs g.ok
  refine ⟨?_, by simpa [D.toP, PyData.showable] using h2⟩
  have := listText_le 60 _ h1
  have hl := g.len
  simp only [D.toP, PyData.shown]
  rw [h3] at this
  have : xs.length * 62 ≤ 60 * 62 := Nat.mul_le_mul_right _ hl
  omega
theorem gRepr_deeds {P : Int} {xs : List Dd} (g : good P xs) : gRepr [.lst (ds xs)] = some (.val (.str (D.lst (ds xs)).toP.shown)) := by
  obtain ⟨h1, h2⟩ := shown_list g
  have h3 : (D.lst (ds xs)).toP.depth ≤ 64 := by simp only [D.toP, PyData.depth]; have := depths_ds xs; omega
  have h4 : (D.lst (ds xs)).pur = true := by simp only [D.pur]; exact purs_ds xs
  have h5 : (D.lst (ds xs)).toP.shown.length ≤ 16777216 := by omega
  simp only [gRepr, h2, h3, h4, h5, decide_true, Bool.and_self, if_true]
/-- what is told of a house, as one list -/
def tellL (P : Int) (xs : List Dd) (b : Bool) : List D := [.int P, .lst (ds xs), .int xs.length, .bl b]
theorem gRepr_tell {P : Int} {xs : List Dd} (g : good P xs) (b : Bool) : ∃ t, gRepr [.lst (tellL P xs b)] = some (.val (.str t)) := by
  obtain ⟨h1, h2⟩ := shown_list g
  have hP0 := g.P0
  have hP1 := g.P1
  have hL := g.len
  have i1 := small_int P (by omega) (by omega)
  have i2 := small_int xs.length (by omega) (by omega)
  have h3 : (D.lst (tellL P xs b)).toP.depth ≤ 64 := by
    have := depths_ds xs
    simp [tellL, D.toP, D.toPs, PyData.depth, PyData.depthAll]
    omega
  have h4 : (D.lst (tellL P xs b)).pur = true := by simp [tellL, D.pur, D.purs, purs_ds]
  have h5 : (D.lst (tellL P xs b)).toP.shown.length ≤ 16777216 := by
    have hb : ((if b = true then "True" else "False" : String) : Str).length ≤ 5 := by cases b <;> decide
    have := listText_le 4000 (PyData.shownAll (D.toPs (tellL P xs b))) (fun t ht => by
      simp only [tellL, D.toPs, D.toP, PyData.shownAll, PyData.shown, List.mem_cons, List.not_mem_nil, or_false] at ht
      rcases ht with rfl | rfl | rfl | rfl
      · omega
      · simpa [D.toP, PyData.shown] using h1
      · omega
      · cases b <;> decide)
    simp only [D.toP, PyData.shown]
    have e : (PyData.shownAll (D.toPs (tellL P xs b))).length = 4 := by simp [tellL, D.toPs, PyData.shownAll]
    rw [e] at this
    omega
  have h6 : (D.lst (tellL P xs b)).toP.showable = true := by
    have h2' : PyData.showableAll (D.toPs (ds xs)) = true := by simpa [D.toP, PyData.showable] using h2
    have i3 : xs.length.log2 < 1920 := by simpa using i2.2
    simp [tellL, D.toP, D.toPs, PyData.showable, PyData.showableAll, i1.2, i3, h2']
  exact ⟨(D.lst (tellL P xs b)).toP.shown, by simp only [gRepr, h6, h3, h4, h5, decide_true, Bool.and_self, if_true]⟩
/-- a house's own text -/
def rep (P : Int) (xs : List Dd) : Str := ("House(" : Str) ++ ((toString P : String) : Str) ++ (", " : Str) ++ (D.lst (ds xs)).toP.shown ++ (")" : Str)
theorem empty_app (a : Str) : Str.empty ++ a = a := by
  cases a with
  | mk c => show (⟨#[] ++ c⟩ : Str) = ⟨c⟩; simp
theorem repr_ok (n : Nat) {P : Int} {xs : List Dd} (g : good P xs) (ce : List D) : e_House_repr n [hs P xs] ce = some (.val (.str (rep P xs)), ce) := by
  obtain ⟨h1, h2⟩ := shown_list g
  have hP0 := g.P0
  have hP1 := g.P1
  have i1 := small_int P (by omega) (by omega)
  have h3 : (D.lst (ds xs)).toP.depth ≤ 64 := by simp only [D.toP, PyData.depth]; have := depths_ds xs; omega
  have h4 : (D.lst (ds xs)).pur = true := by simp only [D.pur]; exact purs_ds xs
  have h5 : (D.lst (ds xs)).toP.shown.length ≤ 16777216 := by omega
  have l1 : (Str.ofString "House(").length = 6 := rfl
  have l2 : (Str.ofString ", ").length = 2 := rfl
  have l3 : (Str.ofString ")").length = 1 := rfl
  have l0 : Str.empty.length = 0 := rfl
  have j1 := i1.1
  have q : jnS Str.empty ["House(", (toString P : String), ", ", (D.lst (ds xs)).toP.shown, ")"] = some (rep P xs) := by
    simp only [jnS, empty_app]
    repeat (first | rw [if_pos (by simp only [strLen_append, l1, l2, l3]; omega)] | rfl)
  simp only [e_House_repr, d_House_repr]
  have e : (toString P : String) = P.repr := rfl
  rw [e] at q
  simp [runF, startD, fin, retOf, dRet, dRetN, dSeq, dIfS, dNever, dSkip, dSt, putR, DSt.putV, DSt.putO, DSt.putC, dAsg, dDrop, gNm, gTp, gCs, gNl, dTst, dTru, gTru, dNot, dAnd, dOr, dAndV, dOrV, dNotV, dSc, scalD, dBin, dUn, gNeg, dChain, dVar, dC, dCall, dCallK, dAK, dCons, dNil, dTup, dLst, dBi, dIf, rdAll, keepAll, RV.pin, RV.rd, RV.keep, rdD, Ret.rv, gI, gIC, gIB, gLt, gLe, gGt, gGe, pick, Ret.lowC, List.lookup, sn0, sb0, sn1, sb1, sn2, sb2, sn3, sb3, hs, dFld, dJ, jCons, jNil, pS, pF, pR, i1.2, boxD, h2, h3, h4, h5, q]
end L
set_option Elab.async false
set_option linter.all false
set_option maxRecDepth 100000
set_option maxHeartbeats 4000000
namespace L
open PySem L2 EV

abbrev Low (ce : List D) : Prop := D.lowCs ce.length ce = true
/-! ### orders -/
def is (o : List Int) : D := .lst (o.map .int)
def isT (o : List Int) : D := .tup (o.map .int)
structure ord (P : Int) (o : List Int) : Prop where
  len : (o.length : Int) = P
  mem : ∀ i ∈ o, 0 ≤ i ∧ i < P
  nd : o.Nodup
theorem ints_map (o : List Int) : intsOf (o.map D.int) = some o := by
  induction o with
  | nil => rfl
  | cons x xs ih => simp [intsOf, ih]
theorem bls_map {α : Type} (f : α → Bool) (xs : List α) : blsOf (xs.map fun x => D.bl (f x)) = some (xs.map f) := by
  induction xs with
  | nil => rfl
  | cons x xs ih => simp [blsOf, ih]
theorem is_order_lc (n : Nat) (P : Int) (o : List Int) (h : o.length ≤ 60) (a : D) (ha : a = is o ∨ a = isT o) (ce : List D) : lc_is_order_0 n ⟨[some (.val a), some (.val (.int P)), none], ce⟩ = some (.fresh (.lst (o.map fun i => .bl (decide (0 ≤ i) && decide (i < P)))), ⟨[some (.val a), some (.val (.int P)), none], ce⟩) := by
  have q := dLc_typed (fi := orI (iSeq (dVar 0)) (iTp (dVar 0))) (g := gNm 2) (t := tYesD) (f := dCall 2 (fun ds => e_is_place_of n (ds ++ [])) (dCons (dVar 2) (dCons (dVar 1) dNil))) (vs := [2]) (δ := ⟨[some (.val a), some (.val (.int P)), none], ce⟩) (δ1 := ⟨[some (.val a), some (.val (.int P)), none], ce⟩)
    D.int (fun _ => true) (fun i => .bl (decide (0 ≤ i) && decide (i < P))) o (by rcases ha with rfl | rfl <;> simp [orI, iSeq, iTp, runF, startD, fin, retOf, dRet, dRetN, dSeq, dIfS, dNever, dSkip, dSt, putR, DSt.putV, DSt.putO, DSt.putC, dAsg, dDrop, gNm, gTp, gCs, gNl, dTst, dTru, gTru, dNot, dAnd, dOr, dAndV, dOrV, dNotV, dSc, scalD, dBin, dUn, gNeg, dChain, dVar, dC, dCall, dCallK, dAK, dCons, dNil, dTup, dLst, dBi, dIf, rdAll, keepAll, RV.pin, RV.rd, RV.keep, rdD, Ret.rv, gI, gIC, gIB, gLt, gLe, gGt, gGe, pick, Ret.lowC, List.lookup, sn0, sb0, sn1, sb1, sn2, sb2, sn3, sb3, is, isT]) (fun x hx => by
      refine turn_yes (r := .val (.bl (decide (0 ≤ x) && decide (x < P)))) rfl ?_ rfl rfl
      simp [runF, startD, fin, retOf, dRet, dRetN, dSeq, dIfS, dNever, dSkip, dSt, putR, DSt.putV, DSt.putO, DSt.putC, dAsg, dDrop, gNm, gTp, gCs, gNl, dTst, dTru, gTru, dNot, dAnd, dOr, dAndV, dOrV, dNotV, dSc, scalD, dBin, dUn, gNeg, dChain, dVar, dC, dCall, dCallK, dAK, dCons, dNil, dTup, dLst, dBi, dIf, rdAll, keepAll, RV.pin, RV.rd, RV.keep, rdD, Ret.rv, gI, gIC, gIB, gLt, gLe, gGt, gGe, pick, Ret.lowC, List.lookup, sn0, sb0, sn1, sb1, sn2, sb2, sn3, sb3, wipeD, hideO, is_place_int]) (by omega)
  rw [filter_yes] at q
  exact q
theorem is_order_ok (n : Nat) (P : Int) (o : List Int) (h : ord P o) (hP : P ≤ 16) (a : D) (ha : a = is o ∨ a = isT o) (ce : List D) : e_is_order n [a, .int P] ce = some (.val (.bl true), ce) := by
  have hl := h.len
  have q := is_order_lc n P o (by omega) a ha ce
  have all : (o.map fun i => decide (0 ≤ i) && decide (i < P)).all id = true := by
    simp only [List.all_map, List.all_eq_true]
    intro i hi
    have := h.mem i hi
    simp [this.1, this.2]
  have bl := bls_map (fun i : Int => decide (0 ≤ i) && decide (i < P)) o
  have nd := h.nd
  have h4 : o.length ≤ 4000 := by omega
  rcases ha with rfl | rfl
  · have l := is_list_lst n (o.map .int) ce
    simp only [is] at q ⊢
    simp [e_is_order, d_is_order, runF, startD, fin, retOf, dRet, dRetN, dSeq, dIfS, dNever, dSkip, dSt, putR, DSt.putV, DSt.putO, DSt.putC, dAsg, dDrop, gNm, gTp, gCs, gNl, dTst, dTru, gTru, dNot, dAnd, dOr, dAndV, dOrV, dNotV, dSc, scalD, dBin, dUn, gNeg, dChain, dVar, dC, dCall, dCallK, dAK, dCons, dNil, dTup, dLst, dBi, dIf, rdAll, keepAll, RV.pin, RV.rd, RV.keep, rdD, Ret.rv, gI, gIC, gIB, gLt, gLe, gGt, gGe, pick, Ret.lowC, List.lookup, sn0, sb0, sn1, sb1, sn2, sb2, sn3, sb3, l, gLen, gNe_int, gEq_int, hl, q, gAll, bl, all, dLs, itemsOf, ints_map, nd, h4]
  · have l := is_list_tup n (o.map .int) ce
    simp only [isT] at q ⊢
    simp [e_is_order, d_is_order, runF, startD, fin, retOf, dRet, dRetN, dSeq, dIfS, dNever, dSkip, dSt, putR, DSt.putV, DSt.putO, DSt.putC, dAsg, dDrop, gNm, gTp, gCs, gNl, dTst, dTru, gTru, dNot, dAnd, dOr, dAndV, dOrV, dNotV, dSc, scalD, dBin, dUn, gNeg, dChain, dVar, dC, dCall, dCallK, dAK, dCons, dNil, dTup, dLst, dBi, dIf, rdAll, keepAll, RV.pin, RV.rd, RV.keep, rdD, Ret.rv, gI, gIC, gIB, gLt, gLe, gGt, gGe, pick, Ret.lowC, List.lookup, sn0, sb0, sn1, sb1, sn2, sb2, sn3, sb3, l, gLen, gNe_int, gEq_int, hl, q, gAll, bl, all, dLs, itemsOf, ints_map, nd, h4]
/-! ### a deed with its places called otherwise -/
def nth (o : List Int) (i : Int) : Int := o.getD i.toNat 0
def mv (o : List Int) (x : Dd) : Dd := ⟨nth o x.p, x.c, nth o x.g, x.w⟩
theorem at_nth (o : List Int) (i : Int) (h0 : 0 ≤ i) (h1 : i < o.length) : atI (o.map D.int) i = some (.int (nth o i)) := by
  have hl : i.toNat < o.length := by omega
  have e : ixN (o.map D.int).length i = some i.toNat := by simp [ixN, h0, h1]
  simp only [atI, e, Option.bind_some, nth, List.getElem?_map, List.getD_eq_getElem?_getD]
  simp [hl]
theorem rd_hs (δ : DSt) (P : Int) (xs : List Dd) : rdD δ (hs P xs) = some (hs P xs) := rfl
theorem rd_d (δ : DSt) (x : Dd) : rdD δ x.d = some x.d := rfl
theorem rd_is (δ : DSt) (o : List Int) : rdD δ (is o) = some (is o) := rfl
theorem rd_isT (δ : DSt) (o : List Int) : rdD δ (isT o) = some (isT o) := rfl
theorem ix_d0 (x : Dd) : gIx x.d (.int 0) = some (.val (.int x.p)) := rfl
theorem ix_d1 (x : Dd) : gIx x.d (.int 1) = some (.val (.int x.c)) := rfl
theorem ix_d2 (x : Dd) : gIx x.d (.int 2) = some (.val (.int x.g)) := rfl
theorem ix_d3 (x : Dd) : gIx x.d (.int 3) = some (.val (.str x.w)) := rfl
theorem ix_is (o : List Int) (i : Int) (h0 : 0 ≤ i) (h1 : i < o.length) : gIx (is o) (.int i) = some (.val (.int (nth o i))) := by
  simp only [is, gIx, at_nth o i h0 h1, Option.map_some]
theorem ix_isT (o : List Int) (i : Int) (h0 : 0 ≤ i) (h1 : i < o.length) : gIx (isT o) (.int i) = some (.val (.int (nth o i))) := by
  simp only [isT, gIx, at_nth o i h0 h1, Option.map_some]
/-- evaluation that leaves deeds, orders, houses closed -/
theorem moved_ok (n : Nat) (x : Dd) (o : List Int) (h : 0 ≤ x.p ∧ x.p < o.length ∧ 0 ≤ x.g ∧ x.g < o.length) (a : D) (ha : a = is o ∨ a = isT o) (ce : List D) : e_moved n [x.d, a] ce = some (.val (mv o x).d, ce) := by
  have e : (mv o x).d = .tup [.int (nth o x.p), .int x.c, .int (nth o x.g), .str x.w] := rfl
  rcases ha with rfl | rfl
  · have h1 := ix_is o x.p h.1 h.2.1
    have h2 := ix_is o x.g h.2.2.1 h.2.2.2
    simp only [e]
    simp [e_moved, d_moved, runF, startD, fin, retOf, dRet, dRetN, dSeq, dIfS, dNever, dSkip, dSt, putR, DSt.putV, DSt.putO, DSt.putC, dAsg, dDrop, gNm, gTp, gCs, gNl, dTst, dTru, gTru, dNot, dAnd, dOr, dAndV, dOrV, dNotV, dSc, scalD, dBin, dUn, gNeg, dChain, dVar, dC, dCall, dCallK, dAK, dCons, dNil, dTup, dLst, dBi, dIf, rdAll, keepAll, RV.pin, RV.rd, RV.keep, Ret.rv, gI, gIC, gIB, gLt, gLe, gGt, gGe, pick, Ret.lowC, List.lookup, sn0, sb0, sn1, sb1, sn2, sb2, sn3, sb3, rd_int, rd_str, rd_bl, rd_non, rd_lst, rd_tup, rd_fn, rd_ty, rd_dic, rd_cell, ix_d0, ix_d1, ix_d2, ix_d3, h1, h2, rd_d, rd_is]
  · have h1 := ix_isT o x.p h.1 h.2.1
    have h2 := ix_isT o x.g h.2.2.1 h.2.2.2
    simp only [e]
    simp [e_moved, d_moved, runF, startD, fin, retOf, dRet, dRetN, dSeq, dIfS, dNever, dSkip, dSt, putR, DSt.putV, DSt.putO, DSt.putC, dAsg, dDrop, gNm, gTp, gCs, gNl, dTst, dTru, gTru, dNot, dAnd, dOr, dAndV, dOrV, dNotV, dSc, scalD, dBin, dUn, gNeg, dChain, dVar, dC, dCall, dCallK, dAK, dCons, dNil, dTup, dLst, dBi, dIf, rdAll, keepAll, RV.pin, RV.rd, RV.keep, Ret.rv, gI, gIC, gIB, gLt, gLe, gGt, gGe, pick, Ret.lowC, List.lookup, sn0, sb0, sn1, sb1, sn2, sb2, sn3, sb3, rd_int, rd_str, rd_bl, rd_non, rd_lst, rd_tup, rd_fn, rd_ty, rd_dic, rd_cell, ix_d0, ix_d1, ix_d2, ix_d3, h1, h2, rd_d, rd_isT]
end L
set_option Elab.async false
set_option linter.all false
set_option maxRecDepth 100000
set_option maxHeartbeats 4000000
namespace L
open PySem L2 EV

/-! ### sums -/
theorem gAdd_int (a b : Int) : gAdd (.int a) (.int b) = some (.val (.int (a + b))) := rfl
theorem gAdd_ds (xs ys : List Dd) (h : xs.length + ys.length ≤ 16777216) : gAdd (.lst (ds xs)) (.lst (ds ys)) = some (.fresh (.lst (ds (xs ++ ys)))) := by
  have e : ds (xs ++ ys) = ds xs ++ ds ys := by simp [ds]
  have h' : (ds xs).length + (ds ys).length ≤ 16777216 := by rw [ds_len, ds_len]; exact h
  simp [gAdd, gI, gStrAdd, gCat, h', e]
theorem gAdd_str (a b : Str) (h : a.length + b.length ≤ 16777216) : gAdd (.str a) (.str b) = some (.val (.str (a ++ b))) := by
  simp [gAdd, gI, gStrAdd, h]
theorem ds_one (x : Dd) : [x.d] = ds [x] := rfl
/-! ### good houses -/
theorem good_add {P : Int} {xs : List Dd} {x : Dd} (g : good P xs) (h : x ∉ xs) (ok : okD P x) (hl : xs.length < 60) : good P (xs ++ [x]) where
  P0 := g.P0
  P1 := g.P1
  ok := fun y hy => by
    rcases List.mem_append.mp hy with hy | hy
    · exact g.ok y hy
    · rw [List.mem_singleton.mp hy]; exact ok
  nd := by
    rw [List.nodup_append]
    exact ⟨g.nd, by simp, fun a ha b hb => by
      rw [List.mem_singleton.mp hb]
      exact fun z => h (z ▸ ha)⟩
  len := by rw [List.length_append, List.length_singleton]; omega
theorem good_sub {P : Int} {xs ys : List Dd} (g : good P xs) (h : ys.Sublist xs) : good P ys where
  P0 := g.P0
  P1 := g.P1
  ok := fun y hy => g.ok y (h.subset hy)
  nd := g.nd.sublist h
  len := Nat.le_trans h.length_le g.len
theorem nodup_map {α β : Type} {f : α → β} : ∀ {xs : List α}, (∀ a ∈ xs, ∀ b ∈ xs, f a = f b → a = b) → xs.Nodup → (xs.map f).Nodup
  | [], _, _ => List.nodup_nil
  | x :: xs, h, n => by
    rw [List.nodup_cons] at n
    rw [List.map_cons, List.nodup_cons]
    refine ⟨fun hm => ?_, nodup_map (fun a ha b hb => h a (by simp [ha]) b (by simp [hb])) n.2⟩
    obtain ⟨y, hy, e⟩ := List.mem_map.mp hm
    have := h y (by simp [hy]) x (by simp) e
    exact n.1 (this ▸ hy)
theorem nth_mem {o : List Int} {i : Int} (h0 : 0 ≤ i) (h1 : i < o.length) : nth o i ∈ o := by
  have hl : i.toNat < o.length := by omega
  unfold nth
  rw [List.getD_eq_getElem?_getD, List.getElem?_eq_getElem hl]
  exact List.getElem_mem hl
theorem nth_inj {o : List Int} (nd : o.Nodup) {i j : Int} (h0 : 0 ≤ i) (h1 : i < o.length) (k0 : 0 ≤ j) (k1 : j < o.length) (e : nth o i = nth o j) : i = j := by
  have hl : i.toNat < o.length := by omega
  have kl : j.toNat < o.length := by omega
  unfold nth at e
  rw [List.getD_eq_getElem?_getD, List.getElem?_eq_getElem hl, List.getD_eq_getElem?_getD, List.getElem?_eq_getElem kl] at e
  have := (List.getElem_inj nd).mp (by simpa using e : o[i.toNat] = o[j.toNat])
  omega
theorem good_mv {P : Int} {xs : List Dd} {o : List Int} (g : good P xs) (h : ord P o) : good P (xs.map (mv o)) where
  P0 := g.P0
  P1 := g.P1
  ok := fun y hy => by
    obtain ⟨x, hx, rfl⟩ := List.mem_map.mp hy
    obtain ⟨a, b, c, d, e⟩ := g.ok x hx
    have hl := h.len
    have m1 := h.mem _ (nth_mem a (by omega : x.p < o.length))
    have m2 := h.mem _ (nth_mem c (by omega : x.g < o.length))
    exact ⟨m1.1, m1.2, m2.1, m2.2, e⟩
  nd := nodup_map (fun a ha b hb e => by
    obtain ⟨a1, a2, a3, a4, _⟩ := g.ok a ha
    obtain ⟨b1, b2, b3, b4, _⟩ := g.ok b hb
    have hl := h.len
    obtain ⟨ap, ac, ag, aw⟩ := a
    obtain ⟨bp, bc, bg, bw⟩ := b
    simp only [mv, Dd.mk.injEq] at e a1 a2 a3 a4 b1 b2 b3 b4
    obtain ⟨e1, e2, e3, e4⟩ := e
    rw [nth_inj h.nd a1 (by omega) b1 (by omega) e1, nth_inj h.nd a3 (by omega) b3 (by omega) e3, e2, e4]) g.nd
  len := by rw [List.length_map]; exact g.len
/-- a deed of the house beside -/
def sh (P : Int) (x : Dd) : Dd := ⟨x.p + P, x.c, x.g + P, x.w⟩
theorem good_sh {P Q : Int} {xs ys : List Dd} (g : good P xs) (h : good Q ys) (hP : P + Q ≤ 16) (hl : xs.length + ys.length ≤ 60) : good (P + Q) (xs ++ ys.map (sh P)) where
  P0 := by have := g.P0; have := h.P0; omega
  P1 := hP
  ok := fun y hy => by
    rcases List.mem_append.mp hy with hy | hy
    · obtain ⟨a, b, c, d, e⟩ := g.ok y hy
      have := h.P0
      exact ⟨a, by omega, c, by omega, e⟩
    · obtain ⟨x, hx, rfl⟩ := List.mem_map.mp hy
      obtain ⟨a, b, c, d, e⟩ := h.ok x hx
      have := g.P0
      exact ⟨by show 0 ≤ x.p + P; omega, by show x.p + P < P + Q; omega, by show 0 ≤ x.g + P; omega, by show x.g + P < P + Q; omega, e⟩
  nd := by
    rw [List.nodup_append]
    refine ⟨g.nd, nodup_map (fun a ha b hb e => ?_) h.nd, fun a ha b hb e => ?_⟩
    · obtain ⟨ap, ac, ag, aw⟩ := a
      obtain ⟨bp, bc, bg, bw⟩ := b
      simp only [sh, Dd.mk.injEq] at e ⊢
      exact ⟨by omega, e.2.1, by omega, e.2.2.2⟩
    · obtain ⟨x, hx, rfl⟩ := List.mem_map.mp hb
      have h1 := (g.ok a ha).p1
      have h2 := (h.ok x hx).p0
      rw [e] at h1
      have : (sh P x).p = x.p + P := rfl
      omega
  len := by rw [List.length_append, List.length_map]; exact hl
/-- the deed led back -/
def tn (x : Dd) : Dd := ⟨x.g, 0 - x.c, x.p, "any"⟩
def anys (xs : List Dd) : List Dd := xs.filter fun x => decide (x.w = ("any" : Str))
theorem anys_all {xs : List Dd} : ∀ x ∈ anys xs, x.w = ("any" : Str) := fun x hx => by
  have := (List.mem_filter.mp hx).2
  simpa using this
theorem good_tn {P : Int} {xs : List Dd} (g : good P xs) (h : ∀ x ∈ xs, x.w = ("any" : Str)) : good P (xs.map tn) where
  P0 := g.P0
  P1 := g.P1
  ok := fun y hy => by
    obtain ⟨x, hx, rfl⟩ := List.mem_map.mp hy
    obtain ⟨a, b, c, d, e⟩ := g.ok x hx
    have c1 : -1 ≤ x.c ∧ x.c ≤ 1 := by omega
    exact ⟨c, d, a, b, .inl ⟨rfl, by show -1 ≤ 0 - x.c; omega, by show 0 - x.c ≤ 1; omega⟩⟩
  nd := nodup_map (fun a ha b hb e => by
    have wa := h a ha
    have wb := h b hb
    obtain ⟨ap, ac, ag, aw⟩ := a
    obtain ⟨bp, bc, bg, bw⟩ := b
    simp only [tn, Dd.mk.injEq] at e wa wb ⊢
    exact ⟨e.2.2.1, by omega, e.1, by rw [wa, wb]⟩) g.nd
  len := by rw [List.length_map]; exact g.len
theorem good_any {P : Int} {xs : List Dd} (g : good P xs) : good P (anys xs) := good_sub g List.filter_sublist
end L
set_option Elab.async false
set_option linter.all false
set_option maxRecDepth 100000
set_option maxHeartbeats 4000000
namespace L
open PySem L2 EV

theorem fld_p0 (P : Int) (xs : List Dd) (t : List (Option SD)) (ce : List D) : dFld "House" "own_places" (dVar 0) ⟨some (.val (hs P xs)) :: t, ce⟩ = some (.val (.int P), ⟨some (.val (hs P xs)) :: t, ce⟩) := by
  simp [dFld, dVar, RV.pin, RV.rd, rd_hs]
  simp [hs, List.lookup, sb0]
theorem fld_d0 (P : Int) (xs : List Dd) (t : List (Option SD)) (ce : List D) : dFld "House" "own_deeds" (dVar 0) ⟨some (.val (hs P xs)) :: t, ce⟩ = some (.val (.lst (ds xs)), ⟨some (.val (hs P xs)) :: t, ce⟩) := by
  simp [dFld, dVar, RV.pin, RV.rd, rd_hs]
  simp [hs, List.lookup, sb0]
theorem fld_p1 (a : Option SD) (P : Int) (xs : List Dd) (t : List (Option SD)) (ce : List D) : dFld "House" "own_places" (dVar 1) ⟨a :: some (.val (hs P xs)) :: t, ce⟩ = some (.val (.int P), ⟨a :: some (.val (hs P xs)) :: t, ce⟩) := by
  simp [dFld, dVar, RV.pin, RV.rd, rd_hs]
  simp [hs, List.lookup, sb0]
theorem fld_d1 (a : Option SD) (P : Int) (xs : List Dd) (t : List (Option SD)) (ce : List D) : dFld "House" "own_deeds" (dVar 1) ⟨a :: some (.val (hs P xs)) :: t, ce⟩ = some (.val (.lst (ds xs)), ⟨a :: some (.val (hs P xs)) :: t, ce⟩) := by
  simp [dFld, dVar, RV.pin, RV.rd, rd_hs]
  simp [hs, List.lookup, sb0]
theorem insOf_hs (ce : List D) (P : Int) (xs : List Dd) : insOf ce (hs P xs) = some (Str.ofString "House", [Str.ofString "own_places", Str.ofString "own_deeds"], [D.int P, D.lst (ds xs)]) := rfl
theorem tag_hs (P : Int) (xs : List Dd) : (hs P xs).tag = some (.own "House") := rfl
theorem isi_hs (P : Int) (xs : List Dd) : gIsi csL [hs P xs, .fn "House"] = some (.val (.bl true)) := by
  simp [gIsi, tag_hs, okT, csL, D.ctag, subT]
/-! ### with_deed -/
theorem with_deed_ok (n : Nat) (hn : 60 < n) {P : Int} {xs : List Dd} {x : Dd} (g : good P (xs ++ [x])) (ce : List D) (low : Low ce) : e_House_with_deed n [hs P xs, x.d] ce = some (.fresh (hs P (xs ++ [x])), ce) := by
  have ok := g.ok x (by simp)
  have hx : x ∉ xs := fun h => by
    have := g.nd
    rw [List.nodup_append] at this
    exact this.2.2 x h x (by simp) rfl
  have hl : xs.length + 1 ≤ 60 := by simpa using g.len
  have q1 := is_deed_ok n P x ok ce
  have q2 := gIn_deeds false xs x
  have q3 := want_few_ok n "deeds" 60 ((xs.length : Int) + 1) (by omega) ce
  have q4 : mk_House_with_deed_0 n ⟨[some (.val (hs P xs)), some (.val x.d)], ce⟩ = some (.fresh (hs P (xs ++ [x])), ⟨[some (.val (hs P xs)), some (.val x.d)], ce⟩) := by
    refine make_ok n hn g (r1 := .val (.int P)) (r2 := .fresh (.lst (ds (xs ++ [x])))) ?_ rfl rfl (.inl rfl) low
    have a := gAdd_ds xs [x] (by simp; omega)
    simp [runF, startD, fin, retOf, dRet, dRetN, dSeq, dIfS, dNever, dSkip, dSt, putR, DSt.putV, DSt.putO, DSt.putC, dAsg, dDrop, gNm, gTp, gCs, gNl, dTst, dTru, gTru, dNot, dAnd, dOr, dAndV, dOrV, dNotV, dSc, scalD, dBin, dUn, gNeg, dChain, dVar, dC, dCall, dCallK, dAK, dCons, dNil, dTup, dLst, dBi, dIf, rdAll, keepAll, RV.pin, RV.rd, RV.keep, Ret.rv, gI, gIC, gIB, gLt, gLe, gGt, gGe, pick, Ret.lowC, List.lookup, sn0, sb0, sn1, sb1, sn2, sb2, sn3, sb3, rd_int, rd_str, rd_bl, rd_non, rd_lst, rd_tup, rd_fn, rd_ty, rd_dic, rd_cell, fld_p0, fld_d0, rd_hs, rd_d, ds_one, ds_len, a]
  simp [e_House_with_deed, d_House_with_deed, runF, startD, fin, retOf, dRet, dRetN, dSeq, dIfS, dNever, dSkip, dSt, putR, DSt.putV, DSt.putO, DSt.putC, dAsg, dDrop, gNm, gTp, gCs, gNl, dTst, dTru, gTru, dNot, dAnd, dOr, dAndV, dOrV, dNotV, dSc, scalD, dBin, dUn, gNeg, dChain, dVar, dC, dCall, dCallK, dAK, dCons, dNil, dTup, dLst, dBi, dIf, rdAll, keepAll, RV.pin, RV.rd, RV.keep, Ret.rv, gI, gIC, gIB, gLt, gLe, gGt, gGe, pick, Ret.lowC, List.lookup, sn0, sb0, sn1, sb1, sn2, sb2, sn3, sb3, rd_int, rd_str, rd_bl, rd_non, rd_lst, rd_tup, rd_fn, rd_ty, rd_dic, rd_cell, fld_p0, fld_d0, rd_hs, rd_d, q1, q2, hx, gLen, ds_len, gAdd_int, q3, q4]
/-! ### without_deed -/
theorem cut_lo (xs : List Dd) (i : Nat) : cutD (ds xs) none (some (i : Int)) = ds (xs.take i) := by
  simp only [cutD, HT.sIx_none, HT.sIx_nat, ds_len, List.drop_zero, Nat.sub_zero]
  simp only [ds, ← List.map_take]
  congr 1
  by_cases h : i ≤ xs.length
  · rw [Nat.min_eq_left h]
  · rw [Nat.min_eq_right (by omega), List.take_length, List.take_of_length_le (by omega)]
theorem cut_hi (xs : List Dd) (j : Nat) (hj : j ≤ xs.length) : cutD (ds xs) (some (j : Int)) none = ds (xs.drop j) := by
  simp only [cutD, HT.sIx_none, HT.sIx_nat, ds_len, Nat.min_eq_left hj]
  simp only [ds, ← List.map_drop]
  rw [List.take_of_length_le (by simp)]
/-- the i-th deed left out -/
def cut (xs : List Dd) (i : Nat) : List Dd := xs.take i ++ xs.drop (i + 1)
theorem cut_sub (xs : List Dd) (i : Nat) : (cut xs i).Sublist xs := by
  have h := List.Sublist.append (List.Sublist.refl (xs.take i)) (show (xs.drop (i + 1)).Sublist (xs.drop i) from by
    have : xs.drop (i + 1) = (xs.drop i).drop 1 := by rw [List.drop_drop]
    rw [this]
    exact List.drop_sublist 1 _)
  rw [List.take_append_drop] at h
  exact h
theorem without_deed_ok (n : Nat) (hn : 60 < n) {P : Int} {xs : List Dd} (g : good P xs) (i : Nat) (hi : i < xs.length) (ce : List D) (low : Low ce) : e_House_without_deed n [hs P xs, .int (i : Int)] ce = some (.fresh (hs P (cut xs i)), ce) := by
  have q1 := is_count_int n (i : Int) ce
  have h0 : (0 : Int) ≤ (i : Int) := by omega
  have h1 : ¬ (xs.length : Int) ≤ (i : Int) := by omega
  have q4 : mk_House_without_deed_0 n ⟨[some (.val (hs P xs)), some (.val (.int i))], ce⟩ = some (.fresh (hs P (cut xs i)), ⟨[some (.val (hs P xs)), some (.val (.int i))], ce⟩) := by
    refine make_ok n hn (good_sub g (cut_sub xs i)) (r1 := .val (.int P)) (r2 := .fresh (.lst (ds (cut xs i)))) ?_ rfl rfl (.inl rfl) low
    have hl := g.len
    have a := gAdd_ds (xs.take i) (xs.drop (i + 1)) (by simp; omega)
    have c1 := cut_lo xs i
    have c2 := cut_hi xs (i + 1) hi
    rw [Int.natCast_add] at c2
    have c2 : cutD (ds xs) (some ((i : Int) + 1)) none = ds (xs.drop (i + 1)) := c2
    simp [runF, startD, fin, retOf, dRet, dRetN, dSeq, dIfS, dNever, dSkip, dSt, putR, DSt.putV, DSt.putO, DSt.putC, dAsg, dDrop, gNm, gTp, gCs, gNl, dTst, dTru, gTru, dNot, dAnd, dOr, dAndV, dOrV, dNotV, dSc, scalD, dBin, dUn, gNeg, dChain, dVar, dC, dCall, dCallK, dAK, dCons, dNil, dTup, dLst, dBi, dIf, rdAll, keepAll, RV.pin, RV.rd, RV.keep, Ret.rv, gI, gIC, gIB, gLt, gLe, gGt, gGe, pick, Ret.lowC, List.lookup, sn0, sb0, sn1, sb1, sn2, sb2, sn3, sb3, rd_int, rd_str, rd_bl, rd_non, rd_lst, rd_tup, rd_fn, rd_ty, rd_dic, rd_cell, fld_p0, fld_d0, rd_hs, dSl, dPart, dNoP, gSl, gAdd_int, c1, c2, a, cut]
  simp [e_House_without_deed, d_House_without_deed, runF, startD, fin, retOf, dRet, dRetN, dSeq, dIfS, dNever, dSkip, dSt, putR, DSt.putV, DSt.putO, DSt.putC, dAsg, dDrop, gNm, gTp, gCs, gNl, dTst, dTru, gTru, dNot, dAnd, dOr, dAndV, dOrV, dNotV, dSc, scalD, dBin, dUn, gNeg, dChain, dVar, dC, dCall, dCallK, dAK, dCons, dNil, dTup, dLst, dBi, dIf, rdAll, keepAll, RV.pin, RV.rd, RV.keep, Ret.rv, gI, gIC, gIB, gLt, gLe, gGt, gGe, pick, Ret.lowC, List.lookup, sn0, sb0, sn1, sb1, sn2, sb2, sn3, sb3, rd_int, rd_str, rd_bl, rd_non, rd_lst, rd_tup, rd_fn, rd_ty, rd_dic, rd_cell, fld_p0, fld_d0, rd_hs, q1, gLen, ds_len, h1, q4]
/-! ### renumbered -/
theorem ren_lc (n : Nat) {P : Int} {xs : List Dd} {o : List Int} (g : good P xs) (h : ord P o) (a : D) (ha : a = is o ∨ a = isT o) (ce : List D) : lc_House_renumbered_0 n ⟨[some (.val (hs P xs)), some (.val a), none], ce⟩ = some (.fresh (.lst (ds (xs.map (mv o)))), ⟨[some (.val (hs P xs)), some (.val a), none], ce⟩) := by
  have q := dLc_typed (fi := orI (iSeq (dFld "House" "own_deeds" (dVar 0))) (iTp (dFld "House" "own_deeds" (dVar 0)))) (g := gNm 2) (t := tYesD) (f := dCall 2 (fun ds => e_moved n (ds ++ [])) (dCons (dVar 2) (dCons (dVar 1) dNil))) (vs := [2]) (δ := ⟨[some (.val (hs P xs)), some (.val a), none], ce⟩) (δ1 := ⟨[some (.val (hs P xs)), some (.val a), none], ce⟩)
    Dd.d (fun _ => true) (fun x => (mv o x).d) xs (by simp [orI, iSeq, iTp, fld_d0, runF, startD, fin, retOf, dRet, dRetN, dSeq, dIfS, dNever, dSkip, dSt, putR, DSt.putV, DSt.putO, DSt.putC, dAsg, dDrop, gNm, gTp, gCs, gNl, dTst, dTru, gTru, dNot, dAnd, dOr, dAndV, dOrV, dNotV, dSc, scalD, dBin, dUn, gNeg, dChain, dVar, dC, dCall, dCallK, dAK, dCons, dNil, dTup, dLst, dBi, dIf, rdAll, keepAll, RV.pin, RV.rd, RV.keep, Ret.rv, gI, gIC, gIB, gLt, gLe, gGt, gGe, pick, Ret.lowC, List.lookup, sn0, sb0, sn1, sb1, sn2, sb2, sn3, sb3, rd_int, rd_str, rd_bl, rd_non, rd_lst, rd_tup, rd_fn, rd_ty, rd_dic, rd_cell, ds]) (fun x hx => by
      refine turn_yes (r := .val (mv o x).d) rfl ?_ rfl rfl
      obtain ⟨a1, a2, a3, a4, _⟩ := g.ok x hx
      have hl := h.len
      have m := moved_ok n x o ⟨a1, by omega, a3, by omega⟩ a ha ce
      simp [runF, startD, fin, retOf, dRet, dRetN, dSeq, dIfS, dNever, dSkip, dSt, putR, DSt.putV, DSt.putO, DSt.putC, dAsg, dDrop, gNm, gTp, gCs, gNl, dTst, dTru, gTru, dNot, dAnd, dOr, dAndV, dOrV, dNotV, dSc, scalD, dBin, dUn, gNeg, dChain, dVar, dC, dCall, dCallK, dAK, dCons, dNil, dTup, dLst, dBi, dIf, rdAll, keepAll, RV.pin, RV.rd, RV.keep, Ret.rv, gI, gIC, gIB, gLt, gLe, gGt, gGe, pick, Ret.lowC, List.lookup, sn0, sb0, sn1, sb1, sn2, sb2, sn3, sb3, rd_int, rd_str, rd_bl, rd_non, rd_lst, rd_tup, rd_fn, rd_ty, rd_dic, rd_cell, wipeD, hideO, m]) (by have := g.len; omega)
  rw [filter_yes] at q
  have e : xs.map (fun x => (mv o x).d) = ds (xs.map (mv o)) := by simp [ds]
  rw [e] at q
  exact q
theorem renumbered_ok (n : Nat) (hn : 60 < n) {P : Int} {xs : List Dd} {o : List Int} (g : good P xs) (h : ord P o) (a : D) (ha : a = is o ∨ a = isT o) (ce : List D) (low : Low ce) : e_House_renumbered n [hs P xs, a] ce = some (.fresh (hs P (xs.map (mv o))), ce) := by
  have q1 := is_order_ok n P o h g.P1 a ha ce
  have q2 := ren_lc n g h a ha ce
  have q4 : mk_House_renumbered_1 n ⟨[some (.val (hs P xs)), some (.val a), none], ce⟩ = some (.fresh (hs P (xs.map (mv o))), ⟨[some (.val (hs P xs)), some (.val a), none], ce⟩) := by
    refine make_ok n hn (good_mv g h) (r1 := .val (.int P)) (r2 := .fresh (.lst (ds (xs.map (mv o))))) ?_ rfl rfl (.inl rfl) low
    simp [runF, startD, fin, retOf, dRet, dRetN, dSeq, dIfS, dNever, dSkip, dSt, putR, DSt.putV, DSt.putO, DSt.putC, dAsg, dDrop, gNm, gTp, gCs, gNl, dTst, dTru, gTru, dNot, dAnd, dOr, dAndV, dOrV, dNotV, dSc, scalD, dBin, dUn, gNeg, dChain, dVar, dC, dCall, dCallK, dAK, dCons, dNil, dTup, dLst, dBi, dIf, rdAll, keepAll, RV.pin, RV.rd, RV.keep, Ret.rv, gI, gIC, gIB, gLt, gLe, gGt, gGe, pick, Ret.lowC, List.lookup, sn0, sb0, sn1, sb1, sn2, sb2, sn3, sb3, rd_int, rd_str, rd_bl, rd_non, rd_lst, rd_tup, rd_fn, rd_ty, rd_dic, rd_cell, fld_p0, q2]
  simp [e_House_renumbered, d_House_renumbered, runF, startD, fin, retOf, dRet, dRetN, dSeq, dIfS, dNever, dSkip, dSt, putR, DSt.putV, DSt.putO, DSt.putC, dAsg, dDrop, gNm, gTp, gCs, gNl, dTst, dTru, gTru, dNot, dAnd, dOr, dAndV, dOrV, dNotV, dSc, scalD, dBin, dUn, gNeg, dChain, dVar, dC, dCall, dCallK, dAK, dCons, dNil, dTup, dLst, dBi, dIf, rdAll, keepAll, RV.pin, RV.rd, RV.keep, Ret.rv, gI, gIC, gIB, gLt, gLe, gGt, gGe, pick, Ret.lowC, List.lookup, sn0, sb0, sn1, sb1, sn2, sb2, sn3, sb3, rd_int, rd_str, rd_bl, rd_non, rd_lst, rd_tup, rd_fn, rd_ty, rd_dic, rd_cell, fld_p0, rd_hs, q1, q4]
/-! ### beside -/
def rg (P Q : Int) : List Int := (List.range Q.toNat).map fun i => P + (i : Nat)
theorem rg_len (P Q : Int) : (rg P Q).length = Q.toNat := by simp [rg]
theorem rgD (P Q : Int) : D.lst (rngD P (P + Q - P).toNat) = is (rg P Q) := by
  have e : P + Q - P = Q := by omega
  simp [rngD, is, rg, e]
theorem nth_rg (P Q i : Int) (h0 : 0 ≤ i) (h1 : i < Q) : nth (rg P Q) i = i + P := by
  have hl : i.toNat < Q.toNat := by omega
  simp only [nth, rg, List.getD_eq_getElem?_getD, List.getElem?_map, List.getElem?_range hl, Option.map_some, Option.getD_some]
  omega
theorem bes_lc (n : Nat) {P Q : Int} {xs ys : List Dd} (h : good Q ys) (ce : List D) : lc_House_beside_0 n ⟨[some (.val (hs P xs)), some (.val (hs Q ys)), some (.val (is (rg P Q))), none, none], ce⟩ = some (.fresh (.lst (ds (ys.map (sh P)))), ⟨[some (.val (hs P xs)), some (.val (hs Q ys)), some (.val (is (rg P Q))), none, none], ce⟩) := by
  have q := dLc_typed (fi := orI (iSeq (dFld "House" "own_deeds" (dVar 1))) (iTp (dFld "House" "own_deeds" (dVar 1)))) (g := gNm 4) (t := tYesD) (f := dCall 2 (fun ds => e_moved n (ds ++ [])) (dCons (dVar 4) (dCons (dVar 2) dNil))) (vs := [4]) (δ := ⟨[some (.val (hs P xs)), some (.val (hs Q ys)), some (.val (is (rg P Q))), none, none], ce⟩) (δ1 := ⟨[some (.val (hs P xs)), some (.val (hs Q ys)), some (.val (is (rg P Q))), none, none], ce⟩)
    Dd.d (fun _ => true) (fun x => (mv (rg P Q) x).d) ys (by simp [orI, iSeq, iTp, fld_d1, runF, startD, fin, retOf, dRet, dRetN, dSeq, dIfS, dNever, dSkip, dSt, putR, DSt.putV, DSt.putO, DSt.putC, dAsg, dDrop, gNm, gTp, gCs, gNl, dTst, dTru, gTru, dNot, dAnd, dOr, dAndV, dOrV, dNotV, dSc, scalD, dBin, dUn, gNeg, dChain, dVar, dC, dCall, dCallK, dAK, dCons, dNil, dTup, dLst, dBi, dIf, rdAll, keepAll, RV.pin, RV.rd, RV.keep, rdD, Ret.rv, gI, gIC, gIB, gLt, gLe, gGt, gGe, pick, Ret.lowC, List.lookup, sn0, sb0, sn1, sb1, sn2, sb2, sn3, sb3, ds]) (fun x hx => by
      refine turn_yes (r := .val (mv (rg P Q) x).d) rfl ?_ rfl rfl
      obtain ⟨a1, a2, a3, a4, _⟩ := h.ok x hx
      have hl := rg_len P Q
      have m := moved_ok n x (rg P Q) ⟨a1, by omega, a3, by omega⟩ _ (.inl rfl) ce
      simp [runF, startD, fin, retOf, dRet, dRetN, dSeq, dIfS, dNever, dSkip, dSt, putR, DSt.putV, DSt.putO, DSt.putC, dAsg, dDrop, gNm, gTp, gCs, gNl, dTst, dTru, gTru, dNot, dAnd, dOr, dAndV, dOrV, dNotV, dSc, scalD, dBin, dUn, gNeg, dChain, dVar, dC, dCall, dCallK, dAK, dCons, dNil, dTup, dLst, dBi, dIf, rdAll, keepAll, RV.pin, RV.rd, RV.keep, rdD, Ret.rv, gI, gIC, gIB, gLt, gLe, gGt, gGe, pick, Ret.lowC, List.lookup, sn0, sb0, sn1, sb1, sn2, sb2, sn3, sb3, wipeD, hideO, m]) (by have := h.len; omega)
  rw [filter_yes] at q
  have e : ys.map (fun x => (mv (rg P Q) x).d) = ds (ys.map (sh P)) := by
    simp only [ds, List.map_map]
    refine List.map_congr_left fun x hx => ?_
    obtain ⟨a1, a2, a3, a4, _⟩ := h.ok x hx
    simp only [Function.comp, mv, sh, nth_rg P Q x.p a1 a2, nth_rg P Q x.g a3 a4]
  rw [e] at q
  exact q
theorem beside_ok (n : Nat) (hn : 60 < n) {P Q : Int} {xs ys : List Dd} (g : good P xs) (h : good Q ys) (hP : P + Q ≤ 16) (hl : xs.length + ys.length ≤ 60) (ce : List D) (low : Low ce) : e_House_beside n [hs P xs, hs Q ys] ce = some (.fresh (hs (P + Q) (xs ++ ys.map (sh P))), ce) := by
  have q1 := want_few_ok n "places" 16 (P + Q) hP ce
  have q2 := want_few_ok n "deeds" 60 ((xs.length : Int) + (ys.length : Int)) (by omega) ce
  have q3 := bes_lc (P := P) (xs := xs) n h ce
  have P0 := g.P0
  have Q0 := h.P0
  have sm : smallR P (P + Q) = true := by
    have e : P + Q - P = Q := by omega
    simp [smallR, e]
    omega
  have q4 : mk_House_beside_1 n ⟨[some (.val (hs P xs)), some (.val (hs Q ys)), some (.val (is (rg P Q))), some (.val (.lst (ds (ys.map (sh P))))), none], ce⟩ = some (.fresh (hs (P + Q) (xs ++ ys.map (sh P))), ⟨[some (.val (hs P xs)), some (.val (hs Q ys)), some (.val (is (rg P Q))), some (.val (.lst (ds (ys.map (sh P))))), none], ce⟩) := by
    refine make_ok n hn (good_sh g h hP hl) (r1 := .val (.int (P + Q))) (r2 := .fresh (.lst (ds (xs ++ ys.map (sh P))))) ?_ rfl rfl (.inl rfl) low
    have a := gAdd_ds xs (ys.map (sh P)) (by simp; omega)
    simp [runF, startD, fin, retOf, dRet, dRetN, dSeq, dIfS, dNever, dSkip, dSt, putR, DSt.putV, DSt.putO, DSt.putC, dAsg, dDrop, gNm, gTp, gCs, gNl, dTst, dTru, gTru, dNot, dAnd, dOr, dAndV, dOrV, dNotV, dSc, scalD, dBin, dUn, gNeg, dChain, dVar, dC, dCall, dCallK, dAK, dCons, dNil, dTup, dLst, dBi, dIf, rdAll, keepAll, RV.pin, RV.rd, RV.keep, Ret.rv, gI, gIC, gIB, gLt, gLe, gGt, gGe, pick, Ret.lowC, List.lookup, sn0, sb0, sn1, sb1, sn2, sb2, sn3, sb3, rd_int, rd_str, rd_bl, rd_non, rd_lst, rd_tup, rd_fn, rd_ty, rd_dic, rd_cell, fld_p0, fld_p1, fld_d0, gAdd_int, a]
  simp [e_House_beside, d_House_beside, runF, startD, fin, retOf, dRet, dRetN, dSeq, dIfS, dNever, dSkip, dSt, putR, DSt.putV, DSt.putO, DSt.putC, dAsg, dDrop, gNm, gTp, gCs, gNl, dTst, dTru, gTru, dNot, dAnd, dOr, dAndV, dOrV, dNotV, dSc, scalD, dBin, dUn, gNeg, dChain, dVar, dC, dCall, dCallK, dAK, dCons, dNil, dTup, dLst, dBi, dIf, rdAll, keepAll, RV.pin, RV.rd, RV.keep, Ret.rv, gI, gIC, gIB, gLt, gLe, gGt, gGe, pick, Ret.lowC, List.lookup, sn0, sb0, sn1, sb1, sn2, sb2, sn3, sb3, rd_int, rd_str, rd_bl, rd_non, rd_lst, rd_tup, rd_fn, rd_ty, rd_dic, rd_cell, fld_p0, fld_p1, fld_d0, fld_d1, rd_hs, isi_hs, gLen, ds_len, gAdd_int, q1, q2, dLr2, sm, rgD, q3, q4]
/-! ### plain, turned -/
theorem plain_lc (n : Nat) {P : Int} {xs : List Dd} (hl : xs.length ≤ 60) (ce : List D) : lc_House_plain_0 n ⟨[some (.val (hs P xs)), none], ce⟩ = some (.fresh (.lst (ds (anys xs))), ⟨[some (.val (hs P xs)), none], ce⟩) := by
  exact dLc_typed (fi := orI (iSeq (dFld "House" "own_deeds" (dVar 0))) (iTp (dFld "House" "own_deeds" (dVar 0)))) (g := gNm 1) (t := dTst (dBin gEq (dBin gIx (dVar 1) (dC (.int 3))) (dC (.str "any")))) (f := dVar 1) (vs := [1]) (δ := ⟨[some (.val (hs P xs)), none], ce⟩) (δ1 := ⟨[some (.val (hs P xs)), none], ce⟩)
    Dd.d (fun x => decide (x.w = ("any" : Str))) Dd.d xs (by simp [orI, iSeq, iTp, fld_d0, runF, startD, fin, retOf, dRet, dRetN, dSeq, dIfS, dNever, dSkip, dSt, putR, DSt.putV, DSt.putO, DSt.putC, dAsg, dDrop, gNm, gTp, gCs, gNl, dTst, dTru, gTru, dNot, dAnd, dOr, dAndV, dOrV, dNotV, dSc, scalD, dBin, dUn, gNeg, dChain, dVar, dC, dCall, dCallK, dAK, dCons, dNil, dTup, dLst, dBi, dIf, rdAll, keepAll, RV.pin, RV.rd, RV.keep, rdD, Ret.rv, gI, gIC, gIB, gLt, gLe, gGt, gGe, pick, Ret.lowC, List.lookup, sn0, sb0, sn1, sb1, sn2, sb2, sn3, sb3, ds]) (fun x hx => by
      refine turn_tst (r := .slot 1) rfl ?_ ?_ rfl rfl
      · simp [runF, startD, fin, retOf, dRet, dRetN, dSeq, dIfS, dNever, dSkip, dSt, putR, DSt.putV, DSt.putO, DSt.putC, dAsg, dDrop, gNm, gTp, gCs, gNl, dTst, dTru, gTru, dNot, dAnd, dOr, dAndV, dOrV, dNotV, dSc, scalD, dBin, dUn, gNeg, dChain, dVar, dC, dCall, dCallK, dAK, dCons, dNil, dTup, dLst, dBi, dIf, rdAll, keepAll, RV.pin, RV.rd, RV.keep, Ret.rv, gI, gIC, gIB, gLt, gLe, gGt, gGe, pick, Ret.lowC, List.lookup, sn0, sb0, sn1, sb1, sn2, sb2, sn3, sb3, rd_int, rd_str, rd_bl, rd_non, rd_lst, rd_tup, rd_fn, rd_ty, rd_dic, rd_cell, wipeD, hideO, rd_d, ix_d3, gEq_str]
      · simp [runF, startD, fin, retOf, dRet, dRetN, dSeq, dIfS, dNever, dSkip, dSt, putR, DSt.putV, DSt.putO, DSt.putC, dAsg, dDrop, gNm, gTp, gCs, gNl, dTst, dTru, gTru, dNot, dAnd, dOr, dAndV, dOrV, dNotV, dSc, scalD, dBin, dUn, gNeg, dChain, dVar, dC, dCall, dCallK, dAK, dCons, dNil, dTup, dLst, dBi, dIf, rdAll, keepAll, RV.pin, RV.rd, RV.keep, Ret.rv, gI, gIC, gIB, gLt, gLe, gGt, gGe, pick, Ret.lowC, List.lookup, sn0, sb0, sn1, sb1, sn2, sb2, sn3, sb3, rd_int, rd_str, rd_bl, rd_non, rd_lst, rd_tup, rd_fn, rd_ty, rd_dic, rd_cell, wipeD, hideO]) (by omega)
theorem plain_ok (n : Nat) (hn : 60 < n) {P : Int} {xs : List Dd} (g : good P xs) (ce : List D) (low : Low ce) : e_House_plain n [hs P xs] ce = some (.fresh (hs P (anys xs)), ce) := by
  have q3 := plain_lc (P := P) n g.len ce
  have q4 : mk_House_plain_1 n ⟨[some (.val (hs P xs)), none], ce⟩ = some (.fresh (hs P (anys xs)), ⟨[some (.val (hs P xs)), none], ce⟩) := by
    refine make_ok n hn (good_any g) (r1 := .val (.int P)) (r2 := .fresh (.lst (ds (anys xs)))) ?_ rfl rfl (.inl rfl) low
    simp [runF, startD, fin, retOf, dRet, dRetN, dSeq, dIfS, dNever, dSkip, dSt, putR, DSt.putV, DSt.putO, DSt.putC, dAsg, dDrop, gNm, gTp, gCs, gNl, dTst, dTru, gTru, dNot, dAnd, dOr, dAndV, dOrV, dNotV, dSc, scalD, dBin, dUn, gNeg, dChain, dVar, dC, dCall, dCallK, dAK, dCons, dNil, dTup, dLst, dBi, dIf, rdAll, keepAll, RV.pin, RV.rd, RV.keep, Ret.rv, gI, gIC, gIB, gLt, gLe, gGt, gGe, pick, Ret.lowC, List.lookup, sn0, sb0, sn1, sb1, sn2, sb2, sn3, sb3, rd_int, rd_str, rd_bl, rd_non, rd_lst, rd_tup, rd_fn, rd_ty, rd_dic, rd_cell, fld_p0, q3]
  simp [e_House_plain, d_House_plain, runF, startD, fin, retOf, dRet, dRetN, dSeq, dIfS, dNever, dSkip, dSt, putR, DSt.putV, DSt.putO, DSt.putC, dAsg, dDrop, gNm, gTp, gCs, gNl, dTst, dTru, gTru, dNot, dAnd, dOr, dAndV, dOrV, dNotV, dSc, scalD, dBin, dUn, gNeg, dChain, dVar, dC, dCall, dCallK, dAK, dCons, dNil, dTup, dLst, dBi, dIf, rdAll, keepAll, RV.pin, RV.rd, RV.keep, Ret.rv, gI, gIC, gIB, gLt, gLe, gGt, gGe, pick, Ret.lowC, List.lookup, sn0, sb0, sn1, sb1, sn2, sb2, sn3, sb3, rd_int, rd_str, rd_bl, rd_non, rd_lst, rd_tup, rd_fn, rd_ty, rd_dic, rd_cell, q4]
theorem want_plain_ok (n : Nat) {P : Int} {xs : List Dd} (g : good P xs) (h : ∀ x ∈ xs, x.w = ("any" : Str)) (ce : List D) : e_want_plain n [hs P xs] ce = some (.val .non, ce) := by
  have q := is_plain_ok n P xs g.len ce
  have e : (xs.all fun x => decide (x.w = ("any" : Str))) = true := by simpa using h
  rw [e] at q
  have m : Str.ofString "is_plain" ∉ ([Str.ofString "own_places", Str.ofString "own_deeds"] : List Str) := by decide
  simp [e_want_plain, d_want_plain, runF, startD, fin, retOf, dRet, dRetN, dSeq, dIfS, dNever, dSkip, dSt, putR, DSt.putV, DSt.putO, DSt.putC, dAsg, dDrop, gNm, gTp, gCs, gNl, dTst, dTru, gTru, dNot, dAnd, dOr, dAndV, dOrV, dNotV, dSc, scalD, dBin, dUn, gNeg, dChain, dVar, dC, dCall, dCallK, dAK, dCons, dNil, dTup, dLst, dBi, dIf, rdAll, keepAll, RV.pin, RV.rd, RV.keep, Ret.rv, gI, gIC, gIB, gLt, gLe, gGt, gGe, pick, Ret.lowC, List.lookup, sn0, sb0, sn1, sb1, sn2, sb2, sn3, sb3, rd_int, rd_str, rd_bl, rd_non, rd_lst, rd_tup, rd_fn, rd_ty, rd_dic, rd_cell, dMeth0, insOf_hs, m, q]
theorem turned_lc (n : Nat) {P : Int} {xs : List Dd} (hl : xs.length ≤ 60) (ce : List D) : lc_House_turned_0 n ⟨[some (.val (hs P xs)), none, none, none, none], ce⟩ = some (.fresh (.lst (ds (xs.map tn))), ⟨[some (.val (hs P xs)), none, none, none, none], ce⟩) := by
  have q := dLc_typed (fi := orI (iSeq (dFld "House" "own_deeds" (dVar 0))) (iTp (dFld "House" "own_deeds" (dVar 0)))) (g := gTp 4 (gCs (gNm 1) (gCs (gNm 2) (gCs (gNm 3) (gCs (gNm 4) gNl))))) (t := tYesD) (f := dTup (dCons (dVar 3) (dCons (dBin (gI (· - ·)) (dC (.int 0)) (dVar 2)) (dCons (dVar 1) (dCons (dC (.str "any")) dNil))))) (vs := [1, 2, 3, 4]) (δ := ⟨[some (.val (hs P xs)), none, none, none, none], ce⟩) (δ1 := ⟨[some (.val (hs P xs)), none, none, none, none], ce⟩)
    Dd.d (fun _ => true) (fun x => (tn x).d) xs (by simp [orI, iSeq, iTp, fld_d0, runF, startD, fin, retOf, dRet, dRetN, dSeq, dIfS, dNever, dSkip, dSt, putR, DSt.putV, DSt.putO, DSt.putC, dAsg, dDrop, gNm, gTp, gCs, gNl, dTst, dTru, gTru, dNot, dAnd, dOr, dAndV, dOrV, dNotV, dSc, scalD, dBin, dUn, gNeg, dChain, dVar, dC, dCall, dCallK, dAK, dCons, dNil, dTup, dLst, dBi, dIf, rdAll, keepAll, RV.pin, RV.rd, RV.keep, rdD, Ret.rv, gI, gIC, gIB, gLt, gLe, gGt, gGe, pick, Ret.lowC, List.lookup, sn0, sb0, sn1, sb1, sn2, sb2, sn3, sb3, ds]) (fun x hx => by
      refine turn_yes (r := .val (tn x).d) (δ1 := ⟨[some (.val (hs P xs)), some (.val (.int x.p)), some (.val (.int x.c)), some (.val (.int x.g)), some (.val (.str x.w))], ce⟩) ?_ ?_ rfl rfl
      · simp [runF, startD, fin, retOf, dRet, dRetN, dSeq, dIfS, dNever, dSkip, dSt, putR, DSt.putV, DSt.putO, DSt.putC, dAsg, dDrop, gNm, gTp, gCs, gNl, dTst, dTru, gTru, dNot, dAnd, dOr, dAndV, dOrV, dNotV, dSc, scalD, dBin, dUn, gNeg, dChain, dVar, dC, dCall, dCallK, dAK, dCons, dNil, dTup, dLst, dBi, dIf, rdAll, keepAll, RV.pin, RV.rd, RV.keep, Ret.rv, gI, gIC, gIB, gLt, gLe, gGt, gGe, pick, Ret.lowC, List.lookup, sn0, sb0, sn1, sb1, sn2, sb2, sn3, sb3, rd_int, rd_str, rd_bl, rd_non, rd_lst, rd_tup, rd_fn, rd_ty, rd_dic, rd_cell, wipeD, hideO, Dd.d]
      · simp [runF, startD, fin, retOf, dRet, dRetN, dSeq, dIfS, dNever, dSkip, dSt, putR, DSt.putV, DSt.putO, DSt.putC, dAsg, dDrop, gNm, gTp, gCs, gNl, dTst, dTru, gTru, dNot, dAnd, dOr, dAndV, dOrV, dNotV, dSc, scalD, dBin, dUn, gNeg, dChain, dVar, dC, dCall, dCallK, dAK, dCons, dNil, dTup, dLst, dBi, dIf, rdAll, keepAll, RV.pin, RV.rd, RV.keep, Ret.rv, gI, gIC, gIB, gLt, gLe, gGt, gGe, pick, Ret.lowC, List.lookup, sn0, sb0, sn1, sb1, sn2, sb2, sn3, sb3, rd_int, rd_str, rd_bl, rd_non, rd_lst, rd_tup, rd_fn, rd_ty, rd_dic, rd_cell, tn, Dd.d]) (by omega)
  rw [filter_yes] at q
  have e : xs.map (fun x => (tn x).d) = ds (xs.map tn) := by simp [ds]
  rw [e] at q
  exact q
theorem turned_ok (n : Nat) (hn : 60 < n) {P : Int} {xs : List Dd} (g : good P xs) (h : ∀ x ∈ xs, x.w = ("any" : Str)) (ce : List D) (low : Low ce) : e_House_turned n [hs P xs] ce = some (.fresh (hs P (xs.map tn)), ce) := by
  have q1 := want_plain_ok n g h ce
  have q3 := turned_lc (P := P) n g.len ce
  have q4 : mk_House_turned_1 n ⟨[some (.val (hs P xs)), none, none, none, none], ce⟩ = some (.fresh (hs P (xs.map tn)), ⟨[some (.val (hs P xs)), none, none, none, none], ce⟩) := by
    refine make_ok n hn (good_tn g h) (r1 := .val (.int P)) (r2 := .fresh (.lst (ds (xs.map tn)))) ?_ rfl rfl (.inl rfl) low
    simp [runF, startD, fin, retOf, dRet, dRetN, dSeq, dIfS, dNever, dSkip, dSt, putR, DSt.putV, DSt.putO, DSt.putC, dAsg, dDrop, gNm, gTp, gCs, gNl, dTst, dTru, gTru, dNot, dAnd, dOr, dAndV, dOrV, dNotV, dSc, scalD, dBin, dUn, gNeg, dChain, dVar, dC, dCall, dCallK, dAK, dCons, dNil, dTup, dLst, dBi, dIf, rdAll, keepAll, RV.pin, RV.rd, RV.keep, Ret.rv, gI, gIC, gIB, gLt, gLe, gGt, gGe, pick, Ret.lowC, List.lookup, sn0, sb0, sn1, sb1, sn2, sb2, sn3, sb3, rd_int, rd_str, rd_bl, rd_non, rd_lst, rd_tup, rd_fn, rd_ty, rd_dic, rd_cell, fld_p0, q3]
  simp [e_House_turned, d_House_turned, runF, startD, fin, retOf, dRet, dRetN, dSeq, dIfS, dNever, dSkip, dSt, putR, DSt.putV, DSt.putO, DSt.putC, dAsg, dDrop, gNm, gTp, gCs, gNl, dTst, dTru, gTru, dNot, dAnd, dOr, dAndV, dOrV, dNotV, dSc, scalD, dBin, dUn, gNeg, dChain, dVar, dC, dCall, dCallK, dAK, dCons, dNil, dTup, dLst, dBi, dIf, rdAll, keepAll, RV.pin, RV.rd, RV.keep, Ret.rv, gI, gIC, gIB, gLt, gLe, gGt, gGe, pick, Ret.lowC, List.lookup, sn0, sb0, sn1, sb1, sn2, sb2, sn3, sb3, rd_int, rd_str, rd_bl, rd_non, rd_lst, rd_tup, rd_fn, rd_ty, rd_dic, rd_cell, q1, q4]
end L
set_option Elab.async false
set_option linter.all false
set_option maxRecDepth 100000
set_option maxHeartbeats 4000000
namespace L
open PySem L2 EV

def pt (a b : Int) : D := .lst [.int a, .int b]
structure potOk (a b : Int) : Prop where
  a0 : 0 ≤ a
  b0 : 0 ≤ b
  b1 : b < 2147483587
/-- 10 ** 18 -/
def K18 : Int := 10 ^ (18 : Int).toNat
theorem pow18 : gPow (.int 10) (.int 18) = some (.val (.int K18)) := by
  have c : cPow 10 18 = true := by decide +kernel
  simp only [gPow, gIC, c, if_true]
  rfl
theorem pot_core (K c k : Int) : potOk (if K < c then c - K else 0) ((c % 2147483549 * 48271 + 5003 * k + 47) % 2147483563 + 1) := by
  refine ⟨?_, ?_, ?_⟩
  · split <;> omega
  · have := Int.emod_nonneg (c % 2147483549 * 48271 + 5003 * k + 47) (by decide : (2147483563 : Int) ≠ 0)
    omega
  · have := Int.emod_lt_of_pos (c % 2147483549 * 48271 + 5003 * k + 47) (by decide : (0 : Int) < 2147483563)
    omega
/-! ### expressions of ints, piece by piece -/
def EvI (f : DE) (δ : DSt) (i : Int) : Prop := ∃ r, f δ = some (r, δ) ∧ r.pin.rd δ = some (.int i)
def EvV (f : DE) (δ : DSt) (i : Int) : Prop := f δ = some (.val (.int i), δ)
theorem EvV.i {f : DE} {δ : DSt} {i : Int} (h : EvV f δ i) : EvI f δ i := ⟨_, h, rfl⟩
theorem ev_c (δ : DSt) (i : Int) : EvI (dC (.int i)) δ i := ⟨_, rfl, rfl⟩
theorem ev_v {δ : DSt} {k : Nat} {i : Int} (h : δ.sl[k]? = some (some (.val (.int i)))) : EvI (dVar k) δ i := ⟨.slot k, by simp [dVar, h], by simp [RV.pin, RV.rd, h, rd_int]⟩
theorem ev_bin {fa fb : DE} {δ : DSt} {i j k : Int} {g : D → D → Option RV} (ha : EvI fa δ i) (hb : EvI fb δ j) (hg : g (.int i) (.int j) = some (.val (.int k))) : EvV (dBin g fa fb) δ k := by
  obtain ⟨r, h1, h2⟩ := ha
  obtain ⟨s, h3, h4⟩ := hb
  simp only [EvV, dBin, h1, Option.bind_some, h3, h2, h4, hg, Option.map_some]
theorem ev_bi1 {fa : DE} {δ : DSt} {i k : Int} {g : List D → Option RV} (ha : EvI fa δ i) (hg : g [.int i] = some (.val (.int k))) : EvV (dBi g (dCons fa dNil)) δ k := by
  obtain ⟨r, h1, h2⟩ := ha
  simp only [EvV, dBi, dCons, dNil, h1, Option.bind_some, Option.map_some, rdAll, h2, hg]
theorem ev_bi2 {fa fb : DE} {δ : DSt} {i j k : Int} {g : List D → Option RV} (ha : EvI fa δ i) (hb : EvI fb δ j) (hg : g [.int i, .int j] = some (.val (.int k))) : EvV (dBi g (dCons fa (dCons fb dNil))) δ k := by
  obtain ⟨r, h1, h2⟩ := ha
  obtain ⟨s, h3, h4⟩ := hb
  simp only [EvV, dBi, dCons, dNil, h1, Option.bind_some, Option.map_some, rdAll, h2, h3, h4, hg]
theorem gMul_ok {i j : Int} (h : cMul i j = true) : gMul (.int i) (.int j) = some (.val (.int (i * j))) := by simp [gMul, gIC, h]
theorem gMod_ok {i j : Int} (h : 0 < j) : gIC cMod (· % ·) (.int i) (.int j) = some (.val (.int (i % j))) := by simp [gIC, cMod, h]
theorem gInt1_int (i : Int) : gInt1 [.int i] = some (.val (.int i)) := rfl
theorem gSub_int (i j : Int) : gI (· - ·) (.int i) (.int j) = some (.val (.int (i - j))) := rfl
def potA : DE := dBi gMax2 (dCons (dC (.int 0)) (dCons (dBin (gI (· - ·)) (dVar 2) (dBin gPow (dC (.int 10)) (dC (.int 18)))) dNil))
def potB : DE := dBin gAdd (dBin (gIC cMod (· % ·)) (dBi gInt1 (dCons (dBin gAdd (dBin gAdd (dBin gMul (dBin (gIC cMod (· % ·)) (dBi gInt1 (dCons (dVar 2) dNil)) (dC (.int 2147483549))) (dC (.int 48271))) (dBin gMul (dC (.int 5003)) (dVar 1))) (dC (.int 47))) dNil)) (dC (.int 2147483563))) (dC (.int 1))
theorem potB_ok {δ : DSt} {c k : Int} (h1 : δ.sl[1]? = some (some (.val (.int k)))) (h2 : δ.sl[2]? = some (some (.val (.int c)))) : EvV potB δ ((c % 2147483549 * 48271 + 5003 * k + 47) % 2147483563 + 1) := by
  have b1 := ev_bi1 (ev_v h2) (gInt1_int c)
  have b2 := ev_bin b1.i (ev_c δ 2147483549) (gMod_ok (by omega))
  have b3 := ev_bin b2.i (ev_c δ 48271) (gMul_ok (by simp [cMul]))
  have b4 := ev_bin (ev_c δ 5003) (ev_v h1) (gMul_ok (by simp [cMul]))
  have b5 := ev_bin b3.i b4.i (gAdd_int _ _)
  have b6 := ev_bin b5.i (ev_c δ 47) (gAdd_int _ _)
  have b7 := ev_bi1 b6.i (gInt1_int _)
  have b8 := ev_bin b7.i (ev_c δ 2147483563) (gMod_ok (by omega))
  exact ev_bin b8.i (ev_c δ 1) (gAdd_int _ _)
theorem potA_ok {δ : DSt} {c K : Int} (hK : gPow (.int 10) (.int 18) = some (.val (.int K))) (h2 : δ.sl[2]? = some (some (.val (.int c)))) : EvV potA δ (if K < c then c - K else 0) := by
  have a1 := ev_bin (ev_c δ 10) (ev_c δ 18) hK
  have a2 := ev_bin (ev_v h2) a1.i (gSub_int c K)
  have hm : gMax2 [.int 0, .int (c - K)] = some (.val (.int (if K < c then c - K else 0))) := by
    have e : (c - K > 0) = (K < c) := propext ⟨fun h => by omega, fun h => by omega⟩
    simp only [gMax2, e]
  exact ev_bi2 (ev_c δ 0) a2.i hm
theorem pair_ok (fa fb : DE) (δ : DSt) (a b : Int) (ha : fa δ = some (.val (.int a), δ)) (hb : fb δ = some (.val (.int b), δ)) : dRet (dLst (dCons fa (dCons fb dNil))) δ = some (.rt (.fresh (pt a b)), δ) := by
  simp [dRet, dLst, dCons, dNil, ha, hb, keepAll, RV.pin, RV.keep, pt]
theorem pot_core2 (ns : List Int) (k : Nat) (c : Int) : ∃ a b, potOk a b ∧ dRet (dLst (dCons potA (dCons potB dNil))) ⟨[some (.val (.klst (ns.map .int))), some (.val (.int k)), some (.val (.int c))], []⟩ = some (.rt (.fresh (pt a b)), ⟨[some (.val (.klst (ns.map .int))), some (.val (.int k)), some (.val (.int c))], []⟩) := by
  obtain ⟨K, hK⟩ : ∃ K, gPow (.int 10) (.int 18) = some (.val (.int K)) := ⟨K18, pow18⟩
  exact ⟨_, _, pot_core K c k, pair_ok potA potB _ _ _ (potA_ok hK rfl) (potB_ok rfl rfl)⟩
/-- the ends of a body of three statements -/
theorem three_ok {f1 f2 f3 : DS} {δ0 δ1 δ2 : DSt} {d : D} (h1 : f1 δ0 = some (.nx, δ1)) (h2 : f2 δ1 = some (.nx, δ2)) (h3 : f3 δ2 = some (.rt (.fresh d), δ2)) : dSeq f1 (dSeq f2 f3) δ0 = some (.rt (.fresh d), δ2) := by
  simp only [dSeq, h1, h2, h3, Option.bind_some]
theorem run_fresh {N : Nat} {f : DS} {ds0 ce : List D} {d : D} {δ : DSt} (h : f (startD N ds0 ce) = some (.rt (.fresh d), δ)) (hc : δ.ce = ce) : runF N f ds0 ce = some (.fresh d, ce) := by
  simp only [runF, h, Option.bind_some, retOf, fin, hc, if_true]
theorem law_pot_ok (n : Nat) (ns : List Int) (k : Nat) : ∃ a b, e_law_pot n [.klst (ns.map .int), .int (k : Int)] [] = some (.fresh (pt a b), []) ∧ potOk a b := by
  have m1 : ∀ i : Int, cMul 89 i = true := fun i => by simp [cMul]
  have s1 : dSt .keep 2 (dBin gAdd (dBin gMul (dC (.int 89)) (dVar 1)) (dC (.int 23))) (startD 3 [.klst (ns.map .int), .int (k : Int)] []) = some (.nx, ⟨[some (.val (.klst (ns.map .int))), some (.val (.int k)), some (.val (.int (89 * (k : Int) + 23)))], []⟩) := by
    simp [runF, startD, fin, retOf, dRet, dRetN, dSeq, dIfS, dNever, dSkip, dSt, putR, DSt.putV, DSt.putO, DSt.putC, dAsg, dDrop, gNm, gTp, gCs, gNl, dTst, dTru, gTru, dNot, dAnd, dOr, dAndV, dOrV, dNotV, dSc, scalD, dBin, dUn, gNeg, dChain, dVar, dC, dCall, dCallK, dAK, dCons, dNil, dTup, dLst, dBi, dIf, rdAll, keepAll, RV.pin, RV.rd, RV.keep, Ret.rv, gI, gIC, gIB, gLt, gLe, gGt, gGe, pick, Ret.lowC, List.lookup, sn0, sb0, sn1, sb1, sn2, sb2, sn3, sb3, rd_int, rd_str, rd_bl, rd_non, rd_lst, rd_tup, rd_fn, rd_ty, rd_dic, rd_cell, gMul, m1, gAdd_int]
  by_cases h : k < ns.length
  · obtain ⟨a, b, ok, hA⟩ := pot_core2 ns k (if ns[k] < 0 then -ns[k] else ns[k])
    have ix : gIx (.klst (ns.map D.int)) (.int (k : Int)) = some (.val (.int ns[k])) := by
      have e : ixN ns.length (k : Int) = some k := by simp [ixN]; omega
      simp [gIx, atI, e, h]
    refine ⟨a, b, run_fresh (three_ok s1 ?_ hA) rfl, ok⟩
    simp [runF, startD, fin, retOf, dRet, dRetN, dSeq, dIfS, dNever, dSkip, dSt, putR, DSt.putV, DSt.putO, DSt.putC, dAsg, dDrop, gNm, gTp, gCs, gNl, dTst, dTru, gTru, dNot, dAnd, dOr, dAndV, dOrV, dNotV, dSc, scalD, dBin, dUn, gNeg, dChain, dVar, dC, dCall, dCallK, dAK, dCons, dNil, dTup, dLst, dBi, dIf, rdAll, keepAll, RV.pin, RV.rd, RV.keep, Ret.rv, gI, gIC, gIB, gLt, gLe, gGt, gGe, pick, Ret.lowC, List.lookup, sn0, sb0, sn1, sb1, sn2, sb2, sn3, sb3, rd_int, rd_str, rd_bl, rd_non, rd_lst, rd_tup, rd_fn, rd_ty, rd_dic, rd_cell, gLen, h, ix, gAbs, rd_klst]
  · obtain ⟨a, b, ok, hA⟩ := pot_core2 ns k (89 * (k : Int) + 23)
    refine ⟨a, b, run_fresh (three_ok s1 ?_ hA) rfl, ok⟩
    simp [runF, startD, fin, retOf, dRet, dRetN, dSeq, dIfS, dNever, dSkip, dSt, putR, DSt.putV, DSt.putO, DSt.putC, dAsg, dDrop, gNm, gTp, gCs, gNl, dTst, dTru, gTru, dNot, dAnd, dOr, dAndV, dOrV, dNotV, dSc, scalD, dBin, dUn, gNeg, dChain, dVar, dC, dCall, dCallK, dAK, dCons, dNil, dTup, dLst, dBi, dIf, rdAll, keepAll, RV.pin, RV.rd, RV.keep, Ret.rv, gI, gIC, gIB, gLt, gLe, gGt, gGe, pick, Ret.lowC, List.lookup, sn0, sb0, sn1, sb1, sn2, sb2, sn3, sb3, rd_int, rd_str, rd_bl, rd_non, rd_lst, rd_tup, rd_fn, rd_ty, rd_dic, rd_cell, gLen, h, rd_klst]
theorem draw_ok (n : Nat) (m a b : Int) (rest : List D) (h0 : 0 < m) (h1 : m < 1073741824) (h : potOk a b) : ∃ r a' b', e_law_draw n [.cell 0, .int m] (pt a b :: rest) = some (.val (.int r), pt a' b' :: rest) ∧ 0 ≤ r ∧ r < m ∧ potOk a' b' := by
  obtain ⟨a0, b0, b1⟩ := h
  have m1 : ∀ i : Int, cMul i 39373 = true := fun i => by simp [cMul]
  by_cases c : 0 < a
  · refine ⟨a % m, a / m, b, ?_, Int.emod_nonneg _ (by omega), Int.emod_lt_of_pos _ h0, Int.ediv_nonneg a0 (by omega), b0, b1⟩
    simp [e_law_draw, d_law_draw, runF, startD, fin, retOf, dRet, dRetN, dSeq, dIfS, dNever, dSkip, dSt, putR, DSt.putV, DSt.putO, DSt.putC, dAsg, dDrop, gNm, gTp, gCs, gNl, dTst, dTru, gTru, dNot, dAnd, dOr, dAndV, dOrV, dNotV, dSc, scalD, dBin, dUn, gNeg, dChain, dVar, dC, dCall, dCallK, dAK, dCons, dNil, dTup, dLst, dBi, dIf, rdAll, keepAll, RV.pin, RV.rd, RV.keep, Ret.rv, gI, gIC, gIB, gLt, gLe, gGt, gGe, pick, Ret.lowC, List.lookup, sn0, sb0, sn1, sb1, sn2, sb2, sn3, sb3, rd_int, rd_str, rd_bl, rd_non, rd_lst, rd_tup, rd_fn, rd_ty, rd_dic, rd_cell, pt, gIx, atI, ixN, c, gDivmod, h0, h1, gSb, lstAt, EV.putAt]
  · have l0 := Int.emod_nonneg (b * 39373 + 47) (by decide : (2147483587 : Int) ≠ 0)
    have l1 := Int.emod_lt_of_pos (b * 39373 + 47) (by decide : (0 : Int) < 2147483587)
    generalize hq : (b * 39373 + 47) % 2147483587 = q at l0 l1
    have m2 : cMul q q = true := by simp [cMul]; omega
    refine ⟨(q * q % 2147483563 / 17) % m, a, q, ?_, Int.emod_nonneg _ (by omega), Int.emod_lt_of_pos _ h0, a0, l0, l1⟩
    simp [e_law_draw, d_law_draw, runF, startD, fin, retOf, dRet, dRetN, dSeq, dIfS, dNever, dSkip, dSt, putR, DSt.putV, DSt.putO, DSt.putC, dAsg, dDrop, gNm, gTp, gCs, gNl, dTst, dTru, gTru, dNot, dAnd, dOr, dAndV, dOrV, dNotV, dSc, scalD, dBin, dUn, gNeg, dChain, dVar, dC, dCall, dCallK, dAK, dCons, dNil, dTup, dLst, dBi, dIf, rdAll, keepAll, RV.pin, RV.rd, RV.keep, Ret.rv, gI, gIC, gIB, gLt, gLe, gGt, gGe, pick, Ret.lowC, List.lookup, sn0, sb0, sn1, sb1, sn2, sb2, sn3, sb3, rd_int, rd_str, rd_bl, rd_non, rd_lst, rd_tup, rd_fn, rd_ty, rd_dic, rd_cell, pt, gIx, atI, ixN, c, h0, h1, gSb, lstAt, EV.putAt, gMul, m1, m2, gAdd_int, gInt1, cMod, cDiv, hq]
end L
set_option Elab.async false
set_option linter.all false
set_option maxRecDepth 100000
set_option maxHeartbeats 4000000
namespace L
open PySem L2 EV

/-! ### _law_deeds -/
def ldB (n : Nat) : DS := dSeq (dPar .keep .keep 6 7 (dCall 2 (fun ds => e_law_draw n (ds ++ [])) (dCons (dVar 0) (dCons (dVar 1) dNil))) (dCall 2 (fun ds => e_law_draw n (ds ++ [])) (dCons (dVar 0) (dCons (dVar 1) dNil))))
    (dSeq (dSt .keep 8 (dTup (dCons (dVar 6) (dCons (dBin (gI (· - ·)) (dCall 2 (fun ds => e_law_draw n (ds ++ [])) (dCons (dVar 0) (dCons (dC (.int 3)) dNil))) (dC (.int 1))) (dCons (dVar 7) (dCons (dC (.str "any")) dNil))))))
    (dSeq (dIfS (dAnd (dTru (dVar 3)) (dTst (dBin gEq (dCall 2 (fun ds => e_law_draw n (ds ++ [])) (dCons (dVar 0) (dCons (dC (.int 4)) dNil))) (dC (.int 0))))) (dSt .keep 8 (dTup (dCons (dVar 6) (dCons (dCall 2 (fun ds => e_law_draw n (ds ++ [])) (dCons (dVar 0) (dCons (dC (.int 2)) dNil))) (dCons (dVar 7) (dCons (dC (.str "empty")) dNil)))))) dSkip)
    (dIfS (dTst (dBin (gIn true) (dVar 8) (dVar 4))) (dDrop (dMut true uAppend 4 (dCons (dVar 8) dNil))) dSkip)))
theorem ld_eq (n : Nat) : lp_law_deeds_0 n = dFor (iRg1 (dCons (dVar 2) dNil)) (gNm 5) (ldB n) := rfl
structure pool (P : Int) (xs : List Dd) : Prop where
  ok : ∀ x ∈ xs, okD P x
  nd : xs.Nodup
theorem pool_add {P : Int} {xs : List Dd} {x : Dd} (g : pool P xs) (h : x ∉ xs) (ok : okD P x) : pool P (xs ++ [x]) where
  ok := fun y hy => by
    rcases List.mem_append.mp hy with hy | hy
    · exact g.ok y hy
    · rw [List.mem_singleton.mp hy]; exact ok
  nd := by
    rw [List.nodup_append]
    exact ⟨g.nd, by simp, fun a ha b hb => by
      rw [List.mem_singleton.mp hb]
      exact fun z => h (z ▸ ha)⟩
theorem ds_snoc (xs : List Dd) (x : Dd) : ds xs ++ [x.d] = ds (xs ++ [x]) := by simp [ds]
theorem ld_turn (n : Nat) (P m : Int) (hP0 : 1 ≤ P) (hP1 : P ≤ 16) (s5 s6 s7 s8 : Option SD) (d : D) (xs : List Dd) (g : pool P xs) (hl : xs.length < 60) (a b : Int) (po : potOk a b) (rest : List D) :
    ∃ ys a' b' t6 t7 t8, (gNm 5 d ⟨[some (.val (.cell 0)), some (.val (.int P)), some (.val (.int m)), some (.val (.bl true)), some (.own (.lst (ds xs))), s5, s6, s7, s8], pt a b :: rest⟩).bind (ldB n) =
      some (.nx, ⟨[some (.val (.cell 0)), some (.val (.int P)), some (.val (.int m)), some (.val (.bl true)), some (.own (.lst (ds ys))), some (.val d), t6, t7, t8], pt a' b' :: rest⟩) ∧ pool P ys ∧ ys.length ≤ xs.length + 1 ∧ potOk a' b' := by
  obtain ⟨r1, a1, b1, e1, r10, r11, po1⟩ := draw_ok n P a b rest (by omega) (by omega) po
  obtain ⟨r2, a2, b2, e2, r20, r21, po2⟩ := draw_ok n P a1 b1 rest (by omega) (by omega) po1
  obtain ⟨r3, a3, b3, e3, r30, r31, po3⟩ := draw_ok n 3 a2 b2 rest (by omega) (by omega) po2
  obtain ⟨r4, a4, b4, e4, r40, r41, po4⟩ := draw_ok n 4 a3 b3 rest (by omega) (by omega) po3
  obtain ⟨r5, a5, b5, e5, r50, r51, po5⟩ := draw_ok n 2 a4 b4 rest (by omega) (by omega) po4
  have hl' : (ds xs).length < 16777216 := by rw [ds_len]; omega
  by_cases z : r4 = 0
  · have ok : okD P ⟨r1, r5, r2, "empty"⟩ := ⟨r10, r11, r20, r21, .inr ⟨rfl, r50, by show r5 ≤ 1; omega⟩⟩
    have q := gIn_deeds true xs ⟨r1, r5, r2, "empty"⟩
    have sn := ds_snoc xs ⟨r1, r5, r2, "empty"⟩
    by_cases hm : (⟨r1, r5, r2, "empty"⟩ : Dd) ∈ xs
    · refine ⟨xs, a5, b5, some (.val (.int r1)), some (.val (.int r2)), some (.val (Dd.d ⟨r1, r5, r2, "empty"⟩)), ?_, g, by omega, po5⟩
      simp only [Dd.d] at q ⊢
      simp [ldB, runF, startD, fin, retOf, dRet, dRetN, dSeq, dIfS, dNever, dSkip, dSt, putR, DSt.putV, DSt.putO, DSt.putC, dAsg, dDrop, gNm, gTp, gCs, gNl, dTst, dTru, gTru, dNot, dAnd, dOr, dAndV, dOrV, dNotV, dSc, scalD, dBin, dUn, gNeg, dChain, dVar, dC, dCall, dCallK, dAK, dCons, dNil, dTup, dLst, dBi, dIf, rdAll, keepAll, RV.pin, RV.rd, RV.keep, Ret.rv, gI, gIC, gIB, gLt, gLe, gGt, gGe, pick, Ret.lowC, List.lookup, sn0, sb0, sn1, sb1, sn2, sb2, sn3, sb3, rd_int, rd_str, rd_bl, rd_non, rd_lst, rd_tup, rd_fn, rd_ty, rd_dic, rd_cell, dPar, e1, e2, e3, e4, e5, z, gEq_int, q, hm]
    · refine ⟨xs ++ [⟨r1, r5, r2, "empty"⟩], a5, b5, some (.val (.int r1)), some (.val (.int r2)), some (.val (Dd.d ⟨r1, r5, r2, "empty"⟩)), ?_, pool_add g hm ok, by simp, po5⟩
      simp only [Dd.d] at q sn ⊢
      simp [ldB, runF, startD, fin, retOf, dRet, dRetN, dSeq, dIfS, dNever, dSkip, dSt, putR, DSt.putV, DSt.putO, DSt.putC, dAsg, dDrop, gNm, gTp, gCs, gNl, dTst, dTru, gTru, dNot, dAnd, dOr, dAndV, dOrV, dNotV, dSc, scalD, dBin, dUn, gNeg, dChain, dVar, dC, dCall, dCallK, dAK, dCons, dNil, dTup, dLst, dBi, dIf, rdAll, keepAll, RV.pin, RV.rd, RV.keep, Ret.rv, gI, gIC, gIB, gLt, gLe, gGt, gGe, pick, Ret.lowC, List.lookup, sn0, sb0, sn1, sb1, sn2, sb2, sn3, sb3, rd_int, rd_str, rd_bl, rd_non, rd_lst, rd_tup, rd_fn, rd_ty, rd_dic, rd_cell, dPar, e1, e2, e3, e4, e5, z, gEq_int, q, hm, dMut, lstAt, argsOf, uAppend, hl', EV.putAt, sn]
  · have ok : okD P ⟨r1, r3 - 1, r2, "any"⟩ := ⟨r10, r11, r20, r21, .inl ⟨rfl, by show -1 ≤ r3 - 1; omega, by show r3 - 1 ≤ 1; omega⟩⟩
    have q := gIn_deeds true xs ⟨r1, r3 - 1, r2, "any"⟩
    have sn := ds_snoc xs ⟨r1, r3 - 1, r2, "any"⟩
    by_cases hm : (⟨r1, r3 - 1, r2, "any"⟩ : Dd) ∈ xs
    · refine ⟨xs, a4, b4, some (.val (.int r1)), some (.val (.int r2)), some (.val (Dd.d ⟨r1, r3 - 1, r2, "any"⟩)), ?_, g, by omega, po4⟩
      simp only [Dd.d] at q ⊢
      simp [ldB, runF, startD, fin, retOf, dRet, dRetN, dSeq, dIfS, dNever, dSkip, dSt, putR, DSt.putV, DSt.putO, DSt.putC, dAsg, dDrop, gNm, gTp, gCs, gNl, dTst, dTru, gTru, dNot, dAnd, dOr, dAndV, dOrV, dNotV, dSc, scalD, dBin, dUn, gNeg, dChain, dVar, dC, dCall, dCallK, dAK, dCons, dNil, dTup, dLst, dBi, dIf, rdAll, keepAll, RV.pin, RV.rd, RV.keep, Ret.rv, gI, gIC, gIB, gLt, gLe, gGt, gGe, pick, Ret.lowC, List.lookup, sn0, sb0, sn1, sb1, sn2, sb2, sn3, sb3, rd_int, rd_str, rd_bl, rd_non, rd_lst, rd_tup, rd_fn, rd_ty, rd_dic, rd_cell, dPar, e1, e2, e3, e4, z, gEq_int, q, hm]
    · refine ⟨xs ++ [⟨r1, r3 - 1, r2, "any"⟩], a4, b4, some (.val (.int r1)), some (.val (.int r2)), some (.val (Dd.d ⟨r1, r3 - 1, r2, "any"⟩)), ?_, pool_add g hm ok, by simp, po4⟩
      simp only [Dd.d] at q sn ⊢
      simp [ldB, runF, startD, fin, retOf, dRet, dRetN, dSeq, dIfS, dNever, dSkip, dSt, putR, DSt.putV, DSt.putO, DSt.putC, dAsg, dDrop, gNm, gTp, gCs, gNl, dTst, dTru, gTru, dNot, dAnd, dOr, dAndV, dOrV, dNotV, dSc, scalD, dBin, dUn, gNeg, dChain, dVar, dC, dCall, dCallK, dAK, dCons, dNil, dTup, dLst, dBi, dIf, rdAll, keepAll, RV.pin, RV.rd, RV.keep, Ret.rv, gI, gIC, gIB, gLt, gLe, gGt, gGe, pick, Ret.lowC, List.lookup, sn0, sb0, sn1, sb1, sn2, sb2, sn3, sb3, rd_int, rd_str, rd_bl, rd_non, rd_lst, rd_tup, rd_fn, rd_ty, rd_dic, rd_cell, dPar, e1, e2, e3, e4, z, gEq_int, q, hm, dMut, lstAt, argsOf, uAppend, hl', EV.putAt, sn]
theorem ld_loop (n : Nat) (P m : Int) (hP0 : 1 ≤ P) (hP1 : P ≤ 16) (rest : List D) : ∀ (items : List D) (s5 s6 s7 s8 : Option SD) (xs : List Dd) (a b : Int), pool P xs → xs.length + items.length ≤ 60 → potOk a b →
    ∃ ys a' b' t5 t6 t7 t8, forL (gNm 5) (ldB n) items ⟨[some (.val (.cell 0)), some (.val (.int P)), some (.val (.int m)), some (.val (.bl true)), some (.own (.lst (ds xs))), s5, s6, s7, s8], pt a b :: rest⟩ =
      some (.nx, ⟨[some (.val (.cell 0)), some (.val (.int P)), some (.val (.int m)), some (.val (.bl true)), some (.own (.lst (ds ys))), t5, t6, t7, t8], pt a' b' :: rest⟩) ∧ pool P ys ∧ ys.length ≤ xs.length + items.length ∧ potOk a' b'
  | [], s5, s6, s7, s8, xs, a, b, g, hl, po => ⟨xs, a, b, s5, s6, s7, s8, rfl, g, by simp, po⟩
  | d :: items, s5, s6, s7, s8, xs, a, b, g, hl, po => by
    have hl : xs.length + (items.length + 1) ≤ 60 := by simpa using hl
    obtain ⟨ys, a1, b1, t6, t7, t8, e, g1, l1, po1⟩ := ld_turn n P m hP0 hP1 s5 s6 s7 s8 d xs g (by omega) a b po rest
    obtain ⟨zs, a2, b2, u5, u6, u7, u8, e2, g2, l2, po2⟩ := ld_loop n P m hP0 hP1 rest items (some (.val d)) t6 t7 t8 ys a1 b1 g1 (by omega) po1
    refine ⟨zs, a2, b2, u5, u6, u7, u8, ?_, g2, by rw [List.length_cons]; omega, po2⟩
    unfold forL
    obtain ⟨δ1, h1, h2⟩ := bnd e
    rw [h1, Option.bind_some, h2]
    exact e2
theorem deeds_drawn (n : Nat) (P m : Int) (hP0 : 1 ≤ P) (hP1 : P ≤ 16) (hm0 : 0 ≤ m) (hm1 : m ≤ 60) (a b : Int) (po : potOk a b) (rest : List D) :
    ∃ xs a' b', e_law_deeds n [.cell 0, .int P, .int m, .bl true] (pt a b :: rest) = some (.fresh (.lst (ds xs)), pt a' b' :: rest) ∧ pool P xs ∧ (xs.length : Int) ≤ m ∧ potOk a' b' := by
  obtain ⟨ys, a', b', t5, t6, t7, t8, e, g, l, po'⟩ := ld_loop n P m hP0 hP1 rest (rngD 0 m.toNat) none none none none [] a b ⟨fun x h => by simp at h, List.nodup_nil⟩ (by simp [rngD]; omega) po
  have e : forL (gNm 5) (ldB n) (rngD 0 m.toNat) ⟨[some (.val (.cell 0)), some (.val (.int P)), some (.val (.int m)), some (.val (.bl true)), some (.own (.lst [])), none, none, none, none], pt a b :: rest⟩ = _ := e
  have l' : (ys.length : Int) ≤ m := by simp [rngD] at l; omega
  refine ⟨ys, a', b', ?_, g, l', po'⟩
  have c1 : -4611686018427387904 ≤ m ∧ m < 4611686018427387904 := by omega
  simp [e_law_deeds, d_law_deeds, ld_eq, runF, startD, fin, retOf, dRet, dRetN, dSeq, dIfS, dNever, dSkip, dSt, putR, DSt.putV, DSt.putO, DSt.putC, dAsg, dDrop, gNm, gTp, gCs, gNl, dTst, dTru, gTru, dNot, dAnd, dOr, dAndV, dOrV, dNotV, dSc, scalD, dBin, dUn, gNeg, dChain, dVar, dC, dCall, dCallK, dAK, dCons, dNil, dTup, dLst, dBi, dIf, rdAll, keepAll, RV.pin, RV.rd, RV.keep, Ret.rv, gI, gIC, gIB, gLt, gLe, gGt, gGe, pick, Ret.lowC, List.lookup, sn0, sb0, sn1, sb1, sn2, sb2, sn3, sb3, rd_int, rd_str, rd_bl, rd_non, rd_lst, rd_tup, rd_fn, rd_ty, rd_dic, rd_cell, dFor, iRg1, c1, e]
end L
set_option Elab.async false
set_option linter.all false
set_option maxRecDepth 100000
set_option maxHeartbeats 4000000
namespace L
open PySem L2 EV

/-! ### _law_mixed -/
def lmB (n : Nat) : DS := dDrop (dMut true uAppend 3 (dCons (dMut false uPopAt 2 (dCons (dCall 2 (fun ds => e_law_draw n (ds ++ [])) (dCons (dVar 0) (dCons (dBi gLen (dCons (dVar 2) dNil)) dNil))) dNil)) dNil))
theorem lm_eq (n : Nat) : lp_law_mixed_0 n = dFor (iRg1 (dCons (dBi gLen (dCons (dVar 2) dNil)) dNil)) (gNm 4) (lmB n) := rfl
theorem perm_pick : ∀ (l : List Int) (k : Nat) (x : Int), l[k]? = some x → l.Perm (x :: l.eraseIdx k)
  | [], k, x, h => by simp at h
  | y :: l, 0, x, h => by
    have : y = x := by simpa using h
    subst this
    exact List.Perm.refl _
  | y :: l, k + 1, x, h => by
    have ih := perm_pick l k x (by simpa using h)
    exact (List.Perm.cons y ih).trans (List.Perm.swap x y _)
theorem map_erase : ∀ (l : List Int) (k : Nat), (l.map D.int).eraseIdx k = (l.eraseIdx k).map D.int
  | [], k => rfl
  | y :: l, 0 => rfl
  | y :: l, k + 1 => by
    show D.int y :: (l.map D.int).eraseIdx k = D.int y :: (l.eraseIdx k).map D.int
    rw [map_erase l k]
theorem popAt_map (l : List Int) (i : Int) (k : Nat) (x : Int) (hi : i = k) (hk : l[k]? = some x) (hb : -9223372036854775808 ≤ i ∧ i < 9223372036854775808) : uPopAt (l.map D.int) [.int i] = some (.int x, (l.eraseIdx k).map D.int) := by
  have kl : k < l.length := (List.getElem?_eq_some_iff.mp hk).1
  have sq : seqIndex? i (l.map D.int).length = some k := by
    rw [hi, List.length_map]
    exact seqIndex_of (by omega) (by omega)
  have e : (l.map D.int)[k]? = some (.int x) := by rw [List.getElem?_map, hk]; rfl
  unfold uPopAt
  dsimp only
  rw [if_pos hb, sq, Option.bind_some, e, Option.map_some, map_erase]
theorem gLen_map (l : List Int) (j : Int) (h : (l.length : Int) = j) : gLen [.lst (l.map D.int)] = some (.val (.int j)) := by
  unfold gLen
  dsimp only
  rw [List.length_map, h]
theorem append_map (l : List Int) (x : Int) (h : l.length ≤ 60) : uAppend (l.map D.int) [.int x] = some (.non, (l ++ [x]).map D.int) := by
  have hf : (l.map D.int).length < 16777216 := by rw [List.length_map]; omega
  simp [uAppend]
  omega
theorem lm_turn (n : Nat) (s1 s4 : Option SD) (d : D) (l f : List Int) (hl : l ≠ []) (hz : l.length + f.length ≤ 60) (a b : Int) (po : potOk a b) (rest : List D) :
    ∃ (x : Int) (l' : List Int) (a' b' : Int), (gNm 4 d ⟨[some (.val (.cell 0)), s1, some (.own (.lst (l.map .int))), some (.own (.lst (f.map .int))), s4], pt a b :: rest⟩).bind (lmB n) =
      some (.nx, ⟨[some (.val (.cell 0)), s1, some (.own (.lst (l'.map .int))), some (.own (.lst ((f ++ [x]).map .int))), some (.val d)], pt a' b' :: rest⟩) ∧ l.Perm (x :: l') ∧ potOk a' b' := by
  have lp : 0 < l.length := List.length_pos_iff.mpr hl
  obtain ⟨j, hj⟩ : ∃ j : Int, (l.length : Int) = j := ⟨_, rfl⟩
  obtain ⟨r, a1, b1, e1, r0, r1, po1⟩ := draw_ok n j a b rest (by omega) (by omega) po
  obtain ⟨k, hk⟩ : ∃ k : Nat, r = (k : Int) := ⟨r.toNat, by omega⟩
  obtain ⟨x, hx⟩ : ∃ x, l[k]? = some x := ⟨_, List.getElem?_eq_getElem (by omega : k < l.length)⟩
  refine ⟨x, l.eraseIdx k, a1, b1, ?_, perm_pick l k x hx, po1⟩
  have up := popAt_map l r k x hk hx (by omega)
  have gl := gLen_map l j hj
  have ap := append_map f x (by omega)
  simp only [lmB, runF, startD, fin, retOf, dRet, dRetN, dSeq, dIfS, dNever, dSkip, dSt, putR, DSt.putV, DSt.putO, DSt.putC, dAsg, dDrop, gNm, gTp, gCs, gNl, dTst, dTru, gTru, dNot, dAnd, dOr, dAndV, dOrV, dNotV, dSc, scalD, dBin, dUn, gNeg, dChain, dVar, dC, dCall, dCallK, dAK, dCons, dNil, dTup, dLst, dBi, dIf, rdAll, keepAll, RV.pin, RV.rd, RV.keep, Ret.rv, gI, gIC, gIB, gLt, gLe, gGt, gGe, pick, Ret.lowC, List.lookup, sn0, sb0, sn1, sb1, sn2, sb2, sn3, sb3, rd_int, rd_str, rd_bl, rd_non, rd_lst, rd_tup, rd_fn, rd_ty, rd_dic, rd_cell, dMut, lstAt, argsOf]
  simp [runF, startD, fin, retOf, dRet, dRetN, dSeq, dIfS, dNever, dSkip, dSt, putR, DSt.putV, DSt.putO, DSt.putC, dAsg, dDrop, gNm, gTp, gCs, gNl, dTst, dTru, gTru, dNot, dAnd, dOr, dAndV, dOrV, dNotV, dSc, scalD, dBin, dUn, gNeg, dChain, dVar, dC, dCall, dCallK, dAK, dCons, dNil, dTup, dLst, dBi, dIf, rdAll, keepAll, RV.pin, RV.rd, RV.keep, Ret.rv, gI, gIC, gIB, gLt, gLe, gGt, gGe, pick, Ret.lowC, List.lookup, sn0, sb0, sn1, sb1, sn2, sb2, sn3, sb3, rd_int, rd_str, rd_bl, rd_non, rd_lst, rd_tup, rd_fn, rd_ty, rd_dic, rd_cell, dMut, lstAt, argsOf, gl, e1, up, ap, EV.putAt]
theorem lm_loop (n : Nat) (s1 : Option SD) (rest : List D) : ∀ (items : List D) (s4 : Option SD) (l f : List Int) (a b : Int), items.length = l.length → l.length + f.length ≤ 60 → potOk a b →
    ∃ (g : List Int) (a' b' : Int) (t4 : Option SD), forL (gNm 4) (lmB n) items ⟨[some (.val (.cell 0)), s1, some (.own (.lst (l.map .int))), some (.own (.lst (f.map .int))), s4], pt a b :: rest⟩ =
      some (.nx, ⟨[some (.val (.cell 0)), s1, some (.own (.lst [])), some (.own (.lst (g.map .int))), t4], pt a' b' :: rest⟩) ∧ g.Perm (f ++ l) ∧ potOk a' b'
  | [], s4, l, f, a, b, hl, hz, po => by
    have : l = [] := List.eq_nil_of_length_eq_zero hl.symm
    subst this
    exact ⟨f, a, b, s4, rfl, by simp, po⟩
  | d :: items, s4, l, f, a, b, hl, hz, po => by
    have hl : items.length + 1 = l.length := by simpa using hl
    obtain ⟨x, l', a1, b1, e, p, po1⟩ := lm_turn n s1 s4 d l f (by intro z; subst z; simp at hl) hz a b po rest
    have pl : l.length = l'.length + 1 := by simpa using p.length_eq
    obtain ⟨g, a2, b2, t4, e2, p2, po2⟩ := lm_loop n s1 rest items (some (.val d)) l' (f ++ [x]) a1 b1 (by omega) (by simp; omega) po1
    refine ⟨g, a2, b2, t4, ?_, ?_, po2⟩
    · unfold forL
      obtain ⟨δ1, h1, h2⟩ := bnd e
      rw [h1, Option.bind_some, h2]
      exact e2
    · refine p2.trans ?_
      rw [List.append_assoc]
      exact List.Perm.append_left f p.symm
theorem rg1_of (f : DA) (δ δ' : DSt) (ds : List RV) (j : Int) (h1 : f δ = some (ds, δ')) (h2 : rdAll δ' ds = some [.int j]) (hb : -4611686018427387904 ≤ j ∧ j < 4611686018427387904) : iRg1 f δ = some (rngD 0 j.toNat, δ') := by
  unfold iRg1
  rw [h1, Option.bind_some, h2, Option.bind_some]
  dsimp only
  rw [if_pos hb]
theorem mx_h1 (o : List Int) (a b : Int) (rest : List D) : dPar .own .own 2 3 (dBi gList (dCons (dVar 1) dNil)) (dLst dNil) ⟨[some (.val (.cell 0)), some (.val (.lst (o.map .int))), none, none, none], pt a b :: rest⟩ = some (.nx, ⟨[some (.val (.cell 0)), some (.val (.lst (o.map .int))), some (.own (.lst (o.map .int))), some (.own (.lst [])), none], pt a b :: rest⟩) := by
    simp [dPar, runF, startD, fin, retOf, dRet, dRetN, dSeq, dIfS, dNever, dSkip, dSt, putR, DSt.putV, DSt.putO, DSt.putC, dAsg, dDrop, gNm, gTp, gCs, gNl, dTst, dTru, gTru, dNot, dAnd, dOr, dAndV, dOrV, dNotV, dSc, scalD, dBin, dUn, gNeg, dChain, dVar, dC, dCall, dCallK, dAK, dCons, dNil, dTup, dLst, dBi, dIf, rdAll, keepAll, RV.pin, RV.rd, RV.keep, Ret.rv, gI, gIC, gIB, gLt, gLe, gGt, gGe, pick, Ret.lowC, List.lookup, sn0, sb0, sn1, sb1, sn2, sb2, sn3, sb3, rd_int, rd_str, rd_bl, rd_non, rd_lst, rd_tup, rd_fn, rd_ty, rd_dic, rd_cell, gList, hideO]
theorem mx_run (n : Nat) (o g : List Int) (t4 : Option SD) (a b a' b' : Int) (rest : List D) (X Y : DS) (h1 : X ⟨[some (.val (.cell 0)), some (.val (.lst (o.map .int))), none, none, none], pt a b :: rest⟩ = some (.nx, ⟨[some (.val (.cell 0)), some (.val (.lst (o.map .int))), some (.own (.lst (o.map .int))), some (.own (.lst [])), none], pt a b :: rest⟩)) 
 (h2 : Y ⟨[some (.val (.cell 0)), some (.val (.lst (o.map .int))), some (.own (.lst (o.map .int))), some (.own (.lst [])), none], pt a b :: rest⟩ = some (.nx, ⟨[some (.val (.cell 0)), some (.val (.lst (o.map .int))), some (.own (.lst [])), some (.own (.lst (g.map .int))), t4], pt a' b' :: rest⟩)) : runF 5 (dSeq X (dSeq Y (dRet (dVar 3)))) [.cell 0, .lst (o.map .int)] (pt a b :: rest) = some (.fresh (.lst (g.map .int)), pt a' b' :: rest) := by
  simp [runF, startD, fin, retOf, dRet, dRetN, dSeq, dIfS, dNever, dSkip, dSt, putR, DSt.putV, DSt.putO, DSt.putC, dAsg, dDrop, gNm, gTp, gCs, gNl, dTst, dTru, gTru, dNot, dAnd, dOr, dAndV, dOrV, dNotV, dSc, scalD, dBin, dUn, gNeg, dChain, dVar, dC, dCall, dCallK, dAK, dCons, dNil, dTup, dLst, dBi, dIf, rdAll, keepAll, RV.pin, RV.rd, RV.keep, Ret.rv, gI, gIC, gIB, gLt, gLe, gGt, gGe, pick, Ret.lowC, List.lookup, sn0, sb0, sn1, sb1, sn2, sb2, sn3, sb3, rd_int, rd_str, rd_bl, rd_non, rd_lst, rd_tup, rd_fn, rd_ty, rd_dic, rd_cell, h1, h2]
theorem mixed_ok (n : Nat) (o : List Int) (hl : o.length ≤ 60) (a b : Int) (po : potOk a b) (rest : List D) : ∃ (g : List Int) (a' b' : Int), e_law_mixed n [.cell 0, is o] (pt a b :: rest) = some (.fresh (is g), pt a' b' :: rest) ∧ g.Perm o ∧ potOk a' b' := by
  obtain ⟨g, a', b', t4, e, p, po'⟩ := lm_loop n (some (.val (is o))) rest (rngD 0 (o.length : Int).toNat) none o [] a b (by simp [rngD]) (by simpa using hl) po
  have e : forL (gNm 4) (lmB n) (rngD 0 (o.length : Int).toNat) ⟨[some (.val (.cell 0)), some (.val (is o)), some (.own (.lst (o.map .int))), some (.own (.lst [])), none], pt a b :: rest⟩ = _ := e
  refine ⟨g, a', b', ?_, by simpa using p, po'⟩
  obtain ⟨j, hj⟩ : ∃ j : Int, (o.length : Int) = j := ⟨_, rfl⟩
  have c1 : -4611686018427387904 ≤ j ∧ j < 4611686018427387904 := by omega
  have gl := gLen_map o j hj
  rw [hj] at e
  simp only [is] at e ⊢
  have ir : iRg1 (dCons (dBi gLen (dCons (dVar 2) dNil)) dNil) ⟨[some (.val (.cell 0)), some (.val (.lst (o.map .int))), some (.own (.lst (o.map .int))), some (.own (.lst [])), none], pt a b :: rest⟩ = some (rngD 0 j.toNat, ⟨[some (.val (.cell 0)), some (.val (.lst (o.map .int))), some (.own (.lst (o.map .int))), some (.own (.lst [])), none], pt a b :: rest⟩) :=
    rg1_of _ _ _ [.val (.int j)] j (by simp [runF, startD, fin, retOf, dRet, dRetN, dSeq, dIfS, dNever, dSkip, dSt, putR, DSt.putV, DSt.putO, DSt.putC, dAsg, dDrop, gNm, gTp, gCs, gNl, dTst, dTru, gTru, dNot, dAnd, dOr, dAndV, dOrV, dNotV, dSc, scalD, dBin, dUn, gNeg, dChain, dVar, dC, dCall, dCallK, dAK, dCons, dNil, dTup, dLst, dBi, dIf, rdAll, keepAll, RV.pin, RV.rd, RV.keep, Ret.rv, gI, gIC, gIB, gLt, gLe, gGt, gGe, pick, Ret.lowC, List.lookup, sn0, sb0, sn1, sb1, sn2, sb2, sn3, sb3, rd_int, rd_str, rd_bl, rd_non, rd_lst, rd_tup, rd_fn, rd_ty, rd_dic, rd_cell, gl]) (by simp [runF, startD, fin, retOf, dRet, dRetN, dSeq, dIfS, dNever, dSkip, dSt, putR, DSt.putV, DSt.putO, DSt.putC, dAsg, dDrop, gNm, gTp, gCs, gNl, dTst, dTru, gTru, dNot, dAnd, dOr, dAndV, dOrV, dNotV, dSc, scalD, dBin, dUn, gNeg, dChain, dVar, dC, dCall, dCallK, dAK, dCons, dNil, dTup, dLst, dBi, dIf, rdAll, keepAll, RV.pin, RV.rd, RV.keep, Ret.rv, gI, gIC, gIB, gLt, gLe, gGt, gGe, pick, Ret.lowC, List.lookup, sn0, sb0, sn1, sb1, sn2, sb2, sn3, sb3, rd_int, rd_str, rd_bl, rd_non, rd_lst, rd_tup, rd_fn, rd_ty, rd_dic, rd_cell]) c1
  have h2 : dFor (iRg1 (dCons (dBi gLen (dCons (dVar 2) dNil)) dNil)) (gNm 4) (lmB n) ⟨[some (.val (.cell 0)), some (.val (.lst (o.map .int))), some (.own (.lst (o.map .int))), some (.own (.lst [])), none], pt a b :: rest⟩ = some (.nx, ⟨[some (.val (.cell 0)), some (.val (.lst (o.map .int))), some (.own (.lst [])), some (.own (.lst (g.map .int))), t4], pt a' b' :: rest⟩) := by
    unfold dFor
    rw [ir, Option.bind_some]
    exact e
  exact mx_run n o g t4 a b a' b' rest _ _ (mx_h1 o a b rest) h2
theorem range_ord (P : Int) (h : 0 ≤ P) : ord P (rg 0 P) where
  len := by rw [rg_len]; omega
  mem := fun i hi => by
    simp only [rg, List.mem_map, List.mem_range] at hi
    obtain ⟨j, hj, rfl⟩ := hi
    omega
  nd := by
    refine nodup_map (fun a _ b _ e => ?_) List.nodup_range
    omega
theorem ord_perm {P : Int} {o g : List Int} (h : ord P o) (p : g.Perm o) : ord P g where
  len := by rw [p.length_eq]; exact h.len
  mem := fun i hi => h.mem i (p.mem_iff.mp hi)
  nd := p.nodup_iff.mpr h.nd
theorem mixed_range (n : Nat) (P : Int) (h0 : 0 ≤ P) (h1 : P ≤ 60) (a b : Int) (po : potOk a b) (rest : List D) : ∃ (o : List Int) (a' b' : Int), e_law_mixed n [.cell 0, .lst (rngD 0 (P - 0).toNat)] (pt a b :: rest) = some (.fresh (is o), pt a' b' :: rest) ∧ ord P o ∧ potOk a' b' := by
  have hr := range_ord P h0
  obtain ⟨g, a', b', e, p, po'⟩ := mixed_ok n (rg 0 P) (by have := hr.len; omega) a b po rest
  have q : is (rg 0 P) = .lst (rngD 0 (P - 0).toNat) := by rw [← rgD]; simp
  rw [q] at e
  exact ⟨g, a', b', e, ord_perm hr p, po'⟩
end L
set_option Elab.async false
set_option linter.all false
set_option maxRecDepth 100000
set_option maxHeartbeats 4000000
namespace L
open PySem L2 EV

/-! ### _law_tells -/
def emps (xs : List Dd) : List Dd := xs.filter fun x => decide (x.w = ("empty" : Str))
def pl (xs : List Dd) : Bool := xs.all fun x => decide (x.w = ("any" : Str))
theorem emps_pl {P : Int} {xs : List Dd} (g : good P xs) : decide (emps xs = []) = pl xs := by
  have h : emps xs = [] ↔ pl xs = true := by
    simp only [emps, pl, List.filter_eq_nil_iff, List.all_eq_true, decide_eq_true_eq]
    constructor
    · intro h x hx
      rcases (g.ok x hx).w with ⟨w, _⟩ | ⟨w, _⟩
      · exact w
      · exact absurd w (h x hx)
    · intro h x hx w
      rw [h x hx] at w
      exact absurd w (by decide)
  rw [Bool.eq_iff_iff, decide_eq_true_iff]
  exact h
/-- the slots of `_law_tells` -/
abbrev tS (P : Int) (xs : List Dd) (s3 s4 : Option SD) (ce : List D) : DSt := ⟨[some (.val (hs P xs)), some (.val (.int P)), some (.val (.lst (ds xs))), s3, s4, none], ce⟩
theorem tells_lc (n : Nat) {P : Int} {xs : List Dd} (g : good P xs) (ce : List D) : lc_law_tells_0 n (tS P xs none none ce) = some (.fresh (.lst (ds (emps xs))), tS P xs none none ce) := by
  exact dLc_typed (fi := orI (iSeq (dVar 2)) (iTp (dVar 2))) (g := gNm 5) (t := dTst (dBin gEq (dBin gIx (dVar 5) (dC (.int 3))) (dC (.str "empty")))) (f := dVar 5) (vs := [5]) (δ := tS P xs none none ce) (δ1 := tS P xs none none ce)
    Dd.d (fun x => decide (x.w = ("empty" : Str))) Dd.d xs (by simp [orI, iSeq, iTp, runF, startD, fin, retOf, dRet, dRetN, dSeq, dIfS, dNever, dSkip, dSt, putR, DSt.putV, DSt.putO, DSt.putC, dAsg, dDrop, gNm, gTp, gCs, gNl, dTst, dTru, gTru, dNot, dAnd, dOr, dAndV, dOrV, dNotV, dSc, scalD, dBin, dUn, gNeg, dChain, dVar, dC, dCall, dCallK, dAK, dCons, dNil, dTup, dLst, dBi, dIf, rdAll, keepAll, RV.pin, RV.rd, RV.keep, Ret.rv, gI, gIC, gIB, gLt, gLe, gGt, gGe, pick, Ret.lowC, List.lookup, sn0, sb0, sn1, sb1, sn2, sb2, sn3, sb3, rd_int, rd_str, rd_bl, rd_non, rd_lst, rd_tup, rd_fn, rd_ty, rd_dic, rd_cell, ds]) (fun x hx => by
      refine turn_tst (r := .slot 5) rfl ?_ ?_ rfl rfl
      · simp [runF, startD, fin, retOf, dRet, dRetN, dSeq, dIfS, dNever, dSkip, dSt, putR, DSt.putV, DSt.putO, DSt.putC, dAsg, dDrop, gNm, gTp, gCs, gNl, dTst, dTru, gTru, dNot, dAnd, dOr, dAndV, dOrV, dNotV, dSc, scalD, dBin, dUn, gNeg, dChain, dVar, dC, dCall, dCallK, dAK, dCons, dNil, dTup, dLst, dBi, dIf, rdAll, keepAll, RV.pin, RV.rd, RV.keep, Ret.rv, gI, gIC, gIB, gLt, gLe, gGt, gGe, pick, Ret.lowC, List.lookup, sn0, sb0, sn1, sb1, sn2, sb2, sn3, sb3, rd_int, rd_str, rd_bl, rd_non, rd_lst, rd_tup, rd_fn, rd_ty, rd_dic, rd_cell, wipeD, hideO, rd_d, ix_d3, gEq_str]
      · simp [runF, startD, fin, retOf, dRet, dRetN, dSeq, dIfS, dNever, dSkip, dSt, putR, DSt.putV, DSt.putO, DSt.putC, dAsg, dDrop, gNm, gTp, gCs, gNl, dTst, dTru, gTru, dNot, dAnd, dOr, dAndV, dOrV, dNotV, dSc, scalD, dBin, dUn, gNeg, dChain, dVar, dC, dCall, dCallK, dAK, dCons, dNil, dTup, dLst, dBi, dIf, rdAll, keepAll, RV.pin, RV.rd, RV.keep, Ret.rv, gI, gIC, gIB, gLt, gLe, gGt, gGe, pick, Ret.lowC, List.lookup, sn0, sb0, sn1, sb1, sn2, sb2, sn3, sb3, rd_int, rd_str, rd_bl, rd_non, rd_lst, rd_tup, rd_fn, rd_ty, rd_dic, rd_cell, wipeD, hideO]) (by have := g.len; omega)
theorem tells_1 (n : Nat) {P : Int} {xs : List Dd} (g : good P xs) (ce : List D) : dSt .keep 3 (dBin gEq (lc_law_tells_0 n) (dLst dNil)) (tS P xs none none ce) = some (.nx, tS P xs (some (.val (.bl (pl xs)))) none ce) := by
  have q := tells_lc n g ce
  have e : gEq (.lst (ds (emps xs))) (.lst []) = some (.val (.bl (pl xs))) := by
    rw [← emps_pl g]; exact gEq_deeds (emps xs) []
  simp only [tS] at q ⊢
  simp [runF, startD, fin, retOf, dRet, dRetN, dSeq, dIfS, dNever, dSkip, dSt, putR, DSt.putV, DSt.putO, DSt.putC, dAsg, dDrop, gNm, gTp, gCs, gNl, dTst, dTru, gTru, dNot, dAnd, dOr, dAndV, dOrV, dNotV, dSc, scalD, dBin, dUn, gNeg, dChain, dVar, dC, dCall, dCallK, dAK, dCons, dNil, dTup, dLst, dBi, dIf, rdAll, keepAll, RV.pin, RV.rd, RV.keep, Ret.rv, gI, gIC, gIB, gLt, gLe, gGt, gGe, pick, Ret.lowC, List.lookup, sn0, sb0, sn1, sb1, sn2, sb2, sn3, sb3, rd_int, rd_str, rd_bl, rd_non, rd_lst, rd_tup, rd_fn, rd_ty, rd_dic, rd_cell, q, e]
theorem m_places (n : Nat) {P : Int} {xs : List Dd} {δ : DSt} {fo : DE} (h : ∃ r, fo δ = some (r, δ) ∧ r.keep δ = some (hs P xs)) : dMeth0 "House" "places" [0] [] (e_House_places n) fo δ = some (.val (.int P), δ) := by
  obtain ⟨r, h1, h2⟩ := h
  have mn : ¬Str.ofString "places" = Str.ofString "own_places" ∧ ¬Str.ofString "places" = Str.ofString "own_deeds" := by decide
  simp [dMeth0, h1, h2, insOf_hs, pick, places_ok, Ret.rv, mn]
theorem m_deeds (n : Nat) {P : Int} {xs : List Dd} {δ : DSt} {fo : DE} (h : ∃ r, fo δ = some (r, δ) ∧ r.keep δ = some (hs P xs)) : dMeth0 "House" "deeds" [0] [] (e_House_deeds n) fo δ = some (.fresh (.lst (ds xs)), δ) := by
  obtain ⟨r, h1, h2⟩ := h
  have mn : ¬Str.ofString "deeds" = Str.ofString "own_places" ∧ ¬Str.ofString "deeds" = Str.ofString "own_deeds" := by decide
  simp [dMeth0, h1, h2, insOf_hs, pick, deeds_ok, Ret.rv, mn]
theorem m_plain (n : Nat) {P : Int} {xs : List Dd} (g : good P xs) {δ : DSt} {fo : DE} (h : ∃ r, fo δ = some (r, δ) ∧ r.keep δ = some (hs P xs)) : dMeth0 "House" "is_plain" [0] [] (e_House_is_plain n) fo δ = some (.val (.bl (pl xs)), δ) := by
  obtain ⟨r, h1, h2⟩ := h
  have mn : ¬Str.ofString "is_plain" = Str.ofString "own_places" ∧ ¬Str.ofString "is_plain" = Str.ofString "own_deeds" := by decide
  simp [dMeth0, h1, h2, insOf_hs, pick, is_plain_ok n P xs g.len, Ret.rv, pl, mn]
theorem okLen_of (i : Int) (h : 0 ≤ i ∧ i < 9223372036854775808) : okLen (.int i) = true := by
  unfold okLen
  exact decide_eq_true h
theorem m_len (n : Nat) {P : Int} {xs : List Dd} (g : good P xs) {δ : DSt} {fas : DA} (h : ∃ r, fas δ = some ([r], δ) ∧ r.pin.keep δ = some (hs P xs)) : dOwn1 "House" okLen [0] [] (e_House_len n) fas δ = some (.val (.int xs.length), δ) := by
  obtain ⟨r, h1, h2⟩ := h
  have hl := g.len
  have q := len_ok n P xs δ.ce
  obtain ⟨j, hj⟩ : ∃ j : Int, (xs.length : Int) = j := ⟨_, rfl⟩
  have ok := okLen_of j (by omega)
  rw [hj] at q ⊢
  simp [dOwn1, h1, h2, keepAll, insOf_hs, pick, q, ok]
theorem m_repr (n : Nat) {P : Int} {xs : List Dd} (g : good P xs) {δ : DSt} {fas : DA} (h : ∃ r, fas δ = some ([r], δ) ∧ r.pin.keep δ = some (hs P xs)) : dOwn1 "House" okTxt [0] [] (e_House_repr n) fas δ = some (.val (.str (rep P xs)), δ) := by
  obtain ⟨r, h1, h2⟩ := h
  simp [dOwn1, h1, h2, keepAll, insOf_hs, pick, repr_ok n g, okTxt]
theorem m_eq (n : Nat) {P Q : Int} {xs ys : List Dd} {δ : DSt} {fa fb : DE} (h : ∃ r, fa δ = some (r, δ) ∧ r.pin.keep δ = some (hs P xs)) (h' : ∃ r, fb δ = some (r, δ) ∧ r.pin.keep δ = some (hs Q ys)) : dEqO csL "House" false [0, 1] [] (e_House_eq n) fa fb δ = some (.val (.bl (decide (P = Q ∧ xs = ys))), δ) := by
  obtain ⟨r, h1, h2⟩ := h
  obtain ⟨r', h3, h4⟩ := h'
  have ok : okT csL (.own "House") = true := rfl
  simp [dEqO, h1, h2, h3, h4, insOf_hs, rd_hs, tag_hs, ok, pick, eq_ok]
theorem tells_2a (n : Nat) {P : Int} {xs : List Dd} (g : good P xs) (ce : List D) (δ : DSt) (hδ : δ = tS P xs (some (.val (.bl (pl xs)))) none ce) : ∃ t, dBi gRepr (dCons (dLst (dCons (dMeth0 "House" "places" [0] [] (e_House_places n) (dVar 0)) (dCons (dMeth0 "House" "deeds" [0] [] (e_House_deeds n) (dVar 0)) (dCons (dOwn1 "House" okLen [0] [] (e_House_len n) (dCons (dVar 0) dNil)) (dCons (dMeth0 "House" "is_plain" [0] [] (e_House_is_plain n) (dVar 0)) dNil))))) dNil) δ = some (.val (.str t), δ) ∧
    dBi gRepr (dCons (dLst (dCons (dVar 1) (dCons (dVar 2) (dCons (dBi gLen (dCons (dVar 2) dNil)) (dCons (dVar 3) dNil))))) dNil) δ = some (.val (.str t), δ) := by
  obtain ⟨t, ht⟩ := gRepr_tell g (pl xs)
  have v0 : ∃ r, dVar 0 δ = some (r, δ) ∧ r.keep δ = some (hs P xs) := ⟨.slot 0, by subst hδ; rfl, by subst hδ; rfl⟩
  have v0' : ∃ r, dCons (dVar 0) dNil δ = some ([r], δ) ∧ r.pin.keep δ = some (hs P xs) := ⟨.slot 0, by subst hδ; rfl, by subst hδ; rfl⟩
  have e1 := m_places n v0
  have e2 := m_deeds n v0
  have e3 := m_len n g v0'
  have e4 := m_plain n g v0
  have gl : gLen [.lst (ds xs)] = some (.val (.int xs.length)) := by simp [gLen, ds_len]
  unfold tellL at ht
  obtain ⟨j, hj⟩ : ∃ j : Int, (xs.length : Int) = j := ⟨_, rfl⟩
  rw [hj] at e3 gl ht
  refine ⟨t, ?_, ?_⟩
  · clear v0 v0' gl
    simp [dBi, dCons, dLst, dNil, e1, e2, e3, e4, keepAll, RV.pin, RV.keep, rdAll, RV.rd, rd_lst, ht]
  · clear e1 e2 e3 e4 v0 v0'
    subst hδ
    simp only [tS]
    simp [runF, startD, fin, retOf, dRet, dRetN, dSeq, dIfS, dNever, dSkip, dSt, putR, DSt.putV, DSt.putO, DSt.putC, dAsg, dDrop, gNm, gTp, gCs, gNl, dTst, dTru, gTru, dNot, dAnd, dOr, dAndV, dOrV, dNotV, dSc, scalD, dBin, dUn, gNeg, dChain, dVar, dC, dCall, dCallK, dAK, dCons, dNil, dTup, dLst, dBi, dIf, rdAll, keepAll, RV.pin, RV.rd, RV.keep, Ret.rv, gI, gIC, gIB, gLt, gLe, gGt, gGe, pick, Ret.lowC, List.lookup, sn0, sb0, sn1, sb1, sn2, sb2, sn3, sb3, rd_int, rd_str, rd_bl, rd_non, rd_lst, rd_tup, rd_fn, rd_ty, rd_dic, rd_cell, gl, ht]
end L
set_option Elab.async false
set_option linter.all false
set_option maxRecDepth 100000
set_option maxHeartbeats 4000000
namespace L
open PySem L2 EV

theorem skip_if {t : DT} {b : DS} {δ : DSt} (h : t δ = some (false, δ)) : dIfS t b dSkip δ = some (.nx, δ) := by simp [dIfS, h, dSkip]
theorem ne_str {fa fb : DE} {δ : DSt} {t : Str} (h1 : fa δ = some (.val (.str t), δ)) (h2 : fb δ = some (.val (.str t), δ)) : dTst (dBin gNe fa fb) δ = some (false, δ) := by
  simp [dTst, dBin, h1, h2, RV.pin, RV.rd, rd_str, gNe_str]
theorem tells_2 (n : Nat) {P : Int} {xs : List Dd} (g : good P xs) (ce : List D) (b : DS) : dIfS (dTst (dBin gNe (dBi gRepr (dCons (dLst (dCons (dMeth0 "House" "places" [0] [] (e_House_places n) (dVar 0)) (dCons (dMeth0 "House" "deeds" [0] [] (e_House_deeds n) (dVar 0)) (dCons (dOwn1 "House" okLen [0] [] (e_House_len n) (dCons (dVar 0) dNil)) (dCons (dMeth0 "House" "is_plain" [0] [] (e_House_is_plain n) (dVar 0)) dNil))))) dNil)) (dBi gRepr (dCons (dLst (dCons (dVar 1) (dCons (dVar 2) (dCons (dBi gLen (dCons (dVar 2) dNil)) (dCons (dVar 3) dNil))))) dNil)))) b dSkip (tS P xs (some (.val (.bl (pl xs)))) none ce) = some (.nx, tS P xs (some (.val (.bl (pl xs)))) none ce) := by
  obtain ⟨t, e1, e2⟩ := tells_2a n g ce _ rfl
  exact skip_if (ne_str e1 e2)
theorem tells_3 (n : Nat) {P : Int} {xs : List Dd} (s3 : Option SD) (ce : List D) : dSt .own 4 (dMeth0 "House" "deeds" [0] [] (e_House_deeds n) (dVar 0)) (tS P xs s3 none ce) = some (.nx, tS P xs s3 (some (.own (.lst (ds xs)))) ce) := by
  have e := m_deeds (P := P) (xs := xs) (δ := tS P xs s3 none ce) (fo := dVar 0) n ⟨.slot 0, rfl, rfl⟩
  simp only [tS] at e ⊢
  simp [runF, startD, fin, retOf, dRet, dRetN, dSeq, dIfS, dNever, dSkip, dSt, putR, DSt.putV, DSt.putO, DSt.putC, dAsg, dDrop, gNm, gTp, gCs, gNl, dTst, dTru, gTru, dNot, dAnd, dOr, dAndV, dOrV, dNotV, dSc, scalD, dBin, dUn, gNeg, dChain, dVar, dC, dCall, dCallK, dAK, dCons, dNil, dTup, dLst, dBi, dIf, rdAll, keepAll, RV.pin, RV.rd, RV.keep, Ret.rv, gI, gIC, gIB, gLt, gLe, gGt, gGe, pick, Ret.lowC, List.lookup, sn0, sb0, sn1, sb1, sn2, sb2, sn3, sb3, rd_int, rd_str, rd_bl, rd_non, rd_lst, rd_tup, rd_fn, rd_ty, rd_dic, rd_cell, e]
theorem tells_4 {P : Int} {xs : List Dd} (g : good P xs) (s3 : Option SD) (ce : List D) : dDrop (dMut true uAppend 4 (dCons (dC .non) dNil)) (tS P xs s3 (some (.own (.lst (ds xs)))) ce) = some (.nx, tS P xs s3 (some (.own (.lst (ds xs ++ [.non])))) ce) := by
  have u : uAppend (ds xs) [.non] = some (.non, ds xs ++ [.non]) := by
    unfold uAppend
    dsimp only
    rw [if_pos (by rw [ds_len]; have := g.len; omega)]
  simp only [tS]
  simp [runF, startD, fin, retOf, dRet, dRetN, dSeq, dIfS, dNever, dSkip, dSt, putR, DSt.putV, DSt.putO, DSt.putC, dAsg, dDrop, gNm, gTp, gCs, gNl, dTst, dTru, gTru, dNot, dAnd, dOr, dAndV, dOrV, dNotV, dSc, scalD, dBin, dUn, gNeg, dChain, dVar, dC, dCall, dCallK, dAK, dCons, dNil, dTup, dLst, dBi, dIf, rdAll, keepAll, RV.pin, RV.rd, RV.keep, Ret.rv, gI, gIC, gIB, gLt, gLe, gGt, gGe, pick, Ret.lowC, List.lookup, sn0, sb0, sn1, sb1, sn2, sb2, sn3, sb3, rd_int, rd_str, rd_bl, rd_non, rd_lst, rd_tup, rd_fn, rd_ty, rd_dic, rd_cell, dMut, lstAt, argsOf, u, EV.putAt]
theorem rep_sum {P : Int} {xs : List Dd} (g : good P xs) (δ : DSt) (h1 : δ.sl[1]? = some (some (.val (.int P)))) (h2 : δ.sl[2]? = some (some (.val (.lst (ds xs))))) : dBin gAdd (dBin gAdd (dBin gAdd (dBin gAdd (dC (.str "House(")) (dBi gStrI (dCons (dVar 1) dNil))) (dC (.str ", "))) (dBi gRepr (dCons (dVar 2) dNil))) (dC (.str ")")) δ = some (.val (.str (rep P xs)), δ) := by
  have hP0 := g.P0
  have hP1 := g.P1
  obtain ⟨k1, k2⟩ := small_int P (by omega) (by omega)
  obtain ⟨k3, k4⟩ := shown_list g
  have l1 : (Str.ofString "House(").length = 6 := rfl
  have l2 : (Str.ofString ", ").length = 2 := rfl
  have l3 : (Str.ofString ")").length = 1 := rfl
  have gs : gStrI [.int P] = some (.val (.str ((toString P : String) : Str))) := by unfold gStrI; dsimp only; rw [if_pos k2]
  have gr := gRepr_deeds g
  unfold rep
  generalize (D.lst (ds xs)).toP.shown = T at gr k3 ⊢
  generalize ((toString P : String) : Str) = S at gs k1 ⊢
  have v1 : dVar 1 δ = some (.slot 1, δ) := by simp [dVar, h1]
  have v2 : dVar 2 δ = some (.slot 2, δ) := by simp [dVar, h2]
  have f1 : dBi gStrI (dCons (dVar 1) dNil) δ = some (.val (.str S), δ) := by
    simp [dBi, dCons, dNil, v1, rdAll, RV.pin, RV.rd, h1, rd_int, gs]
  have f2 : dBi gRepr (dCons (dVar 2) dNil) δ = some (.val (.str T), δ) := by
    simp [dBi, dCons, dNil, v2, rdAll, RV.pin, RV.rd, h2, rd_lst, gr]
  have st : ∀ (fa fb : DE) (a b : Str), fa δ = some (.val (.str a), δ) → fb δ = some (.val (.str b), δ) → a.length + b.length ≤ 16777216 → dBin gAdd fa fb δ = some (.val (.str (a ++ b)), δ) := by
    intro fa fb a b ha hb hl
    simp [dBin, ha, hb, RV.pin, RV.rd, rd_str, gAdd_str a b hl]
  have c : ∀ a : Str, dC (.str a) δ = some (.val (.str a), δ) := fun _ => rfl
  refine st _ _ _ _ (st _ _ _ _ (st _ _ _ _ (st _ _ _ _ (c _) f1 ?_) (c _) ?_) f2 ?_) (c _) ?_
  all_goals (simp only [strLen_append, l1, l2, l3]; omega)
theorem ne_deeds {fa fb : DE} {δ : DSt} {xs : List Dd} (h1 : ∃ r, fa δ = some (r, δ) ∧ r.pin.rd δ = some (.lst (ds xs))) (h2 : ∃ r, fb δ = some (r, δ) ∧ r.pin.rd δ = some (.lst (ds xs))) : dTst (dBin gNe fa fb) δ = some (false, δ) := by
  obtain ⟨r, a1, a2⟩ := h1
  obtain ⟨s, b1, b2⟩ := h2
  simp [dTst, dBin, a1, a2, b1, b2, gNe_deeds]
theorem or_false {t1 t2 : DT} {δ : DSt} (h1 : t1 δ = some (false, δ)) (h2 : t2 δ = some (false, δ)) : dOr t1 t2 δ = some (false, δ) := by simp [dOr, h1, h2]
theorem tells_5 (n : Nat) {P : Int} {xs : List Dd} (g : good P xs) (s3 s4 : Option SD) (ce : List D) (b : DS) : dIfS (dOr (dTst (dBin gNe (dMeth0 "House" "deeds" [0] [] (e_House_deeds n) (dVar 0)) (dVar 2))) (dTst (dBin gNe (dOwn1 "House" okTxt [0] [] (e_House_repr n) (dCons (dVar 0) dNil)) (dBin gAdd (dBin gAdd (dBin gAdd (dBin gAdd (dC (.str "House(")) (dBi gStrI (dCons (dVar 1) dNil))) (dC (.str ", "))) (dBi gRepr (dCons (dVar 2) dNil))) (dC (.str ")")))))) b dSkip (tS P xs s3 s4 ce) = some (.nx, tS P xs s3 s4 ce) :=
  skip_if (or_false (ne_deeds ⟨_, m_deeds n ⟨.slot 0, rfl, rfl⟩, rfl⟩ ⟨.slot 2, rfl, rfl⟩) (ne_str (m_repr n g ⟨.slot 0, rfl, rfl⟩) (rep_sum g _ rfl rfl)))
theorem and_true {fa fb : DE} {δ : DSt} (h1 : fa δ = some (.val (.bl true), δ)) (h2 : fb δ = some (.val (.bl true), δ)) : dAndV fa fb δ = some (.val (.bl true), δ) := by simp [dAndV, h1, h2]
theorem eq_self (n : Nat) {P : Int} {xs : List Dd} {δ : DSt} {fa fb : DE} (h : ∃ r, fa δ = some (r, δ) ∧ r.pin.keep δ = some (hs P xs)) (h' : ∃ r, fb δ = some (r, δ) ∧ r.pin.keep δ = some (hs P xs)) : dEqO csL "House" false [0, 1] [] (e_House_eq n) fa fb δ = some (.val (.bl true), δ) := by
  have q := m_eq n h h'
  simpa using q
theorem tells_6 (n : Nat) (hn : 60 < n) {P : Int} {xs : List Dd} (g : good P xs) (s3 s4 : Option SD) (ce : List D) (low : Low ce) : dAndV (dEqO csL "House" false [0, 1] [] (e_House_eq n) (dVar 0) (mk_law_tells_1 n)) (dEqO csL "House" false [0, 1] [] (e_House_eq n) (mk_law_tells_2 n) (dVar 0)) (tS P xs s3 s4 ce) = some (.val (.bl true), tS P xs s3 s4 ce) := by
  have q1 : mk_law_tells_1 n (tS P xs s3 s4 ce) = some (.fresh (hs P xs), tS P xs s3 s4 ce) := by
    refine make_ok n hn g (r1 := .slot 1) (r2 := .val (.tup (ds xs))) ?_ rfl rfl (.inr (.inl rfl)) low
    simp [runF, startD, fin, retOf, dRet, dRetN, dSeq, dIfS, dNever, dSkip, dSt, putR, DSt.putV, DSt.putO, DSt.putC, dAsg, dDrop, gNm, gTp, gCs, gNl, dTst, dTru, gTru, dNot, dAnd, dOr, dAndV, dOrV, dNotV, dSc, scalD, dBin, dUn, gNeg, dChain, dVar, dC, dCall, dCallK, dAK, dCons, dNil, dTup, dLst, dBi, dIf, rdAll, keepAll, RV.pin, RV.rd, RV.keep, Ret.rv, gI, gIC, gIB, gLt, gLe, gGt, gGe, pick, Ret.lowC, List.lookup, sn0, sb0, sn1, sb1, sn2, sb2, sn3, sb3, rd_int, rd_str, rd_bl, rd_non, rd_lst, rd_tup, rd_fn, rd_ty, rd_dic, rd_cell, gTuple]
  have q2 : mk_law_tells_2 n (tS P xs s3 s4 ce) = some (.fresh (hs P xs), tS P xs s3 s4 ce) := by
    refine make_ok n hn g (r1 := .slot 1) (r2 := .slot 2) ?_ rfl rfl (.inl rfl) low
    simp [runF, startD, fin, retOf, dRet, dRetN, dSeq, dIfS, dNever, dSkip, dSt, putR, DSt.putV, DSt.putO, DSt.putC, dAsg, dDrop, gNm, gTp, gCs, gNl, dTst, dTru, gTru, dNot, dAnd, dOr, dAndV, dOrV, dNotV, dSc, scalD, dBin, dUn, gNeg, dChain, dVar, dC, dCall, dCallK, dAK, dCons, dNil, dTup, dLst, dBi, dIf, rdAll, keepAll, RV.pin, RV.rd, RV.keep, Ret.rv, gI, gIC, gIB, gLt, gLe, gGt, gGe, pick, Ret.lowC, List.lookup, sn0, sb0, sn1, sb1, sn2, sb2, sn3, sb3, rd_int, rd_str, rd_bl, rd_non, rd_lst, rd_tup, rd_fn, rd_ty, rd_dic, rd_cell]
  exact and_true (eq_self n ⟨.slot 0, rfl, rfl⟩ ⟨_, q1, rfl⟩) (eq_self n ⟨_, q2, rfl⟩ ⟨.slot 0, rfl, rfl⟩)
theorem seq_nx {f1 f2 : DS} {δ δ1 : DSt} (h : f1 δ = some (.nx, δ1)) : dSeq f1 f2 δ = f2 δ1 := by simp [dSeq, h]
theorem run_val {N : Nat} {f : DS} {ds0 ce : List D} {d : D} {δ : DSt} (h : f (startD N ds0 ce) = some (.rt (.val d), δ)) (hc : δ.ce = ce) : runF N f ds0 ce = some (.val d, ce) := by
  simp [runF, h, hc, fin, retOf]
theorem ret_val {f : DE} {δ : DSt} {d : D} (h : f δ = some (.val d, δ)) : dRet f δ = some (.rt (.val d), δ) := by simp [dRet, h, RV.pin]
theorem tells_ok (n : Nat) (hn : 60 < n) {P : Int} {xs : List Dd} (g : good P xs) (ce : List D) (low : Low ce) : e_law_tells n [hs P xs, .int P, .lst (ds xs)] ce = some (.val (.bl true), ce) := by
  refine run_val (δ := tS P xs (some (.val (.bl (pl xs)))) (some (.own (.lst (ds xs ++ [.non])))) ce) ?_ rfl
  show d_law_tells n (tS P xs none none ce) = _
  unfold d_law_tells
  rw [seq_nx (tells_1 n g ce), seq_nx (tells_2 n g ce _), seq_nx (tells_3 n _ ce), seq_nx (tells_4 g _ ce), seq_nx (tells_5 n g _ _ ce _)]
  exact ret_val (tells_6 n hn g _ _ ce low)
end L
set_option Elab.async false
set_option linter.all false
set_option maxRecDepth 100000
set_option maxHeartbeats 4000000
namespace L
open PySem L2 EV

/-! ### _law_equal_right -/
abbrev qS (P : Int) (xs : List Dd) (s4 s5 : Option SD) (ce : List D) : DSt := ⟨[some (.val (.cell 0)), some (.val (hs P xs)), some (.val (.int P)), some (.val (.lst (ds xs))), s4, s5, none, none], ce⟩
def hq (q : Int × List Dd) : D := hs q.1 q.2
def unl (P : Int) (xs : List Dd) (qs : List (Int × List Dd)) : Prop := ∀ q ∈ qs, q ≠ (P, xs)
theorem good_up {P : Int} {xs : List Dd} (g : good P xs) (h : P + 1 ≤ 16) : good (P + 1) xs where
  P0 := by have := g.P0; omega
  P1 := h
  ok := fun x hx => by
    obtain ⟨a, b, c, d, e⟩ := g.ok x hx
    exact ⟨a, by omega, c, by omega, e⟩
  nd := g.nd
  len := g.len
def alt (xs : List Dd) : List Dd := if xs = [] then [⟨0, 0, 0, "any"⟩] else xs.drop 1
theorem good_alt {P : Int} {xs : List Dd} (g : good P xs) : good P (alt xs) := by
  unfold alt
  split
  · have hP := g.P0
    exact ⟨g.P0, g.P1, fun x hx => by
      rw [List.mem_singleton.mp hx]
      exact ⟨by show (0 : Int) ≤ 0; omega, by show (0 : Int) < P; omega, by show (0 : Int) ≤ 0; omega, by show (0 : Int) < P; omega, .inl ⟨rfl, by show (-1 : Int) ≤ 0; omega, by show (0 : Int) ≤ 1; omega⟩⟩, by simp, by simp⟩
  · exact good_sub g (List.drop_sublist 1 xs)
theorem alt_ne (xs : List Dd) : alt xs ≠ xs := by
  unfold alt
  split
  · intro h; simp_all
  · intro h
    have := congrArg List.length h
    have : 0 < xs.length := List.length_pos_iff.mpr (by assumption)
    simp at *
    omega
theorem good_rev {P : Int} {xs : List Dd} (g : good P xs) : good P xs.reverse where
  P0 := g.P0
  P1 := g.P1
  ok := fun x hx => g.ok x (List.mem_reverse.mp hx)
  nd := (List.reverse_perm xs).nodup_iff.mpr g.nd
  len := by rw [List.length_reverse]; exact g.len
theorem gAdd_lst (xs ys : List D) (h : xs.length + ys.length ≤ 16777216) : gAdd (.lst xs) (.lst ys) = some (.fresh (.lst (xs ++ ys))) := by
  simp [gAdd, gI, gStrAdd, gCat, h]
theorem ds_rev (xs : List Dd) : (ds xs).reverse = ds xs.reverse := by simp [ds]
theorem eqr_1 (n : Nat) (hn : 60 < n) {P : Int} {xs : List Dd} (g : good P xs) (h : P + 1 ≤ 16) (ce : List D) (low : Low ce) :
    dSt .keep 4 (dLst (dCons (mk_law_equal_right_2 n) (dCons (dIf (dTst (dBin gNe (dVar 3) (dLst dNil))) (mk_law_equal_right_0 n) (mk_law_equal_right_1 n)) dNil))) (qS P xs none none ce) = some (.nx, qS P xs (some (.val (.lst [hs (P + 1) xs, hs P (alt xs)]))) none ce) := by
  have q2 : mk_law_equal_right_2 n (qS P xs none none ce) = some (.fresh (hs (P + 1) xs), qS P xs none none ce) := by
    refine make_ok n hn (good_up g h) (r1 := .val (.int (P + 1))) (r2 := .slot 3) ?_ rfl rfl (.inl rfl) low
    simp [runF, startD, fin, retOf, dRet, dRetN, dSeq, dIfS, dNever, dSkip, dSt, putR, DSt.putV, DSt.putO, DSt.putC, dAsg, dDrop, gNm, gTp, gCs, gNl, dTst, dTru, gTru, dNot, dAnd, dOr, dAndV, dOrV, dNotV, dSc, scalD, dBin, dUn, gNeg, dChain, dVar, dC, dCall, dCallK, dAK, dCons, dNil, dTup, dLst, dBi, dIf, rdAll, keepAll, RV.pin, RV.rd, RV.keep, Ret.rv, gI, gIC, gIB, gLt, gLe, gGt, gGe, pick, Ret.lowC, List.lookup, sn0, sb0, sn1, sb1, sn2, sb2, sn3, sb3, rd_int, rd_str, rd_bl, rd_non, rd_lst, rd_tup, rd_fn, rd_ty, rd_dic, rd_cell, gAdd_int]
  have q3 : dIf (dTst (dBin gNe (dVar 3) (dLst dNil))) (mk_law_equal_right_0 n) (mk_law_equal_right_1 n) (qS P xs none none ce) = some (.fresh (hs P (alt xs)), qS P xs none none ce) := by
    have ne : gNe (.lst (ds xs)) (.lst []) = some (.val (.bl (!decide (xs = [])))) := gNe_deeds xs []
    by_cases z : xs = []
    · have q : mk_law_equal_right_1 n (qS P xs none none ce) = some (.fresh (hs P (alt xs)), qS P xs none none ce) := by
        refine make_ok n hn (good_alt g) (r1 := .slot 2) (r2 := .fresh (.lst (ds (alt xs)))) ?_ rfl rfl (.inl rfl) low
        have e : ds (alt xs) = [.tup [.int 0, .int 0, .int 0, .str "any"]] := by simp [alt, z, ds, Dd.d]
        rw [e]
        simp [runF, startD, fin, retOf, dRet, dRetN, dSeq, dIfS, dNever, dSkip, dSt, putR, DSt.putV, DSt.putO, DSt.putC, dAsg, dDrop, gNm, gTp, gCs, gNl, dTst, dTru, gTru, dNot, dAnd, dOr, dAndV, dOrV, dNotV, dSc, scalD, dBin, dUn, gNeg, dChain, dVar, dC, dCall, dCallK, dAK, dCons, dNil, dTup, dLst, dBi, dIf, rdAll, keepAll, RV.pin, RV.rd, RV.keep, Ret.rv, gI, gIC, gIB, gLt, gLe, gGt, gGe, pick, Ret.lowC, List.lookup, sn0, sb0, sn1, sb1, sn2, sb2, sn3, sb3, rd_int, rd_str, rd_bl, rd_non, rd_lst, rd_tup, rd_fn, rd_ty, rd_dic, rd_cell]
      have ne' : gNe (.lst (ds xs)) (.lst []) = some (.val (.bl false)) := by rw [ne, decide_eq_true z]; rfl
      have t : dTst (dBin gNe (dVar 3) (dLst dNil)) (qS P xs none none ce) = some (false, qS P xs none none ce) := by
        simp [runF, startD, fin, retOf, dRet, dRetN, dSeq, dIfS, dNever, dSkip, dSt, putR, DSt.putV, DSt.putO, DSt.putC, dAsg, dDrop, gNm, gTp, gCs, gNl, dTst, dTru, gTru, dNot, dAnd, dOr, dAndV, dOrV, dNotV, dSc, scalD, dBin, dUn, gNeg, dChain, dVar, dC, dCall, dCallK, dAK, dCons, dNil, dTup, dLst, dBi, dIf, rdAll, keepAll, RV.pin, RV.rd, RV.keep, Ret.rv, gI, gIC, gIB, gLt, gLe, gGt, gGe, pick, Ret.lowC, List.lookup, sn0, sb0, sn1, sb1, sn2, sb2, sn3, sb3, rd_int, rd_str, rd_bl, rd_non, rd_lst, rd_tup, rd_fn, rd_ty, rd_dic, rd_cell, ne']
      simp [dIf, t, q]
    · have q : mk_law_equal_right_0 n (qS P xs none none ce) = some (.fresh (hs P (alt xs)), qS P xs none none ce) := by
        refine make_ok n hn (good_alt g) (r1 := .slot 2) (r2 := .fresh (.lst (ds (alt xs)))) ?_ rfl rfl (.inl rfl) low
        have hl : 1 ≤ xs.length := List.length_pos_iff.mpr z
        have c2 := cut_hi xs 1 hl
        have c2 : cutD (ds xs) (some (1 : Int)) none = ds (xs.drop 1) := c2
        simp [runF, startD, fin, retOf, dRet, dRetN, dSeq, dIfS, dNever, dSkip, dSt, putR, DSt.putV, DSt.putO, DSt.putC, dAsg, dDrop, gNm, gTp, gCs, gNl, dTst, dTru, gTru, dNot, dAnd, dOr, dAndV, dOrV, dNotV, dSc, scalD, dBin, dUn, gNeg, dChain, dVar, dC, dCall, dCallK, dAK, dCons, dNil, dTup, dLst, dBi, dIf, rdAll, keepAll, RV.pin, RV.rd, RV.keep, Ret.rv, gI, gIC, gIB, gLt, gLe, gGt, gGe, pick, Ret.lowC, List.lookup, sn0, sb0, sn1, sb1, sn2, sb2, sn3, sb3, rd_int, rd_str, rd_bl, rd_non, rd_lst, rd_tup, rd_fn, rd_ty, rd_dic, rd_cell, dSl, dPart, dNoP, gSl, c2, alt, z]
      have ne' : gNe (.lst (ds xs)) (.lst []) = some (.val (.bl true)) := by rw [ne, decide_eq_false z]; rfl
      have t : dTst (dBin gNe (dVar 3) (dLst dNil)) (qS P xs none none ce) = some (true, qS P xs none none ce) := by
        simp [runF, startD, fin, retOf, dRet, dRetN, dSeq, dIfS, dNever, dSkip, dSt, putR, DSt.putV, DSt.putO, DSt.putC, dAsg, dDrop, gNm, gTp, gCs, gNl, dTst, dTru, gTru, dNot, dAnd, dOr, dAndV, dOrV, dNotV, dSc, scalD, dBin, dUn, gNeg, dChain, dVar, dC, dCall, dCallK, dAK, dCons, dNil, dTup, dLst, dBi, dIf, rdAll, keepAll, RV.pin, RV.rd, RV.keep, Ret.rv, gI, gIC, gIB, gLt, gLe, gGt, gGe, pick, Ret.lowC, List.lookup, sn0, sb0, sn1, sb1, sn2, sb2, sn3, sb3, rd_int, rd_str, rd_bl, rd_non, rd_lst, rd_tup, rd_fn, rd_ty, rd_dic, rd_cell, ne']
      simp [dIf, t, q]
  simp only [qS] at q2 q3 ⊢
  simp [dSt, dLst, dCons, dNil, q2, q3, keepAll, RV.pin, RV.keep, DSt.putV, putR]
theorem eqr_2 {P : Int} {xs : List Dd} (s4 : Option SD) (ce : List D) : dSt .keep 5 (dRev (dVar 3)) (qS P xs s4 none ce) = some (.nx, qS P xs s4 (some (.val (.lst (ds xs.reverse)))) ce) := by
  simp [qS, runF, startD, fin, retOf, dRet, dRetN, dSeq, dIfS, dNever, dSkip, dSt, putR, DSt.putV, DSt.putO, DSt.putC, dAsg, dDrop, gNm, gTp, gCs, gNl, dTst, dTru, gTru, dNot, dAnd, dOr, dAndV, dOrV, dNotV, dSc, scalD, dBin, dUn, gNeg, dChain, dVar, dC, dCall, dCallK, dAK, dCons, dNil, dTup, dLst, dBi, dIf, rdAll, keepAll, RV.pin, RV.rd, RV.keep, Ret.rv, gI, gIC, gIB, gLt, gLe, gGt, gGe, pick, Ret.lowC, List.lookup, sn0, sb0, sn1, sb1, sn2, sb2, sn3, sb3, rd_int, rd_str, rd_bl, rd_non, rd_lst, rd_tup, rd_fn, rd_ty, rd_dic, rd_cell, dRev, ds_rev]
theorem unl_nil (P : Int) (xs : List Dd) : unl P xs [] := fun q h => by simp at h
theorem unl_cons {P : Int} {xs : List Dd} {q : Int × List Dd} {qs : List (Int × List Dd)} (h : q ≠ (P, xs)) (hs : unl P xs qs) : unl P xs (q :: qs) := fun r hr => by
  rcases List.mem_cons.mp hr with e | e
  · rw [e]; exact h
  · exact hs r e
theorem eqr_3 (n : Nat) (hn : 60 < n) {P : Int} {xs : List Dd} (g : good P xs) (a b : Int × List Dd) (ha : a ≠ (P, xs)) (hb : b ≠ (P, xs)) (ce : List D) (low : Low ce) :
    ∃ qs, dSt .keep 4 (dBin gAdd (dVar 4) (dIf (dTst (dBin gNe (dVar 5) (dVar 3))) (dLst (dCons (mk_law_equal_right_3 n) dNil)) (dLst dNil))) (qS P xs (some (.val (.lst [hq a, hq b]))) (some (.val (.lst (ds xs.reverse)))) ce) = some (.nx, qS P xs (some (.val (.lst (qs.map hq)))) (some (.val (.lst (ds xs.reverse)))) ce) ∧ unl P xs qs ∧ qs.length ≤ 3 := by
  have ne := gNe_deeds xs.reverse xs
  by_cases z : xs.reverse = xs
  · refine ⟨[a, b], ?_, unl_cons ha (unl_cons hb (unl_nil P xs)), by simp⟩
    have ne' : gNe (.lst (ds xs.reverse)) (.lst (ds xs)) = some (.val (.bl false)) := by rw [ne, decide_eq_true z]; rfl
    have ad := gAdd_lst [hq a, hq b] [] (by simp)
    simp only [List.append_nil] at ad
    simp [qS, runF, startD, fin, retOf, dRet, dRetN, dSeq, dIfS, dNever, dSkip, dSt, putR, DSt.putV, DSt.putO, DSt.putC, dAsg, dDrop, gNm, gTp, gCs, gNl, dTst, dTru, gTru, dNot, dAnd, dOr, dAndV, dOrV, dNotV, dSc, scalD, dBin, dUn, gNeg, dChain, dVar, dC, dCall, dCallK, dAK, dCons, dNil, dTup, dLst, dBi, dIf, rdAll, keepAll, RV.pin, RV.rd, RV.keep, Ret.rv, gI, gIC, gIB, gLt, gLe, gGt, gGe, pick, Ret.lowC, List.lookup, sn0, sb0, sn1, sb1, sn2, sb2, sn3, sb3, rd_int, rd_str, rd_bl, rd_non, rd_lst, rd_tup, rd_fn, rd_ty, rd_dic, rd_cell, dIf, ne', ad]
  · have q : mk_law_equal_right_3 n (qS P xs (some (.val (.lst [hq a, hq b]))) (some (.val (.lst (ds xs.reverse)))) ce) = some (.fresh (hs P xs.reverse), qS P xs (some (.val (.lst [hq a, hq b]))) (some (.val (.lst (ds xs.reverse)))) ce) := by
      refine make_ok n hn (good_rev g) (r1 := .slot 2) (r2 := .slot 5) ?_ rfl rfl (.inl rfl) low
      simp [runF, startD, fin, retOf, dRet, dRetN, dSeq, dIfS, dNever, dSkip, dSt, putR, DSt.putV, DSt.putO, DSt.putC, dAsg, dDrop, gNm, gTp, gCs, gNl, dTst, dTru, gTru, dNot, dAnd, dOr, dAndV, dOrV, dNotV, dSc, scalD, dBin, dUn, gNeg, dChain, dVar, dC, dCall, dCallK, dAK, dCons, dNil, dTup, dLst, dBi, dIf, rdAll, keepAll, RV.pin, RV.rd, RV.keep, Ret.rv, gI, gIC, gIB, gLt, gLe, gGt, gGe, pick, Ret.lowC, List.lookup, sn0, sb0, sn1, sb1, sn2, sb2, sn3, sb3, rd_int, rd_str, rd_bl, rd_non, rd_lst, rd_tup, rd_fn, rd_ty, rd_dic, rd_cell]
    refine ⟨[a, b, (P, xs.reverse)], ?_, unl_cons ha (unl_cons hb (unl_cons (fun e => z (Prod.mk.inj e).2) (unl_nil P xs))), by simp⟩
    have ne' : gNe (.lst (ds xs.reverse)) (.lst (ds xs)) = some (.val (.bl true)) := by rw [ne, decide_eq_false z]; rfl
    have hq3 : hq (P, xs.reverse) = hs P xs.reverse := rfl
    have ad := gAdd_lst [hq a, hq b] [hs P xs.reverse] (by simp)
    simp only [qS] at q ⊢
    simp [runF, startD, fin, retOf, dRet, dRetN, dSeq, dIfS, dNever, dSkip, dSt, putR, DSt.putV, DSt.putO, DSt.putC, dAsg, dDrop, gNm, gTp, gCs, gNl, dTst, dTru, gTru, dNot, dAnd, dOr, dAndV, dOrV, dNotV, dSc, scalD, dBin, dUn, gNeg, dChain, dVar, dC, dCall, dCallK, dAK, dCons, dNil, dTup, dLst, dBi, dIf, rdAll, keepAll, RV.pin, RV.rd, RV.keep, Ret.rv, gI, gIC, gIB, gLt, gLe, gGt, gGe, pick, Ret.lowC, List.lookup, sn0, sb0, sn1, sb1, sn2, sb2, sn3, sb3, rd_int, rd_str, rd_bl, rd_non, rd_lst, rd_tup, rd_fn, rd_ty, rd_dic, rd_cell, dIf, ne', q, ad, hq3]
end L
set_option Elab.async false
set_option linter.all false
set_option maxRecDepth 100000
set_option maxHeartbeats 4000000
namespace L
open PySem L2 EV

theorem eq_not (n : Nat) {P Q : Int} {xs ys : List Dd} (hne : ¬ (P = Q ∧ xs = ys)) {δ : DSt} {fa fb : DE} (h : ∃ r, fa δ = some (r, δ) ∧ r.pin.keep δ = some (hs P xs)) (h' : ∃ r, fb δ = some (r, δ) ∧ r.pin.keep δ = some (hs Q ys)) : dTst (dEqO csL "House" false [0, 1] [] (e_House_eq n) fa fb) δ = some (false, δ) := by
  have q := m_eq n h h'
  rw [decide_eq_false hne] at q
  simp [dTst, q, RV.pin, RV.rd]
theorem eqr_4 (n : Nat) {P : Int} {xs : List Dd} (qs : List (Int × List Dd)) (u : unl P xs qs) (hl : qs.length ≤ 3) (s5 : Option SD) (h5 : ∀ d, s5 ≠ some (.own d)) (ce : List D) (b : DS) : dIfS (dTst (dBin gNe (lc_law_equal_right_4 n) (dLst dNil))) b dSkip (qS P xs (some (.val (.lst (qs.map hq)))) s5 ce) = some (.nx, qS P xs (some (.val (.lst (qs.map hq)))) s5 ce) := by
  have q : lc_law_equal_right_4 n (qS P xs (some (.val (.lst (qs.map hq)))) s5 ce) = some (.fresh (.lst ((qs.filter fun _ => false).map hq)), qS P xs (some (.val (.lst (qs.map hq)))) s5 ce) := by
    refine dLc_typed hq (fun _ => false) hq qs (by simp [orI, iSeq, iTp, runF, startD, fin, retOf, dRet, dRetN, dSeq, dIfS, dNever, dSkip, dSt, putR, DSt.putV, DSt.putO, DSt.putC, dAsg, dDrop, gNm, gTp, gCs, gNl, dTst, dTru, gTru, dNot, dAnd, dOr, dAndV, dOrV, dNotV, dSc, scalD, dBin, dUn, gNeg, dChain, dVar, dC, dCall, dCallK, dAK, dCons, dNil, dTup, dLst, dBi, dIf, rdAll, keepAll, RV.pin, RV.rd, RV.keep, Ret.rv, gI, gIC, gIB, gLt, gLe, gGt, gGe, pick, Ret.lowC, List.lookup, sn0, sb0, sn1, sb1, sn2, sb2, sn3, sb3, rd_int, rd_str, rd_bl, rd_non, rd_lst, rd_tup, rd_fn, rd_ty, rd_dic, rd_cell]) (fun x hx => ?_) (by omega)
    have hne := u x hx
    have n1 : ¬ (P = x.1 ∧ xs = x.2) := fun ⟨a, b⟩ => hne (by rw [a, b])
    have n2 : ¬ (x.1 = P ∧ x.2 = xs) := fun ⟨a, b⟩ => hne (by rw [← a, ← b])
    refine turn_tst (r := .slot 6) rfl (or_false (eq_not n n1 ⟨.slot 1, rfl, rfl⟩ ⟨.slot 6, rfl, rfl⟩) (eq_not n n2 ⟨.slot 6, rfl, rfl⟩ ⟨.slot 1, rfl, rfl⟩)) rfl rfl rfl
  have e : (qs.filter fun _ => false).map hq = [] := by simp
  rw [e] at q
  have ne : gNe (.lst []) (.lst []) = some (.val (.bl false)) := gNe_deeds [] []
  refine skip_if ?_
  simp only [qS] at q ⊢
  simp [runF, startD, fin, retOf, dRet, dRetN, dSeq, dIfS, dNever, dSkip, dSt, putR, DSt.putV, DSt.putO, DSt.putC, dAsg, dDrop, gNm, gTp, gCs, gNl, dTst, dTru, gTru, dNot, dAnd, dOr, dAndV, dOrV, dNotV, dSc, scalD, dBin, dUn, gNeg, dChain, dVar, dC, dCall, dCallK, dAK, dCons, dNil, dTup, dLst, dBi, dIf, rdAll, keepAll, RV.pin, RV.rd, RV.keep, Ret.rv, gI, gIC, gIB, gLt, gLe, gGt, gGe, pick, Ret.lowC, List.lookup, sn0, sb0, sn1, sb1, sn2, sb2, sn3, sb3, rd_int, rd_str, rd_bl, rd_non, rd_lst, rd_tup, rd_fn, rd_ty, rd_dic, rd_cell, q, ne]
theorem eq_oth (n : Nat) {P : Int} {xs : List Dd} {d : D} (ht : d = .non ∨ (∃ i, d = .int i) ∨ (∃ l, d = .lst l) ∨ (∃ l, d = .tup l) ∨ (∃ l, d = .str l) ∨ ∃ k l, d = .dic k l) {δ : DSt} {fa fb : DE} (h : ∃ r, fa δ = some (r, δ) ∧ r.pin.keep δ = some (hs P xs)) (h' : ∃ r, fb δ = some (r, δ) ∧ r.pin.keep δ = some d) : dEqO csL "House" false [0, 1] [] (e_House_eq n) fa fb δ = some (.val (.bl false), δ) := by
  obtain ⟨r, h1, h2⟩ := h
  obtain ⟨r', h3, h4⟩ := h'
  have q := eq_other n P xs d ht δ.ce
  have tg : ∃ t, (rdD δ d).bind (fun y' => y'.tag) = some t ∧ okT csL t = true := by
    rcases ht with rfl | ⟨i, rfl⟩ | ⟨l, rfl⟩ | ⟨l, rfl⟩ | ⟨l, rfl⟩ | ⟨k, l, rfl⟩ <;> exact ⟨_, rfl, rfl⟩
  obtain ⟨t, t1, t2⟩ := tg
  obtain ⟨y', r1, r2⟩ := bnd t1
  simp [dEqO, h1, h2, h3, h4, insOf_hs, r1, r2, t2, pick, q]
def odd6 (P : Int) (xs : List Dd) : List D := [.non, .int 0, .lst (ds xs), .tup [.int P, .lst (ds xs)], .str (rep P xs), .dic [] []]
theorem eqr_5 (n : Nat) {P : Int} {xs : List Dd} (g : good P xs) (qs : List (Int × List Dd)) (s5 : List Dd) (ce : List D) : dNotV (dBi gAny (dCons (lc_law_equal_right_5 n) dNil)) (qS P xs (some (.val (.lst (qs.map hq)))) (some (.val (.lst (ds s5)))) ce) = some (.val (.bl true), qS P xs (some (.val (.lst (qs.map hq)))) (some (.val (.lst (ds s5)))) ce) := by
  have rp := m_repr n g (δ := qS P xs (some (.val (.lst (qs.map hq)))) (some (.val (.lst (ds s5)))) ce) (fas := dCons (dVar 1) dNil) ⟨.slot 1, rfl, rfl⟩
  have q : lc_law_equal_right_5 n (qS P xs (some (.val (.lst (qs.map hq)))) (some (.val (.lst (ds s5)))) ce) = some (.fresh (.lst (((odd6 P xs).filter fun _ => true).map fun _ => .bl false)), qS P xs (some (.val (.lst (qs.map hq)))) (some (.val (.lst (ds s5)))) ce) := by
    refine dLc_typed (fun d => d) (fun _ => true) (fun _ => .bl false) (odd6 P xs) ?_ (fun x hx => ?_) (by simp [odd6])
    · simp only [qS] at rp ⊢
      rw [List.map_id' ]
      simp [orI, iSeq, iTp, runF, startD, fin, retOf, dRet, dRetN, dSeq, dIfS, dNever, dSkip, dSt, putR, DSt.putV, DSt.putO, DSt.putC, dAsg, dDrop, gNm, gTp, gCs, gNl, dTst, dTru, gTru, dNot, dAnd, dOr, dAndV, dOrV, dNotV, dSc, scalD, dBin, dUn, gNeg, dChain, dVar, dC, dCall, dCallK, dAK, dCons, dNil, dTup, dLst, dBi, dIf, rdAll, keepAll, RV.pin, RV.rd, RV.keep, Ret.rv, gI, gIC, gIB, gLt, gLe, gGt, gGe, pick, Ret.lowC, List.lookup, sn0, sb0, sn1, sb1, sn2, sb2, sn3, sb3, rd_int, rd_str, rd_bl, rd_non, rd_lst, rd_tup, rd_fn, rd_ty, rd_dic, rd_cell, rp, odd6]
    · have ht : x = .non ∨ (∃ i, x = .int i) ∨ (∃ l, x = .lst l) ∨ (∃ l, x = .tup l) ∨ (∃ l, x = .str l) ∨ ∃ k l, x = .dic k l := by
        simp only [odd6, List.mem_cons, List.not_mem_nil, _root_.or_false] at hx
        rcases hx with rfl | rfl | rfl | rfl | rfl | rfl
        · exact .inl rfl
        · exact .inr (.inl ⟨_, rfl⟩)
        · exact .inr (.inr (.inl ⟨_, rfl⟩))
        · exact .inr (.inr (.inr (.inl ⟨_, rfl⟩)))
        · exact .inr (.inr (.inr (.inr (.inl ⟨_, rfl⟩))))
        · exact .inr (.inr (.inr (.inr (.inr ⟨_, _, rfl⟩))))
      exact turn_yes (r := .val (.bl false)) rfl (eq_oth n ht ⟨.slot 1, rfl, rfl⟩ ⟨.slot 7, rfl, rfl⟩) rfl rfl
  rw [filter_yes] at q
  simp only [odd6, List.map_cons, List.map_nil] at q
  simp only [qS] at q ⊢
  simp [runF, startD, fin, retOf, dRet, dRetN, dSeq, dIfS, dNever, dSkip, dSt, putR, DSt.putV, DSt.putO, DSt.putC, dAsg, dDrop, gNm, gTp, gCs, gNl, dTst, dTru, gTru, dNot, dAnd, dOr, dAndV, dOrV, dNotV, dSc, scalD, dBin, dUn, gNeg, dChain, dVar, dC, dCall, dCallK, dAK, dCons, dNil, dTup, dLst, dBi, dIf, rdAll, keepAll, RV.pin, RV.rd, RV.keep, Ret.rv, gI, gIC, gIB, gLt, gLe, gGt, gGe, pick, Ret.lowC, List.lookup, sn0, sb0, sn1, sb1, sn2, sb2, sn3, sb3, rd_int, rd_str, rd_bl, rd_non, rd_lst, rd_tup, rd_fn, rd_ty, rd_dic, rd_cell, q, gAny, blsOf]
theorem equal_right_ok (n : Nat) (hn : 60 < n) {P : Int} {xs : List Dd} (g : good P xs) (h : P + 1 ≤ 16) (ce : List D) (low : Low ce) : e_law_equal_right n [.cell 0, hs P xs, .int P, .lst (ds xs)] ce = some (.val (.bl true), ce) := by
  obtain ⟨qs, e3, u, hl⟩ := eqr_3 n hn g (P + 1, xs) (P, alt xs) (fun e => by have := (Prod.mk.inj e).1; omega) (fun e => alt_ne xs (Prod.mk.inj e).2) ce low
  have q1 : hq (P + 1, xs) = hs (P + 1) xs := rfl
  have q2 : hq (P, alt xs) = hs P (alt xs) := rfl
  rw [q1, q2] at e3
  refine run_val (δ := qS P xs (some (.val (.lst (qs.map hq)))) (some (.val (.lst (ds xs.reverse)))) ce) ?_ rfl
  show d_law_equal_right n (qS P xs none none ce) = _
  unfold d_law_equal_right
  rw [seq_nx (eqr_1 n hn g h ce low), seq_nx (eqr_2 _ ce), seq_nx e3, seq_nx (eqr_4 n qs u hl _ (by simp) ce _)]
  exact ret_val (eqr_5 n g qs _ ce)
end L
set_option Elab.async false
set_option linter.all false
set_option maxRecDepth 100000
set_option maxHeartbeats 4000000
namespace L
open PySem L2 EV

/-! ### _law_made -/
theorem call_of {na : Nat} {g : List D → List D → Option (Ret × List D)} {fas : DA} {δ δ1 : DSt} {rs : List RV} {as : List D} {v : Ret} {ce' : List D} (h1 : fas δ = some (rs, δ1)) (h2 : keepAll δ1 rs = some as) (h3 : as.length = na) (h4 : g as δ1.ce = some (v, ce')) : dCall na g fas δ = some (v.rv, ⟨δ1.sl, ce'⟩) := by
  simp [dCall, h1, h2, h3, h4]
theorem c_draw (n : Nat) (m a b : Int) (rest : List D) (h0 : 0 < m) (h1 : m < 1073741824) (po : potOk a b) {sl : List (Option SD)} {fas : DA} {rs : List RV} (hf : fas ⟨sl, pt a b :: rest⟩ = some (rs, ⟨sl, pt a b :: rest⟩)) (hk : keepAll ⟨sl, pt a b :: rest⟩ rs = some [.cell 0, .int m]) :
    ∃ r a' b', dCall 2 (fun ds => e_law_draw n (ds ++ [])) fas ⟨sl, pt a b :: rest⟩ = some (.val (.int r), ⟨sl, pt a' b' :: rest⟩) ∧ 0 ≤ r ∧ r < m ∧ potOk a' b' := by
  obtain ⟨r, a', b', e, r0, r1, po'⟩ := draw_ok n m a b rest h0 h1 po
  exact ⟨r, a', b', call_of (v := .val (.int r)) hf hk rfl e, r0, r1, po'⟩
theorem st_keep {f : DE} {δ δ1 : DSt} {r : RV} {d : D} {i : Nat} (h : f δ = some (r, δ1)) (hk : r.keep δ1 = some d) : dSt .keep i f δ = some (.nx, δ1.putV i d) := by
  simp [dSt, h, hk, putR]
/-- the slots of `_law_made` -/
abbrev mS (P : Int) (xs : List Dd) (s : List (Option SD)) (ce : List D) : DSt := ⟨some (.val (.cell 0)) :: some (.val (hs P xs)) :: some (.val (.int P)) :: some (.val (.lst (ds xs))) :: s, ce⟩
def nn (k : Nat) : List (Option SD) := List.replicate k none
theorem made_0 (n : Nat) {P : Int} {xs : List Dd} (a b : Int) (rest : List D) (po : potOk a b) : ∃ r a' b', dSt .keep 4 (dCall 2 (fun ds => e_law_draw n (ds ++ [])) (dCons (dVar 0) (dCons (dC (.int 6)) dNil))) (mS P xs (none :: nn 11) (pt a b :: rest)) = some (.nx, mS P xs (some (.val (.int r)) :: nn 11) (pt a' b' :: rest)) ∧ 0 ≤ r ∧ r < 6 ∧ potOk a' b' := by
  obtain ⟨r, a', b', e, r0, r1, po'⟩ := c_draw n 6 a b rest (by omega) (by omega) po (sl := (mS P xs (none :: nn 11) []).sl) (fas := dCons (dVar 0) (dCons (dC (.int 6)) dNil)) rfl rfl
  exact ⟨r, a', b', st_keep e rfl, r0, r1, po'⟩
theorem meth0_of {m : Str} {g : List D → List D → Option (Ret × List D)} {fo : DE} {δ δ1 : DSt} {r : RV} {P : Int} {xs : List Dd} {v : Ret} {ce' : List D} (h1 : fo δ = some (r, δ1)) (h2 : r.keep δ1 = some (hs P xs)) (mn : ¬m = ("own_places" : Str) ∧ ¬m = ("own_deeds" : Str)) (h3 : g [hs P xs] δ1.ce = some (v, ce')) : dMeth0 "House" m [0] [] g fo δ = some (v.rv, ⟨δ1.sl, ce'⟩) := by
  simp [dMeth0, h1, h2, insOf_hs, pick, h3, mn]
theorem meth_of {m : Str} {g : List D → List D → Option (Ret × List D)} {fo : DE} {n1 n2 : Nat} {f1 f2 : DA} {δ δ1 δ2 : DSt} {r : RV} {P : Int} {xs : List Dd} {a : D} {v : Ret} {ce' : List D} (h1 : fo δ = some (r, δ1)) (h2 : r.keep δ1 = some (hs P xs)) (mn : ¬m = ("own_places" : Str) ∧ ¬m = ("own_deeds" : Str)) (ha : dAK n1 n2 f1 f2 δ1 = some ([a], δ2)) (h3 : g [hs P xs, a] δ2.ce = some (v, ce')) : dMeth "House" m n1 n2 [0, 1] [] g fo f1 f2 δ = some (v.rv, ⟨δ2.sl, ce'⟩) := by
  simp [dMeth, h1, h2, insOf_hs, pick, h3, mn, ha]
/-- what a turn of `_law_made` answers -/
def mA (P : Int) (xs : List Dd) : D := .tup [hs P xs, .int P, .lst (ds xs)]
theorem tup3 {fa fb fc : DE} {δ δ1 : DSt} {ra rb rc : RV} {Q : Int} {ys : List Dd} (h1 : fa δ = some (ra, δ1)) (h2 : fb δ1 = some (rb, δ1)) (h3 : fc δ1 = some (rc, δ1)) (k1 : ra.pin.keep δ1 = some (hs Q ys)) (k2 : rb.pin.keep δ1 = some (.int Q)) (k3 : rc.pin.keep δ1 = some (.lst (ds ys))) : dRet (dTup (dCons fa (dCons fb (dCons fc dNil)))) δ = some (.rt (.val (mA Q ys)), δ1) := by
  have pv : ∀ d : D, RV.pin (.val d) = .val d := fun _ => rfl
  simp [dRet, dTup, dCons, dNil, h1, h2, h3, keepAll, k1, k2, k3, pv, mA]
theorem made_plain (n : Nat) {P : Int} {xs : List Dd} (s : List (Option SD)) (hs1 : hideO s = s) (hl : xs.length ≤ 60) (ce : List D) (h11 : s.length = 12) : lc_law_made_4 n (mS P xs s ce) = some (.fresh (.lst (ds (anys xs))), mS P xs s ce) := by
  refine dLc_typed Dd.d (fun x => decide (x.w = ("any" : Str))) Dd.d xs (by simp [mS, orI, iSeq, iTp, runF, startD, fin, retOf, dRet, dRetN, dSeq, dIfS, dNever, dSkip, dSt, putR, DSt.putV, DSt.putO, DSt.putC, dAsg, dDrop, gNm, gTp, gCs, gNl, dTst, dTru, gTru, dNot, dAnd, dOr, dAndV, dOrV, dNotV, dSc, scalD, dBin, dUn, gNeg, dChain, dVar, dC, dCall, dCallK, dAK, dCons, dNil, dTup, dLst, dBi, dIf, rdAll, keepAll, RV.pin, RV.rd, RV.keep, Ret.rv, gI, gIC, gIB, gLt, gLe, gGt, gGe, pick, Ret.lowC, List.lookup, sn0, sb0, sn1, sb1, sn2, sb2, sn3, sb3, rd_int, rd_str, rd_bl, rd_non, rd_lst, rd_tup, rd_fn, rd_ty, rd_dic, rd_cell, ds]) (fun x hx => ?_) (by omega)
  match s, h11 with
  | [s4, s5, s6, s7, s8, s9, s10, s11, s12, s13, s14, s15], _ =>
    simp only [hideO, List.map_cons, List.map_nil] at hs1 ⊢
    refine turn_tst (r := .slot 11) rfl ?_ ?_ rfl rfl
    · simp [runF, startD, fin, retOf, dRet, dRetN, dSeq, dIfS, dNever, dSkip, dSt, putR, DSt.putV, DSt.putO, DSt.putC, dAsg, dDrop, gNm, gTp, gCs, gNl, dTst, dTru, gTru, dNot, dAnd, dOr, dAndV, dOrV, dNotV, dSc, scalD, dBin, dUn, gNeg, dChain, dVar, dC, dCall, dCallK, dAK, dCons, dNil, dTup, dLst, dBi, dIf, rdAll, keepAll, RV.pin, RV.rd, RV.keep, Ret.rv, gI, gIC, gIB, gLt, gLe, gGt, gGe, pick, Ret.lowC, List.lookup, sn0, sb0, sn1, sb1, sn2, sb2, sn3, sb3, rd_int, rd_str, rd_bl, rd_non, rd_lst, rd_tup, rd_fn, rd_ty, rd_dic, rd_cell, wipeD, rd_d, ix_d3, gEq_str]
    · simp [runF, startD, fin, retOf, dRet, dRetN, dSeq, dIfS, dNever, dSkip, dSt, putR, DSt.putV, DSt.putO, DSt.putC, dAsg, dDrop, gNm, gTp, gCs, gNl, dTst, dTru, gTru, dNot, dAnd, dOr, dAndV, dOrV, dNotV, dSc, scalD, dBin, dUn, gNeg, dChain, dVar, dC, dCall, dCallK, dAK, dCons, dNil, dTup, dLst, dBi, dIf, rdAll, keepAll, RV.pin, RV.rd, RV.keep, Ret.rv, gI, gIC, gIB, gLt, gLe, gGt, gGe, pick, Ret.lowC, List.lookup, sn0, sb0, sn1, sb1, sn2, sb2, sn3, sb3, rd_int, rd_str, rd_bl, rd_non, rd_lst, rd_tup, rd_fn, rd_ty, rd_dic, rd_cell, wipeD]
theorem skip_eq {fa fb : DE} {δ : DSt} {i j : Int} (h1 : ∃ r, fa δ = some (r, δ) ∧ r.pin.rd δ = some (.int i)) (h2 : ∃ r, fb δ = some (r, δ) ∧ r.pin.rd δ = some (.int j)) : dTst (dBin gEq fa fb) δ = some (decide (i = j), δ) := by
  obtain ⟨r, a1, a2⟩ := h1
  obtain ⟨s, b1, b2⟩ := h2
  simp [dTst, dBin, a1, a2, b1, b2, gEq_int]
theorem take_if {t : DT} {b e : DS} {δ : DSt} (h : t δ = some (true, δ)) : dIfS t b e δ = b δ := by simp [dIfS, h]
theorem seq_rt {f1 f2 : DS} {δ δ1 : DSt} {r : RV} (h : f1 δ = some (.rt r, δ1)) : dSeq f1 f2 δ = some (.rt r, δ1) := by simp [dSeq, h]
/-- case 4: the plain house -/
theorem made_4 (n : Nat) (hn : 60 < n) {P : Int} {xs : List Dd} (g : good P xs) (s : List (Option SD)) (hs1 : hideO s = s) (h11 : s.length = 12) (ce : List D) (low : Low ce) : dRet (dTup (dCons (dMeth0 "House" "plain" [0] [] (e_House_plain n) (dVar 1)) (dCons (dVar 2) (dCons (lc_law_made_4 n) dNil)))) (mS P xs s ce) = some (.rt (.val (mA P (anys xs))), mS P xs s ce) := by
  have q := meth0_of (m := "plain") (g := e_House_plain n) (fo := dVar 1) (δ := mS P xs s ce) (δ1 := mS P xs s ce) (r := .slot 1) (P := P) (xs := xs) rfl rfl (by decide) (plain_ok n hn g ce low)
  exact tup3 (δ1 := mS P xs s ce) q rfl (made_plain n s hs1 g.len ce h11) rfl rfl rfl
/-- case 5: the plain house turned -/
theorem made_tplain (n : Nat) {P : Int} {xs : List Dd} (s : List (Option SD)) (hs1 : hideO s = s) (hl : xs.length ≤ 60) (ce : List D) (h11 : s.length = 12) : lc_law_made_5 n (mS P xs s ce) = some (.fresh (.lst (ds (anys xs))), mS P xs s ce) := made_plain n s hs1 hl ce h11
theorem tn_any {x : Dd} (h : x.w = ("any" : Str)) : tn x = ⟨x.g, 0 - x.c, x.p, x.w⟩ := by rw [h]; rfl
theorem made_turn (n : Nat) {P : Int} {xs zs : List Dd} (hz : ∀ x ∈ zs, x.w = ("any" : Str)) (s4 s6 s7 s8 s9 s10 s11 s12 s13 s14 s15 : Option SD) (hs1 : hideO [s4, s6, s7, s8, s9, s10, s11, s12, s13, s14, s15] = [s4, s6, s7, s8, s9, s10, s11, s12, s13, s14, s15]) (hl : zs.length ≤ 60) (ce : List D) : lc_law_made_6 n (mS P xs [s4, some (.val (.lst (ds zs))), s6, s7, s8, s9, s10, s11, s12, s13, s14, s15] ce) = some (.fresh (.lst (ds (zs.map tn))), mS P xs [s4, some (.val (.lst (ds zs))), s6, s7, s8, s9, s10, s11, s12, s13, s14, s15] ce) := by
  have q := dLc_typed (fi := orI (iSeq (dVar 5)) (iTp (dVar 5))) (g := gTp 4 (gCs (gNm 12) (gCs (gNm 13) (gCs (gNm 14) (gCs (gNm 15) gNl))))) (t := tYesD) (f := dTup (dCons (dVar 14) (dCons (dBin (gI (· - ·)) (dC (.int 0)) (dVar 13)) (dCons (dVar 12) (dCons (dVar 15) dNil))))) (vs := [12, 13, 14, 15]) (δ := mS P xs [s4, some (.val (.lst (ds zs))), s6, s7, s8, s9, s10, s11, s12, s13, s14, s15] ce) (δ1 := mS P xs [s4, some (.val (.lst (ds zs))), s6, s7, s8, s9, s10, s11, s12, s13, s14, s15] ce)
    Dd.d (fun _ => true) (fun x => (tn x).d) zs (by simp [mS, orI, iSeq, iTp, runF, startD, fin, retOf, dRet, dRetN, dSeq, dIfS, dNever, dSkip, dSt, putR, DSt.putV, DSt.putO, DSt.putC, dAsg, dDrop, gNm, gTp, gCs, gNl, dTst, dTru, gTru, dNot, dAnd, dOr, dAndV, dOrV, dNotV, dSc, scalD, dBin, dUn, gNeg, dChain, dVar, dC, dCall, dCallK, dAK, dCons, dNil, dTup, dLst, dBi, dIf, rdAll, keepAll, RV.pin, RV.rd, RV.keep, Ret.rv, gI, gIC, gIB, gLt, gLe, gGt, gGe, pick, Ret.lowC, List.lookup, sn0, sb0, sn1, sb1, sn2, sb2, sn3, sb3, rd_int, rd_str, rd_bl, rd_non, rd_lst, rd_tup, rd_fn, rd_ty, rd_dic, rd_cell, ds]) (fun x hx => by
      simp only [mS, hideO, List.map_cons, List.map_nil, List.cons.injEq] at hs1 ⊢
      rw [tn_any (hz x hx)]
      refine turn_yes (r := .val (Dd.d ⟨x.g, 0 - x.c, x.p, x.w⟩)) rfl ?_ rfl rfl
      simp [runF, startD, fin, retOf, dRet, dRetN, dSeq, dIfS, dNever, dSkip, dSt, putR, DSt.putV, DSt.putO, DSt.putC, dAsg, dDrop, gNm, gTp, gCs, gNl, dTst, dTru, gTru, dNot, dAnd, dOr, dAndV, dOrV, dNotV, dSc, scalD, dBin, dUn, gNeg, dChain, dVar, dC, dCall, dCallK, dAK, dCons, dNil, dTup, dLst, dBi, dIf, rdAll, keepAll, RV.pin, RV.rd, RV.keep, Ret.rv, gI, gIC, gIB, gLt, gLe, gGt, gGe, pick, Ret.lowC, List.lookup, sn0, sb0, sn1, sb1, sn2, sb2, sn3, sb3, rd_int, rd_str, rd_bl, rd_non, rd_lst, rd_tup, rd_fn, rd_ty, rd_dic, rd_cell, wipeD, Dd.d]) (by omega)
  rw [filter_yes] at q
  have e : zs.map (fun x => (tn x).d) = ds (zs.map tn) := by simp [ds]
  rw [e] at q
  exact q
end L
set_option Elab.async false
set_option linter.all false
set_option maxRecDepth 100000
set_option maxHeartbeats 4000000
namespace L
open PySem L2 EV

/-- the slots of `_law_made` once the draw (slot 4) is made -/
abbrev m4 (r : Int) : List (Option SD) := [some (.val (.int r)), none, none, none, none, none, none, none, none, none, none, none]
abbrev mT (n : Nat) : DS := dRet (dTup (dCons (dMeth0 "House" "turned" [0] [] (e_House_turned n) (dMeth0 "House" "plain" [0] [] (e_House_plain n) (dVar 1))) (dCons (dVar 2) (dCons (lc_law_made_6 n) dNil))))
theorem made_5 (n : Nat) (hn : 60 < n) {P : Int} {xs : List Dd} (g : good P xs) (r : Int) (ce : List D) (low : Low ce) : ∃ δ, dSeq (dSt .keep 5 (lc_law_made_5 n)) (mT n) (mS P xs (m4 r) ce) = some (.rt (.val (mA P ((anys xs).map tn))), δ) ∧ δ.ce = ce := by
  have e1 := st_keep (i := 5) (made_tplain n (P := P) (xs := xs) (m4 r) rfl g.len ce rfl) rfl
  have ga := good_any g
  refine ⟨mS P xs [some (.val (.int r)), some (.val (.lst (ds (anys xs)))), none, none, none, none, none, none, none, none, none, none] ce, ?_, rfl⟩
  rw [seq_nx e1]
  have q1 := meth0_of (m := "plain") (g := e_House_plain n) (fo := dVar 1) (δ := mS P xs [some (.val (.int r)), some (.val (.lst (ds (anys xs)))), none, none, none, none, none, none, none, none, none, none] ce) (δ1 := mS P xs [some (.val (.int r)), some (.val (.lst (ds (anys xs)))), none, none, none, none, none, none, none, none, none, none] ce) (r := .slot 1) (P := P) (xs := xs) rfl rfl (by decide) (plain_ok n hn g ce low)
  have q2 := meth0_of (m := "turned") (g := e_House_turned n) (P := P) (xs := anys xs) q1 rfl (by decide) (turned_ok n hn ga anys_all ce low)
  exact tup3 (δ1 := mS P xs [some (.val (.int r)), some (.val (.lst (ds (anys xs)))), none, none, none, none, none, none, none, none, none, none] ce) q2 rfl (made_turn n anys_all _ _ _ _ _ _ _ _ _ _ _ rfl ga.len ce) rfl rfl rfl
theorem tst_bin {g : D → D → Option RV} {fa fb : DE} {δ δ1 δ2 : DSt} {ra rb : RV} {x y : D} {c : Bool} (h1 : fa δ = some (ra, δ1)) (h2 : fb δ1 = some (rb, δ2)) (k1 : ra.pin.rd δ2 = some x) (k2 : rb.pin.rd δ2 = some y) (hg : g x y = some (.val (.bl c))) : dTst (dBin g fa fb) δ = some (c, δ2) := by
  simp [dTst, dBin, h1, h2, k1, k2, hg]
/-- the draw of two -/
theorem coin (n : Nat) (a b : Int) (rest : List D) (po : potOk a b) (t : List (Option SD)) : ∃ (c : Bool) (a' b' : Int), dTst (dBin gEq (dCall 2 (fun ds => e_law_draw n (ds ++ [])) (dCons (dVar 0) (dCons (dC (.int 2)) dNil))) (dC (.int 0))) ⟨some (.val (.cell 0)) :: t, pt a b :: rest⟩ = some (c, ⟨some (.val (.cell 0)) :: t, pt a' b' :: rest⟩) ∧ potOk a' b' := by
  obtain ⟨r, a', b', e, _, _, po'⟩ := c_draw n 2 a b rest (by omega) (by omega) po (sl := some (.val (.cell 0)) :: t) (fas := dCons (dVar 0) (dCons (dC (.int 2)) dNil)) rfl rfl
  refine ⟨decide (r = 0), a', b', ?_, po'⟩
  exact tst_bin e rfl rfl rfl (gEq_int r 0)
theorem dif_of {t : DT} {fa fb : DE} {δ δ1 : DSt} {c : Bool} {v : RV} {δ2 : DSt} (h : t δ = some (c, δ1)) (h1 : fa δ1 = some (v, δ2)) (h2 : fb δ1 = some (v, δ2)) : dIf t fa fb δ = some (v, δ2) := by
  cases c <;> simp [dIf, h, h1, h2]
end L
set_option Elab.async false
set_option linter.all false
set_option maxRecDepth 100000
set_option maxHeartbeats 4000000
namespace L
open PySem L2 EV

/-- the slots of case 2 -/
abbrev m8 (r : Int) (s8 s9 : Option SD) : List (Option SD) := [some (.val (.int r)), none, none, none, s8, s9, none, none, none, none, none, none]
theorem made_ren (n : Nat) {P : Int} {xs : List Dd} {o : List Int} (g : good P xs) (h : ord P o) (r : Int) (ce : List D) : lc_law_made_0 n (mS P xs (m8 r (some (.val (is o))) none) ce) = some (.fresh (.lst (ds (xs.map (mv o)))), mS P xs (m8 r (some (.val (is o))) none) ce) := by
  have q := dLc_typed (fi := orI (iSeq (dVar 3)) (iTp (dVar 3))) (g := gTp 4 (gCs (gNm 12) (gCs (gNm 13) (gCs (gNm 14) (gCs (gNm 15) gNl))))) (t := tYesD) (f := dTup (dCons (dBin gIx (dVar 8) (dVar 12)) (dCons (dVar 13) (dCons (dBin gIx (dVar 8) (dVar 14)) (dCons (dVar 15) dNil))))) (vs := [12, 13, 14, 15]) (δ := mS P xs (m8 r (some (.val (is o))) none) ce) (δ1 := mS P xs (m8 r (some (.val (is o))) none) ce)
    Dd.d (fun _ => true) (fun x => (mv o x).d) xs (by simp [mS, orI, iSeq, iTp, runF, startD, fin, retOf, dRet, dRetN, dSeq, dIfS, dNever, dSkip, dSt, putR, DSt.putV, DSt.putO, DSt.putC, dAsg, dDrop, gNm, gTp, gCs, gNl, dTst, dTru, gTru, dNot, dAnd, dOr, dAndV, dOrV, dNotV, dSc, scalD, dBin, dUn, gNeg, dChain, dVar, dC, dCall, dCallK, dAK, dCons, dNil, dTup, dLst, dBi, dIf, rdAll, keepAll, RV.pin, RV.rd, RV.keep, Ret.rv, gI, gIC, gIB, gLt, gLe, gGt, gGe, pick, Ret.lowC, List.lookup, sn0, sb0, sn1, sb1, sn2, sb2, sn3, sb3, rd_int, rd_str, rd_bl, rd_non, rd_lst, rd_tup, rd_fn, rd_ty, rd_dic, rd_cell, ds]) (fun x hx => by
      obtain ⟨a1, a2, a3, a4, _⟩ := g.ok x hx
      have hl := h.len
      have i1 := ix_is o x.p a1 (by omega)
      have i2 := ix_is o x.g a3 (by omega)
      refine turn_yes (r := .val (mv o x).d) rfl ?_ rfl rfl
      simp [mS, runF, startD, fin, retOf, dRet, dRetN, dSeq, dIfS, dNever, dSkip, dSt, putR, DSt.putV, DSt.putO, DSt.putC, dAsg, dDrop, gNm, gTp, gCs, gNl, dTst, dTru, gTru, dNot, dAnd, dOr, dAndV, dOrV, dNotV, dSc, scalD, dBin, dUn, gNeg, dChain, dVar, dC, dCall, dCallK, dAK, dCons, dNil, dTup, dLst, dBi, dIf, rdAll, keepAll, RV.pin, RV.rd, RV.keep, Ret.rv, gI, gIC, gIB, gLt, gLe, gGt, gGe, pick, Ret.lowC, List.lookup, sn0, sb0, sn1, sb1, sn2, sb2, sn3, sb3, rd_int, rd_str, rd_bl, rd_non, rd_lst, rd_tup, rd_fn, rd_ty, rd_dic, rd_cell, wipeD, hideO, Dd.d, mv, rd_is, i1, i2]) (by have := g.len; omega)
  rw [filter_yes] at q
  have e : xs.map (fun x => (mv o x).d) = ds (xs.map (mv o)) := by simp [ds]
  rw [e] at q
  exact q
theorem lr_ok {f : DE} {δ : DSt} {r : RV} {P : Int} (h1 : f δ = some (r, δ)) (h2 : r.pin.rd δ = some (.int P)) (h0 : 0 ≤ P) (hP : P ≤ 60) : dLr1 f δ = some (.fresh (.lst (rngD 0 (P - 0).toNat)), δ) := by
  have s : smallR 0 P = true := by
    simp only [smallR, decide_eq_true_eq]
    omega
  simp [dLr1, h1, h2, s]
theorem m8_up (P : Int) (xs : List Dd) (r : Int) (ce : List D) (d : D) : (mS P xs (m4 r) ce).putV 8 d = mS P xs (m8 r (some (.val d)) none) ce := rfl
theorem m9_up (P : Int) (xs : List Dd) (r : Int) (ce : List D) (s : Option SD) (d : D) : (mS P xs (m8 r s none) ce).putV 9 d = mS P xs (m8 r s (some (.val d))) ce := rfl
theorem made_2 (n : Nat) (hn : 60 < n) {P : Int} {xs : List Dd} (g : good P xs) (r a b : Int) (po : potOk a b) (rest : List D) (low : ∀ a b, Low (pt a b :: rest)) : ∃ (o : List Int) (a' b' : Int) (δ : DSt), ord P o ∧ dSeq (dSt .keep 8 (dCall 2 (fun ds => e_law_mixed n (ds ++ [])) (dCons (dVar 0) (dCons (dLr1 (dVar 2)) dNil))))
    (dSeq (dSt .keep 9 (lc_law_made_0 n))
    (dRet (dTup (dCons (dIf (dTst (dBin gEq (dCall 2 (fun ds => e_law_draw n (ds ++ [])) (dCons (dVar 0) (dCons (dC (.int 2)) dNil))) (dC (.int 0)))) (dMeth "House" "renumbered" 1 0 [0, 1] [] (e_House_renumbered n) (dVar 1) (dCons (dVar 8) dNil) dNil) (dMeth "House" "renumbered" 0 1 [0, 1] [] (e_House_renumbered n) (dVar 1) dNil (dCons (dBi gTuple (dCons (dVar 8) dNil)) dNil))) (dCons (dVar 2) (dCons (dVar 9) dNil)))))) (mS P xs (m4 r) (pt a b :: rest)) = some (.rt (.val (mA P (xs.map (mv o)))), δ) ∧ δ.ce = pt a' b' :: rest ∧ potOk a' b' := by
  have hP0 := g.P0
  have hP1 := g.P1
  obtain ⟨o, a1, b1, e, ho, po1⟩ := mixed_range n P (by omega) (by omega) a b po rest
  have lr := lr_ok (f := dVar 2) (δ := mS P xs (m4 r) (pt a b :: rest)) (r := .slot 2) (P := P) rfl rfl (by omega) (by omega)
  have hf : dCons (dVar 0) (dCons (dLr1 (dVar 2)) dNil) (mS P xs (m4 r) (pt a b :: rest)) = some ([.slot 0, .fresh (.lst (rngD 0 (P - 0).toNat))], mS P xs (m4 r) (pt a b :: rest)) := by
    have v0 : dVar 0 (mS P xs (m4 r) (pt a b :: rest)) = some (.slot 0, mS P xs (m4 r) (pt a b :: rest)) := rfl
    unfold dCons
    rw [v0, Option.bind_some]
    dsimp only
    rw [lr]
    rfl
  have e1 := st_keep (i := 8) (call_of (na := 2) (g := fun ds => e_law_mixed n (ds ++ [])) (v := .fresh (is o)) hf rfl rfl e) rfl
  have e2 := st_keep (i := 9) (made_ren n g ho r (pt a1 b1 :: rest)) rfl
  obtain ⟨c, a2, b2, ec, po2⟩ := coin n a1 b1 rest po1 (some (.val (hs P xs)) :: some (.val (.int P)) :: some (.val (.lst (ds xs))) :: m8 r (some (.val (is o))) (some (.val (.lst (ds (xs.map (mv o)))))))
  refine ⟨o, a2, b2, mS P xs (m8 r (some (.val (is o))) (some (.val (.lst (ds (xs.map (mv o))))))) (pt a2 b2 :: rest), ho, ?_, rfl, po2⟩
  have k1 := meth_of (m := "renumbered") (g := e_House_renumbered n) (fo := dVar 1) (n1 := 1) (n2 := 0) (f1 := dCons (dVar 8) dNil) (f2 := dNil) (δ := mS P xs (m8 r (some (.val (is o))) (some (.val (.lst (ds (xs.map (mv o))))))) (pt a2 b2 :: rest)) (r := .slot 1) (P := P) (xs := xs) (a := is o) rfl rfl (by decide) rfl (renumbered_ok n hn g ho (is o) (.inl rfl) (pt a2 b2 :: rest) (low a2 b2))
  have k2 := meth_of (m := "renumbered") (g := e_House_renumbered n) (fo := dVar 1) (n1 := 0) (n2 := 1) (f1 := dNil) (f2 := dCons (dBi gTuple (dCons (dVar 8) dNil)) dNil) (δ := mS P xs (m8 r (some (.val (is o))) (some (.val (.lst (ds (xs.map (mv o))))))) (pt a2 b2 :: rest)) (r := .slot 1) (P := P) (xs := xs) (a := isT o) rfl rfl (by decide) rfl (renumbered_ok n hn g ho (isT o) (.inr rfl) (pt a2 b2 :: rest) (low a2 b2))
  rw [seq_nx e1]
  refine (seq_nx e2).trans ?_
  exact tup3 (dif_of ec k1 k2) rfl rfl rfl rfl rfl
end L
set_option Elab.async false
set_option linter.all false
set_option maxRecDepth 100000
set_option maxHeartbeats 4000000
namespace L
open PySem L2 EV

theorem cons_of {f : DE} {fs : DA} {δ δ1 δ2 : DSt} {r : RV} {rs : List RV} (h1 : f δ = some (r, δ1)) (h2 : fs δ1 = some (rs, δ2)) : dCons f fs δ = some (r :: rs, δ2) := by
  simp [dCons, h1, h2]
theorem tup_of {fas : DA} {δ δ1 : DSt} {rs : List RV} {as : List D} (h1 : fas δ = some (rs, δ1)) (h2 : keepAll δ1 rs = some as) (h3 : as.length ≤ 16777216) : dTup fas δ = some (.val (.tup as), δ1) := by
  simp [dTup, h1, h2, h3]
theorem bin_of {g : D → D → Option RV} {fa fb : DE} {δ δ1 δ2 : DSt} {ra rb v : RV} {x y : D} (h1 : fa δ = some (ra, δ1)) (h2 : fb δ1 = some (rb, δ2)) (k1 : ra.pin.rd δ2 = some x) (k2 : rb.pin.rd δ2 = some y) (hg : g x y = some v) : dBin g fa fb δ = some (v, δ2) := by
  simp [dBin, h1, h2, k1, k2, hg]
/-- case 0: the deed drawn -/
abbrev m6 (r : Int) (s6 : Option SD) : List (Option SD) := [some (.val (.int r)), none, s6, none, none, none, none, none, none, none, none, none]
theorem deed_drawn (n : Nat) {P : Int} (xs : List Dd) (h0 : 1 ≤ P) (h1 : P ≤ 16) (r a b : Int) (po : potOk a b) (rest : List D) : ∃ (x : Dd) (a' b' : Int), okD P x ∧ dTup (dCons (dCall 2 (fun ds => e_law_draw n (ds ++ [])) (dCons (dVar 0) (dCons (dVar 2) dNil))) (dCons (dBin (gI (· - ·)) (dCall 2 (fun ds => e_law_draw n (ds ++ [])) (dCons (dVar 0) (dCons (dC (.int 3)) dNil))) (dC (.int 1))) (dCons (dCall 2 (fun ds => e_law_draw n (ds ++ [])) (dCons (dVar 0) (dCons (dVar 2) dNil))) (dCons (dC (.str "any")) dNil)))) (mS P xs (m6 r none) (pt a b :: rest)) = some (.val x.d, mS P xs (m6 r none) (pt a' b' :: rest)) ∧ potOk a' b' := by
  obtain ⟨r1, a1, b1, e1, r10, r11, po1⟩ := c_draw n P a b rest (by omega) (by omega) po (sl := (mS P xs (m6 r none) []).sl) (fas := dCons (dVar 0) (dCons (dVar 2) dNil)) rfl rfl
  obtain ⟨r2, a2, b2, e2, r20, r21, po2⟩ := c_draw n 3 a1 b1 rest (by omega) (by omega) po1 (sl := (mS P xs (m6 r none) []).sl) (fas := dCons (dVar 0) (dCons (dC (.int 3)) dNil)) rfl rfl
  obtain ⟨r3, a3, b3, e3, r30, r31, po3⟩ := c_draw n P a2 b2 rest (by omega) (by omega) po2 (sl := (mS P xs (m6 r none) []).sl) (fas := dCons (dVar 0) (dCons (dVar 2) dNil)) rfl rfl
  refine ⟨⟨r1, r2 - 1, r3, "any"⟩, a3, b3, ⟨r10, r11, r30, r31, .inl ⟨rfl, by show -1 ≤ r2 - 1; omega, by show r2 - 1 ≤ 1; omega⟩⟩, ?_, po3⟩
  exact tup_of (cons_of e1 (cons_of (bin_of e2 rfl rfl rfl (gSub_int r2 1)) (cons_of e3 rfl))) rfl (by simp)
theorem lst_of {fas : DA} {δ δ1 : DSt} {rs : List RV} {as : List D} (h1 : fas δ = some (rs, δ1)) (h2 : keepAll δ1 rs = some as) (h3 : as.length ≤ 16777216) : dLst fas δ = some (.fresh (.lst as), δ1) := by
  simp [dLst, h1, h2, h3]
theorem made_c0 (n : Nat) (hn : 60 < n) {P : Int} {xs : List Dd} (g : good P xs) (hl : xs.length < 60) (r a b : Int) (po : potOk a b) (rest : List D) (low : ∀ a b, Low (pt a b :: rest)) (x : Dd) (ok : okD P x) : ∃ (ys : List Dd) (a' b' : Int) (δ : DSt), good P ys ∧ ys.length ≤ xs.length + 1 ∧
    dSeq (dIfS (dTst (dBin (gIn false) (dVar 6) (dVar 3))) (dRet (dTup (dCons (dVar 1) (dCons (dVar 2) (dCons (dVar 3) dNil))))) dSkip)
    (dRet (dTup (dCons (dIf (dTst (dBin gEq (dCall 2 (fun ds => e_law_draw n (ds ++ [])) (dCons (dVar 0) (dCons (dC (.int 2)) dNil))) (dC (.int 0)))) (dMeth "House" "with_deed" 1 0 [0, 1] [] (e_House_with_deed n) (dVar 1) (dCons (dVar 6) dNil) dNil) (dMeth "House" "with_deed" 0 1 [0, 1] [] (e_House_with_deed n) (dVar 1) dNil (dCons (dVar 6) dNil))) (dCons (dVar 2) (dCons (dBin gAdd (dVar 3) (dLst (dCons (dVar 6) dNil))) dNil))))) (mS P xs (m6 r (some (.val x.d))) (pt a b :: rest)) = some (.rt (.val (mA P ys)), δ) ∧ δ.ce = pt a' b' :: rest ∧ potOk a' b' := by
  have q := gIn_deeds false xs x
  by_cases hx : x ∈ xs
  · refine ⟨xs, a, b, mS P xs (m6 r (some (.val x.d))) (pt a b :: rest), g, by omega, ?_, rfl, po⟩
    have t : dTst (dBin (gIn false) (dVar 6) (dVar 3)) (mS P xs (m6 r (some (.val x.d))) (pt a b :: rest)) = some (true, mS P xs (m6 r (some (.val x.d))) (pt a b :: rest)) := tst_bin (ra := .slot 6) (rb := .slot 3) rfl rfl rfl rfl (by simpa [hx] using q)
    refine seq_rt ?_
    rw [take_if t]
    exact tup3 (ra := .slot 1) (rb := .slot 2) (rc := .slot 3) rfl rfl rfl rfl rfl rfl
  · have gd := good_add g hx ok hl
    have t : dTst (dBin (gIn false) (dVar 6) (dVar 3)) (mS P xs (m6 r (some (.val x.d))) (pt a b :: rest)) = some (false, mS P xs (m6 r (some (.val x.d))) (pt a b :: rest)) := tst_bin (ra := .slot 6) (rb := .slot 3) rfl rfl rfl rfl (by simpa [hx] using q)
    obtain ⟨c, a2, b2, ec, po2⟩ := coin n a b rest po (some (.val (hs P xs)) :: some (.val (.int P)) :: some (.val (.lst (ds xs))) :: m6 r (some (.val x.d)))
    refine ⟨xs ++ [x], a2, b2, mS P xs (m6 r (some (.val x.d))) (pt a2 b2 :: rest), gd, by simp, ?_, rfl, po2⟩
    have w := with_deed_ok n hn gd (pt a2 b2 :: rest) (low a2 b2)
    have k1 := meth_of (m := "with_deed") (g := e_House_with_deed n) (fo := dVar 1) (n1 := 1) (n2 := 0) (f1 := dCons (dVar 6) dNil) (f2 := dNil) (δ := mS P xs (m6 r (some (.val x.d))) (pt a2 b2 :: rest)) (r := .slot 1) (P := P) (xs := xs) (a := x.d) rfl rfl (by decide) rfl w
    have k2 := meth_of (m := "with_deed") (g := e_House_with_deed n) (fo := dVar 1) (n1 := 0) (n2 := 1) (f1 := dNil) (f2 := dCons (dVar 6) dNil) (δ := mS P xs (m6 r (some (.val x.d))) (pt a2 b2 :: rest)) (r := .slot 1) (P := P) (xs := xs) (a := x.d) rfl rfl (by decide) rfl w
    have ad : gAdd (.lst (ds xs)) (.lst [x.d]) = some (.fresh (.lst (ds (xs ++ [x])))) := gAdd_ds xs [x] (by simp; omega)
    refine (seq_nx (skip_if t)).trans ?_
    exact tup3 (dif_of ec k1 k2) rfl (bin_of (ra := .slot 3) rfl (lst_of (rs := [.slot 6]) rfl rfl (by simp)) rfl rfl ad) rfl rfl rfl
end L
set_option Elab.async false
set_option linter.all false
set_option maxRecDepth 100000
set_option maxHeartbeats 4000000
namespace L
open PySem L2 EV

/-! case 1: a deed left out -/
abbrev m7 (r : Int) (s7 : Option SD) : List (Option SD) := [some (.val (.int r)), none, none, s7, none, none, none, none, none, none, none, none]
theorem cut_sum {δ : DSt} {xs : List Dd} {i : Nat} (hi : i < xs.length) (hl : xs.length ≤ 60) (h3 : dVar 3 δ = some (.slot 3, δ)) (k3 : (RV.slot 3).pin.rd δ = some (.lst (ds xs))) (h7 : dVar 7 δ = some (.slot 7, δ)) (k7 : (RV.slot 7).pin.rd δ = some (.int (i : Int))) : dBin gAdd (dSl (dVar 3) dNoP (dPart (dVar 7))) (dSl (dVar 3) (dPart (dBin gAdd (dVar 7) (dC (.int 1)))) dNoP) δ = some (.fresh (.lst (ds (cut xs i))), δ) := by
  have a := gAdd_ds (xs.take i) (xs.drop (i + 1)) (by simp; omega)
  have c1 := cut_lo xs i
  have c2 := cut_hi xs (i + 1) hi
  rw [Int.natCast_add] at c2
  have c2 : cutD (ds xs) (some ((i : Int) + 1)) none = ds (xs.drop (i + 1)) := c2
  have b7 : dBin gAdd (dVar 7) (dC (.int 1)) δ = some (.val (.int ((i : Int) + 1)), δ) := bin_of h7 rfl k7 rfl (gAdd_int _ _)
  have p7 : dPart (dVar 7) δ = some (some (i : Int), δ) := by simp [dPart, h7, k7]
  have p8 : dPart (dBin gAdd (dVar 7) (dC (.int 1))) δ = some (some ((i : Int) + 1), δ) := by
    unfold dPart
    rw [b7]
    rfl
  have s1 : dSl (dVar 3) dNoP (dPart (dVar 7)) δ = some (.fresh (.lst (ds (xs.take i))), δ) := by
    have np : dNoP δ = some (none, δ) := rfl
    simp [dSl, h3, np, p7, k3, gSl, c1]
  have s2 : dSl (dVar 3) (dPart (dBin gAdd (dVar 7) (dC (.int 1)))) dNoP δ = some (.fresh (.lst (ds (xs.drop (i + 1)))), δ) := by
    have np : ∀ δ, dNoP δ = some (none, δ) := fun _ => rfl
    simp [dSl, h3, np, p8, k3, gSl, c2]
  exact bin_of s1 s2 rfl rfl a
theorem made_1 (n : Nat) (hn : 60 < n) {P : Int} {xs : List Dd} (g : good P xs) (hx : xs ≠ []) (r a b : Int) (po : potOk a b) (rest : List D) (low : ∀ a b, Low (pt a b :: rest)) : ∃ (ys : List Dd) (a' b' : Int) (δ : DSt), good P ys ∧ ys.length ≤ xs.length ∧
    dSeq (dSt .keep 7 (dCall 2 (fun ds => e_law_draw n (ds ++ [])) (dCons (dVar 0) (dCons (dBi gLen (dCons (dVar 3) dNil)) dNil))))
    (dRet (dTup (dCons (dIf (dTst (dBin gEq (dCall 2 (fun ds => e_law_draw n (ds ++ [])) (dCons (dVar 0) (dCons (dC (.int 2)) dNil))) (dC (.int 0)))) (dMeth "House" "without_deed" 1 0 [0, 1] [] (e_House_without_deed n) (dVar 1) (dCons (dVar 7) dNil) dNil) (dMeth "House" "without_deed" 0 1 [0, 1] [] (e_House_without_deed n) (dVar 1) dNil (dCons (dVar 7) dNil))) (dCons (dVar 2) (dCons (dBin gAdd (dSl (dVar 3) dNoP (dPart (dVar 7))) (dSl (dVar 3) (dPart (dBin gAdd (dVar 7) (dC (.int 1)))) dNoP)) dNil))))) (mS P xs (m4 r) (pt a b :: rest)) = some (.rt (.val (mA P ys)), δ) ∧ δ.ce = pt a' b' :: rest ∧ potOk a' b' := by
  have hl := g.len
  have hp : 1 ≤ xs.length := List.length_pos_iff.mpr hx
  obtain ⟨j, hj⟩ : ∃ j : Int, (xs.length : Int) = j := ⟨_, rfl⟩
  have gl : gLen [.lst (ds xs)] = some (.val (.int j)) := by rw [← hj]; simp [gLen, ds_len]
  have bl : dBi gLen (dCons (dVar 3) dNil) (mS P xs (m4 r) (pt a b :: rest)) = some (.val (.int j), mS P xs (m4 r) (pt a b :: rest)) := by
    have v : dCons (dVar 3) dNil (mS P xs (m4 r) (pt a b :: rest)) = some ([.slot 3], mS P xs (m4 r) (pt a b :: rest)) := rfl
    have k : rdAll (mS P xs (m4 r) (pt a b :: rest)) [.slot 3] = some [.lst (ds xs)] := rfl
    simp [dBi, v, k, gl]
  have hf : dCons (dVar 0) (dCons (dBi gLen (dCons (dVar 3) dNil)) dNil) (mS P xs (m4 r) (pt a b :: rest)) = some ([.slot 0, .val (.int j)], mS P xs (m4 r) (pt a b :: rest)) := cons_of rfl (cons_of bl rfl)
  obtain ⟨i0, a1, b1, e1, i00, i01, po1⟩ := c_draw n j a b rest (by omega) (by omega) po hf rfl
  obtain ⟨i, rfl⟩ : ∃ i : Nat, i0 = (i : Int) := ⟨i0.toNat, by omega⟩
  have hi : i < xs.length := by omega
  obtain ⟨c, a2, b2, ec, po2⟩ := coin n a1 b1 rest po1 (some (.val (hs P xs)) :: some (.val (.int P)) :: some (.val (.lst (ds xs))) :: m7 r (some (.val (.int (i : Int)))))
  refine ⟨cut xs i, a2, b2, mS P xs (m7 r (some (.val (.int (i : Int))))) (pt a2 b2 :: rest), good_sub g (cut_sub xs i), (cut_sub xs i).length_le, ?_, rfl, po2⟩
  have w := without_deed_ok n hn g i hi (pt a2 b2 :: rest) (low a2 b2)
  have k1 := meth_of (m := "without_deed") (g := e_House_without_deed n) (fo := dVar 1) (n1 := 1) (n2 := 0) (f1 := dCons (dVar 7) dNil) (f2 := dNil) (δ := mS P xs (m7 r (some (.val (.int (i : Int))))) (pt a2 b2 :: rest)) (r := .slot 1) (P := P) (xs := xs) (a := .int (i : Int)) rfl rfl (by decide) rfl w
  have k2 := meth_of (m := "without_deed") (g := e_House_without_deed n) (fo := dVar 1) (n1 := 0) (n2 := 1) (f1 := dNil) (f2 := dCons (dVar 7) dNil) (δ := mS P xs (m7 r (some (.val (.int (i : Int))))) (pt a2 b2 :: rest)) (r := .slot 1) (P := P) (xs := xs) (a := .int (i : Int)) rfl rfl (by decide) rfl w
  refine (seq_nx (st_keep e1 rfl)).trans ?_
  exact tup3 (dif_of ec k1 k2) rfl (cut_sum hi hl rfl rfl rfl rfl) rfl rfl rfl
end L
set_option Elab.async false
set_option linter.all false
set_option maxRecDepth 100000
set_option maxHeartbeats 4000000
namespace L
open PySem L2 EV

/-! case 3: two houses side by side -/
abbrev m10 (r : Int) (s9 s10 : Option SD) : List (Option SD) := [some (.val (.int r)), none, none, none, none, s9, s10, none, none, none, none, none]
theorem made_sh (n : Nat) {P : Int} {xs ys : List Dd} (hl : ys.length ≤ 60) (r : Int) (ce : List D) : lc_law_made_1 n (mS P xs (m10 r none (some (.val (.lst (ds ys))))) ce) = some (.fresh (.lst (ds (ys.map (sh P)))), mS P xs (m10 r none (some (.val (.lst (ds ys))))) ce) := by
  have q := dLc_typed (fi := orI (iSeq (dVar 10)) (iTp (dVar 10))) (g := gTp 4 (gCs (gNm 12) (gCs (gNm 13) (gCs (gNm 14) (gCs (gNm 15) gNl))))) (t := tYesD) (f := dTup (dCons (dBin gAdd (dVar 12) (dVar 2)) (dCons (dVar 13) (dCons (dBin gAdd (dVar 14) (dVar 2)) (dCons (dVar 15) dNil))))) (vs := [12, 13, 14, 15]) (δ := mS P xs (m10 r none (some (.val (.lst (ds ys))))) ce) (δ1 := mS P xs (m10 r none (some (.val (.lst (ds ys))))) ce)
    Dd.d (fun _ => true) (fun x => (sh P x).d) ys (by simp [mS, orI, iSeq, iTp, runF, startD, fin, retOf, dRet, dRetN, dSeq, dIfS, dNever, dSkip, dSt, putR, DSt.putV, DSt.putO, DSt.putC, dAsg, dDrop, gNm, gTp, gCs, gNl, dTst, dTru, gTru, dNot, dAnd, dOr, dAndV, dOrV, dNotV, dSc, scalD, dBin, dUn, gNeg, dChain, dVar, dC, dCall, dCallK, dAK, dCons, dNil, dTup, dLst, dBi, dIf, rdAll, keepAll, RV.pin, RV.rd, RV.keep, Ret.rv, gI, gIC, gIB, gLt, gLe, gGt, gGe, pick, Ret.lowC, List.lookup, sn0, sb0, sn1, sb1, sn2, sb2, sn3, sb3, rd_int, rd_str, rd_bl, rd_non, rd_lst, rd_tup, rd_fn, rd_ty, rd_dic, rd_cell, ds]) (fun x hx => by
      refine turn_yes (r := .val (sh P x).d) rfl ?_ rfl rfl
      simp [mS, runF, startD, fin, retOf, dRet, dRetN, dSeq, dIfS, dNever, dSkip, dSt, putR, DSt.putV, DSt.putO, DSt.putC, dAsg, dDrop, gNm, gTp, gCs, gNl, dTst, dTru, gTru, dNot, dAnd, dOr, dAndV, dOrV, dNotV, dSc, scalD, dBin, dUn, gNeg, dChain, dVar, dC, dCall, dCallK, dAK, dCons, dNil, dTup, dLst, dBi, dIf, rdAll, keepAll, RV.pin, RV.rd, RV.keep, Ret.rv, gI, gIC, gIB, gLt, gLe, gGt, gGe, pick, Ret.lowC, List.lookup, sn0, sb0, sn1, sb1, sn2, sb2, sn3, sb3, rd_int, rd_str, rd_bl, rd_non, rd_lst, rd_tup, rd_fn, rd_ty, rd_dic, rd_cell, wipeD, hideO, Dd.d, sh, gAdd_int]) (by omega)
  rw [filter_yes] at q
  have e : ys.map (fun x => (sh P x).d) = ds (ys.map (sh P)) := by simp [ds]
  rw [e] at q
  exact q
theorem made_3 (n : Nat) (hn : 60 < n) {P : Int} {xs : List Dd} (g : good P xs) (hP : P < 9) (hx : xs.length < 20) (r a b : Int) (po : potOk a b) (rest : List D) (low : ∀ a b, Low (pt a b :: rest)) : ∃ (ys : List Dd) (a' b' : Int) (δ : DSt), good (P + 2) ys ∧ ys.length ≤ xs.length + 2 ∧
    dSeq (dSt .keep 10 (dCall 4 (fun ds => e_law_deeds n (ds ++ [])) (dCons (dVar 0) (dCons (dC (.int 2)) (dCons (dC (.int 2)) (dCons (dC (.bl true)) dNil))))))
    (dSeq (dSt .keep 9 (lc_law_made_1 n))
    (dRet (dTup (dCons (dIf (dTst (dBin gEq (dCall 2 (fun ds => e_law_draw n (ds ++ [])) (dCons (dVar 0) (dCons (dC (.int 2)) dNil))) (dC (.int 0)))) (dMeth "House" "beside" 1 0 [0, 1] [] (e_House_beside n) (dVar 1) (dCons (mk_law_made_2 n) dNil) dNil) (dMeth "House" "beside" 0 1 [0, 1] [] (e_House_beside n) (dVar 1) dNil (dCons (mk_law_made_3 n) dNil))) (dCons (dBin gAdd (dVar 2) (dC (.int 2))) (dCons (dBin gAdd (dVar 3) (dVar 9)) dNil)))))) (mS P xs (m4 r) (pt a b :: rest)) = some (.rt (.val (mA (P + 2) ys)), δ) ∧ δ.ce = pt a' b' :: rest ∧ potOk a' b' := by
  obtain ⟨zs, a1, b1, e, pz, lz, po1⟩ := deeds_drawn n 2 2 (by omega) (by omega) (by omega) (by omega) a b po rest
  have gz : good 2 zs := ⟨by omega, by omega, pz.ok, pz.nd, by omega⟩
  have e1 := st_keep (i := 10) (call_of (na := 4) (g := fun ds => e_law_deeds n (ds ++ [])) (fas := dCons (dVar 0) (dCons (dC (.int 2)) (dCons (dC (.int 2)) (dCons (dC (.bl true)) dNil)))) (δ := mS P xs (m4 r) (pt a b :: rest)) (v := .fresh (.lst (ds zs))) rfl rfl rfl e) rfl
  have e2 := st_keep (i := 9) (made_sh n (P := P) (xs := xs) gz.len r (pt a1 b1 :: rest)) rfl
  obtain ⟨c, a2, b2, ec, po2⟩ := coin n a1 b1 rest po1 (some (.val (hs P xs)) :: some (.val (.int P)) :: some (.val (.lst (ds xs))) :: m10 r (some (.val (.lst (ds (zs.map (sh P)))))) (some (.val (.lst (ds zs)))))
  have gb := good_sh g gz (by omega) (by omega)
  refine ⟨xs ++ zs.map (sh P), a2, b2, mS P xs (m10 r (some (.val (.lst (ds (zs.map (sh P)))))) (some (.val (.lst (ds zs))))) (pt a2 b2 :: rest), gb, by simp; omega, ?_, rfl, po2⟩
  have w := beside_ok n hn g gz (by omega) (by omega) (pt a2 b2 :: rest) (low a2 b2)
  have mk : mk_law_made_2 n (mS P xs (m10 r (some (.val (.lst (ds (zs.map (sh P)))))) (some (.val (.lst (ds zs))))) (pt a2 b2 :: rest)) = some (.fresh (hs 2 zs), mS P xs (m10 r (some (.val (.lst (ds (zs.map (sh P)))))) (some (.val (.lst (ds zs))))) (pt a2 b2 :: rest)) :=
    make_ok n hn gz (r1 := .val (.int 2)) (r2 := .slot 10) rfl rfl rfl (.inl rfl) (low a2 b2)
  have ak1 : dAK 1 0 (dCons (mk_law_made_2 n) dNil) dNil (mS P xs (m10 r (some (.val (.lst (ds (zs.map (sh P)))))) (some (.val (.lst (ds zs))))) (pt a2 b2 :: rest)) = some ([hs 2 zs], mS P xs (m10 r (some (.val (.lst (ds (zs.map (sh P)))))) (some (.val (.lst (ds zs))))) (pt a2 b2 :: rest)) := by
    simp [dAK, dCons, mk, dNil, keepAll, RV.pin, RV.keep]
  have ak2 : dAK 0 1 dNil (dCons (mk_law_made_3 n) dNil) (mS P xs (m10 r (some (.val (.lst (ds (zs.map (sh P)))))) (some (.val (.lst (ds zs))))) (pt a2 b2 :: rest)) = some ([hs 2 zs], mS P xs (m10 r (some (.val (.lst (ds (zs.map (sh P)))))) (some (.val (.lst (ds zs))))) (pt a2 b2 :: rest)) := by
    have mk3 : mk_law_made_3 n = mk_law_made_2 n := rfl
    rw [mk3]
    simp [dAK, dCons, mk, dNil, keepAll, RV.pin, RV.keep]
  have k1 := meth_of (m := "beside") (g := e_House_beside n) (fo := dVar 1) (δ := mS P xs (m10 r (some (.val (.lst (ds (zs.map (sh P)))))) (some (.val (.lst (ds zs))))) (pt a2 b2 :: rest)) (r := .slot 1) (P := P) (xs := xs) rfl rfl (by decide) ak1 w
  have k2 := meth_of (m := "beside") (g := e_House_beside n) (fo := dVar 1) (δ := mS P xs (m10 r (some (.val (.lst (ds (zs.map (sh P)))))) (some (.val (.lst (ds zs))))) (pt a2 b2 :: rest)) (r := .slot 1) (P := P) (xs := xs) rfl rfl (by decide) ak2 w
  have ad := gAdd_ds xs (zs.map (sh P)) (by simp; omega)
  refine (seq_nx e1).trans ((seq_nx e2).trans ?_)
  exact tup3 (dif_of ec k1 k2) (bin_of (ra := .slot 2) rfl rfl rfl rfl (gAdd_int P 2)) (bin_of (ra := .slot 3) (rb := .slot 9) rfl rfl rfl rfl ad) rfl rfl rfl
end L
set_option Elab.async false
set_option linter.all false
set_option maxRecDepth 100000
set_option maxHeartbeats 4000000
namespace L
open PySem L2 EV

/-! the join of `_law_made` -/
theorem m4_up (P : Int) (xs : List Dd) (r : Int) (ce : List D) : mS P xs (some (.val (.int r)) :: nn 11) ce = mS P xs (m4 r) ce := rfl
theorem is_r {P : Int} {xs : List Dd} {r : Int} {ce : List D} (k : Int) : dTst (dBin gEq (dVar 4) (dC (.int k))) (mS P xs (m4 r) ce) = some (decide (r = k), mS P xs (m4 r) ce) :=
  tst_bin (ra := .slot 4) rfl rfl rfl rfl (gEq_int r k)
theorem isn_r {P : Int} {xs : List Dd} {r : Int} {ce : List D} {k : Int} (h : ¬ r = k) : dTst (dBin gEq (dVar 4) (dC (.int k))) (mS P xs (m4 r) ce) = some (false, mS P xs (m4 r) ce) := by
  rw [is_r, decide_eq_false h]
theorem isy_r {P : Int} {xs : List Dd} {r : Int} {ce : List D} {k : Int} (h : r = k) : dTst (dBin gEq (dVar 4) (dC (.int k))) (mS P xs (m4 r) ce) = some (true, mS P xs (m4 r) ce) := by
  rw [is_r, decide_eq_true h]
theorem and_of {t1 t2 : DT} {δ : DSt} {b1 b2 : Bool} (h1 : t1 δ = some (b1, δ)) (h2 : t2 δ = some (b2, δ)) : dAnd t1 t2 δ = some (b1 && b2, δ) := by
  cases b1 <;> simp [dAnd, h1, h2]
theorem ne_nil {P : Int} {xs : List Dd} {r : Int} {ce : List D} : dTst (dBin gNe (dVar 3) (dLst dNil)) (mS P xs (m4 r) ce) = some (!decide (xs = []), mS P xs (m4 r) ce) :=
  tst_bin (ra := .slot 3) (rb := .fresh (.lst [])) rfl rfl rfl rfl (gNe_deeds xs [])
theorem gLt_ok (i j : Int) : gLt (.int i) (.int j) = some (.val (.bl (decide (i < j)))) := by
  simp [gLt, gIB, gI]
theorem lt_9 {P : Int} {xs : List Dd} {r : Int} {ce : List D} : dTst (dBin gLt (dVar 2) (dC (.int 9))) (mS P xs (m4 r) ce) = some (decide (P < 9), mS P xs (m4 r) ce) :=
  tst_bin (ra := .slot 2) rfl rfl rfl rfl (gLt_ok P 9)
theorem lt_20 {P : Int} {xs : List Dd} {r : Int} {ce : List D} : dTst (dBin gLt (dBi gLen (dCons (dVar 3) dNil)) (dC (.int 20))) (mS P xs (m4 r) ce) = some (decide ((xs.length : Int) < 20), mS P xs (m4 r) ce) := by
  obtain ⟨j, hj⟩ : ∃ j : Int, (xs.length : Int) = j := ⟨_, rfl⟩
  have gl : gLen [.lst (ds xs)] = some (.val (.int j)) := by rw [← hj]; simp [gLen, ds_len]
  have bl : dBi gLen (dCons (dVar 3) dNil) (mS P xs (m4 r) ce) = some (.val (.int j), mS P xs (m4 r) ce) := by
    have v : dCons (dVar 3) dNil (mS P xs (m4 r) ce) = some ([.slot 3], mS P xs (m4 r) ce) := rfl
    have k : rdAll (mS P xs (m4 r) ce) [.slot 3] = some [.lst (ds xs)] := rfl
    simp [dBi, v, k, gl]
  rw [hj]
  exact tst_bin bl rfl rfl rfl (gLt_ok j 20)
structure mR (n : Nat) (P : Int) (xs : List Dd) (a b : Int) (rest : List D) (r : Int) (f : DS) : Prop where
  go : ∃ (Q : Int) (ys : List Dd) (a' b' : Int) (δ : DSt), good Q ys ∧ Q ≤ 10 ∧ ys.length ≤ xs.length + 2 ∧ f (mS P xs (m4 r) (pt a b :: rest)) = some (.rt (.val (mA Q ys)), δ) ∧ δ.ce = pt a' b' :: rest ∧ potOk a' b'
theorem mR.skip {n : Nat} {P : Int} {xs : List Dd} {a b : Int} {rest : List D} {r : Int} {t : DT} {f g : DS} (h : mR n P xs a b rest r g) (ht : t (mS P xs (m4 r) (pt a b :: rest)) = some (false, mS P xs (m4 r) (pt a b :: rest))) : mR n P xs a b rest r (dSeq (dIfS t f dSkip) g) := by
  obtain ⟨Q, ys, a', b', δ, h1, h2, h3, h4, h5, h6⟩ := h.go
  exact ⟨Q, ys, a', b', δ, h1, h2, h3, (seq_nx (skip_if ht)).trans h4, h5, h6⟩
theorem mR.take {n : Nat} {P : Int} {xs : List Dd} {a b : Int} {rest : List D} {r : Int} {t : DT} {f g : DS} (h : mR n P xs a b rest r f) (ht : t (mS P xs (m4 r) (pt a b :: rest)) = some (true, mS P xs (m4 r) (pt a b :: rest))) : mR n P xs a b rest r (dSeq (dIfS t f dSkip) g) := by
  obtain ⟨Q, ys, a', b', δ, h1, h2, h3, h4, h5, h6⟩ := h.go
  exact ⟨Q, ys, a', b', δ, h1, h2, h3, seq_rt ((take_if ht).trans h4), h5, h6⟩
theorem made_ok (n : Nat) (hn : 60 < n) {P : Int} {xs : List Dd} (g : good P xs) (hP : P ≤ 10) (hx : xs.length ≤ 40) (a b : Int) (po : potOk a b) (rest : List D) (low : ∀ a b, Low (pt a b :: rest)) :
    ∃ (Q : Int) (ys : List Dd) (a' b' : Int), e_law_made n [.cell 0, hs P xs, .int P, .lst (ds xs)] (pt a b :: rest) = some (.val (mA Q ys), pt a' b' :: rest) ∧ good Q ys ∧ Q ≤ 10 ∧ ys.length ≤ xs.length + 2 ∧ potOk a' b' := by
  have hP0 := g.P0
  have hP1 := g.P1
  have la : (anys xs).length ≤ xs.length := List.length_filter_le _ _
  obtain ⟨r, a1, b1, e0, r0, r1, po1⟩ := made_0 n (P := P) (xs := xs) a b rest po
  suffices h : ∃ f : DS, d_law_made n = dSeq (dSt .keep 4 (dCall 2 (fun ds => e_law_draw n (ds ++ [])) (dCons (dVar 0) (dCons (dC (.int 6)) dNil)))) f ∧ mR n P xs a1 b1 rest r f by
    obtain ⟨f, hf, hm⟩ := h
    obtain ⟨Q, ys, a', b', δ, h1, h2, h3, h4, h5, h6⟩ := hm.go
    refine ⟨Q, ys, a', b', ?_, h1, h2, h3, h6⟩
    have e : runF 16 (d_law_made n) [.cell 0, hs P xs, .int P, .lst (ds xs)] (pt a b :: rest) = some (.val (mA Q ys), δ.ce) := by
      have e : d_law_made n (mS P xs (none :: nn 11) (pt a b :: rest)) = some (.rt (.val (mA Q ys)), δ) := by
        rw [hf]
        exact (seq_nx e0).trans h4
      have hc : δ.ce.length = (pt a b :: rest).length := by rw [h5]; rfl
      have s : startD 16 [.cell 0, hs P xs, .int P, .lst (ds xs)] (pt a b :: rest) = mS P xs (none :: nn 11) (pt a b :: rest) := rfl
      unfold runF
      rw [s, e, Option.bind_some]
      simp [retOf, fin, hc]
    rw [h5] at e
    exact e
  refine ⟨_, rfl, ?_⟩
  by_cases c0 : r = 0
  · refine mR.take ?_ (isy_r c0)
    obtain ⟨x, a2, b2, ok, ex, po2⟩ := deed_drawn n xs hP0 hP1 r a1 b1 po1 rest
    obtain ⟨ys, a3, b3, δ, h1, h2, h3, h4, h5⟩ := made_c0 n hn g (by omega) r a2 b2 po2 rest low x ok
    exact ⟨P, ys, a3, b3, δ, h1, hP, by omega, (seq_nx (st_keep (i := 6) ex rfl)).trans h3, h4, h5⟩
  refine mR.skip ?_ (isn_r c0)
  by_cases c1 : r = 1 ∧ xs ≠ []
  · refine mR.take ?_ ((and_of (isy_r c1.1) ne_nil).trans (by rw [decide_eq_false c1.2]; rfl))
    obtain ⟨ys, a3, b3, δ, h1, h2, h3, h4, h5⟩ := made_1 n hn g c1.2 r a1 b1 po1 rest low
    exact ⟨P, ys, a3, b3, δ, h1, hP, by omega, h3, h4, h5⟩
  refine mR.skip ?_ ((and_of (is_r 1) ne_nil).trans (by
    by_cases d1 : r = 1
    · have d2 : xs = [] := Decidable.byContradiction fun z => c1 ⟨d1, z⟩
      rw [decide_eq_true d1, decide_eq_true d2]; rfl
    · rw [decide_eq_false d1]; rfl))
  by_cases c2 : r = 2
  · refine mR.take ?_ (isy_r c2)
    obtain ⟨o, a3, b3, δ, ho, h3, h4, h5⟩ := made_2 n hn g r a1 b1 po1 rest low
    exact ⟨P, xs.map (mv o), a3, b3, δ, good_mv g ho, hP, by simp, h3, h4, h5⟩
  refine mR.skip ?_ (isn_r c2)
  by_cases c3 : r = 3 ∧ P < 9 ∧ (xs.length : Int) < 20
  · refine mR.take ?_ ((and_of (isy_r c3.1) (and_of lt_9 lt_20)).trans (by rw [decide_eq_true c3.2.1, decide_eq_true c3.2.2]; rfl))
    obtain ⟨ys, a3, b3, δ, h1, h2, h3, h4, h5⟩ := made_3 n hn g c3.2.1 (by omega) r a1 b1 po1 rest low
    exact ⟨P + 2, ys, a3, b3, δ, h1, by omega, h2, h3, h4, h5⟩
  refine mR.skip ?_ ((and_of (is_r 3) (and_of lt_9 lt_20)).trans (by
    have : (decide (r = 3) && (decide (P < 9) && decide ((xs.length : Int) < 20))) = false := by
      rw [← Bool.not_eq_true]
      simp only [Bool.and_eq_true, decide_eq_true_eq]
      exact c3
    rw [this]))
  by_cases c4 : r = 4
  · refine mR.take ?_ (isy_r c4)
    exact ⟨P, anys xs, a1, b1, _, good_any g, hP, by omega, made_4 n hn g (m4 r) rfl rfl (pt a1 b1 :: rest) (low a1 b1), rfl, po1⟩
  refine mR.skip ?_ (isn_r c4)
  obtain ⟨δ, h3, h4⟩ := made_5 n hn g r (pt a1 b1 :: rest) (low a1 b1)
  exact ⟨P, (anys xs).map tn, a1, b1, δ, good_tn (good_any g) anys_all, hP, by simp; omega, h3, h4, po1⟩
end L
set_option Elab.async false
set_option linter.all false
set_option maxRecDepth 100000
set_option maxHeartbeats 4000000
namespace L
open PySem L2 EV

/-! ### _law_right -/
abbrev rS (t : List (Option SD)) (ce : List D) : DSt := ⟨some (.val (.cell 0)) :: t, ce⟩
theorem right_1 (n : Nat) (a b : Int) (po : potOk a b) : ∃ (P a' b' : Int), dSt .keep 1 (dBin gAdd (dC (.int 1)) (dCall 2 (fun ds => e_law_draw n (ds ++ [])) (dCons (dVar 0) (dCons (dC (.int 5)) dNil)))) (rS [none, none, none, none, none, none, none, none, none] [pt a b]) = some (.nx, rS [some (.val (.int P)), none, none, none, none, none, none, none, none] [pt a' b']) ∧ 1 ≤ P ∧ P ≤ 5 ∧ potOk a' b' := by
  obtain ⟨r, a', b', e, r0, r1, po'⟩ := draw_ok n 5 a b [] (by omega) (by omega) po
  exact ⟨1 + r, a', b', by simp [outK_s, pin_v, pin_s, pin_f, rd_v, rd_f, rd_s, slR_v, slR_o, kp_v, kp_f, kp_s, slP_v, rdD_int, rdD_str, rdD_bl, rdD_non, rdD_lst, rdD_tup, rdD_klst, rdD_dic, rdD_fn, rdD_ty, rdD_ins, rdD_cell, consO_s, rda_n, rda_c, kpa_n, kpa_c, putV_k, putO_k, putC_k, k_c, k_var, varK_s, k_bin, bin1_s, bin2_s, bin3_s, k_un, un1_s, un2_s, k_tst, tstK_s, k_tru, truK_s, tru2_s, tru3_s, gTru_bl, k_and, andK_t, andK_f, k_or, orK_t, orK_f, k_not, notK_s, k_andV, andVK_t, andVK_f, k_orV, orVK_t, orVK_f, k_notV, notVK_s, k_sc, scK_s, sc2_bl, k_if, ifK_t, ifK_f, k_nil, k_cons, cons1_s, cons2_s, k_tup, tupK_s, tup2_s, k_lst, lstK_s, lst2_s, k_bi, biK_s, bi2_s, k_call, callK_s, call2_s, call3_s, rv_v, rv_f, k_ak, ak1_s, ak2_s, ak3_s, k_callk, callkK_s, k_call0, k_fld, fldK_s, fld2_s, fld3_s, k_nop, k_part, poK_s, po2_s, k_sl, slK_s, sl2_s, sl3_s, sl4_s, k_seq, seqK_n, seqK_r, k_skip, k_ret, retK_s, k_retN, k_drop, dropK_s, k_ifs, ifsK_t, ifsK_f, k_st, stK_k, stK_o, stK_c, st2_s, k_asg, asgK_s, asg2_s, nxK_s, k_gnm, k_gtp, k_gcs, gcsK_s, k_gnl, k_forL, k_forN, bodK_s, forB_n, forB_r, k_for, forK_s, k_par, parK_s, par1_s, par2_s, par3_s, k_par3, pt3K_s, pt3_s, k_run, runK_n, runK_r, rt2_s, retOf_v, retOf_f, retOf_s, rtS_v, rtS_o, fin_s, start_0, start_c, e, gAdd_int], by omega, by omega, po'⟩
theorem right_2 (n : Nat) (P a b : Int) (h0 : 1 ≤ P) (h1 : P ≤ 5) (po : potOk a b) : ∃ (xs : List Dd) (a' b' : Int), dSt .keep 2 (dCall 4 (fun ds => e_law_deeds n (ds ++ [])) (dCons (dVar 0) (dCons (dVar 1) (dCons (dCall 2 (fun ds => e_law_draw n (ds ++ [])) (dCons (dVar 0) (dCons (dC (.int 9)) dNil))) (dCons (dC (.bl true)) dNil))))) (rS [some (.val (.int P)), none, none, none, none, none, none, none, none] [pt a b]) = some (.nx, rS [some (.val (.int P)), some (.val (.lst (ds xs))), none, none, none, none, none, none, none] [pt a' b']) ∧ good P xs ∧ xs.length ≤ 8 ∧ potOk a' b' := by
  obtain ⟨r, a1, b1, e, r0, r1, po1⟩ := draw_ok n 9 a b [] (by omega) (by omega) po
  obtain ⟨xs, a2, b2, e2, pz, lz, po2⟩ := deeds_drawn n P r h0 (by omega) r0 (by omega) a1 b1 po1 []
  exact ⟨xs, a2, b2, by simp [outK_s, pin_v, pin_s, pin_f, rd_v, rd_f, rd_s, slR_v, slR_o, kp_v, kp_f, kp_s, slP_v, rdD_int, rdD_str, rdD_bl, rdD_non, rdD_lst, rdD_tup, rdD_klst, rdD_dic, rdD_fn, rdD_ty, rdD_ins, rdD_cell, consO_s, rda_n, rda_c, kpa_n, kpa_c, putV_k, putO_k, putC_k, k_c, k_var, varK_s, k_bin, bin1_s, bin2_s, bin3_s, k_un, un1_s, un2_s, k_tst, tstK_s, k_tru, truK_s, tru2_s, tru3_s, gTru_bl, k_and, andK_t, andK_f, k_or, orK_t, orK_f, k_not, notK_s, k_andV, andVK_t, andVK_f, k_orV, orVK_t, orVK_f, k_notV, notVK_s, k_sc, scK_s, sc2_bl, k_if, ifK_t, ifK_f, k_nil, k_cons, cons1_s, cons2_s, k_tup, tupK_s, tup2_s, k_lst, lstK_s, lst2_s, k_bi, biK_s, bi2_s, k_call, callK_s, call2_s, call3_s, rv_v, rv_f, k_ak, ak1_s, ak2_s, ak3_s, k_callk, callkK_s, k_call0, k_fld, fldK_s, fld2_s, fld3_s, k_nop, k_part, poK_s, po2_s, k_sl, slK_s, sl2_s, sl3_s, sl4_s, k_seq, seqK_n, seqK_r, k_skip, k_ret, retK_s, k_retN, k_drop, dropK_s, k_ifs, ifsK_t, ifsK_f, k_st, stK_k, stK_o, stK_c, st2_s, k_asg, asgK_s, asg2_s, nxK_s, k_gnm, k_gtp, k_gcs, gcsK_s, k_gnl, k_forL, k_forN, bodK_s, forB_n, forB_r, k_for, forK_s, k_par, parK_s, par1_s, par2_s, par3_s, k_par3, pt3K_s, pt3_s, k_run, runK_n, runK_r, rt2_s, retOf_v, retOf_f, retOf_s, rtS_v, rtS_o, fin_s, start_0, start_c, e, e2], ⟨h0, by omega, pz.ok, pz.nd, by omega⟩, by omega, po2⟩
theorem right_3 (P : Int) (xs : List Dd) (c : D) : dSt .cel 3 (dBi gList (dCons (dVar 2) dNil)) (rS [some (.val (.int P)), some (.val (.lst (ds xs))), none, none, none, none, none, none, none] [c]) = some (.nx, rS [some (.val (.int P)), some (.val (.lst (ds xs))), some (.val (.cell 1)), none, none, none, none, none, none] [c, .lst (ds xs)]) := by
  simp [outK_s, pin_v, pin_s, pin_f, rd_v, rd_f, rd_s, slR_v, slR_o, kp_v, kp_f, kp_s, slP_v, rdD_int, rdD_str, rdD_bl, rdD_non, rdD_lst, rdD_tup, rdD_klst, rdD_dic, rdD_fn, rdD_ty, rdD_ins, rdD_cell, consO_s, rda_n, rda_c, kpa_n, kpa_c, putV_k, putO_k, putC_k, k_c, k_var, varK_s, k_bin, bin1_s, bin2_s, bin3_s, k_un, un1_s, un2_s, k_tst, tstK_s, k_tru, truK_s, tru2_s, tru3_s, gTru_bl, k_and, andK_t, andK_f, k_or, orK_t, orK_f, k_not, notK_s, k_andV, andVK_t, andVK_f, k_orV, orVK_t, orVK_f, k_notV, notVK_s, k_sc, scK_s, sc2_bl, k_if, ifK_t, ifK_f, k_nil, k_cons, cons1_s, cons2_s, k_tup, tupK_s, tup2_s, k_lst, lstK_s, lst2_s, k_bi, biK_s, bi2_s, k_call, callK_s, call2_s, call3_s, rv_v, rv_f, k_ak, ak1_s, ak2_s, ak3_s, k_callk, callkK_s, k_call0, k_fld, fldK_s, fld2_s, fld3_s, k_nop, k_part, poK_s, po2_s, k_sl, slK_s, sl2_s, sl3_s, sl4_s, k_seq, seqK_n, seqK_r, k_skip, k_ret, retK_s, k_retN, k_drop, dropK_s, k_ifs, ifsK_t, ifsK_f, k_st, stK_k, stK_o, stK_c, st2_s, k_asg, asgK_s, asg2_s, nxK_s, k_gnm, k_gtp, k_gcs, gcsK_s, k_gnl, k_forL, k_forN, bodK_s, forB_n, forB_r, k_for, forK_s, k_par, parK_s, par1_s, par2_s, par3_s, k_par3, pt3K_s, pt3_s, k_run, runK_n, runK_r, rt2_s, retOf_v, retOf_f, retOf_s, rtS_v, rtS_o, fin_s, start_0, start_c, gList]
theorem low_2 (a b : Int) (xs : List Dd) : Low [pt a b, .lst (ds xs)] := by
  simp [Low, D.lowCs, D.lowC, pt, lowCs_ds]
theorem low_r (xs : List Dd) : ∀ a b, Low (pt a b :: [.lst (ds xs)]) := fun a b => low_2 a b xs
theorem right_4 (n : Nat) (hn : 60 < n) {P : Int} {xs : List Dd} (g : good P xs) (a b : Int) (po : potOk a b) : ∃ (a' b' : Int), dSt .keep 4 (mk_law_right_0 n) (rS [some (.val (.int P)), some (.val (.lst (ds xs))), some (.val (.cell 1)), none, none, none, none, none, none] [pt a b, .lst (ds xs)]) = some (.nx, rS [some (.val (.int P)), some (.val (.lst (ds xs))), some (.val (.cell 1)), some (.val (hs P xs)), none, none, none, none, none] [pt a' b', .lst (ds xs)]) ∧ potOk a' b' := by
  obtain ⟨r, a1, b1, e, r0, r1, po1⟩ := draw_ok n 2 a b [.lst (ds xs)] (by omega) (by omega) po
  refine ⟨a1, b1, ?_, po1⟩
  have low := low_2 a1 b1 xs
  have q : mk_law_right_0 n (rS [some (.val (.int P)), some (.val (.lst (ds xs))), some (.val (.cell 1)), none, none, none, none, none, none] [pt a b, .lst (ds xs)]) = some (.fresh (hs P xs), rS [some (.val (.int P)), some (.val (.lst (ds xs))), some (.val (.cell 1)), none, none, none, none, none, none] [pt a1 b1, .lst (ds xs)]) := by
    unfold mk_law_right_0
    by_cases z : r = 0
    · refine makeK_ok n hn g (r1 := .slot 1) (r2 := .slot 3) (a := .cell 1) ?_ (by rfl) (by rfl) (.inr (.inr ⟨1, rfl, rfl⟩)) low
      simp [outK_s, pin_v, pin_s, pin_f, rd_v, rd_f, rd_s, slR_v, slR_o, kp_v, kp_f, kp_s, slP_v, rdD_int, rdD_str, rdD_bl, rdD_non, rdD_lst, rdD_tup, rdD_klst, rdD_dic, rdD_fn, rdD_ty, rdD_ins, rdD_cell, consO_s, rda_n, rda_c, kpa_n, kpa_c, putV_k, putO_k, putC_k, k_c, k_var, varK_s, k_bin, bin1_s, bin2_s, bin3_s, k_un, un1_s, un2_s, k_tst, tstK_s, k_tru, truK_s, tru2_s, tru3_s, gTru_bl, k_and, andK_t, andK_f, k_or, orK_t, orK_f, k_not, notK_s, k_andV, andVK_t, andVK_f, k_orV, orVK_t, orVK_f, k_notV, notVK_s, k_sc, scK_s, sc2_bl, k_if, ifK_t, ifK_f, k_nil, k_cons, cons1_s, cons2_s, k_tup, tupK_s, tup2_s, k_lst, lstK_s, lst2_s, k_bi, biK_s, bi2_s, k_call, callK_s, call2_s, call3_s, rv_v, rv_f, k_ak, ak1_s, ak2_s, ak3_s, k_callk, callkK_s, k_call0, k_fld, fldK_s, fld2_s, fld3_s, k_nop, k_part, poK_s, po2_s, k_sl, slK_s, sl2_s, sl3_s, sl4_s, k_seq, seqK_n, seqK_r, k_skip, k_ret, retK_s, k_retN, k_drop, dropK_s, k_ifs, ifsK_t, ifsK_f, k_st, stK_k, stK_o, stK_c, st2_s, k_asg, asgK_s, asg2_s, nxK_s, k_gnm, k_gtp, k_gcs, gcsK_s, k_gnl, k_forL, k_forN, bodK_s, forB_n, forB_r, k_for, forK_s, k_par, parK_s, par1_s, par2_s, par3_s, k_par3, pt3K_s, pt3_s, k_run, runK_n, runK_r, rt2_s, retOf_v, retOf_f, retOf_s, rtS_v, rtS_o, fin_s, start_0, start_c, e, gEq_int, z]
    · refine makeK_ok n hn g (r1 := .slot 1) (r2 := .val (.tup (ds xs))) (a := .tup (ds xs)) ?_ (by rfl) (by rfl) (.inr (.inl rfl)) low
      simp [outK_s, pin_v, pin_s, pin_f, rd_v, rd_f, rd_s, slR_v, slR_o, kp_v, kp_f, kp_s, slP_v, rdD_int, rdD_str, rdD_bl, rdD_non, rdD_lst, rdD_tup, rdD_klst, rdD_dic, rdD_fn, rdD_ty, rdD_ins, rdD_cell, consO_s, rda_n, rda_c, kpa_n, kpa_c, putV_k, putO_k, putC_k, k_c, k_var, varK_s, k_bin, bin1_s, bin2_s, bin3_s, k_un, un1_s, un2_s, k_tst, tstK_s, k_tru, truK_s, tru2_s, tru3_s, gTru_bl, k_and, andK_t, andK_f, k_or, orK_t, orK_f, k_not, notK_s, k_andV, andVK_t, andVK_f, k_orV, orVK_t, orVK_f, k_notV, notVK_s, k_sc, scK_s, sc2_bl, k_if, ifK_t, ifK_f, k_nil, k_cons, cons1_s, cons2_s, k_tup, tupK_s, tup2_s, k_lst, lstK_s, lst2_s, k_bi, biK_s, bi2_s, k_call, callK_s, call2_s, call3_s, rv_v, rv_f, k_ak, ak1_s, ak2_s, ak3_s, k_callk, callkK_s, k_call0, k_fld, fldK_s, fld2_s, fld3_s, k_nop, k_part, poK_s, po2_s, k_sl, slK_s, sl2_s, sl3_s, sl4_s, k_seq, seqK_n, seqK_r, k_skip, k_ret, retK_s, k_retN, k_drop, dropK_s, k_ifs, ifsK_t, ifsK_f, k_st, stK_k, stK_o, stK_c, st2_s, k_asg, asgK_s, asg2_s, nxK_s, k_gnm, k_gtp, k_gcs, gcsK_s, k_gnl, k_forL, k_forN, bodK_s, forB_n, forB_r, k_for, forK_s, k_par, parK_s, par1_s, par2_s, par3_s, k_par3, pt3K_s, pt3_s, k_run, runK_n, runK_r, rt2_s, retOf_v, retOf_f, retOf_s, rtS_v, rtS_o, fin_s, start_0, start_c, e, gEq_int, z, gTuple]
  simp [outK_s, pin_v, pin_s, pin_f, rd_v, rd_f, rd_s, slR_v, slR_o, kp_v, kp_f, kp_s, slP_v, rdD_int, rdD_str, rdD_bl, rdD_non, rdD_lst, rdD_tup, rdD_klst, rdD_dic, rdD_fn, rdD_ty, rdD_ins, rdD_cell, consO_s, rda_n, rda_c, kpa_n, kpa_c, putV_k, putO_k, putC_k, k_c, k_var, varK_s, k_bin, bin1_s, bin2_s, bin3_s, k_un, un1_s, un2_s, k_tst, tstK_s, k_tru, truK_s, tru2_s, tru3_s, gTru_bl, k_and, andK_t, andK_f, k_or, orK_t, orK_f, k_not, notK_s, k_andV, andVK_t, andVK_f, k_orV, orVK_t, orVK_f, k_notV, notVK_s, k_sc, scK_s, sc2_bl, k_if, ifK_t, ifK_f, k_nil, k_cons, cons1_s, cons2_s, k_tup, tupK_s, tup2_s, k_lst, lstK_s, lst2_s, k_bi, biK_s, bi2_s, k_call, callK_s, call2_s, call3_s, rv_v, rv_f, k_ak, ak1_s, ak2_s, ak3_s, k_callk, callkK_s, k_call0, k_fld, fldK_s, fld2_s, fld3_s, k_nop, k_part, poK_s, po2_s, k_sl, slK_s, sl2_s, sl3_s, sl4_s, k_seq, seqK_n, seqK_r, k_skip, k_ret, retK_s, k_retN, k_drop, dropK_s, k_ifs, ifsK_t, ifsK_f, k_st, stK_k, stK_o, stK_c, st2_s, k_asg, asgK_s, asg2_s, nxK_s, k_gnm, k_gtp, k_gcs, gcsK_s, k_gnl, k_forL, k_forN, bodK_s, forB_n, forB_r, k_for, forK_s, k_par, parK_s, par1_s, par2_s, par3_s, k_par3, pt3K_s, pt3_s, k_run, runK_n, runK_r, rt2_s, retOf_v, retOf_f, retOf_s, rtS_v, rtS_o, fin_s, start_0, start_c, q]
def d0 : Dd := ⟨0, 0, 0, "any"⟩
theorem right_5 {P : Int} {xs : List Dd} (hl : xs.length ≤ 60) (h : D) (c : D) : dDrop (dMut true uAppend 3 (dCons (dTup (dCons (dC (.int 0)) (dCons (dC (.int 0)) (dCons (dC (.int 0)) (dCons (dC (.str "any")) dNil))))) dNil)) (rS [some (.val (.int P)), some (.val (.lst (ds xs))), some (.val (.cell 1)), some (.val h), none, none, none, none, none] [c, .lst (ds xs)]) = some (.nx, rS [some (.val (.int P)), some (.val (.lst (ds xs))), some (.val (.cell 1)), some (.val h), none, none, none, none, none] [c, .lst (ds (xs ++ [d0]))]) := by
  have hl' : (ds xs).length < 16777216 := by rw [ds_len]; omega
  have sn := ds_snoc xs d0
  have sn : ds xs ++ [D.tup [.int 0, .int 0, .int 0, .str "any"]] = ds (xs ++ [d0]) := sn
  simp [outK_s, pin_v, pin_s, pin_f, rd_v, rd_f, rd_s, slR_v, slR_o, kp_v, kp_f, kp_s, slP_v, rdD_int, rdD_str, rdD_bl, rdD_non, rdD_lst, rdD_tup, rdD_klst, rdD_dic, rdD_fn, rdD_ty, rdD_ins, rdD_cell, consO_s, rda_n, rda_c, kpa_n, kpa_c, putV_k, putO_k, putC_k, k_c, k_var, varK_s, k_bin, bin1_s, bin2_s, bin3_s, k_un, un1_s, un2_s, k_tst, tstK_s, k_tru, truK_s, tru2_s, tru3_s, gTru_bl, k_and, andK_t, andK_f, k_or, orK_t, orK_f, k_not, notK_s, k_andV, andVK_t, andVK_f, k_orV, orVK_t, orVK_f, k_notV, notVK_s, k_sc, scK_s, sc2_bl, k_if, ifK_t, ifK_f, k_nil, k_cons, cons1_s, cons2_s, k_tup, tupK_s, tup2_s, k_lst, lstK_s, lst2_s, k_bi, biK_s, bi2_s, k_call, callK_s, call2_s, call3_s, rv_v, rv_f, k_ak, ak1_s, ak2_s, ak3_s, k_callk, callkK_s, k_call0, k_fld, fldK_s, fld2_s, fld3_s, k_nop, k_part, poK_s, po2_s, k_sl, slK_s, sl2_s, sl3_s, sl4_s, k_seq, seqK_n, seqK_r, k_skip, k_ret, retK_s, k_retN, k_drop, dropK_s, k_ifs, ifsK_t, ifsK_f, k_st, stK_k, stK_o, stK_c, st2_s, k_asg, asgK_s, asg2_s, nxK_s, k_gnm, k_gtp, k_gcs, gcsK_s, k_gnl, k_forL, k_forN, bodK_s, forB_n, forB_r, k_for, forK_s, k_par, parK_s, par1_s, par2_s, par3_s, k_par3, pt3K_s, pt3_s, k_run, runK_n, runK_r, rt2_s, retOf_v, retOf_f, retOf_s, rtS_v, rtS_o, fin_s, start_0, start_c, dMut, lstAt, argsOf, uAppend, hl', EV.putAt, sn]
theorem right_6 (n : Nat) (hn : 60 < n) {P : Int} {xs : List Dd} (g : good P xs) (h1 : P ≤ 5) (s3 s5 s6 s7 s8 s9 : Option SD) (ce : List D) (low : Low ce) (b : DS) : dIfS (dOr (dNot (dTru (dCall 3 (fun ds => e_law_tells n (ds ++ [])) (dCons (dVar 4) (dCons (dVar 1) (dCons (dVar 2) dNil)))))) (dNot (dTru (dCall 4 (fun ds => e_law_equal_right n (ds ++ [])) (dCons (dVar 0) (dCons (dVar 4) (dCons (dVar 1) (dCons (dVar 2) dNil)))))))) b dSkip (rS [some (.val (.int P)), some (.val (.lst (ds xs))), s3, some (.val (hs P xs)), s5, s6, s7, s8, s9] ce) = some (.nx, rS [some (.val (.int P)), some (.val (.lst (ds xs))), s3, some (.val (hs P xs)), s5, s6, s7, s8, s9] ce) := by
  have t1 := tells_ok n hn g ce low
  have t2 := equal_right_ok n hn g (by omega) ce low
  simp [outK_s, pin_v, pin_s, pin_f, rd_v, rd_f, rd_s, slR_v, slR_o, kp_v, kp_f, kp_s, slP_v, rdD_int, rdD_str, rdD_bl, rdD_non, rdD_lst, rdD_tup, rdD_klst, rdD_dic, rdD_fn, rdD_ty, rdD_ins, rdD_cell, consO_s, rda_n, rda_c, kpa_n, kpa_c, putV_k, putO_k, putC_k, k_c, k_var, varK_s, k_bin, bin1_s, bin2_s, bin3_s, k_un, un1_s, un2_s, k_tst, tstK_s, k_tru, truK_s, tru2_s, tru3_s, gTru_bl, k_and, andK_t, andK_f, k_or, orK_t, orK_f, k_not, notK_s, k_andV, andVK_t, andVK_f, k_orV, orVK_t, orVK_f, k_notV, notVK_s, k_sc, scK_s, sc2_bl, k_if, ifK_t, ifK_f, k_nil, k_cons, cons1_s, cons2_s, k_tup, tupK_s, tup2_s, k_lst, lstK_s, lst2_s, k_bi, biK_s, bi2_s, k_call, callK_s, call2_s, call3_s, rv_v, rv_f, k_ak, ak1_s, ak2_s, ak3_s, k_callk, callkK_s, k_call0, k_fld, fldK_s, fld2_s, fld3_s, k_nop, k_part, poK_s, po2_s, k_sl, slK_s, sl2_s, sl3_s, sl4_s, k_seq, seqK_n, seqK_r, k_skip, k_ret, retK_s, k_retN, k_drop, dropK_s, k_ifs, ifsK_t, ifsK_f, k_st, stK_k, stK_o, stK_c, st2_s, k_asg, asgK_s, asg2_s, nxK_s, k_gnm, k_gtp, k_gcs, gcsK_s, k_gnl, k_forL, k_forN, bodK_s, forB_n, forB_r, k_for, forK_s, k_par, parK_s, par1_s, par2_s, par3_s, k_par3, pt3K_s, pt3_s, k_run, runK_n, runK_r, rt2_s, retOf_v, retOf_f, retOf_s, rtS_v, rtS_o, fin_s, start_0, start_c, t1, t2]
/-! the seven turns -/
def lrB (n : Nat) : DS := dSeq (dSt .keep 8 (dTup (dCons (dVar 4) (dCons (dVar 1) (dCons (dVar 2) dNil)))))
    (dSeq (dAsg (dCall 4 (fun ds => e_law_made n (ds ++ [])) (dCons (dVar 0) (dCons (dVar 4) (dCons (dVar 1) (dCons (dVar 2) dNil))))) (gTp 3 (gCs (gNm 4) (gCs (gNm 1) (gCs (gNm 2) gNl)))))
    (dIfS (dOr (dNot (dTru (dCall 3 (fun ds => e_law_tells n (ds ++ [])) (dCons (dVar 4) (dCons (dVar 1) (dCons (dVar 2) dNil)))))) (dNot (dTru (dCall 3 (fun ds => e_law_tells n (ds ++ [])) (dCons (dBin gIx (dVar 8) (dC (.int 0))) (dCons (dBin gIx (dVar 8) (dC (.int 1))) (dCons (dBin gIx (dVar 8) (dC (.int 2))) dNil))))))) (dRet (dC (.bl false))) dSkip))
theorem lr_eq (n : Nat) : lp_law_right_1 n = dFor (iRg1 (dCons (dC (.int 7)) dNil)) (gNm 5) (lrB n) := rfl
abbrev rT (P : Int) (xs : List Dd) (s3 s5 s8 : Option SD) (ce : List D) : DSt := rS [some (.val (.int P)), some (.val (.lst (ds xs))), s3, some (.val (hs P xs)), s5, none, none, s8, none] ce
theorem mA_0 (P : Int) (xs : List Dd) : gIx (mA P xs) (.int 0) = some (.val (hs P xs)) := rfl
theorem mA_1 (P : Int) (xs : List Dd) : gIx (mA P xs) (.int 1) = some (.val (.int P)) := rfl
theorem mA_2 (P : Int) (xs : List Dd) : gIx (mA P xs) (.int 2) = some (.val (.lst (ds xs))) := rfl
theorem mA_e (P : Int) (xs : List Dd) : D.tup [hs P xs, .int P, .lst (ds xs)] = mA P xs := rfl
theorem mA_rd (δ : DSt) (P : Int) (xs : List Dd) : rdD δ (mA P xs) = some (mA P xs) := rfl
theorem mA_g {gl : List D → DSt → Option DSt} (δ : DSt) (P : Int) (xs : List Dd) : gTp 3 gl (mA P xs) δ = gl [hs P xs, .int P, .lst (ds xs)] δ := rfl
theorem lr_turn (n : Nat) (hn : 60 < n) {P : Int} {xs : List Dd} (g : good P xs) (hP : P ≤ 10) (hx : xs.length ≤ 40) (a b : Int) (po : potOk a b) (rest : List D) (low : ∀ a b, Low (pt a b :: rest)) (s3 s5 s8 : Option SD) (d : D) :
    ∃ (Q : Int) (ys : List Dd) (a' b' : Int), (gNm 5 d (rT P xs s3 s5 s8 (pt a b :: rest))).bind (lrB n) = some (.nx, rT Q ys s3 (some (.val d)) (some (.val (mA P xs))) (pt a' b' :: rest)) ∧ good Q ys ∧ Q ≤ 10 ∧ ys.length ≤ xs.length + 2 ∧ potOk a' b' := by
  obtain ⟨Q, ys, a', b', e, gq, hq, hy, po'⟩ := made_ok n hn g hP hx a b po rest low
  refine ⟨Q, ys, a', b', ?_, gq, hq, hy, po'⟩
  have t1 := tells_ok n hn g _ (low a' b')
  have t2 := tells_ok n hn gq _ (low a' b')
  simp [lrB, outK_s, pin_v, pin_s, pin_f, rd_v, rd_f, rd_s, slR_v, slR_o, kp_v, kp_f, kp_s, slP_v, rdD_int, rdD_str, rdD_bl, rdD_non, rdD_lst, rdD_tup, rdD_klst, rdD_dic, rdD_fn, rdD_ty, rdD_ins, rdD_cell, consO_s, rda_n, rda_c, kpa_n, kpa_c, putV_k, putO_k, putC_k, k_c, k_var, varK_s, k_bin, bin1_s, bin2_s, bin3_s, k_un, un1_s, un2_s, k_tst, tstK_s, k_tru, truK_s, tru2_s, tru3_s, gTru_bl, k_and, andK_t, andK_f, k_or, orK_t, orK_f, k_not, notK_s, k_andV, andVK_t, andVK_f, k_orV, orVK_t, orVK_f, k_notV, notVK_s, k_sc, scK_s, sc2_bl, k_if, ifK_t, ifK_f, k_nil, k_cons, cons1_s, cons2_s, k_tup, tupK_s, tup2_s, k_lst, lstK_s, lst2_s, k_bi, biK_s, bi2_s, k_call, callK_s, call2_s, call3_s, rv_v, rv_f, k_ak, ak1_s, ak2_s, ak3_s, k_callk, callkK_s, k_call0, k_fld, fldK_s, fld2_s, fld3_s, k_nop, k_part, poK_s, po2_s, k_sl, slK_s, sl2_s, sl3_s, sl4_s, k_seq, seqK_n, seqK_r, k_skip, k_ret, retK_s, k_retN, k_drop, dropK_s, k_ifs, ifsK_t, ifsK_f, k_st, stK_k, stK_o, stK_c, st2_s, k_asg, asgK_s, asg2_s, nxK_s, k_gnm, k_gtp, k_gcs, gcsK_s, k_gnl, k_forL, k_forN, bodK_s, forB_n, forB_r, k_for, forK_s, k_par, parK_s, par1_s, par2_s, par3_s, k_par3, pt3K_s, pt3_s, k_run, runK_n, runK_r, rt2_s, retOf_v, retOf_f, retOf_s, rtS_v, rtS_o, fin_s, start_0, start_c, mA_e, mA_g, mA_rd, mA_0, mA_1, mA_2, e, t1, t2]
theorem lr_loop (n : Nat) (hn : 60 < n) (rest : List D) (low : ∀ a b, Low (pt a b :: rest)) (s3 : Option SD) : ∀ (items : List D) {P : Int} {xs : List Dd} (g : good P xs) (hP : P ≤ 10) (hx : xs.length + 2 * items.length ≤ 40) (a b : Int) (po : potOk a b) (s5 s8 : Option SD) (hh : hideO [s5, s8] = [s5, s8]),
    ∃ (Q : Int) (ys : List Dd) (a' b' : Int) (t5 t8 : Option SD), forL (gNm 5) (lrB n) items (rT P xs s3 s5 s8 (pt a b :: rest)) = some (.nx, rT Q ys s3 t5 t8 (pt a' b' :: rest)) ∧ good Q ys ∧ Q ≤ 10 ∧ potOk a' b' ∧ hideO [t5, t8] = [t5, t8]
  | [], P, xs, g, hP, hx, a, b, po, s5, s8, hh => ⟨P, xs, a, b, s5, s8, rfl, g, hP, po, hh⟩
  | d :: items, P, xs, g, hP, hx, a, b, po, s5, s8, hh => by
    have hx : xs.length + 2 * (items.length + 1) ≤ 40 := by simpa using hx
    obtain ⟨Q, ys, a1, b1, e, gq, hq, hy, po1⟩ := lr_turn n hn g hP (by omega) a b po rest low s3 s5 s8 d
    obtain ⟨R, zs, a2, b2, t5, t8, e2, gr, hr, po2⟩ := lr_loop n hn rest low s3 items gq hq (by omega) a1 b1 po1 (some (.val d)) (some (.val (mA P xs))) rfl
    refine ⟨R, zs, a2, b2, t5, t8, ?_, gr, hr, po2⟩
    unfold forL
    obtain ⟨δ1, h1, h2⟩ := bnd e
    rw [h1, Option.bind_some, h2]
    exact e2
theorem right_7 (n : Nat) (hn : 60 < n) (rest : List D) (low : ∀ a b, Low (pt a b :: rest)) (s3 : Option SD) {P : Int} {xs : List Dd} (g : good P xs) (hP : P ≤ 10) (hx : xs.length ≤ 8) (a b : Int) (po : potOk a b) :
    ∃ (Q : Int) (ys : List Dd) (a' b' : Int) (t5 t8 : Option SD), lp_law_right_1 n (rT P xs s3 none none (pt a b :: rest)) = some (.nx, rT Q ys s3 t5 t8 (pt a' b' :: rest)) ∧ good Q ys ∧ Q ≤ 10 ∧ potOk a' b' ∧ hideO [t5, t8] = [t5, t8] := by
  obtain ⟨Q, ys, a', b', t5, t8, e, h⟩ := lr_loop n hn rest low s3 (rngD 0 (7 : Int).toNat) g hP (by simp [rngD]; omega) a b po none none rfl
  refine ⟨Q, ys, a', b', t5, t8, ?_, h⟩
  rw [lr_eq, k_for]
  exact e
end L
set_option Elab.async false
set_option linter.all false
set_option maxRecDepth 100000
set_option maxHeartbeats 4000000
namespace L
open PySem L2 EV

/-! the order turned back -/
theorem mixed_perm (n : Nat) (P : Int) (h0 : 0 ≤ P) (h1 : P ≤ 60) (a b : Int) (po : potOk a b) (rest : List D) : ∃ (o : List Int) (a' b' : Int), e_law_mixed n [.cell 0, .lst (rngD 0 (P - 0).toNat)] (pt a b :: rest) = some (.fresh (is o), pt a' b' :: rest) ∧ ord P o ∧ o.Perm (rg 0 P) ∧ potOk a' b' := by
  have hr := range_ord P h0
  obtain ⟨g, a', b', e, p, po'⟩ := mixed_ok n (rg 0 P) (by have := hr.len; omega) a b po rest
  have q : is (rg 0 P) = .lst (rngD 0 (P - 0).toNat) := by rw [← rgD]; simp
  rw [q] at e
  exact ⟨g, a', b', e, ord_perm hr p, p, po'⟩
/-- where i stands -/
def wh (o : List Int) (i : Int) : Nat := o.findIdx fun z => z == i
def bk (P : Int) (o : List Int) : List Int := (rg 0 P).map fun i => (wh o i : Int)
theorem mem_rg {P i : Int} : i ∈ rg 0 P ↔ 0 ≤ i ∧ i < P := by
  simp only [rg, List.mem_map, List.mem_range]
  constructor
  · rintro ⟨j, hj, rfl⟩
    omega
  · rintro ⟨h0, h1⟩
    exact ⟨i.toNat, by omega, by omega⟩
theorem wh_lt {o : List Int} {i : Int} (h : i ∈ o) : wh o i < o.length := List.findIdx_lt_length_of_exists ⟨i, h, by simp⟩
theorem wh_at {o : List Int} {i : Int} (h : i ∈ o) : o[wh o i]'(wh_lt h) = i := by
  have q : (o[wh o i]'(wh_lt h) == i) = true := List.findIdx_getElem (xs := o) (p := fun z => z == i) (w := wh_lt h)
  exact eq_of_beq q
theorem nth_get {o : List Int} {k : Nat} (h : k < o.length) : nth o (k : Int) = o[k] := by
  simp [nth, List.getD_eq_getElem?_getD, h]
theorem nth_map {o : List Int} {f : Int → Int} {i : Int} (h0 : 0 ≤ i) (h1 : i < o.length) : nth (o.map f) i = f (nth o i) := by
  have hl : i.toNat < o.length := by omega
  simp [nth, List.getD_eq_getElem?_getD, hl]
theorem ord_bk {P : Int} {o : List Int} (h : ord P o) (p : o.Perm (rg 0 P)) (h0 : 0 ≤ P) : ord P (bk P o) where
  len := by rw [bk, List.length_map, rg_len]; omega
  mem := fun i hi => by
    obtain ⟨j, hj, rfl⟩ := List.mem_map.mp hi
    have := wh_lt (p.mem_iff.mpr hj)
    have hl := h.len
    omega
  nd := nodup_map (fun i hi j hj e => by
    have e : wh o i = wh o j := by omega
    have a := wh_at (p.mem_iff.mpr hi)
    have b := wh_at (p.mem_iff.mpr hj)
    rw [← a, ← b]
    congr 1) (range_ord P h0).nd
theorem bk_nth {P : Int} {o : List Int} (h : ord P o) (p : o.Perm (rg 0 P)) {i : Int} (h0 : 0 ≤ i) (h1 : i < P) : nth (bk P o) (nth o i) = i := by
  have hl := h.len
  have hm := nth_mem (o := o) h0 (by omega)
  have hr := mem_rg.mp (p.mem_iff.mp hm)
  have gl := rg_len 0 P
  have q : nth (bk P o) (nth o i) = (wh o (nth (rg 0 P) (nth o i)) : Int) := nth_map (f := fun i => (wh o i : Int)) hr.1 (by omega)
  have r := nth_rg 0 P (nth o i) hr.1 hr.2
  rw [q, r]
  have z : nth o i + 0 = nth o i := by omega
  rw [z]
  have a := wh_at hm
  have w := wh_lt hm
  refine nth_inj h.nd (by omega) (by omega) h0 (by omega) ?_
  rw [nth_get w, a]
theorem mv_back {P : Int} {o : List Int} (h : ord P o) (p : o.Perm (rg 0 P)) {xs : List Dd} (g : good P xs) : (xs.map (mv o)).map (mv (bk P o)) = xs := by
  rw [List.map_map]
  have : ∀ x ∈ xs, (mv (bk P o) ∘ mv o) x = x := fun x hx => by
    obtain ⟨a, b, c, d, _⟩ := g.ok x hx
    simp only [Function.comp, mv, bk_nth h p a b, bk_nth h p c d]
  rw [List.map_congr_left this]
  simp
theorem tn_tn {xs : List Dd} (h : ∀ x ∈ xs, x.w = ("any" : Str)) : (xs.map tn).map tn = xs := by
  rw [List.map_map]
  have : ∀ x ∈ xs, (tn ∘ tn) x = x := fun x hx => by
    have w := h x hx
    obtain ⟨a, b, c, d⟩ := x
    simp only at w
    subst w
    show (⟨a, 0 - (0 - b), c, "any"⟩ : Dd) = ⟨a, b, c, "any"⟩
    rw [show 0 - (0 - b) = b from by omega]
  rw [List.map_congr_left this]
  simp
theorem tn_any' {xs : List Dd} : ∀ x ∈ xs.map tn, x.w = ("any" : Str) := fun x hx => by
  obtain ⟨y, _, rfl⟩ := List.mem_map.mp hx
  rfl
theorem anys_anys (xs : List Dd) : anys (anys xs) = anys xs := by simp [anys]
/-! index -/
theorem toPs_is (o : List Int) : D.toPs (o.map .int) = o.map PyData.int := by
  induction o with
  | nil => rfl
  | cons x xs ih => simp [D.toPs, D.toP, ih]
theorem purs_is (o : List Int) : D.purs (o.map .int) = true := by
  rw [purs_eq]
  simp [D.pur]
theorem lay_is (o : List Int) : PyData.canLayAll0 (o.map PyData.int) = true ∧ PyData.depthAll (o.map PyData.int) ≤ 1 := by
  induction o with
  | nil => exact ⟨rfl, by simp [PyData.depthAll]⟩
  | cons x xs ih => exact ⟨by simp [PyData.canLayAll0, PyData.canLay0, ih.1], by simp [PyData.depthAll, PyData.depth, ih.2]⟩
theorem find_is (o : List Int) (i : Int) : ((o.map PyData.int).findIdx? fun z => PyData.eqv z (.int i)) = o.findIdx? fun z => z == i := by
  rw [List.findIdx?_map]
  rfl
theorem uIdx_is {o : List Int} {i : Int} (h : i ∈ o) : uIdx (is o) [.int i] = some (.val (.int (wh o i : Int))) := by
  have l := lay_is o
  have s1 : SeqAt.shaped (.list (o.map PyData.int)) = true := by
    have l2 := l.2
    have d : (PyData.list (o.map PyData.int)).depth ≤ 64 := by
      simp only [PyData.depth]
      omega
    simp only [SeqAt.shaped, PyData.canLay0, l.1, Bool.true_and, decide_eq_true_eq]
    exact d
  have s2 : SeqAt.shaped (PyData.int i) = true := by simp [SeqAt.shaped, PyData.canLay0, PyData.depth]
  have f : o.findIdx? (fun z => z == i) = some (wh o i) := List.findIdx?_eq_some_of_exists ⟨i, h, by simp⟩
  have p := purs_is o
  have q := find_is o i
  rw [f] at q
  simp only [uIdx, is, itemsOf, Option.bind_some, toPs_is, D.toP, D.pur, p, s1, s2, Bool.and_self, if_true, q, Option.map_some]
theorem dIdx_k {fo : DE} {fas : DA} {δ : DSt} {r s : RV} {xs : List D} {d : D} {v : RV} (h1 : fo δ = some (r, δ)) (h2 : r.pin.rd δ = some (.lst xs)) (h3 : fas δ = some ([s], δ)) (h4 : s.pin.rd δ = some d) (hu : uIdx (.lst xs) [d] = some v) : dIdx fo fas δ = some (v, δ) := by
  simp [dIdx, dRd, h1, h2, itemsOf, h3, rdAll, h4, uIdxL, hu]
theorem right_9 (n : Nat) {P : Int} {o : List Int} (h : ord P o) (p : o.Perm (rg 0 P)) (h0 : 0 ≤ P) (h1 : P ≤ 60) (s2 s3 s4 s5 s8 : Option SD) (hh : hideO [s2, s3, s4, s5, s8] = [s2, s3, s4, s5, s8]) (ce : List D) : dSt .keep 7 (lc_law_right_2 n) (rS [some (.val (.int P)), s2, s3, s4, s5, some (.val (is o)), none, s8, none] ce) = some (.nx, rS [some (.val (.int P)), s2, s3, s4, s5, some (.val (is o)), some (.val (is (bk P o))), s8, none] ce) := by
  have hr : (rg 0 P).map D.int = rngD 0 P.toNat := by
    simp only [rg, rngD, List.map_map]
    rfl
  have q : lc_law_right_2 n (rS [some (.val (.int P)), s2, s3, s4, s5, some (.val (is o)), none, s8, none] ce) = some (.fresh (.lst (((rg 0 P).filter fun _ => true).map fun i => D.int (wh o i : Int))), rS [some (.val (.int P)), s2, s3, s4, s5, some (.val (is o)), none, s8, none] ce) := by
    refine dLc_typed D.int (fun _ => true) (fun i => .int (wh o i : Int)) (rg 0 P) ?_ (fun i hi => ?_) (by rw [rg_len]; omega)
    · rw [hr]
      exact rg1_of _ _ _ [.slot 1] P rfl rfl (by omega)
    · simp only [hideO, List.map_cons, List.map_nil, List.cons.injEq] at hh
      have e : wipeD (hideO (rS [some (.val (.int P)), s2, s3, s4, s5, some (.val (is o)), none, s8, none] ce).sl) [9] = (rS [some (.val (.int P)), s2, s3, s4, s5, some (.val (is o)), none, s8, none] ce).sl := by
        simp [hideO, wipeD, hh]
      rw [e]
      refine turn_yes (r := .val (.int (wh o i : Int))) (δ1 := rS [some (.val (.int P)), s2, s3, s4, s5, some (.val (is o)), none, s8, some (.val (.int i))] ce) rfl ?_ rfl rfl
      refine dIdx_k (r := .slot 6) (s := .slot 9) (xs := o.map .int) (d := .int i) ?_ ?_ ?_ ?_ (uIdx_is (p.mem_iff.mpr hi)) <;> simp [outK_s, pin_v, pin_s, pin_f, rd_v, rd_f, rd_s, slR_v, slR_o, kp_v, kp_f, kp_s, slP_v, rdD_int, rdD_str, rdD_bl, rdD_non, rdD_lst, rdD_tup, rdD_klst, rdD_dic, rdD_fn, rdD_ty, rdD_ins, rdD_cell, consO_s, rda_n, rda_c, kpa_n, kpa_c, putV_k, putO_k, putC_k, k_c, k_var, varK_s, k_bin, bin1_s, bin2_s, bin3_s, k_un, un1_s, un2_s, k_tst, tstK_s, k_tru, truK_s, tru2_s, tru3_s, gTru_bl, k_and, andK_t, andK_f, k_or, orK_t, orK_f, k_not, notK_s, k_andV, andVK_t, andVK_f, k_orV, orVK_t, orVK_f, k_notV, notVK_s, k_sc, scK_s, sc2_bl, k_if, ifK_t, ifK_f, k_nil, k_cons, cons1_s, cons2_s, k_tup, tupK_s, tup2_s, k_lst, lstK_s, lst2_s, k_bi, biK_s, bi2_s, k_call, callK_s, call2_s, call3_s, rv_v, rv_f, k_ak, ak1_s, ak2_s, ak3_s, k_callk, callkK_s, k_call0, k_fld, fldK_s, fld2_s, fld3_s, k_nop, k_part, poK_s, po2_s, k_sl, slK_s, sl2_s, sl3_s, sl4_s, k_seq, seqK_n, seqK_r, k_skip, k_ret, retK_s, k_retN, k_drop, dropK_s, k_ifs, ifsK_t, ifsK_f, k_st, stK_k, stK_o, stK_c, st2_s, k_asg, asgK_s, asg2_s, nxK_s, k_gnm, k_gtp, k_gcs, gcsK_s, k_gnl, k_forL, k_forN, bodK_s, forB_n, forB_r, k_for, forK_s, k_par, parK_s, par1_s, par2_s, par3_s, k_par3, pt3K_s, pt3_s, k_run, runK_n, runK_r, rt2_s, retOf_v, retOf_f, retOf_s, rtS_v, rtS_o, fin_s, start_0, start_c, rd_is] <;> rfl
  rw [filter_yes] at q
  have e : (rg 0 P).map (fun i => D.int (wh o i : Int)) = (bk P o).map .int := by rw [bk, List.map_map]; rfl
  rw [e] at q
  have e : D.lst ((bk P o).map .int) = is (bk P o) := rfl
  rw [e] at q
  simp [outK_s, pin_v, pin_s, pin_f, rd_v, rd_f, rd_s, slR_v, slR_o, kp_v, kp_f, kp_s, slP_v, rdD_int, rdD_str, rdD_bl, rdD_non, rdD_lst, rdD_tup, rdD_klst, rdD_dic, rdD_fn, rdD_ty, rdD_ins, rdD_cell, consO_s, rda_n, rda_c, kpa_n, kpa_c, putV_k, putO_k, putC_k, k_c, k_var, varK_s, k_bin, bin1_s, bin2_s, bin3_s, k_un, un1_s, un2_s, k_tst, tstK_s, k_tru, truK_s, tru2_s, tru3_s, gTru_bl, k_and, andK_t, andK_f, k_or, orK_t, orK_f, k_not, notK_s, k_andV, andVK_t, andVK_f, k_orV, orVK_t, orVK_f, k_notV, notVK_s, k_sc, scK_s, sc2_bl, k_if, ifK_t, ifK_f, k_nil, k_cons, cons1_s, cons2_s, k_tup, tupK_s, tup2_s, k_lst, lstK_s, lst2_s, k_bi, biK_s, bi2_s, k_call, callK_s, call2_s, call3_s, rv_v, rv_f, k_ak, ak1_s, ak2_s, ak3_s, k_callk, callkK_s, k_call0, k_fld, fldK_s, fld2_s, fld3_s, k_nop, k_part, poK_s, po2_s, k_sl, slK_s, sl2_s, sl3_s, sl4_s, k_seq, seqK_n, seqK_r, k_skip, k_ret, retK_s, k_retN, k_drop, dropK_s, k_ifs, ifsK_t, ifsK_f, k_st, stK_k, stK_o, stK_c, st2_s, k_asg, asgK_s, asg2_s, nxK_s, k_gnm, k_gtp, k_gcs, gcsK_s, k_gnl, k_forL, k_forN, bodK_s, forB_n, forB_r, k_for, forK_s, k_par, parK_s, par1_s, par2_s, par3_s, k_par3, pt3K_s, pt3_s, k_run, runK_n, runK_r, rt2_s, retOf_v, retOf_f, retOf_s, rtS_v, rtS_o, fin_s, start_0, start_c, q]
/-! the last tests -/
theorem m_ne (n : Nat) {P Q : Int} {xs ys : List Dd} {δ : DSt} {fa fb : DE} (h : ∃ r, fa δ = some (r, δ) ∧ r.pin.keep δ = some (hs P xs)) (h' : ∃ r, fb δ = some (r, δ) ∧ r.pin.keep δ = some (hs Q ys)) : dEqO csL "House" true [0, 1] [] (e_House_eq n) fa fb δ = some (.val (.bl (!decide (P = Q ∧ xs = ys))), δ) := by
  obtain ⟨r, h1, h2⟩ := h
  obtain ⟨r', h3, h4⟩ := h'
  have ok : okT csL (.own "House") = true := rfl
  simp [dEqO, h1, h2, h3, h4, insOf_hs, rd_hs, tag_hs, ok, pick, eq_ok]
theorem ne_same (n : Nat) {P : Int} {xs : List Dd} {δ : DSt} {fa fb : DE} (h : ∃ r, fa δ = some (r, δ) ∧ r.pin.keep δ = some (hs P xs)) (h' : ∃ r, fb δ = some (r, δ) ∧ r.pin.keep δ = some (hs P xs)) : dTst (dEqO csL "House" true [0, 1] [] (e_House_eq n) fa fb) δ = some (false, δ) := by
  have q := m_ne n h h'
  rw [decide_eq_true ⟨rfl, rfl⟩] at q
  simp [dTst, q]
theorem plain_m (n : Nat) (hn : 60 < n) {P : Int} {xs : List Dd} (g : good P xs) {fo : DE} {δ : DSt} {r : RV} (h1 : fo δ = some (r, δ)) (h2 : r.keep δ = some (hs P xs)) (low : Low δ.ce) : dMeth0 "House" "plain" [0] [] (e_House_plain n) fo δ = some (.fresh (hs P (anys xs)), δ) :=
  meth0_of (m := "plain") (g := e_House_plain n) (P := P) (xs := xs) h1 h2 (by decide) (plain_ok n hn g δ.ce low)
theorem turned_m (n : Nat) (hn : 60 < n) {P : Int} {xs : List Dd} (g : good P xs) (hx : ∀ x ∈ xs, x.w = ("any" : Str)) {fo : DE} {δ : DSt} {r : RV} (h1 : fo δ = some (r, δ)) (h2 : r.keep δ = some (hs P xs)) (low : Low δ.ce) : dMeth0 "House" "turned" [0] [] (e_House_turned n) fo δ = some (.fresh (hs P (xs.map tn)), δ) :=
  meth0_of (m := "turned") (g := e_House_turned n) (P := P) (xs := xs) h1 h2 (by decide) (turned_ok n hn g hx δ.ce low)
theorem ren_m (n : Nat) (hn : 60 < n) {P : Int} {xs : List Dd} {o : List Int} (g : good P xs) (h : ord P o) {fo fa : DE} {δ : DSt} {r s : RV} (h1 : fo δ = some (r, δ)) (h2 : r.keep δ = some (hs P xs)) (h3 : fa δ = some (s, δ)) (h4 : s.pin.keep δ = some (is o)) (low : Low δ.ce) : dMeth "House" "renumbered" 1 0 [0, 1] [] (e_House_renumbered n) fo (dCons fa dNil) dNil δ = some (.fresh (hs P (xs.map (mv o))), δ) := by
  refine meth_of (m := "renumbered") (g := e_House_renumbered n) (P := P) (xs := xs) (a := is o) h1 h2 (by decide) ?_ (renumbered_ok n hn g h (is o) (.inl rfl) δ.ce low)
  simp [dAK, dCons, h3, dNil, keepAll, h4]
theorem right_10 (n : Nat) (hn : 60 < n) {P : Int} {xs : List Dd} (g : good P xs) {o : List Int} (h : ord P o) (p : o.Perm (rg 0 P)) (s1 s2 s3 s5 s8 s9 : Option SD) (ce : List D) (low : Low ce) (b : DS) : dIfS (dOr (dTst (dEqO csL "House" true [0, 1] [] (e_House_eq n) (dMeth "House" "renumbered" 1 0 [0, 1] [] (e_House_renumbered n) (dMeth "House" "renumbered" 1 0 [0, 1] [] (e_House_renumbered n) (dVar 4) (dCons (dVar 6) dNil) dNil) (dCons (dVar 7) dNil) dNil) (dVar 4))) (dTst (dEqO csL "House" true [0, 1] [] (e_House_eq n) (dMeth0 "House" "plain" [0] [] (e_House_plain n) (dMeth0 "House" "plain" [0] [] (e_House_plain n) (dVar 4))) (dMeth0 "House" "plain" [0] [] (e_House_plain n) (dVar 4))))) b dSkip (rS [s1, s2, s3, some (.val (hs P xs)), s5, some (.val (is o)), some (.val (is (bk P o))), s8, s9] ce) = some (.nx, rS [s1, s2, s3, some (.val (hs P xs)), s5, some (.val (is o)), some (.val (is (bk P o))), s8, s9] ce) := by
  have h0 : 0 ≤ P := by have := g.P0; omega
  generalize hδ : rS [s1, s2, s3, some (.val (hs P xs)), s5, some (.val (is o)), some (.val (is (bk P o))), s8, s9] ce = δ
  have v4 : dVar 4 δ = some (.slot 4, δ) := by subst hδ; rfl
  have v6 : dVar 6 δ = some (.slot 6, δ) := by subst hδ; rfl
  have v7 : dVar 7 δ = some (.slot 7, δ) := by subst hδ; rfl
  have k4 : (RV.slot 4).keep δ = some (hs P xs) := by subst hδ; rfl
  have k6 : (RV.slot 6).pin.keep δ = some (is o) := by subst hδ; rfl
  have k7 : (RV.slot 7).pin.keep δ = some (is (bk P o)) := by subst hδ; rfl
  have low : Low δ.ce := by subst hδ; exact low
  have r1 := ren_m n hn g h v4 k4 v6 k6 low
  have r2 := ren_m n hn (good_mv g h) (ord_bk h p h0) r1 rfl v7 k7 low
  rw [mv_back h p g] at r2
  have p1 := plain_m n hn g v4 k4 low
  have p2 := plain_m n hn (good_any g) p1 rfl low
  rw [anys_anys] at p2
  have n1 := ne_same n (fa := dMeth "House" "renumbered" 1 0 [0, 1] [] (e_House_renumbered n) (dMeth "House" "renumbered" 1 0 [0, 1] [] (e_House_renumbered n) (dVar 4) (dCons (dVar 6) dNil) dNil) (dCons (dVar 7) dNil) dNil) (fb := dVar 4) ⟨_, r2, rfl⟩ ⟨.slot 4, v4, k4⟩
  have n2 := ne_same n (fa := dMeth0 "House" "plain" [0] [] (e_House_plain n) (dMeth0 "House" "plain" [0] [] (e_House_plain n) (dVar 4))) (fb := dMeth0 "House" "plain" [0] [] (e_House_plain n) (dVar 4)) ⟨_, p2, rfl⟩ ⟨_, p1, rfl⟩
  exact skip_if (or_false n1 n2)
theorem good_1 : good 1 [] := ⟨by omega, by omega, fun x h => by simp at h, List.nodup_nil, by simp⟩
theorem right_11 (n : Nat) (hn : 60 < n) {P : Int} {xs : List Dd} (g : good P xs) (s1 s2 s3 s5 s6 s7 s8 s9 : Option SD) (ce : List D) (low : Low ce) : dAndV (dEqO csL "House" false [0, 1] [] (e_House_eq n) (dMeth0 "House" "turned" [0] [] (e_House_turned n) (dMeth0 "House" "turned" [0] [] (e_House_turned n) (dMeth0 "House" "plain" [0] [] (e_House_plain n) (dVar 4)))) (dMeth0 "House" "plain" [0] [] (e_House_plain n) (dVar 4))) (dCall 3 (fun ds => e_law_tells n (ds ++ [])) (dCons (mk_law_right_3 n) (dCons (dC (.int 1)) (dCons (dLst dNil) dNil)))) (rS [s1, s2, s3, some (.val (hs P xs)), s5, s6, s7, s8, s9] ce) = some (.val (.bl true), rS [s1, s2, s3, some (.val (hs P xs)), s5, s6, s7, s8, s9] ce) := by
  have tl := tells_ok n hn good_1 ce low
  have mk : mk_law_right_3 n (rS [s1, s2, s3, some (.val (hs P xs)), s5, s6, s7, s8, s9] ce) = some (.fresh (hs 1 []), rS [s1, s2, s3, some (.val (hs P xs)), s5, s6, s7, s8, s9] ce) := by
    unfold mk_law_right_3
    exact make_ok n hn good_1 (r1 := .val (.int 1)) (r2 := .fresh (.lst [])) (a := .lst []) (by rfl) (by rfl) (by rfl) (.inl rfl) low
  have tc : dCall 3 (fun ds => e_law_tells n (ds ++ [])) (dCons (mk_law_right_3 n) (dCons (dC (.int 1)) (dCons (dLst dNil) dNil))) (rS [s1, s2, s3, some (.val (hs P xs)), s5, s6, s7, s8, s9] ce) = some (.val (.bl true), rS [s1, s2, s3, some (.val (hs P xs)), s5, s6, s7, s8, s9] ce) := by
    have e0 : ds [] = [] := rfl
    rw [e0] at tl
    simp [outK_s, pin_v, pin_s, pin_f, rd_v, rd_f, rd_s, slR_v, slR_o, kp_v, kp_f, kp_s, slP_v, rdD_int, rdD_str, rdD_bl, rdD_non, rdD_lst, rdD_tup, rdD_klst, rdD_dic, rdD_fn, rdD_ty, rdD_ins, rdD_cell, consO_s, rda_n, rda_c, kpa_n, kpa_c, putV_k, putO_k, putC_k, k_c, k_var, varK_s, k_bin, bin1_s, bin2_s, bin3_s, k_un, un1_s, un2_s, k_tst, tstK_s, k_tru, truK_s, tru2_s, tru3_s, gTru_bl, k_and, andK_t, andK_f, k_or, orK_t, orK_f, k_not, notK_s, k_andV, andVK_t, andVK_f, k_orV, orVK_t, orVK_f, k_notV, notVK_s, k_sc, scK_s, sc2_bl, k_if, ifK_t, ifK_f, k_nil, k_cons, cons1_s, cons2_s, k_tup, tupK_s, tup2_s, k_lst, lstK_s, lst2_s, k_bi, biK_s, bi2_s, k_call, callK_s, call2_s, call3_s, rv_v, rv_f, k_ak, ak1_s, ak2_s, ak3_s, k_callk, callkK_s, k_call0, k_fld, fldK_s, fld2_s, fld3_s, k_nop, k_part, poK_s, po2_s, k_sl, slK_s, sl2_s, sl3_s, sl4_s, k_seq, seqK_n, seqK_r, k_skip, k_ret, retK_s, k_retN, k_drop, dropK_s, k_ifs, ifsK_t, ifsK_f, k_st, stK_k, stK_o, stK_c, st2_s, k_asg, asgK_s, asg2_s, nxK_s, k_gnm, k_gtp, k_gcs, gcsK_s, k_gnl, k_forL, k_forN, bodK_s, forB_n, forB_r, k_for, forK_s, k_par, parK_s, par1_s, par2_s, par3_s, k_par3, pt3K_s, pt3_s, k_run, runK_n, runK_r, rt2_s, retOf_v, retOf_f, retOf_s, rtS_v, rtS_o, fin_s, start_0, start_c, mk, tl]
  generalize hδ : rS [s1, s2, s3, some (.val (hs P xs)), s5, s6, s7, s8, s9] ce = δ at tc
  have v4 : dVar 4 δ = some (.slot 4, δ) := by subst hδ; rfl
  have k4 : (RV.slot 4).keep δ = some (hs P xs) := by subst hδ; rfl
  have low : Low δ.ce := by subst hδ; exact low
  have p1 := plain_m n hn g v4 k4 low
  have t1 := turned_m n hn (good_any g) anys_all p1 rfl low
  have t2 := turned_m n hn (good_tn (good_any g) anys_all) tn_any' t1 rfl low
  rw [tn_tn anys_all] at t2
  exact and_true (eq_self n ⟨_, t2, rfl⟩ ⟨_, p1, rfl⟩) tc
end L
set_option Elab.async false
set_option linter.all false
set_option maxRecDepth 100000
set_option maxHeartbeats 4000000
namespace L
open PySem L2 EV

/-! the join of `_law_right`, law -/
theorem right_8 (n : Nat) {P : Int} (h0 : 0 ≤ P) (h1 : P ≤ 60) (a b : Int) (po : potOk a b) (rest : List D) (s2 s3 s4 s5 s8 : Option SD) : ∃ (o : List Int) (a' b' : Int), dSt .keep 6 (dCall 2 (fun ds => e_law_mixed n (ds ++ [])) (dCons (dVar 0) (dCons (dLr1 (dVar 1)) dNil))) (rS [some (.val (.int P)), s2, s3, s4, s5, none, none, s8, none] (pt a b :: rest)) = some (.nx, rS [some (.val (.int P)), s2, s3, s4, s5, some (.val (is o)), none, s8, none] (pt a' b' :: rest)) ∧ ord P o ∧ o.Perm (rg 0 P) ∧ potOk a' b' := by
  obtain ⟨o, a1, b1, e, ho, p, po1⟩ := mixed_perm n P h0 h1 a b po rest
  have sm : smallR 0 P = true := by
    simp only [smallR, decide_eq_true_eq]
    omega
  have e : e_law_mixed n [.cell 0, .lst (rngD 0 P.toNat)] (pt a b :: rest) = some (.fresh (is o), pt a1 b1 :: rest) := by
    rw [show P - 0 = P from by omega] at e
    exact e
  have lr : dLr1 (dVar 1) (rS [some (.val (.int P)), s2, s3, s4, s5, none, none, s8, none] (pt a b :: rest)) = some (.fresh (.lst (rngD 0 P.toNat)), rS [some (.val (.int P)), s2, s3, s4, s5, none, none, s8, none] (pt a b :: rest)) := by
    simp [dLr1, outK_s, pin_v, pin_s, pin_f, rd_v, rd_f, rd_s, slR_v, slR_o, kp_v, kp_f, kp_s, slP_v, rdD_int, rdD_str, rdD_bl, rdD_non, rdD_lst, rdD_tup, rdD_klst, rdD_dic, rdD_fn, rdD_ty, rdD_ins, rdD_cell, consO_s, rda_n, rda_c, kpa_n, kpa_c, putV_k, putO_k, putC_k, k_c, k_var, varK_s, k_bin, bin1_s, bin2_s, bin3_s, k_un, un1_s, un2_s, k_tst, tstK_s, k_tru, truK_s, tru2_s, tru3_s, gTru_bl, k_and, andK_t, andK_f, k_or, orK_t, orK_f, k_not, notK_s, k_andV, andVK_t, andVK_f, k_orV, orVK_t, orVK_f, k_notV, notVK_s, k_sc, scK_s, sc2_bl, k_if, ifK_t, ifK_f, k_nil, k_cons, cons1_s, cons2_s, k_tup, tupK_s, tup2_s, k_lst, lstK_s, lst2_s, k_bi, biK_s, bi2_s, k_call, callK_s, call2_s, call3_s, rv_v, rv_f, k_ak, ak1_s, ak2_s, ak3_s, k_callk, callkK_s, k_call0, k_fld, fldK_s, fld2_s, fld3_s, k_nop, k_part, poK_s, po2_s, k_sl, slK_s, sl2_s, sl3_s, sl4_s, k_seq, seqK_n, seqK_r, k_skip, k_ret, retK_s, k_retN, k_drop, dropK_s, k_ifs, ifsK_t, ifsK_f, k_st, stK_k, stK_o, stK_c, st2_s, k_asg, asgK_s, asg2_s, nxK_s, k_gnm, k_gtp, k_gcs, gcsK_s, k_gnl, k_forL, k_forN, bodK_s, forB_n, forB_r, k_for, forK_s, k_par, parK_s, par1_s, par2_s, par3_s, k_par3, pt3K_s, pt3_s, k_run, runK_n, runK_r, rt2_s, retOf_v, retOf_f, retOf_s, rtS_v, rtS_o, fin_s, start_0, start_c, sm]
  exact ⟨o, a1, b1, by simp [outK_s, pin_v, pin_s, pin_f, rd_v, rd_f, rd_s, slR_v, slR_o, kp_v, kp_f, kp_s, slP_v, rdD_int, rdD_str, rdD_bl, rdD_non, rdD_lst, rdD_tup, rdD_klst, rdD_dic, rdD_fn, rdD_ty, rdD_ins, rdD_cell, consO_s, rda_n, rda_c, kpa_n, kpa_c, putV_k, putO_k, putC_k, k_c, k_var, varK_s, k_bin, bin1_s, bin2_s, bin3_s, k_un, un1_s, un2_s, k_tst, tstK_s, k_tru, truK_s, tru2_s, tru3_s, gTru_bl, k_and, andK_t, andK_f, k_or, orK_t, orK_f, k_not, notK_s, k_andV, andVK_t, andVK_f, k_orV, orVK_t, orVK_f, k_notV, notVK_s, k_sc, scK_s, sc2_bl, k_if, ifK_t, ifK_f, k_nil, k_cons, cons1_s, cons2_s, k_tup, tupK_s, tup2_s, k_lst, lstK_s, lst2_s, k_bi, biK_s, bi2_s, k_call, callK_s, call2_s, call3_s, rv_v, rv_f, k_ak, ak1_s, ak2_s, ak3_s, k_callk, callkK_s, k_call0, k_fld, fldK_s, fld2_s, fld3_s, k_nop, k_part, poK_s, po2_s, k_sl, slK_s, sl2_s, sl3_s, sl4_s, k_seq, seqK_n, seqK_r, k_skip, k_ret, retK_s, k_retN, k_drop, dropK_s, k_ifs, ifsK_t, ifsK_f, k_st, stK_k, stK_o, stK_c, st2_s, k_asg, asgK_s, asg2_s, nxK_s, k_gnm, k_gtp, k_gcs, gcsK_s, k_gnl, k_forL, k_forN, bodK_s, forB_n, forB_r, k_for, forK_s, k_par, parK_s, par1_s, par2_s, par3_s, k_par3, pt3K_s, pt3_s, k_run, runK_n, runK_r, rt2_s, retOf_v, retOf_f, retOf_s, rtS_v, rtS_o, fin_s, start_0, start_c, lr, e], ho, p, po1⟩
theorem run_fin {N : Nat} {f : DS} {ds0 ce ce1 : List D} {b : Bool} {δ : DSt} (h : f (startD N ds0 ce) = some (.rt (.val (.bl b)), δ)) (hc : ce.length + 1 ≤ δ.ce.length) (ht : δ.ce.take ce.length = ce1) (low : D.lowCs ce.length ce1 = true) : runF N f ds0 ce = some (.val (.bl b), ce1) := by
  have ne : ¬ δ.ce.length = ce.length := by omega
  simp [runF, h, retOf, fin, ne, ht, low, Ret.lowC, D.lowC]
theorem tail_ok (n : Nat) (hn : 60 < n) {P : Int} {xs : List Dd} (g : good P xs) (hP : P ≤ 10) (a b : Int) (po : potOk a b) (rest : List D) (low : ∀ a b, Low (pt a b :: rest)) (s3 s5 s8 : Option SD) (hh : hideO [s3, s5, s8] = [s3, s5, s8]) : ∃ (a' b' : Int) (δ : DSt),
    (dSeq (dSt .keep 6 (dCall 2 (fun ds => e_law_mixed n (ds ++ [])) (dCons (dVar 0) (dCons (dLr1 (dVar 1)) dNil))))
    (dSeq (dSt .keep 7 (lc_law_right_2 n))
    (dSeq (dIfS (dOr (dTst (dEqO csL "House" true [0, 1] [] (e_House_eq n) (dMeth "House" "renumbered" 1 0 [0, 1] [] (e_House_renumbered n) (dMeth "House" "renumbered" 1 0 [0, 1] [] (e_House_renumbered n) (dVar 4) (dCons (dVar 6) dNil) dNil) (dCons (dVar 7) dNil) dNil) (dVar 4))) (dTst (dEqO csL "House" true [0, 1] [] (e_House_eq n) (dMeth0 "House" "plain" [0] [] (e_House_plain n) (dMeth0 "House" "plain" [0] [] (e_House_plain n) (dVar 4))) (dMeth0 "House" "plain" [0] [] (e_House_plain n) (dVar 4))))) (dRet (dC (.bl false))) dSkip)
    (dRet (dAndV (dEqO csL "House" false [0, 1] [] (e_House_eq n) (dMeth0 "House" "turned" [0] [] (e_House_turned n) (dMeth0 "House" "turned" [0] [] (e_House_turned n) (dMeth0 "House" "plain" [0] [] (e_House_plain n) (dVar 4)))) (dMeth0 "House" "plain" [0] [] (e_House_plain n) (dVar 4))) (dCall 3 (fun ds => e_law_tells n (ds ++ [])) (dCons (mk_law_right_3 n) (dCons (dC (.int 1)) (dCons (dLst dNil) dNil))))))))) (rT P xs s3 s5 s8 (pt a b :: rest)) = some (.rt (.val (.bl true)), δ) ∧ δ.ce = pt a' b' :: rest := by
  have h0 : 0 ≤ P := by have := g.P0; omega
  obtain ⟨o, a1, b1, e1, ho, p, po1⟩ := right_8 n h0 (by omega) a b po rest (some (.val (.lst (ds xs)))) s3 (some (.val (hs P xs))) s5 s8
  have e2 := right_9 n ho p h0 (by omega) (some (.val (.lst (ds xs)))) s3 (some (.val (hs P xs))) s5 s8 (by
    simp only [hideO, List.map_cons, List.map_nil, List.cons.injEq] at hh ⊢
    exact ⟨trivial, hh.1, trivial, hh.2⟩) (pt a1 b1 :: rest)
  refine ⟨a1, b1, _, (seq_nx e1).trans ((seq_nx e2).trans ((seq_nx (right_10 n hn g ho p _ _ _ _ _ _ _ (low a1 b1) _)).trans (ret_val (right_11 n hn g _ _ _ _ _ _ _ _ _ (low a1 b1))))), rfl⟩
theorem right_ok (n : Nat) (hn : 60 < n) (a b : Int) (po : potOk a b) : ∃ (a' b' : Int), e_law_right n [.cell 0] [pt a b] = some (.val (.bl true), [pt a' b']) := by
  obtain ⟨P, a1, b1, e1, P0, P1, po1⟩ := right_1 n a b po
  obtain ⟨xs, a2, b2, e2, g, hx, po2⟩ := right_2 n P a1 b1 P0 P1 po1
  obtain ⟨a4, b4, e4, po4⟩ := right_4 n hn g a2 b2 po2
  have e5 := right_5 (P := P) (xs := xs) (by omega) (hs P xs) (pt a4 b4)
  have e6 := right_6 n hn g P1 (some (.val (.cell 1))) none none none none none [pt a4 b4, .lst (ds (xs ++ [d0]))] (low_2 a4 b4 _)
  obtain ⟨Q, ys, a7, b7, t5, t8, e7, gq, hq, po7, hh⟩ := right_7 n hn [.lst (ds (xs ++ [d0]))] (low_r _) (some (.val (.cell 1))) g (by omega) hx a4 b4 po4
  obtain ⟨a8, b8, δ, e8, c8⟩ := tail_ok n hn gq hq a7 b7 po7 [.lst (ds (xs ++ [d0]))] (low_r _) (some (.val (.cell 1))) t5 t8 (by
    simp only [hideO, List.map_cons, List.map_nil, List.cons.injEq] at hh ⊢
    exact ⟨trivial, hh⟩)
  refine ⟨a8, b8, run_fin (δ := δ) ?_ (by rw [c8]; simp) (by rw [c8]; rfl) rfl⟩
  show d_law_right n (rS [none, none, none, none, none, none, none, none, none] [pt a b]) = _
  unfold d_law_right
  exact (seq_nx e1).trans ((seq_nx e2).trans ((seq_nx (right_3 P xs (pt a2 b2))).trans ((seq_nx e4).trans ((seq_nx e5).trans ((seq_nx (e6 _)).trans ((seq_nx e7).trans e8))))))
/-! law -/
theorem new_of {g : List D → List D → Option (Ret × List D)} {fa : DE} {δ δ1 : DSt} {d e : D} {b : Bool} (h1 : fa δ = some (.fresh d, δ1)) (h2 : g [.cell δ1.ce.length] (δ1.ce ++ [d]) = some (.val (.bl b), δ1.ce ++ [e])) (low : D.lowCs δ1.ce.length (δ1.ce ++ [e]) = true) : dCallNew g fa δ = some (.val (.bl b), δ1) := by
  simp [dCallNew, h1, h2, Ret.lowC, D.lowC, low]
  rfl
theorem law_turns (n : Nat) (ns : List Int) (hl : ns.length ≤ 63) : ∃ m : Nat, iRg1 (dCons (dBi gMax2 (dCons (dC (.int 1)) (dCons (dBi gMin2 (dCons (dC (.int 3)) (dCons (dBi gLen (dCons (dVar 0) dNil)) dNil))) dNil))) dNil) ⟨[some (.val (.klst (ns.map .int))), none], []⟩ = some ((List.range m).map fun (i : Nat) => D.int (i : Int), ⟨[some (.val (.klst (ns.map .int))), none], []⟩) ∧ m ≤ 3 := by
  obtain ⟨j, hj⟩ : ∃ j : Int, ((ns.map D.int).length : Int) = j := ⟨_, rfl⟩
  have gl : gLen [.klst (ns.map .int)] = some (.val (.int j)) := by rw [← hj]; rfl
  obtain ⟨k, k1, hk⟩ : ∃ k : Int, gMin2 [.int 3, .int j] = some (.val (.int k)) ∧ k ≤ 3 := by
    refine ⟨_, rfl, ?_⟩
    split <;> omega
  obtain ⟨m, m1, m2, m3⟩ : ∃ m : Int, gMax2 [.int 1, .int k] = some (.val (.int m)) ∧ 0 ≤ m ∧ m ≤ 3 := by
    refine ⟨_, rfl, ?_⟩
    split <;> omega
  refine ⟨m.toNat, ?_, by omega⟩
  have v0 : dCons (dVar 0) dNil ⟨[some (.val (.klst (ns.map .int))), none], []⟩ = some ([.slot 0], ⟨[some (.val (.klst (ns.map .int))), none], []⟩) := rfl
  have r0 : rdAll ⟨[some (.val (.klst (ns.map .int))), none], []⟩ [.slot 0] = some [.klst (ns.map .int)] := rfl
  have b1 : dBi gLen (dCons (dVar 0) dNil) ⟨[some (.val (.klst (ns.map .int))), none], []⟩ = some (.val (.int j), ⟨[some (.val (.klst (ns.map .int))), none], []⟩) := by
    simp [dBi, v0, r0, gl]
  have b2 := ev_bi2 (ev_c ⟨[some (.val (.klst (ns.map .int))), none], []⟩ 3) (EvV.i b1) k1
  have b3 := ev_bi2 (ev_c ⟨[some (.val (.klst (ns.map .int))), none], []⟩ 1) b2.i m1
  have b4 := rg1_of (dCons (dBi gMax2 (dCons (dC (.int 1)) (dCons (dBi gMin2 (dCons (dC (.int 3)) (dCons (dBi gLen (dCons (dVar 0) dNil)) dNil))) dNil))) dNil) ⟨[some (.val (.klst (ns.map .int))), none], []⟩ _ [.val (.int m)] m (cons_of b3 (by rfl)) (by rfl) (by omega)
  rw [b4]
  have e : rngD 0 m.toNat = (List.range m.toNat).map fun (i : Nat) => D.int (i : Int) := by
    unfold rngD
    refine List.map_congr_left fun i _ => ?_
    rw [Int.zero_add]
  rw [e]
theorem law_ok (n : Nat) (hn : 60 < n) (ns : List Int) (hl : ns.length ≤ 63) : e_law n [.klst (ns.map .int)] [] = some (.val (.bl true), []) := by
  obtain ⟨m, hm, m3⟩ := law_turns n ns hl
  have q : lc_law_0 n ⟨[some (.val (.klst (ns.map .int))), none], []⟩ = some (.fresh (.lst (((List.range m).filter fun _ => true).map fun _ => D.bl true)), ⟨[some (.val (.klst (ns.map .int))), none], []⟩) := by
    refine dLc_typed (fun (i : Nat) => D.int (i : Int)) (fun _ => true) (fun _ => .bl true) (List.range m) hm (fun i hi => ?_) (by simp; omega)
    refine turn_yes (r := .val (.bl true)) (δ1 := ⟨[some (.val (.klst (ns.map .int))), some (.val (.int (i : Int)))], []⟩) rfl ?_ rfl rfl
    obtain ⟨a, b, e, po⟩ := law_pot_ok n ns i
    obtain ⟨a', b', e2⟩ := right_ok n hn a b po
    refine new_of (d := pt a b) (e := pt a' b') (δ1 := ⟨[some (.val (.klst (ns.map .int))), some (.val (.int (i : Int)))], []⟩) ?_ e2 rfl
    simp [outK_s, pin_v, pin_s, pin_f, rd_v, rd_f, rd_s, slR_v, slR_o, kp_v, kp_f, kp_s, slP_v, rdD_int, rdD_str, rdD_bl, rdD_non, rdD_lst, rdD_tup, rdD_klst, rdD_dic, rdD_fn, rdD_ty, rdD_ins, rdD_cell, consO_s, rda_n, rda_c, kpa_n, kpa_c, putV_k, putO_k, putC_k, k_c, k_var, varK_s, k_bin, bin1_s, bin2_s, bin3_s, k_un, un1_s, un2_s, k_tst, tstK_s, k_tru, truK_s, tru2_s, tru3_s, gTru_bl, k_and, andK_t, andK_f, k_or, orK_t, orK_f, k_not, notK_s, k_andV, andVK_t, andVK_f, k_orV, orVK_t, orVK_f, k_notV, notVK_s, k_sc, scK_s, sc2_bl, k_if, ifK_t, ifK_f, k_nil, k_cons, cons1_s, cons2_s, k_tup, tupK_s, tup2_s, k_lst, lstK_s, lst2_s, k_bi, biK_s, bi2_s, k_call, callK_s, call2_s, call3_s, rv_v, rv_f, k_ak, ak1_s, ak2_s, ak3_s, k_callk, callkK_s, k_call0, k_fld, fldK_s, fld2_s, fld3_s, k_nop, k_part, poK_s, po2_s, k_sl, slK_s, sl2_s, sl3_s, sl4_s, k_seq, seqK_n, seqK_r, k_skip, k_ret, retK_s, k_retN, k_drop, dropK_s, k_ifs, ifsK_t, ifsK_f, k_st, stK_k, stK_o, stK_c, st2_s, k_asg, asgK_s, asg2_s, nxK_s, k_gnm, k_gtp, k_gcs, gcsK_s, k_gnl, k_forL, k_forN, bodK_s, forB_n, forB_r, k_for, forK_s, k_par, parK_s, par1_s, par2_s, par3_s, k_par3, pt3K_s, pt3_s, k_run, runK_n, runK_r, rt2_s, retOf_v, retOf_f, retOf_s, rtS_v, rtS_o, fin_s, start_0, start_c, e]
  rw [filter_yes] at q
  refine run_val (δ := ⟨[some (.val (.klst (ns.map .int))), none], []⟩) ?_ rfl
  have al : gAll [.lst ((List.range m).map fun _ => D.bl true)] = some (.val (.bl true)) := by
    have := bls_map (fun _ : Nat => true) (List.range m)
    simp only [gAll, this]
    simp
  refine ret_val ?_
  have s : startD 2 [D.klst (ns.map .int)] [] = ⟨[some (.val (.klst (ns.map .int))), none], []⟩ := rfl
  rw [s, k_bi, k_cons, q]
  simp only [cons1_s, k_nil, cons2_s, biK_s, rda_c, rda_n, pin_f, rd_v, rdD_lst, consO_s, bi2_s, al, outK_s]
end L
set_option Elab.async false
set_option linter.all false
set_option maxRecDepth 100000
set_option maxHeartbeats 4000000
namespace L
open PySem L2 EV PySem.Spec PyProof.Rows
/-! ### the facts -/
structure Fx (K : PySem.W.Frag) (mg : Str → Option Value) : Prop where
  g_is_integer : mg "is_integer" = some (.ref (He.ga K "is_integer"))
  g_is_count : mg "is_count" = some (.ref (He.ga K "is_count"))
  g_is_list : mg "is_list" = some (.ref (He.ga K "is_list"))
  g_is_place_of : mg "is_place_of" = some (.ref (He.ga K "is_place_of"))
  g_is_deed : mg "is_deed" = some (.ref (He.ga K "is_deed"))
  g_want_deeds : mg "want_deeds" = some (.ref (He.ga K "want_deeds"))
  g_want_few : mg "want_few" = some (.ref (He.ga K "want_few"))
  g_is_order : mg "is_order" = some (.ref (He.ga K "is_order"))
  g_moved : mg "moved" = some (.ref (He.ga K "moved"))
  g_want_plain : mg "want_plain" = some (.ref (He.ga K "want_plain"))
  g_law_pot : mg "_law_pot" = some (.ref (He.ga K "_law_pot"))
  g_law_draw : mg "_law_draw" = some (.ref (He.ga K "_law_draw"))
  g_law_deeds : mg "_law_deeds" = some (.ref (He.ga K "_law_deeds"))
  g_law_mixed : mg "_law_mixed" = some (.ref (He.ga K "_law_mixed"))
  g_law_tells : mg "_law_tells" = some (.ref (He.ga K "_law_tells"))
  g_law_equal_right : mg "_law_equal_right" = some (.ref (He.ga K "_law_equal_right"))
  g_law_made : mg "_law_made" = some (.ref (He.ga K "_law_made"))
  g_law_right : mg "_law_right" = some (.ref (He.ga K "_law_right"))
  g_law : mg "law" = some (.ref (He.ga K "law"))
  d_is_integer : ∃ fd, FunD K "is_integer" "is_integer" (defArgs s_is_integer) (defBody s_is_integer) (defScope s_is_integer) [] [] ((Ad.glo "is_integer").at_ K) fd
  d_is_count : ∃ fd, FunD K "is_count" "is_count" (defArgs s_is_count) (defBody s_is_count) (defScope s_is_count) [] [] ((Ad.glo "is_count").at_ K) fd
  d_is_list : ∃ fd, FunD K "is_list" "is_list" (defArgs s_is_list) (defBody s_is_list) (defScope s_is_list) [] [] ((Ad.glo "is_list").at_ K) fd
  d_is_place_of : ∃ fd, FunD K "is_place_of" "is_place_of" (defArgs s_is_place_of) (defBody s_is_place_of) (defScope s_is_place_of) [] [] ((Ad.glo "is_place_of").at_ K) fd
  d_is_deed : ∃ fd, FunD K "is_deed" "is_deed" (defArgs s_is_deed) (defBody s_is_deed) (defScope s_is_deed) [] [] ((Ad.glo "is_deed").at_ K) fd
  d_want_deeds : ∃ fd, FunD K "want_deeds" "want_deeds" (defArgs s_want_deeds) (defBody s_want_deeds) (defScope s_want_deeds) [] [] ((Ad.glo "want_deeds").at_ K) fd
  d_want_few : ∃ fd, FunD K "want_few" "want_few" (defArgs s_want_few) (defBody s_want_few) (defScope s_want_few) [] [] ((Ad.glo "want_few").at_ K) fd
  d_House_init : ∃ fd, FunD K "__init__" "House.__init__" (defArgs s_House_init) (defBody s_House_init) (defScope s_House_init) [] [] ((Ad.met "House" "__init__").at_ K) fd
  d_House_places : ∃ fd, FunD K "places" "House.places" (defArgs s_House_places) (defBody s_House_places) (defScope s_House_places) [] [] ((Ad.prp "House" "places").at_ K) fd
  d_House_is_plain : ∃ fd, FunD K "is_plain" "House.is_plain" (defArgs s_House_is_plain) (defBody s_House_is_plain) (defScope s_House_is_plain) [] [] ((Ad.prp "House" "is_plain").at_ K) fd
  d_House_deeds : ∃ fd, FunD K "deeds" "House.deeds" (defArgs s_House_deeds) (defBody s_House_deeds) (defScope s_House_deeds) [] [] ((Ad.met "House" "deeds").at_ K) fd
  d_House_len : ∃ fd, FunD K "__len__" "House.__len__" (defArgs s_House_len) (defBody s_House_len) (defScope s_House_len) [] [] ((Ad.met "House" "__len__").at_ K) fd
  d_House_eq : ∃ fd, FunD K "__eq__" "House.__eq__" (defArgs s_House_eq) (defBody s_House_eq) (defScope s_House_eq) [] [] ((Ad.met "House" "__eq__").at_ K) fd
  d_House_repr : ∃ fd, FunD K "__repr__" "House.__repr__" (defArgs s_House_repr) (defBody s_House_repr) (defScope s_House_repr) [] [] ((Ad.met "House" "__repr__").at_ K) fd
  d_House_with_deed : ∃ fd, FunD K "with_deed" "House.with_deed" (defArgs s_House_with_deed) (defBody s_House_with_deed) (defScope s_House_with_deed) [] [] ((Ad.met "House" "with_deed").at_ K) fd
  d_House_without_deed : ∃ fd, FunD K "without_deed" "House.without_deed" (defArgs s_House_without_deed) (defBody s_House_without_deed) (defScope s_House_without_deed) [] [] ((Ad.met "House" "without_deed").at_ K) fd
  d_is_order : ∃ fd, FunD K "is_order" "is_order" (defArgs s_is_order) (defBody s_is_order) (defScope s_is_order) [] [] ((Ad.glo "is_order").at_ K) fd
  d_moved : ∃ fd, FunD K "moved" "moved" (defArgs s_moved) (defBody s_moved) (defScope s_moved) [] [] ((Ad.glo "moved").at_ K) fd
  d_House_renumbered : ∃ fd, FunD K "renumbered" "House.renumbered" (defArgs s_House_renumbered) (defBody s_House_renumbered) (defScope s_House_renumbered) [] [] ((Ad.met "House" "renumbered").at_ K) fd
  d_House_beside : ∃ fd, FunD K "beside" "House.beside" (defArgs s_House_beside) (defBody s_House_beside) (defScope s_House_beside) [] [] ((Ad.met "House" "beside").at_ K) fd
  d_House_plain : ∃ fd, FunD K "plain" "House.plain" (defArgs s_House_plain) (defBody s_House_plain) (defScope s_House_plain) [] [] ((Ad.met "House" "plain").at_ K) fd
  d_want_plain : ∃ fd, FunD K "want_plain" "want_plain" (defArgs s_want_plain) (defBody s_want_plain) (defScope s_want_plain) [] [] ((Ad.glo "want_plain").at_ K) fd
  d_House_turned : ∃ fd, FunD K "turned" "House.turned" (defArgs s_House_turned) (defBody s_House_turned) (defScope s_House_turned) [] [] ((Ad.met "House" "turned").at_ K) fd
  d_law_pot : ∃ fd, FunD K "_law_pot" "_law_pot" (defArgs s_law_pot) (defBody s_law_pot) (defScope s_law_pot) [] [] ((Ad.glo "_law_pot").at_ K) fd
  d_law_draw : ∃ fd, FunD K "_law_draw" "_law_draw" (defArgs s_law_draw) (defBody s_law_draw) (defScope s_law_draw) [] [] ((Ad.glo "_law_draw").at_ K) fd
  d_law_deeds : ∃ fd, FunD K "_law_deeds" "_law_deeds" (defArgs s_law_deeds) (defBody s_law_deeds) (defScope s_law_deeds) [] [] ((Ad.glo "_law_deeds").at_ K) fd
  d_law_mixed : ∃ fd, FunD K "_law_mixed" "_law_mixed" (defArgs s_law_mixed) (defBody s_law_mixed) (defScope s_law_mixed) [] [] ((Ad.glo "_law_mixed").at_ K) fd
  d_law_tells : ∃ fd, FunD K "_law_tells" "_law_tells" (defArgs s_law_tells) (defBody s_law_tells) (defScope s_law_tells) [] [] ((Ad.glo "_law_tells").at_ K) fd
  d_law_equal_right : ∃ fd, FunD K "_law_equal_right" "_law_equal_right" (defArgs s_law_equal_right) (defBody s_law_equal_right) (defScope s_law_equal_right) [] [] ((Ad.glo "_law_equal_right").at_ K) fd
  d_law_made : ∃ fd, FunD K "_law_made" "_law_made" (defArgs s_law_made) (defBody s_law_made) (defScope s_law_made) [] [] ((Ad.glo "_law_made").at_ K) fd
  d_law_right : ∃ fd, FunD K "_law_right" "_law_right" (defArgs s_law_right) (defBody s_law_right) (defScope s_law_right) [] [] ((Ad.glo "_law_right").at_ K) fd
  d_law : ∃ fd, FunD K "law" "law" (defArgs s_law) (defBody s_law) (defScope s_law) [] [] ((Ad.glo "law").at_ K) fd
  i_MOST_PLACES : ∃ t, mg "MOST_PLACES" = some (.int 16 t)
  i_MOST_DEEDS : ∃ t, mg "MOST_DEEDS" = some (.int 60 t)
  i_ANY : ∃ t, mg "ANY" = some (.str "any" t)
  i_EMPTY : ∃ t, mg "EMPTY" = some (.str "empty" t)
  n_abs : mg "abs" = none
  n_all : mg "all" = none
  n_any : mg "any" = none
  n_bool : mg "bool" = none
  n_divmod : mg "divmod" = none
  n_enumerate : mg "enumerate" = none
  n_int : mg "int" = none
  n_isinstance : mg "isinstance" = none
  n_len : mg "len" = none
  n_list : mg "list" = none
  n_max : mg "max" = none
  n_min : mg "min" = none
  n_range : mg "range" = none
  n_repr : mg "repr" = none
  n_set : mg "set" = none
  n_str : mg "str" = none
  n_tuple : mg "tuple" = none
  g_House : mg "House" = some (.ref (He.ga K "House"))
  cls_House : Cls K (He.ga K "House")
  mk_House : Mk K (He.ga K "House") ((Ad.met "House" "__init__").at_ K)
  na_House_own_places : NoAttr K (He.ga K "House") "own_places"
  na_House_own_deeds : NoAttr K (He.ga K "House") "own_deeds"
  pr_House_places : PropOf K (He.ga K "House") "places" (He.ma K (He.ga K "House") "places") ((Ad.prp "House" "places").at_ K)
  pr_House_is_plain : PropOf K (He.ga K "House") "is_plain" (He.ma K (He.ga K "House") "is_plain") ((Ad.prp "House" "is_plain").at_ K)
  me_House_deeds : Meth K (He.ga K "House") "deeds" ((Ad.met "House" "deeds").at_ K)
  me_House_len : Meth K (He.ga K "House") "__len__" ((Ad.met "House" "__len__").at_ K)
  me_House_eq : Meth K (He.ga K "House") "__eq__" ((Ad.met "House" "__eq__").at_ K)
  me_House_repr : Meth K (He.ga K "House") "__repr__" ((Ad.met "House" "__repr__").at_ K)
  me_House_with_deed : Meth K (He.ga K "House") "with_deed" ((Ad.met "House" "with_deed").at_ K)
  me_House_without_deed : Meth K (He.ga K "House") "without_deed" ((Ad.met "House" "without_deed").at_ K)
  me_House_renumbered : Meth K (He.ga K "House") "renumbered" ((Ad.met "House" "renumbered").at_ K)
  me_House_beside : Meth K (He.ga K "House") "beside" ((Ad.met "House" "beside").at_ K)
  me_House_plain : Meth K (He.ga K "House") "plain" ((Ad.met "House" "plain").at_ K)
  me_House_turned : Meth K (He.ga K "House") "turned" ((Ad.met "House" "turned").at_ K)
  eqo_House : EqO K (He.ga K "House") ((Ad.met "House" "__eq__").at_ K)
  w : ClsF mg K csL
/-! ### the defs do so -/
section
variable {P : Program} {w : World} {K : PySem.W.Frag} {mg : Str → Option Value} {base : Heap} {f : Addr} {fd : FuncData}
abbrev N_is_integer : List Str := ["value"]
theorem sc_is_integer : FnScope N_is_integer ["value"] (defScope s_is_integer) := ⟨rfl, rfl, rfl, by decide +kernel, rfl, by decide +kernel, by decide +kernel⟩
theorem bn_is_integer (F : FunD K "is_integer" "is_integer" (defArgs s_is_integer) (defBody s_is_integer) (defScope s_is_integer) [] [] f fd) : Binds K fd ["value"] [] := F.bindsN fun _ _ _ _ _ _ us hl => match us, hl with | [_], _ => rfl
theorem cb_is_integer (F : FunD K "is_integer" "is_integer" (defArgs s_is_integer) (defBody s_is_integer) (defScope s_is_integer) [] [] f fd) : CalB mg K fd ["value"] 1 [] [0] [] := calB_of F (fun _ _ _ _ _ _ us ws h1 h2 => match us, ws, h1, h2 with | [_], [], _, _ => rfl) rfl (by decide)
abbrev N_is_count : List Str := ["value"]
theorem sc_is_count : FnScope N_is_count ["value"] (defScope s_is_count) := ⟨rfl, rfl, rfl, by decide +kernel, rfl, by decide +kernel, by decide +kernel⟩
theorem bn_is_count (F : FunD K "is_count" "is_count" (defArgs s_is_count) (defBody s_is_count) (defScope s_is_count) [] [] f fd) : Binds K fd ["value"] [] := F.bindsN fun _ _ _ _ _ _ us hl => match us, hl with | [_], _ => rfl
theorem cb_is_count (F : FunD K "is_count" "is_count" (defArgs s_is_count) (defBody s_is_count) (defScope s_is_count) [] [] f fd) : CalB mg K fd ["value"] 1 [] [0] [] := calB_of F (fun _ _ _ _ _ _ us ws h1 h2 => match us, ws, h1, h2 with | [_], [], _, _ => rfl) rfl (by decide)
abbrev N_is_list : List Str := ["value"]
theorem sc_is_list : FnScope N_is_list ["value"] (defScope s_is_list) := ⟨rfl, rfl, rfl, by decide +kernel, rfl, by decide +kernel, by decide +kernel⟩
theorem bn_is_list (F : FunD K "is_list" "is_list" (defArgs s_is_list) (defBody s_is_list) (defScope s_is_list) [] [] f fd) : Binds K fd ["value"] [] := F.bindsN fun _ _ _ _ _ _ us hl => match us, hl with | [_], _ => rfl
theorem cb_is_list (F : FunD K "is_list" "is_list" (defArgs s_is_list) (defBody s_is_list) (defScope s_is_list) [] [] f fd) : CalB mg K fd ["value"] 1 [] [0] [] := calB_of F (fun _ _ _ _ _ _ us ws h1 h2 => match us, ws, h1, h2 with | [_], [], _, _ => rfl) rfl (by decide)
abbrev N_is_place_of : List Str := ["value", "places"]
theorem sc_is_place_of : FnScope N_is_place_of ["value", "places"] (defScope s_is_place_of) := ⟨rfl, rfl, rfl, by decide +kernel, rfl, by decide +kernel, by decide +kernel⟩
theorem bn_is_place_of (F : FunD K "is_place_of" "is_place_of" (defArgs s_is_place_of) (defBody s_is_place_of) (defScope s_is_place_of) [] [] f fd) : Binds K fd ["value", "places"] [] := F.bindsN fun _ _ _ _ _ _ us hl => match us, hl with | [_, _], _ => rfl
theorem cb_is_place_of (F : FunD K "is_place_of" "is_place_of" (defArgs s_is_place_of) (defBody s_is_place_of) (defScope s_is_place_of) [] [] f fd) : CalB mg K fd ["value", "places"] 2 [] [0, 1] [] := calB_of F (fun _ _ _ _ _ _ us ws h1 h2 => match us, ws, h1, h2 with | [_, _], [], _, _ => rfl) rfl (by decide)
abbrev N_is_deed : List Str := ["value", "places", "place", "change", "goal", "when"]
theorem sc_is_deed : FnScope N_is_deed ["value", "places"] (defScope s_is_deed) := ⟨rfl, rfl, rfl, by decide +kernel, rfl, by decide +kernel, by decide +kernel⟩
theorem bn_is_deed (F : FunD K "is_deed" "is_deed" (defArgs s_is_deed) (defBody s_is_deed) (defScope s_is_deed) [] [] f fd) : Binds K fd ["value", "places"] [] := F.bindsN fun _ _ _ _ _ _ us hl => match us, hl with | [_, _], _ => rfl
theorem cb_is_deed (F : FunD K "is_deed" "is_deed" (defArgs s_is_deed) (defBody s_is_deed) (defScope s_is_deed) [] [] f fd) : CalB mg K fd ["value", "places"] 2 [] [0, 1] [] := calB_of F (fun _ _ _ _ _ _ us ws h1 h2 => match us, ws, h1, h2 with | [_, _], [], _, _ => rfl) rfl (by decide)
abbrev N_want_deeds : List Str := ["value", "places", "known", "position", "deed"]
theorem sc_want_deeds : FnScope N_want_deeds ["value", "places"] (defScope s_want_deeds) := ⟨rfl, rfl, rfl, by decide +kernel, rfl, by decide +kernel, by decide +kernel⟩
theorem bn_want_deeds (F : FunD K "want_deeds" "want_deeds" (defArgs s_want_deeds) (defBody s_want_deeds) (defScope s_want_deeds) [] [] f fd) : Binds K fd ["value", "places"] [] := F.bindsN fun _ _ _ _ _ _ us hl => match us, hl with | [_, _], _ => rfl
theorem cb_want_deeds (F : FunD K "want_deeds" "want_deeds" (defArgs s_want_deeds) (defBody s_want_deeds) (defScope s_want_deeds) [] [] f fd) : CalB mg K fd ["value", "places"] 2 [] [0, 1] [] := calB_of F (fun _ _ _ _ _ _ us ws h1 h2 => match us, ws, h1, h2 with | [_, _], [], _, _ => rfl) rfl (by decide)
abbrev N_want_few : List Str := ["what", "most", "many"]
theorem sc_want_few : FnScope N_want_few ["what", "most", "many"] (defScope s_want_few) := ⟨rfl, rfl, rfl, by decide +kernel, rfl, by decide +kernel, by decide +kernel⟩
theorem bn_want_few (F : FunD K "want_few" "want_few" (defArgs s_want_few) (defBody s_want_few) (defScope s_want_few) [] [] f fd) : Binds K fd ["what", "most", "many"] [] := F.bindsN fun _ _ _ _ _ _ us hl => match us, hl with | [_, _, _], _ => rfl
theorem cb_want_few (F : FunD K "want_few" "want_few" (defArgs s_want_few) (defBody s_want_few) (defScope s_want_few) [] [] f fd) : CalB mg K fd ["what", "most", "many"] 3 [] [0, 1, 2] [] := calB_of F (fun _ _ _ _ _ _ us ws h1 h2 => match us, ws, h1, h2 with | [_, _, _], [], _, _ => rfl) rfl (by decide)
abbrev N_House_init : List Str := ["self", "places", "deeds"]
theorem sc_House_init : FnScope N_House_init ["self", "places", "deeds"] (defScope s_House_init) := ⟨rfl, rfl, rfl, by decide +kernel, rfl, by decide +kernel, by decide +kernel⟩
theorem bn_House_init (F : FunD K "__init__" "House.__init__" (defArgs s_House_init) (defBody s_House_init) (defScope s_House_init) [] [] f fd) : Binds K fd ["self", "places", "deeds"] [] := F.bindsN fun _ _ _ _ _ _ us hl => match us, hl with | [_, _, _], _ => rfl
theorem cb_House_init (F : FunD K "__init__" "House.__init__" (defArgs s_House_init) (defBody s_House_init) (defScope s_House_init) [] [] f fd) : CalB mg K fd ["self", "places", "deeds"] 3 [] [0, 1, 2] [] := calB_of F (fun _ _ _ _ _ _ us ws h1 h2 => match us, ws, h1, h2 with | [_, _, _], [], _, _ => rfl) rfl (by decide)
abbrev N_House_places : List Str := ["self"]
theorem sc_House_places : FnScope N_House_places ["self"] (defScope s_House_places) := ⟨rfl, rfl, rfl, by decide +kernel, rfl, by decide +kernel, by decide +kernel⟩
theorem bn_House_places (F : FunD K "places" "House.places" (defArgs s_House_places) (defBody s_House_places) (defScope s_House_places) [] [] f fd) : Binds K fd ["self"] [] := F.bindsN fun _ _ _ _ _ _ us hl => match us, hl with | [_], _ => rfl
theorem cb_House_places (F : FunD K "places" "House.places" (defArgs s_House_places) (defBody s_House_places) (defScope s_House_places) [] [] f fd) : CalB mg K fd ["self"] 1 [] [0] [] := calB_of F (fun _ _ _ _ _ _ us ws h1 h2 => match us, ws, h1, h2 with | [_], [], _, _ => rfl) rfl (by decide)
abbrev N_House_is_plain : List Str := ["self", "deed"]
theorem sc_House_is_plain : FnScope N_House_is_plain ["self"] (defScope s_House_is_plain) := ⟨rfl, rfl, rfl, by decide +kernel, rfl, by decide +kernel, by decide +kernel⟩
theorem bn_House_is_plain (F : FunD K "is_plain" "House.is_plain" (defArgs s_House_is_plain) (defBody s_House_is_plain) (defScope s_House_is_plain) [] [] f fd) : Binds K fd ["self"] [] := F.bindsN fun _ _ _ _ _ _ us hl => match us, hl with | [_], _ => rfl
theorem cb_House_is_plain (F : FunD K "is_plain" "House.is_plain" (defArgs s_House_is_plain) (defBody s_House_is_plain) (defScope s_House_is_plain) [] [] f fd) : CalB mg K fd ["self"] 1 [] [0] [] := calB_of F (fun _ _ _ _ _ _ us ws h1 h2 => match us, ws, h1, h2 with | [_], [], _, _ => rfl) rfl (by decide)
abbrev N_House_deeds : List Str := ["self"]
theorem sc_House_deeds : FnScope N_House_deeds ["self"] (defScope s_House_deeds) := ⟨rfl, rfl, rfl, by decide +kernel, rfl, by decide +kernel, by decide +kernel⟩
theorem bn_House_deeds (F : FunD K "deeds" "House.deeds" (defArgs s_House_deeds) (defBody s_House_deeds) (defScope s_House_deeds) [] [] f fd) : Binds K fd ["self"] [] := F.bindsN fun _ _ _ _ _ _ us hl => match us, hl with | [_], _ => rfl
theorem cb_House_deeds (F : FunD K "deeds" "House.deeds" (defArgs s_House_deeds) (defBody s_House_deeds) (defScope s_House_deeds) [] [] f fd) : CalB mg K fd ["self"] 1 [] [0] [] := calB_of F (fun _ _ _ _ _ _ us ws h1 h2 => match us, ws, h1, h2 with | [_], [], _, _ => rfl) rfl (by decide)
abbrev N_House_len : List Str := ["self"]
theorem sc_House_len : FnScope N_House_len ["self"] (defScope s_House_len) := ⟨rfl, rfl, rfl, by decide +kernel, rfl, by decide +kernel, by decide +kernel⟩
theorem bn_House_len (F : FunD K "__len__" "House.__len__" (defArgs s_House_len) (defBody s_House_len) (defScope s_House_len) [] [] f fd) : Binds K fd ["self"] [] := F.bindsN fun _ _ _ _ _ _ us hl => match us, hl with | [_], _ => rfl
theorem cb_House_len (F : FunD K "__len__" "House.__len__" (defArgs s_House_len) (defBody s_House_len) (defScope s_House_len) [] [] f fd) : CalB mg K fd ["self"] 1 [] [0] [] := calB_of F (fun _ _ _ _ _ _ us ws h1 h2 => match us, ws, h1, h2 with | [_], [], _, _ => rfl) rfl (by decide)
abbrev N_House_eq : List Str := ["self", "other"]
theorem sc_House_eq : FnScope N_House_eq ["self", "other"] (defScope s_House_eq) := ⟨rfl, rfl, rfl, by decide +kernel, rfl, by decide +kernel, by decide +kernel⟩
theorem bn_House_eq (F : FunD K "__eq__" "House.__eq__" (defArgs s_House_eq) (defBody s_House_eq) (defScope s_House_eq) [] [] f fd) : Binds K fd ["self", "other"] [] := F.bindsN fun _ _ _ _ _ _ us hl => match us, hl with | [_, _], _ => rfl
theorem cb_House_eq (F : FunD K "__eq__" "House.__eq__" (defArgs s_House_eq) (defBody s_House_eq) (defScope s_House_eq) [] [] f fd) : CalB mg K fd ["self", "other"] 2 [] [0, 1] [] := calB_of F (fun _ _ _ _ _ _ us ws h1 h2 => match us, ws, h1, h2 with | [_, _], [], _, _ => rfl) rfl (by decide)
abbrev N_House_repr : List Str := ["self"]
theorem sc_House_repr : FnScope N_House_repr ["self"] (defScope s_House_repr) := ⟨rfl, rfl, rfl, by decide +kernel, rfl, by decide +kernel, by decide +kernel⟩
theorem bn_House_repr (F : FunD K "__repr__" "House.__repr__" (defArgs s_House_repr) (defBody s_House_repr) (defScope s_House_repr) [] [] f fd) : Binds K fd ["self"] [] := F.bindsN fun _ _ _ _ _ _ us hl => match us, hl with | [_], _ => rfl
theorem cb_House_repr (F : FunD K "__repr__" "House.__repr__" (defArgs s_House_repr) (defBody s_House_repr) (defScope s_House_repr) [] [] f fd) : CalB mg K fd ["self"] 1 [] [0] [] := calB_of F (fun _ _ _ _ _ _ us ws h1 h2 => match us, ws, h1, h2 with | [_], [], _, _ => rfl) rfl (by decide)
abbrev N_House_with_deed : List Str := ["self", "deed"]
theorem sc_House_with_deed : FnScope N_House_with_deed ["self", "deed"] (defScope s_House_with_deed) := ⟨rfl, rfl, rfl, by decide +kernel, rfl, by decide +kernel, by decide +kernel⟩
theorem bn_House_with_deed (F : FunD K "with_deed" "House.with_deed" (defArgs s_House_with_deed) (defBody s_House_with_deed) (defScope s_House_with_deed) [] [] f fd) : Binds K fd ["self", "deed"] [] := F.bindsN fun _ _ _ _ _ _ us hl => match us, hl with | [_, _], _ => rfl
theorem cb_House_with_deed (F : FunD K "with_deed" "House.with_deed" (defArgs s_House_with_deed) (defBody s_House_with_deed) (defScope s_House_with_deed) [] [] f fd) : CalB mg K fd ["self", "deed"] 2 [] [0, 1] [] := calB_of F (fun _ _ _ _ _ _ us ws h1 h2 => match us, ws, h1, h2 with | [_, _], [], _, _ => rfl) rfl (by decide)
abbrev N_House_without_deed : List Str := ["self", "position"]
theorem sc_House_without_deed : FnScope N_House_without_deed ["self", "position"] (defScope s_House_without_deed) := ⟨rfl, rfl, rfl, by decide +kernel, rfl, by decide +kernel, by decide +kernel⟩
theorem bn_House_without_deed (F : FunD K "without_deed" "House.without_deed" (defArgs s_House_without_deed) (defBody s_House_without_deed) (defScope s_House_without_deed) [] [] f fd) : Binds K fd ["self", "position"] [] := F.bindsN fun _ _ _ _ _ _ us hl => match us, hl with | [_, _], _ => rfl
theorem cb_House_without_deed (F : FunD K "without_deed" "House.without_deed" (defArgs s_House_without_deed) (defBody s_House_without_deed) (defScope s_House_without_deed) [] [] f fd) : CalB mg K fd ["self", "position"] 2 [] [0, 1] [] := calB_of F (fun _ _ _ _ _ _ us ws h1 h2 => match us, ws, h1, h2 with | [_, _], [], _, _ => rfl) rfl (by decide)
abbrev N_is_order : List Str := ["value", "places", "one"]
theorem sc_is_order : FnScope N_is_order ["value", "places"] (defScope s_is_order) := ⟨rfl, rfl, rfl, by decide +kernel, rfl, by decide +kernel, by decide +kernel⟩
theorem bn_is_order (F : FunD K "is_order" "is_order" (defArgs s_is_order) (defBody s_is_order) (defScope s_is_order) [] [] f fd) : Binds K fd ["value", "places"] [] := F.bindsN fun _ _ _ _ _ _ us hl => match us, hl with | [_, _], _ => rfl
theorem cb_is_order (F : FunD K "is_order" "is_order" (defArgs s_is_order) (defBody s_is_order) (defScope s_is_order) [] [] f fd) : CalB mg K fd ["value", "places"] 2 [] [0, 1] [] := calB_of F (fun _ _ _ _ _ _ us ws h1 h2 => match us, ws, h1, h2 with | [_, _], [], _, _ => rfl) rfl (by decide)
abbrev N_moved : List Str := ["deed", "order"]
theorem sc_moved : FnScope N_moved ["deed", "order"] (defScope s_moved) := ⟨rfl, rfl, rfl, by decide +kernel, rfl, by decide +kernel, by decide +kernel⟩
theorem bn_moved (F : FunD K "moved" "moved" (defArgs s_moved) (defBody s_moved) (defScope s_moved) [] [] f fd) : Binds K fd ["deed", "order"] [] := F.bindsN fun _ _ _ _ _ _ us hl => match us, hl with | [_, _], _ => rfl
theorem cb_moved (F : FunD K "moved" "moved" (defArgs s_moved) (defBody s_moved) (defScope s_moved) [] [] f fd) : CalB mg K fd ["deed", "order"] 2 [] [0, 1] [] := calB_of F (fun _ _ _ _ _ _ us ws h1 h2 => match us, ws, h1, h2 with | [_, _], [], _, _ => rfl) rfl (by decide)
abbrev N_House_renumbered : List Str := ["self", "order", "deed"]
theorem sc_House_renumbered : FnScope N_House_renumbered ["self", "order"] (defScope s_House_renumbered) := ⟨rfl, rfl, rfl, by decide +kernel, rfl, by decide +kernel, by decide +kernel⟩
theorem bn_House_renumbered (F : FunD K "renumbered" "House.renumbered" (defArgs s_House_renumbered) (defBody s_House_renumbered) (defScope s_House_renumbered) [] [] f fd) : Binds K fd ["self", "order"] [] := F.bindsN fun _ _ _ _ _ _ us hl => match us, hl with | [_, _], _ => rfl
theorem cb_House_renumbered (F : FunD K "renumbered" "House.renumbered" (defArgs s_House_renumbered) (defBody s_House_renumbered) (defScope s_House_renumbered) [] [] f fd) : CalB mg K fd ["self", "order"] 2 [] [0, 1] [] := calB_of F (fun _ _ _ _ _ _ us ws h1 h2 => match us, ws, h1, h2 with | [_, _], [], _, _ => rfl) rfl (by decide)
abbrev N_House_beside : List Str := ["self", "other", "order", "later", "deed"]
theorem sc_House_beside : FnScope N_House_beside ["self", "other"] (defScope s_House_beside) := ⟨rfl, rfl, rfl, by decide +kernel, rfl, by decide +kernel, by decide +kernel⟩
theorem bn_House_beside (F : FunD K "beside" "House.beside" (defArgs s_House_beside) (defBody s_House_beside) (defScope s_House_beside) [] [] f fd) : Binds K fd ["self", "other"] [] := F.bindsN fun _ _ _ _ _ _ us hl => match us, hl with | [_, _], _ => rfl
theorem cb_House_beside (F : FunD K "beside" "House.beside" (defArgs s_House_beside) (defBody s_House_beside) (defScope s_House_beside) [] [] f fd) : CalB mg K fd ["self", "other"] 2 [] [0, 1] [] := calB_of F (fun _ _ _ _ _ _ us ws h1 h2 => match us, ws, h1, h2 with | [_, _], [], _, _ => rfl) rfl (by decide)
abbrev N_House_plain : List Str := ["self", "deed"]
theorem sc_House_plain : FnScope N_House_plain ["self"] (defScope s_House_plain) := ⟨rfl, rfl, rfl, by decide +kernel, rfl, by decide +kernel, by decide +kernel⟩
theorem bn_House_plain (F : FunD K "plain" "House.plain" (defArgs s_House_plain) (defBody s_House_plain) (defScope s_House_plain) [] [] f fd) : Binds K fd ["self"] [] := F.bindsN fun _ _ _ _ _ _ us hl => match us, hl with | [_], _ => rfl
theorem cb_House_plain (F : FunD K "plain" "House.plain" (defArgs s_House_plain) (defBody s_House_plain) (defScope s_House_plain) [] [] f fd) : CalB mg K fd ["self"] 1 [] [0] [] := calB_of F (fun _ _ _ _ _ _ us ws h1 h2 => match us, ws, h1, h2 with | [_], [], _, _ => rfl) rfl (by decide)
abbrev N_want_plain : List Str := ["house"]
theorem sc_want_plain : FnScope N_want_plain ["house"] (defScope s_want_plain) := ⟨rfl, rfl, rfl, by decide +kernel, rfl, by decide +kernel, by decide +kernel⟩
theorem bn_want_plain (F : FunD K "want_plain" "want_plain" (defArgs s_want_plain) (defBody s_want_plain) (defScope s_want_plain) [] [] f fd) : Binds K fd ["house"] [] := F.bindsN fun _ _ _ _ _ _ us hl => match us, hl with | [_], _ => rfl
theorem cb_want_plain (F : FunD K "want_plain" "want_plain" (defArgs s_want_plain) (defBody s_want_plain) (defScope s_want_plain) [] [] f fd) : CalB mg K fd ["house"] 1 [] [0] [] := calB_of F (fun _ _ _ _ _ _ us ws h1 h2 => match us, ws, h1, h2 with | [_], [], _, _ => rfl) rfl (by decide)
abbrev N_House_turned : List Str := ["self", "place", "change", "goal", "when"]
theorem sc_House_turned : FnScope N_House_turned ["self"] (defScope s_House_turned) := ⟨rfl, rfl, rfl, by decide +kernel, rfl, by decide +kernel, by decide +kernel⟩
theorem bn_House_turned (F : FunD K "turned" "House.turned" (defArgs s_House_turned) (defBody s_House_turned) (defScope s_House_turned) [] [] f fd) : Binds K fd ["self"] [] := F.bindsN fun _ _ _ _ _ _ us hl => match us, hl with | [_], _ => rfl
theorem cb_House_turned (F : FunD K "turned" "House.turned" (defArgs s_House_turned) (defBody s_House_turned) (defScope s_House_turned) [] [] f fd) : CalB mg K fd ["self"] 1 [] [0] [] := calB_of F (fun _ _ _ _ _ _ us ws h1 h2 => match us, ws, h1, h2 with | [_], [], _, _ => rfl) rfl (by decide)
abbrev N_law_pot : List Str := ["_law_script", "_law_k", "_law_cell"]
theorem sc_law_pot : FnScope N_law_pot ["_law_script", "_law_k"] (defScope s_law_pot) := ⟨rfl, rfl, rfl, by decide +kernel, rfl, by decide +kernel, by decide +kernel⟩
theorem bn_law_pot (F : FunD K "_law_pot" "_law_pot" (defArgs s_law_pot) (defBody s_law_pot) (defScope s_law_pot) [] [] f fd) : Binds K fd ["_law_script", "_law_k"] [] := F.bindsN fun _ _ _ _ _ _ us hl => match us, hl with | [_, _], _ => rfl
theorem cb_law_pot (F : FunD K "_law_pot" "_law_pot" (defArgs s_law_pot) (defBody s_law_pot) (defScope s_law_pot) [] [] f fd) : CalB mg K fd ["_law_script", "_law_k"] 2 [] [0, 1] [] := calB_of F (fun _ _ _ _ _ _ us ws h1 h2 => match us, ws, h1, h2 with | [_, _], [], _, _ => rfl) rfl (by decide)
abbrev N_law_draw : List Str := ["_law_pot_here", "_law_many", "_law_digit"]
theorem sc_law_draw : FnScope N_law_draw ["_law_pot_here", "_law_many"] (defScope s_law_draw) := ⟨rfl, rfl, rfl, by decide +kernel, rfl, by decide +kernel, by decide +kernel⟩
theorem bn_law_draw (F : FunD K "_law_draw" "_law_draw" (defArgs s_law_draw) (defBody s_law_draw) (defScope s_law_draw) [] [] f fd) : Binds K fd ["_law_pot_here", "_law_many"] [] := F.bindsN fun _ _ _ _ _ _ us hl => match us, hl with | [_, _], _ => rfl
theorem cb_law_draw (F : FunD K "_law_draw" "_law_draw" (defArgs s_law_draw) (defBody s_law_draw) (defScope s_law_draw) [] [] f fd) : CalB mg K fd ["_law_pot_here", "_law_many"] 2 [] [0, 1] [] := calB_of F (fun _ _ _ _ _ _ us ws h1 h2 => match us, ws, h1, h2 with | [_, _], [], _, _ => rfl) rfl (by decide)
abbrev N_law_deeds : List Str := ["_law_pot_here", "_law_places", "_law_many", "_law_has_empty", "_law_found", "_law_turn", "_law_place", "_law_goal", "_law_deed"]
theorem sc_law_deeds : FnScope N_law_deeds ["_law_pot_here", "_law_places", "_law_many", "_law_has_empty"] (defScope s_law_deeds) := ⟨rfl, rfl, rfl, by decide +kernel, rfl, by decide +kernel, by decide +kernel⟩
theorem bn_law_deeds (F : FunD K "_law_deeds" "_law_deeds" (defArgs s_law_deeds) (defBody s_law_deeds) (defScope s_law_deeds) [] [] f fd) : Binds K fd ["_law_pot_here", "_law_places", "_law_many", "_law_has_empty"] [] := F.bindsN fun _ _ _ _ _ _ us hl => match us, hl with | [_, _, _, _], _ => rfl
theorem cb_law_deeds (F : FunD K "_law_deeds" "_law_deeds" (defArgs s_law_deeds) (defBody s_law_deeds) (defScope s_law_deeds) [] [] f fd) : CalB mg K fd ["_law_pot_here", "_law_places", "_law_many", "_law_has_empty"] 4 [] [0, 1, 2, 3] [] := calB_of F (fun _ _ _ _ _ _ us ws h1 h2 => match us, ws, h1, h2 with | [_, _, _, _], [], _, _ => rfl) rfl (by decide)
abbrev N_law_mixed : List Str := ["_law_pot_here", "_law_some", "_law_left", "_law_found", "_law_turn"]
theorem sc_law_mixed : FnScope N_law_mixed ["_law_pot_here", "_law_some"] (defScope s_law_mixed) := ⟨rfl, rfl, rfl, by decide +kernel, rfl, by decide +kernel, by decide +kernel⟩
theorem bn_law_mixed (F : FunD K "_law_mixed" "_law_mixed" (defArgs s_law_mixed) (defBody s_law_mixed) (defScope s_law_mixed) [] [] f fd) : Binds K fd ["_law_pot_here", "_law_some"] [] := F.bindsN fun _ _ _ _ _ _ us hl => match us, hl with | [_, _], _ => rfl
theorem cb_law_mixed (F : FunD K "_law_mixed" "_law_mixed" (defArgs s_law_mixed) (defBody s_law_mixed) (defScope s_law_mixed) [] [] f fd) : CalB mg K fd ["_law_pot_here", "_law_some"] 2 [] [0, 1] [] := calB_of F (fun _ _ _ _ _ _ us ws h1 h2 => match us, ws, h1, h2 with | [_, _], [], _, _ => rfl) rfl (by decide)
abbrev N_law_tells : List Str := ["_law_house", "_law_places", "_law_deeds_here", "_law_plain", "_law_told", "_law_deed"]
theorem sc_law_tells : FnScope N_law_tells ["_law_house", "_law_places", "_law_deeds_here"] (defScope s_law_tells) := ⟨rfl, rfl, rfl, by decide +kernel, rfl, by decide +kernel, by decide +kernel⟩
theorem bn_law_tells (F : FunD K "_law_tells" "_law_tells" (defArgs s_law_tells) (defBody s_law_tells) (defScope s_law_tells) [] [] f fd) : Binds K fd ["_law_house", "_law_places", "_law_deeds_here"] [] := F.bindsN fun _ _ _ _ _ _ us hl => match us, hl with | [_, _, _], _ => rfl
theorem cb_law_tells (F : FunD K "_law_tells" "_law_tells" (defArgs s_law_tells) (defBody s_law_tells) (defScope s_law_tells) [] [] f fd) : CalB mg K fd ["_law_house", "_law_places", "_law_deeds_here"] 3 [] [0, 1, 2] [] := calB_of F (fun _ _ _ _ _ _ us ws h1 h2 => match us, ws, h1, h2 with | [_, _, _], [], _, _ => rfl) rfl (by decide)
abbrev N_law_equal_right : List Str := ["_law_pot_here", "_law_house", "_law_places", "_law_deeds_here", "_law_others", "_law_turned", "_law_other", "_law_some"]
theorem sc_law_equal_right : FnScope N_law_equal_right ["_law_pot_here", "_law_house", "_law_places", "_law_deeds_here"] (defScope s_law_equal_right) := ⟨rfl, rfl, rfl, by decide +kernel, rfl, by decide +kernel, by decide +kernel⟩
theorem bn_law_equal_right (F : FunD K "_law_equal_right" "_law_equal_right" (defArgs s_law_equal_right) (defBody s_law_equal_right) (defScope s_law_equal_right) [] [] f fd) : Binds K fd ["_law_pot_here", "_law_house", "_law_places", "_law_deeds_here"] [] := F.bindsN fun _ _ _ _ _ _ us hl => match us, hl with | [_, _, _, _], _ => rfl
theorem cb_law_equal_right (F : FunD K "_law_equal_right" "_law_equal_right" (defArgs s_law_equal_right) (defBody s_law_equal_right) (defScope s_law_equal_right) [] [] f fd) : CalB mg K fd ["_law_pot_here", "_law_house", "_law_places", "_law_deeds_here"] 4 [] [0, 1, 2, 3] [] := calB_of F (fun _ _ _ _ _ _ us ws h1 h2 => match us, ws, h1, h2 with | [_, _, _, _], [], _, _ => rfl) rfl (by decide)
abbrev N_law_made : List Str := ["_law_pot_here", "_law_house", "_law_places", "_law_deeds_here", "_law_way", "_law_left", "_law_fresh", "_law_at", "_law_order", "_law_later", "_law_more", "_law_deed", "_law_place", "_law_change", "_law_goal", "_law_when"]
theorem sc_law_made : FnScope N_law_made ["_law_pot_here", "_law_house", "_law_places", "_law_deeds_here"] (defScope s_law_made) := ⟨rfl, rfl, rfl, by decide +kernel, rfl, by decide +kernel, by decide +kernel⟩
theorem bn_law_made (F : FunD K "_law_made" "_law_made" (defArgs s_law_made) (defBody s_law_made) (defScope s_law_made) [] [] f fd) : Binds K fd ["_law_pot_here", "_law_house", "_law_places", "_law_deeds_here"] [] := F.bindsN fun _ _ _ _ _ _ us hl => match us, hl with | [_, _, _, _], _ => rfl
theorem cb_law_made (F : FunD K "_law_made" "_law_made" (defArgs s_law_made) (defBody s_law_made) (defScope s_law_made) [] [] f fd) : CalB mg K fd ["_law_pot_here", "_law_house", "_law_places", "_law_deeds_here"] 4 [] [0, 1, 2, 3] [] := calB_of F (fun _ _ _ _ _ _ us ws h1 h2 => match us, ws, h1, h2 with | [_, _, _, _], [], _, _ => rfl) rfl (by decide)
abbrev N_law_right : List Str := ["_law_pot_here", "_law_places", "_law_deeds_here", "_law_given", "_law_house", "_law_turn", "_law_order", "_law_back", "_law_ahead", "_law_place"]
theorem sc_law_right : FnScope N_law_right ["_law_pot_here"] (defScope s_law_right) := ⟨rfl, rfl, rfl, by decide +kernel, rfl, by decide +kernel, by decide +kernel⟩
theorem bn_law_right (F : FunD K "_law_right" "_law_right" (defArgs s_law_right) (defBody s_law_right) (defScope s_law_right) [] [] f fd) : Binds K fd ["_law_pot_here"] [] := F.bindsN fun _ _ _ _ _ _ us hl => match us, hl with | [_], _ => rfl
theorem cb_law_right (F : FunD K "_law_right" "_law_right" (defArgs s_law_right) (defBody s_law_right) (defScope s_law_right) [] [] f fd) : CalB mg K fd ["_law_pot_here"] 1 [] [0] [] := calB_of F (fun _ _ _ _ _ _ us ws h1 h2 => match us, ws, h1, h2 with | [_], [], _, _ => rfl) rfl (by decide)
abbrev N_law : List Str := ["_law_script", "_law_k"]
theorem sc_law : FnScope N_law ["_law_script"] (defScope s_law) := ⟨rfl, rfl, rfl, by decide +kernel, rfl, by decide +kernel, by decide +kernel⟩
theorem bn_law (F : FunD K "law" "law" (defArgs s_law) (defBody s_law) (defScope s_law) [] [] f fd) : Binds K fd ["_law_script"] [] := F.bindsN fun _ _ _ _ _ _ us hl => match us, hl with | [_], _ => rfl
theorem cb_law (F : FunD K "law" "law" (defArgs s_law) (defBody s_law) (defScope s_law) [] [] f fd) : CalB mg K fd ["_law_script"] 1 [] [0] [] := calB_of F (fun _ _ _ _ _ _ us ws h1 h2 => match us, ws, h1, h2 with | [_], [], _, _ => rfl) rfl (by decide)
section
variable (Z : Fx K mg)
include Z
theorem ok_is_integer : ∃ fd, CalD P w K mg base 1 ((Ad.glo "is_integer").at_ K) fd ["value"] e_is_integer ∧ FunD K "is_integer" "is_integer" (defArgs s_is_integer) (defBody s_is_integer) (defScope s_is_integer) [] [] ((Ad.glo "is_integer").at_ K) fd := by
  obtain ⟨fd, F⟩ := Z.d_is_integer
  have scN := sc_is_integer
  refine ⟨fd, fnD' F sc_is_integer fun n cdv A outer s H E hgu hr => ?_, F⟩
  exact (sndb_one (snds_ret (snd_and (b_fn call_isiQ (cd_isi Z.w) Z.n_isinstance (ac (v 0) (ac (gt Z.n_int) snda_nil))) (snd_one (snd_not (b_fn call_isiQ (cd_isi Z.w) Z.n_isinstance (ac (v 0) (ac (gt Z.n_bool) snda_nil))))))))
theorem ok_is_count : ∃ fd, CalD P w K mg base 2 ((Ad.glo "is_count").at_ K) fd ["value"] e_is_count ∧ FunD K "is_count" "is_count" (defArgs s_is_count) (defBody s_is_count) (defScope s_is_count) [] [] ((Ad.glo "is_count").at_ K) fd := by
  obtain ⟨fd, F⟩ := Z.d_is_count
  obtain ⟨_, C_is_integer, F_is_integer⟩ := ok_is_integer (P := P) (w := w) (base := base) Z
  have scN := sc_is_count
  refine ⟨fd, fnD' F sc_is_count fun n cdv A outer s H E hgu hr => ?_, F⟩
  exact (sndb_one (snds_ret (snd_and (c_def n 1 C_is_integer (bn_is_integer F_is_integer) hgu hr Z.g_is_integer (ac (v 0) snda_nil)) (snd_one (p_ge (v 0) snd_int)))))
theorem ok_is_list : ∃ fd, CalD P w K mg base 1 ((Ad.glo "is_list").at_ K) fd ["value"] e_is_list ∧ FunD K "is_list" "is_list" (defArgs s_is_list) (defBody s_is_list) (defScope s_is_list) [] [] ((Ad.glo "is_list").at_ K) fd := by
  obtain ⟨fd, F⟩ := Z.d_is_list
  have scN := sc_is_list
  refine ⟨fd, fnD' F sc_is_list fun n cdv A outer s H E hgu hr => ?_, F⟩
  exact (sndb_one (snds_ret (b_fn call_isiQ (cd_isi Z.w) Z.n_isinstance (ac (v 0) (ac (snd_tup (ac (gt Z.n_list) (ac (gt Z.n_tuple) snda_nil))) snda_nil)))))
theorem ok_is_place_of : ∃ fd, CalD P w K mg base 3 ((Ad.glo "is_place_of").at_ K) fd ["value", "places"] e_is_place_of ∧ FunD K "is_place_of" "is_place_of" (defArgs s_is_place_of) (defBody s_is_place_of) (defScope s_is_place_of) [] [] ((Ad.glo "is_place_of").at_ K) fd := by
  obtain ⟨fd, F⟩ := Z.d_is_place_of
  obtain ⟨_, C_is_count, F_is_count⟩ := ok_is_count (P := P) (w := w) (base := base) Z
  have scN := sc_is_place_of
  refine ⟨fd, fnD' F sc_is_place_of fun n cdv A outer s H E hgu hr => ?_, F⟩
  exact (sndb_one (snds_ret (snd_and (c_def n 1 C_is_count (bn_is_count F_is_count) hgu hr Z.g_is_count (ac (v 0) snda_nil)) (snd_one (p_lt (v 0) (v 1))))))
theorem ok_is_deed : ∃ fd, CalD P w K mg base 4 ((Ad.glo "is_deed").at_ K) fd ["value", "places"] e_is_deed ∧ FunD K "is_deed" "is_deed" (defArgs s_is_deed) (defBody s_is_deed) (defScope s_is_deed) [] [] ((Ad.glo "is_deed").at_ K) fd := by
  obtain ⟨fd, F⟩ := Z.d_is_deed
  obtain ⟨_, C_is_place_of, F_is_place_of⟩ := ok_is_place_of (P := P) (w := w) (base := base) Z
  obtain ⟨_, C_is_integer, F_is_integer⟩ := ok_is_integer (P := P) (w := w) (base := base) Z
  have scN := sc_is_deed
  refine ⟨fd, fnD' F sc_is_deed fun n cdv A outer s H E hgu hr => ?_, F⟩
  exact (sndb_cons (snds_if (SndW.t (sndw_or (sndt_not (t_v (b_fn call_isiQ (cd_isi Z.w) Z.n_isinstance (ac (v 0) (ac (gt Z.n_tuple) snda_nil))))) (sndw_or1 (t_ne hr (b_fn call_len cd_len Z.n_len (ac (v 0) snda_nil)) snd_int)))) (sndb_one (snds_ret snd_bl)) sndb_nil)
    (sndb_cons (s_asg (v 0) (g_tp 4 (g_cs (g_nm 2 scN.nd) (g_cs (g_nm 3 scN.nd) (g_cs (g_nm 4 scN.nd) (g_cs (g_nm 5 scN.nd) sndgs_nil))))))
    (sndb_cons (snds_if (SndW.t (sndw_or (sndt_not (t_v (c_def n 2 C_is_place_of (bn_is_place_of F_is_place_of) hgu hr Z.g_is_place_of (ac (v 2) (ac (v 1) snda_nil))))) (sndw_or1 (sndt_not (t_v (c_def n 2 C_is_place_of (bn_is_place_of F_is_place_of) hgu hr Z.g_is_place_of (ac (v 4) (ac (v 1) snda_nil)))))))) (sndb_one (snds_ret snd_bl)) sndb_nil)
    (sndb_cons (snds_if (SndW.t (sndw_or (sndt_not (t_v (c_def n 1 C_is_integer (bn_is_integer F_is_integer) hgu hr Z.g_is_integer (ac (v 3) snda_nil)))) (sndw_or (sndt_not (t_chLeLe (p_neg snd_int) (v 3) snd_int)) (sndw_or1 (sndt_not (t_v (b_fn call_isiQ (cd_isi Z.w) Z.n_isinstance (ac (v 5) (ac (gt Z.n_str) snda_nil))))))))) (sndb_one (snds_ret snd_bl)) sndb_nil)
    (sndb_one (snds_ret (snd_or (p_eq hr (v 5) (gs Z.i_ANY)) (snd_one (snd_and (p_eq hr (v 5) (gs Z.i_EMPTY)) (snd_one (p_ge (v 3) snd_int)))))))))))
theorem ok_want_deeds : ∃ fd, CalD P w K mg base 5 ((Ad.glo "want_deeds").at_ K) fd ["value", "places"] e_want_deeds ∧ FunD K "want_deeds" "want_deeds" (defArgs s_want_deeds) (defBody s_want_deeds) (defScope s_want_deeds) [] [] ((Ad.glo "want_deeds").at_ K) fd := by
  obtain ⟨fd, F⟩ := Z.d_want_deeds
  obtain ⟨_, C_is_list, F_is_list⟩ := ok_is_list (P := P) (w := w) (base := base) Z
  obtain ⟨_, C_is_deed, F_is_deed⟩ := ok_is_deed (P := P) (w := w) (base := base) Z
  have scN := sc_want_deeds
  refine ⟨fd, fnD' F sc_want_deeds fun n cdv A outer s H E hgu hr => ?_, F⟩
  exact (sndb_cons (snds_if (sndt_not (t_v (c_def n 1 C_is_list (bn_is_list F_is_list) hgu hr Z.g_is_list (ac (v 0) snda_nil)))) sndb_never sndb_nil)
    (sndb_cons (s_st .own 2 scN.nd (snd_lst snda_nil))
    (sndb_one (snds_alt (s_for (i_en Z.n_enumerate (ac (v 0) snda_nil)) (g_tp 2 (g_cs (g_nm 3 scN.nd) (g_cs (g_nm 4 scN.nd) sndgs_nil))) (sndb_cons (snds_if (SndW.t (sndw_or (sndt_not (t_v (c_def n 2 C_is_deed (bn_is_deed F_is_deed) hgu hr Z.g_is_deed (ac (v 4) (ac (v 1) snda_nil))))) (sndw_or1 (t_in hr (v 4) (v 2))))) sndb_never sndb_nil)
    (sndb_one (s_ex (m_app 2 (ac (v 4) snda_nil)))))) (s_forC n (i_enC Z.n_enumerate (v 0)) (g_tp 2 (g_cs (g_nm 3 scN.nd) (g_cs (g_nm 4 scN.nd) sndgs_nil))) (sndb_cons (snds_if (SndW.t (sndw_or (sndt_not (t_v (c_def n 2 C_is_deed (bn_is_deed F_is_deed) hgu hr Z.g_is_deed (ac (v 4) (ac (v 1) snda_nil))))) (sndw_or1 (t_in hr (v 4) (v 2))))) sndb_never sndb_nil)
    (sndb_one (s_ex (m_app 2 (ac (v 4) snda_nil))))))))))
theorem ok_want_few : ∃ fd, CalD P w K mg base 1 ((Ad.glo "want_few").at_ K) fd ["what", "most", "many"] e_want_few ∧ FunD K "want_few" "want_few" (defArgs s_want_few) (defBody s_want_few) (defScope s_want_few) [] [] ((Ad.glo "want_few").at_ K) fd := by
  obtain ⟨fd, F⟩ := Z.d_want_few
  have scN := sc_want_few
  refine ⟨fd, fnD' F sc_want_few fun n cdv A outer s H E hgu hr => ?_, F⟩
  exact (sndb_one (snds_if (t_gt (v 2) (v 1)) sndb_never sndb_nil))
theorem ok_House_init : ∃ fd, CalD P w K mg base 6 ((Ad.met "House" "__init__").at_ K) fd ["self", "places", "deeds"] e_House_init ∧ FunD K "__init__" "House.__init__" (defArgs s_House_init) (defBody s_House_init) (defScope s_House_init) [] [] ((Ad.met "House" "__init__").at_ K) fd := by
  obtain ⟨fd, F⟩ := Z.d_House_init
  obtain ⟨_, C_is_integer, F_is_integer⟩ := ok_is_integer (P := P) (w := w) (base := base) Z
  obtain ⟨_, C_want_deeds, F_want_deeds⟩ := ok_want_deeds (P := P) (w := w) (base := base) Z
  obtain ⟨_, C_want_few, F_want_few⟩ := ok_want_few (P := P) (w := w) (base := base) Z
  have scN := sc_House_init
  refine ⟨fd, fnD' F sc_House_init fun n cdv A outer s H E hgu hr => ?_, F⟩
  exact (sndb_cons (snds_if (SndW.t (sndw_or (sndt_not (t_v (c_def n 1 C_is_integer (bn_is_integer F_is_integer) hgu hr Z.g_is_integer (ac (v 1) snda_nil)))) (sndw_or1 (sndt_not (t_chLeLe snd_int (v 1) (gi Z.i_MOST_PLACES)))))) sndb_never sndb_nil)
    (sndb_cons (s_ex (c_def n 2 C_want_deeds (bn_want_deeds F_want_deeds) hgu hr Z.g_want_deeds (ac (v 2) (ac (v 1) snda_nil))))
    (sndb_cons (s_ex (c_def n 3 C_want_few (bn_want_few F_want_few) hgu hr Z.g_want_few (ac snd_str (ac (gi Z.i_MOST_DEEDS) (ac (b_fn call_len cd_len Z.n_len (ac (v 2) snda_nil)) snda_nil)))))
    (sndb_cons (s_fld Z.g_House Z.cls_House Z.na_House_own_places (v 0) (v 1))
    (sndb_one (s_fld Z.g_House Z.cls_House Z.na_House_own_deeds (v 0) (b_ty call_list_of cd_list Z.n_list (ac (v 2) snda_nil))))))))
theorem ok_House_places : ∃ fd, CalD P w K mg base 1 ((Ad.prp "House" "places").at_ K) fd ["self"] e_House_places ∧ FunD K "places" "House.places" (defArgs s_House_places) (defBody s_House_places) (defScope s_House_places) [] [] ((Ad.prp "House" "places").at_ K) fd := by
  obtain ⟨fd, F⟩ := Z.d_House_places
  have scN := sc_House_places
  refine ⟨fd, fnD' F sc_House_places fun n cdv A outer s H E hgu hr => ?_, F⟩
  exact (sndb_one (snds_ret (c_fld Z.g_House Z.cls_House Z.na_House_own_places (v 0))))
theorem ok_House_is_plain : ∃ fd, CalD P w K mg base 1 ((Ad.prp "House" "is_plain").at_ K) fd ["self"] e_House_is_plain ∧ FunD K "is_plain" "House.is_plain" (defArgs s_House_is_plain) (defBody s_House_is_plain) (defScope s_House_is_plain) [] [] ((Ad.prp "House" "is_plain").at_ K) fd := by
  obtain ⟨fd, F⟩ := Z.d_House_is_plain
  have scN := sc_House_is_plain
  refine ⟨fd, fnD' F sc_House_is_plain fun n cdv A outer s H E hgu hr => ?_, F⟩
  exact (sndb_one (snds_ret (b_fn (cr_all rfl) cd_all Z.n_all (ac (e_lc [("deed", 1)] scN.nd (i_seq (c_fld Z.g_House Z.cls_House Z.na_House_own_deeds (v 0))) (fun Y hY => by obtain ⟨_, _, _, _, _, rfl⟩ := hY; exact (w_nm 1 scN.nd)) (fun Y hY => by obtain ⟨_, _, _, _, _, rfl⟩ := hY; exact lct_nil) (fun Y hY => by obtain ⟨_, _, _, _, _, rfl⟩ := hY; exact (p_eq hr (p_ix (v 1) snd_int) (gs Z.i_ANY))) (ok := (blkOk_by (N := N_House_is_plain) (sc := defScope s_House_is_plain) (by decide +kernel)))) snda_nil))))
theorem ok_House_deeds : ∃ fd, CalD P w K mg base 1 ((Ad.met "House" "deeds").at_ K) fd ["self"] e_House_deeds ∧ FunD K "deeds" "House.deeds" (defArgs s_House_deeds) (defBody s_House_deeds) (defScope s_House_deeds) [] [] ((Ad.met "House" "deeds").at_ K) fd := by
  obtain ⟨fd, F⟩ := Z.d_House_deeds
  have scN := sc_House_deeds
  refine ⟨fd, fnD' F sc_House_deeds fun n cdv A outer s H E hgu hr => ?_, F⟩
  exact (sndb_one (snds_ret (b_ty call_list_of cd_list Z.n_list (ac (c_fld Z.g_House Z.cls_House Z.na_House_own_deeds (v 0)) snda_nil))))
theorem ok_House_len : ∃ fd, CalD P w K mg base 1 ((Ad.met "House" "__len__").at_ K) fd ["self"] e_House_len ∧ FunD K "__len__" "House.__len__" (defArgs s_House_len) (defBody s_House_len) (defScope s_House_len) [] [] ((Ad.met "House" "__len__").at_ K) fd := by
  obtain ⟨fd, F⟩ := Z.d_House_len
  have scN := sc_House_len
  refine ⟨fd, fnD' F sc_House_len fun n cdv A outer s H E hgu hr => ?_, F⟩
  exact (sndb_one (snds_ret (b_fn call_len cd_len Z.n_len (ac (c_fld Z.g_House Z.cls_House Z.na_House_own_deeds (v 0)) snda_nil))))
theorem ok_House_eq : ∃ fd, CalD P w K mg base 1 ((Ad.met "House" "__eq__").at_ K) fd ["self", "other"] e_House_eq ∧ FunD K "__eq__" "House.__eq__" (defArgs s_House_eq) (defBody s_House_eq) (defScope s_House_eq) [] [] ((Ad.met "House" "__eq__").at_ K) fd := by
  obtain ⟨fd, F⟩ := Z.d_House_eq
  have scN := sc_House_eq
  refine ⟨fd, fnD' F sc_House_eq fun n cdv A outer s H E hgu hr => ?_, F⟩
  exact (sndb_cons (snds_if (sndt_not (t_v (b_fn call_isiQ (cd_isi Z.w) Z.n_isinstance (ac (v 1) (ac (gf Z.g_House) snda_nil))))) (sndb_one (snds_ret snd_bl)) sndb_nil)
    (sndb_one (snds_ret (snd_and (p_eq hr (c_fld Z.g_House Z.cls_House Z.na_House_own_places (v 0)) (c_fld Z.g_House Z.cls_House Z.na_House_own_places (v 1))) (snd_one (p_eq hr (c_fld Z.g_House Z.cls_House Z.na_House_own_deeds (v 0)) (c_fld Z.g_House Z.cls_House Z.na_House_own_deeds (v 1))))))))
theorem ok_House_repr : ∃ fd, CalD P w K mg base 1 ((Ad.met "House" "__repr__").at_ K) fd ["self"] e_House_repr ∧ FunD K "__repr__" "House.__repr__" (defArgs s_House_repr) (defBody s_House_repr) (defScope s_House_repr) [] [] ((Ad.met "House" "__repr__").at_ K) fd := by
  obtain ⟨fd, F⟩ := Z.d_House_repr
  have scN := sc_House_repr
  refine ⟨fd, fnD' F sc_House_repr fun n cdv A outer s H E hgu hr => ?_, F⟩
  exact (sndb_one (snds_ret (snd_joined (sndj_cons sndp_s (sndj_cons (sndp_f (c_fld Z.g_House Z.cls_House Z.na_House_own_places (v 0))) (sndj_cons sndp_s (sndj_cons (sndp_r hgu (u66 hr) (c_fld Z.g_House Z.cls_House Z.na_House_own_deeds (v 0))) (sndj_cons sndp_s sndj_nil))))))))
theorem ok_House_with_deed : ∃ fd, CalD P w K mg base 8 ((Ad.met "House" "with_deed").at_ K) fd ["self", "deed"] e_House_with_deed ∧ FunD K "with_deed" "House.with_deed" (defArgs s_House_with_deed) (defBody s_House_with_deed) (defScope s_House_with_deed) [] [] ((Ad.met "House" "with_deed").at_ K) fd := by
  obtain ⟨fd, F⟩ := Z.d_House_with_deed
  obtain ⟨_, C_is_deed, F_is_deed⟩ := ok_is_deed (P := P) (w := w) (base := base) Z
  obtain ⟨_, C_want_few, F_want_few⟩ := ok_want_few (P := P) (w := w) (base := base) Z
  obtain ⟨_, C_House_init, F_House_init⟩ := ok_House_init (P := P) (w := w) (base := base) Z
  have scN := sc_House_with_deed
  refine ⟨fd, fnD' F sc_House_with_deed fun n cdv A outer s H E hgu hr => ?_, F⟩
  exact (sndb_cons (snds_if (SndW.t (sndw_or (sndt_not (t_v (c_def n 2 C_is_deed (bn_is_deed F_is_deed) hgu hr Z.g_is_deed (ac (v 1) (ac (c_fld Z.g_House Z.cls_House Z.na_House_own_places (v 0)) snda_nil))))) (sndw_or1 (t_in hr (v 1) (c_fld Z.g_House Z.cls_House Z.na_House_own_deeds (v 0)))))) sndb_never sndb_nil)
    (sndb_cons (s_ex (c_def n 3 C_want_few (bn_want_few F_want_few) hgu hr Z.g_want_few (ac snd_str (ac (gi Z.i_MOST_DEEDS) (ac (p_add (b_fn call_len cd_len Z.n_len (ac (c_fld Z.g_House Z.cls_House Z.na_House_own_deeds (v 0)) snda_nil)) snd_int) snda_nil)))))
    (sndb_one (snds_ret (c_mk n C_House_init (calB_of (n := 3) (ks := []) (ix := [0, 1, 2]) F_House_init (fun _ _ _ _ _ _ us ws h1 h2 => match us, ws, h1, h2 with | [_, _, _], [], _, _ => rfl) rfl (by decide)) Z.mk_House hgu hr Z.g_House (ac (c_fld Z.g_House Z.cls_House Z.na_House_own_places (v 0)) (ac (p_add (c_fld Z.g_House Z.cls_House Z.na_House_own_deeds (v 0)) (snd_lst (ac (v 1) snda_nil))) snda_nil)) sndk_nil)))))
theorem ok_House_without_deed : ∃ fd, CalD P w K mg base 8 ((Ad.met "House" "without_deed").at_ K) fd ["self", "position"] e_House_without_deed ∧ FunD K "without_deed" "House.without_deed" (defArgs s_House_without_deed) (defBody s_House_without_deed) (defScope s_House_without_deed) [] [] ((Ad.met "House" "without_deed").at_ K) fd := by
  obtain ⟨fd, F⟩ := Z.d_House_without_deed
  obtain ⟨_, C_is_count, F_is_count⟩ := ok_is_count (P := P) (w := w) (base := base) Z
  obtain ⟨_, C_House_init, F_House_init⟩ := ok_House_init (P := P) (w := w) (base := base) Z
  have scN := sc_House_without_deed
  refine ⟨fd, fnD' F sc_House_without_deed fun n cdv A outer s H E hgu hr => ?_, F⟩
  exact (sndb_cons (snds_if (SndW.t (sndw_or (sndt_not (t_v (c_def n 1 C_is_count (bn_is_count F_is_count) hgu hr Z.g_is_count (ac (v 1) snda_nil)))) (sndw_or1 (t_ge (v 1) (b_fn call_len cd_len Z.n_len (ac (c_fld Z.g_House Z.cls_House Z.na_House_own_deeds (v 0)) snda_nil)))))) sndb_never sndb_nil)
    (sndb_one (snds_ret (c_mk n C_House_init (calB_of (n := 3) (ks := []) (ix := [0, 1, 2]) F_House_init (fun _ _ _ _ _ _ us ws h1 h2 => match us, ws, h1, h2 with | [_, _, _], [], _, _ => rfl) rfl (by decide)) Z.mk_House hgu hr Z.g_House (ac (c_fld Z.g_House Z.cls_House Z.na_House_own_places (v 0)) (ac (p_add (snd_slice (c_fld Z.g_House Z.cls_House Z.na_House_own_deeds (v 0)) sndo_none (sndo_some (v 1))) (snd_slice (c_fld Z.g_House Z.cls_House Z.na_House_own_deeds (v 0)) (sndo_some (p_add (v 1) snd_int)) sndo_none)) snda_nil)) sndk_nil))))
theorem ok_is_order : ∃ fd, CalD P w K mg base 4 ((Ad.glo "is_order").at_ K) fd ["value", "places"] e_is_order ∧ FunD K "is_order" "is_order" (defArgs s_is_order) (defBody s_is_order) (defScope s_is_order) [] [] ((Ad.glo "is_order").at_ K) fd := by
  obtain ⟨fd, F⟩ := Z.d_is_order
  obtain ⟨_, C_is_list, F_is_list⟩ := ok_is_list (P := P) (w := w) (base := base) Z
  obtain ⟨_, C_is_place_of, F_is_place_of⟩ := ok_is_place_of (P := P) (w := w) (base := base) Z
  have scN := sc_is_order
  refine ⟨fd, fnD' F sc_is_order fun n cdv A outer s H E hgu hr => ?_, F⟩
  exact (sndb_cons (snds_if (SndW.t (sndw_or (sndt_not (t_v (c_def n 1 C_is_list (bn_is_list F_is_list) hgu hr Z.g_is_list (ac (v 0) snda_nil)))) (sndw_or (t_ne hr (b_fn call_len cd_len Z.n_len (ac (v 0) snda_nil)) (v 1)) (sndw_or1 (sndt_not (t_v (b_fn (cr_all rfl) cd_all Z.n_all (ac (e_lc [("one", 2)] scN.nd (i_seq (v 0)) (fun Y hY => by obtain ⟨_, _, _, _, _, rfl⟩ := hY; exact (w_nm 2 scN.nd)) (fun Y hY => by obtain ⟨_, _, _, _, _, rfl⟩ := hY; exact lct_nil) (fun Y hY => by obtain ⟨_, _, _, _, _, rfl⟩ := hY; exact (c_def n 2 C_is_place_of (bn_is_place_of F_is_place_of) hgu hr Z.g_is_place_of (ac (v 2) (ac (v 1) snda_nil)))) (ok := (blkOk_by (N := N_is_order) (sc := defScope s_is_order) (by decide +kernel)))) snda_nil)))))))) (sndb_one (snds_ret snd_bl)) sndb_nil)
    (sndb_one (snds_ret (p_eq hr (p_lset Z.n_len Z.n_set (v 0)) (v 1)))))
theorem ok_moved : ∃ fd, CalD P w K mg base 1 ((Ad.glo "moved").at_ K) fd ["deed", "order"] e_moved ∧ FunD K "moved" "moved" (defArgs s_moved) (defBody s_moved) (defScope s_moved) [] [] ((Ad.glo "moved").at_ K) fd := by
  obtain ⟨fd, F⟩ := Z.d_moved
  have scN := sc_moved
  refine ⟨fd, fnD' F sc_moved fun n cdv A outer s H E hgu hr => ?_, F⟩
  exact (sndb_one (snds_ret (snd_tup (ac (p_ix (v 1) (p_ix (v 0) snd_int)) (ac (p_ix (v 0) snd_int) (ac (p_ix (v 1) (p_ix (v 0) snd_int)) (ac (p_ix (v 0) snd_int) snda_nil)))))))
theorem ok_House_renumbered : ∃ fd, CalD P w K mg base 8 ((Ad.met "House" "renumbered").at_ K) fd ["self", "order"] e_House_renumbered ∧ FunD K "renumbered" "House.renumbered" (defArgs s_House_renumbered) (defBody s_House_renumbered) (defScope s_House_renumbered) [] [] ((Ad.met "House" "renumbered").at_ K) fd := by
  obtain ⟨fd, F⟩ := Z.d_House_renumbered
  obtain ⟨_, C_is_order, F_is_order⟩ := ok_is_order (P := P) (w := w) (base := base) Z
  obtain ⟨_, C_House_init, F_House_init⟩ := ok_House_init (P := P) (w := w) (base := base) Z
  obtain ⟨_, C_moved, F_moved⟩ := ok_moved (P := P) (w := w) (base := base) Z
  have scN := sc_House_renumbered
  refine ⟨fd, fnD' F sc_House_renumbered fun n cdv A outer s H E hgu hr => ?_, F⟩
  exact (sndb_cons (snds_if (sndt_not (t_v (c_def n 2 C_is_order (bn_is_order F_is_order) hgu hr Z.g_is_order (ac (v 1) (ac (c_fld Z.g_House Z.cls_House Z.na_House_own_places (v 0)) snda_nil))))) sndb_never sndb_nil)
    (sndb_one (snds_ret (c_mk n C_House_init (calB_of (n := 3) (ks := []) (ix := [0, 1, 2]) F_House_init (fun _ _ _ _ _ _ us ws h1 h2 => match us, ws, h1, h2 with | [_, _, _], [], _, _ => rfl) rfl (by decide)) Z.mk_House hgu hr Z.g_House (ac (c_fld Z.g_House Z.cls_House Z.na_House_own_places (v 0)) (ac (e_lc [("deed", 2)] scN.nd (i_seq (c_fld Z.g_House Z.cls_House Z.na_House_own_deeds (v 0))) (fun Y hY => by obtain ⟨_, _, _, _, _, rfl⟩ := hY; exact (w_nm 2 scN.nd)) (fun Y hY => by obtain ⟨_, _, _, _, _, rfl⟩ := hY; exact lct_nil) (fun Y hY => by obtain ⟨_, _, _, _, _, rfl⟩ := hY; exact (c_def n 2 C_moved (bn_moved F_moved) hgu hr Z.g_moved (ac (v 2) (ac (v 1) snda_nil)))) (ok := (blkOk_by (N := N_House_renumbered) (sc := defScope s_House_renumbered) (by decide +kernel)))) snda_nil)) sndk_nil))))
theorem ok_House_beside : ∃ fd, CalD P w K mg base 8 ((Ad.met "House" "beside").at_ K) fd ["self", "other"] e_House_beside ∧ FunD K "beside" "House.beside" (defArgs s_House_beside) (defBody s_House_beside) (defScope s_House_beside) [] [] ((Ad.met "House" "beside").at_ K) fd := by
  obtain ⟨fd, F⟩ := Z.d_House_beside
  obtain ⟨_, C_want_few, F_want_few⟩ := ok_want_few (P := P) (w := w) (base := base) Z
  obtain ⟨_, C_moved, F_moved⟩ := ok_moved (P := P) (w := w) (base := base) Z
  obtain ⟨_, C_House_init, F_House_init⟩ := ok_House_init (P := P) (w := w) (base := base) Z
  have scN := sc_House_beside
  refine ⟨fd, fnD' F sc_House_beside fun n cdv A outer s H E hgu hr => ?_, F⟩
  exact (sndb_cons (snds_if (sndt_not (t_v (b_fn call_isiQ (cd_isi Z.w) Z.n_isinstance (ac (v 1) (ac (gf Z.g_House) snda_nil))))) sndb_never sndb_nil)
    (sndb_cons (s_ex (c_def n 3 C_want_few (bn_want_few F_want_few) hgu hr Z.g_want_few (ac snd_str (ac (gi Z.i_MOST_PLACES) (ac (p_add (c_fld Z.g_House Z.cls_House Z.na_House_own_places (v 0)) (c_fld Z.g_House Z.cls_House Z.na_House_own_places (v 1))) snda_nil)))))
    (sndb_cons (s_ex (c_def n 3 C_want_few (bn_want_few F_want_few) hgu hr Z.g_want_few (ac snd_str (ac (gi Z.i_MOST_DEEDS) (ac (p_add (b_fn call_len cd_len Z.n_len (ac (c_fld Z.g_House Z.cls_House Z.na_House_own_deeds (v 0)) snda_nil)) (b_fn call_len cd_len Z.n_len (ac (c_fld Z.g_House Z.cls_House Z.na_House_own_deeds (v 1)) snda_nil))) snda_nil)))))
    (sndb_cons (s_st .keep 2 scN.nd (p_lr2 Z.n_list Z.n_range (c_fld Z.g_House Z.cls_House Z.na_House_own_places (v 0)) (p_add (c_fld Z.g_House Z.cls_House Z.na_House_own_places (v 0)) (c_fld Z.g_House Z.cls_House Z.na_House_own_places (v 1)))))
    (sndb_cons (s_stLc .keep 3 [("deed", 4)] scN.nd (i_seq (c_fld Z.g_House Z.cls_House Z.na_House_own_deeds (v 1))) (fun Y hY => by obtain ⟨_, _, _, _, _, rfl⟩ := hY; exact (w_nm 4 scN.nd)) (fun Y hY => by obtain ⟨_, _, _, _, _, rfl⟩ := hY; exact lct_nil) (fun Y hY => by obtain ⟨_, _, _, _, _, rfl⟩ := hY; exact (c_def n 2 C_moved (bn_moved F_moved) hgu hr Z.g_moved (ac (v 4) (ac (v 2) snda_nil)))) (ok := (blkOk_by (N := N_House_beside) (sc := defScope s_House_beside) (by decide +kernel))))
    (sndb_one (snds_ret (c_mk n C_House_init (calB_of (n := 3) (ks := []) (ix := [0, 1, 2]) F_House_init (fun _ _ _ _ _ _ us ws h1 h2 => match us, ws, h1, h2 with | [_, _, _], [], _, _ => rfl) rfl (by decide)) Z.mk_House hgu hr Z.g_House (ac (p_add (c_fld Z.g_House Z.cls_House Z.na_House_own_places (v 0)) (c_fld Z.g_House Z.cls_House Z.na_House_own_places (v 1))) (ac (p_add (c_fld Z.g_House Z.cls_House Z.na_House_own_deeds (v 0)) (v 3)) snda_nil)) sndk_nil))))))))
theorem ok_House_plain : ∃ fd, CalD P w K mg base 8 ((Ad.met "House" "plain").at_ K) fd ["self"] e_House_plain ∧ FunD K "plain" "House.plain" (defArgs s_House_plain) (defBody s_House_plain) (defScope s_House_plain) [] [] ((Ad.met "House" "plain").at_ K) fd := by
  obtain ⟨fd, F⟩ := Z.d_House_plain
  obtain ⟨_, C_House_init, F_House_init⟩ := ok_House_init (P := P) (w := w) (base := base) Z
  have scN := sc_House_plain
  refine ⟨fd, fnD' F sc_House_plain fun n cdv A outer s H E hgu hr => ?_, F⟩
  exact (sndb_one (snds_ret (c_mk n C_House_init (calB_of (n := 3) (ks := []) (ix := [0, 1, 2]) F_House_init (fun _ _ _ _ _ _ us ws h1 h2 => match us, ws, h1, h2 with | [_, _, _], [], _, _ => rfl) rfl (by decide)) Z.mk_House hgu hr Z.g_House (ac (c_fld Z.g_House Z.cls_House Z.na_House_own_places (v 0)) (ac (e_lc [("deed", 1)] scN.nd (i_seq (c_fld Z.g_House Z.cls_House Z.na_House_own_deeds (v 0))) (fun Y hY => by obtain ⟨_, _, _, _, _, rfl⟩ := hY; exact (w_nm 1 scN.nd)) (fun Y hY => by obtain ⟨_, _, _, _, _, rfl⟩ := hY; exact (lct_one (t_eq hr (p_ix (v 1) snd_int) (gs Z.i_ANY)))) (fun Y hY => by obtain ⟨_, _, _, _, _, rfl⟩ := hY; exact (v 1)) (ok := (blkOk_by (N := N_House_plain) (sc := defScope s_House_plain) (by decide +kernel)))) snda_nil)) sndk_nil)))
theorem ok_want_plain : ∃ fd, CalD P w K mg base 3 ((Ad.glo "want_plain").at_ K) fd ["house"] e_want_plain ∧ FunD K "want_plain" "want_plain" (defArgs s_want_plain) (defBody s_want_plain) (defScope s_want_plain) [] [] ((Ad.glo "want_plain").at_ K) fd := by
  obtain ⟨fd, F⟩ := Z.d_want_plain
  obtain ⟨_, C_House_is_plain, F_House_is_plain⟩ := ok_House_is_plain (P := P) (w := w) (base := base) Z
  have scN := sc_want_plain
  refine ⟨fd, fnD' F sc_want_plain fun n cdv A outer s H E hgu hr => ?_, F⟩
  exact (sndb_one (snds_if (sndt_not (t_v (c_prop n C_House_is_plain (cb_House_is_plain F_House_is_plain) hgu hr Z.g_House Z.cls_House Z.pr_House_is_plain (v 0)))) sndb_never sndb_nil))
theorem ok_House_turned : ∃ fd, CalD P w K mg base 8 ((Ad.met "House" "turned").at_ K) fd ["self"] e_House_turned ∧ FunD K "turned" "House.turned" (defArgs s_House_turned) (defBody s_House_turned) (defScope s_House_turned) [] [] ((Ad.met "House" "turned").at_ K) fd := by
  obtain ⟨fd, F⟩ := Z.d_House_turned
  obtain ⟨_, C_want_plain, F_want_plain⟩ := ok_want_plain (P := P) (w := w) (base := base) Z
  obtain ⟨_, C_House_init, F_House_init⟩ := ok_House_init (P := P) (w := w) (base := base) Z
  have scN := sc_House_turned
  refine ⟨fd, fnD' F sc_House_turned fun n cdv A outer s H E hgu hr => ?_, F⟩
  exact (sndb_cons (s_ex (c_def n 1 C_want_plain (bn_want_plain F_want_plain) hgu hr Z.g_want_plain (ac (v 0) snda_nil)))
    (sndb_one (snds_ret (c_mk n C_House_init (calB_of (n := 3) (ks := []) (ix := [0, 1, 2]) F_House_init (fun _ _ _ _ _ _ us ws h1 h2 => match us, ws, h1, h2 with | [_, _, _], [], _, _ => rfl) rfl (by decide)) Z.mk_House hgu hr Z.g_House (ac (c_fld Z.g_House Z.cls_House Z.na_House_own_places (v 0)) (ac (e_lc [("place", 1), ("change", 2), ("goal", 3), ("when", 4)] scN.nd (i_seq (c_fld Z.g_House Z.cls_House Z.na_House_own_deeds (v 0))) (fun Y hY => by obtain ⟨_, _, _, _, _, rfl⟩ := hY; exact (w_tp 4 (w_cs (w_nm 1 scN.nd) (w_cs (w_nm 2 scN.nd) (w_cs (w_nm 3 scN.nd) (w_cs (w_nm 4 scN.nd) sndgsw_nil)))))) (fun Y hY => by obtain ⟨_, _, _, _, _, rfl⟩ := hY; exact lct_nil) (fun Y hY => by obtain ⟨_, _, _, _, _, rfl⟩ := hY; exact (snd_tup (ac (v 3) (ac (p_sub snd_int (v 2)) (ac (v 1) (ac (gs Z.i_ANY) snda_nil)))))) (ok := (blkOk_by (N := N_House_turned) (sc := defScope s_House_turned) (by decide +kernel)))) snda_nil)) sndk_nil))))
theorem ok_law_pot : ∃ fd, CalD P w K mg base 1 ((Ad.glo "_law_pot").at_ K) fd ["_law_script", "_law_k"] e_law_pot ∧ FunD K "_law_pot" "_law_pot" (defArgs s_law_pot) (defBody s_law_pot) (defScope s_law_pot) [] [] ((Ad.glo "_law_pot").at_ K) fd := by
  obtain ⟨fd, F⟩ := Z.d_law_pot
  have scN := sc_law_pot
  refine ⟨fd, fnD' F sc_law_pot fun n cdv A outer s H E hgu hr => ?_, F⟩
  exact (sndb_cons (s_st .keep 2 scN.nd (p_add (p_mul snd_int (v 1)) snd_int))
    (sndb_cons (snds_if (t_lt (v 1) (b_fn call_len cd_len Z.n_len (ac (v 0) snda_nil))) (sndb_one (s_st .keep 2 scN.nd (b_fn call_abs cd_abs Z.n_abs (ac (p_ix (v 0) (v 1)) snda_nil)))) sndb_nil)
    (sndb_one (snds_ret (snd_lst (ac (b_fn (call_max2 rfl) cd_max2 Z.n_max (ac snd_int (ac (p_sub (v 2) (p_pow snd_int snd_int)) snda_nil))) (ac (p_add (p_mod (b_ty call_int1 cd_int1 Z.n_int (ac (p_add (p_add (p_mul (p_mod (b_ty call_int1 cd_int1 Z.n_int (ac (v 2) snda_nil)) snd_int) snd_int) (p_mul snd_int (v 1))) snd_int) snda_nil)) snd_int) snd_int) snda_nil)))))))
theorem ok_law_draw : ∃ fd, CalD P w K mg base 1 ((Ad.glo "_law_draw").at_ K) fd ["_law_pot_here", "_law_many"] e_law_draw ∧ FunD K "_law_draw" "_law_draw" (defArgs s_law_draw) (defBody s_law_draw) (defScope s_law_draw) [] [] ((Ad.glo "_law_draw").at_ K) fd := by
  obtain ⟨fd, F⟩ := Z.d_law_draw
  have scN := sc_law_draw
  refine ⟨fd, fnD' F sc_law_draw fun n cdv A outer s H E hgu hr => ?_, F⟩
  exact (sndb_cons (snds_if (t_gt (p_ix (v 0) snd_int) snd_int) (sndb_cons (s_asg (b_fn call_divmod cd_divmod Z.n_divmod (ac (p_ix (v 0) snd_int) (ac (v 1) snda_nil))) (g_tp 2 (g_cs (g_sb 0 snd_int) (g_cs (g_nm 2 scN.nd) sndgs_nil))))
    (sndb_one (snds_ret (v 2)))) sndb_nil)
    (sndb_cons (s_asg (p_mod (b_ty call_int1 cd_int1 Z.n_int (ac (p_add (p_mul (p_ix (v 0) snd_int) snd_int) snd_int) snda_nil)) snd_int) (g_sb 0 snd_int))
    (sndb_one (snds_ret (p_mod (b_ty call_int1 cd_int1 Z.n_int (ac (p_fdv (p_mod (b_ty call_int1 cd_int1 Z.n_int (ac (p_mul (p_ix (v 0) snd_int) (p_ix (v 0) snd_int)) snda_nil)) snd_int) snd_int) snda_nil)) (v 1))))))
theorem ok_law_deeds : ∃ fd, CalD P w K mg base 2 ((Ad.glo "_law_deeds").at_ K) fd ["_law_pot_here", "_law_places", "_law_many", "_law_has_empty"] e_law_deeds ∧ FunD K "_law_deeds" "_law_deeds" (defArgs s_law_deeds) (defBody s_law_deeds) (defScope s_law_deeds) [] [] ((Ad.glo "_law_deeds").at_ K) fd := by
  obtain ⟨fd, F⟩ := Z.d_law_deeds
  obtain ⟨_, C_law_draw, F_law_draw⟩ := ok_law_draw (P := P) (w := w) (base := base) Z
  have scN := sc_law_deeds
  refine ⟨fd, fnD' F sc_law_deeds fun n cdv A outer s H E hgu hr => ?_, F⟩
  exact (sndb_cons (s_st .own 4 scN.nd (snd_lst snda_nil))
    (sndb_cons (s_for (i_r1 Z.n_range (ac (v 2) snda_nil)) (g_nm 5 scN.nd) (sndb_cons (s_par .keep .keep 6 7 scN.nd (c_def n 2 C_law_draw (bn_law_draw F_law_draw) hgu hr Z.g_law_draw (ac (v 0) (ac (v 1) snda_nil))) (c_def n 2 C_law_draw (bn_law_draw F_law_draw) hgu hr Z.g_law_draw (ac (v 0) (ac (v 1) snda_nil))))
    (sndb_cons (s_st .keep 8 scN.nd (snd_tup (ac (v 6) (ac (p_sub (c_def n 2 C_law_draw (bn_law_draw F_law_draw) hgu hr Z.g_law_draw (ac (v 0) (ac snd_int snda_nil))) snd_int) (ac (v 7) (ac snd_str snda_nil))))))
    (sndb_cons (snds_if (SndW.t (sndw_and (t_v (v 3)) (sndw_and1 (t_eq hr (c_def n 2 C_law_draw (bn_law_draw F_law_draw) hgu hr Z.g_law_draw (ac (v 0) (ac snd_int snda_nil))) snd_int)))) (sndb_one (s_st .keep 8 scN.nd (snd_tup (ac (v 6) (ac (c_def n 2 C_law_draw (bn_law_draw F_law_draw) hgu hr Z.g_law_draw (ac (v 0) (ac snd_int snda_nil))) (ac (v 7) (ac snd_str snda_nil))))))) sndb_nil)
    (sndb_one (snds_if (t_nin hr (v 8) (v 4)) (sndb_one (s_ex (m_app 4 (ac (v 8) snda_nil)))) sndb_nil))))))
    (sndb_one (snds_ret (v 4)))))
theorem ok_law_mixed : ∃ fd, CalD P w K mg base 2 ((Ad.glo "_law_mixed").at_ K) fd ["_law_pot_here", "_law_some"] e_law_mixed ∧ FunD K "_law_mixed" "_law_mixed" (defArgs s_law_mixed) (defBody s_law_mixed) (defScope s_law_mixed) [] [] ((Ad.glo "_law_mixed").at_ K) fd := by
  obtain ⟨fd, F⟩ := Z.d_law_mixed
  obtain ⟨_, C_law_draw, F_law_draw⟩ := ok_law_draw (P := P) (w := w) (base := base) Z
  have scN := sc_law_mixed
  refine ⟨fd, fnD' F sc_law_mixed fun n cdv A outer s H E hgu hr => ?_, F⟩
  exact (sndb_cons (s_par .own .own 2 3 scN.nd (b_ty call_list_of cd_list Z.n_list (ac (v 1) snda_nil)) (snd_lst snda_nil))
    (sndb_cons (s_for (i_r1 Z.n_range (ac (b_fn call_len cd_len Z.n_len (ac (v 2) snda_nil)) snda_nil)) (g_nm 4 scN.nd) (sndb_one (s_ex (m_app 3 (ac (m_popAt 2 (ac (c_def n 2 C_law_draw (bn_law_draw F_law_draw) hgu hr Z.g_law_draw (ac (v 0) (ac (b_fn call_len cd_len Z.n_len (ac (v 2) snda_nil)) snda_nil))) snda_nil)) snda_nil)))))
    (sndb_one (snds_ret (v 3)))))
theorem ok_law_tells : ∃ fd, CalD P w K mg base 8 ((Ad.glo "_law_tells").at_ K) fd ["_law_house", "_law_places", "_law_deeds_here"] e_law_tells ∧ FunD K "_law_tells" "_law_tells" (defArgs s_law_tells) (defBody s_law_tells) (defScope s_law_tells) [] [] ((Ad.glo "_law_tells").at_ K) fd := by
  obtain ⟨fd, F⟩ := Z.d_law_tells
  obtain ⟨_, C_House_is_plain, F_House_is_plain⟩ := ok_House_is_plain (P := P) (w := w) (base := base) Z
  obtain ⟨_, C_House_len, F_House_len⟩ := ok_House_len (P := P) (w := w) (base := base) Z
  obtain ⟨_, C_House_deeds, F_House_deeds⟩ := ok_House_deeds (P := P) (w := w) (base := base) Z
  obtain ⟨_, C_House_places, F_House_places⟩ := ok_House_places (P := P) (w := w) (base := base) Z
  obtain ⟨_, C_House_repr, F_House_repr⟩ := ok_House_repr (P := P) (w := w) (base := base) Z
  obtain ⟨_, C_House_init, F_House_init⟩ := ok_House_init (P := P) (w := w) (base := base) Z
  obtain ⟨_, C_House_eq, F_House_eq⟩ := ok_House_eq (P := P) (w := w) (base := base) Z
  have scN := sc_law_tells
  refine ⟨fd, fnD' F sc_law_tells fun n cdv A outer s H E hgu hr => ?_, F⟩
  exact (sndb_cons (s_st .keep 3 scN.nd (p_eq hr (e_lc [("_law_deed", 5)] scN.nd (i_seq (v 2)) (fun Y hY => by obtain ⟨_, _, _, _, _, rfl⟩ := hY; exact (w_nm 5 scN.nd)) (fun Y hY => by obtain ⟨_, _, _, _, _, rfl⟩ := hY; exact (lct_one (t_eq hr (p_ix (v 5) snd_int) snd_str))) (fun Y hY => by obtain ⟨_, _, _, _, _, rfl⟩ := hY; exact (v 5)) (ok := (blkOk_by (N := N_law_tells) (sc := defScope s_law_tells) (by decide +kernel)))) (snd_lst snda_nil)))
    (sndb_cons (snds_if (t_ne hr (b_fn (call_repr hgu (u66 hr)) cd_repr Z.n_repr (ac (snd_lst (ac (c_prop n C_House_places (cb_House_places F_House_places) hgu hr Z.g_House Z.cls_House Z.pr_House_places (v 0)) (ac (c_met0 n C_House_deeds (calB_of (n := 1) (ks := []) (ix := [0]) F_House_deeds (fun _ _ _ _ _ _ us ws h1 h2 => match us, ws, h1, h2 with | [_], [], _, _ => rfl) rfl (by decide)) hgu hr Z.g_House Z.cls_House Z.me_House_deeds (v 0)) (ac (c_len n C_House_len (cb_House_len F_House_len) hgu hr Z.me_House_len Z.g_House Z.n_len (ac (v 0) snda_nil)) (ac (c_prop n C_House_is_plain (cb_House_is_plain F_House_is_plain) hgu hr Z.g_House Z.cls_House Z.pr_House_is_plain (v 0)) snda_nil))))) snda_nil)) (b_fn (call_repr hgu (u66 hr)) cd_repr Z.n_repr (ac (snd_lst (ac (v 1) (ac (v 2) (ac (b_fn call_len cd_len Z.n_len (ac (v 2) snda_nil)) (ac (v 3) snda_nil))))) snda_nil))) (sndb_one (snds_ret snd_bl)) sndb_nil)
    (sndb_cons (s_st .own 4 scN.nd (c_met0 n C_House_deeds (calB_of (n := 1) (ks := []) (ix := [0]) F_House_deeds (fun _ _ _ _ _ _ us ws h1 h2 => match us, ws, h1, h2 with | [_], [], _, _ => rfl) rfl (by decide)) hgu hr Z.g_House Z.cls_House Z.me_House_deeds (v 0)))
    (sndb_cons (s_ex (m_app 4 (ac snd_non snda_nil)))
    (sndb_cons (snds_if (SndW.t (sndw_or (t_ne hr (c_met0 n C_House_deeds (calB_of (n := 1) (ks := []) (ix := [0]) F_House_deeds (fun _ _ _ _ _ _ us ws h1 h2 => match us, ws, h1, h2 with | [_], [], _, _ => rfl) rfl (by decide)) hgu hr Z.g_House Z.cls_House Z.me_House_deeds (v 0)) (v 2)) (sndw_or1 (t_ne hr (c_repr n C_House_repr (cb_House_repr F_House_repr) hgu hr Z.me_House_repr Z.g_House Z.n_repr (ac (v 0) snda_nil)) (p_add (p_add (p_add (p_add snd_str (b_ty call_str_int cd_strI Z.n_str (ac (v 1) snda_nil))) snd_str) (b_fn (call_repr hgu (u66 hr)) cd_repr Z.n_repr (ac (v 2) snda_nil))) snd_str))))) (sndb_one (snds_ret snd_bl)) sndb_nil)
    (sndb_one (snds_ret (snd_and (snd_eqO n C_House_eq (cb_House_eq F_House_eq) hgu hr (by decide) Z.w (by decide) Z.g_House Z.eqo_House (v 0) (c_mk n C_House_init (calB_of (n := 3) (ks := []) (ix := [0, 1, 2]) F_House_init (fun _ _ _ _ _ _ us ws h1 h2 => match us, ws, h1, h2 with | [_, _, _], [], _, _ => rfl) rfl (by decide)) Z.mk_House hgu hr Z.g_House (ac (v 1) (ac (b_ty call_tuple_of cd_tuple Z.n_tuple (ac (v 2) snda_nil)) snda_nil)) sndk_nil) (nomark _)) (snd_one (snd_eqO n C_House_eq (cb_House_eq F_House_eq) hgu hr (by decide) Z.w (by decide) Z.g_House Z.eqo_House (c_mk n C_House_init (calB_of (n := 3) (ks := []) (ix := [0, 1, 2]) F_House_init (fun _ _ _ _ _ _ us ws h1 h2 => match us, ws, h1, h2 with | [_, _, _], [], _, _ => rfl) rfl (by decide)) Z.mk_House hgu hr Z.g_House (ac (v 1) (ac (v 2) snda_nil)) sndk_nil) (v 0) (nomark _)))))))))))
theorem ok_law_equal_right : ∃ fd, CalD P w K mg base 8 ((Ad.glo "_law_equal_right").at_ K) fd ["_law_pot_here", "_law_house", "_law_places", "_law_deeds_here"] e_law_equal_right ∧ FunD K "_law_equal_right" "_law_equal_right" (defArgs s_law_equal_right) (defBody s_law_equal_right) (defScope s_law_equal_right) [] [] ((Ad.glo "_law_equal_right").at_ K) fd := by
  obtain ⟨fd, F⟩ := Z.d_law_equal_right
  obtain ⟨_, C_House_init, F_House_init⟩ := ok_House_init (P := P) (w := w) (base := base) Z
  obtain ⟨_, C_House_eq, F_House_eq⟩ := ok_House_eq (P := P) (w := w) (base := base) Z
  obtain ⟨_, C_House_repr, F_House_repr⟩ := ok_House_repr (P := P) (w := w) (base := base) Z
  have scN := sc_law_equal_right
  refine ⟨fd, fnD' F sc_law_equal_right fun n cdv A outer s H E hgu hr => ?_, F⟩
  exact (sndb_cons (s_st .keep 4 scN.nd (snd_lst (ac (c_mk n C_House_init (calB_of (n := 3) (ks := []) (ix := [0, 1, 2]) F_House_init (fun _ _ _ _ _ _ us ws h1 h2 => match us, ws, h1, h2 with | [_, _, _], [], _, _ => rfl) rfl (by decide)) Z.mk_House hgu hr Z.g_House (ac (p_add (v 2) snd_int) (ac (v 3) snda_nil)) sndk_nil) (ac (snd_ifExp (t_ne hr (v 3) (snd_lst snda_nil)) (c_mk n C_House_init (calB_of (n := 3) (ks := []) (ix := [0, 1, 2]) F_House_init (fun _ _ _ _ _ _ us ws h1 h2 => match us, ws, h1, h2 with | [_, _, _], [], _, _ => rfl) rfl (by decide)) Z.mk_House hgu hr Z.g_House (ac (v 2) (ac (snd_slice (v 3) (sndo_some snd_int) sndo_none) snda_nil)) sndk_nil) (c_mk n C_House_init (calB_of (n := 3) (ks := []) (ix := [0, 1, 2]) F_House_init (fun _ _ _ _ _ _ us ws h1 h2 => match us, ws, h1, h2 with | [_, _, _], [], _, _ => rfl) rfl (by decide)) Z.mk_House hgu hr Z.g_House (ac (v 2) (ac (snd_lst (ac (snd_tup (ac snd_int (ac snd_int (ac snd_int (ac snd_str snda_nil))))) snda_nil)) snda_nil)) sndk_nil)) snda_nil))))
    (sndb_cons (s_st .keep 5 scN.nd (snd_rev (v 3)))
    (sndb_cons (s_st .keep 4 scN.nd (p_add (v 4) (snd_ifExp (t_ne hr (v 5) (v 3)) (snd_lst (ac (c_mk n C_House_init (calB_of (n := 3) (ks := []) (ix := [0, 1, 2]) F_House_init (fun _ _ _ _ _ _ us ws h1 h2 => match us, ws, h1, h2 with | [_, _, _], [], _, _ => rfl) rfl (by decide)) Z.mk_House hgu hr Z.g_House (ac (v 2) (ac (v 5) snda_nil)) sndk_nil) snda_nil)) (snd_lst snda_nil))))
    (sndb_cons (snds_if (t_ne hr (e_lc [("_law_other", 6)] scN.nd (i_seq (v 4)) (fun Y hY => by obtain ⟨_, _, _, _, _, rfl⟩ := hY; exact (w_nm 6 scN.nd)) (fun Y hY => by obtain ⟨_, _, _, _, _, rfl⟩ := hY; exact (lct_one (SndW.t (sndw_or (sndt_eqO n C_House_eq (cb_House_eq F_House_eq) hgu hr (by decide) Z.w (by decide) Z.g_House Z.eqo_House (v 1) (v 6) (nomark _)) (sndw_or1 (sndt_eqO n C_House_eq (cb_House_eq F_House_eq) hgu hr (by decide) Z.w (by decide) Z.g_House Z.eqo_House (v 6) (v 1) (nomark _))))))) (fun Y hY => by obtain ⟨_, _, _, _, _, rfl⟩ := hY; exact (v 6)) (ok := (blkOk_by (N := N_law_equal_right) (sc := defScope s_law_equal_right) (by decide +kernel)))) (snd_lst snda_nil)) (sndb_one (snds_ret snd_bl)) sndb_nil)
    (sndb_one (snds_ret (snd_not (b_fn (cr_any rfl) cd_any Z.n_any (ac (e_lc [("_law_some", 7)] scN.nd (i_seq (snd_lst (ac snd_non (ac snd_int (ac (v 3) (ac (snd_tup (ac (v 2) (ac (v 3) snda_nil))) (ac (c_repr n C_House_repr (cb_House_repr F_House_repr) hgu hr Z.me_House_repr Z.g_House Z.n_repr (ac (v 1) snda_nil)) (ac snd_dic0 snda_nil)))))))) (fun Y hY => by obtain ⟨_, _, _, _, _, rfl⟩ := hY; exact (w_nm 7 scN.nd)) (fun Y hY => by obtain ⟨_, _, _, _, _, rfl⟩ := hY; exact lct_nil) (fun Y hY => by obtain ⟨_, _, _, _, _, rfl⟩ := hY; exact (snd_eqO n C_House_eq (cb_House_eq F_House_eq) hgu hr (by decide) Z.w (by decide) Z.g_House Z.eqo_House (v 1) (v 7) (nomark _))) (ok := (blkOk_by (N := N_law_equal_right) (sc := defScope s_law_equal_right) (by decide +kernel)))) snda_nil)))))))))
theorem ok_law_made : ∃ fd, CalD P w K mg base 9 ((Ad.glo "_law_made").at_ K) fd ["_law_pot_here", "_law_house", "_law_places", "_law_deeds_here"] e_law_made ∧ FunD K "_law_made" "_law_made" (defArgs s_law_made) (defBody s_law_made) (defScope s_law_made) [] [] ((Ad.glo "_law_made").at_ K) fd := by
  obtain ⟨fd, F⟩ := Z.d_law_made
  obtain ⟨_, C_law_draw, F_law_draw⟩ := ok_law_draw (P := P) (w := w) (base := base) Z
  obtain ⟨_, C_House_with_deed, F_House_with_deed⟩ := ok_House_with_deed (P := P) (w := w) (base := base) Z
  obtain ⟨_, C_House_without_deed, F_House_without_deed⟩ := ok_House_without_deed (P := P) (w := w) (base := base) Z
  obtain ⟨_, C_law_mixed, F_law_mixed⟩ := ok_law_mixed (P := P) (w := w) (base := base) Z
  obtain ⟨_, C_House_renumbered, F_House_renumbered⟩ := ok_House_renumbered (P := P) (w := w) (base := base) Z
  obtain ⟨_, C_law_deeds, F_law_deeds⟩ := ok_law_deeds (P := P) (w := w) (base := base) Z
  obtain ⟨_, C_House_beside, F_House_beside⟩ := ok_House_beside (P := P) (w := w) (base := base) Z
  obtain ⟨_, C_House_init, F_House_init⟩ := ok_House_init (P := P) (w := w) (base := base) Z
  obtain ⟨_, C_House_plain, F_House_plain⟩ := ok_House_plain (P := P) (w := w) (base := base) Z
  obtain ⟨_, C_House_turned, F_House_turned⟩ := ok_House_turned (P := P) (w := w) (base := base) Z
  have scN := sc_law_made
  refine ⟨fd, fnD' F sc_law_made fun n cdv A outer s H E hgu hr => ?_, F⟩
  exact (sndb_cons (s_st .keep 4 scN.nd (c_def n 2 C_law_draw (bn_law_draw F_law_draw) hgu hr Z.g_law_draw (ac (v 0) (ac snd_int snda_nil))))
    (sndb_cons (snds_if (t_eq hr (v 4) snd_int) (sndb_cons (s_st .keep 6 scN.nd (snd_tup (ac (c_def n 2 C_law_draw (bn_law_draw F_law_draw) hgu hr Z.g_law_draw (ac (v 0) (ac (v 2) snda_nil))) (ac (p_sub (c_def n 2 C_law_draw (bn_law_draw F_law_draw) hgu hr Z.g_law_draw (ac (v 0) (ac snd_int snda_nil))) snd_int) (ac (c_def n 2 C_law_draw (bn_law_draw F_law_draw) hgu hr Z.g_law_draw (ac (v 0) (ac (v 2) snda_nil))) (ac snd_str snda_nil))))))
    (sndb_cons (snds_if (t_in hr (v 6) (v 3)) (sndb_one (snds_ret (snd_tup (ac (v 1) (ac (v 2) (ac (v 3) snda_nil)))))) sndb_nil)
    (sndb_one (snds_ret (snd_tup (ac (snd_ifExp (t_eq hr (c_def n 2 C_law_draw (bn_law_draw F_law_draw) hgu hr Z.g_law_draw (ac (v 0) (ac snd_int snda_nil))) snd_int) (c_met n C_House_with_deed (calB_of (n := 2) (ks := []) (ix := [0, 1]) F_House_with_deed (fun _ _ _ _ _ _ us ws h1 h2 => match us, ws, h1, h2 with | [_, _], [], _, _ => rfl) rfl (by decide)) hgu hr Z.g_House Z.cls_House Z.me_House_with_deed (v 1) (ac (v 6) snda_nil) sndk_nil) (c_metK n C_House_with_deed (calB_of (n := 1) (ks := ["deed"]) (ix := [0, 1]) F_House_with_deed (fun _ _ _ _ _ _ us ws h1 h2 => match us, ws, h1, h2 with | [_], [_], _, _ => rfl) rfl (by decide)) hgu hr Z.g_House Z.cls_House Z.me_House_with_deed (v 1) (kc (v 6) sndk_nil))) (ac (v 2) (ac (p_add (v 3) (snd_lst (ac (v 6) snda_nil))) snda_nil)))))))) sndb_nil)
    (sndb_cons (snds_if (SndW.t (sndw_and (t_eq hr (v 4) snd_int) (sndw_and1 (t_ne hr (v 3) (snd_lst snda_nil))))) (sndb_cons (s_st .keep 7 scN.nd (c_def n 2 C_law_draw (bn_law_draw F_law_draw) hgu hr Z.g_law_draw (ac (v 0) (ac (b_fn call_len cd_len Z.n_len (ac (v 3) snda_nil)) snda_nil))))
    (sndb_one (snds_ret (snd_tup (ac (snd_ifExp (t_eq hr (c_def n 2 C_law_draw (bn_law_draw F_law_draw) hgu hr Z.g_law_draw (ac (v 0) (ac snd_int snda_nil))) snd_int) (c_met n C_House_without_deed (calB_of (n := 2) (ks := []) (ix := [0, 1]) F_House_without_deed (fun _ _ _ _ _ _ us ws h1 h2 => match us, ws, h1, h2 with | [_, _], [], _, _ => rfl) rfl (by decide)) hgu hr Z.g_House Z.cls_House Z.me_House_without_deed (v 1) (ac (v 7) snda_nil) sndk_nil) (c_metK n C_House_without_deed (calB_of (n := 1) (ks := ["position"]) (ix := [0, 1]) F_House_without_deed (fun _ _ _ _ _ _ us ws h1 h2 => match us, ws, h1, h2 with | [_], [_], _, _ => rfl) rfl (by decide)) hgu hr Z.g_House Z.cls_House Z.me_House_without_deed (v 1) (kc (v 7) sndk_nil))) (ac (v 2) (ac (p_add (snd_slice (v 3) sndo_none (sndo_some (v 7))) (snd_slice (v 3) (sndo_some (p_add (v 7) snd_int)) sndo_none)) snda_nil))))))) sndb_nil)
    (sndb_cons (snds_if (t_eq hr (v 4) snd_int) (sndb_cons (s_st .keep 8 scN.nd (c_def n 2 C_law_mixed (bn_law_mixed F_law_mixed) hgu hr Z.g_law_mixed (ac (v 0) (ac (p_lr1 Z.n_list Z.n_range (v 2)) snda_nil))))
    (sndb_cons (s_stLc .keep 9 [("_law_place", 12), ("_law_change", 13), ("_law_goal", 14), ("_law_when", 15)] scN.nd (i_seq (v 3)) (fun Y hY => by obtain ⟨_, _, _, _, _, rfl⟩ := hY; exact (w_tp 4 (w_cs (w_nm 12 scN.nd) (w_cs (w_nm 13 scN.nd) (w_cs (w_nm 14 scN.nd) (w_cs (w_nm 15 scN.nd) sndgsw_nil)))))) (fun Y hY => by obtain ⟨_, _, _, _, _, rfl⟩ := hY; exact lct_nil) (fun Y hY => by obtain ⟨_, _, _, _, _, rfl⟩ := hY; exact (snd_tup (ac (p_ix (v 8) (v 12)) (ac (v 13) (ac (p_ix (v 8) (v 14)) (ac (v 15) snda_nil)))))) (ok := (blkOk_by (N := N_law_made) (sc := defScope s_law_made) (by decide +kernel))))
    (sndb_one (snds_ret (snd_tup (ac (snd_ifExp (t_eq hr (c_def n 2 C_law_draw (bn_law_draw F_law_draw) hgu hr Z.g_law_draw (ac (v 0) (ac snd_int snda_nil))) snd_int) (c_met n C_House_renumbered (calB_of (n := 2) (ks := []) (ix := [0, 1]) F_House_renumbered (fun _ _ _ _ _ _ us ws h1 h2 => match us, ws, h1, h2 with | [_, _], [], _, _ => rfl) rfl (by decide)) hgu hr Z.g_House Z.cls_House Z.me_House_renumbered (v 1) (ac (v 8) snda_nil) sndk_nil) (c_metK n C_House_renumbered (calB_of (n := 1) (ks := ["order"]) (ix := [0, 1]) F_House_renumbered (fun _ _ _ _ _ _ us ws h1 h2 => match us, ws, h1, h2 with | [_], [_], _, _ => rfl) rfl (by decide)) hgu hr Z.g_House Z.cls_House Z.me_House_renumbered (v 1) (kc (b_ty call_tuple_of cd_tuple Z.n_tuple (ac (v 8) snda_nil)) sndk_nil))) (ac (v 2) (ac (v 9) snda_nil)))))))) sndb_nil)
    (sndb_cons (snds_if (SndW.t (sndw_and (t_eq hr (v 4) snd_int) (sndw_and (t_lt (v 2) snd_int) (sndw_and1 (t_lt (b_fn call_len cd_len Z.n_len (ac (v 3) snda_nil)) snd_int))))) (sndb_cons (s_st .keep 10 scN.nd (c_def n 4 C_law_deeds (bn_law_deeds F_law_deeds) hgu hr Z.g_law_deeds (ac (v 0) (ac snd_int (ac snd_int (ac snd_bl snda_nil))))))
    (sndb_cons (s_stLc .keep 9 [("_law_place", 12), ("_law_change", 13), ("_law_goal", 14), ("_law_when", 15)] scN.nd (i_seq (v 10)) (fun Y hY => by obtain ⟨_, _, _, _, _, rfl⟩ := hY; exact (w_tp 4 (w_cs (w_nm 12 scN.nd) (w_cs (w_nm 13 scN.nd) (w_cs (w_nm 14 scN.nd) (w_cs (w_nm 15 scN.nd) sndgsw_nil)))))) (fun Y hY => by obtain ⟨_, _, _, _, _, rfl⟩ := hY; exact lct_nil) (fun Y hY => by obtain ⟨_, _, _, _, _, rfl⟩ := hY; exact (snd_tup (ac (p_add (v 12) (v 2)) (ac (v 13) (ac (p_add (v 14) (v 2)) (ac (v 15) snda_nil)))))) (ok := (blkOk_by (N := N_law_made) (sc := defScope s_law_made) (by decide +kernel))))
    (sndb_one (snds_ret (snd_tup (ac (snd_ifExp (t_eq hr (c_def n 2 C_law_draw (bn_law_draw F_law_draw) hgu hr Z.g_law_draw (ac (v 0) (ac snd_int snda_nil))) snd_int) (c_met n C_House_beside (calB_of (n := 2) (ks := []) (ix := [0, 1]) F_House_beside (fun _ _ _ _ _ _ us ws h1 h2 => match us, ws, h1, h2 with | [_, _], [], _, _ => rfl) rfl (by decide)) hgu hr Z.g_House Z.cls_House Z.me_House_beside (v 1) (ac (c_mk n C_House_init (calB_of (n := 3) (ks := []) (ix := [0, 1, 2]) F_House_init (fun _ _ _ _ _ _ us ws h1 h2 => match us, ws, h1, h2 with | [_, _, _], [], _, _ => rfl) rfl (by decide)) Z.mk_House hgu hr Z.g_House (ac snd_int (ac (v 10) snda_nil)) sndk_nil) snda_nil) sndk_nil) (c_metK n C_House_beside (calB_of (n := 1) (ks := ["other"]) (ix := [0, 1]) F_House_beside (fun _ _ _ _ _ _ us ws h1 h2 => match us, ws, h1, h2 with | [_], [_], _, _ => rfl) rfl (by decide)) hgu hr Z.g_House Z.cls_House Z.me_House_beside (v 1) (kc (c_mk n C_House_init (calB_of (n := 3) (ks := []) (ix := [0, 1, 2]) F_House_init (fun _ _ _ _ _ _ us ws h1 h2 => match us, ws, h1, h2 with | [_, _, _], [], _, _ => rfl) rfl (by decide)) Z.mk_House hgu hr Z.g_House (ac snd_int (ac (v 10) snda_nil)) sndk_nil) sndk_nil))) (ac (p_add (v 2) snd_int) (ac (p_add (v 3) (v 9)) snda_nil)))))))) sndb_nil)
    (sndb_cons (snds_if (t_eq hr (v 4) snd_int) (sndb_one (snds_ret (snd_tup (ac (c_met0 n C_House_plain (calB_of (n := 1) (ks := []) (ix := [0]) F_House_plain (fun _ _ _ _ _ _ us ws h1 h2 => match us, ws, h1, h2 with | [_], [], _, _ => rfl) rfl (by decide)) hgu hr Z.g_House Z.cls_House Z.me_House_plain (v 1)) (ac (v 2) (ac (e_lc [("_law_deed", 11)] scN.nd (i_seq (v 3)) (fun Y hY => by obtain ⟨_, _, _, _, _, rfl⟩ := hY; exact (w_nm 11 scN.nd)) (fun Y hY => by obtain ⟨_, _, _, _, _, rfl⟩ := hY; exact (lct_one (t_eq hr (p_ix (v 11) snd_int) snd_str))) (fun Y hY => by obtain ⟨_, _, _, _, _, rfl⟩ := hY; exact (v 11)) (ok := (blkOk_by (N := N_law_made) (sc := defScope s_law_made) (by decide +kernel)))) snda_nil)))))) sndb_nil)
    (sndb_cons (s_stLc .keep 5 [("_law_deed", 11)] scN.nd (i_seq (v 3)) (fun Y hY => by obtain ⟨_, _, _, _, _, rfl⟩ := hY; exact (w_nm 11 scN.nd)) (fun Y hY => by obtain ⟨_, _, _, _, _, rfl⟩ := hY; exact (lct_one (t_eq hr (p_ix (v 11) snd_int) snd_str))) (fun Y hY => by obtain ⟨_, _, _, _, _, rfl⟩ := hY; exact (v 11)) (ok := (blkOk_by (N := N_law_made) (sc := defScope s_law_made) (by decide +kernel))))
    (sndb_one (snds_ret (snd_tup (ac (c_met0 n C_House_turned (calB_of (n := 1) (ks := []) (ix := [0]) F_House_turned (fun _ _ _ _ _ _ us ws h1 h2 => match us, ws, h1, h2 with | [_], [], _, _ => rfl) rfl (by decide)) hgu hr Z.g_House Z.cls_House Z.me_House_turned (c_met0 n C_House_plain (calB_of (n := 1) (ks := []) (ix := [0]) F_House_plain (fun _ _ _ _ _ _ us ws h1 h2 => match us, ws, h1, h2 with | [_], [], _, _ => rfl) rfl (by decide)) hgu hr Z.g_House Z.cls_House Z.me_House_plain (v 1))) (ac (v 2) (ac (e_lc [("_law_place", 12), ("_law_change", 13), ("_law_goal", 14), ("_law_when", 15)] scN.nd (i_seq (v 5)) (fun Y hY => by obtain ⟨_, _, _, _, _, rfl⟩ := hY; exact (w_tp 4 (w_cs (w_nm 12 scN.nd) (w_cs (w_nm 13 scN.nd) (w_cs (w_nm 14 scN.nd) (w_cs (w_nm 15 scN.nd) sndgsw_nil)))))) (fun Y hY => by obtain ⟨_, _, _, _, _, rfl⟩ := hY; exact lct_nil) (fun Y hY => by obtain ⟨_, _, _, _, _, rfl⟩ := hY; exact (snd_tup (ac (v 14) (ac (p_sub snd_int (v 13)) (ac (v 12) (ac (v 15) snda_nil)))))) (ok := (blkOk_by (N := N_law_made) (sc := defScope s_law_made) (by decide +kernel)))) snda_nil)))))))))))))
theorem ok_law_right : ∃ fd, CalD P w K mg base 10 ((Ad.glo "_law_right").at_ K) fd ["_law_pot_here"] e_law_right ∧ FunD K "_law_right" "_law_right" (defArgs s_law_right) (defBody s_law_right) (defScope s_law_right) [] [] ((Ad.glo "_law_right").at_ K) fd := by
  obtain ⟨fd, F⟩ := Z.d_law_right
  obtain ⟨_, C_law_draw, F_law_draw⟩ := ok_law_draw (P := P) (w := w) (base := base) Z
  obtain ⟨_, C_law_deeds, F_law_deeds⟩ := ok_law_deeds (P := P) (w := w) (base := base) Z
  obtain ⟨_, C_House_init, F_House_init⟩ := ok_House_init (P := P) (w := w) (base := base) Z
  obtain ⟨_, C_law_tells, F_law_tells⟩ := ok_law_tells (P := P) (w := w) (base := base) Z
  obtain ⟨_, C_law_equal_right, F_law_equal_right⟩ := ok_law_equal_right (P := P) (w := w) (base := base) Z
  obtain ⟨_, C_law_made, F_law_made⟩ := ok_law_made (P := P) (w := w) (base := base) Z
  obtain ⟨_, C_law_mixed, F_law_mixed⟩ := ok_law_mixed (P := P) (w := w) (base := base) Z
  obtain ⟨_, C_House_renumbered, F_House_renumbered⟩ := ok_House_renumbered (P := P) (w := w) (base := base) Z
  obtain ⟨_, C_House_eq, F_House_eq⟩ := ok_House_eq (P := P) (w := w) (base := base) Z
  obtain ⟨_, C_House_plain, F_House_plain⟩ := ok_House_plain (P := P) (w := w) (base := base) Z
  obtain ⟨_, C_House_turned, F_House_turned⟩ := ok_House_turned (P := P) (w := w) (base := base) Z
  have scN := sc_law_right
  refine ⟨fd, fnD' F sc_law_right fun n cdv A outer s H E hgu hr => ?_, F⟩
  exact (sndb_cons (s_st .keep 1 scN.nd (p_add snd_int (c_def n 2 C_law_draw (bn_law_draw F_law_draw) hgu hr Z.g_law_draw (ac (v 0) (ac snd_int snda_nil)))))
    (sndb_cons (s_st .keep 2 scN.nd (c_def n 4 C_law_deeds (bn_law_deeds F_law_deeds) hgu hr Z.g_law_deeds (ac (v 0) (ac (v 1) (ac (c_def n 2 C_law_draw (bn_law_draw F_law_draw) hgu hr Z.g_law_draw (ac (v 0) (ac snd_int snda_nil))) (ac snd_bl snda_nil))))))
    (sndb_cons (s_st .cel 3 scN.nd (b_ty call_list_of cd_list Z.n_list (ac (v 2) snda_nil)))
    (sndb_cons (s_st .keep 4 scN.nd (c_mk0 n C_House_init (calB_of (n := 1) (ks := ["places", "deeds"]) (ix := [0, 1, 2]) F_House_init (fun _ _ _ _ _ _ us ws h1 h2 => match us, ws, h1, h2 with | [_], [_, _], _, _ => rfl) rfl (by decide)) Z.mk_House hgu hr Z.g_House (kc (v 1) (kc (snd_ifExp (t_eq hr (c_def n 2 C_law_draw (bn_law_draw F_law_draw) hgu hr Z.g_law_draw (ac (v 0) (ac snd_int snda_nil))) snd_int) (v 3) (b_ty call_tuple_of cd_tuple Z.n_tuple (ac (v 3) snda_nil))) sndk_nil))))
    (sndb_cons (s_ex (m_app 3 (ac (snd_tup (ac snd_int (ac snd_int (ac snd_int (ac snd_str snda_nil))))) snda_nil)))
    (sndb_cons (snds_if (SndW.t (sndw_or (sndt_not (t_v (c_def n 3 C_law_tells (bn_law_tells F_law_tells) hgu hr Z.g_law_tells (ac (v 4) (ac (v 1) (ac (v 2) snda_nil)))))) (sndw_or1 (sndt_not (t_v (c_def n 4 C_law_equal_right (bn_law_equal_right F_law_equal_right) hgu hr Z.g_law_equal_right (ac (v 0) (ac (v 4) (ac (v 1) (ac (v 2) snda_nil)))))))))) (sndb_one (snds_ret snd_bl)) sndb_nil)
    (sndb_cons (s_for (i_r1 Z.n_range (ac snd_int snda_nil)) (g_nm 5 scN.nd) (sndb_cons (s_st .keep 8 scN.nd (snd_tup (ac (v 4) (ac (v 1) (ac (v 2) snda_nil)))))
    (sndb_cons (s_asg (c_def n 4 C_law_made (bn_law_made F_law_made) hgu hr Z.g_law_made (ac (v 0) (ac (v 4) (ac (v 1) (ac (v 2) snda_nil))))) (g_tp 3 (g_cs (g_nm 4 scN.nd) (g_cs (g_nm 1 scN.nd) (g_cs (g_nm 2 scN.nd) sndgs_nil)))))
    (sndb_one (snds_if (SndW.t (sndw_or (sndt_not (t_v (c_def n 3 C_law_tells (bn_law_tells F_law_tells) hgu hr Z.g_law_tells (ac (v 4) (ac (v 1) (ac (v 2) snda_nil)))))) (sndw_or1 (sndt_not (t_v (c_def n 3 C_law_tells (bn_law_tells F_law_tells) hgu hr Z.g_law_tells (ac (p_ix (v 8) snd_int) (ac (p_ix (v 8) snd_int) (ac (p_ix (v 8) snd_int) snda_nil))))))))) (sndb_one (snds_ret snd_bl)) sndb_nil)))))
    (sndb_cons (s_st .keep 6 scN.nd (c_def n 2 C_law_mixed (bn_law_mixed F_law_mixed) hgu hr Z.g_law_mixed (ac (v 0) (ac (p_lr1 Z.n_list Z.n_range (v 1)) snda_nil))))
    (sndb_cons (s_stLc .keep 7 [("_law_place", 9)] scN.nd (i_r1 Z.n_range (ac (v 1) snda_nil)) (fun Y hY => by obtain ⟨_, _, _, _, _, rfl⟩ := hY; exact (w_nm 9 scN.nd)) (fun Y hY => by obtain ⟨_, _, _, _, _, rfl⟩ := hY; exact lct_nil) (fun Y hY => by obtain ⟨_, _, _, _, _, rfl⟩ := hY; exact (m_index hr (v 6) (ac (v 9) snda_nil))) (ok := (blkOk_by (N := N_law_right) (sc := defScope s_law_right) (by decide +kernel))))
    (sndb_cons (snds_if (SndW.t (sndw_or (sndt_neO n C_House_eq (cb_House_eq F_House_eq) hgu hr (by decide) Z.w (by decide) Z.g_House Z.eqo_House (c_met n C_House_renumbered (calB_of (n := 2) (ks := []) (ix := [0, 1]) F_House_renumbered (fun _ _ _ _ _ _ us ws h1 h2 => match us, ws, h1, h2 with | [_, _], [], _, _ => rfl) rfl (by decide)) hgu hr Z.g_House Z.cls_House Z.me_House_renumbered (c_met n C_House_renumbered (calB_of (n := 2) (ks := []) (ix := [0, 1]) F_House_renumbered (fun _ _ _ _ _ _ us ws h1 h2 => match us, ws, h1, h2 with | [_, _], [], _, _ => rfl) rfl (by decide)) hgu hr Z.g_House Z.cls_House Z.me_House_renumbered (v 4) (ac (v 6) snda_nil) sndk_nil) (ac (v 7) snda_nil) sndk_nil) (v 4) (nomark _)) (sndw_or1 (sndt_neO n C_House_eq (cb_House_eq F_House_eq) hgu hr (by decide) Z.w (by decide) Z.g_House Z.eqo_House (c_met0 n C_House_plain (calB_of (n := 1) (ks := []) (ix := [0]) F_House_plain (fun _ _ _ _ _ _ us ws h1 h2 => match us, ws, h1, h2 with | [_], [], _, _ => rfl) rfl (by decide)) hgu hr Z.g_House Z.cls_House Z.me_House_plain (c_met0 n C_House_plain (calB_of (n := 1) (ks := []) (ix := [0]) F_House_plain (fun _ _ _ _ _ _ us ws h1 h2 => match us, ws, h1, h2 with | [_], [], _, _ => rfl) rfl (by decide)) hgu hr Z.g_House Z.cls_House Z.me_House_plain (v 4))) (c_met0 n C_House_plain (calB_of (n := 1) (ks := []) (ix := [0]) F_House_plain (fun _ _ _ _ _ _ us ws h1 h2 => match us, ws, h1, h2 with | [_], [], _, _ => rfl) rfl (by decide)) hgu hr Z.g_House Z.cls_House Z.me_House_plain (v 4)) (nomark _))))) (sndb_one (snds_ret snd_bl)) sndb_nil)
    (sndb_one (snds_ret (snd_and (snd_eqO n C_House_eq (cb_House_eq F_House_eq) hgu hr (by decide) Z.w (by decide) Z.g_House Z.eqo_House (c_met0 n C_House_turned (calB_of (n := 1) (ks := []) (ix := [0]) F_House_turned (fun _ _ _ _ _ _ us ws h1 h2 => match us, ws, h1, h2 with | [_], [], _, _ => rfl) rfl (by decide)) hgu hr Z.g_House Z.cls_House Z.me_House_turned (c_met0 n C_House_turned (calB_of (n := 1) (ks := []) (ix := [0]) F_House_turned (fun _ _ _ _ _ _ us ws h1 h2 => match us, ws, h1, h2 with | [_], [], _, _ => rfl) rfl (by decide)) hgu hr Z.g_House Z.cls_House Z.me_House_turned (c_met0 n C_House_plain (calB_of (n := 1) (ks := []) (ix := [0]) F_House_plain (fun _ _ _ _ _ _ us ws h1 h2 => match us, ws, h1, h2 with | [_], [], _, _ => rfl) rfl (by decide)) hgu hr Z.g_House Z.cls_House Z.me_House_plain (v 4)))) (c_met0 n C_House_plain (calB_of (n := 1) (ks := []) (ix := [0]) F_House_plain (fun _ _ _ _ _ _ us ws h1 h2 => match us, ws, h1, h2 with | [_], [], _, _ => rfl) rfl (by decide)) hgu hr Z.g_House Z.cls_House Z.me_House_plain (v 4)) (nomark _)) (snd_one (c_def n 3 C_law_tells (bn_law_tells F_law_tells) hgu hr Z.g_law_tells (ac (c_mk n C_House_init (calB_of (n := 3) (ks := []) (ix := [0, 1, 2]) F_House_init (fun _ _ _ _ _ _ us ws h1 h2 => match us, ws, h1, h2 with | [_, _, _], [], _, _ => rfl) rfl (by decide)) Z.mk_House hgu hr Z.g_House (ac snd_int (ac (snd_lst snda_nil) snda_nil)) sndk_nil) (ac snd_int (ac (snd_lst snda_nil) snda_nil))))))))))))))))))
theorem ok_law : ∃ fd, CalD P w K mg base 11 ((Ad.glo "law").at_ K) fd ["_law_script"] e_law ∧ FunD K "law" "law" (defArgs s_law) (defBody s_law) (defScope s_law) [] [] ((Ad.glo "law").at_ K) fd := by
  obtain ⟨fd, F⟩ := Z.d_law
  obtain ⟨_, C_law_right, F_law_right⟩ := ok_law_right (P := P) (w := w) (base := base) Z
  obtain ⟨_, C_law_pot, F_law_pot⟩ := ok_law_pot (P := P) (w := w) (base := base) Z
  have scN := sc_law
  refine ⟨fd, fnD' F sc_law fun n cdv A outer s H E hgu hr => ?_, F⟩
  exact (sndb_one (snds_ret (b_fn (cr_all rfl) cd_all Z.n_all (ac (e_lc [("_law_k", 1)] scN.nd (i_r1 Z.n_range (ac (b_fn (call_max2 rfl) cd_max2 Z.n_max (ac snd_int (ac (b_fn (call_min2 rfl) cd_min2 Z.n_min (ac snd_int (ac (b_fn call_len cd_len Z.n_len (ac (v 0) snda_nil)) snda_nil))) snda_nil))) snda_nil)) (fun Y hY => by obtain ⟨_, _, _, _, _, rfl⟩ := hY; exact (w_nm 1 scN.nd)) (fun Y hY => by obtain ⟨_, _, _, _, _, rfl⟩ := hY; exact lct_nil) (fun Y hY => by obtain ⟨_, _, _, _, _, rfl⟩ := hY; exact (c_new n C_law_right (bn_law_right F_law_right) hgu hr Z.g_law_right (c_def n 2 C_law_pot (bn_law_pot F_law_pot) hgu hr Z.g_law_pot (ac (v 0) (ac (v 1) snda_nil))))) (ok := (blkOk_by (N := N_law) (sc := defScope s_law) (by decide +kernel)))) snda_nil))))
theorem okF_law {fd : FuncData} (F : FunD K "law" "law" (defArgs s_law) (defBody s_law) (defScope s_law) [] [] ((Ad.glo "law").at_ K) fd) : CalD P w K mg base 11 ((Ad.glo "law").at_ K) fd ["_law_script"] e_law := by
  obtain ⟨_, C_law_right, F_law_right⟩ := ok_law_right (P := P) (w := w) (base := base) Z
  obtain ⟨_, C_law_pot, F_law_pot⟩ := ok_law_pot (P := P) (w := w) (base := base) Z
  have scN := sc_law
  refine fnD' F sc_law fun n cdv A outer s H E hgu hr => ?_
  exact (sndb_one (snds_ret (b_fn (cr_all rfl) cd_all Z.n_all (ac (e_lc [("_law_k", 1)] scN.nd (i_r1 Z.n_range (ac (b_fn (call_max2 rfl) cd_max2 Z.n_max (ac snd_int (ac (b_fn (call_min2 rfl) cd_min2 Z.n_min (ac snd_int (ac (b_fn call_len cd_len Z.n_len (ac (v 0) snda_nil)) snda_nil))) snda_nil))) snda_nil)) (fun Y hY => by obtain ⟨_, _, _, _, _, rfl⟩ := hY; exact (w_nm 1 scN.nd)) (fun Y hY => by obtain ⟨_, _, _, _, _, rfl⟩ := hY; exact lct_nil) (fun Y hY => by obtain ⟨_, _, _, _, _, rfl⟩ := hY; exact (c_new n C_law_right (bn_law_right F_law_right) hgu hr Z.g_law_right (c_def n 2 C_law_pot (bn_law_pot F_law_pot) hgu hr Z.g_law_pot (ac (v 0) (ac (v 1) snda_nil))))) (ok := (blkOk_by (N := N_law) (sc := defScope s_law) (by decide +kernel)))) snda_nil))))
end
end
end L
set_option Elab.async false
set_option linter.all false
set_option maxRecDepth 100000
set_option maxHeartbeats 0
namespace L
open PySem L2 EV PySem.Spec PyProof.Rows
/-! ### the head -/
def fnL : List Df := [
  ⟨(Ad.glo "is_integer"), "is_integer", "is_integer", s_is_integer⟩,
  ⟨(Ad.glo "is_count"), "is_count", "is_count", s_is_count⟩,
  ⟨(Ad.glo "is_list"), "is_list", "is_list", s_is_list⟩,
  ⟨(Ad.glo "is_place_of"), "is_place_of", "is_place_of", s_is_place_of⟩,
  ⟨(Ad.glo "is_deed"), "is_deed", "is_deed", s_is_deed⟩,
  ⟨(Ad.glo "want_deeds"), "want_deeds", "want_deeds", s_want_deeds⟩,
  ⟨(Ad.glo "want_few"), "want_few", "want_few", s_want_few⟩,
  ⟨(Ad.met "House" "__init__"), "__init__", "House.__init__", s_House_init⟩,
  ⟨(Ad.prp "House" "places"), "places", "House.places", s_House_places⟩,
  ⟨(Ad.prp "House" "is_plain"), "is_plain", "House.is_plain", s_House_is_plain⟩,
  ⟨(Ad.met "House" "deeds"), "deeds", "House.deeds", s_House_deeds⟩,
  ⟨(Ad.met "House" "__len__"), "__len__", "House.__len__", s_House_len⟩,
  ⟨(Ad.met "House" "__eq__"), "__eq__", "House.__eq__", s_House_eq⟩,
  ⟨(Ad.met "House" "__repr__"), "__repr__", "House.__repr__", s_House_repr⟩,
  ⟨(Ad.met "House" "with_deed"), "with_deed", "House.with_deed", s_House_with_deed⟩,
  ⟨(Ad.met "House" "without_deed"), "without_deed", "House.without_deed", s_House_without_deed⟩,
  ⟨(Ad.glo "is_order"), "is_order", "is_order", s_is_order⟩,
  ⟨(Ad.glo "moved"), "moved", "moved", s_moved⟩,
  ⟨(Ad.met "House" "renumbered"), "renumbered", "House.renumbered", s_House_renumbered⟩,
  ⟨(Ad.met "House" "beside"), "beside", "House.beside", s_House_beside⟩,
  ⟨(Ad.met "House" "plain"), "plain", "House.plain", s_House_plain⟩,
  ⟨(Ad.glo "want_plain"), "want_plain", "want_plain", s_want_plain⟩,
  ⟨(Ad.met "House" "turned"), "turned", "House.turned", s_House_turned⟩,
  ⟨(Ad.glo "_law_pot"), "_law_pot", "_law_pot", s_law_pot⟩,
  ⟨(Ad.glo "_law_draw"), "_law_draw", "_law_draw", s_law_draw⟩,
  ⟨(Ad.glo "_law_deeds"), "_law_deeds", "_law_deeds", s_law_deeds⟩,
  ⟨(Ad.glo "_law_mixed"), "_law_mixed", "_law_mixed", s_law_mixed⟩,
  ⟨(Ad.glo "_law_tells"), "_law_tells", "_law_tells", s_law_tells⟩,
  ⟨(Ad.glo "_law_equal_right"), "_law_equal_right", "_law_equal_right", s_law_equal_right⟩,
  ⟨(Ad.glo "_law_made"), "_law_made", "_law_made", s_law_made⟩,
  ⟨(Ad.glo "_law_right"), "_law_right", "_law_right", s_law_right⟩,
  ⟨(Ad.glo "law"), "law", "law", s_law⟩]
def faL : List He.Fa := [.glo "is_integer", .glo "is_count", .glo "is_list", .glo "is_place_of", .glo "is_deed", .glo "want_deeds", .glo "want_few", .glo "is_order", .glo "moved", .glo "want_plain", .glo "_law_pot", .glo "_law_draw", .glo "_law_deeds", .glo "_law_mixed", .glo "_law_tells", .glo "_law_equal_right", .glo "_law_made", .glo "_law_right", .glo "law", .int "MOST_PLACES" 16, .int "MOST_DEEDS" 60, .str "ANY" "any", .str "EMPTY" "empty", .free "abs", .free "all", .free "any", .free "bool", .free "divmod", .free "enumerate", .free "int", .free "isinstance", .free "len", .free "list", .free "max", .free "min", .free "range", .free "repr", .free "set", .free "str", .free "tuple", .glo "House", .cls "House", .mkr "House", .noat "House" "own_places", .noat "House" "own_deeds", .meth "House" "deeds", .meth "House" "__len__", .meth "House" "__eq__", .meth "House" "__repr__", .meth "House" "with_deed", .meth "House" "without_deed", .meth "House" "renumbered", .meth "House" "beside", .meth "House" "plain", .meth "House" "turned"]
def exB (K : PySem.W.Frag) : Bool := [propB K (He.ga K "House") "places", propB K (He.ga K "House") "is_plain", iscB K (He.ga K "House"), neB K (He.ga K "House"), kitsB K csL].all id
theorem fx_of {K : PySem.W.Frag} {h : Heap} {mg : Str → Option Value} (X : K.In h) (G : h.Ns mainGlobals mg) (c : obsZ faL fnL exB K = valZ fnL) : Fx K mg := by
  have hx := saysZ_ex c
  simp only [exB, List.all_cons, List.all_nil, Bool.and_eq_true, id_eq, _root_.and_true] at hx
  obtain ⟨x0, x1, x2, x3, x4⟩ := hx
  have cl_House := He.cls_ok (saysZ_fact c 41 (f := .cls "House") rfl)
  have is_House := iscB_ok cl_House x2
  exact {
    g_is_integer := He.glo_ok X G (saysZ_fact c 0 (f := .glo "is_integer") rfl)
    g_is_count := He.glo_ok X G (saysZ_fact c 1 (f := .glo "is_count") rfl)
    g_is_list := He.glo_ok X G (saysZ_fact c 2 (f := .glo "is_list") rfl)
    g_is_place_of := He.glo_ok X G (saysZ_fact c 3 (f := .glo "is_place_of") rfl)
    g_is_deed := He.glo_ok X G (saysZ_fact c 4 (f := .glo "is_deed") rfl)
    g_want_deeds := He.glo_ok X G (saysZ_fact c 5 (f := .glo "want_deeds") rfl)
    g_want_few := He.glo_ok X G (saysZ_fact c 6 (f := .glo "want_few") rfl)
    g_is_order := He.glo_ok X G (saysZ_fact c 7 (f := .glo "is_order") rfl)
    g_moved := He.glo_ok X G (saysZ_fact c 8 (f := .glo "moved") rfl)
    g_want_plain := He.glo_ok X G (saysZ_fact c 9 (f := .glo "want_plain") rfl)
    g_law_pot := He.glo_ok X G (saysZ_fact c 10 (f := .glo "_law_pot") rfl)
    g_law_draw := He.glo_ok X G (saysZ_fact c 11 (f := .glo "_law_draw") rfl)
    g_law_deeds := He.glo_ok X G (saysZ_fact c 12 (f := .glo "_law_deeds") rfl)
    g_law_mixed := He.glo_ok X G (saysZ_fact c 13 (f := .glo "_law_mixed") rfl)
    g_law_tells := He.glo_ok X G (saysZ_fact c 14 (f := .glo "_law_tells") rfl)
    g_law_equal_right := He.glo_ok X G (saysZ_fact c 15 (f := .glo "_law_equal_right") rfl)
    g_law_made := He.glo_ok X G (saysZ_fact c 16 (f := .glo "_law_made") rfl)
    g_law_right := He.glo_ok X G (saysZ_fact c 17 (f := .glo "_law_right") rfl)
    g_law := He.glo_ok X G (saysZ_fact c 18 (f := .glo "law") rfl)
    i_MOST_PLACES := He.int_ok X G (saysZ_fact c 19 (f := .int "MOST_PLACES" 16) rfl)
    i_MOST_DEEDS := He.int_ok X G (saysZ_fact c 20 (f := .int "MOST_DEEDS" 60) rfl)
    i_ANY := He.str_ok X G (saysZ_fact c 21 (f := .str "ANY" "any") rfl)
    i_EMPTY := He.str_ok X G (saysZ_fact c 22 (f := .str "EMPTY" "empty") rfl)
    n_abs := He.free_ok X G (saysZ_fact c 23 (f := .free "abs") rfl)
    n_all := He.free_ok X G (saysZ_fact c 24 (f := .free "all") rfl)
    n_any := He.free_ok X G (saysZ_fact c 25 (f := .free "any") rfl)
    n_bool := He.free_ok X G (saysZ_fact c 26 (f := .free "bool") rfl)
    n_divmod := He.free_ok X G (saysZ_fact c 27 (f := .free "divmod") rfl)
    n_enumerate := He.free_ok X G (saysZ_fact c 28 (f := .free "enumerate") rfl)
    n_int := He.free_ok X G (saysZ_fact c 29 (f := .free "int") rfl)
    n_isinstance := He.free_ok X G (saysZ_fact c 30 (f := .free "isinstance") rfl)
    n_len := He.free_ok X G (saysZ_fact c 31 (f := .free "len") rfl)
    n_list := He.free_ok X G (saysZ_fact c 32 (f := .free "list") rfl)
    n_max := He.free_ok X G (saysZ_fact c 33 (f := .free "max") rfl)
    n_min := He.free_ok X G (saysZ_fact c 34 (f := .free "min") rfl)
    n_range := He.free_ok X G (saysZ_fact c 35 (f := .free "range") rfl)
    n_repr := He.free_ok X G (saysZ_fact c 36 (f := .free "repr") rfl)
    n_set := He.free_ok X G (saysZ_fact c 37 (f := .free "set") rfl)
    n_str := He.free_ok X G (saysZ_fact c 38 (f := .free "str") rfl)
    n_tuple := He.free_ok X G (saysZ_fact c 39 (f := .free "tuple") rfl)
    g_House := He.glo_ok X G (saysZ_fact c 40 (f := .glo "House") rfl)
    cls_House := He.cls_ok (saysZ_fact c 41 (f := .cls "House") rfl)
    mk_House := He.mkr_ok (saysZ_fact c 42 (f := .mkr "House") rfl)
    na_House_own_places := He.noat_ok (saysZ_fact c 43 (f := .noat "House" "own_places") rfl)
    na_House_own_deeds := He.noat_ok (saysZ_fact c 44 (f := .noat "House" "own_deeds") rfl)
    pr_House_places := propB_ok x0
    pr_House_is_plain := propB_ok x1
    me_House_deeds := He.meth_ok (saysZ_fact c 45 (f := .meth "House" "deeds") rfl)
    me_House_len := He.meth_ok (saysZ_fact c 46 (f := .meth "House" "__len__") rfl)
    me_House_eq := He.meth_ok (saysZ_fact c 47 (f := .meth "House" "__eq__") rfl)
    me_House_repr := He.meth_ok (saysZ_fact c 48 (f := .meth "House" "__repr__") rfl)
    me_House_with_deed := He.meth_ok (saysZ_fact c 49 (f := .meth "House" "with_deed") rfl)
    me_House_without_deed := He.meth_ok (saysZ_fact c 50 (f := .meth "House" "without_deed") rfl)
    me_House_renumbered := He.meth_ok (saysZ_fact c 51 (f := .meth "House" "renumbered") rfl)
    me_House_beside := He.meth_ok (saysZ_fact c 52 (f := .meth "House" "beside") rfl)
    me_House_plain := He.meth_ok (saysZ_fact c 53 (f := .meth "House" "plain") rfl)
    me_House_turned := He.meth_ok (saysZ_fact c 54 (f := .meth "House" "turned") rfl)
    d_is_integer := saysZ_def c 0 rfl
    d_is_count := saysZ_def c 1 rfl
    d_is_list := saysZ_def c 2 rfl
    d_is_place_of := saysZ_def c 3 rfl
    d_is_deed := saysZ_def c 4 rfl
    d_want_deeds := saysZ_def c 5 rfl
    d_want_few := saysZ_def c 6 rfl
    d_House_init := saysZ_def c 7 rfl
    d_House_places := saysZ_def c 8 rfl
    d_House_is_plain := saysZ_def c 9 rfl
    d_House_deeds := saysZ_def c 10 rfl
    d_House_len := saysZ_def c 11 rfl
    d_House_eq := saysZ_def c 12 rfl
    d_House_repr := saysZ_def c 13 rfl
    d_House_with_deed := saysZ_def c 14 rfl
    d_House_without_deed := saysZ_def c 15 rfl
    d_is_order := saysZ_def c 16 rfl
    d_moved := saysZ_def c 17 rfl
    d_House_renumbered := saysZ_def c 18 rfl
    d_House_beside := saysZ_def c 19 rfl
    d_House_plain := saysZ_def c 20 rfl
    d_want_plain := saysZ_def c 21 rfl
    d_House_turned := saysZ_def c 22 rfl
    d_law_pot := saysZ_def c 23 rfl
    d_law_draw := saysZ_def c 24 rfl
    d_law_deeds := saysZ_def c 25 rfl
    d_law_mixed := saysZ_def c 26 rfl
    d_law_tells := saysZ_def c 27 rfl
    d_law_equal_right := saysZ_def c 28 rfl
    d_law_made := saysZ_def c 29 rfl
    d_law_right := saysZ_def c 30 rfl
    d_law := saysZ_def c 31 rfl
    eqo_House := eqO_of is_House (He.meth_ok (saysZ_fact c 47 (f := .meth "House" "__eq__") rfl)) x3
    w := clsF_of (cs := csL) (fun c hc => by simp only [csL, List.mem_cons, List.not_mem_nil, _root_.or_false] at hc; subst hc; first | exact He.glo_ok X G (saysZ_fact c 40 (f := .glo "House") rfl)) (fun c hc => by simp only [csL, List.mem_cons, List.not_mem_nil, _root_.or_false] at hc; subst hc; first | exact is_House) x4 }
def lo0 : List Str := ["TillError", "StateError", "LimitError", "InvalidDeed", "InvalidDeeds", "InvalidHouse", "InvalidOrder", "InvalidPlaces", "InvalidPosition", "NotPlain", "TooMany", "is_integer", "is_count", "is_list", "MOST_PLACES", "MOST_DEEDS", "ANY", "EMPTY", "is_place_of", "is_deed", "want_deeds", "want_few", "House", "is_order", "moved", "want_plain", "_law_pot", "_law_draw", "_law_pick", "_law_deeds"]
def lo1 : List Str := ["_law_mixed", "_law_tells", "_law_equal_right", "_law_made", "_law_right"]
def loL : List Str := lo0 ++ lo1
abbrev R : PySem.W.OpenRow := PySem.W.OpenLaw.row PySem.Challenge.rw_lonetill_k21_houses_as_values
abbrev hk : PySem.W.Hook := hookZ 6 faL fnL exB
def ob (s : PySem.W.SharedT) : AlZ := obsZ faL fnL exB (He.frG (HandSHeadRun.getT s) (He.asD (HandSHeadRun.getT s) 6))
theorem ob_eq (s : PySem.W.SharedT) : ob s = hk.obs s.abs := obsZ_eq (HandSHeadRun.getT_eq s)
theorem run (w : World) : HandSHeadRun.RunEq R (PySem.W.view R.prog [39]) hk ob 6000 loL w := by
  intro os
  kernel_rfl
end L
set_option Elab.async false
set_option linter.all false
set_option maxRecDepth 100000
set_option maxHeartbeats 0
namespace L
open PySem L2 EV PySem.Spec PyProof.Rows
theorem facts {w : World} {K : PySem.W.Frag} {h : Heap} {mg : Str → Option Value} {fa : Addr} (KX : K.In h) (G : h.Ns mainGlobals mg) (hfa : mg ("law" : Str) = some (.ref fa)) (c : obsZ faL fnL exB K = valZ fnL) :
    ∃ (K' : PySem.W.Frag) (fd : FuncData) (g : Nat → List D → List D → Option (Ret × List D)), K'.In h ∧ (∀ (s : Shared) (u : Value), BindsTo s fd ⟨[u], []⟩ [("_law_script", u)]) ∧
      (∀ ns : List Int, ns.length ≤ 63 → ∃ m, g m [.klst (ns.map .int)] [] = some (.val (.bl true), [])) ∧ ∀ base : Heap, K'.In base → base.Ns mainGlobals mg → CalD prg w K' mg base 11 fa fd ["_law_script"] g := by
  have Z := fx_of KX G c
  have e := hfa.symm.trans Z.g_law
  cases e
  obtain ⟨fd, F⟩ := Z.d_law
  have b := FunD.bindsA (ps := ["_law_script"]) F fun _ _ _ _ _ _ us hl => match us, hl with | [_], _ => rfl
  exact ⟨K, fd, e_law, KX, fun s v => b s [v] rfl, fun ns hl => ⟨64, law_ok 64 (by decide) ns hl⟩, fun base _ _ => okF_law Z F⟩
end L
open PySem PySem.W PySem.Calls PyProof.Rows
theorem PySem.Challenge.cw_lonetill_k21_houses_as_values_holds : PySem.Challenge.rw_lonetill_k21_houses_as_values.Holds := by
  w_on; o_law
  refine HandSHeadRun.head_any (r := OpenLaw.row PySem.Challenge.rw_lonetill_k21_houses_as_values) (q := view (OpenLaw.row PySem.Challenge.rw_lonetill_k21_houses_as_values).prog [39]) (H := L.hk) (ob := L.ob) (M := 6000) (loose := L.loL) (d := HandSHeadRun.topDef (OpenLaw.row PySem.Challenge.rw_lonetill_k21_houses_as_values).prog 39) (kwd := []) L.ob_eq
    (by kernel_rfl) (fun s => by kernel_rfl) L.run (by kernel_rfl) (by kernel_rfl) (by kernel_rfl) (by rfl) (by first | assumption | decide +kernel) (by decide +kernel) ⟨rfl, rfl, rfl, rfl, rfl, by decide +kernel⟩ ?hw ?hc
  case hw => w_witness2
  case hc =>
    refine EV.walk_ofG (l := PySem.Challenge.rw_lonetill_k21_houses_as_values) (n := 63) (k := 11) (x := "_law_script") rfl (by decide) (by kernel_rfl) ⟨rfl, by decide, by decide⟩ ?F
    intro w mg fa h Y G hmg0
    obtain ⟨K, KX, c⟩ := Y
    have hmg : mg ("law" : PySem.Str) = some (.ref fa) := by
      have e : (HandSHeadRun.topDef (OpenLaw.row PySem.Challenge.rw_lonetill_k21_houses_as_values).prog 39).name = ("law" : PySem.Str) := by kernel_rfl
      rw [← e]
      exact hmg0
    exact L.facts KX G hmg c
