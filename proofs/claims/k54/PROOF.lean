import PyProof.Rows.All
import HandS.ForMost
import HandS.Star
import HandS.Walk
import HandS.Wide
import HandS.Gcd
import HandS.IsInst
import HandS.RevRange
import HandS.Rev
import HandS.Zip
import HandS.TupMul
import HandS.TupAny
import HandS.Style
import KE.GoesEnum
import KE.GoesMore
import KE.GoesZip
import HandS.Dict
import HandS.Ends
import HandS.RaiseMore
import PyProof.NeKinds
import HandS.Deep
import PySem.Challenge.RW_endtellers_k54_whole_cells_are_the_end
set_option Elab.async false
set_option linter.all false
set_option maxRecDepth 100000
set_option maxHeartbeats 5000000
namespace Tw
open PySem
open PySem.Spec PyProof.Rows L2

/-- a value as a tree: tuples and lists by their items; wel: the law's own list of draws; d0, d1: small dicts -/
inductive T where
  | non | bl (b : Bool) | int (i : Int) | str (x : Str)
  | tup (ts : List T) | lst (ts : List T) | wel | scr (ns : List Int) | d0 | d1 (k : Str) (t : T)
  deriving Inhabited

/-- the lists of draws stand -/
def WOk (W : Addr → Prop) (H : Hp) : Prop := ∀ a, W a → ∃ g b s : Int, H a = some (.lst [.int g, .int b, .int s])

section
variable (K : PySem.W.Frag)
mutual
inductive Rp (W Z : Addr → Prop) (H : Hp) : V → T → Prop
  | non : Rp W Z H .non .non
  | bl (b : Bool) : Rp W Z H (.bl b) (.bl b)
  | int (i : Int) : Rp W Z H (.int i) (.int i)
  | str (x : Str) : Rp W Z H (.str x) (.str x)
  | tup {a : Addr} {xs : List V} {ts : List T} : SqT K H a xs → RpA W Z H xs ts → Rp W Z H (.ref a) (.tup ts)
  | lst {a : Addr} {xs : List V} {ts : List T} : ¬ W a → ¬ Z a → H a = some (.lst xs) → RpA W Z H xs ts → Rp W Z H (.ref a) (.lst ts)
  | wel {a : Addr} : W a → Rp W Z H (.ref a) .wel
  | scr {a : Addr} {ns : List Int} : (∃ o, H a = some (.frz o (.lst (ns.map V.int)))) ∨ (∀ H' : Hp, SqL K H' a (ns.map V.int)) → Rp W Z H (.ref a) (.scr ns)
  | d0 {a : Addr} : ¬ W a → ¬ Z a → H a = some (.dK []) → Rp W Z H (.ref a) .d0
  | d1 {a : Addr} {k : Str} {v : V} {t : T} : ¬ W a → ¬ Z a → H a = some (.dK [(.inr k, v)]) → Rp W Z H v t → Rp W Z H (.ref a) (.d1 k t)
inductive RpA (W Z : Addr → Prop) (H : Hp) : List V → List T → Prop
  | nil : RpA W Z H [] []
  | cons {v : V} {vs : List V} {t : T} {ts : List T} : Rp W Z H v t → RpA W Z H vs ts → RpA W Z H (v :: vs) (t :: ts)
end
end

/-- what a stretch of the run may do: lists of draws turn, the addresses of O may change, new objects come -/
structure StepO (W O : Addr → Prop) (H : Hp) (W' O' : Addr → Prop) (H' : Hp) : Prop where
  keep : ∀ a o, H a = some o → ¬ W a → ¬ O a → H' a = some o
  sub : ∀ a, W a → W' a
  new : ∀ a, W' a → W a ∨ H a = none
  own : ∀ a, O' a → O a ∨ H a = none
  dom : ∀ a o, H a = some o → ∃ o', H' a = some o'
theorem StepO.refl (W O : Addr → Prop) (H : Hp) : StepO W O H W O H := ⟨fun _ _ h _ _ => h, fun _ h => h, fun _ h => .inl h, fun _ h => .inl h, fun _ o h => ⟨o, h⟩⟩
theorem StepO.none_of {W O W' O' : Addr → Prop} {H H' : Hp} (s : StepO W O H W' O' H') {a : Addr} (h : H' a = none) : H a = none := by
  cases e : H a with
  | none => rfl
  | some o => obtain ⟨o', q⟩ := s.dom a o e; rw [h] at q; cases q
theorem StepO.trans {W O W1 O1 W2 O2 : Addr → Prop} {H H1 H2 : Hp} (s : StepO W O H W1 O1 H1) (t : StepO W1 O1 H1 W2 O2 H2) : StepO W O H W2 O2 H2 where
  keep := fun a o h w n => by
    refine t.keep a o (s.keep a o h w n) (fun q => ?_) fun q => ?_
    · rcases s.new a q with z | z
      · exact w z
      · rw [h] at z; cases z
    · rcases s.own a q with z | z
      · exact n z
      · rw [h] at z; cases z
  sub := fun a h => t.sub a (s.sub a h)
  new := fun a h => by
    rcases t.new a h with z | z
    · exact s.new a z
    · exact .inr (s.none_of z)
  own := fun a h => by
    rcases t.own a h with z | z
    · exact s.own a z
    · exact .inr (s.none_of z)
  dom := fun a o h => by
    obtain ⟨o1, h1⟩ := s.dom a o h
    exact t.dom a o1 h1
abbrev No : Addr → Prop := fun _ => False
structure Step (W : Addr → Prop) (H : Hp) (W' : Addr → Prop) (H' : Hp) : Prop where
  so : StepO W No H W' No H'
  ok : WOk W' H'
theorem Step.refl {W : Addr → Prop} {H : Hp} (w : WOk W H) : Step W H W H := ⟨.refl _ _ _, w⟩
theorem Step.trans {W W1 W2 : Addr → Prop} {H H1 H2 : Hp} (s : Step W H W1 H1) (t : Step W1 H1 W2 H2) : Step W H W2 H2 := ⟨s.so.trans t.so, t.ok⟩
theorem Step.keep {W W' : Addr → Prop} {H H' : Hp} (s : Step W H W' H') {a : Addr} {o : HO} (h : H a = some o) (n : ¬ W a) : H' a = some o := s.so.keep a o h n fun z => z
/-- a new object -/
theorem Step.put {W : Addr → Prop} {H : Hp} (w : WOk W H) {p : Addr} {o : HO} (n : H p = none) : Step W H W (upd H p o) := by
  have hp : ∀ a, W a → a ≠ p := fun a q z => by
    obtain ⟨_, _, _, e⟩ := w a q
    rw [z, n] at e; cases e
  refine ⟨⟨fun a o' h _ _ => ?_, fun _ h => h, fun _ h => .inl h, fun _ h => .inl h, fun a o' h => ?_⟩, fun a q => ?_⟩
  · rw [upd_ne (ne_of_none h n)]; exact h
  · exact ⟨o', by rw [upd_ne (ne_of_none h n)]; exact h⟩
  · obtain ⟨g, b, s, e⟩ := w a q
    exact ⟨g, b, s, by rw [upd_ne (hp a q)]; exact e⟩

section
variable {K : PySem.W.Frag} {W Z W' Z' : Addr → Prop} {H H' : Hp} {v : V} {t : T} {vs : List V} {ts : List T}
theorem WOk.notTup (w : WOk W H) {a : Addr} {o : HO} (h : H a = some o) (n : ∀ xs, o ≠ .lst xs) : ¬ W a := fun q => by
  obtain ⟨_, _, _, e⟩ := w a q
  rw [h] at e; cases e
  exact n _ rfl
mutual
theorem Rp.step (w : WOk W H) (s : Step W H W' H') : ∀ {t : T} {v : V}, Rp K W Z H v t → Rp K W' Z H' v t
  | .non, _, h => by cases h; exact .non
  | .bl _, _, h => by cases h; exact .bl _
  | .int _, _, h => by cases h; exact .int _
  | .str _, _, h => by cases h; exact .str _
  | .tup ts, _, h => by
    cases h with
    | tup q r =>
      refine .tup ?_ (RpA.step w s r)
      rcases q with (q | ⟨o, q⟩) | q
      · exact .inl (.inl (s.keep q (w.notTup q fun xs z => by cases z)))
      · exact .inl (.inr ⟨o, s.keep q (w.notTup q fun xs z => by cases z)⟩)
      · exact .inr q
  | .lst ts, _, h => by
    cases h with
    | lst a b q r =>
      refine .lst (fun z => ?_) b (s.keep q a) (RpA.step w s r)
      rcases s.so.new _ z with y | y
      · exact a y
      · rw [q] at y; cases y
  | .wel, _, h => by cases h with | wel q => exact .wel (s.so.sub _ q)
  | .scr ns, _, h => by
    cases h with
    | scr q =>
      rcases q with ⟨o, q⟩ | q
      · exact .scr (.inl ⟨o, s.keep q (w.notTup q fun xs z => by cases z)⟩)
      · exact .scr (.inr q)
  | .d0, _, h => by
    cases h with
    | d0 a b q =>
      refine .d0 (fun z => ?_) b (s.keep q a)
      rcases s.so.new _ z with y | y
      · exact a y
      · rw [q] at y; cases y
  | .d1 k t, _, h => by
    cases h with
    | d1 a b q r =>
      refine .d1 (fun z => ?_) b (s.keep q a) (Rp.step w s r)
      rcases s.so.new _ z with y | y
      · exact a y
      · rw [q] at y; cases y
theorem RpA.step (w : WOk W H) (s : Step W H W' H') : ∀ {ts : List T} {vs : List V}, RpA K W Z H vs ts → RpA K W' Z H' vs ts
  | [], _, h => by cases h; exact .nil
  | t :: ts, _, h => by
    cases h with
    | cons a b => exact .cons (Rp.step w s a) (RpA.step w s b)
end
mutual
theorem Rp.mono (z : ∀ a, Z' a → Z a) : ∀ {t : T} {v : V}, Rp K W Z H v t → Rp K W Z' H v t
  | .non, _, h => by cases h; exact .non
  | .bl _, _, h => by cases h; exact .bl _
  | .int _, _, h => by cases h; exact .int _
  | .str _, _, h => by cases h; exact .str _
  | .tup ts, _, h => by cases h with | tup q r => exact .tup q (RpA.mono z r)
  | .lst ts, _, h => by cases h with | lst a b q r => exact .lst a (fun y => b (z _ y)) q (RpA.mono z r)
  | .wel, _, h => by cases h with | wel q => exact .wel q
  | .scr _, _, h => by cases h with | scr q => exact .scr q
  | .d0, _, h => by cases h with | d0 a b q => exact .d0 a (fun y => b (z _ y)) q
  | .d1 k t, _, h => by cases h with | d1 a b q r => exact .d1 a (fun y => b (z _ y)) q (Rp.mono z r)
theorem RpA.mono (z : ∀ a, Z' a → Z a) : ∀ {ts : List T} {vs : List V}, RpA K W Z H vs ts → RpA K W Z' H vs ts
  | [], _, h => by cases h; exact .nil
  | t :: ts, _, h => by cases h with | cons a b => exact .cons (Rp.mono z a) (RpA.mono z b)
end
theorem RpA.length : ∀ {vs : List V} {ts : List T}, RpA K W Z H vs ts → vs.length = ts.length
  | _, _, .nil => rfl
  | _, _, .cons _ r => by rw [List.length_cons, List.length_cons, RpA.length r]
theorem RpA.get : ∀ {vs : List V} {ts : List T} {i : Nat} {t : T}, RpA K W Z H vs ts → ts[i]? = some t → ∃ v, vs[i]? = some v ∧ Rp K W Z H v t
  | _, _, _, _, .nil, e => by
    simp at e
  | _, _, 0, _, .cons a _, e => by simp at e; subst e; exact ⟨_, rfl, a⟩
  | _, _, i + 1, _, .cons _ r, e => by
    obtain ⟨v, h1, h2⟩ := RpA.get (i := i) r (by simpa using e)
    exact ⟨v, by simpa using h1, h2⟩
theorem RpA.getV : ∀ {vs : List V} {ts : List T} {i : Nat} {v : V}, RpA K W Z H vs ts → vs[i]? = some v → ∃ t, ts[i]? = some t ∧ Rp K W Z H v t
  | _, _, _, _, .nil, e => by
    simp at e
  | _, _, 0, _, .cons a _, e => by simp at e; subst e; exact ⟨_, rfl, a⟩
  | _, _, i + 1, _, .cons _ r, e => by
    obtain ⟨v, h1, h2⟩ := RpA.getV (i := i) r (by simpa using e)
    exact ⟨v, by simpa using h1, h2⟩
theorem RpA.app : ∀ {vs : List V} {ts : List T} {ws : List V} {us : List T}, RpA K W Z H vs ts → RpA K W Z H ws us → RpA K W Z H (vs ++ ws) (ts ++ us)
  | _, _, _, _, .nil, r => r
  | _, _, _, _, .cons a q, r => .cons a (RpA.app q r)
theorem RpA.take : ∀ {vs : List V} {ts : List T} (n : Nat), RpA K W Z H vs ts → RpA K W Z H (vs.take n) (ts.take n)
  | _, _, 0, _ => .nil
  | _, _, _ + 1, .nil => .nil
  | _, _, n + 1, .cons a r => .cons a (RpA.take n r)
theorem RpA.drop : ∀ {vs : List V} {ts : List T} (n : Nat), RpA K W Z H vs ts → RpA K W Z H (vs.drop n) (ts.drop n)
  | _, _, 0, r => r
  | _, _, _ + 1, .nil => .nil
  | _, _, n + 1, .cons _ r => RpA.drop n r
theorem RpA.set {x : V} {u : T} (p : Rp K W Z H x u) : ∀ {vs : List V} {ts : List T} (i : Nat), RpA K W Z H vs ts → RpA K W Z H (vs.set i x) (ts.set i u)
  | _, _, _, .nil => .nil
  | _, _, 0, .cons _ r => .cons p r
  | _, _, i + 1, .cons a r => .cons a (RpA.set p i r)
theorem RpA.snoc {x : V} {u : T} (r : RpA K W Z H vs ts) (p : Rp K W Z H x u) : RpA K W Z H (vs ++ [x]) (ts ++ [u]) := r.app (.cons p .nil)
theorem RpA.rev : ∀ {vs : List V} {ts : List T}, RpA K W Z H vs ts → RpA K W Z H vs.reverse ts.reverse
  | _, _, .nil => .nil
  | _, _, .cons a r => by rw [List.reverse_cons, List.reverse_cons]; exact (RpA.rev r).snoc a
theorem RpA.rep (r : RpA K W Z H vs ts) : ∀ n : Nat, RpA K W Z H (List.replicate n vs).flatten (List.replicate n ts).flatten
  | 0 => .nil
  | n + 1 => by rw [List.replicate_succ, List.replicate_succ, List.flatten_cons, List.flatten_cons]; exact r.app (RpA.rep r n)
end

mutual
/-- no list, no dict in it -/
def T.noL : T → Bool
  | .non | .bl _ | .int _ | .str _ | .wel | .scr _ => true
  | .tup ts => noLs ts
  | .lst _ | .d0 | .d1 _ _ => false
def noLs : List T → Bool
  | [] => true
  | t :: ts => t.noL && noLs ts
end
section
variable {K : PySem.W.Frag} {W Z W' Z' : Addr → Prop} {H H' : Hp}
mutual
theorem Rp.noL : ∀ {t : T} {v : V}, Rp K W Z H v t → t.noL = true → Rp K W Z' H v t
  | .non, _, h, _ => by cases h; exact .non
  | .bl _, _, h, _ => by cases h; exact .bl _
  | .int _, _, h, _ => by cases h; exact .int _
  | .str _, _, h, _ => by cases h; exact .str _
  | .tup ts, _, h, e => by cases h with | tup q r => exact .tup q (RpA.noL r (by simpa [T.noL] using e))
  | .lst ts, _, h, e => by simp [T.noL] at e
  | .wel, _, h, _ => by cases h with | wel q => exact .wel q
  | .scr _, _, h, _ => by cases h with | scr q => exact .scr q
  | .d0, _, h, e => by simp [T.noL] at e
  | .d1 k t, _, h, e => by simp [T.noL] at e
theorem RpA.noL : ∀ {ts : List T} {vs : List V}, RpA K W Z H vs ts → noLs ts = true → RpA K W Z' H vs ts
  | [], _, h, _ => by cases h; exact .nil
  | t :: ts, _, h, e => by
    cases h with
    | cons a b =>
      rw [noLs, Bool.and_eq_true] at e
      exact .cons (Rp.noL a e.1) (RpA.noL b e.2)
end
end

/-- a value whose own list may be one of Zt's exemptions, its parts keep clear of Zc -/
def RpO (K : PySem.W.Frag) (W Zt Zc : Addr → Prop) (H : Hp) (v : V) : T → Prop
  | .lst ts => ∃ a xs, v = .ref a ∧ H a = some (.lst xs) ∧ ¬ W a ∧ ¬ Zt a ∧ RpA K W Zc H xs ts
  | t => Rp K W Zc H v t
section
variable {K : PySem.W.Frag} {W Z Zt Zc W' Z' : Addr → Prop} {H H' : Hp} {v : V} {t : T}
theorem RpO.of (h : Rp K W Z H v t) : RpO K W Z Z H v t := by
  cases t with
  | lst ts => cases h with | lst a b q r => exact ⟨_, _, rfl, q, a, b, r⟩
  | _ => exact h
theorem RpO.rp (h : RpO K W Z Z H v t) : Rp K W Z H v t := by
  cases t with
  | lst ts => obtain ⟨a, xs, rfl, q, w, z, r⟩ := h; exact .lst w z q r
  | _ => exact h
theorem RpO.mono {Zt' Zc' : Addr → Prop} (h : RpO K W Zt Zc H v t) (z1 : ∀ a, Zt' a → Zt a) (z2 : ∀ a, Zc' a → Zc a) : RpO K W Zt' Zc' H v t := by
  cases t with
  | lst ts => obtain ⟨a, xs, rfl, q, w, z, r⟩ := h; exact ⟨a, xs, rfl, q, w, fun y => z (z1 _ y), r.mono z2⟩
  | _ => exact Rp.mono z2 h
theorem RpO.step (w : WOk W H) (s : Step W H W' H') (h : RpO K W Zt Zc H v t) : RpO K W' Zt Zc H' v t := by
  cases t with
  | lst ts =>
    obtain ⟨a, xs, rfl, q, b, z, r⟩ := h
    refine ⟨a, xs, rfl, s.keep q b, fun y => ?_, z, r.step w s⟩
    rcases s.so.new _ y with y | y
    · exact b y
    · rw [q] at y; cases y
  | _ => exact Rp.step w s h
end
end Tw

namespace Tw
open PySem
open PySem.Spec PyProof.Rows L2

abbrev St := L2.St
abbrev TEnv := List (Option T)
/-- what an expression is worth; a test; a row of arguments -/
abbrev TR := TEnv → (T → Prop) → Prop
abbrev TB := TEnv → (Bool → Prop) → Prop
abbrev TL := TEnv → (List T → Prop) → Prop

/-- the lists that the frame itself changes: what stands in the slots of own -/
def Ow (own : List Nat) (σ : St) : Addr → Prop := fun a => ∃ j, j ∈ own ∧ σ[j]? = some (some (V.ref a))
def ZZ (own : List Nat) (σ : St) (Z : Addr → Prop) (b : Bool) : Addr → Prop := fun a => Z a ∨ (b = true ∧ Ow own σ a)
theorem ZZ.z {own : List Nat} {σ : St} {Z : Addr → Prop} {b : Bool} : ∀ a, Z a → ZZ own σ Z b a := fun _ h => .inl h
theorem ZZ.le {own : List Nat} {σ : St} {Z : Addr → Prop} {b c : Bool} (h : b = true → c = true) : ∀ a, ZZ own σ Z b a → ZZ own σ Z c a := fun _ q => by
  rcases q with q | ⟨q, r⟩
  · exact .inl q
  · exact .inr ⟨h q, r⟩
theorem ZZ.f {own : List Nat} {σ : St} {Z : Addr → Prop} : ∀ a, ZZ own σ Z false a → Z a := fun _ q => by
  rcases q with q | ⟨q, _⟩
  · exact q
  · cases q

structure RelE (K : PySem.W.Frag) (own : List Nat) (W Z : Addr → Prop) (env : TEnv) (σ : St) (H : Hp) : Prop where
  wok : WOk W H
  zx : ∀ a, Z a → ∃ o, H a = some o
  ox : ∀ a, Ow own σ a → ∃ xs, H a = some (.lst xs)
  len : env.length = σ.length
  val : ∀ i t, env[i]? = some (some t) → i ∉ own → ∃ v, σ[i]? = some (some v) ∧ Rp K W (ZZ own σ Z true) H v t
  ow : ∀ i t, env[i]? = some (some t) → i ∈ own → ∃ a xs ts, σ[i]? = some (some (V.ref a)) ∧ t = .lst ts ∧ H a = some (.lst xs) ∧ ¬ W a ∧ ¬ Z a ∧ RpA K W (ZZ own σ Z true) H xs ts
  inj : ∀ i j a, i ∈ own → j ∈ own → σ[i]? = some (some (V.ref a)) → σ[j]? = some (some (V.ref a)) → i = j
section
variable {K : PySem.W.Frag} {own : List Nat} {W Z W' : Addr → Prop} {env : TEnv} {σ : St} {H H' : Hp}
theorem RelE.zzx (R : RelE K own W Z env σ H) (b : Bool) : ∀ a, ZZ own σ Z b a → ∃ o, H a = some o := fun a h => by
  rcases h with h | ⟨_, h⟩
  · exact R.zx a h
  · obtain ⟨xs, e⟩ := R.ox a h
    exact ⟨_, e⟩
theorem RelE.step (R : RelE K own W Z env σ H) (s : Step W H W' H') : RelE K own W' Z env σ H' where
  wok := s.ok
  zx := fun a h => by obtain ⟨o, e⟩ := R.zx a h; exact s.so.dom a o e
  ox := fun a h => by
    obtain ⟨xs, e⟩ := R.ox a h
    rcases Classical.em (W a) with q | q
    · obtain ⟨g, b, z, e'⟩ := s.ok a (s.so.sub a q)
      exact ⟨_, e'⟩
    · exact ⟨xs, s.keep e q⟩
  len := R.len
  val := fun i t e n => by
    obtain ⟨v, h1, h2⟩ := R.val i t e n
    exact ⟨v, h1, h2.step R.wok s⟩
  ow := fun i t e n => by
    obtain ⟨a, xs, ts, h1, h2, h3, h4, h5, h6⟩ := R.ow i t e n
    refine ⟨a, xs, ts, h1, h2, s.keep h3 h4, fun q => ?_, h5, h6.step R.wok s⟩
    rcases s.so.new a q with y | y
    · exact h4 y
    · rw [h3] at y; cases y
  inj := R.inj
end

def liftE (K : PySem.W.Frag) (own : List Nat) (c t : Bool) (r : TR) : TE := fun σ H Q => ∃ (W Z : Addr → Prop) (env : TEnv) (Qt : T → Prop), RelE K own W Z env σ H ∧ r env Qt ∧
  ∀ u, Qt u → ∀ v H' W', Step W H W' H' → RpO K W' (ZZ own σ Z t) (ZZ own σ Z c) H' v u → Q v H'
def liftB (K : PySem.W.Frag) (own : List Nat) (r : TB) : TT := fun σ H Q => ∃ (W Z : Addr → Prop) (env : TEnv) (Qt : Bool → Prop), RelE K own W Z env σ H ∧ r env Qt ∧
  ∀ u, Qt u → ∀ H' W', Step W H W' H' → Q u H'
def liftL (K : PySem.W.Frag) (own : List Nat) (b : Bool) (r : TL) : TA := fun σ H Q => ∃ (W Z : Addr → Prop) (env : TEnv) (Qt : List T → Prop), RelE K own W Z env σ H ∧ r env Qt ∧
  ∀ us, Qt us → ∀ vs H' W', Step W H W' H' → RpA K W' (ZZ own σ Z b) H' vs us → Q vs H'
/-- e is worth r; c: its parts keep clear of the frame's own lists; t: itself, too -/
structure PEt (X : Cx) (own : List Nat) (c t : Bool) (e : Expr) (r : TR) : Prop where
  pe : PE X e (liftE X.K own c t r)
structure PTt (X : Cx) (own : List Nat) (e : Expr) (r : TB) : Prop where
  pt : PT X e (liftB X.K own r)
structure PAt (X : Cx) (own : List Nat) (b : Bool) (es : List Expr) (r : TL) : Prop where
  pa : PA X es (liftL X.K own b r)
theorem peImp {X : Cx} {e : Expr} {t t' : TE} (h : PE X e t) (i : ∀ σ H Q, t' σ H Q → t σ H Q) : PE X e t' := ⟨fun pins s σ H Q I q => h.run pins s σ H Q I (i _ _ _ q)⟩
theorem ptImp {X : Cx} {e : Expr} {t t' : TT} (h : PT X e t) (i : ∀ σ H Q, t' σ H Q → t σ H Q) : PT X e t' := ⟨fun pins s σ H Q I q => h.run pins s σ H Q I (i _ _ _ q)⟩
theorem paImp {X : Cx} {e : List Expr} {t t' : TA} (h : PA X e t) (i : ∀ σ H Q, t' σ H Q → t σ H Q) : PA X e t' := ⟨fun p pins s σ H Q I q => h.run p pins s σ H Q I (i _ _ _ q)⟩
theorem psImp {X : Cx} {e : Stmt} {t t' : TS} (h : PS X e t) (i : ∀ D σ H, t' D σ H → t D σ H) : PS X e t' := ⟨fun pins s σ H D I q => h.run pins s σ H D I (i _ _ _ q)⟩
theorem pssImp {X : Cx} {e : List Stmt} {t t' : TS} (h : PSs X e t) (i : ∀ D σ H, t' D σ H → t D σ H) : PSs X e t' := ⟨fun pins s σ H D I q => h.run pins s σ H D I (i _ _ _ q)⟩

/-! ### names, constants -/
def rVar (i : Nat) : TR := fun env Q => ∃ t, env[i]? = some (some t) ∧ Q t
def rC (u : T) : TR := fun _ Q => Q u
section
variable {X : Cx} {own : List Nat}
theorem RpO.top {K : PySem.W.Frag} {W Z : Addr → Prop} {H : Hp} {v : V} {t : T} (h : Rp K W Z H v t) : RpO K W Z Z H v t := RpO.of h
/-- a name that is none of the frame's own lists -/
theorem et_var (i : Nat) {x : Str} {pos : Pos} (hN : X.N[i]? = some x) (hv : Vis X.env.scope x) (ho : own.contains i = false) (hd : (x == ("__debug__" : Str)) = false := by decide) (hcd : (x == ("__classdict__" : Str)) = false := by decide) :
    PEt X own true true (.Name x pos) (rVar i) := by
  refine ⟨peImp (pe_var hN hv hd hcd) fun σ H Q h => ?_⟩
  obtain ⟨W, Z, env, Qt, R, ⟨t, e, q⟩, k⟩ := h
  have hno : i ∉ own := fun z => by
    have : own.contains i = true := List.contains_iff_mem.mpr z
    rw [ho] at this; cases this
  obtain ⟨v, hs, hr⟩ := R.val i t e hno
  exact ⟨v, hs, k t q v H W (Step.refl R.wok) (.of hr)⟩
/-- one of the frame's own lists -/
theorem et_own (i : Nat) {x : Str} {pos : Pos} (hN : X.N[i]? = some x) (hv : Vis X.env.scope x) (ho : own.contains i = true) (hd : (x == ("__debug__" : Str)) = false := by decide) (hcd : (x == ("__classdict__" : Str)) = false := by decide) :
    PEt X own true false (.Name x pos) (rVar i) := by
  refine ⟨peImp (pe_var hN hv hd hcd) fun σ H Q h => ?_⟩
  obtain ⟨W, Z, env, Qt, R, ⟨t, e, q⟩, k⟩ := h
  obtain ⟨a, xs, ts, h1, rfl, h3, h4, h5, h6⟩ := R.ow i t e (List.contains_iff_mem.mp ho)
  exact ⟨_, h1, k _ q _ H W (Step.refl R.wok) ⟨a, xs, rfl, h3, h4, fun z => h5 (ZZ.f _ z), h6⟩⟩
theorem et_int {i j pos} : PEt X own true true (.Constant (.int i) j pos) (rC (.int i)) := ⟨peImp pe_int fun σ H Q ⟨_, _, _, _, R, q, k⟩ => k _ q _ H _ (Step.refl R.wok) (.of (.int i))⟩
theorem et_bl {b j pos} : PEt X own true true (.Constant (.bool b) j pos) (rC (.bl b)) := ⟨peImp pe_bl fun σ H Q ⟨_, _, _, _, R, q, k⟩ => k _ q _ H _ (Step.refl R.wok) (.of (.bl b))⟩
theorem et_non {j pos} : PEt X own true true (.Constant .none j pos) (rC .non) := ⟨peImp pe_non fun σ H Q ⟨_, _, _, _, R, q, k⟩ => k _ q _ H _ (Step.refl R.wok) (.of .non)⟩
theorem et_str {x j pos} : PEt X own true true (.Constant (.str x) j pos) (rC (.str x)) := ⟨peImp pe_str fun σ H Q ⟨_, _, _, _, R, q, k⟩ => k _ q _ H _ (Step.refl R.wok) (.of (.str x))⟩
/-- a constant of the module: told by the written part alone -/
structure KC (X : Cx) (x : Str) (t : T) : Prop where
  ex : ∃ v u, X.mg x = some u ∧ RelV v u ∧ ∀ (W Z : Addr → Prop) (H : Hp), Rp X.K W Z H v t
theorem et_glob {x : Str} {t : T} {pos : Pos} (hg : Gl X x) (h : KC X x t) (hd : (x == ("__debug__" : Str)) = false := by decide) : PEt X own true true (.Name x pos) (rC t) := by
  obtain ⟨v, u, hm, r, p⟩ := h.ex
  exact ⟨peImp (pe_glob hg hm r hd) fun σ H Q ⟨_, _, _, _, R, q, k⟩ => k _ q _ H _ (Step.refl R.wok) (.of (p _ _ _))⟩
end

/-! ### operators -/
def rOp (r : T → T → (T → Prop) → Prop) (ra rb : TR) : TR := fun env Q => ra env fun x => rb env fun y => r x y Q
def rUn (r : T → (T → Prop) → Prop) (ra : TR) : TR := fun env Q => ra env fun x => r x Q
/-- what an operation on values is worth on trees -/
def tR2 (K : PySem.W.Frag) (r : T → T → (T → Prop) → Prop) : R2 := fun x y H Q => ∃ (W Zt Zc : Addr → Prop) (tx ty : T) (Qt : T → Prop), WOk W H ∧ (∀ a, Zc a → ∃ o, H a = some o) ∧ RpO K W Zt Zc H x tx ∧ RpO K W Zt Zc H y ty ∧ r tx ty Qt ∧
  ∀ u, Qt u → ∀ v H' W', Step W H W' H' → RpO K W' Zc Zc H' v u → Q v H'
section
variable {X : Cx} {own : List Nat} {a b : Expr} {ra rb : TR} {c1 t1 c2 t2 : Bool} {pos : Pos}
theorem rOp_ok {K : PySem.W.Frag} {r : T → T → (T → Prop) → Prop} {σ : St} {H : Hp} {Q : VK} (h : liftE K own (c1 && c2) (c1 && c2) (rOp r ra rb) σ H Q) :
    tOp (tR2 K r) (liftE K own c1 t1 ra) (liftE K own c2 t2 rb) σ H Q := by
  obtain ⟨W, Z, env, Qt, R, h, k⟩ := h
  refine ⟨W, Z, env, _, R, h, fun u hu v H1 W1 s1 p1 => ⟨W1, Z, env, _, R.step s1, hu, fun u2 hu2 v2 H2 W2 s2 p2 => ?_⟩⟩
  have R2 := (R.step s1).step s2
  refine ⟨W2, Z, ZZ own σ Z (c1 && c2), u, u2, Qt, s2.ok, R2.zzx _, (p1.step s1.ok s2).mono ZZ.z (ZZ.le fun e => (Bool.and_eq_true_iff.mp e).1), p2.mono ZZ.z (ZZ.le fun e => (Bool.and_eq_true_iff.mp e).2), hu2, fun u3 hu3 v3 H3 W3 s3 p3 => ?_⟩
  exact k u3 hu3 v3 H3 W3 ((s1.trans s2).trans s3) p3
theorem et_op {op : Operator} {r : T → T → (T → Prop) → Prop} (ho : OpR X (binaryOp op) (tR2 X.K r)) (ha : PEt X own c1 t1 a ra) (hb : PEt X own c2 t2 b rb) :
    PEt X own (c1 && c2) (c1 && c2) (.BinOp a op b pos) (rOp r ra rb) := ⟨peImp (pe_op ho ha.pe hb.pe) fun _ _ _ h => rOp_ok h⟩
theorem et_cmp {op : CmpOp} {r : T → T → (T → Prop) → Prop} (ho : OpR X (compareOp op) (tR2 X.K r)) (ha : PEt X own c1 t1 a ra) (hb : PEt X own c2 t2 b rb) (hm : behindInMarks op b = false) :
    PEt X own (c1 && c2) (c1 && c2) (.Compare a [op] [b] pos) (rOp r ra rb) := ⟨peImp (pe_cmpR ho ha.pe hb.pe hm) fun _ _ _ h => rOp_ok h⟩
/-- a comparison as a test -/
def bOp (r : T → T → (T → Prop) → Prop) (ra rb : TR) : TB := fun env Q => rOp r ra rb env fun u => ∃ b, u = .bl b ∧ Q b
theorem bt_cmp {op : CmpOp} {r : T → T → (T → Prop) → Prop} (ho : OpR X (compareOp op) (tR2 X.K r)) (ha : PEt X own c1 t1 a ra) (hb : PEt X own c2 t2 b rb) (hm : behindInMarks op b = false) :
    PTt X own (.Compare a [op] [b] pos) (bOp r ra rb) := by
  refine ⟨ptImp (pt_cmpR ho ha.pe hb.pe hm) fun σ H Q h => ?_⟩
  obtain ⟨W, Z, env, Qt, R, h, k⟩ := h
  refine rOp_ok ⟨W, Z, env, _, R, h, fun u hu v H' W' s p => ?_⟩
  obtain ⟨b', rfl, q⟩ := hu
  cases p
  exact ⟨b', rfl, k _ q H' W' s⟩
theorem et_un {op : UnaryOp} {r : V → Hp → VK → Prop} {f : T → (T → Prop) → Prop} (ho : UnR X (unaryOp op) r)
    (hr : ∀ {W Z : Addr → Prop} {H : Hp} {v : V} {u : T} {Qt : T → Prop} {Q : VK}, WOk W H → Rp X.K W Z H v u → f u Qt → (∀ u', Qt u' → ∀ v', Rp X.K W (fun _ => True) H v' u' → Q v' H) → r v H Q) (ha : PEt X own c1 t1 a ra) :
    PEt X own true true (.UnaryOp op a pos) (rUn f ra) := by
  refine ⟨peImp (pe_un ho ha.pe) fun σ H Q h => ?_⟩
  obtain ⟨W, Z, env, Qt, R, h, k⟩ := h
  refine ⟨W, Z, env, _, R, h, fun u hu v H1 W1 s1 p1 => hr s1.ok ((p1.mono (Zt' := Z) (Zc' := Z) ZZ.z ZZ.z).rp) hu fun u' hu' v' p' => k u' hu' v' H1 W1 s1 (.of (p'.mono fun _ _ => trivial))⟩
end

/-! ### what the operators are worth on trees -/
def lim : Nat := 16777216
def MulOk (i j : Int) : Prop := IntMulOk i j
def DivOk (_i j : Int) : Prop := j ≠ 0
def oAdd : T → T → (T → Prop) → Prop
  | .int i, .int j, Q => Q (.int (i + j))
  | .tup xs, .tup ys, Q => xs.length + ys.length ≤ lim ∧ Q (.tup (xs ++ ys))
  | .lst xs, .lst ys, Q => xs.length + ys.length ≤ lim ∧ Q (.lst (xs ++ ys))
  | _, _, _ => False
def oSub : T → T → (T → Prop) → Prop
  | .int i, .int j, Q => Q (.int (i - j))
  | _, _, _ => False
def oMul : T → T → (T → Prop) → Prop
  | .int i, .int j, Q => MulOk i j ∧ Q (.int (i * j))
  | .lst xs, .int k, Q => -(2 ^ 63) ≤ k ∧ k < 2 ^ 63 ∧ xs.length * k.toNat ≤ lim ∧ Q (.lst (List.replicate k.toNat xs).flatten)
  | _, _, _ => False
def oFdiv : T → T → (T → Prop) → Prop
  | .int i, .int j, Q => DivOk i j ∧ Q (.int (i.fdiv j))
  | _, _, _ => False
def oMod : T → T → (T → Prop) → Prop
  | .int i, .int j, Q => j ≠ 0 ∧ Q (.int (i.fmod j))
  | _, _, _ => False
def oPow : T → T → (T → Prop) → Prop
  | .int i, .int j, Q => (0 ≤ j ∧ j ≤ 1000000 ∧ i.natAbs < 2 ^ 64) ∧ Q (.int (i ^ j.toNat))
  | _, _, _ => False
def oLt : T → T → (T → Prop) → Prop
  | .int i, .int j, Q => Q (.bl (decide (i < j)))
  | _, _, _ => False
def oLe : T → T → (T → Prop) → Prop
  | .int i, .int j, Q => Q (.bl (decide (i ≤ j)))
  | _, _, _ => False
def oGt : T → T → (T → Prop) → Prop
  | .int i, .int j, Q => Q (.bl (decide (j < i)))
  | _, _, _ => False
def oGe : T → T → (T → Prop) → Prop
  | .int i, .int j, Q => Q (.bl (decide (j ≤ i)))
  | _, _, _ => False
mutual
def T.toD : T → PyData
  | .non | .wel | .scr _ | .d0 | .d1 _ _ => .none
  | .bl b => .bool b
  | .int i => .int i
  | .str x => .str x
  | .tup ts => .tuple (toDs ts)
  | .lst ts => .list (toDs ts)
def toDs : List T → List PyData
  | [] => []
  | t :: ts => t.toD :: toDs ts
end
mutual
/-- none, bools, ints, texts, tuples and lists of such -/
def T.data : T → Bool
  | .non | .bl _ | .int _ | .str _ => true
  | .wel | .scr _ | .d0 | .d1 _ _ => false
  | .tup ts | .lst ts => datas ts
def datas : List T → Bool
  | [] => true
  | t :: ts => t.data && datas ts
end
/-- two things may be compared with == -/
structure EqOk (x y : T) : Prop where
  dx : x.data = true
  dy : y.data = true
  sx : SeqAt.shaped x.toD = true
  sy : SeqAt.shaped y.toD = true
def eqT (x y : T) : Bool := PyData.eqv x.toD y.toD
def oEq (x y : T) (Q : T → Prop) : Prop := EqOk x y ∧ Q (.bl (eqT x y))
def oNe (x y : T) (Q : T → Prop) : Prop := EqOk x y ∧ Q (.bl (!eqT x y))
section
variable {K : PySem.W.Frag} {W Z : Addr → Prop} {H : Hp}
mutual
theorem Rp.dp : ∀ {t : T} {v : V}, Rp K W Z H v t → t.data = true → Dp K H v t.toD
  | .non, _, h, _ => by cases h; exact .non
  | .bl _, _, h, _ => by cases h; exact .bl _
  | .int _, _, h, _ => by cases h; exact .int _
  | .str _, _, h, _ => by cases h; exact .str _
  | .tup ts, _, h, e => by cases h with | tup q r => exact .tup q (RpA.dp r (by simpa [T.data] using e))
  | .lst ts, _, h, e => by cases h with | lst a b q r => exact .lst (.inl (.inl q)) (RpA.dp r (by simpa [T.data] using e))
  | .wel, _, _, e => by simp [T.data] at e
  | .scr _, _, _, e => by simp [T.data] at e
  | .d0, _, _, e => by simp [T.data] at e
  | .d1 _ _, _, _, e => by simp [T.data] at e
theorem RpA.dp : ∀ {ts : List T} {vs : List V}, RpA K W Z H vs ts → datas ts = true → DpAll K H vs (toDs ts)
  | [], _, h, _ => by cases h; exact .nil
  | t :: ts, _, h, e => by
    cases h with
    | cons a b =>
      rw [datas, Bool.and_eq_true] at e
      exact .cons (Rp.dp a e.1) (RpA.dp b e.2)
end
end
section
variable {X : Cx} {pins : List (Addr × Obj)} {s : Shared} {σ : St} {H : Hp}
theorem RpO.weak {K : PySem.W.Frag} {W Zt Zc : Addr → Prop} {H : Hp} {v : V} {t : T} (h : RpO K W Zt Zc H v t) : Rp K W No H v t :=
  (h.mono (Zt' := No) (Zc' := No) (fun _ z => z.elim) fun _ z => z.elim).rp
theorem fit : sizeLine = lim := by rw [sizeLine_eq]; rfl
theorem RpO.tupI {K : PySem.W.Frag} {W Zt Zc : Addr → Prop} {H : Hp} {v : V} {ts : List T} (h : RpO K W Zt Zc H v (.tup ts)) : ∃ a xs, v = .ref a ∧ SqT K H a xs ∧ RpA K W Zc H xs ts := by
  cases h with | tup q r => exact ⟨_, _, rfl, q, r⟩
theorem RpO.tupM {K : PySem.W.Frag} {W Zt Zc Z' : Addr → Prop} {H : Hp} {v : V} {ts : List T} (h : RpO K W Zt Zc H v (.tup ts)) : RpO K W Z' Zc H v (.tup ts) := h
/-- a new tuple, a new list -/
theorem putTup {K : PySem.W.Frag} {W Zc : Addr → Prop} {H : Hp} {p : Addr} {xs : List V} {ts : List T} (w : WOk W H) (hp : H p = none) (r : RpA K W Zc H xs ts) :
    Step W H W (upd H p (.tup xs)) ∧ RpO K W Zc Zc (upd H p (.tup xs)) (.ref p) (.tup ts) :=
  ⟨Step.put w hp, .of (.tup (.inl (.inl upd_same)) (r.step w (Step.put w hp)))⟩
theorem putLst {K : PySem.W.Frag} {W Zc : Addr → Prop} {H : Hp} {p : Addr} {xs : List V} {ts : List T} (w : WOk W H) (zx : ∀ a, Zc a → ∃ o, H a = some o) (hp : H p = none) (r : RpA K W Zc H xs ts) :
    Step W H W (upd H p (.lst xs)) ∧ RpO K W Zc Zc (upd H p (.lst xs)) (.ref p) (.lst ts) := by
  refine ⟨Step.put w hp, p, xs, rfl, upd_same, fun z => ?_, fun z => ?_, r.step w (Step.put w hp)⟩
  · obtain ⟨_, _, _, e⟩ := w p z
    rw [hp] at e; cases e
  · obtain ⟨_, e⟩ := zx p z
    rw [hp] at e; cases e
theorem o_add : OpR X (binaryOp .Add) (tR2 X.K oAdd) := by
  intro pins s σ H x y
  intro v u Q I rx ry h
  obtain ⟨W, Zt, Zc, tx, ty, Qt, w, zx, p1, p2, h, k⟩ := h
  match tx, ty, h with
  | .int i, .int j, h =>
    cases p1; cases p2
    exact op_add pins s σ H _ _ v u Q I rx ry ⟨i, j, rfl, rfl, k _ h _ H W (.refl w) (.of (.int _))⟩
  | .tup xs, .tup ys, ⟨hl, h⟩ =>
    obtain ⟨a, xs', rfl, q1, r1⟩ := p1.tupI
    obtain ⟨b, ys', rfl, q2, r2⟩ := p2.tupI
    refine op_catA pins s σ H _ _ v u Q I rx ry ⟨_, _, _, _, rfl, rfl, q1, q2, by rw [r1.length, r2.length, fit]; exact hl, fun e => ?_, fun _ e => ?_, fun _ _ p hp => ?_⟩
    · subst e
      cases r1
      exact k _ h _ H W (.refl w) p2.tupM
    · subst e
      cases r2
      rw [List.append_nil] at h
      exact k _ h _ H W (.refl w) p1.tupM
    · obtain ⟨z1, z2⟩ := putTup w hp (r1.app r2)
      exact k _ h _ _ W z1 z2
  | .lst xs, .lst ys, ⟨hl, h⟩ =>
    obtain ⟨a, xs', rfl, q1, w1, z1, r1⟩ := p1
    obtain ⟨b, ys', rfl, q2, w2, z2, r2⟩ := p2
    refine op_cat pins s σ H _ _ v u Q I rx ry ⟨_, _, _, _, rfl, rfl, q1, q2, by rw [r1.length, r2.length, fit]; exact hl, fun p hp => ?_⟩
    obtain ⟨z1, z2⟩ := putLst w zx hp (r1.app r2)
    exact k _ h _ _ W z1 z2
/-- two ints in, an int or a bool out -/
theorem o_ints {f : Value → Value → Sem Value} {r : T → T → (T → Prop) → Prop} {C : Int → Int → Prop} {g : Int → Int → V} {gT : Int → Int → T} (hf : OpR X f (rI C g))
    (hr : ∀ tx ty Qt, r tx ty Qt → ∃ i j, tx = .int i ∧ ty = .int j ∧ C i j ∧ Qt (gT i j)) (hg : ∀ (i j : Int) (W Z : Addr → Prop) (H : Hp), RpO X.K W Z Z H (g i j) (gT i j)) : OpR X f (tR2 X.K r) := by
  intro pins s σ H x y
  intro v u Q I rx ry h
  obtain ⟨W, Zt, Zc, tx, ty, Qt, w, zx, p1, p2, h, k⟩ := h
  obtain ⟨i, j, rfl, rfl, c, q⟩ := hr _ _ _ h
  cases p1; cases p2
  exact hf pins s σ H _ _ v u Q I rx ry ⟨i, j, rfl, rfl, c, k _ q _ H W (.refl w) (hg _ _ _ _ _)⟩
theorem rI_of0 {f : Value → Value → Sem Value} {g : Int → Int → V} (h : OpR X f (rI0 g)) : OpR X f (rI (fun _ _ => True) g) :=
  fun pins s σ H x y v u Q I rx ry ⟨i, j, a, b, _, q⟩ => h pins s σ H x y v u Q I rx ry ⟨i, j, a, b, q⟩
theorem o_sub : OpR X (binaryOp .Sub) (tR2 X.K oSub) := o_ints (rI_of0 op_sub) (gT := fun i j => .int (i - j)) (fun tx ty Qt h => by
  match tx, ty, h with
  | .int i, .int j, h => exact ⟨i, j, rfl, rfl, trivial, h⟩) fun _ _ _ _ _ => .of (.int _)
theorem o_pow : OpR X (binaryOp .Pow) (tR2 X.K oPow) := o_ints op_pow (gT := fun i j => .int (i ^ j.toNat)) (fun tx ty Qt h => by
  match tx, ty, h with
  | .int i, .int j, h => exact ⟨i, j, rfl, rfl, h.1, h.2⟩) fun _ _ _ _ _ => .of (.int _)
theorem o_mod : OpR X (binaryOp .Mod) (tR2 X.K oMod) := o_ints op_modN (gT := fun i j => .int (i.fmod j)) (fun tx ty Qt h => by
  match tx, ty, h with
  | .int i, .int j, h => exact ⟨i, j, rfl, rfl, h.1, h.2⟩) fun _ _ _ _ _ => .of (.int _)
/-- nobody looks where a division of great numbers goes its long way -/
structure NoPy (base : Heap) (P : Program) (A : Around) (st : List Env) : Prop where
  seer : base.NoSeer
  tree : P.given.tree = none
  depth : A.depth + 100 < 1000
  env : ∃ e l, st = e :: l ∧ e.scope.isGenerator = false ∧ e.scope.isCoroutine = false ∧ e.builtins = builtinsNs ∧ e.globals = mainGlobals
theorem NoPy.room (h : NoPy X.base X.prog X.A X.stack) (I : Inv X pins σ H s) : PylongRoom (model X.prog X.w) X.A s := by
  obtain ⟨e, l, hs, g1, g2, g3, g4⟩ := h.env
  exact PylongRoom.of I.nolimit h.depth (SeerAt.of (h.seer.keeps I.bk) h.tree (by rw [I.ok.frames, hs]) g1 g2 g3 g4)
theorem o_fdiv (hp : NoPy X.base X.prog X.A X.stack) : OpR X (binaryOp .FloorDiv) (tR2 X.K oFdiv) := by
  intro pins s σ H x y
  intro v u Q I rx ry h
  obtain ⟨W, Zt, Zc, tx, ty, Qt, w, zx, p1, p2, h, k⟩ := h
  match tx, ty, h with
  | .int i, .int j, ⟨h0, h⟩ =>
    cases p1; cases p2
    obtain ⟨t, rfl⟩ := rx
    obtain ⟨t', rfl⟩ := ry
    exact floordiv_int h0 ⟨.int _, H, I.tok _, ⟨_, rfl⟩, k _ h _ H W (.refl w) (.of (.int _))⟩ (.inr (hp.room I))
theorem o_lt : OpR X (compareOp .Lt) (tR2 X.K oLt) := o_ints (rI_of0 op_lt) (gT := fun i j => .bl (decide (i < j))) (fun tx ty Qt h => by
  match tx, ty, h with
  | .int i, .int j, h => exact ⟨i, j, rfl, rfl, trivial, h⟩) fun _ _ _ _ _ => .of (.bl _)
theorem o_le : OpR X (compareOp .LtE) (tR2 X.K oLe) := o_ints (rI_of0 op_le) (gT := fun i j => .bl (decide (i ≤ j))) (fun tx ty Qt h => by
  match tx, ty, h with
  | .int i, .int j, h => exact ⟨i, j, rfl, rfl, trivial, h⟩) fun _ _ _ _ _ => .of (.bl _)
theorem o_gt : OpR X (compareOp .Gt) (tR2 X.K oGt) := o_ints (rI_of0 op_gt) (gT := fun i j => .bl (decide (j < i))) (fun tx ty Qt h => by
  match tx, ty, h with
  | .int i, .int j, h => exact ⟨i, j, rfl, rfl, trivial, h⟩) fun _ _ _ _ _ => .of (.bl _)
theorem o_ge : OpR X (compareOp .GtE) (tR2 X.K oGe) := o_ints (rI_of0 op_ge) (gT := fun i j => .bl (decide (j ≤ i))) (fun tx ty Qt h => by
  match tx, ty, h with
  | .int i, .int j, h => exact ⟨i, j, rfl, rfl, trivial, h⟩) fun _ _ _ _ _ => .of (.bl _)
theorem o_mul : OpR X (binaryOp .Mult) (tR2 X.K oMul) := by
  intro pins s σ H x y
  intro v u Q I rx ry h
  obtain ⟨W, Zt, Zc, tx, ty, Qt, w, zx, p1, p2, h, k⟩ := h
  match tx, ty, h with
  | .int i, .int j, ⟨hc, h⟩ =>
    cases p1; cases p2
    obtain ⟨t, rfl⟩ := rx
    obtain ⟨t', rfl⟩ := ry
    exact mul_int ⟨.int _, H, I.tok _, ⟨_, rfl⟩, k _ h _ H W (.refl w) (.of (.int _))⟩ hc
  | .lst xs, .int j, ⟨h1, h2, h3, h⟩ =>
    obtain ⟨a, xs', rfl, q1, w1, z1, r1⟩ := p1
    cases p2
    refine op_rep pins s σ H _ _ v u Q I rx ry ⟨_, _, _, rfl, rfl, q1, h1, h2, by rw [r1.length, fit]; exact h3, fun p hp => ?_⟩
    obtain ⟨z1, z2⟩ := putLst w zx hp (r1.rep j.toNat)
    exact k _ h _ _ W z1 z2
theorem o_eq (hu : X.A.units + 64 < cLine) : OpR X (compareOp .Eq) (tR2 X.K oEq) := by
  intro pins s σ H x y
  intro v u Q I rx ry h
  obtain ⟨W, Zt, Zc, tx, ty, Qt, w, zx, p1, p2, ⟨e, h⟩, k⟩ := h
  exact op_eqD hu pins s σ H x y v u Q I rx ry ⟨_, _, p1.weak.dp e.dx, p2.weak.dp e.dy, e.sx, e.sy, k _ h _ H W (.refl w) (.of (.bl _))⟩
theorem o_ne (hu : X.A.units + 64 < cLine) : OpR X (compareOp .NotEq) (tR2 X.K oNe) := by
  intro pins s σ H x y
  intro v u Q I rx ry h
  obtain ⟨W, Zt, Zc, tx, ty, Qt, w, zx, p1, p2, ⟨e, h⟩, k⟩ := h
  exact op_neD hu pins s σ H x y v u Q I rx ry ⟨_, _, p1.weak.dp e.dx, p2.weak.dp e.dy, e.sx, e.sy, k _ h _ H W (.refl w) (.of (.bl _))⟩
def isNon : T → Bool
  | .non => true
  | _ => false
def oIs (x y : T) (Q : T → Prop) : Prop := y = .non ∧ Q (.bl (isNon x))
def oIsNot (x y : T) (Q : T → Prop) : Prop := y = .non ∧ Q (.bl (!isNon x))
theorem RpO.isNon {K : PySem.W.Frag} {W Zt Zc : Addr → Prop} {H : Hp} {v : V} {t : T} (h : RpO K W Zt Zc H v t) : decide (v = V.non) = isNon t := by
  have h := h.weak
  cases h <;> rfl
theorem o_is : OpR X (compareOp .Is) (tR2 X.K oIs) := by
  intro pins s σ H x y
  intro v u Q I rx ry h
  obtain ⟨W, Zt, Zc, tx, ty, Qt, w, zx, p1, p2, ⟨rfl, h⟩, k⟩ := h
  cases p2
  refine op_isN pins s σ H x _ v u Q I rx ry ⟨rfl, ?_⟩
  rw [p1.isNon]
  exact k _ h _ H W (.refl w) (.of (.bl _))
theorem o_isNot : OpR X (compareOp .IsNot) (tR2 X.K oIsNot) := by
  intro pins s σ H x y
  intro v u Q I rx ry h
  obtain ⟨W, Zt, Zc, tx, ty, Qt, w, zx, p1, p2, ⟨rfl, h⟩, k⟩ := h
  cases p2
  refine op_notN pins s σ H x _ v u Q I rx ry ⟨rfl, ?_⟩
  rw [p1.isNon]
  exact k _ h _ H W (.refl w) (.of (.bl _))
end

/-! ### - a, not a, and, or, if else -/
def uNeg : T → (T → Prop) → Prop
  | .int i, Q => Q (.int (-i))
  | _, _ => False
section
variable {X : Cx} {own : List Nat} {a b cc : Expr} {ra rb : TR} {rc rd : TB} {c1 t1 c2 t2 : Bool} {pos : Pos} {rest : List Expr}
theorem et_neg (ha : PEt X own c1 t1 a ra) : PEt X own true true (.UnaryOp .USub a pos) (rUn uNeg ra) := et_un un_neg (fun {W Z H v u Qt Q} w p h k => by
  match u, h with
  | .int i, h =>
    cases p
    exact ⟨i, rfl, k _ h _ (.int _)⟩) ha
/-- a test from a value that is True or False -/
def bVal (r : TR) : TB := fun env Q => r env fun u => ∃ b, u = .bl b ∧ Q b
theorem bt_val (h : PEt X own c1 t1 a ra) (he : ∀ whole, isTrue a X.env whole = (do let v ← whole; standAt a.pos; holding [v] (truthy v)) := by intro _; rfl) : PTt X own a (bVal ra) := by
  refine ⟨ptImp (pt_val h.pe he) fun σ H Q q => ?_⟩
  obtain ⟨W, Z, env, Qt, R, q, k⟩ := q
  refine ⟨W, Z, env, _, R, q, fun u hu v H' W' s p => ?_⟩
  obtain ⟨b, rfl, q⟩ := hu
  cases p
  exact ⟨b, rfl, k _ q H' W' s⟩
def bNot (r : TB) : TB := fun env Q => r env fun b => Q (!b)
theorem bt_not (h : PTt X own a rc) : PTt X own (.UnaryOp .Not a pos) (bNot rc) := by
  refine ⟨ptImp (pt_not h.pt) fun σ H Q q => ?_⟩
  obtain ⟨W, Z, env, Qt, R, q, k⟩ := q
  exact ⟨W, Z, env, _, R, q, fun u hu H' W' s => k _ hu H' W' s⟩
/-- and, or as tests -/
structure PWt (X : Cx) (own : List Nat) (e : Expr) (r : TB) : Prop where
  pw : PW X e (liftB X.K own r)
theorem pwImp {X : Cx} {e : Expr} {t t' : TT} (h : PW X e t) (i : ∀ σ H Q, t' σ H Q → t σ H Q) : PW X e t' := ⟨fun wh pins s σ H Q I q => h.run wh pins s σ H Q I (i _ _ _ q)⟩
def bAnd (r u : TB) : TB := fun env Q => r env fun b => if b = true then u env Q else Q false
def bOr (r u : TB) : TB := fun env Q => r env fun b => if b = true then Q true else u env Q
theorem bw_and1 (h : PTt X own a rc) : PWt X own (.BoolOp .And [a] pos) rc := ⟨pw_and1 h.pt⟩
theorem bw_or1 (h : PTt X own a rc) : PWt X own (.BoolOp .Or [a] pos) rc := ⟨pw_or1 h.pt⟩
theorem bw_and (h : PTt X own a rc) (h2 : PWt X own (.BoolOp .And (b :: rest) pos) rd) : PWt X own (.BoolOp .And (a :: b :: rest) pos) (bAnd rc rd) := by
  refine ⟨pwImp (pw_and h.pt h2.pw) fun σ H Q q => ?_⟩
  obtain ⟨W, Z, env, Qt, R, q, k⟩ := q
  refine ⟨W, Z, env, _, R, q, fun b hb H' W' s => ?_⟩
  cases b with
  | true => exact iteT ⟨W', Z, env, _, R.step s, by simpa using hb, fun b2 hb2 H2 W2 s2 => k _ hb2 H2 W2 (s.trans s2)⟩
  | false => exact iteF (k _ (by simpa using hb) H' W' s)
theorem bw_or (h : PTt X own a rc) (h2 : PWt X own (.BoolOp .Or (b :: rest) pos) rd) : PWt X own (.BoolOp .Or (a :: b :: rest) pos) (bOr rc rd) := by
  refine ⟨pwImp (pw_or h.pt h2.pw) fun σ H Q q => ?_⟩
  obtain ⟨W, Z, env, Qt, R, q, k⟩ := q
  refine ⟨W, Z, env, _, R, q, fun b hb H' W' s => ?_⟩
  cases b with
  | true => exact iteT (k _ (by simpa using hb) H' W' s)
  | false => exact iteF ⟨W', Z, env, _, R.step s, by simpa using hb, fun b2 hb2 H2 W2 s2 => k _ hb2 H2 W2 (s.trans s2)⟩
theorem bt_w (h : PWt X own a rc) : PTt X own a rc := ⟨h.pw.pt⟩
/-- and, or as values: all but the last True or False -/
def rAnd (ra rb : TR) : TR := fun env Q => ra env fun u => ∃ b, u = .bl b ∧ if b = true then rb env Q else Q (.bl false)
def rOr (ra rb : TR) : TR := fun env Q => ra env fun u => ∃ b, u = .bl b ∧ if b = true then Q (.bl true) else rb env Q
theorem et_one {op : BoolOp} (h : PEt X own c1 t1 a ra) : PEt X own c1 t1 (.BoolOp op [a] pos) ra := ⟨pe_one h.pe⟩
theorem et_and (ha : PEt X own c1 t1 a ra) (hb : PEt X own c2 t2 (.BoolOp .And (b :: rest) pos) rb) : PEt X own c2 t2 (.BoolOp .And (a :: b :: rest) pos) (rAnd ra rb) := by
  refine ⟨peImp (pe_and ha.pe hb.pe) fun σ H Q q => ?_⟩
  obtain ⟨W, Z, env, Qt, R, q, k⟩ := q
  refine ⟨W, Z, env, _, R, q, fun u hu v H' W' s p => ?_⟩
  obtain ⟨b, rfl, hb⟩ := hu
  cases p
  refine ⟨b, rfl, ?_⟩
  cases b with
  | true => exact iteT ⟨W', Z, env, _, R.step s, by simpa using hb, fun b2 hb2 v2 H2 W2 s2 p2 => k _ hb2 v2 H2 W2 (s.trans s2) p2⟩
  | false => exact iteF (k _ (by simpa using hb) _ H' W' s (by exact Rp.bl _))
theorem et_or (ha : PEt X own c1 t1 a ra) (hb : PEt X own c2 t2 (.BoolOp .Or (b :: rest) pos) rb) : PEt X own c2 t2 (.BoolOp .Or (a :: b :: rest) pos) (rOr ra rb) := by
  refine ⟨peImp (pe_or ha.pe hb.pe) fun σ H Q q => ?_⟩
  obtain ⟨W, Z, env, Qt, R, q, k⟩ := q
  refine ⟨W, Z, env, _, R, q, fun u hu v H' W' s p => ?_⟩
  obtain ⟨b, rfl, hb⟩ := hu
  cases p
  refine ⟨b, rfl, ?_⟩
  cases b with
  | true => exact iteT (k _ (by simpa using hb) _ H' W' s (by exact Rp.bl _))
  | false => exact iteF ⟨W', Z, env, _, R.step s, by simpa using hb, fun b2 hb2 v2 H2 W2 s2 p2 => k _ hb2 v2 H2 W2 (s.trans s2) p2⟩
def rNot (ra : TR) : TR := fun env Q => ra env fun u => ∃ b, u = .bl b ∧ Q (.bl (!b))
theorem et_not (ha : PEt X own c1 t1 a ra) : PEt X own true true (.UnaryOp .Not a pos) (rNot ra) := by
  refine ⟨peImp (pe_not ha.pe) fun σ H Q q => ?_⟩
  obtain ⟨W, Z, env, Qt, R, q, k⟩ := q
  refine ⟨W, Z, env, _, R, q, fun u hu v H' W' s p => ?_⟩
  obtain ⟨b, rfl, hb⟩ := hu
  cases p
  exact ⟨b, rfl, k _ hb _ H' W' s (.of (.bl _))⟩
def rIf (r : TB) (ra rb : TR) : TR := fun env Q => r env fun b => if b = true then ra env Q else rb env Q
theorem et_if (hc : PTt X own cc rc) (ha : PEt X own c1 t1 a ra) (hb : PEt X own c1 t1 b rb) : PEt X own c1 t1 (.IfExp cc a b pos) (rIf rc ra rb) := by
  refine ⟨peImp (pe_ifExp hc.pt ha.pe hb.pe) fun σ H Q q => ?_⟩
  obtain ⟨W, Z, env, Qt, R, q, k⟩ := q
  refine ⟨W, Z, env, _, R, q, fun b hb H' W' s => ?_⟩
  cases b with
  | true => exact iteT ⟨W', Z, env, _, R.step s, by simpa using hb, fun b2 hb2 v2 H2 W2 s2 p2 => k _ hb2 v2 H2 W2 (s.trans s2) p2⟩
  | false => exact iteF ⟨W', Z, env, _, R.step s, by simpa using hb, fun b2 hb2 v2 H2 W2 s2 p2 => k _ hb2 v2 H2 W2 (s.trans s2) p2⟩
/-- fewer promises about what it keeps clear of -/
theorem et_less (h : PEt X own c1 t1 a ra) {c t : Bool} (hc : c = true → c1 = true) (ht : t = true → t1 = true) : PEt X own c t a ra := by
  refine ⟨peImp h.pe fun σ H Q q => ?_⟩
  obtain ⟨W, Z, env, Qt, R, q, k⟩ := q
  exact ⟨W, Z, env, Qt, R, q, fun u hu v H' W' s p => k u hu v H' W' s (p.mono (ZZ.le ht) (ZZ.le hc))⟩
/-- what holds no list keeps clear of all -/
def rPure (ra : TR) : TR := fun env Q => ra env fun u => u.noL = true ∧ Q u
theorem et_pure (h : PEt X own c1 t1 a ra) : PEt X own true true a (rPure ra) := by
  refine ⟨peImp h.pe fun σ H Q q => ?_⟩
  obtain ⟨W, Z, env, Qt, R, q, k⟩ := q
  exact ⟨W, Z, env, _, R, q, fun u hu v H' W' s p => k u hu.2 v H' W' s (.of (p.weak.noL hu.1))⟩
/-- a < b < c -/
def rChain (r r' : T → T → (T → Prop) → Prop) (ra rb rc : TR) : TR := fun env Q => ra env fun x => rb env fun y => r x y fun z => ∃ k, z = .bl k ∧ if k = true then rc env fun u => r' y u Q else Q (.bl false)
theorem et_chain {op op' : CmpOp} {c : Expr} {rc : TR} {c3 t3 : Bool} {r r' : T → T → (T → Prop) → Prop} (ho : OpR X (compareOp op) (tR2 X.K r)) (ho' : OpR X (compareOp op') (tR2 X.K r')) (ha : PEt X own c1 t1 a ra) (hb : PEt X own c2 t2 b rb) (hc : PEt X own c3 t3 c rc)
    (hm : lastMarks [op, op'] [b, c] = false := by with_unfolding_all rfl) : PEt X own false false (.Compare a [op, op'] [b, c] pos) (rChain r r' ra rb rc) := by
  refine ⟨peImp (pe_chain ho ho' ha.pe hb.pe hc.pe hm) fun σ H Q h => ?_⟩
  obtain ⟨W, Z, env, Qt, R, h, k⟩ := h
  refine ⟨W, Z, env, _, R, h, fun u hu v H1 W1 s1 p1 => ⟨W1, Z, env, _, R.step s1, hu, fun u2 hu2 v2 H2 W2 s2 p2 => ?_⟩⟩
  have p1' := (p1.step s1.ok s2).mono (Zt' := Z) (Zc' := Z) ZZ.z ZZ.z
  have p2' := p2.mono (Zt' := Z) (Zc' := Z) ZZ.z ZZ.z
  refine ⟨W2, Z, Z, u, u2, _, s2.ok, ((R.step s1).step s2).zx, p1', p2', hu2, fun u3 hu3 v3 H3 W3 s3 p3 => ?_⟩
  obtain ⟨kk, rfl, q⟩ := hu3
  cases p3
  refine ⟨kk, rfl, ?_⟩
  cases kk with
  | false => exact iteF (k _ (by simpa using q) _ H3 W3 ((s1.trans s2).trans s3) (by exact Rp.bl _))
  | true =>
    refine iteT ⟨W3, Z, env, _, ((R.step s1).step s2).step s3, by simpa using q, fun u4 hu4 v4 H4 W4 s4 p4 => ?_⟩
    refine ⟨W4, Z, Z, u2, u4, Qt, s4.ok, (((R.step s1).step s2).step s3 |>.step s4).zx, (p2'.step s2.ok s3).step s3.ok s4, p4.mono (Zt' := Z) (Zc' := Z) ZZ.z ZZ.z, hu4, fun u5 hu5 v5 H5 W5 s5 p5 => ?_⟩
    exact k u5 hu5 v5 H5 W5 ((((s1.trans s2).trans s3).trans s4).trans s5) (p5.mono ZZ.f ZZ.f)
end
end Tw

namespace Tw
open PySem
open PySem.Spec PyProof.Rows L2
section
variable {X : Cx} {own : List Nat} {a b : Expr} {ra rb : TR} {c1 t1 c2 t2 : Bool} {pos : Pos}
theorem RpO.parts {K : PySem.W.Frag} {W Zt Zc : Addr → Prop} {H : Hp} {v : V} {ts : List T} (h : RpO K W Zt Zc H v (.lst ts)) : ∃ a xs, v = .ref a ∧ H a = some (.lst xs) ∧ ¬ W a ∧ ¬ Zt a ∧ RpA K W Zc H xs ts := h
theorem RpA.atI {K : PySem.W.Frag} {W Z : Addr → Prop} {H : Hp} {vs : List V} {ts : List T} {i : Int} {t : T} (r : RpA K W Z H vs ts) (h : atI ts i = some t) : ∃ v, L2.atI vs i = some v ∧ Rp K W Z H v t := by
  unfold L2.atI at h ⊢
  rw [r.length]
  cases e : ixN ts.length i with
  | none =>
    rw [e] at h; cases h
  | some j =>
    rw [e] at h
    obtain ⟨v, h1, h2⟩ := r.get (i := j) h
    exact ⟨v, h1, h2⟩
/-! ### a[i] -/
def oIx : T → T → (T → Prop) → Prop
  | .lst ts, .int i, Q => ∃ t, atI ts i = some t ∧ Q t
  | .tup ts, .int i, Q => ∃ t, atI ts i = some t ∧ Q t
  | _, _, _ => False
theorem ix_t : IxR X (tR2 X.K oIx) := by
  intro va sl pins s σ H x y v u Q I rx ry h hs
  obtain ⟨W, Zt, Zc, tx, ty, Qt, w, zx, p1, p2, h, k⟩ := h
  match tx, ty, h with
  | .lst xs, .int i, ⟨t, e, h⟩ =>
    obtain ⟨a, xs', rfl, q1, w1, z1, r1⟩ := p1.parts
    cases p2
    obtain ⟨v', e', p⟩ := r1.atI e
    exact ix_list va sl pins s σ H _ _ v u Q I rx ry ⟨_, _, _, _, rfl, rfl, .of q1, e', k _ h _ H W (.refl w) (.of p)⟩ hs
  | .tup xs, .int i, ⟨t, e, h⟩ =>
    obtain ⟨a, xs', rfl, q1, r1⟩ := p1.tupI
    cases p2
    obtain ⟨v', e', p⟩ := r1.atI e
    exact ix_tup va sl pins s σ H _ _ v u Q I rx ry ⟨_, _, _, _, rfl, rfl, q1, e', k _ h _ H W (.refl w) (.of p)⟩ hs
theorem et_ix (ha : PEt X own c1 t1 a ra) (hb : PEt X own c2 t2 b rb) (hs : PlainIx b) : PEt X own (c1 && c2) (c1 && c2) (.Subscript a b pos) (rOp oIx ra rb) :=
  ⟨peImp (pe_ix ix_t ha.pe hb.pe hs) fun _ _ _ h => rOp_ok h⟩

/-! ### a[i:j] -/
def cutT (ts : List T) (lo hi : Option Int) : List T := (ts.drop (HT.sIx ts.length 0 lo)).take (HT.sIx ts.length ts.length hi - HT.sIx ts.length 0 lo)
theorem RpA.cut {K : PySem.W.Frag} {W Z : Addr → Prop} {H : Hp} {vs : List V} {ts : List T} (r : RpA K W Z H vs ts) (lo hi : Option Int) : RpA K W Z H (cutV vs lo hi) (cutT ts lo hi) := by
  unfold cutV cutT
  rw [r.length]
  exact (r.drop _).take _
abbrev TO := TEnv → (Option Int → Prop) → Prop
def rNoPart : TO := fun _ Q => Q none
def rPart (r : TR) : TO := fun env Q => r env fun u => ∃ i, u = .int i ∧ Q (some i)
def liftO (K : PySem.W.Frag) (own : List Nat) (r : TO) : L2.TO := fun σ H Q => ∃ (W Z : Addr → Prop) (env : TEnv) (Qt : Option Int → Prop), RelE K own W Z env σ H ∧ r env Qt ∧ ∀ u, Qt u → ∀ H' W', Step W H W' H' → Q u H'
structure POt (X : Cx) (own : List Nat) (e : Option Expr) (r : TO) : Prop where
  po : PO X e (liftO X.K own r)
theorem poImp {e : Option Expr} {t t' : L2.TO} (h : PO X e t) (i : ∀ σ H Q, t' σ H Q → t σ H Q) : PO X e t' := ⟨fun pins s σ H Q I q => h.run pins s σ H Q I (i _ _ _ q)⟩
theorem ot_none : POt X own none rNoPart := ⟨poImp po_none fun σ H Q ⟨_, _, _, _, R, q, k⟩ => k _ q H _ (Step.refl R.wok)⟩
theorem ot_some (h : PEt X own c1 t1 a ra) : POt X own (some a) (rPart ra) := by
  refine ⟨poImp (po_some h.pe) fun σ H Q q => ?_⟩
  obtain ⟨W, Z, env, Qt, R, q, k⟩ := q
  refine ⟨W, Z, env, _, R, q, fun u hu v H' W' s p => ?_⟩
  obtain ⟨i, rfl, q⟩ := hu
  cases p
  exact ⟨i, rfl, k _ q H' W' s⟩
def sCut : T → Option Int → Option Int → (T → Prop) → Prop
  | .lst ts, lo, hi, Q => Q (.lst (cutT ts lo hi))
  | .tup ts, lo, hi, Q => Q (.tup (cutT ts lo hi))
  | _, _, _, _ => False
def tSl (K : PySem.W.Frag) (r : T → Option Int → Option Int → (T → Prop) → Prop) : V → Option Int → Option Int → Hp → VK → Prop := fun x lo hi H Q => ∃ (W Zt Zc : Addr → Prop) (tx : T) (Qt : T → Prop), WOk W H ∧ (∀ a, Zc a → ∃ o, H a = some o) ∧
  RpO K W Zt Zc H x tx ∧ r tx lo hi Qt ∧ ∀ u, Qt u → ∀ v H' W', Step W H W' H' → RpO K W' Zc Zc H' v u → Q v H'
theorem cut_whole {ts : List T} {lo hi : Option Int} (h : HT.sIx ts.length 0 lo = 0 ∧ HT.sIx ts.length ts.length hi = ts.length) : cutT ts lo hi = ts := by
  unfold cutT
  rw [h.1, h.2, List.drop_zero, Nat.sub_zero, List.take_length]
theorem sl_t : SlR X (tSl X.K sCut) := by
  intro pins s σ H x v vl vu lo
  intro hi sl Q I rx hs pl pu h
  obtain ⟨W, Zt, Zc, tx, Qt, w, zx, p1, h, k⟩ := h
  match tx, h with
  | .lst ts, h =>
    obtain ⟨a, xs', rfl, q1, w1, z1, r1⟩ := p1.parts
    refine sl_list pins s σ H _ v vl vu lo hi sl Q I rx hs pl pu ⟨_, _, rfl, .of q1, fun p hp => ?_⟩
    obtain ⟨y1, y2⟩ := putLst w zx hp (r1.cut lo hi)
    exact k _ h _ _ W y1 y2
  | .tup ts, h =>
    obtain ⟨a, xs', rfl, q1, r1⟩ := p1.tupI
    refine sl_tupA pins s σ H _ v vl vu lo hi sl Q I rx hs pl pu ⟨_, _, rfl, q1, fun e => ?_, fun _ p hp => ?_⟩
    · rw [r1.length] at e
      have h : Qt (.tup (cutT ts lo hi)) := h
      rw [cut_whole e] at h
      exact k _ h _ H W (.refl w) p1.tupM
    · obtain ⟨y1, y2⟩ := putTup w hp (r1.cut lo hi)
      exact k _ h _ _ W y1 y2
def rCut (ra : TR) (rl rh : TO) : TR := fun env Q => ra env fun x => rl env fun lo => rh env fun hi => sCut x lo hi Q
theorem et_cut {lo hi : Option Expr} {rl rh : TO} {p2 : Pos} (ha : PEt X own c1 t1 a ra) (hl : POt X own lo rl) (hh : POt X own hi rh) : PEt X own c1 c1 (.Subscript a (.Slice lo hi none p2) pos) (rCut ra rl rh) := by
  refine ⟨peImp (pe_slice sl_t ha.pe hl.po hh.po) fun σ H Q h => ?_⟩
  obtain ⟨W, Z, env, Qt, R, h, k⟩ := h
  refine ⟨W, Z, env, _, R, h, fun u hu v H1 W1 s1 p1 => ⟨W1, Z, env, _, R.step s1, hu, fun l hl H2 W2 s2 => ⟨W2, Z, env, _, (R.step s1).step s2, hl, fun m hm H3 W3 s3 => ?_⟩⟩⟩
  have R3 := ((R.step s1).step s2).step s3
  exact ⟨W3, Z, ZZ own σ Z c1, u, Qt, s3.ok, R3.zzx _, ((p1.step s1.ok s2).step s2.ok s3).mono ZZ.z fun _ z => z, hm, fun u4 hu4 v4 H4 W4 s4 p4 => k u4 hu4 v4 H4 W4 (((s1.trans s2).trans s3).trans s4) p4⟩

/-! ### rows of arguments, displays -/
def rNil : TL := fun _ Q => Q []
def rCons (ra : TR) (rs : TL) : TL := fun env Q => ra env fun u => rs env fun us => Q (u :: us)
def rStar (ra : TR) (rs : TL) : TL := fun env Q => ra env fun u => ∃ ts, (u = .lst ts ∨ u = .tup ts) ∧ rs env fun us => Q (ts ++ us)
theorem at_nil : PAt X own true [] rNil := ⟨paImp pa_nil fun σ H Q ⟨_, _, _, _, R, q, k⟩ => k _ q _ H _ (Step.refl R.wok) .nil⟩
theorem at_cons {es : List Expr} {rs : TL} {bb : Bool} (ha : PEt X own c1 t1 a ra) (hr : PAt X own bb es rs) (hs : starEach (a :: es) X.env = (false, eval a X.env) :: starEach es X.env := by rfl) :
    PAt X own (c1 && t1 && bb) (a :: es) (rCons ra rs) := by
  refine ⟨paImp (pa_cons ha.pe hr.pa hs) fun σ H Q h => ?_⟩
  obtain ⟨W, Z, env, Qt, R, h, k⟩ := h
  refine ⟨W, Z, env, _, R, h, fun u hu v H1 W1 s1 p1 => ⟨W1, Z, env, _, R.step s1, hu, fun us hus vs H2 W2 s2 p2 => ?_⟩⟩
  have p1' : RpO X.K W1 (ZZ own σ Z (c1 && t1 && bb)) (ZZ own σ Z (c1 && t1 && bb)) H1 v u := p1.mono (ZZ.le fun e => by simp [Bool.and_eq_true] at e; exact e.1.2) (ZZ.le fun e => by simp [Bool.and_eq_true] at e; exact e.1.1)
  exact k _ hus _ H2 W2 (s1.trans s2) (.cons (p1'.rp.step s1.ok s2) (p2.mono (ZZ.le fun e => by simp [Bool.and_eq_true] at e; exact e.2)))
theorem at_star {es : List Expr} {rs : TL} {bb : Bool} {p : Pos} (ha : PEt X own c1 t1 a ra) (hr : PAt X own bb es rs) (hs : starEach (.Starred a p :: es) X.env = (true, eval a X.env) :: starEach es X.env := by rfl) :
    PAt X own (c1 && bb) (.Starred a p :: es) (rStar ra rs) := by
  refine ⟨paImp (StX.pa_star ha.pe hr.pa hs) fun σ H Q h => ?_⟩
  obtain ⟨W, Z, env, Qt, R, h, k⟩ := h
  refine ⟨W, Z, env, _, R, h, fun u hu v H1 W1 s1 p1 => ?_⟩
  obtain ⟨ts, e, hu⟩ := hu
  have key : ∃ q xs, v = V.ref q ∧ (SqT X.K H1 q xs ∨ SqL X.K H1 q xs) ∧ RpA X.K W1 (ZZ own σ Z c1) H1 xs ts := by
    rcases e with rfl | rfl
    · obtain ⟨q, xs, e1, e2, _, _, e3⟩ := p1.parts
      exact ⟨q, xs, e1, .inr (.of e2), e3⟩
    · obtain ⟨q, xs, e1, e2, e3⟩ := p1.tupI
      exact ⟨q, xs, e1, .inl e2, e3⟩
  obtain ⟨q, xs, rfl, hq, r⟩ := key
  refine ⟨q, xs, rfl, hq, W1, Z, env, _, R.step s1, hu, fun us hus vs H2 W2 s2 p2 => ?_⟩
  exact k _ hus _ H2 W2 (s1.trans s2) (((r.step s1.ok s2).mono (ZZ.le fun e => (Bool.and_eq_true_iff.mp e).1)).app (p2.mono (ZZ.le fun e => (Bool.and_eq_true_iff.mp e).2)))
def rTup (rs : TL) : TR := fun env Q => rs env fun us => us.length ≤ lim ∧ Q (.tup us)
def rLst (rs : TL) : TR := fun env Q => rs env fun us => us.length ≤ lim ∧ Q (.lst us)
theorem et_tup {es : List Expr} {rs : TL} {bb : Bool} {x1} (h : PAt X own bb es rs) : PEt X own bb bb (.Tuple es x1 pos) (rTup rs) := by
  refine ⟨peImp (pe_tup h.pa) fun σ H Q h => ?_⟩
  obtain ⟨W, Z, env, Qt, R, h, k⟩ := h
  refine ⟨W, Z, env, _, R, h, fun us hus vs H1 W1 s1 p1 => ⟨by rw [p1.length, fit]; exact hus.1, fun p hp => ?_⟩⟩
  obtain ⟨z1, z2⟩ := putTup s1.ok hp p1
  exact k _ hus.2 _ _ W1 (s1.trans z1) z2
theorem et_lst {es : List Expr} {rs : TL} {bb : Bool} (h : PAt X own bb es rs) : PEt X own bb bb (.List es pos) (rLst rs) := by
  refine ⟨peImp (pe_lst h.pa) fun σ H Q h => ?_⟩
  obtain ⟨W, Z, env, Qt, R, h, k⟩ := h
  refine ⟨W, Z, env, _, R, h, fun us hus vs H1 W1 s1 p1 => ⟨by rw [p1.length, fit]; exact hus.1, fun p hp => ?_⟩⟩
  obtain ⟨z1, z2⟩ := putLst s1.ok ((R.step s1).zzx _) hp p1
  exact k _ hus.2 _ _ W1 (s1.trans z1) z2
/-! ### calls of built-ins with one argument, with two -/
def tC1 (K : PySem.W.Frag) (f : T → (T → Prop) → Prop) : List V → Hp → VK → Prop := fun vs H Q => ∃ (W Zt Zc : Addr → Prop) (v : V) (u : T) (Qt : T → Prop), vs = [v] ∧ WOk W H ∧ (∀ a, Zc a → ∃ o, H a = some o) ∧ RpO K W Zt Zc H v u ∧ f u Qt ∧
  ∀ u', Qt u' → ∀ v' H' W', Step W H W' H' → RpO K W' Zc Zc H' v' u' → Q v' H'
theorem one_ok {σ : St} {H : Hp} {Q : VK} {K : PySem.W.Frag} {f : T → (T → Prop) → Prop} (h : liftE K own c1 c1 (rUn f ra) σ H Q) : tCB (tC1 K f) (tCons (liftE K own c1 t1 ra) tNil) σ H Q := by
  obtain ⟨W, Z, env, Qt, R, h, k⟩ := h
  refine ⟨W, Z, env, _, R, h, fun u hu v H1 W1 s1 p1 => ?_⟩
  exact ⟨W1, Z, ZZ own σ Z c1, v, u, Qt, rfl, s1.ok, (R.step s1).zzx _, p1.mono ZZ.z fun _ z => z, hu, fun u2 hu2 v2 H2 W2 s2 p2 => k u2 hu2 v2 H2 W2 (s1.trans s2) p2⟩
theorem et_b1 {x : Str} {id : String} {p : Pos} {f : T → (T → Prop) → Prop} (hc : CallR X (.builtin id) (tC1 X.K f)) (hg : Gl X x) (hm : X.mg x = none) (hv : bootBuiltins x = some (.builtin id)) (ha : PEt X own c1 t1 a ra)
    (hs : starEach [a] X.env = (false, eval a X.env) :: starEach [] X.env := by rfl) (hn : x ≠ "__name__" := by decide) (hdb : (x == ("__debug__" : Str)) = false := by decide)
    (hpl : (backTo pos (starEach [] X.env)).any (·.1) = false := by rfl) : PEt X own c1 c1 (.Call (.Name x p) [a] [] pos) (rUn f ra) :=
  ⟨peImp (pe_callB hc hg hm hv (pa_cons ha.pe pa_nil hs) hn hdb hs hpl) fun _ _ _ h => one_ok h⟩
theorem et_t1 {x : Str} {id : String} {p : Pos} {f : T → (T → Prop) → Prop} (hc : CallR X (.type id) (tC1 X.K f)) (hg : Gl X x) (hm : X.mg x = none) (hv : bootBuiltins x = some (.type id)) (ha : PEt X own c1 t1 a ra)
    (hs : starEach [a] X.env = (false, eval a X.env) :: starEach [] X.env := by rfl) (hn : x ≠ "__name__" := by decide) (hdb : (x == ("__debug__" : Str)) = false := by decide)
    (hpl : (backTo pos (starEach [] X.env)).any (·.1) = false := by rfl) : PEt X own c1 c1 (.Call (.Name x p) [a] [] pos) (rUn f ra) :=
  ⟨peImp (pe_callTy hc hg hm hv (pa_cons ha.pe pa_nil hs) hn hdb hs hpl) fun _ _ _ h => one_ok h⟩
def tC2 (K : PySem.W.Frag) (f : T → T → (T → Prop) → Prop) : List V → Hp → VK → Prop := fun vs H Q => ∃ x y, vs = [x, y] ∧ tR2 K f x y H Q
theorem two_ok {σ : St} {H : Hp} {Q : VK} {K : PySem.W.Frag} {f : T → T → (T → Prop) → Prop} (h : liftE K own (c1 && c2) (c1 && c2) (rOp f ra rb) σ H Q) : tCB (tC2 K f) (tCons (liftE K own c1 t1 ra) (tCons (liftE K own c2 t2 rb) tNil)) σ H Q := by
  have h := rOp_ok (t1 := t1) (t2 := t2) h
  obtain ⟨W, Z, env, Qt, R, h, k⟩ := h
  refine ⟨W, Z, env, _, R, h, fun u hu v H1 W1 s1 p1 => ?_⟩
  obtain ⟨W2, Z2, env2, Qt2, R2, h2, k2⟩ := k u hu v H1 W1 s1 p1
  exact ⟨W2, Z2, env2, _, R2, h2, fun u3 hu3 v3 H3 W3 s3 p3 => ⟨v, v3, rfl, k2 u3 hu3 v3 H3 W3 s3 p3⟩⟩
theorem et_b2 {x : Str} {id : String} {p : Pos} {f : T → T → (T → Prop) → Prop} (hc : CallR X (.builtin id) (tC2 X.K f)) (hg : Gl X x) (hm : X.mg x = none) (hv : bootBuiltins x = some (.builtin id)) (ha : PEt X own c1 t1 a ra) (hb : PEt X own c2 t2 b rb)
    (hs : starEach [a, b] X.env = (false, eval a X.env) :: starEach [b] X.env := by rfl) (hs2 : starEach [b] X.env = (false, eval b X.env) :: starEach [] X.env := by rfl) (hn : x ≠ "__name__" := by decide) (hdb : (x == ("__debug__" : Str)) = false := by decide)
    (hpl : (backTo pos (starEach [b] X.env)).any (·.1) = false := by rfl) : PEt X own (c1 && c2) (c1 && c2) (.Call (.Name x p) [a, b] [] pos) (rOp f ra rb) :=
  ⟨peImp (pe_callB hc hg hm hv (pa_cons ha.pe (pa_cons hb.pe pa_nil hs2) hs) hn hdb hs hpl) fun _ _ _ h => two_ok h⟩
/-- math.gcd by the module's name -/
theorem et_g2 {x : Str} {id : String} {p : Pos} {f : T → T → (T → Prop) → Prop} (hc : CallR X (.builtin id) (tC2 X.K f)) (hg : Gl X x) (hm : X.mg x = some (.builtin id)) (ha : PEt X own c1 t1 a ra) (hb : PEt X own c2 t2 b rb)
    (hs : starEach [a, b] X.env = (false, eval a X.env) :: starEach [b] X.env := by rfl) (hs2 : starEach [b] X.env = (false, eval b X.env) :: starEach [] X.env := by rfl) (hdb : (x == ("__debug__" : Str)) = false := by decide)
    (hpl : (backTo pos (starEach [b] X.env)).any (·.1) = false := by rfl) : PEt X own (c1 && c2) (c1 && c2) (.Call (.Name x p) [a, b] [] pos) (rOp f ra rb) :=
  ⟨peImp (pe_callBfun hc hg hm (pa_cons ha.pe (pa_cons hb.pe pa_nil hs2) hs) hdb hs hpl) fun _ _ _ h => two_ok h⟩
def oGcd : T → T → (T → Prop) → Prop
  | .int i, .int j, Q => Q (.int ((Nat.gcd i.natAbs j.natAbs : Nat) : Int))
  | _, _, _ => False
def oMax : T → T → (T → Prop) → Prop
  | .int i, .int j, Q => Q (.int (if j > i then j else i))
  | _, _, _ => False
def oMin : T → T → (T → Prop) → Prop
  | .int i, .int j, Q => Q (.int (if j < i then j else i))
  | _, _, _ => False
theorem b_ints {f : Value} {r : T → T → (T → Prop) → Prop} {g : Int → Int → Int} (hf : CallR X f (fun xs H Q => ∃ i j, xs = [.int i, .int j] ∧ Q (.int (g i j)) H))
    (hr : ∀ tx ty Qt, r tx ty Qt → ∃ i j, tx = .int i ∧ ty = .int j ∧ Qt (.int (g i j))) : CallR X f (tC2 X.K r) := by
  intro pins s σ H xs
  intro us Q I rv h
  obtain ⟨x, y, rfl, W, Zt, Zc, tx, ty, Qt, w, zx, p1, p2, h, k⟩ := h
  obtain ⟨i, j, rfl, rfl, q⟩ := hr _ _ _ h
  cases p1; cases p2
  exact hf pins s σ H _ us Q I rv ⟨i, j, rfl, k _ q _ H W (.refl w) (.of (.int _))⟩
theorem b_gcd : CallR X (.builtin "math.gcd") (tC2 X.K oGcd) := b_ints cr_gcd fun tx ty Qt h => by
  match tx, ty, h with
  | .int i, .int j, h => exact ⟨i, j, rfl, rfl, h⟩
theorem b_max2 (hc : X.calm = true) : CallR X (.builtin "max") (tC2 X.K oMax) := b_ints (call_max2 hc) fun tx ty Qt h => by
  match tx, ty, h with
  | .int i, .int j, h => exact ⟨i, j, rfl, rfl, h⟩
theorem b_min2 (hc : X.calm = true) : CallR X (.builtin "min") (tC2 X.K oMin) := b_ints (call_min2 hc) fun tx ty Qt h => by
  match tx, ty, h with
  | .int i, .int j, h => exact ⟨i, j, rfl, rfl, h⟩
def uLen : T → (T → Prop) → Prop
  | .lst ts, Q => Q (.int ts.length)
  | .tup ts, Q => Q (.int ts.length)
  | .scr ns, Q => Q (.int ns.length)
  | _, _ => False
def uAbs : T → (T → Prop) → Prop
  | .int i, Q => Q (.int (if i < 0 then -i else i))
  | _, _ => False
def uInt : T → (T → Prop) → Prop
  | .int i, Q => Q (.int i)
  | .bl b, Q => Q (.int (if b then 1 else 0))
  | _, _ => False
def uList : T → (T → Prop) → Prop
  | .lst ts, Q => Q (.lst ts)
  | .tup ts, Q => Q (.lst ts)
  | _, _ => False
def uTuple : T → (T → Prop) → Prop
  | .lst ts, Q => Q (.tup ts)
  | .tup ts, Q => Q (.tup ts)
  | _, _ => False
def uAll : T → (T → Prop) → Prop
  | .lst ts, Q => ∃ bs : List Bool, ts = bs.map T.bl ∧ Q (.bl (bs.all id))
  | _, _ => False
def uAny : T → (T → Prop) → Prop
  | .lst ts, Q => ∃ bs : List Bool, ts = bs.map T.bl ∧ Q (.bl (bs.any id))
  | _, _ => False
def uSum : T → (T → Prop) → Prop
  | .lst ts, Q => ∃ ns : List Int, ts = ns.map T.int ∧ Q (.int ns.sum)
  | _, _ => False
def uMax : T → (T → Prop) → Prop
  | .lst ts, Q => ∃ ns : List Int, ts = ns.map T.int ∧ 0 < ns.length ∧ ∀ m, m ∈ ns → (∀ y, y ∈ ns → y ≤ m) → Q (.int m)
  | _, _ => False
def uMin : T → (T → Prop) → Prop
  | .lst ts, Q => ∃ ns : List Int, ts = ns.map T.int ∧ 0 < ns.length ∧ ∀ m, m ∈ ns → (∀ y, y ∈ ns → m ≤ y) → Q (.int m)
  | _, _ => False
theorem b_len : CallR X (.builtin "len") (tC1 X.K uLen) := by
  intro pins s σ H xs
  intro us Q I rv h
  obtain ⟨W, Zt, Zc, v, u, Qt, rfl, w, zx, p, h, k⟩ := h
  match u, h with
  | .lst ts, h =>
    obtain ⟨a, xs, rfl, q, _, _, r⟩ := p.parts
    refine call_len_seq pins s σ H _ us Q I rv ⟨_, _, rfl, .inl (.of q), ?_⟩
    rw [r.length]
    exact k _ h _ H W (.refl w) (.of (.int _))
  | .tup ts, h =>
    obtain ⟨a, xs, rfl, q, r⟩ := p.tupI
    refine call_len_seq pins s σ H _ us Q I rv ⟨_, _, rfl, .inr q, ?_⟩
    rw [r.length]
    exact k _ h _ H W (.refl w) (.of (.int _))
  | .scr ns, h =>
    cases p with
    | @scr a _ q =>
      have q' : SqL X.K H a (ns.map V.int) := by
        rcases q with ⟨o, q⟩ | q
        · exact .inl (.inr ⟨o, q⟩)
        · exact q H
      refine call_len_seq pins s σ H _ us Q I rv ⟨_, _, rfl, .inl q', ?_⟩
      rw [List.length_map]
      exact k _ h _ H W (.refl w) (.of (.int _))
theorem b_abs : CallR X (.builtin "abs") (tC1 X.K uAbs) := by
  intro pins s σ H xs
  intro us Q I rv h
  obtain ⟨W, Zt, Zc, v, u, Qt, rfl, w, zx, p, h, k⟩ := h
  match u, h with
  | .int i, h =>
    cases p
    exact call_abs pins s σ H _ us Q I rv ⟨_, rfl, k _ h _ H W (.refl w) (.of (.int _))⟩
theorem t_int : CallR X (.type "int") (tC1 X.K uInt) := by
  intro pins s σ H xs
  intro us Q I rv h
  obtain ⟨W, Zt, Zc, v, u, Qt, rfl, w, zx, p, h, k⟩ := h
  match u, h with
  | .int i, h =>
    cases p
    exact call_int1 pins s σ H _ us Q I rv (.inl ⟨_, rfl, k _ h _ H W (.refl w) (.of (.int _))⟩)
  | .bl i, h =>
    cases p
    exact call_int1 pins s σ H _ us Q I rv (.inr ⟨_, rfl, k _ h _ H W (.refl w) (.of (.int _))⟩)
theorem t_list : CallR X (.type "list") (tC1 X.K uList) := by
  intro pins s σ H xs
  intro us Q I rv h
  obtain ⟨W, Zt, Zc, v, u, Qt, rfl, w, zx, p, h, k⟩ := h
  match u, h with
  | .lst ts, h =>
    obtain ⟨a, xs, rfl, q, _, _, r⟩ := p.parts
    refine call_list_of pins s σ H _ us Q I rv ⟨_, _, rfl, .inl (.of q), fun l hl => ?_⟩
    obtain ⟨z1, z2⟩ := putLst w zx hl r
    exact k _ h _ _ W z1 z2
  | .tup ts, h =>
    obtain ⟨a, xs, rfl, q, r⟩ := p.tupI
    refine call_list_of pins s σ H _ us Q I rv ⟨_, _, rfl, .inr q, fun l hl => ?_⟩
    obtain ⟨z1, z2⟩ := putLst w zx hl r
    exact k _ h _ _ W z1 z2
theorem t_tuple : CallR X (.type "tuple") (tC1 X.K uTuple) := by
  intro pins s σ H xs
  intro us Q I rv h
  obtain ⟨W, Zt, Zc, v, u, Qt, rfl, w, zx, p, h, k⟩ := h
  match u, h with
  | .lst ts, h =>
    obtain ⟨a, xs, rfl, q, _, _, r⟩ := p.parts
    refine call_tuple_of pins s σ H _ us Q I rv ⟨_, _, rfl, .inl ⟨.of q, fun l hl => ?_⟩⟩
    obtain ⟨z1, z2⟩ := putTup w hl r
    exact k _ h _ _ W z1 z2
  | .tup ts, h =>
    obtain ⟨a, xs, rfl, q, r⟩ := p.tupI
    exact call_tuple_of pins s σ H _ us Q I rv ⟨a, xs, rfl, .inr ⟨q, k _ h _ H W (.refl w) p.tupM⟩⟩
theorem RpA.bls {K : PySem.W.Frag} {W Z : Addr → Prop} {H : Hp} : ∀ {bs : List Bool} {xs : List V}, RpA K W Z H xs (bs.map T.bl) → xs = bs.map V.bl
  | [], _, h => by cases h; rfl
  | b :: bs, _, h => by
    cases h with
    | cons p r =>
      cases p
      rw [RpA.bls r]; rfl
theorem RpA.ints {K : PySem.W.Frag} {W Z : Addr → Prop} {H : Hp} : ∀ {bs : List Int} {xs : List V}, RpA K W Z H xs (bs.map T.int) → xs = bs.map V.int
  | [], _, h => by cases h; rfl
  | b :: bs, _, h => by
    cases h with
    | cons p r =>
      cases p
      rw [RpA.ints r]; rfl
theorem b_all (hc : X.calm = true) : CallR X (.builtin "all") (tC1 X.K uAll) := by
  intro pins s σ H xs
  intro us Q I rv h
  obtain ⟨W, Zt, Zc, v, u, Qt, rfl, w, zx, p, h, k⟩ := h
  match u, h with
  | .lst ts, ⟨bs, e, h⟩ =>
    obtain ⟨a, xs, rfl, q, _, _, r⟩ := p.parts
    subst e
    rw [r.bls] at q
    exact cr_all hc pins s σ H _ us Q I rv ⟨_, bs, rfl, .of q, k _ h _ H W (.refl w) (.of (.bl _))⟩
theorem b_any (hc : X.calm = true) : CallR X (.builtin "any") (tC1 X.K uAny) := by
  intro pins s σ H xs
  intro us Q I rv h
  obtain ⟨W, Zt, Zc, v, u, Qt, rfl, w, zx, p, h, k⟩ := h
  match u, h with
  | .lst ts, ⟨bs, e, h⟩ =>
    obtain ⟨a, xs, rfl, q, _, _, r⟩ := p.parts
    subst e
    rw [r.bls] at q
    exact cr_any hc pins s σ H _ us Q I rv ⟨_, bs, rfl, .of q, k _ h _ H W (.refl w) (.of (.bl _))⟩
theorem b_sum (hc : X.calm = true) : CallR X (.builtin "sum") (tC1 X.K uSum) := by
  intro pins s σ H xs
  intro us Q I rv h
  obtain ⟨W, Zt, Zc, v, u, Qt, rfl, w, zx, p, h, k⟩ := h
  match u, h with
  | .lst ts, ⟨bs, e, h⟩ =>
    obtain ⟨a, xs, rfl, q, _, _, r⟩ := p.parts
    subst e
    rw [r.ints] at q
    exact cr_sum hc pins s σ H _ us Q I rv ⟨_, bs, rfl, .of q, k _ h _ H W (.refl w) (.of (.int _))⟩
theorem b_max (hc : X.calm = true) : CallR X (.builtin "max") (tC1 X.K uMax) := by
  intro pins s σ H xs
  intro us Q I rv h
  obtain ⟨W, Zt, Zc, v, u, Qt, rfl, w, zx, p, h, k⟩ := h
  match u, h with
  | .lst ts, ⟨bs, e, h0, h⟩ =>
    obtain ⟨a, xs, rfl, q, _, _, r⟩ := p.parts
    subst e
    rw [r.ints] at q
    exact cr_max hc pins s σ H _ us Q I rv ⟨_, bs, rfl, .of q, h0, fun m h1 h2 => k _ (h m h1 h2) _ H W (.refl w) (.of (.int _))⟩
theorem b_min (hc : X.calm = true) : CallR X (.builtin "min") (tC1 X.K uMin) := by
  intro pins s σ H xs
  intro us Q I rv h
  obtain ⟨W, Zt, Zc, v, u, Qt, rfl, w, zx, p, h, k⟩ := h
  match u, h with
  | .lst ts, ⟨bs, e, h0, h⟩ =>
    obtain ⟨a, xs, rfl, q, _, _, r⟩ := p.parts
    subst e
    rw [r.ints] at q
    exact cr_min hc pins s σ H _ us Q I rv ⟨_, bs, rfl, .of q, h0, fun m h1 h2 => k _ (h m h1 h2) _ H W (.refl w) (.of (.int _))⟩
/-! ### isinstance(x, a built-in type) -/
def tyT : T → String
  | .non => "NoneType"
  | .bl _ => "bool"
  | .int _ => "int"
  | .str _ => "str"
  | .tup _ => "tuple"
  | .lst _ | .wel | .scr _ => "list"
  | .d0 | .d1 _ _ => "dict"
def uIsi (n : String) (u : T) (Q : T → Prop) : Prop := Q (.bl (tyT u == n || (n == "int" && tyT u == "bool")))
theorem Rp.tyX {W Z : Addr → Prop} {H : Hp} {v : V} {t : T} (w : WOk W H) (h : Rp X.K W Z H v t) : TyX X.K H v (.type (tyT t)) := by
  cases h with
  | non => exact .base .non
  | bl b => exact .base (.bl b)
  | int i => exact .base (.int i)
  | str x => exact .base (.str x)
  | tup q r =>
    rcases q with (q | ⟨o, q⟩) | ⟨o, its, n, q, c, _⟩
    · exact .base (.tup q)
    · exact .fTuple q
    · exact .kTuple q c
  | lst a b q r => exact .base (.lst q)
  | wel q =>
    obtain ⟨_, _, _, e⟩ := w _ q
    exact .base (.lst e)
  | scr q =>
    rcases q with ⟨o, q⟩ | q
    · exact .base (.frz q)
    · rcases q (fun _ => none) with (q | ⟨o, q⟩) | ⟨o, its, n, q, c, _⟩
      · cases q
      · cases q
      · exact .kList q c
  | d0 a b q => exact .base (.dK q)
  | d1 a b q r => exact .base (.dK q)
def kitOk (n : String) : Bool := ["NoneType", "bool", "int", "str", "tuple", "list", "dict"].all fun m => kitB m n == some (m == n || (n == "int" && m == "bool"))
theorem kit_t {n : String} (h : kitOk n = true) (t : T) : kitB (tyT t) n = some (tyT t == n || (n == "int" && tyT t == "bool")) := by
  unfold kitOk at h
  rw [List.all_eq_true] at h
  have m : tyT t ∈ ["NoneType", "bool", "int", "str", "tuple", "list", "dict"] := by cases t <;> simp [tyT]
  exact beq_iff_eq.mp (h _ m)
theorem et_isi {p p2 : Pos} {tn : Str} {n : String} (hk : kitOk n = true) (hg : Gl X "isinstance") (hm : X.mg "isinstance" = none) (hg2 : Gl X tn) (hm2 : X.mg tn = none) (hv2 : bootBuiltins tn = some (.type n)) (ha : PEt X own c1 t1 a ra)
    (hv : bootBuiltins ("isinstance" : Str) = some (.builtin "isinstance") := by decide +kernel) (hn2 : tn ≠ "__name__" := by decide) (hd2 : (tn == ("__debug__" : Str)) = false := by decide)
    (hs : starEach [a, .Name tn p2] X.env = (false, eval a X.env) :: starEach [.Name tn p2] X.env := by rfl) (hs2 : starEach [.Name tn p2] X.env = (false, eval (.Name tn p2) X.env) :: starEach [] X.env := by rfl)
    (hpl : (backTo pos (starEach [.Name tn p2] X.env)).any (·.1) = false := by rfl) : PEt X own true true (.Call (.Name "isinstance" p) [a, .Name tn p2] [] pos) (rUn (uIsi n) ra) := by
  refine ⟨peImp (pe_callB call_isi hg hm hv (pa_cons ha.pe (pa_cons (pe_bltn (v := .ty n) hg2 hm2 hv2 rfl hn2 hd2) pa_nil hs2) hs) (by decide) (by decide) hs hpl) fun σ H Q h => ?_⟩
  obtain ⟨W, Z, env, Qt, R, h, k⟩ := h
  refine ⟨W, Z, env, _, R, h, fun u hu v H1 W1 s1 p1 => ?_⟩
  exact ⟨v, .ty n, .type (tyT u), .type n, _, rfl, .ty n, p1.weak.tyX s1.ok, kit_ty (kit_t hk u), k _ hu _ H1 W1 s1 (.of (.bl _))⟩
end

/-! ### calls of the text's own defs -/
abbrev TF := List T → (T → Prop) → Prop
def spT (K : PySem.W.Frag) (Φ : TF) : Sp := fun vs H Q _ => ∃ (W Z : Addr → Prop) (ts : List T) (Qt : T → Prop), WOk W H ∧ (∀ a, Z a → ∃ o, H a = some o) ∧ RpA K W Z H vs ts ∧ Φ ts Qt ∧
  ∀ u, Qt u → ∀ v H' W', Step W H W' H' → Rp K W' Z H' v u → Q v H'
def rCall (Φ : TF) (rs : TL) : TR := fun env Q => rs env fun ts => Φ ts Q
section
variable {X : Cx} {own : List Nat} {k : Nat} {f : Addr} {fd : FuncData} {ps : List Str} {Φ : TF} {x : Str} {p pos : Pos} {e : Expr} {es : List Expr} {rs rk : TL} {bb bk : Bool}
theorem et_call (F : FnOk X.prog X.w X.K X.mg X.base CX0 k f fd ps (spT X.K Φ)) (hr : Room k X.A) (hg : Gl X x) (hm : X.mg x = some (.ref f)) (hk : PySem.W.keepIn X.K (.ref f) = true) (hb : Binds X.K fd ps []) (ha : PAt X own bb (e :: es) rs) (hdb : (x == ("__debug__" : Str)) = false := by decide) (he : starEach (e :: es) X.env = (false, eval e X.env) :: starEach es X.env := by rfl) (hpl : (backTo pos (starEach es X.env)).any (·.1) = false := by rfl) :
    PEt X own bb bb (.Call (.Name x p) (e :: es) [] pos) (rCall Φ rs) := by
  refine ⟨peImp (pe_call F hr hg hm hk hb .nil pass0 ha.pa hdb he hpl) fun σ H Q h => ?_⟩
  obtain ⟨W, Z, env, Qt, R, h, k⟩ := h
  refine ⟨W, Z, env, _, R, h, fun us hus vs H1 W1 s1 p1 => ?_⟩
  show spT X.K Φ (vs ++ []) H1 Q E0
  rw [List.append_nil]
  exact ⟨W1, ZZ own σ Z bb, us, Qt, s1.ok, (R.step s1).zzx _, p1, hus, fun u hu v H2 W2 s2 p2 => k u hu v H2 W2 (s1.trans s2) (.of p2)⟩
end
end Tw

namespace Tw
open PySem
open PySem.Spec PyProof.Rows L2
structure FrD where
  W0 : Addr → Prop
  Z0 : Addr → Prop
  H0 : Hp
theorem StepO.wid {W W' O : Addr → Prop} {H H' : Hp} (s : StepO W No H W' No H') : StepO W O H W' O H' := ⟨fun a o h w _ => s.keep a o h w fun z => z, s.sub, s.new, fun _ h => .inl h, s.dom⟩
theorem StepO.out {W W' O O' : Addr → Prop} {H H' : Hp} (s : StepO W O H W' O' H') : StepO W O H W' No H' := ⟨s.keep, s.sub, s.new, fun _ h => h.elim, s.dom⟩
structure RelS (K : PySem.W.Frag) (own : List Nat) (F : FrD) (W : Addr → Prop) (env : TEnv) (σ : St) (H : Hp) : Prop where
  e : RelE K own W F.Z0 env σ H
  s : StepO F.W0 No F.H0 W (Ow own σ) H
structure EndsT where
  nx : TEnv → Prop
  rt : T → Prop
  bk : TEnv → Prop := fun _ => False
  ct : TEnv → Prop := fun _ => False
  /-- a new value is returned -/
  rn : T → Prop := rt
abbrev TSt := EndsT → TEnv → Prop
def EndOk (K : PySem.W.Frag) (own : List Nat) (F : FrD) (W : Addr → Prop) (σ : St) (H : Hp) (A : TEnv → Prop) (B : St → Hp → Prop) : Prop :=
  ∀ env', A env' → ∀ σ' H' W', RelS K own F W' env' σ' H' → StepO W (Ow own σ) H W' (Ow own σ') H' → B σ' H'
def RetOk (K : PySem.W.Frag) (F : FrD) (A : T → Prop) (B : VK) : Prop := ∀ u, A u → ∀ v H' W', Step F.W0 F.H0 W' H' → Rp K W' F.Z0 H' v u → B v H'
/-- what stands in a heap -/
def Dom (H : Hp) : Addr → Prop := fun b => ∃ o, H b = some o
def RetNew (K : PySem.W.Frag) (F : FrD) (A : T → Prop) (B : VK) : Prop := ∀ u, A u → ∀ v H' W', Step F.W0 F.H0 W' H' → Rp K W' (Dom F.H0) H' v u → B v H'
structure DOk (K : PySem.W.Frag) (own : List Nat) (F : FrD) (W : Addr → Prop) (σ : St) (H : Hp) (Dt : EndsT) (D : Ends) : Prop where
  nx : EndOk K own F W σ H Dt.nx D.nx
  bk : EndOk K own F W σ H Dt.bk D.bk
  ct : EndOk K own F W σ H Dt.ct D.ct
  rt : RetOk K F Dt.rt D.rt
  rn : RetNew K F Dt.rn D.rt
def liftS (K : PySem.W.Frag) (own : List Nat) (F : FrD) (r : TSt) : TS := fun D σ H => ∃ (W : Addr → Prop) (env : TEnv) (Dt : EndsT), RelS K own F W env σ H ∧ r Dt env ∧ DOk K own F W σ H Dt D
structure PSt (X : Cx) (own : List Nat) (st : Stmt) (r : TSt) : Prop where
  ps : ∀ F, PS X st (liftS X.K own F r)
structure PBt (X : Cx) (own : List Nat) (st : List Stmt) (r : TSt) : Prop where
  ps : ∀ F, PSs X st (liftS X.K own F r)
section
variable {K : PySem.W.Frag} {own : List Nat} {F : FrD} {W W1 W' : Addr → Prop} {env : TEnv} {σ σ1 : St} {H H1 H' : Hp} {Dt : EndsT} {D : Ends}
theorem EndOk.from {A : TEnv → Prop} {B : St → Hp → Prop} (h : EndOk K own F W σ H A B) (s : StepO W (Ow own σ) H W1 (Ow own σ1) H1) : EndOk K own F W1 σ1 H1 A B :=
  fun env' a σ' H' W' R t => h env' a σ' H' W' R (s.trans t)
theorem DOk.from (h : DOk K own F W σ H Dt D) (s : StepO W (Ow own σ) H W1 (Ow own σ1) H1) : DOk K own F W1 σ1 H1 Dt D := ⟨h.nx.from s, h.bk.from s, h.ct.from s, h.rt, h.rn⟩
theorem RelS.step (R : RelS K own F W env σ H) (s : Step W H W' H') : RelS K own F W' env σ H' := ⟨R.e.step s, R.s.trans s.so.wid⟩
theorem RelS.out (R : RelS K own F W env σ H) : Step F.W0 F.H0 W H := ⟨R.s.out, R.e.wok⟩
/-- into the slots, nothing of the frame's own -/
theorem RelE.set {Z : Addr → Prop} {i : Nat} {v : V} {t : T} (R : RelE K own W Z env σ H) (ho : own.contains i = false) (p : Rp K W (ZZ own σ Z true) H v t) : RelE K own W Z (env.set i (some t)) (σ.set i (some v)) H ∧ (∀ a, Ow own (σ.set i (some v)) a ↔ Ow own σ a) := by
  have hno : i ∉ own := fun z => by
    have : own.contains i = true := List.contains_iff_mem.mpr z
    rw [ho] at this; cases this
  have hj : ∀ j, j ∈ own → (σ.set i (some v))[j]? = σ[j]? := fun j q => by
    rw [List.getElem?_set_ne]
    intro e; subst e; exact hno q
  have hO : ∀ a, Ow own (σ.set i (some v)) a ↔ Ow own σ a := fun a => by
    constructor
    · rintro ⟨j, q, e⟩; exact ⟨j, q, by rw [← hj j q]; exact e⟩
    · rintro ⟨j, q, e⟩; exact ⟨j, q, by rw [hj j q]; exact e⟩
  have hZ : ∀ a, ZZ own (σ.set i (some v)) Z true a → ZZ own σ Z true a := fun a h => by
    rcases h with h | ⟨h1, h2⟩
    · exact .inl h
    · exact .inr ⟨h1, (hO a).mp h2⟩
  refine ⟨⟨R.wok, R.zx, fun a h => R.ox a ((hO a).mp h), by rw [List.length_set, List.length_set, R.len], fun k t' e n => ?_, fun k t' e n => ?_, fun j l a hj' hl' e1 e2 => ?_⟩, hO⟩
  · by_cases hk : k = i
    · subst hk
      have hlt : k < env.length := by
        rcases Nat.lt_or_ge k env.length with q | q
        · exact q
        · rw [List.getElem?_eq_none_iff.mpr (by rw [List.length_set]; exact q)] at e; cases e
      rw [List.getElem?_set_self hlt] at e
      cases e
      exact ⟨v, by rw [List.getElem?_set_self (by rw [← R.len]; exact hlt)], p.mono hZ⟩
    · rw [List.getElem?_set_ne (fun z => hk z.symm)] at e
      obtain ⟨v', h1, h2⟩ := R.val k t' e n
      exact ⟨v', by rw [List.getElem?_set_ne (fun z => hk z.symm)]; exact h1, h2.mono hZ⟩
  · have hk : k ≠ i := fun z => hno (z ▸ n)
    rw [List.getElem?_set_ne (fun z => hk z.symm)] at e
    obtain ⟨a, xs, ts, h1, h2, h3, h4, h5, h6⟩ := R.ow k t' e n
    exact ⟨a, xs, ts, by rw [List.getElem?_set_ne (fun z => hk z.symm)]; exact h1, h2, h3, h4, h5, h6.mono hZ⟩
  · rw [hj j hj'] at e1
    rw [hj l hl'] at e2
    exact R.inj j l a hj' hl' e1 e2
theorem StepO.congr {O1 O2 : Addr → Prop} (s : StepO W O1 H W' O2 H') {O3 : Addr → Prop} (h : ∀ a, O3 a → O2 a) : StepO W O1 H W' O3 H' := ⟨s.keep, s.sub, s.new, fun a q => s.own a (h a q), s.dom⟩
theorem RelS.set {i : Nat} {v : V} {t : T} (R : RelS K own F W env σ H) (ho : own.contains i = false) (p : Rp K W (ZZ own σ F.Z0 true) H v t) :
    RelS K own F W (env.set i (some t)) (σ.set i (some v)) H ∧ StepO W (Ow own σ) H W (Ow own (σ.set i (some v))) H := by
  obtain ⟨h1, h2⟩ := R.e.set ho p
  exact ⟨⟨h1, R.s.congr fun a q => (h2 a).mp q⟩, (StepO.refl W (Ow own σ) H).congr fun a q => (h2 a).mp q⟩
end
section
variable {K : PySem.W.Frag} {W Z : Addr → Prop} {H : Hp} {a : Addr}
mutual
/-- trees keep clear of an address that does not stand yet -/
theorem Rp.add (n : H a = none) : ∀ {t : T} {v : V}, Rp K W Z H v t → Rp K W (fun b => Z b ∨ b = a) H v t
  | .non, _, h => by cases h; exact .non
  | .bl _, _, h => by cases h; exact .bl _
  | .int _, _, h => by cases h; exact .int _
  | .str _, _, h => by cases h; exact .str _
  | .tup ts, _, h => by cases h with | tup q r => exact .tup q (RpA.add n r)
  | .lst ts, _, h => by
    cases h with
    | lst x y q r =>
      refine .lst x (fun z => ?_) q (RpA.add n r)
      rcases z with z | z
      · exact y z
      · rw [z, n] at q; cases q
  | .wel, _, h => by cases h with | wel q => exact .wel q
  | .scr ns, _, h => by cases h with | scr q => exact .scr q
  | .d0, _, h => by
    cases h with
    | d0 x y q =>
      refine .d0 x (fun z => ?_) q
      rcases z with z | z
      · exact y z
      · rw [z, n] at q; cases q
  | .d1 k t, _, h => by
    cases h with
    | d1 x y q r =>
      refine .d1 x (fun z => ?_) q (Rp.add n r)
      rcases z with z | z
      · exact y z
      · rw [z, n] at q; cases q
theorem RpA.add (n : H a = none) : ∀ {ts : List T} {vs : List V}, RpA K W Z H vs ts → RpA K W (fun b => Z b ∨ b = a) H vs ts
  | [], _, h => by cases h; exact .nil
  | t :: ts, _, h => by cases h with | cons p r => exact .cons (Rp.add n p) (RpA.add n r)
end
mutual
/-- one of the lists that a tree keeps clear of is changed -/
theorem Rp.chg {xs0 xs1 : List V} (h0 : H a = some (.lst xs0)) (hw : ¬ W a) (hz : Z a) : ∀ {t : T} {v : V}, Rp K W Z H v t → Rp K W Z (upd H a (.lst xs1)) v t
  | .non, _, h => by cases h; exact .non
  | .bl _, _, h => by cases h; exact .bl _
  | .int _, _, h => by cases h; exact .int _
  | .str _, _, h => by cases h; exact .str _
  | .tup ts, _, h => by
    cases h with
    | tup q r =>
      refine .tup ?_ (RpA.chg h0 hw hz r)
      rcases q with (q | ⟨o, q⟩) | q
      · exact .inl (.inl (by rw [upd_ne (ne_of q h0 (by intro z; cases z))]; exact q))
      · exact .inl (.inr ⟨o, by rw [upd_ne (ne_of q h0 (by intro z; cases z))]; exact q⟩)
      · exact .inr q
  | .lst ts, _, h => by
    cases h with
    | lst x y q r =>
      refine .lst x y ?_ (RpA.chg h0 hw hz r)
      rw [upd_ne (fun z => y (by rw [z]; exact hz))]; exact q
  | .wel, _, h => by cases h with | wel q => exact .wel q
  | .scr ns, _, h => by
    cases h with
    | scr q =>
      rcases q with ⟨o, q⟩ | q
      · exact .scr (.inl ⟨o, by rw [upd_ne (ne_of q h0 (by intro z; cases z))]; exact q⟩)
      · exact .scr (.inr q)
  | .d0, _, h => by
    cases h with
    | d0 x y q => exact .d0 x y (by rw [upd_ne (fun z => y (by rw [z]; exact hz))]; exact q)
  | .d1 k t, _, h => by
    cases h with
    | d1 x y q r => exact .d1 x y (by rw [upd_ne (fun z => y (by rw [z]; exact hz))]; exact q) (Rp.chg h0 hw hz r)
theorem RpA.chg {xs0 xs1 : List V} (h0 : H a = some (.lst xs0)) (hw : ¬ W a) (hz : Z a) : ∀ {ts : List T} {vs : List V}, RpA K W Z H vs ts → RpA K W Z (upd H a (.lst xs1)) vs ts
  | [], _, h => by cases h; exact .nil
  | t :: ts, _, h => by cases h with | cons p r => exact .cons (Rp.chg h0 hw hz p) (RpA.chg h0 hw hz r)
end
end
section
variable {K : PySem.W.Frag} {own : List Nat} {F : FrD} {W W1 W' : Addr → Prop} {env : TEnv} {σ σ1 : St} {H H1 H' : Hp} {Dt : EndsT} {D : Ends}
theorem set_self {α : Type} {l : List α} {i : Nat} {x y : α} (h : (l.set i x)[i]? = some y) : y = x := by
  rcases Nat.lt_or_ge i l.length with q | q
  · rw [List.getElem?_set_self q] at h
    exact (Option.some.inj h).symm
  · rw [List.getElem?_eq_none_iff.mpr (by rw [List.length_set]; exact q)] at h; cases h
theorem set_lt {α : Type} {l : List α} {i : Nat} {x y : α} (h : (l.set i x)[i]? = some y) : i < l.length := by
  rcases Nat.lt_or_ge i l.length with q | q
  · exact q
  · rw [List.getElem?_eq_none_iff.mpr (by rw [List.length_set]; exact q)] at h; cases h
/-- a new list into one of the frame's own slots -/
theorem RelE.setOwn {Z : Addr → Prop} {i : Nat} {a : Addr} {xs : List V} {ts : List T} (R0 : RelE K own W Z env σ H) (s : Step W H W1 H1) (hn : H a = none) (ho : own.contains i = true) (ha : H1 a = some (.lst xs)) (hw : ¬ W1 a)
    (p : RpA K W1 (fun b => ZZ own σ Z true b ∨ b = a) H1 xs ts) : RelE K own W1 Z (env.set i (some (.lst ts))) (σ.set i (some (.ref a))) H1 ∧ (∀ b, Ow own (σ.set i (some (.ref a))) b → Ow own σ b ∨ b = a) := by
  have R := R0.step s
  have hz : ¬ Z a := fun z => by
    obtain ⟨o, e⟩ := R0.zx a z
    rw [hn] at e; cases e
  have hno : ¬ Ow own σ a := fun z => by
    obtain ⟨o, e⟩ := R0.ox a z
    rw [hn] at e; cases e
  have hi : i ∈ own := List.contains_iff_mem.mp ho
  have hO : ∀ b, Ow own (σ.set i (some (.ref a))) b → Ow own σ b ∨ b = a := fun b => by
    rintro ⟨j, q, e⟩
    by_cases hj : j = i
    · subst hj
      cases set_self e
      exact .inr rfl
    · rw [List.getElem?_set_ne (fun z => hj z.symm)] at e
      exact .inl ⟨j, q, e⟩
  have hZ : ∀ b, ZZ own (σ.set i (some (.ref a))) Z true b → ZZ own σ Z true b ∨ b = a := fun b h => by
    rcases h with h | ⟨h1, h2⟩
    · exact .inl (.inl h)
    · rcases hO b h2 with y | y
      · exact .inl (.inr ⟨h1, y⟩)
      · exact .inr y
  refine ⟨⟨R.wok, R.zx, fun b h => ?_, by rw [List.length_set, List.length_set, R.len], fun k t' e n => ?_, fun k t' e n => ?_, fun j l b hj' hl' e1 e2 => ?_⟩, hO⟩
  · rcases hO b h with y | y
    · exact R.ox b y
    · subst y; exact ⟨_, ha⟩
  · have hk : k ≠ i := fun z => n (z ▸ hi)
    rw [List.getElem?_set_ne (fun z => hk z.symm)] at e
    obtain ⟨v', h1, h2⟩ := R0.val k t' e n
    exact ⟨v', by rw [List.getElem?_set_ne (fun z => hk z.symm)]; exact h1, ((h2.add hn).step R0.wok s).mono hZ⟩
  · by_cases hk : k = i
    · subst hk
      have hlt := set_lt e
      cases set_self e
      exact ⟨a, xs, ts, by rw [List.getElem?_set_self (by rw [← R.len]; exact hlt)], rfl, ha, hw, hz, p.mono hZ⟩
    · rw [List.getElem?_set_ne (fun z => hk z.symm)] at e
      obtain ⟨b, xs', ts', h1, h2, h3, h4, h5, h6⟩ := R0.ow k t' e n
      refine ⟨b, xs', ts', by rw [List.getElem?_set_ne (fun z => hk z.symm)]; exact h1, h2, s.keep h3 h4, fun q => ?_, h5, ((h6.add hn).step R0.wok s).mono hZ⟩
      rcases s.so.new b q with y | y
      · exact h4 y
      · rw [h3] at y; cases y
  · by_cases hj : j = i
    · by_cases hl : l = i
      · rw [hj, hl]
      · subst hj
        rw [List.getElem?_set_ne (fun z => hl z.symm)] at e2
        have e3 := set_self e1
        cases e3
        exact absurd ⟨l, hl', e2⟩ hno
    · by_cases hl : l = i
      · subst hl
        rw [List.getElem?_set_ne (fun z => hj z.symm)] at e1
        have e3 := set_self e2
        cases e3
        exact absurd ⟨j, hj', e1⟩ hno
      · rw [List.getElem?_set_ne (fun z => hj z.symm)] at e1
        rw [List.getElem?_set_ne (fun z => hl z.symm)] at e2
        exact R.inj j l b hj' hl' e1 e2
theorem RelS.setOwn {i : Nat} {a : Addr} {xs : List V} {ts : List T} (R : RelS K own F W env σ H) (s : Step W H W1 H1) (hn : H a = none) (ho : own.contains i = true) (ha : H1 a = some (.lst xs)) (hw : ¬ W1 a)
    (p : RpA K W1 (fun b => ZZ own σ F.Z0 true b ∨ b = a) H1 xs ts) : RelS K own F W1 (env.set i (some (.lst ts))) (σ.set i (some (.ref a))) H1 ∧ StepO W (Ow own σ) H W1 (Ow own (σ.set i (some (.ref a)))) H1 := by
  obtain ⟨h1, h2⟩ := R.e.setOwn s hn ho ha hw p
  have k : StepO W (Ow own σ) H W1 (Ow own (σ.set i (some (.ref a)))) H1 := by
    refine ⟨fun b o h w _ => s.keep h w, s.so.sub, s.so.new, fun b q => ?_, s.so.dom⟩
    rcases h2 b q with y | y
    · exact .inl y
    · subst y; exact .inr hn
  exact ⟨⟨h1, R.s.trans k⟩, k⟩
/-- one of the frame's own lists is changed -/
theorem RelE.chgOwn {Z : Addr → Prop} {i : Nat} {a : Addr} {xs0 xs : List V} {ts : List T} (R : RelE K own W Z env σ H) (ho : own.contains i = true) (hs : σ[i]? = some (some (.ref a))) (ha : H a = some (.lst xs0)) (hw : ¬ W a) (hz : ¬ Z a)
    (p : RpA K W (ZZ own σ Z true) H xs ts) : RelE K own W Z (env.set i (some (.lst ts))) σ (upd H a (.lst xs)) := by
  have hi : i ∈ own := List.contains_iff_mem.mp ho
  have hOa : Ow own σ a := ⟨i, hi, hs⟩
  have hZa : ZZ own σ Z true a := .inr ⟨rfl, hOa⟩
  refine ⟨fun b q => ?_, fun b h => ?_, fun b h => ?_, by rw [List.length_set, R.len], fun k t' e n => ?_, fun k t' e n => ?_, R.inj⟩
  · obtain ⟨g, c, d, e⟩ := R.wok b q
    exact ⟨g, c, d, by rw [upd_ne (fun z => hw (by rw [← z]; exact q))]; exact e⟩
  · obtain ⟨o, e⟩ := R.zx b h
    by_cases z : b = a
    · subst z; exact ⟨_, upd_same⟩
    · exact ⟨o, by rw [upd_ne z]; exact e⟩
  · obtain ⟨o, e⟩ := R.ox b h
    by_cases z : b = a
    · subst z; exact ⟨_, upd_same⟩
    · exact ⟨o, by rw [upd_ne z]; exact e⟩
  · have hk : k ≠ i := fun z => n (z ▸ hi)
    rw [List.getElem?_set_ne (fun z => hk z.symm)] at e
    obtain ⟨v', h1, h2⟩ := R.val k t' e n
    exact ⟨v', h1, h2.chg ha hw hZa⟩
  · by_cases hk : k = i
    · subst hk
      cases set_self e
      exact ⟨a, xs, ts, hs, rfl, upd_same, hw, hz, p.chg ha hw hZa⟩
    · rw [List.getElem?_set_ne (fun z => hk z.symm)] at e
      obtain ⟨b, xs', ts', h1, h2, h3, h4, h5, h6⟩ := R.ow k t' e n
      have hb : b ≠ a := fun z => hk (R.inj k i a n hi (z ▸ h1) hs)
      exact ⟨b, xs', ts', h1, h2, by rw [upd_ne hb]; exact h3, h4, h5, h6.chg ha hw hZa⟩
end
end Tw

namespace Tw
open PySem
open PySem.Spec PyProof.Rows L2
/-- a list that is new: none of what stood ahead of it knows it -/
def liftF (K : PySem.W.Frag) (own : List Nat) (r : TR) : TE := fun σ H Q => ∃ (W Z : Addr → Prop) (env : TEnv) (Qt : T → Prop), RelE K own W Z env σ H ∧ r env Qt ∧
  ∀ u, Qt u → ∀ a xs ts H' W', u = .lst ts → Step W H W' H' → H a = none → H' a = some (.lst xs) → ¬ W' a → RpA K W' (fun b => ZZ own σ Z true b ∨ b = a) H' xs ts → Q (.ref a) H'
structure PFt (X : Cx) (own : List Nat) (e : Expr) (r : TR) : Prop where
  pe : PE X e (liftF X.K own r)
theorem putNew {K : PySem.W.Frag} {W Zc : Addr → Prop} {H : Hp} {p : Addr} {xs : List V} {ts : List T} (w : WOk W H) (hp : H p = none) (r : RpA K W Zc H xs ts) :
    Step W H W (upd H p (.lst xs)) ∧ (upd H p (.lst xs)) p = some (.lst xs) ∧ ¬ W p ∧ RpA K W (fun b => Zc b ∨ b = p) (upd H p (.lst xs)) xs ts :=
  ⟨Step.put w hp, upd_same, (fun z => by
    obtain ⟨_, _, _, e⟩ := w p z
    rw [hp] at e
    cases e), (r.add hp).step w (Step.put w hp)⟩
section
variable {X : Cx} {own : List Nat} {a b : Expr} {ra rb : TR} {c1 t1 c2 t2 : Bool} {pos : Pos}
theorem ef_lst {es : List Expr} {rs : TL} (h : PAt X own true es rs) : PFt X own (.List es pos) (rLst rs) := by
  refine ⟨peImp (pe_lst h.pa) fun σ H Q h => ?_⟩
  obtain ⟨W, Z, env, Qt, R, h, k⟩ := h
  refine ⟨W, Z, env, _, R, h, fun us hus vs H1 W1 s1 p1 => ⟨by rw [p1.length, fit]; exact hus.1, fun p hp => ?_⟩⟩
  obtain ⟨z1, z2, z3, z4⟩ := putNew s1.ok hp p1
  exact k _ hus.2 p _ _ _ W1 rfl (s1.trans z1) (s1.so.none_of hp) z2 z3 z4
/-- list(xs) -/
theorem ef_list {x : Str} {p : Pos} (hg : Gl X x) (hm : X.mg x = none) (hv : bootBuiltins x = some (.type "list")) (ha : PEt X own true t1 a ra)
    (hs : starEach [a] X.env = (false, eval a X.env) :: starEach [] X.env := by rfl) (hn : x ≠ "__name__" := by decide) (hdb : (x == ("__debug__" : Str)) = false := by decide)
    (hpl : (backTo pos (starEach [] X.env)).any (·.1) = false := by rfl) : PFt X own (.Call (.Name x p) [a] [] pos) (rUn uList ra) := by
  refine ⟨peImp (pe_callTy call_list_of hg hm hv (pa_cons ha.pe pa_nil hs) hn hdb hs hpl) fun σ H Q h => ?_⟩
  obtain ⟨W, Z, env, Qt, R, h, k⟩ := h
  refine ⟨W, Z, env, _, R, h, fun u hu v H1 W1 s1 p1 => ?_⟩
  match u, hu with
  | .lst ts, hu =>
    obtain ⟨q, xs, rfl, e, _, _, r⟩ := p1.parts
    refine ⟨q, xs, rfl, .inl (.of e), fun l hl => ?_⟩
    obtain ⟨z1, z2, z3, z4⟩ := putNew s1.ok hl r
    exact k _ hu l _ _ _ W1 rfl (s1.trans z1) (s1.so.none_of hl) z2 z3 z4
  | .tup ts, hu =>
    obtain ⟨q, xs, rfl, e, r⟩ := p1.tupI
    refine ⟨q, xs, rfl, .inr e, fun l hl => ?_⟩
    obtain ⟨z1, z2, z3, z4⟩ := putNew s1.ok hl r
    exact k _ hu l _ _ _ W1 rfl (s1.trans z1) (s1.so.none_of hl) z2 z3 z4
/-- xs * k, xs + ys -/
def fMul : T → T → (T → Prop) → Prop
  | .lst xs, .int k, Q => -(2 ^ 63) ≤ k ∧ k < 2 ^ 63 ∧ xs.length * k.toNat ≤ lim ∧ Q (.lst (List.replicate k.toNat xs).flatten)
  | _, _, _ => False
def fAdd : T → T → (T → Prop) → Prop
  | .lst xs, .lst ys, Q => xs.length + ys.length ≤ lim ∧ Q (.lst (xs ++ ys))
  | _, _, _ => False
theorem ef_mul (ha : PEt X own true t1 a ra) (hb : PEt X own c2 t2 b rb) : PFt X own (.BinOp a .Mult b pos) (rOp fMul ra rb) := by
  refine ⟨peImp (pe_op op_rep ha.pe hb.pe) fun σ H Q h => ?_⟩
  obtain ⟨W, Z, env, Qt, R, h, k⟩ := h
  refine ⟨W, Z, env, _, R, h, fun u hu v H1 W1 s1 p1 => ⟨W1, Z, env, _, R.step s1, hu, fun u2 hu2 v2 H2 W2 s2 p2 => ?_⟩⟩
  match u, u2, hu2 with
  | .lst ts, .int j, ⟨h1, h2, h3, q⟩ =>
    obtain ⟨q0, xs, rfl, e, _, _, r⟩ := (p1.step s1.ok s2).parts
    cases p2
    refine ⟨_, _, xs, rfl, rfl, e, h1, h2, by rw [r.length, fit]; exact h3, fun l hl => ?_⟩
    obtain ⟨z1, z2, z3, z4⟩ := putNew s2.ok hl (r.rep j.toNat)
    exact k _ q l _ _ _ W2 rfl ((s1.trans s2).trans z1) ((s1.trans s2).so.none_of hl) z2 z3 z4
theorem ef_add (ha : PEt X own true t1 a ra) (hb : PEt X own true t2 b rb) : PFt X own (.BinOp a .Add b pos) (rOp fAdd ra rb) := by
  refine ⟨peImp (pe_op op_cat ha.pe hb.pe) fun σ H Q h => ?_⟩
  obtain ⟨W, Z, env, Qt, R, h, k⟩ := h
  refine ⟨W, Z, env, _, R, h, fun u hu v H1 W1 s1 p1 => ⟨W1, Z, env, _, R.step s1, hu, fun u2 hu2 v2 H2 W2 s2 p2 => ?_⟩⟩
  match u, u2, hu2 with
  | .lst ts, .lst us, ⟨h1, q⟩ =>
    obtain ⟨q0, xs, rfl, e, _, _, r⟩ := (p1.step s1.ok s2).parts
    obtain ⟨q1, ys, rfl, e1, _, _, r1⟩ := p2.parts
    refine ⟨_, _, xs, ys, rfl, rfl, e, e1, by rw [r.length, r1.length, fit]; exact h1, fun l hl => ?_⟩
    obtain ⟨z1, z2, z3, z4⟩ := putNew s2.ok hl (r.app r1)
    exact k _ q l _ _ _ W2 rfl ((s1.trans s2).trans z1) ((s1.trans s2).so.none_of hl) z2 z3 z4
/-- xs[i:j] of a list -/
def fCut : T → Option Int → Option Int → (T → Prop) → Prop
  | .lst ts, lo, hi, Q => Q (.lst (cutT ts lo hi))
  | _, _, _, _ => False
def rCutF (ra : TR) (rl rh : TO) : TR := fun env Q => ra env fun x => rl env fun lo => rh env fun hi => fCut x lo hi Q
theorem ef_cut {lo hi : Option Expr} {rl rh : TO} {p2 : Pos} (ha : PEt X own true t1 a ra) (hl : POt X own lo rl) (hh : POt X own hi rh) : PFt X own (.Subscript a (.Slice lo hi none p2) pos) (rCutF ra rl rh) := by
  refine ⟨peImp (pe_slice sl_list ha.pe hl.po hh.po) fun σ H Q h => ?_⟩
  obtain ⟨W, Z, env, Qt, R, h, k⟩ := h
  refine ⟨W, Z, env, _, R, h, fun u hu v H1 W1 s1 p1 => ⟨W1, Z, env, _, R.step s1, hu, fun l hl H2 W2 s2 => ⟨W2, Z, env, _, (R.step s1).step s2, hl, fun m hm H3 W3 s3 => ?_⟩⟩⟩
  match u, hm with
  | .lst ts, hm =>
    obtain ⟨q0, xs, rfl, e, _, _, r⟩ := ((p1.step s1.ok s2).step s2.ok s3).parts
    refine ⟨_, xs, rfl, .of e, fun l' hl' => ?_⟩
    obtain ⟨z1, z2, z3, z4⟩ := putNew s3.ok hl' (r.cut l m)
    exact k _ hm l' _ _ _ W3 rfl (((s1.trans s2).trans s3).trans z1) (((s1.trans s2).trans s3).so.none_of hl') z2 z3 z4
end

/-! ### blocks -/
section
variable {X : Cx} {own : List Nat} {a b : Expr} {ra rb : TR} {rc : TB} {c1 t1 c2 t2 : Bool} {pos : Pos} {st : Stmt} {sts : List Stmt} {r u : TSt}
def sNext : TSt := fun D env => D.nx env
def sSeq (r u : TSt) : TSt := fun D env => r { D with nx := u D } env
theorem bs_nil : PBt X own [] sNext := ⟨fun F => pssImp pss_nil fun D σ H ⟨W, env, Dt, R, h, k⟩ => k.nx env h σ H W R (StepO.refl _ _ _)⟩
theorem bs_cons (h1 : PSt X own st r) (h2 : PBt X own sts u) : PBt X own (st :: sts) (sSeq r u) := by
  refine ⟨fun F => pssImp (pss_cons (h1.ps F) (h2.ps F)) fun D σ H h => ?_⟩
  obtain ⟨W, env, Dt, R, h, k⟩ := h
  refine ⟨W, env, { Dt with nx := u Dt }, R, h, ⟨fun env' h' σ' H' W' R' s => ?_, k.bk, k.ct, k.rt, k.rn⟩⟩
  exact ⟨W', env', Dt, R', h', k.from s⟩
theorem bs_one (h1 : PSt X own st r) : PBt X own [st] r := ⟨fun F => pssImp (pss_one (h1.ps F)) fun _ _ _ h => h⟩
theorem st_pass : PSt X own (.Pass pos) sNext := ⟨fun F => psImp ps_pass fun D σ H ⟨W, env, Dt, R, h, k⟩ => k.nx env h σ H W R (StepO.refl _ _ _)⟩
def sBreak : TSt := fun D env => D.bk env
def sCont : TSt := fun D env => D.ct env
theorem st_break : PSt X own (.Break pos) sBreak := ⟨fun F => psImp ps_break fun D σ H ⟨W, env, Dt, R, h, k⟩ => k.bk env h σ H W R (StepO.refl _ _ _)⟩
theorem st_cont : PSt X own (.Continue pos) sCont := ⟨fun F => psImp ps_continue fun D σ H ⟨W, env, Dt, R, h, k⟩ => k.ct env h σ H W R (StepO.refl _ _ _)⟩
def sNever : TSt := fun _ _ => False
theorem st_never : PSt X own st sNever := ⟨fun F => psImp ps_never fun D σ H ⟨W, env, Dt, R, h, k⟩ => h.elim⟩
theorem bs_never : PBt X own sts sNever := ⟨fun F => pssImp pss_never fun D σ H ⟨W, env, Dt, R, h, k⟩ => h.elim⟩
def sRet (ra : TR) : TSt := fun D env => ra env D.rt
theorem st_ret (ha : PEt X own c1 t1 a ra) : PSt X own (.Return (some a) pos) (sRet ra) := by
  refine ⟨fun F => psImp (ps_ret ha.pe) fun D σ H h => ?_⟩
  obtain ⟨W, env, Dt, R, h, k⟩ := h
  refine ⟨W, F.Z0, env, _, R.e, h, fun u hu v H' W' s p => ?_⟩
  exact k.rt u hu v H' W' (R.step s).out ((p.mono (Zt' := F.Z0) (Zc' := F.Z0) ZZ.z ZZ.z).rp)
def sRetN : TSt := fun D _ => D.rt .non
theorem st_retN : PSt X own (.Return none pos) sRetN := ⟨fun F => psImp ps_retN fun D σ H ⟨W, env, Dt, R, h, k⟩ => k.rt _ h _ H W R.out .non⟩
def sDrop (ra : TR) : TSt := fun D env => ra env fun _ => D.nx env
theorem st_expr (ha : PEt X own c1 t1 a ra) (hs : swapsWith a none pos.line X.env = pure false := by rfl) : PSt X own (.Expr a pos) (sDrop ra) := by
  refine ⟨fun F => psImp (ps_expr ha.pe hs) fun D σ H h => ?_⟩
  obtain ⟨W, env, Dt, R, h, k⟩ := h
  exact ⟨W, F.Z0, env, _, R.e, h, fun u hu v H' W' s p => k.nx env hu σ H' W' (R.step s) s.so.wid⟩
def sIf (rc : TB) (r u : TSt) : TSt := fun D env => rc env fun b => if b = true then r D env else u D env
theorem st_if {x y : List Stmt} (hc : PTt X own a rc) (h1 : PBt X own x r) (h2 : PBt X own y u) : PSt X own (.If a x y pos) (sIf rc r u) := by
  refine ⟨fun F => psImp (ps_if hc.pt (h1.ps F) (h2.ps F)) fun D σ H h => ?_⟩
  obtain ⟨W, env, Dt, R, h, k⟩ := h
  refine ⟨W, F.Z0, env, _, R.e, h, fun b hb H' W' s => ?_⟩
  cases b with
  | true => exact iteT ⟨W', env, Dt, R.step s, by simpa using hb, k.from s.so.wid⟩
  | false => exact iteF ⟨W', env, Dt, R.step s, by simpa using hb, k.from s.so.wid⟩
def sSet (i : Nat) (ra : TR) : TSt := fun D env => ra env fun u => D.nx (env.set i (some u))
theorem after_set {F : FrD} {D : Ends} {Dt : EndsT} {W W' : Addr → Prop} {env : TEnv} {σ : St} {H H' : Hp} {i : Nat} {v : V} {u : T} (R : RelS X.K own F W env σ H) (k : DOk X.K own F W σ H Dt D) (ho : own.contains i = false)
    (s : Step W H W' H') (p : Rp X.K W' (ZZ own σ F.Z0 true) H' v u) (hu : Dt.nx (env.set i (some u))) : D.nx (σ.set i (some v)) H' := by
  obtain ⟨R2, s2⟩ := (R.step s).set ho p
  exact k.nx _ hu _ H' W' R2 (s.so.wid.trans s2)
/-- x = e, x none of the frame's own lists -/
theorem st_set (i : Nat) {x : Str} {pos' : Pos} (hN : X.N.Nodup) (hi : X.N[i]? = some x) (hx : Loc X.env.scope x) (ho : own.contains i = false) (ha : PEt X own true true a ra) (hs : swapsWith a (some (.Name x pos')) pos.line X.env = pure false := by rfl)
    (hf : X.fn x = true ∨ X.env.scope.names.lookup x = some .local := by first | exact .inl rfl | exact .inr rfl | assumption) : PSt X own (.Assign [.Name x pos'] a pos) (sSet i ra) := by
  refine ⟨fun F => psImp (ps_set hN hi hx ha.pe hs hf) fun D σ H h => ?_⟩
  obtain ⟨W, env, Dt, R, h, k⟩ := h
  exact ⟨W, F.Z0, env, _, R.e, h, fun u hu v H' W' s p => after_set R k ho s p.rp hu⟩
/-- x = a new list, x one of the frame's own -/
theorem st_setF (i : Nat) {x : Str} {pos' : Pos} (hN : X.N.Nodup) (hi : X.N[i]? = some x) (hx : Loc X.env.scope x) (ho : own.contains i = true) (ha : PFt X own a ra) (hs : swapsWith a (some (.Name x pos')) pos.line X.env = pure false := by rfl)
    (hf : X.fn x = true ∨ X.env.scope.names.lookup x = some .local := by first | exact .inl rfl | exact .inr rfl | assumption) : PSt X own (.Assign [.Name x pos'] a pos) (sSet i ra) := by
  refine ⟨fun F => psImp (ps_set hN hi hx ha.pe hs hf) fun D σ H h => ?_⟩
  obtain ⟨W, env, Dt, R, h, k⟩ := h
  refine ⟨W, F.Z0, env, _, R.e, h, fun u hu q xs ts H' W' e s hn hq hw p => ?_⟩
  subst e
  obtain ⟨R2, s2⟩ := R.setOwn s hn ho hq hw p
  exact k.nx _ hu _ H' W' R2 s2
/-- x[i] = e, x one of the frame's own -/
def sPut (i : Nat) (ri ra : TR) : TSt := fun D env => ra env fun u => ∃ ts, env[i]? = some (some (.lst ts)) ∧ ri env fun w => ∃ k j, w = .int k ∧ ixN ts.length k = some j ∧ D.nx (env.set i (some (.lst (ts.set j u))))
theorem after_chg {F : FrD} {D : Ends} {Dt : EndsT} {W W' : Addr → Prop} {env : TEnv} {σ : St} {H H' : Hp} {i : Nat} {a : Addr} {xs0 xs : List V} {ts : List T} (R : RelS X.K own F W env σ H) (k : DOk X.K own F W σ H Dt D) (ho : own.contains i = true)
    (s : Step W H W' H') (hs : σ[i]? = some (some (.ref a))) (ha : H' a = some (.lst xs0)) (hw : ¬ W' a) (hz : ¬ F.Z0 a) (p : RpA X.K W' (ZZ own σ F.Z0 true) H' xs ts) (hu : Dt.nx (env.set i (some (.lst ts)))) : D.nx σ (upd H' a (.lst xs)) := by
  have R1 := R.step s
  have R2 := R1.e.chgOwn ho hs ha hw hz p
  have hOa : Ow own σ a := ⟨i, List.contains_iff_mem.mp ho, hs⟩
  have s2 : StepO W' (Ow own σ) H' W' (Ow own σ) (upd H' a (.lst xs)) := by
    refine ⟨fun b o h _ n => ?_, fun _ h => h, fun _ h => .inl h, fun _ h => .inl h, fun b o h => ?_⟩
    · rw [upd_ne (fun z => n (by rw [z]; exact hOa))]; exact h
    · by_cases z : b = a
      · subst z; exact ⟨_, upd_same⟩
      · exact ⟨o, by rw [upd_ne z]; exact h⟩
  exact k.nx _ hu _ _ W' ⟨R2, R1.s.trans s2⟩ (s.so.wid.trans s2)
theorem st_put (i : Nat) {x : Str} {p1 p2 : Pos} (hN : X.N[i]? = some x) (hv : Vis X.env.scope x) (ho : own.contains i = true) (hi : PEt X own c2 t2 b rb) (ha : PEt X own true true a ra)
    (hs : swapsWithSole [.Subscript (.Name x p1) b p2] a pos.line X.env = pure false := by rfl) (hw : swappedStores [.Subscript (.Name x p1) b p2] a X.env = pure none := by rfl)
    (h1 : (assignEach [.Subscript (.Name x p1) b p2] X.env).map (·.2) = [assign (.Subscript (.Name x p1) b p2) X.env] := by rfl)
    (hsub : ∀ v, assign (.Subscript (.Name x p1) b p2) X.env v = (do
      let ov ← holding [v] (eval (.Name x p1) X.env)
      let iv ← holding [v, ov] (eval b X.env)
      standAt p2; holding [v, ov, iv] (setItem ov iv v)
      release [v, ov, iv] []) := by intro _; rfl) (hd : (x == ("__debug__" : Str)) = false := by decide) (hcd : (x == ("__classdict__" : Str)) = false := by decide) :
    PSt X own (.Assign [.Subscript (.Name x p1) b p2] a pos) (sPut i rb ra) := by
  refine ⟨fun F => psImp (ps_asg ha.pe (pg_sub (pe_var hN hv hd hcd) hi.pe set_list hsub) hs hw h1) fun D σ H h => ?_⟩
  obtain ⟨W, env, Dt, R, h, k⟩ := h
  refine ⟨W, F.Z0, env, _, R.e, h, fun u hu v H1 W1 s1 p1 => ?_⟩
  obtain ⟨ts, et, hu⟩ := hu
  have R1 := R.step s1
  obtain ⟨q, xs0, ts0, e1, e2, _, _, _, _⟩ := R1.e.ow i _ et (List.contains_iff_mem.mp ho)
  cases e2
  refine ⟨_, e1, W1, F.Z0, env, _, R1.e, hu, fun w hw' v3 H3 W3 s3 p3 => ?_⟩
  obtain ⟨kk, j, rfl, hj, hn⟩ := hw'
  cases p3
  obtain ⟨q', xs, ts1, e1', e2', e3, e4, e5, e6⟩ := (R1.e.step s3).ow i _ et (List.contains_iff_mem.mp ho)
  cases e2'
  rw [e1] at e1'
  cases e1'
  refine ⟨q, xs, kk, j, rfl, rfl, e3, by rw [e6.length]; exact hj, ?_⟩
  exact after_chg R k ho (s1.trans s3) e1 e3 e4 e5 (e6.set (p1.rp.step s1.ok s3) j) hn
/-- x.append(e), x.pop() as statements -/
def sApp (i : Nat) (ra : TR) : TSt := fun D env => ∃ ts, env[i]? = some (some (.lst ts)) ∧ ra env fun u => ts.length < lim ∧ D.nx (env.set i (some (.lst (ts ++ [u]))))
theorem st_app (i : Nat) {x : Str} {p1 p2 p3 : Pos} (hN : X.N[i]? = some x) (hv : Vis X.env.scope x) (ho : own.contains i = true) (ha : PEt X own true true a ra)
    (hbase : attributeBase (.Name x p1) "append" X.env (eval (.Name x p1) X.env) = eval (.Name x p1) X.env := by rfl)
    (hfew : ((backTo p3 (starEach [a] X.env)).all (fun x => !x.1) && (backToKw p3 (keywordEach [] X.env)).all (fun x => x.1.isSome)
      && decide ([a].length + ([] : List Keyword).length + (if ([] : List Keyword).isEmpty then 0 else 1) < 30)) = true := by rfl)
    (hline : (p2.endLine == p3.line) = true := by rfl) (hst : starEach [a] X.env = (false, eval a X.env) :: starEach [] X.env := by rfl) (hplain : (backTo p3 (starEach [] X.env)).any (·.1) = false := by rfl)
    (hs : swapsWith (.Call (.Attribute (.Name x p1) "append" p2) [a] [] p3) none pos.line X.env = pure false := by rfl) (hd : (x == ("__debug__" : Str)) = false := by decide) (hcd : (x == ("__classdict__" : Str)) = false := by decide) :
    PSt X own (.Expr (.Call (.Attribute (.Name x p1) "append" p2) [a] [] p3) pos) (sApp i ra) := by
  refine ⟨fun F => psImp (ps_expr (pe_bm PySem.F.plainAttrs_list PySem.F.slot_list_append PySem.F.type_list_append mt_append (pe_var hN hv hd hcd) (pa_cons ha.pe pa_nil hst) hbase hfew hline hst hplain) hs) fun D σ H h => ?_⟩
  obtain ⟨W, env, Dt, R, h, k⟩ := h
  obtain ⟨ts, et, h⟩ := h
  obtain ⟨q, xs0, ts0, e1, e2, e3, _, _, _⟩ := R.e.ow i _ et (List.contains_iff_mem.mp ho)
  cases e2
  refine ⟨_, e1, .inl ⟨rfl, _, .of e3⟩, W, F.Z0, env, _, R.e, h, fun u hu v H1 W1 s1 p1 => ?_⟩
  obtain ⟨hl, hn⟩ := hu
  obtain ⟨q', xs, ts1, e1', e2', e3', e4, e5, e6⟩ := (R.e.step s1).ow i _ et (List.contains_iff_mem.mp ho)
  cases e2'
  rw [e1] at e1'
  cases e1'
  refine ⟨q, xs, v, rfl, rfl, e3', by rw [e6.length, fit]; exact hl, ?_⟩
  exact after_chg R k ho s1 e1 e3' e4 e5 (e6.snoc p1.rp) hn
def sPop (i : Nat) : TSt := fun D env => ∃ ts, env[i]? = some (some (.lst ts)) ∧ ts ≠ [] ∧ D.nx (env.set i (some (.lst ts.dropLast)))
theorem RpA.dropLast {K : PySem.W.Frag} {W Z : Addr → Prop} {H : Hp} {vs : List V} {ts : List T} (r : RpA K W Z H vs ts) : RpA K W Z H vs.dropLast ts.dropLast := by
  rw [List.dropLast_eq_take, List.dropLast_eq_take, r.length]
  exact r.take _
theorem st_pop (i : Nat) {x : Str} {p1 p2 p3 : Pos} (hN : X.N[i]? = some x) (hv : Vis X.env.scope x) (ho : own.contains i = true)
    (hbase : attributeBase (.Name x p1) "pop" X.env (eval (.Name x p1) X.env) = eval (.Name x p1) X.env := by rfl) (hline : (p2.endLine == p3.line) = true := by rfl)
    (hs : swapsWith (.Call (.Attribute (.Name x p1) "pop" p2) [] [] p3) none pos.line X.env = pure false := by rfl) (hd : (x == ("__debug__" : Str)) = false := by decide) (hcd : (x == ("__classdict__" : Str)) = false := by decide) :
    PSt X own (.Expr (.Call (.Attribute (.Name x p1) "pop" p2) [] [] p3) pos) (sPop i) := by
  refine ⟨fun F => psImp (ps_expr (pe_bm0 PySem.F.plainAttrs_list PySem.F.slot_list_pop PySem.F.type_list_pop mt_pop (pe_var hN hv hd hcd) hbase hline) hs) fun D σ H h => ?_⟩
  obtain ⟨W, env, Dt, R, h, k⟩ := h
  obtain ⟨ts, et, hne, hn⟩ := h
  obtain ⟨q, xs, ts0, e1, e2, e3, e4, e5, e6⟩ := R.e.ow i _ et (List.contains_iff_mem.mp ho)
  cases e2
  have hx : ∃ y, xs[xs.length - 1]? = some y := by
    have hl := e6.length
    have : 0 < ts.length := List.length_pos_iff.mpr hne
    exact ⟨xs[xs.length - 1]'(by omega), List.getElem?_eq_getElem (by omega)⟩
  obtain ⟨y, hy⟩ := hx
  exact ⟨_, e1, .inl ⟨rfl, _, .of e3⟩, q, xs, y, rfl, rfl, e3, hy, after_chg R k ho (Step.refl R.e.wok) e1 e3 e4 e5 e6.dropLast hn⟩
/-- while -/
def wIter (rc : TB) (r : TSt) (D : EndsT) : Nat → TEnv → Prop
  | 0, _ => False
  | n + 1, env => rc env fun b => if b = true then r { D with nx := wIter rc r D n, ct := wIter rc r D n, bk := D.nx } env else D.nx env
def sWhile (rc : TB) (r : TSt) : TSt := fun D env => ∃ n, wIter rc r D n env
theorem st_while {body : List Stmt} (hp : PassesOwn (model X.prog X.w) X.A X.env X.xe) (hc : PTt X own a rc) (hb : PBt X own body r) : PSt X own (.While a body [] pos) (sWhile rc r) := by
  refine ⟨fun F => psImp (ps_while hp hc.pt (hb.ps F)) fun D σ H h => ?_⟩
  obtain ⟨W, env, Dt, R, ⟨n, h⟩, k⟩ := h
  refine ⟨fun m σ' H' => ∃ W' env', RelS X.K own F W' env' σ' H' ∧ StepO W (Ow own σ) H W' (Ow own σ') H' ∧ wIter rc r Dt m env', ⟨n, W, env, R, StepO.refl _ _ _, h⟩, fun m σ1 H1 hW => ?_⟩
  obtain ⟨W1, env1, R1, s1, h1⟩ := hW
  cases m with
  | zero => exact h1.elim
  | succ m =>
    refine ⟨W1, F.Z0, env1, _, R1.e, h1, fun b hb H2 W2 s2 => ?_⟩
    have R2 := R1.step s2
    have s12 := s1.trans s2.so.wid
    cases b with
    | false => exact iteF (k.nx _ (by simpa using hb) _ _ _ R2 s12)
    | true =>
      refine iteT ⟨fun σ3 H3 => ∃ W3 env3, RelS X.K own F W3 env3 σ3 H3 ∧ StepO W (Ow own σ) H W3 (Ow own σ3) H3 ∧ wIter rc r Dt m env3, fun σ3 H3 ⟨W3, env3, a1, a2, a3⟩ => ⟨m, Nat.lt_succ_self m, W3, env3, a1, a2, a3⟩, ?_⟩
      refine ⟨W2, env1, { Dt with nx := wIter rc r Dt m, ct := wIter rc r Dt m, bk := Dt.nx }, R2, by simpa using hb, ⟨fun env3 h3 σ3 H3 W3 R3 s3 => ⟨W3, env3, R3, s12.trans s3, h3⟩, fun env3 h3 σ3 H3 W3 R3 s3 => k.nx _ h3 _ _ _ R3 (s12.trans s3), fun env3 h3 σ3 H3 W3 R3 s3 => ⟨W3, env3, R3, s12.trans s3, h3⟩, k.rt, k.rn⟩⟩
/-! ### targets -/
def liftG (K : PySem.W.Frag) (own sl : List Nat) (g : T → TEnv → (TEnv → Prop) → Prop) : TG := fun v σ H Q => ∃ (W Z : Addr → Prop) (env : TEnv) (Qt : TEnv → Prop) (t : T), RelE K own W Z env σ H ∧ Rp K W (ZZ own σ Z true) H v t ∧ g t env Qt ∧
  ∀ env', Qt env' → ∀ σ', RelE K own W Z env' σ' H → (∀ a, Ow own σ' a ↔ Ow own σ a) → (∀ k, k ∉ sl → σ'[k]? = σ[k]?) → σ'.length = σ.length → Q σ' H
def liftGs (K : PySem.W.Frag) (own sl : List Nat) (g : List T → TEnv → (TEnv → Prop) → Prop) : TGs := fun vs σ H Q => ∃ (W Z : Addr → Prop) (env : TEnv) (Qt : TEnv → Prop) (ts : List T), RelE K own W Z env σ H ∧ RpA K W (ZZ own σ Z true) H vs ts ∧ g ts env Qt ∧
  ∀ env', Qt env' → ∀ σ', RelE K own W Z env' σ' H → (∀ a, Ow own σ' a ↔ Ow own σ a) → (∀ k, k ∉ sl → σ'[k]? = σ[k]?) → σ'.length = σ.length → Q σ' H
structure PGt (X : Cx) (own sl : List Nat) (e : Expr) (g : T → TEnv → (TEnv → Prop) → Prop) : Prop where
  pg : PG X e (liftG X.K own sl g)
structure PGts (X : Cx) (own sl : List Nat) (es : List Expr) (g : List T → TEnv → (TEnv → Prop) → Prop) : Prop where
  pgs : PGs X es (liftGs X.K own sl g)
theorem pgImp {e : Expr} {t t' : TG} (h : PG X e t) (i : ∀ v σ H Q, t' v σ H Q → t v σ H Q) : PG X e t' := ⟨fun pins s σ H v u Q I r q => h.run pins s σ H v u Q I r (i _ _ _ _ q)⟩
theorem pgsImp {e : List Expr} {t t' : TGs} (h : PGs X e t) (i : ∀ v σ H Q, t' v σ H Q → t v σ H Q) : PGs X e t' := by
  exact ⟨fun pins s σ H vs us Q I r q => h.run pins s σ H vs us Q I r (i _ _ _ _ q)⟩
def gN (i : Nat) : T → TEnv → (TEnv → Prop) → Prop := fun t env Q => Q (env.set i (some t))
theorem gt_name (i : Nat) {x : Str} {pos : Pos} (hN : X.N.Nodup) (hi : X.N[i]? = some x) (hx : Loc X.env.scope x) (ho : own.contains i = false)
    (hf : X.fn x = true ∨ X.env.scope.names.lookup x = some .local := by first | exact .inl rfl | exact .inr rfl | assumption) : PGt X own [i] (.Name x pos) (gN i) := by
  refine ⟨pgImp (pg_name hN hi hx hf) fun v σ H Q h => ?_⟩
  obtain ⟨W, Z, env, Qt, t, R, p, h, k⟩ := h
  obtain ⟨R2, o2⟩ := R.set ho p
  exact k _ h _ R2 o2 (fun k hk => List.getElem?_set_ne fun z => hk (by simp [z])) (by rw [List.length_set])
def gNils : List T → TEnv → (TEnv → Prop) → Prop := fun ts env Q => ts = [] ∧ Q env
def gConss (g : T → TEnv → (TEnv → Prop) → Prop) (gs : List T → TEnv → (TEnv → Prop) → Prop) : List T → TEnv → (TEnv → Prop) → Prop := fun ts env Q => ∃ t r, ts = t :: r ∧ g t env fun env' => gs r env' Q
def gTups (n : Nat) (g : List T → TEnv → (TEnv → Prop) → Prop) : T → TEnv → (TEnv → Prop) → Prop := fun t env Q => ∃ ts, t = .tup ts ∧ ts.length = n ∧ g ts env Q
theorem gt_nil : PGts X own [] [] gNils := ⟨pgsImp pgs_nil fun vs σ H Q ⟨W, Z, env, Qt, ts, R, p, ⟨e, h⟩, k⟩ => by
  subst e
  cases p
  exact ⟨rfl, k _ h σ R (fun _ => Iff.rfl) (fun _ _ => rfl) rfl⟩⟩
theorem gt_cons {sl sl2 : List Nat} {e : Expr} {es : List Expr} {g : T → TEnv → (TEnv → Prop) → Prop} {gs : List T → TEnv → (TEnv → Prop) → Prop} (h1 : PGt X own sl e g) (h2 : PGts X own sl2 es gs)
    (hs : (assignEach (e :: es) X.env).map (·.2) = assign e X.env :: (assignEach es X.env).map (·.2) := by rfl) : PGts X own (sl ++ sl2) (e :: es) (gConss g gs) := by
  refine ⟨pgsImp (pgs_cons h1.pg h2.pgs hs) fun vs σ H Q h => ?_⟩
  obtain ⟨W, Z, env, Qt, ts, R, p, ⟨t, r, e, h⟩, k⟩ := h
  subst e
  cases p with
  | cons p1 p2 =>
    refine ⟨_, _, rfl, W, Z, env, _, t, R, p1, h, fun env' h' σ' R' o' f' l' => ?_⟩
    refine ⟨W, Z, env', _, r, R', p2.mono (fun a q => ?_), h', fun env2 h2 σ2 R2 o2 f2 l2 => k env2 h2 σ2 R2 (fun a => (o2 a).trans (o' a)) (fun j hj => ?_) (l2.trans l')⟩
    · rcases q with q | ⟨y, q⟩
      · exact .inl q
      · exact .inr ⟨y, (o' a).mp q⟩
    · rw [f2 j fun z => hj (List.mem_append_right _ z), f' j fun z => hj (List.mem_append_left _ z)]
end
end Tw

namespace Tw
open PySem
open PySem.Spec PyProof.Rows L2
section
variable {X : Cx} {own : List Nat} {a b : Expr} {ra rb rd : TR} {rc : TB} {c1 t1 c2 t2 : Bool} {pos : Pos} {st : Stmt} {sts : List Stmt} {r u : TSt}
theorem gt_tup {sl : List Nat} {es : List Expr} {k : Nat} {gs : List T → TEnv → (TEnv → Prop) → Prop} {n : Nat} (hc : X.calm = true) (h : PGts X own sl es gs)
    (hn : (assignEach es X.env).length = n := by rfl) (hst : (assignEach es X.env).findIdx? (·.1) = none := by rfl) : PGt X own sl (.Tuple es k pos) (gTups n gs) := by
  refine ⟨pgImp (pg_tup hc h.pgs hn hst) fun v σ H Q h => ?_⟩
  obtain ⟨W, Z, env, Qt, t, R, p, ⟨ts, e, hl, h⟩, k⟩ := h
  subst e
  cases p with
  | tup q r => exact ⟨_, _, rfl, q, by rw [r.length]; exact hl, W, Z, env, Qt, ts, R, r, h, k⟩
/-- a, b = e -/
def sAsg (g : T → TEnv → (TEnv → Prop) → Prop) (ra : TR) : TSt := fun D env => ra env fun u => g u env D.nx
theorem st_asg {sl : List Nat} {tg : Expr} {g : T → TEnv → (TEnv → Prop) → Prop} (hg : PGt X own sl tg g) (ha : PEt X own true true a ra) (hs : swapsWithSole [tg] a pos.line X.env = pure false := by rfl) (hw : swappedStores [tg] a X.env = pure none := by rfl)
    (h1 : (assignEach [tg] X.env).map (·.2) = [assign tg X.env] := by rfl) : PSt X own (.Assign [tg] a pos) (sAsg g ra) := by
  refine ⟨fun F => psImp (ps_asg ha.pe hg.pg hs hw h1) fun D σ H h => ?_⟩
  obtain ⟨W, env, Dt, R, h, k⟩ := h
  refine ⟨W, F.Z0, env, _, R.e, h, fun u hu v H' W' s p => ?_⟩
  refine ⟨W', F.Z0, env, _, u, R.e.step s, p.rp, hu, fun env' h' σ' R' o' _ _ => ?_⟩
  have s1 : StepO W (Ow own σ) H W' (Ow own σ') H' := s.so.wid.congr fun b q => (o' b).mp q
  exact k.nx env' h' σ' H' W' ⟨R', R.s.trans s1⟩ s1
/-- a, b = x, y, two plain names -/
def sPar (i j : Nat) (ra rb : TR) : TSt := fun D env => ra env fun u => rb env fun w => D.nx ((env.set i (some u)).set j (some w))
theorem st_par (i j : Nat) {x y : Str} {px py pt : Pos} {kt k2 pt2} (hc : X.calm = true) (hN : X.N.Nodup) (hi : X.N[i]? = some x) (hj : X.N[j]? = some y) (hij : i ≠ j)
    (hx : X.env.scope.names.lookup x = some .local) (hy : X.env.scope.names.lookup y = some .local) (ho1 : own.contains i = false) (ho2 : own.contains j = false) (ha : PEt X own true true a ra) (hb : PEt X own true true b rb) (hw : swappedStores [.Tuple [.Name x px, .Name y py] kt pt] (.Tuple [a, b] k2 pt2) X.env = pure (some [x, y]))
    (hs : swapsWithSole [.Tuple [.Name x px, .Name y py] kt pt] (.Tuple [a, b] k2 pt2) pos.line X.env = pure false := by rfl)
    (h1 : starEach [a, b] X.env = (false, eval a X.env) :: starEach [b] X.env := by rfl) (h2 : starEach [b] X.env = (false, eval b X.env) :: starEach [] X.env := by rfl) :
    PSt X own (.Assign [.Tuple [.Name x px, .Name y py] kt pt] (.Tuple [a, b] k2 pt2) pos) (sPar i j ra rb) := by
  refine ⟨fun F => psImp (ps_par hc hN hi hj hij hx hy (pa_cons ha.pe (pa_cons hb.pe pa_nil h2) h1) hw hs) fun D σ H h => ?_⟩
  obtain ⟨W, env, Dt, R, h, k⟩ := h
  refine ⟨W, F.Z0, env, _, R.e, h, fun u hu v H1 W1 s1 p1 => ⟨W1, F.Z0, env, _, R.e.step s1, hu, fun w hw v2 H2 W2 s2 p2 => ⟨v, v2, rfl, ?_⟩⟩⟩
  have R2 := (R.step s1).step s2
  obtain ⟨R3, s3⟩ := R2.set ho1 (p1.rp.step s1.ok s2)
  have hz : ∀ a, ZZ own (σ.set i (some v)) F.Z0 true a → ZZ own σ F.Z0 true a := fun b q => by
    rcases q with q | ⟨z, q⟩
    · exact .inl q
    · exact .inr ⟨z, ((R2.e.set ho1 (p1.rp.step s1.ok s2)).2 b).mp q⟩
  obtain ⟨R4, s4⟩ := R3.set ho2 (p2.rp.mono hz)
  exact k.nx _ hw _ _ _ R4 ((((s1.trans s2).so.wid).trans s3).trans s4)
end

/-! ### what is walked -/
/-- an iterator that gives the trees ts, while B stands (of the lists of draws, the frame's own lists, the heap) -/
structure ItOk (K : PySem.W.Frag) (Z : Addr → Prop) (J : It) (ts : List T) (B : (Addr → Prop) → (Addr → Prop) → Hp → Prop) : Prop where
  stay : ∀ W O H W' O' H', WOk W H → (∀ a, O a → ∃ xs, H a = some (.lst xs)) → B W O H → StepO W O H W' O' H' → B W' O' H'
  go : ∀ i W O H, B W O H → i < ts.length → J.go i H
  stop : ∀ W O H, B W O H → J.stop ts.length H
  yld : ∀ i W O H x H', WOk W H → B W O H → i < ts.length → J.yld i H x H' → ∃ t, ts[i]? = some t ∧ Step W H W H' ∧ Rp K W (fun a => Z a ∨ O a) H' x t
def liftI (K : PySem.W.Frag) (own : List Nat) (r : TL) : TI := fun σ H R => ∃ (W Z : Addr → Prop) (env : TEnv) (Qt : List T → Prop), RelE K own W Z env σ H ∧ r env Qt ∧
  ∀ ts, Qt ts → ∀ J H' W', Step W H W' H' → (∃ B, ItOk K Z J ts B ∧ B W' (Ow own σ) H') → R J H'
structure PIt (X : Cx) (own : List Nat) (tg iter : Expr) (r : TL) : Prop where
  pi : PI X tg iter (liftI X.K own r)
theorem piImp {X : Cx} {tg e : Expr} {t t' : TI} (h : PI X tg e t) (i : ∀ σ H Q, t' σ H Q → t σ H Q) : PI X tg e t' := ⟨fun pins s σ H Q I q => h.run pins s σ H Q I (i _ _ _ q)⟩
section
variable {K : PySem.W.Frag} {W W' O O' Z : Addr → Prop} {H H' : Hp}
mutual
theorem Rp.stepO (w : WOk W H) (o : ∀ a, O a → ∃ xs, H a = some (.lst xs)) (s : StepO W O H W' O' H') : ∀ {t : T} {v : V}, Rp K W (fun a => Z a ∨ O a) H v t → Rp K W' (fun a => Z a ∨ O' a) H' v t
  | .non, _, h => by cases h; exact .non
  | .bl _, _, h => by cases h; exact .bl _
  | .int _, _, h => by cases h; exact .int _
  | .str _, _, h => by cases h; exact .str _
  | .tup ts, _, h => by
    cases h with
    | tup q r =>
      refine .tup ?_ (RpA.stepO w o s r)
      rcases q with (q | ⟨ob, q⟩) | q
      · exact .inl (.inl (s.keep _ _ q (w.notTup q fun xs z => by cases z) fun z => by obtain ⟨_, e⟩ := o _ z; rw [q] at e; cases e))
      · exact .inl (.inr ⟨ob, s.keep _ _ q (w.notTup q fun xs z => by cases z) fun z => by obtain ⟨_, e⟩ := o _ z; rw [q] at e; cases e⟩)
      · exact .inr q
  | .lst ts, _, h => by
    cases h with
    | lst a b q r =>
      refine .lst (fun z => ?_) (fun z => ?_) (s.keep _ _ q a fun z => b (.inr z)) (RpA.stepO w o s r)
      · rcases s.new _ z with y | y
        · exact a y
        · rw [q] at y; cases y
      · rcases z with z | z
        · exact b (.inl z)
        · rcases s.own _ z with y | y
          · exact b (.inr y)
          · rw [q] at y; cases y
  | .wel, _, h => by cases h with | wel q => exact .wel (s.sub _ q)
  | .scr ns, _, h => by
    cases h with
    | scr q =>
      rcases q with ⟨ob, q⟩ | q
      · exact .scr (.inl ⟨ob, s.keep _ _ q (w.notTup q fun xs z => by cases z) fun z => by obtain ⟨_, e⟩ := o _ z; rw [q] at e; cases e⟩)
      · exact .scr (.inr q)
  | .d0, _, h => by
    cases h with
    | d0 a b q =>
      refine .d0 (fun z => ?_) (fun z => ?_) (s.keep _ _ q a fun z => b (.inr z))
      · rcases s.new _ z with y | y
        · exact a y
        · rw [q] at y; cases y
      · rcases z with z | z
        · exact b (.inl z)
        · rcases s.own _ z with y | y
          · exact b (.inr y)
          · rw [q] at y; cases y
  | .d1 k t, _, h => by
    cases h with
    | d1 a b q r =>
      refine .d1 (fun z => ?_) (fun z => ?_) (s.keep _ _ q a fun z => b (.inr z)) (Rp.stepO w o s r)
      · rcases s.new _ z with y | y
        · exact a y
        · rw [q] at y; cases y
      · rcases z with z | z
        · exact b (.inl z)
        · rcases s.own _ z with y | y
          · exact b (.inr y)
          · rw [q] at y; cases y
theorem RpA.stepO (w : WOk W H) (o : ∀ a, O a → ∃ xs, H a = some (.lst xs)) (s : StepO W O H W' O' H') : ∀ {ts : List T} {vs : List V}, RpA K W (fun a => Z a ∨ O a) H vs ts → RpA K W' (fun a => Z a ∨ O' a) H' vs ts
  | [], _, h => by cases h; exact .nil
  | t :: ts, _, h => by cases h with | cons a b => exact .cons (Rp.stepO w o s a) (RpA.stepO w o s b)
end
/-- ints do not change -/
theorem it_range {lo : Int} {n : Nat} : ItOk K Z (Itr lo n) ((List.range n).map fun i => T.int (lo + (i : Nat))) (fun _ _ _ => True) where
  stay := fun _ _ _ _ _ _ _ _ _ _ => trivial
  go := fun i _ _ _ _ h => by simpa [Itr] using h
  stop := fun _ _ _ _ => by simp [Itr]
  yld := fun i W O H x H' w _ hi y => by
    obtain ⟨e, e2⟩ := y
    subst e e2
    rw [List.length_map, List.length_range] at hi
    exact ⟨.int (lo + (i : Nat)), by rw [List.getElem?_map, List.getElem?_range hi]; rfl, Step.refl w, .int _⟩
def Rd1 (K : PySem.W.Frag) (Z : Addr → Prop) (a : Addr) (ts : List T) : (Addr → Prop) → (Addr → Prop) → Hp → Prop := fun W O H => ∃ xs, H a = some (.lst xs) ∧ ¬ W a ∧ ¬ O a ∧ RpA K W (fun b => Z b ∨ O b) H xs ts
def RdT (K : PySem.W.Frag) (Z : Addr → Prop) (a : Addr) (ts : List T) : (Addr → Prop) → (Addr → Prop) → Hp → Prop := fun W O H => ∃ xs, SqT K H a xs ∧ RpA K W (fun b => Z b ∨ O b) H xs ts
theorem Rd1.stay {a : Addr} {ts : List T} (w : WOk W H) (o : ∀ a, O a → ∃ xs, H a = some (.lst xs)) (h : Rd1 K Z a ts W O H) (s : StepO W O H W' O' H') : Rd1 K Z a ts W' O' H' := by
  obtain ⟨xs, e, n1, n2, r⟩ := h
  refine ⟨xs, s.keep _ _ e n1 n2, fun z => ?_, fun z => ?_, r.stepO w o s⟩
  · rcases s.new _ z with y | y
    · exact n1 y
    · rw [e] at y; cases y
  · rcases s.own _ z with y | y
    · exact n2 y
    · rw [e] at y; cases y
theorem RdT.stay {a : Addr} {ts : List T} (w : WOk W H) (o : ∀ a, O a → ∃ xs, H a = some (.lst xs)) (h : RdT K Z a ts W O H) (s : StepO W O H W' O' H') : RdT K Z a ts W' O' H' := by
  obtain ⟨xs, e, r⟩ := h
  have := Rp.stepO w o s (Rp.tup (a := a) e r)
  cases this with
  | tup q r => exact ⟨_, q, r⟩
theorem it_list {a : Addr} {ts : List T} : ItOk K Z (Itl K a) ts (Rd1 K Z a ts) where
  stay := fun _ _ _ _ _ _ w o b s => b.stay w o s
  go := fun i W O H ⟨xs, e, _, _, r⟩ h => by
    obtain ⟨v, h1, _⟩ := r.get (List.getElem?_eq_getElem h)
    exact ⟨xs, v, .of e, h1⟩
  stop := fun W O H ⟨xs, e, _, _, r⟩ => ⟨xs, .of e, by rw [r.length]; exact Nat.le_refl _⟩
  yld := fun i W O H x H' w ⟨xs, e, _, _, r⟩ hi y => by
    obtain ⟨e1, f⟩ := y
    subst e1
    obtain ⟨v, h1, h2⟩ := r.get (List.getElem?_eq_getElem hi)
    have := f xs (.of e)
    rw [h1] at this
    cases this
    exact ⟨_, List.getElem?_eq_getElem hi, Step.refl w, h2⟩
theorem it_tup {a : Addr} {ts : List T} : ItOk K Z (Itt K a) ts (RdT K Z a ts) where
  stay := fun _ _ _ _ _ _ w o b s => b.stay w o s
  go := fun i W O H ⟨xs, e, r⟩ h => by
    obtain ⟨v, h1, _⟩ := r.get (List.getElem?_eq_getElem h)
    exact ⟨xs, v, e, h1⟩
  stop := fun W O H ⟨xs, e, r⟩ => ⟨xs, e, by rw [r.length]; exact Nat.le_refl _⟩
  yld := fun i W O H x H' w ⟨xs, e, r⟩ hi y => by
    obtain ⟨e1, f⟩ := y
    subst e1
    obtain ⟨v, h1, h2⟩ := r.get (List.getElem?_eq_getElem hi)
    have := f xs e
    rw [h1] at this
    cases this
    exact ⟨_, List.getElem?_eq_getElem hi, Step.refl w, h2⟩
end
section
variable {X : Cx} {own : List Nat} {a b tg : Expr} {ra rb : TR} {rc : TB} {c1 t1 c2 t2 : Bool} {pos : Pos}
def iLst (ra : TR) : TL := fun env Q => ra env fun u => ∃ ts, u = .lst ts ∧ Q ts
def iTup (ra : TR) : TL := fun env Q => ra env fun u => ∃ ts, u = .tup ts ∧ Q ts
theorem it_l (ha : PEt X own true true a ra) : PIt X own tg a (iLst ra) := by
  refine ⟨piImp (pi_list ha.pe) fun σ H Q h => ?_⟩
  obtain ⟨W, Z, env, Qt, R, h, k⟩ := h
  refine ⟨W, Z, env, _, R, h, fun u hu v H1 W1 s1 p1 => ?_⟩
  obtain ⟨ts, rfl, hu⟩ := hu
  obtain ⟨q, xs, rfl, e, w1, z1, r⟩ := p1.parts
  exact ⟨q, rfl, ⟨xs, .of e⟩, k ts hu _ _ W1 s1 ⟨_, it_list, xs, e, w1, fun z => z1 (.inr ⟨rfl, z⟩), r.mono fun b q => by
    rcases q with q | q
    · exact .inl q
    · exact .inr ⟨rfl, q⟩⟩⟩
end
end Tw

namespace Tw
open PySem
open PySem.Spec PyProof.Rows L2
/-- b: a list; else a tuple -/
def SeqI (K : PySem.W.Frag) (b : Bool) (H : Hp) (a : Addr) (xs : List V) : Prop := if b = true then SqL K H a xs else SqT K H a xs
def IterAt (b : Bool) (h : Heap) (it a : Addr) (i : Nat) : Prop := if b = true then h.IsListIter it a i else h.IsTupleIter it a i
def IsSeq (b : Bool) (h : Heap) (a : Addr) (items : Array Value) : Prop := if b = true then h.IsList a items else h.IsTuple a items
def iterObj (b : Bool) (a : Addr) : Obj := if b = true then { cls := .type "list_iterator", data := .fields #[.ref a, .int 0 0] } else { cls := .type "tuple_iterator", data := .fields #[.ref a, .int 0 0] }
theorem draws (b : Bool) {prog : Program} {w : World} {A : Around} (hh : A.handled = none) (it t : Addr) (hne : t ≠ it) (items : Array Value) :
    Draws prog w A it [it, t] items.size (fun i v => items[i]? = some v) (fun i h => IterAt b h it t i ∧ IsSeq b h t items) := by
  cases b
  · exact Draws.tuple hh it t hne items
  · exact Draws.list hh it t hne items
theorem begins (b : Bool) (t : Addr) (items : Array Value) : Begins (.ref t) (iterObj b t) fun h => IsSeq b h t items := by
  cases b
  · exact begins_tuple t items
  · exact begins_list t items
theorem IterAt.at {b : Bool} {h h' : Heap} {it a : Addr} {i : Nat} (x : IterAt b h it a i) (k : ∀ o, h.get? it = some o → h'.get? it = some o) : IterAt b h' it a i := by
  cases b
  · exact Heap.IsTupleIter.at (show h.IsTupleIter it a i from x) k
  · exact Heap.IsListIter.at (show h.IsListIter it a i from x) k
theorem IterAt.ob {b : Bool} {h : Heap} {it a : Addr} {i : Nat} (x : IterAt b h it a i) : ∃ o, h.get? it = some o ∧ ∀ v, o.data ≠ .cell v := by
  cases b
  · obtain ⟨o, e, c, d⟩ := (show h.IsTupleIter it a i from x)
    exact (⟨o, e, fun v z => by rw [d] at z; cases z⟩)
  · obtain ⟨o, e, c, d⟩ := (show h.IsListIter it a i from x)
    exact (⟨o, e, fun v z => by rw [d] at z; cases z⟩)
theorem iterAt_new (b : Bool) {h : Heap} {it a : Addr} (e : h.get? it = some (iterObj b a)) : IterAt b h it a 0 := by
  cases b
  · exact (show h.IsTupleIter it a 0 from ⟨_, e, rfl, rfl⟩)
  · exact (show h.IsListIter it a 0 from ⟨_, e, rfl, rfl⟩)
theorem IsSeq.cls {b : Bool} {h : Heap} {a : Addr} {items : Array Value} (x : IsSeq b h a items) : ∃ o, h.get? a = some o ∧ (o.cls = .type "list" ∨ o.cls = .type "tuple") := by
  cases b
  · obtain ⟨o, e, c, _⟩ := (show h.IsTuple a items from x)
    exact ⟨o, e, .inr c⟩
  · obtain ⟨o, e, c, _⟩ := (show h.IsList a items from x)
    exact ⟨o, e, .inl c⟩
theorem IterAt.cls {b : Bool} {h : Heap} {it a : Addr} {i : Nat} (x : IterAt b h it a i) : ∃ o, h.get? it = some o ∧ (o.cls = .type "list_iterator" ∨ o.cls = .type "tuple_iterator") := by
  cases b
  · obtain ⟨o, e, c, _⟩ := (show h.IsTupleIter it a i from x)
    exact ⟨o, e, .inr c⟩
  · obtain ⟨o, e, c, _⟩ := (show h.IsListIter it a i from x)
    exact ⟨o, e, .inl c⟩
theorem ty_ne {x y : String} (h : x ≠ y) {o : Obj} (a : o.cls = .type x) (b : o.cls = .type y) : False := by
  rw [a] at b
  exact h (Value.type.inj b)
theorem seq_ne_iter {b c : Bool} {h : Heap} {it a l : Addr} {i : Nat} {items : Array Value} (x : IsSeq b h a items) (y : IterAt c h it l i) : a ≠ it := fun z => by
  subst z
  obtain ⟨o, e, c1⟩ := x.cls
  obtain ⟨o2, e2, c2⟩ := y.cls
  rw [e] at e2
  cases e2
  rcases c1 with c1 | c1 <;> rcases c2 with c2 | c2 <;> exact ty_ne (by decide) c1 c2
theorem seq_ne {b : Bool} {h : Heap} {e a : Addr} {items : Array Value} {n : String} {ob : Obj} (x : IsSeq b h a items) (y : h.get? e = some ob) (hn : ob.cls = .type n) (h1 : n ≠ "list") (h2 : n ≠ "tuple") : a ≠ e := fun z => by
  subst z
  obtain ⟨o, e, c1⟩ := x.cls
  rw [e] at y
  cases y
  rcases c1 with c1 | c1
  · exact ty_ne h1 hn c1
  · exact ty_ne h2 hn c1
section
variable {X : Cx} {pins : List (Addr × Obj)} {σ : St} {H : Hp} {s : Shared} {a : Addr} {xs ys : List V} {b : Bool}
theorem seqI_is (I : Inv X pins σ H s) (h : SeqI X.K b H a xs) : ∃ its : List Value, Vals xs its ∧ IsSeq b s.heap a its.toArray := by
  cases b
  · obtain ⟨its, r, p, _⟩ := I.tuple (show SqT X.K H a xs from h)
    exact ⟨its, r, p⟩
  · obtain ⟨its, r, p, _⟩ := I.list (show SqL X.K H a xs from h)
    exact ⟨its, r, p.isList⟩
theorem seqI_inj (I : Inv X pins σ H s) (h : SeqI X.K b H a xs) (h' : SeqI X.K b H a ys) : xs = ys := by
  cases b
  · exact I.tuple_inj (show SqT X.K H a xs from h) h'
  · exact I.list_inj (show SqL X.K H a xs from h) h'
theorem IsSeq.lt {h : Heap} {items : Array Value} (x : IsSeq b h a items) : a < h.objs.size := by
  cases b
  · obtain ⟨o, e, _⟩ := (show h.IsTuple a items from x)
    exact Heap.lt_size e
  · obtain ⟨o, e, _⟩ := (show h.IsList a items from x)
    exact Heap.lt_size e
theorem IsSeq.keeps {h h' : Heap} {items : Array Value} (x : IsSeq b h a items) (k : ∀ o, h.get? a = some o → h'.get? a = some o) : IsSeq b h' a items := by
  cases b
  · exact (show h.IsTuple a items from x).at k
  · exact (show h.IsList a items from x).at k
end
/-! ### enumerate -/
def Ien (K : PySem.W.Frag) (b : Bool) (a : Addr) : It :=
  ⟨fun i H => ∃ (xs : List V) (x : V), SeqI K b H a xs ∧ xs[i]? = some x, fun i H v H' => ∃ T x, v = .ref T ∧ H T = none ∧ H' = upd H T (.tup [.int (i : Nat), x]) ∧ ∀ xs, SeqI K b H a xs → xs[i]? = some x, fun i H => ∃ xs : List V, SeqI K b H a xs ∧ xs.length = i⟩
theorem turn_en {P : Program} {w : World} {K : PySem.W.Frag} {elts : List Expr} {kk : Nat} {tpos : Pos} (b : Bool) (a e it : Addr) :
    Turn P w K (.Tuple elts kk tpos) (Ien K b a) [e, it] e (fun i h => (∃ old, IsEnum h e it ((i : Nat) : Int) old) ∧ IterAt b h it a i ∧ e ≠ it) where
  mem := by simp
  obj := fun i h st c hc => by
    obtain ⟨⟨old, he⟩, hi, _⟩ := st
    rcases (show c = e ∨ c = it by simpa using hc) with z | z
    · subst z; exact ⟨_, he, fun v q => nomatch q⟩
    · subst z; exact hi.ob
  keep := fun i h h' st k => ⟨let ⟨old, he⟩ := st.1; ⟨old, k e (by simp) _ he⟩, st.2.1.at fun o q => k it (by simp) o q, st.2.2⟩
  item := by
    intro X hP hw hK hc i pins
    intro s σ H E I hf st hg
    subst hP hw hK
    obtain (⟨⟨old, he⟩, hit, hne⟩) := st
    obtain ⟨xs, x, hq, hx⟩ := hg
    obtain ⟨its, rv, p⟩ := seqI_is I hq
    obtain (⟨u, hu, ru⟩) := rv.get hx
    have hl := rv.length
    have hae : a ≠ e := seq_ne p he (n := "enumerate") rfl (by decide) (by decide)
    have hai : a ≠ it := seq_ne_iter p hit
    have hh : X.A.in1.handled = none := I.ok.hd hc
    have hef : e ∉ [it, a] := fun z => by
      rcases List.mem_cons.mp z with (z | z)
      · exact hne z
      · exact hae (List.mem_singleton.mp z).symm
    have hi : i < its.toArray.size := by
      rw [List.size_toArray, ← hl]
      rcases Nat.lt_or_ge i xs.length with q | q
      · exact q
      · rw [List.getElem?_eq_none_iff.mpr q] at hx; cases hx
    have Wk := WalksT.enumFrom (prog := X.prog) (w := X.w) (A := X.A) 0 (draws b hh it a hai its.toArray) e hne hef (List.mem_cons_self ..)
    have st0 : (∃ old, IsEnum s.heap e it (0 + (i : Int)) old) ∧ IterAt b s.heap it a i ∧ IsSeq b s.heap a its.toArray := ⟨⟨old, by rw [Int.zero_add]; exact he⟩, hit, p⟩
    refine Wk.item i s _ E hi st0 fun T vals h' tk hp hT hTup hmid hk => ⟨_, rfl, ?_⟩
    obtain ⟨t, y, hy, rfl⟩ := hp
    have ey : y = u := by
      have h1 : its.toArray[i]? = some y := hy
      rw [List.getElem?_toArray] at h1
      rw [hu] at h1
      exact ((Option.some.inj h1).symm)
    subst ey
    refine Wk.go elts kk tpos i T _ _ E hmid fun h'' st' hk' => ?_
    have hap := Wk.apart i T h' hmid
    obtain ⟨o, ho, hcl, n, hd⟩ := hTup
    have ho2 := hk' T o hap ho
    have new : ObjOk X.prog X.w (upd H T (.tup [.int (i : Nat), x])) h'' T (.tup [.int (i : Nat), x]) :=
      ⟨by show 2 ≤ sizeLine; decide, [.int (0 + (i : Int)) t, y], .cons ⟨t, by rw [Int.zero_add]⟩ (.cons ru .nil), o, ho2, hcl, n, hd⟩
    have I1 : Inv X pins σ (upd H T (.tup [.int (i : Nat), x])) { s with heap := h'', toks := tk } := I.turnedNew (ch := [e, it]) (fun c ob hc q => hk' c ob hc (hk c ob hc q)) hf hT new
    refine ⟨.ref T, _, I1, rfl, ⟨T, x, rfl, I.hok.fresh hT, rfl, fun ys hy => by rw [seqI_inj I hy hq]; exact hx⟩, ⟨?_, st'.2.1, hne⟩, fun c hc => ?_⟩
    · obtain ⟨⟨old', he'⟩, _⟩ := st'
      exact ⟨old', by rw [Int.zero_add] at he'; exact he'⟩
    · have q : c < s.heap.objs.size := by
        rcases (show c = e ∨ c = it by simpa using hc) with z | z
        · subst z; exact Heap.lt_size he
        · subst z; obtain ⟨_, q, _⟩ := hit.ob; exact Heap.lt_size q
      rw [upd_ne (Nat.ne_of_lt (Nat.lt_of_lt_of_le q hT))]
      exact (hf c hc).1
  done := by
    intro X hP hw hK hc i pins
    intro s σ H E I hf st hg
    subst hP hw hK
    obtain (⟨⟨old, he⟩, hit, hne⟩) := st
    obtain ⟨xs, hq, hx⟩ := hg
    obtain ⟨its, rv, p⟩ := seqI_is I hq
    have hl := rv.length
    have hae : a ≠ e := seq_ne p he (n := "enumerate") rfl (by decide) (by decide)
    have hai : a ≠ it := seq_ne_iter p hit
    have hh : X.A.in1.handled = none := I.ok.hd hc
    have hef : e ∉ [it, a] := fun z => by
      rcases List.mem_cons.mp z with (z | z)
      · exact hne z
      · exact hae (List.mem_singleton.mp z).symm
    have hi : i = its.toArray.size := by rw [List.size_toArray, ← hl, hx]
    subst hi
    have Wk := WalksT.enumFrom (prog := X.prog) (w := X.w) (A := X.A) 0 (draws b hh it a hai its.toArray) e hne hef (List.mem_cons_self ..)
    refine Wk.done s _ E ⟨⟨old, by rw [Int.zero_add]; exact he⟩, hit, p⟩ fun h' tk hk => ⟨rfl, I.turnedL (ch := [e, it]) (fun c o hc q => hk c o hc q) hf⟩
  self := fun _ _ _ _ _ at_ q => by
    obtain ⟨⟨_, z⟩, _⟩ := at_
    exact wpAny_pyIter_enum z q

def enObj (n : Addr) : Obj := { cls := .type "enumerate", data := .fields #[.none, .bool false, .ref n, rawInt 0, .none, .none] }
set_option maxHeartbeats 1000007 in
theorem en_new {v : Value} {o : Obj} {G : Heap → Prop} (B : Begins v o G) : Meets (Builtin.«enumerate.__new__» ⟨[.type "enumerate", v], []⟩) (fun _ R s => G s.heap ∧
      R (.ok (.ret (.ref (s.heap.push o).objs.size))) { s with heap := (s.heap.push o).push (enObj s.heap.objs.size) }) :=
  .of_wp fun pg w A R st hh => by
    obtain ⟨hp, g, d, tk, os⟩ := st
    obtain ⟨h1, h⟩ := hh
    have hsub := sub_enumerate
    have q1 : ∀ {A' : Around} {E Q : Value → Shared → Prop}, Q (.ref hp.objs.size) ⟨hp.push o, g, d, tk, os⟩ → wpAny (model pg w) A' (pyIter v) Q E ⟨hp, g, d, tk, os⟩ := fun q => B.iter pg w _ _ ⟨hp, g, d, tk, os⟩ _ h1 q
    wp_walk using q1
    refine (wpAny_stack_any fun st => wpAny_pure ?_)
    split
    · rename_i c _ _ _ _ _
      cases (c == Value.type "enumerate") <;> (wp_walk using q1; exact ⟨_, rfl, h⟩)
    · wp_walk using q1
      exact ⟨_, rfl, h⟩
theorem en_call {prog : Program} {w : World} {A : Around} {E Q : Value → Shared → Prop} {s : Shared} {v : Value} {o : Obj} {G : Heap → Prop} (B : Begins v o G) (h1 : G s.heap)
    (h : ∀ h', IsEnum h' (s.heap.objs.size + 1) s.heap.objs.size 0 .none → h'.get? s.heap.objs.size = some o → (∀ b o, s.heap.get? b = some o → h'.get? b = some o) →
      Q (.ref (s.heap.objs.size + 1)) { s with heap := h' }) : wpAny (model prog w) A (call (.type "enumerate") [v]) Q E s := by
  refine callType_new F.called_enumerate (by decide) (F.typeCall_enumerate_1 _) (F.newCall_enumerate_1 _) (fun ob => F.args_object_init_2 ob _) F.entry_enumerate_new (en_new B) ⟨h1, ?_⟩
  have hz : ((s.heap.push o).objs.size = s.heap.objs.size + 1) := Heap.size_push ..
  have he : IsEnum ((s.heap.push o).push (enObj s.heap.objs.size)) (s.heap.objs.size + 1) s.heap.objs.size 0 .none := by
    have := Heap.get?_push_size (s.heap.push o) (o := enObj s.heap.objs.size) rfl
    rw [hz] at this
    exact this
  show _ ∧ _
  rw [hz]
  exact ⟨⟨_, he, rfl⟩, h _ he (Heap.get?_push_of_some _ (Heap.get?_push_size _ B.free)) fun b o x => Heap.get?_push_of_some _ (Heap.get?_push_of_some _ x)⟩
def iEn (K : PySem.W.Frag) (ta : TE) : TI := fun σ H R => ta σ H fun v H1 => ∃ b a xs, v = .ref a ∧ SeqI K b H1 a xs ∧ R (Ien K b a) H1
theorem pi_en {X : Cx} {e : Expr} {ta : TE} {p pos tpos : Pos} {elts : List Expr} {kk : Nat} (hg : Gl X "enumerate") (hm : X.mg "enumerate" = none) (ha : PE X e ta)
    (hs : starEach [e] X.env = (false, eval e X.env) :: starEach [] X.env := by rfl) : PI X (.Tuple elts kk tpos) (.Call (.Name "enumerate" p) [e] [] pos) (iEn X.K ta) := by
  refine (⟨fun pins s σ H R I h => ?_⟩)
  refine Call_ (ld_blt I hg hm boot_enumerate (PyProof.Rows.callWith_type1 (args_cons (thn (ha.run pins s σ H _ I h) fun u s1 ⟨v, H1, I1, r1, q1⟩ => args_nil ?_) hs) hs rfl))
  obtain ⟨b, a, xs, rfl, hq, q⟩ := q1
  cases r1
  obtain ⟨its, rv, pp⟩ := seqI_is I1 hq
  refine en_call (begins b a its.toArray) pp fun h' he hit hk => wpAny_pyIter_enum he ?_
  refine ⟨s1.heap.objs.size + 1, [s1.heap.objs.size + 1, s1.heap.objs.size], _, _, H1, rfl, I1.kept (t' := s1.toks) hk, turn_en b a (s1.heap.objs.size + 1) s1.heap.objs.size, ⟨⟨.none, he⟩, iterAt_new b hit, Nat.succ_ne_self _⟩, fun c hc => ?_, q⟩
  have hle : (s1.heap.objs.size ≤ c) := by
    rcases (show c = s1.heap.objs.size + 1 ∨ c = s1.heap.objs.size by simpa using hc) with z | z
    · rw [z]; exact Nat.le_succ _
    · rw [z]; exact Nat.le_refl _
  exact (I1.fpOk hle (I1.hok.fresh hle))
/-! ### a list or a tuple -/
def Ise (K : PySem.W.Frag) (b : Bool) (a : Addr) : It := if b = true then Itl K a else Itt K a
def iSe (K : PySem.W.Frag) (ta : TE) : TI := fun σ H R => ta σ H fun v H1 => ∃ b a xs, v = .ref a ∧ SeqI K b H1 a xs ∧ R (Ise K b a) H1
theorem pi_se {X : Cx} {tg e : Expr} {ta : TE} (ha : PE X e ta) : PI X tg e (iSe X.K ta) := by
  refine (⟨fun pins s σ H R I h => ?_⟩)
  refine thn (ha.run pins s σ H _ I h) fun u s1 ⟨v, H1, I1, r1, q1⟩ => ?_
  obtain ⟨b, a, xs, rfl, hq, q⟩ := q1
  cases r1
  cases b
  · obtain ⟨its, rv, pp, _⟩ := I1.tuple (show SqT X.K H1 a xs from hq)
    exact wpAny_pyIter_tuple (show s1.heap.IsTuple a its.toArray from pp) (pi_one (tk := s1.toks) I1 _ (turn_tuple a _) ⟨_, Heap.get?_push_size _ rfl, rfl, rfl⟩ q)
  · obtain ⟨its, rv, pp, _⟩ := I1.list (show SqL X.K H1 a xs from hq)
    exact wpAny_pyIter_list pp.isList (pi_one (tk := s1.toks) I1 _ (turn_list a _) ⟨_, Heap.get?_push_size _ rfl, rfl, rfl⟩ q)
/-! ### zip -/
def Izi (K : PySem.W.Frag) (b c : Bool) (l r : Addr) : It :=
  ⟨fun i H => ∃ (xs ys : List V) (x y : V), SeqI K b H l xs ∧ SeqI K c H r ys ∧ xs[i]? = some x ∧ ys[i]? = some y,
    fun i H v H' => ∃ T x y, v = .ref T ∧ H T = none ∧ H' = upd H T (.tup [x, y]) ∧ (∀ xs, SeqI K b H l xs → xs[i]? = some x) ∧ ∀ ys, SeqI K c H r ys → ys[i]? = some y,
    fun i H => ∃ xs ys : List V, SeqI K b H l xs ∧ SeqI K c H r ys ∧ i = min xs.length ys.length⟩
/-- the iterator's own cells -/
def ZipSt (b c : Bool) (l r z TI TO i1 i2 : Addr) (i : Nat) (h : Heap) : Prop := IsZip h z TI TO .none ∧ IsTupOf2 h TI (.ref i1) (.ref i2) ∧ (∃ a1 a2, IsTupOf2 h TO a1 a2) ∧ IterAt b h i1 l i ∧ IterAt c h i2 r i
theorem turn_zi {P : Program} {w : World} {K : PySem.W.Frag} {elts : List Expr} {kk : Nat} {tpos : Pos} (b c : Bool) {l r z TI TO i1 i2 : Addr} (D : ZipSep2 z TI TO i1 i2 [i1, l] [i2, r]) (hTI : TI ∉ [z, TO, i1, i2]) :
    Turn P w K (.Tuple elts kk tpos) (Izi K b c l r) [z, TI, TO, i1, i2] z (ZipSt b c l r z TI TO i1 i2) where
  mem := by simp
  obj := fun i h st a ha => by
    obtain ⟨hz, h1, ⟨x, y, h2⟩, h3, h4⟩ := st
    rcases (show a = z ∨ a = TI ∨ a = TO ∨ a = i1 ∨ a = i2 by simpa using ha) with e | e | e | e | e <;> subst e
    · exact ⟨_, hz, fun v q => nomatch q⟩
    · exact ⟨_, h1, fun v q => nomatch q⟩
    · exact ⟨_, h2, fun v q => nomatch q⟩
    · exact h3.ob
    · exact h4.ob
  keep := fun i h h' st k => by
    obtain ⟨hz, h1, ⟨x, y, h2⟩, h3, h4⟩ := st
    exact ⟨k z (by simp) _ hz, k TI (by simp) _ h1, ⟨x, y, k TO (by simp) _ h2⟩, h3.at fun o q => k i1 (by simp) o q, h4.at fun o q => k i2 (by simp) o q⟩
  item := by
    intro X hP hw hK hc i pins
    intro s σ H E I hf st hg
    subst hP hw hK
    obtain ⟨hz, h1, ⟨a1, a2, h2⟩, h3, h4⟩ := st
    obtain ⟨xs, ys, x, y, hq, hq2, hx, hy⟩ := hg
    obtain ⟨its, rv, p⟩ := seqI_is I hq
    obtain ⟨its2, rv2, p2⟩ := seqI_is I hq2
    obtain (⟨u, hu, ru⟩) := rv.get hx
    obtain (⟨u2, hu2, ru2⟩) := rv2.get hy
    have hl := rv.length
    have hl2 := rv2.length
    have hh : X.A.in1.handled = none := I.ok.hd hc
    have lt1 : i < its.length := by
      rcases Nat.lt_or_ge i its.length with q | q
      · exact q
      · rw [List.getElem?_eq_none_iff.mpr q] at hu; cases hu
    have lt2 : i < its2.length := by
      rcases Nat.lt_or_ge i its2.length with q | q
      · exact q
      · rw [List.getElem?_eq_none_iff.mpr q] at hu2; cases hu2
    have Wk := WalksT.zipD2 (prog := X.prog) (w := X.w) (A := X.A) D (draws b hh i1 l (seq_ne_iter p h3) its.toArray) (draws c hh i2 r (seq_ne_iter p2 h4) its2.toArray)
    have cells : ∀ a, a ∈ [z, TO, i1, i2] → a ∈ [z, TI, TO, i1, i2] := fun a ha => by
      rcases (show a = z ∨ a = TO ∨ a = i1 ∨ a = i2 by simpa using ha) with e | e | e | e <;> simp [e]
    refine Wk.item i s _ E (by simp only [List.size_toArray]; omega) ⟨hz, h1, ⟨a1, a2, h2⟩, ⟨h3, p⟩, h4, p2⟩ fun T vals h' tk hp hT hTup hmid hk => ⟨_, rfl, ?_⟩
    obtain ⟨y1, y2, e1, e2, rfl⟩ := hp
    have e1 : its.toArray[i]? = some y1 := e1
    have e2 : its2.toArray[i]? = some y2 := e2
    rw [List.getElem?_toArray, hu] at e1
    rw [List.getElem?_toArray, hu2] at e2
    cases e1
    cases e2
    refine Wk.go elts kk tpos i T _ _ E hmid fun h'' st' hk' => ?_
    have hap := Wk.apart i T h' hmid
    obtain ⟨o, ho, hcl, n, hd⟩ := hTup
    have ho2 := hk' T o hap ho
    have new : ObjOk X.prog X.w (upd H T (.tup [x, y])) h'' T (.tup [x, y]) := ⟨by show 2 ≤ sizeLine; decide, [u, u2], .cons ru (.cons ru2 .nil), o, ho2, hcl, n, hd⟩
    have I1 : Inv X pins σ (upd H T (.tup [x, y])) { s with heap := h'', toks := tk } := I.turnedNew (ch := [z, TO, i1, i2]) (fun a ob ha q => hk' a ob ha (hk a ob ha q)) (fun a ha => hf a (cells a ha)) hT new
    refine ⟨.ref T, _, I1, rfl, ⟨T, x, y, rfl, I.hok.fresh hT, rfl, fun zs hz' => by rw [seqI_inj I hz' hq]; exact hx, fun zs hz' => by rw [seqI_inj I hz' hq2]; exact hy⟩, ⟨st'.1, st'.2.1, st'.2.2.1, st'.2.2.2.1.1, st'.2.2.2.2.1⟩, fun a ha => ?_⟩
    have q : a < s.heap.objs.size := by
      rcases (show a = z ∨ a = TI ∨ a = TO ∨ a = i1 ∨ a = i2 by simpa using ha) with e | e | e | e | e <;> subst e
      · exact Heap.lt_size hz
      · exact Heap.lt_size h1
      · exact Heap.lt_size h2
      · obtain ⟨_, q, _⟩ := h3.ob; exact Heap.lt_size q
      · obtain ⟨_, q, _⟩ := h4.ob; exact Heap.lt_size q
    rw [upd_ne (Nat.ne_of_lt (Nat.lt_of_lt_of_le q hT))]
    exact (hf a ha).1
  done := by
    intro X hP hw hK hc i pins
    intro s σ H E I hf st hg
    subst hP hw hK
    obtain ⟨hz, h1, ⟨a1, a2, h2⟩, h3, h4⟩ := st
    obtain ⟨xs, ys, hq, hq2, hi⟩ := hg
    obtain ⟨its, rv, p⟩ := seqI_is I hq
    obtain ⟨its2, rv2, p2⟩ := seqI_is I hq2
    have hl := rv.length
    have hl2 := rv2.length
    have hh : X.A.in1.handled = none := I.ok.hd hc
    have Wk := WalksT.zipD2 (prog := X.prog) (w := X.w) (A := X.A) D (draws b hh i1 l (seq_ne_iter p h3) its.toArray) (draws c hh i2 r (seq_ne_iter p2 h4) its2.toArray)
    have e : i = min its.toArray.size its2.toArray.size := by simp only [List.size_toArray]; omega
    subst e
    have cells : ∀ a, a ∈ [z, TO, i1, i2] → a ∈ [z, TI, TO, i1, i2] := fun a ha => by
      rcases (show a = z ∨ a = TO ∨ a = i1 ∨ a = i2 by simpa using ha) with e | e | e | e <;> simp [e]
    exact Wk.done s _ E ⟨hz, h1, ⟨a1, a2, h2⟩, ⟨h3, p⟩, h4, p2⟩ fun h' tk hk => ⟨rfl, I.turnedL (ch := [z, TO, i1, i2]) (fun a o ha q => hk a o ha q) fun a ha => hf a (cells a ha)⟩
  self := fun _ _ _ _ _ at_ q => wpAny_pyIter_zip at_.1 q
def iZi (K : PySem.W.Frag) (ta : TA) : TI := fun σ H R => ta σ H fun vs H1 => ∃ b c l r xs ys, vs = [.ref l, .ref r] ∧ SeqI K b H1 l xs ∧ SeqI K c H1 r ys ∧ R (Izi K b c l r) H1
theorem pi_zi {X : Cx} {e e2 : Expr} {ta : TA} {p pos tpos : Pos} {elts : List Expr} {kk : Nat} (hg : Gl X "zip") (hm : X.mg "zip" = none) (ha : PA X [e, e2] ta) (hs : starEach [e, e2] X.env = (false, eval e X.env) :: starEach [e2] X.env := by rfl) (hpl : (backTo pos (starEach [e2] X.env)).any (·.1) = false := by rfl) :
    PI X (.Tuple elts kk tpos) (.Call (.Name "zip" p) [e, e2] [] pos) (iZi X.K ta) := by
  refine (⟨fun pins s σ H R I h => ?_⟩)
  refine (Call_ (ld_blt I hg hm PyProof.Rows.boot_zip (PyProof.Rows.callWith_type1 (thn (ha.run pos pins s σ H _ I h) fun us s1 ⟨vs, H1, I1, r1, q1⟩ => ?_) hs hpl)))
  obtain ⟨b, c, l, r, xs, ys, rfl, hqx, hqy, q⟩ := q1
  obtain ⟨u1, u2, rfl, z1, z2⟩ := vals2 r1
  cases z1
  cases z2
  obtain ⟨its, rv, p1⟩ := seqI_is I1 hqx
  obtain ⟨its2, rv2, p2⟩ := seqI_is I1 hqy
  refine zip_begins2 (begins b l its.toArray) (begins c r its2.toArray) p1 p2 fun h' hz hTI hTO h1 h2 hsz hk => wpAny_pyIter_zip hz ?_
  have hl := p1.lt
  have hr := p2.lt
  refine ⟨s1.heap.objs.size + 4, [s1.heap.objs.size + 4, s1.heap.objs.size + 2, s1.heap.objs.size + 3, s1.heap.objs.size, s1.heap.objs.size + 1], _, _, H1, rfl, I1.kept (t' := s1.toks) hk,
    turn_zi b c (zip_sep2 (fp1 := [l]) (fp2 := [r]) (fun a ha => by rw [List.mem_singleton.mp ha]; exact hl) (fun a ha => by rw [List.mem_singleton.mp ha]; exact hr)) (fun ha => ?_), ⟨hz, hTI, ⟨_, _, hTO⟩, iterAt_new b h1, iterAt_new c h2⟩, fun a ha => ?_, q⟩
  · generalize s1.heap.objs.size = n at ha
    have ha : (n + 2 : Nat) = n + 4 ∨ (n + 2 : Nat) = n + 3 ∨ (n + 2 : Nat) = n ∨ (n + 2 : Nat) = n + 1 := by simpa using ha
    omega
  · have hle : s1.heap.objs.size ≤ a := by
      generalize s1.heap.objs.size = n at ha ⊢
      have ha : a = n + 4 ∨ a = n + 2 ∨ a = n + 3 ∨ a = n ∨ a = n + 1 := by simpa using ha
      show (n : Nat) ≤ (a : Nat)
      rcases ha with z | z | z | z | z <;> rw [z] <;> first | exact Nat.le_refl _ | exact Nat.le_add_right _ _
    exact (I1.fpOk hle (I1.hok.fresh hle))
end Tw

namespace Tw
open PySem
open PySem.Spec PyProof.Rows L2
section
variable {K : PySem.W.Frag} {W W' O O' Z : Addr → Prop} {H H' : Hp}
def RdS (K : PySem.W.Frag) (Z : Addr → Prop) (b : Bool) (a : Addr) (ts : List T) : (Addr → Prop) → (Addr → Prop) → Hp → Prop := fun W O H => if b = true then Rd1 K Z a ts W O H else RdT K Z a ts W O H
theorem RdS.stay {b : Bool} {a : Addr} {ts : List T} (w : WOk W H) (o : ∀ a, O a → ∃ xs, H a = some (.lst xs)) (h : RdS K Z b a ts W O H) (s : StepO W O H W' O' H') : RdS K Z b a ts W' O' H' := by
  cases b
  · exact RdT.stay w o (show RdT K Z a ts W O H from h) s
  · exact Rd1.stay w o (show Rd1 K Z a ts W O H from h) s
theorem RdS.get {b : Bool} {a : Addr} {ts : List T} (h : RdS K Z b a ts W O H) : ∃ xs, SeqI K b H a xs ∧ RpA K W (fun c => Z c ∨ O c) H xs ts := by
  cases b
  · obtain ⟨xs, e, r⟩ := (show RdT K Z a ts W O H from h)
    exact ⟨xs, e, r⟩
  · obtain ⟨xs, e, _, _, r⟩ := (show Rd1 K Z a ts W O H from h)
    exact ⟨xs, SqL.of e, r⟩
theorem it_se {b : Bool} {a : Addr} {ts : List T} : ItOk K Z (Ise K b a) ts (RdS K Z b a ts) := by
  cases b
  · exact it_tup
  · exact it_list
theorem upd_pair {x y : V} {t u : T} {p : Addr} {Zc : Addr → Prop} (w : WOk W H) (hp : H p = none) (h1 : Rp K W Zc H x t) (h2 : Rp K W Zc H y u) :
    Step W H W (upd H p (.tup [x, y])) ∧ Rp K W Zc (upd H p (.tup [x, y])) (.ref p) (.tup [t, u]) := by
  obtain ⟨a, b⟩ := putTup w hp (RpA.cons h1 (.cons h2 .nil))
  exact ⟨a, b.rp⟩
def enT (ts : List T) : List T := ts.zipIdx.map fun p => T.tup [.int (p.2 : Nat), p.1]
theorem it_en {b : Bool} {a : Addr} {ts : List T} : ItOk K Z (Ien K b a) (enT ts) (RdS K Z b a ts) where
  stay := fun _ _ _ _ _ _ w o h s => h.stay w o s
  go := fun i W O H h hi => by
    obtain ⟨xs, e, r⟩ := h.get
    have hi : i < ts.length := by simpa [enT] using hi
    obtain ⟨v, h1, _⟩ := r.get (List.getElem?_eq_getElem hi)
    exact ⟨xs, v, e, h1⟩
  stop := fun W O H h => by
    obtain ⟨xs, e, r⟩ := h.get
    exact ⟨xs, e, by rw [r.length]; simp [enT]⟩
  yld := fun i W O H x H' w h hi y => by
    obtain ⟨xs, e, r⟩ := h.get
    have hi' : i < ts.length := by simpa [enT] using hi
    obtain ⟨p, v, rfl, hp, rfl, f⟩ := y
    obtain ⟨v', h1, h2⟩ := r.get (List.getElem?_eq_getElem hi')
    have := f xs e
    rw [h1] at this
    cases this
    obtain ⟨s1, s2⟩ := upd_pair w hp (Rp.int (i : Nat)) h2
    exact ⟨_, by simp [enT, List.getElem?_zipIdx, List.getElem?_eq_getElem hi'], s1, s2⟩
def ziT : List T → List T → List T
  | t :: ts, u :: us => .tup [t, u] :: ziT ts us
  | _, _ => []
theorem ziT_len : ∀ ts us : List T, (ziT ts us).length = min ts.length us.length
  | [], us => by simp [ziT]
  | t :: ts, [] => by simp [ziT]
  | t :: ts, u :: us => by simp only [ziT, List.length_cons, ziT_len ts us]; omega
theorem ziT_get : ∀ (ts us : List T) (i : Nat) (t u : T), ts[i]? = some t → us[i]? = some u → (ziT ts us)[i]? = some (.tup [t, u])
  | [], us, i, t, u, h, _ => by simp at h
  | _ :: _, [], i, t, u, _, h => by simp at h
  | a :: ts, b :: us, 0, t, u, h, h2 => by
    simp at h h2
    subst h h2
    rfl
  | a :: ts, b :: us, i + 1, t, u, h, h2 => by
    have := ziT_get ts us i t u (by simpa using h) (by simpa using h2)
    simpa [ziT] using this
theorem it_zi {b c : Bool} {l r : Addr} {ts us : List T} : ItOk K Z (Izi K b c l r) (ziT ts us) (fun W O H => RdS K Z b l ts W O H ∧ RdS K Z c r us W O H) where
  stay := fun _ _ _ _ _ _ w o h s => ⟨h.1.stay w o s, h.2.stay w o s⟩
  go := fun i W O H h hi => by
    obtain ⟨xs, e, r1⟩ := h.1.get
    obtain ⟨ys, e2, r2⟩ := h.2.get
    rw [ziT_len] at hi
    obtain ⟨v, h1, _⟩ := r1.get (i := i) (List.getElem?_eq_getElem (by omega))
    obtain ⟨v2, h2, _⟩ := r2.get (i := i) (List.getElem?_eq_getElem (by omega))
    exact ⟨xs, ys, v, v2, e, e2, h1, h2⟩
  stop := fun W O H h => by
    obtain ⟨xs, e, r1⟩ := h.1.get
    obtain ⟨ys, e2, r2⟩ := h.2.get
    exact ⟨xs, ys, e, e2, by rw [r1.length, r2.length, ziT_len]⟩
  yld := fun i W O H x H' w h hi y => by
    obtain ⟨xs, e, r1⟩ := h.1.get
    obtain ⟨ys, e2, r2⟩ := h.2.get
    rw [ziT_len] at hi
    have g1 := List.getElem?_eq_getElem (l := ts) (i := i) (by omega)
    have g2 := List.getElem?_eq_getElem (l := us) (i := i) (by omega)
    obtain ⟨p, v, v2, rfl, hp, rfl, f1, f2⟩ := y
    obtain ⟨v', h1, p1⟩ := r1.get g1
    obtain ⟨v2', h2, p2⟩ := r2.get g2
    have q1 := f1 xs e
    have q2 := f2 ys e2
    rw [h1] at q1
    rw [h2] at q2
    cases q1
    cases q2
    obtain ⟨s1, s2⟩ := upd_pair w hp p1 p2
    exact ⟨_, ziT_get ts us i _ _ g1 g2, s1, s2⟩
def ItRev (K : PySem.W.Frag) (b : Bool) (a : Addr) (n : Nat) : It := if b = true then Itv K a n else RT.ItvT K a n
theorem it_rev {b : Bool} {a : Addr} {ts : List T} : ItOk K Z (ItRev K b a ts.length) ts.reverse (RdS K Z b a ts) where
  stay := fun _ _ _ _ _ _ w o h s => h.stay w o s
  go := fun i W O H h hi => by
    obtain ⟨xs, e, r⟩ := h.get
    rw [List.length_reverse] at hi
    obtain ⟨v, h1, _⟩ := r.get (i := ts.length - 1 - i) (List.getElem?_eq_getElem (by omega))
    cases b
    · exact ⟨hi, xs, v, e, h1⟩
    · exact ⟨hi, xs, v, e, h1⟩
  stop := fun W O H h => by
    rw [List.length_reverse]
    cases b
    · exact Nat.le_refl _
    · exact Nat.le_refl _
  yld := fun i W O H x H' w h hi y => by
    obtain ⟨xs, e, r⟩ := h.get
    rw [List.length_reverse] at hi
    have g : ts.reverse[i]? = some (ts[ts.length - 1 - i]'(by omega)) := by
      rw [List.getElem?_reverse hi]
      exact List.getElem?_eq_getElem _
    obtain ⟨v, h1, h2⟩ := r.get (i := ts.length - 1 - i) (List.getElem?_eq_getElem (by omega))
    have key : H' = H ∧ ∀ xs, SeqI K b H a xs → xs[ts.length - 1 - i]? = some x := by
      cases b
      · exact y
      · exact y
    obtain ⟨e1, f⟩ := key
    subst e1
    have q := f xs e
    rw [h1] at q
    cases q
    exact ⟨_, g, Step.refl w, h2⟩
theorem it_down {lo : Int} {n : Nat} : ItOk K Z (Itc lo (-1) n) ((List.range n).map fun i => T.int (lo + (i : Nat) * (-1))) (fun _ _ _ => True) where
  stay := fun _ _ _ _ _ _ _ _ _ _ => trivial
  go := fun i _ _ _ _ h => by simpa [Itc] using h
  stop := fun _ _ _ _ => by simp [Itc]
  yld := fun i W O H x H' w _ hi y => by
    obtain ⟨e, e2⟩ := y
    subst e e2
    rw [List.length_map, List.length_range] at hi
    exact ⟨.int (lo + (i : Nat) * (-1)), by rw [List.getElem?_map, List.getElem?_range hi]; rfl, Step.refl w, .int _⟩
end
/-- what a comprehension walks: the frame's own lists may be walked, too -/
def liftIc (K : PySem.W.Frag) (own : List Nat) (r : TL) : TI := fun σ H R => ∃ (W Z : Addr → Prop) (env : TEnv) (Qt : List T → Prop), RelE K own W Z env σ H ∧ r env Qt ∧
  ∀ ts, Qt ts → ∀ J H' W', Step W H W' H' → (∃ B, ItOk K (ZZ own σ Z true) J ts B ∧ B W' No H') → R J H'
structure PIc (X : Cx) (own : List Nat) (tg iter : Expr) (r : TL) : Prop where
  pi : PI X tg iter (liftIc X.K own r)
section
variable {X : Cx} {own : List Nat} {a b tg : Expr} {ra rb : TR} {rs : TL} {rc : TB} {c1 t1 c2 t2 : Bool} {pos tpos p : Pos} {elts : List Expr} {kk : Nat}
theorem ZZ.out {σ : St} {Z : Addr → Prop} : ∀ b, Z b ∨ Ow own σ b → ZZ own σ Z true b := fun b q => by
  rcases q with q | q
  · exact .inl q
  · exact .inr ⟨rfl, q⟩
/-- a value that is a list or a tuple, by what stands -/
theorem seq_of {K : PySem.W.Frag} {W Z : Addr → Prop} {σ : St} {H : Hp} {v : V} {u : T} {ts : List T} (p : RpO K W (ZZ own σ Z true) (ZZ own σ Z true) H v u) (e : u = .lst ts ∨ u = .tup ts) :
    ∃ b q xs, v = .ref q ∧ SeqI K b H q xs ∧ xs.length = ts.length ∧ RdS K Z b q ts W (Ow own σ) H := by
  rcases e with rfl | rfl
  · obtain ⟨q, xs, rfl, e, w, z, r⟩ := p.parts
    exact ⟨true, q, xs, rfl, SqL.of e, r.length, xs, e, w, fun y => z (.inr ⟨rfl, y⟩), r.mono ZZ.out⟩
  · obtain ⟨q, xs, rfl, e, r⟩ := p.tupI
    exact ⟨false, q, xs, rfl, e, r.length, xs, e, r.mono ZZ.out⟩
theorem seq_ofc {K : PySem.W.Frag} {W Z : Addr → Prop} {σ : St} {H : Hp} {v : V} {u : T} {ts : List T} {t : Bool} (p : RpO K W (ZZ own σ Z t) (ZZ own σ Z true) H v u) (e : u = .lst ts ∨ u = .tup ts) :
    ∃ b q xs, v = .ref q ∧ SeqI K b H q xs ∧ xs.length = ts.length ∧ RdS K (ZZ own σ Z true) b q ts W No H := by
  have n : ∀ c, ZZ own σ Z true c ∨ No c → ZZ own σ Z true c := fun c q => by
    rcases q with q | q
    · exact q
    · exact q.elim
  rcases e with rfl | rfl
  · obtain ⟨q, xs, rfl, e, w, z, r⟩ := p.parts
    exact ⟨true, q, xs, rfl, SqL.of e, r.length, xs, e, w, fun y => y, r.mono n⟩
  · obtain ⟨q, xs, rfl, e, r⟩ := p.tupI
    exact ⟨false, q, xs, rfl, e, r.length, xs, e, r.mono n⟩
def iSeq (ra : TR) : TL := fun env Q => ra env fun u => ∃ ts, (u = .lst ts ∨ u = .tup ts) ∧ Q ts
def iEnu (ra : TR) : TL := fun env Q => ra env fun u => ∃ ts, (u = .lst ts ∨ u = .tup ts) ∧ Q (enT ts)
def iRev (ra : TR) : TL := fun env Q => ra env fun u => ∃ ts, (u = .lst ts ∨ u = .tup ts) ∧ Q ts.reverse
def iZip (ra rb : TR) : TL := fun env Q => ra env fun u => rb env fun w => ∃ ts us, (u = .lst ts ∨ u = .tup ts) ∧ (w = .lst us ∨ w = .tup us) ∧ Q (ziT ts us)
def rgT (lo hi : Int) : List T := (List.range (hi - lo).toNat).map fun i => T.int (lo + (i : Nat))
def rgD (lo hi : Int) : List T := (List.range (hi - lo).toNat).map fun i => T.int (lo + (((hi - lo).toNat : Nat) : Int) - 1 + (i : Nat) * (-1))
def Rg (i : Int) : Prop := -(2 ^ 62) ≤ i ∧ i < 2 ^ 62
def iRg1 (ra : TR) : TL := fun env Q => ra env fun u => ∃ n, u = .int n ∧ Rg n ∧ Q (rgT 0 n)
def iRg2 (ra rb : TR) : TL := fun env Q => ra env fun u => rb env fun w => ∃ i j, u = .int i ∧ w = .int j ∧ Rg i ∧ Rg j ∧ Q (rgT i j)
def iRgD1 (ra : TR) : TL := fun env Q => ra env fun u => ∃ n, u = .int n ∧ Rg n ∧ Q (rgD 0 n)
theorem it_s (ha : PEt X own true true a ra) : PIt X own tg a (iSeq ra) := by
  refine ⟨piImp (pi_se ha.pe) fun σ H Q h => ?_⟩
  obtain ⟨W, Z, env, Qt, R, h, k⟩ := h
  refine ⟨W, Z, env, _, R, h, fun u hu v H1 W1 s1 p1 => ?_⟩
  obtain ⟨ts, e, hu⟩ := hu
  obtain ⟨b, q, xs, rfl, e1, _, e2⟩ := seq_of p1 e
  exact ⟨b, q, xs, rfl, e1, k ts hu _ _ W1 s1 ⟨_, it_se, e2⟩⟩
theorem ic_s (ha : PEt X own true t1 a ra) : PIc X own tg a (iSeq ra) := by
  refine ⟨piImp (pi_se ha.pe) fun σ H Q h => ?_⟩
  obtain ⟨W, Z, env, Qt, R, h, k⟩ := h
  refine ⟨W, Z, env, _, R, h, fun u hu v H1 W1 s1 p1 => ?_⟩
  obtain ⟨ts, e, hu⟩ := hu
  obtain ⟨b, q, xs, rfl, e1, _, e2⟩ := seq_ofc p1 e
  exact ⟨b, q, xs, rfl, e1, k ts hu _ _ W1 s1 ⟨_, it_se, e2⟩⟩
theorem it_e (hg : Gl X "enumerate") (hm : X.mg "enumerate" = none) (ha : PEt X own true true a ra) (hs : starEach [a] X.env = (false, eval a X.env) :: starEach [] X.env := by rfl) :
    PIt X own (.Tuple elts kk tpos) (.Call (.Name "enumerate" p) [a] [] pos) (iEnu ra) := by
  refine ⟨piImp (pi_en hg hm ha.pe hs) fun σ H Q h => ?_⟩
  obtain ⟨W, Z, env, Qt, R, h, k⟩ := h
  refine ⟨W, Z, env, _, R, h, fun u hu v H1 W1 s1 p1 => ?_⟩
  obtain ⟨ts, e, hu⟩ := hu
  obtain ⟨b, q, xs, rfl, e1, _, e2⟩ := seq_of p1 e
  exact ⟨b, q, xs, rfl, e1, k _ hu _ _ W1 s1 ⟨_, it_en, e2⟩⟩
theorem ic_e (hg : Gl X "enumerate") (hm : X.mg "enumerate" = none) (ha : PEt X own true t1 a ra) (hs : starEach [a] X.env = (false, eval a X.env) :: starEach [] X.env := by rfl) :
    PIc X own (.Tuple elts kk tpos) (.Call (.Name "enumerate" p) [a] [] pos) (iEnu ra) := by
  refine ⟨piImp (pi_en hg hm ha.pe hs) fun σ H Q h => ?_⟩
  obtain ⟨W, Z, env, Qt, R, h, k⟩ := h
  refine ⟨W, Z, env, _, R, h, fun u hu v H1 W1 s1 p1 => ?_⟩
  obtain ⟨ts, e, hu⟩ := hu
  obtain ⟨b, q, xs, rfl, e1, _, e2⟩ := seq_ofc p1 e
  exact ⟨b, q, xs, rfl, e1, k _ hu _ _ W1 s1 ⟨_, it_en, e2⟩⟩
theorem rev_of {K : PySem.W.Frag} {b : Bool} {H : Hp} {q : Addr} {xs : List V} {R : It → Hp → Prop} (h : SeqI K b H q xs) (k : R (ItRev K b q xs.length) H) :
    ∃ (a : Addr) (ys : List V), V.ref q = .ref a ∧ ((SqL K H a ys ∧ R (Itv K a ys.length) H) ∨ (SqT K H a ys ∧ R (RT.ItvT K a ys.length) H)) := by
  cases b
  · exact ⟨q, xs, rfl, .inr ⟨h, k⟩⟩
  · exact ⟨q, xs, rfl, .inl ⟨h, k⟩⟩
theorem it_r (hg : Gl X "reversed") (hm : X.mg "reversed" = none) (ha : PEt X own true true a ra) (hs : starEach [a] X.env = (false, eval a X.env) :: starEach [] X.env := by rfl) :
    PIt X own tg (.Call (.Name "reversed" p) [a] [] pos) (iRev ra) := by
  refine ⟨piImp (RT.pi_revA hg hm ha.pe hs) fun σ H Q h => ?_⟩
  obtain ⟨W, Z, env, Qt, R, h, k⟩ := h
  refine ⟨W, Z, env, _, R, h, fun u hu v H1 W1 s1 p1 => ?_⟩
  obtain ⟨ts, e, hu⟩ := hu
  obtain ⟨b, q, xs, rfl, e1, e3, e2⟩ := seq_of p1 e
  exact rev_of e1 (k _ hu _ _ W1 s1 ⟨_, by rw [e3]; exact it_rev, e2⟩)
theorem it_z (hg : Gl X "zip") (hm : X.mg "zip" = none) (ha : PEt X own true true a ra) (hb : PEt X own true true b rb) (hs : starEach [a, b] X.env = (false, eval a X.env) :: starEach [b] X.env := by rfl)
    (hs2 : starEach [b] X.env = (false, eval b X.env) :: starEach [] X.env := by rfl) (hpl : (backTo pos (starEach [b] X.env)).any (·.1) = false := by rfl) :
    PIt X own (.Tuple elts kk tpos) (.Call (.Name "zip" p) [a, b] [] pos) (iZip ra rb) := by
  refine ⟨piImp (pi_zi hg hm (pa_cons ha.pe (pa_cons hb.pe pa_nil hs2) hs) hs hpl) fun σ H Q h => ?_⟩
  obtain ⟨W, Z, env, Qt, R, h, k⟩ := h
  refine ⟨W, Z, env, _, R, h, fun u hu v H1 W1 s1 p1 => ⟨W1, Z, env, _, R.step s1, hu, fun w hw v2 H2 W2 s2 p2 => ?_⟩⟩
  obtain ⟨ts, us, e, e', hw⟩ := hw
  obtain ⟨b1, q, xs, rfl, e1, _, e2⟩ := seq_of (p1.step s1.ok s2) e
  obtain ⟨b2, q', ys, rfl, e1', _, e2'⟩ := seq_of p2 e'
  exact ⟨b1, b2, q, q', xs, ys, rfl, e1, e1', k _ hw _ _ W2 (s1.trans s2) ⟨_, it_zi, e2, e2'⟩⟩
theorem ic_z (hg : Gl X "zip") (hm : X.mg "zip" = none) (ha : PEt X own true t1 a ra) (hb : PEt X own true t2 b rb) (hs : starEach [a, b] X.env = (false, eval a X.env) :: starEach [b] X.env := by rfl)
    (hs2 : starEach [b] X.env = (false, eval b X.env) :: starEach [] X.env := by rfl) (hpl : (backTo pos (starEach [b] X.env)).any (·.1) = false := by rfl) :
    PIc X own (.Tuple elts kk tpos) (.Call (.Name "zip" p) [a, b] [] pos) (iZip ra rb) := by
  refine ⟨piImp (pi_zi hg hm (pa_cons ha.pe (pa_cons hb.pe pa_nil hs2) hs) hs hpl) fun σ H Q h => ?_⟩
  obtain ⟨W, Z, env, Qt, R, h, k⟩ := h
  refine ⟨W, Z, env, _, R, h, fun u hu v H1 W1 s1 p1 => ⟨W1, Z, env, _, R.step s1, hu, fun w hw v2 H2 W2 s2 p2 => ?_⟩⟩
  obtain ⟨ts, us, e, e', hw⟩ := hw
  obtain ⟨b1, q, xs, rfl, e1, _, e2⟩ := seq_ofc (p1.step s1.ok s2) e
  obtain ⟨b2, q', ys, rfl, e1', _, e2'⟩ := seq_ofc p2 e'
  exact ⟨b1, b2, q, q', xs, ys, rfl, e1, e1', k _ hw _ _ W2 (s1.trans s2) ⟨_, it_zi, e2, e2'⟩⟩
theorem it_r1 (hg : Gl X "range") (hm : X.mg "range" = none) (ha : PEt X own c1 t1 a ra) (hs1 : starEach [a] X.env = [(false, eval a X.env)] := by rfl)
    (hs : starEach [a] X.env = (false, eval a X.env) :: starEach [] X.env := by rfl) : PIt X own tg (.Call (.Name "range" p) [a] [] pos) (iRg1 ra) := by
  refine ⟨piImp (pi_range1 hg hm (pa_cons ha.pe pa_nil hs) hs1) fun σ H Q h => ?_⟩
  obtain ⟨W, Z, env, Qt, R, h, k⟩ := h
  refine ⟨W, Z, env, _, R, h, fun u hu v H1 W1 s1 p1 => ?_⟩
  obtain ⟨n, rfl, hr, hu⟩ := hu
  cases p1
  have e : rgT 0 n = (List.range n.toNat).map fun i => T.int (0 + (i : Nat)) := by
    unfold rgT
    rw [Int.sub_zero]
  exact ⟨n, rfl, hr.1, hr.2, k _ hu _ _ W1 s1 ⟨fun _ _ _ => True, by rw [e]; exact it_range, trivial⟩⟩
theorem it_r2 (hg : Gl X "range") (hm : X.mg "range" = none) (ha : PEt X own c1 t1 a ra) (hb : PEt X own c2 t2 b rb) (hs1 : starEach [a, b] X.env = [(false, eval a X.env), (false, eval b X.env)] := by rfl)
    (hsb : starEach [b] X.env = [(false, eval b X.env)] := by rfl) (hs : starEach [a, b] X.env = (false, eval a X.env) :: starEach [b] X.env := by rfl) (hs2 : starEach [b] X.env = (false, eval b X.env) :: starEach [] X.env := by rfl) :
    PIt X own tg (.Call (.Name "range" p) [a, b] [] pos) (iRg2 ra rb) := by
  refine ⟨piImp (pi_range2 hg hm (pa_cons ha.pe (pa_cons hb.pe pa_nil hs2) hs) hs1 hsb) fun σ H Q h => ?_⟩
  obtain ⟨W, Z, env, Qt, R, h, k⟩ := h
  refine ⟨W, Z, env, _, R, h, fun u hu v H1 W1 s1 p1 => ⟨W1, Z, env, _, R.step s1, hu, fun w hw v2 H2 W2 s2 p2 => ?_⟩⟩
  obtain ⟨i, j, rfl, rfl, hi, hj, hw⟩ := hw
  cases p1
  cases p2
  exact ⟨i, j, rfl, ⟨hi.1, hi.2, hj.1, hj.2⟩, k _ hw _ _ W2 (s1.trans s2) ⟨_, it_range, trivial⟩⟩
theorem it_rd1 {p2 pos2 : Pos} (hg : Gl X "reversed") (hm : X.mg "reversed" = none) (hg2 : Gl X "range") (hm2 : X.mg "range" = none) (ha : PEt X own c1 t1 a ra) (hs1 : starEach [a] X.env = (false, eval a X.env) :: starEach [] X.env := by rfl)
    (hs : starEach [.Call (.Name "range" p2) [a] [] pos2] X.env = (false, eval (.Call (.Name "range" p2) [a] [] pos2) X.env) :: starEach [] X.env := by rfl) :
    PIt X own tg (.Call (.Name "reversed" p) [.Call (.Name "range" p2) [a] [] pos2] [] pos) (iRgD1 ra) := by
  refine ⟨piImp (pi_revR hg hm (prg_1 hg2 hm2 ha.pe hs1) hs) fun σ H Q h => ?_⟩
  obtain ⟨W, Z, env, Qt, R, h, k⟩ := h
  refine ⟨W, Z, env, _, R, h, fun u hu v H1 W1 s1 p1 => ?_⟩
  obtain ⟨n, rfl, hr, hu⟩ := hu
  cases p1
  exact ⟨n, rfl, by decide, by decide, hr.1, hr.2, k _ hu _ _ W1 s1 ⟨_, it_down, trivial⟩⟩
theorem ic_r1 (hg : Gl X "range") (hm : X.mg "range" = none) (ha : PEt X own c1 t1 a ra) (hs1 : starEach [a] X.env = [(false, eval a X.env)] := by rfl)
    (hs : starEach [a] X.env = (false, eval a X.env) :: starEach [] X.env := by rfl) : PIc X own tg (.Call (.Name "range" p) [a] [] pos) (iRg1 ra) := by
  refine ⟨piImp (pi_range1 hg hm (pa_cons ha.pe pa_nil hs) hs1) fun σ H Q h => ?_⟩
  obtain ⟨W, Z, env, Qt, R, h, k⟩ := h
  refine ⟨W, Z, env, _, R, h, fun u hu v H1 W1 s1 p1 => ?_⟩
  obtain ⟨n, rfl, hr, hu⟩ := hu
  cases p1
  have e : rgT 0 n = (List.range n.toNat).map fun i => T.int (0 + (i : Nat)) := by
    unfold rgT
    rw [Int.sub_zero]
  exact ⟨n, rfl, hr.1, hr.2, k _ hu _ _ W1 s1 ⟨fun _ _ _ => True, by rw [e]; exact it_range, trivial⟩⟩
theorem ic_r2 (hg : Gl X "range") (hm : X.mg "range" = none) (ha : PEt X own c1 t1 a ra) (hb : PEt X own c2 t2 b rb) (hs1 : starEach [a, b] X.env = [(false, eval a X.env), (false, eval b X.env)] := by rfl)
    (hsb : starEach [b] X.env = [(false, eval b X.env)] := by rfl) (hs : starEach [a, b] X.env = (false, eval a X.env) :: starEach [b] X.env := by rfl) (hs2 : starEach [b] X.env = (false, eval b X.env) :: starEach [] X.env := by rfl) :
    PIc X own tg (.Call (.Name "range" p) [a, b] [] pos) (iRg2 ra rb) := by
  refine ⟨piImp (pi_range2 hg hm (pa_cons ha.pe (pa_cons hb.pe pa_nil hs2) hs) hs1 hsb) fun σ H Q h => ?_⟩
  obtain ⟨W, Z, env, Qt, R, h, k⟩ := h
  refine ⟨W, Z, env, _, R, h, fun u hu v H1 W1 s1 p1 => ⟨W1, Z, env, _, R.step s1, hu, fun w hw v2 H2 W2 s2 p2 => ?_⟩⟩
  obtain ⟨i, j, rfl, rfl, hi, hj, hw⟩ := hw
  cases p1
  cases p2
  exact ⟨i, j, rfl, ⟨hi.1, hi.2, hj.1, hj.2⟩, k _ hw _ _ W2 (s1.trans s2) ⟨_, it_range, trivial⟩⟩
theorem ic_rd1 {p2 pos2 : Pos} (hg : Gl X "reversed") (hm : X.mg "reversed" = none) (hg2 : Gl X "range") (hm2 : X.mg "range" = none) (ha : PEt X own c1 t1 a ra) (hs1 : starEach [a] X.env = (false, eval a X.env) :: starEach [] X.env := by rfl)
    (hs : starEach [.Call (.Name "range" p2) [a] [] pos2] X.env = (false, eval (.Call (.Name "range" p2) [a] [] pos2) X.env) :: starEach [] X.env := by rfl) :
    PIc X own tg (.Call (.Name "reversed" p) [.Call (.Name "range" p2) [a] [] pos2] [] pos) (iRgD1 ra) := by
  refine ⟨piImp (pi_revR hg hm (prg_1 hg2 hm2 ha.pe hs1) hs) fun σ H Q h => ?_⟩
  obtain ⟨W, Z, env, Qt, R, h, k⟩ := h
  refine ⟨W, Z, env, _, R, h, fun u hu v H1 W1 s1 p1 => ?_⟩
  obtain ⟨n, rfl, hr, hu⟩ := hu
  cases p1
  exact ⟨n, rfl, by decide, by decide, hr.1, hr.2, k _ hu _ _ W1 s1 ⟨_, it_down, trivial⟩⟩
theorem ic_r (hg : Gl X "reversed") (hm : X.mg "reversed" = none) (ha : PEt X own true t1 a ra) (hs : starEach [a] X.env = (false, eval a X.env) :: starEach [] X.env := by rfl) :
    PIc X own tg (.Call (.Name "reversed" p) [a] [] pos) (iRev ra) := by
  refine ⟨piImp (RT.pi_revA hg hm ha.pe hs) fun σ H Q h => ?_⟩
  obtain ⟨W, Z, env, Qt, R, h, k⟩ := h
  refine ⟨W, Z, env, _, R, h, fun u hu v H1 W1 s1 p1 => ?_⟩
  obtain ⟨ts, e, hu⟩ := hu
  obtain ⟨b, q, xs, rfl, e1, e3, e2⟩ := seq_ofc p1 e
  exact rev_of e1 (k _ hu _ _ W1 s1 ⟨_, by rw [e3]; exact it_rev, e2⟩)
end

/-! ### for -/
def wLoop (g : T → TEnv → (TEnv → Prop) → Prop) (r : TSt) (D : EndsT) : List T → TEnv → Prop
  | [], env => D.nx env
  | t :: ts, env => g t env fun env' => r { D with nx := wLoop g r D ts, ct := wLoop g r D ts, bk := D.nx } env'
def sFor (ri : TL) (g : T → TEnv → (TEnv → Prop) → Prop) (r : TSt) : TSt := fun D env => ri env fun ts => wLoop g r D ts env
section
variable {X : Cx} {own : List Nat} {tg iter : Expr} {ri : TL} {g : T → TEnv → (TEnv → Prop) → Prop} {r : TSt} {sl : List Nat} {body : List Stmt} {pos : Pos}
theorem st_for (hp : PassesOwn (model X.prog X.w) X.A X.env X.xe) (hc : X.calm = true) (hi : PIt X own tg iter ri) (hg : PGt X own sl tg g) (hb : PBt X own body r) (hs : ∀ x, foldedSetIterable iter X.env x = pure x := by intro _; rfl) :
    PSt X own (.For tg iter body [] pos) (sFor ri g r) := by
  refine ⟨fun F => psImp (ps_for hp hc hi.pi hg.pg (hb.ps F) hs) fun D σ H h => ?_⟩
  obtain ⟨W, env, Dt, R, h, k⟩ := h
  refine ⟨W, F.Z0, env, _, R.e, h, fun ts hts J H1 W1 s1 hB => ?_⟩
  obtain ⟨B, hI, b0⟩ := hB
  have R1 := R.step s1
  refine ⟨fun i m σ' H' => i ≤ ts.length ∧ m = ts.length - i ∧ ∃ W' env', RelS X.K own F W' env' σ' H' ∧ StepO W (Ow own σ) H W' (Ow own σ') H' ∧ B W' (Ow own σ') H' ∧ wLoop g r Dt (ts.drop i) env',
    ⟨ts.length, Nat.zero_le _, by simp, W1, env, R1, s1.so.wid, b0, by simpa using hts⟩, fun i m σ' H' hW => ?_⟩
  obtain ⟨hi', rfl, W2, env2, R2, s2, b2, h2⟩ := hW
  by_cases hlt : i < ts.length
  · refine .inr ⟨hI.go i _ _ _ b2 hlt, fun σ3 H3 => ∃ W3 env3, RelS X.K own F W3 env3 σ3 H3 ∧ StepO W (Ow own σ) H W3 (Ow own σ3) H3 ∧ B W3 (Ow own σ3) H3 ∧ wLoop g r Dt (ts.drop (i + 1)) env3,
      fun σ3 H3 ⟨W3, env3, a1, a2, a3, a4⟩ => ⟨ts.length - (i + 1), by omega, hlt, rfl, W3, env3, a1, a2, a3, a4⟩, fun x H3 y => ?_⟩
    obtain ⟨t, et, s3, p3⟩ := hI.yld i _ _ _ x H3 R2.e.wok b2 hlt y
    have ed : ts.drop i = t :: ts.drop (i + 1) := by
      (rw [List.drop_eq_getElem_cons hlt])
      rw [List.getElem?_eq_getElem hlt] at et
      rw [Option.some.inj et]
    rw [ed] at h2
    have R3 := R2.step s3
    have s13 := s2.trans s3.so.wid
    have b3 := hI.stay _ _ _ _ _ _ R2.e.wok R2.e.ox b2 s3.so.wid
    refine ⟨W2, F.Z0, env2, _, t, R3.e, p3.mono (fun a q => by
      rcases q with q | ⟨_, q⟩
      · exact .inl q
      · exact .inr q), h2, fun env4 h4 σ4 R4 o4 _ _ => ?_⟩
    have s4 : StepO W2 (Ow own σ') H3 W2 (Ow own σ4) H3 := (StepO.refl _ _ _).congr fun a q => (o4 a).mp q
    have R4' : RelS X.K own F W2 env4 σ4 H3 := ⟨R4, R3.s.trans s4⟩
    have s14 := s13.trans s4
    have b4 := hI.stay _ _ _ _ _ _ R3.e.wok R3.e.ox b3 s4
    exact ⟨W2, env4, { Dt with nx := wLoop g r Dt (ts.drop (i + 1)), ct := wLoop g r Dt (ts.drop (i + 1)), bk := Dt.nx }, R4', h4,
      ⟨fun env5 h5 σ5 H5 W5 R5 s5 => ⟨W5, env5, R5, s14.trans s5, hI.stay _ _ _ _ _ _ R4.wok R4.ox b4 s5, h5⟩, fun env5 h5 σ5 H5 W5 R5 s5 => k.nx _ h5 _ _ _ R5 (s14.trans s5),
        fun env5 h5 σ5 H5 W5 R5 s5 => ⟨W5, env5, R5, s14.trans s5, hI.stay _ _ _ _ _ _ R4.wok R4.ox b4 s5, h5⟩, k.rt, k.rn⟩⟩
  · have e : i = ts.length := by omega
    subst e
    rw [List.drop_length] at h2
    exact .inl ⟨hI.stop _ _ _ b2, k.nx _ h2 _ _ _ R2 s2⟩
end
/-! ### comprehensions -/
def wipeT (env : TEnv) : List Nat → TEnv
  | [] => env
  | v :: vs => (wipeT env vs).set v none
def wLc (g : T → TEnv → (TEnv → Prop) → Prop) (tt : TB) (te : TR) (env : TEnv) : List T → List T → (List T → Prop) → Prop
  | [], acc, Q => Q acc
  | t :: ts, acc, Q => g t env fun env' => tt env' fun b => if b = true then te env' fun u => wLc g tt te env ts (acc ++ [u]) Q else wLc g tt te env ts acc Q
def rLc (ri : TL) (g : T → TEnv → (TEnv → Prop) → Prop) (tt : TB) (te : TR) (vs : List Nat) : TR := fun env Q => ri env fun ts => ts.length ≤ lim ∧ wLc g tt te (wipeT env vs) ts [] fun acc => Q (.lst acc)
section
variable {K : PySem.W.Frag} {own : List Nat} {W Z : Addr → Prop} {env : TEnv} {σ : St} {H : Hp}
theorem RelE.unset (R : RelE K own W Z env σ H) (i : Nat) (ho : own.contains i = false) : RelE K own W Z (env.set i none) (σ.set i none) H ∧ (∀ a, Ow own (σ.set i none) a ↔ Ow own σ a) := by
  have hno : i ∉ own := fun z => by
    have : own.contains i = true := List.contains_iff_mem.mpr z
    rw [ho] at this; cases this
  have hj : ∀ j, j ∈ own → (σ.set i none)[j]? = σ[j]? := fun j q => List.getElem?_set_ne fun e => hno (by rw [e]; exact q)
  have hO : ∀ a, Ow own (σ.set i none) a ↔ Ow own σ a := fun a => by
    constructor
    · rintro ⟨j, q, e⟩; exact ⟨j, q, by rw [← hj j q]; exact e⟩
    · rintro ⟨j, q, e⟩; exact ⟨j, q, by rw [hj j q]; exact e⟩
  have hZ : ∀ a, ZZ own (σ.set i none) Z true a → ZZ own σ Z true a := fun a h => by
    rcases h with h | ⟨h1, h2⟩
    · exact .inl h
    · exact .inr ⟨h1, (hO a).mp h2⟩
  have ne : ∀ k t, (env.set i none)[k]? = some (some t) → k ≠ i := fun k t e z => by
    subst z
    have := set_self e
    cases this
  refine ⟨⟨R.wok, R.zx, fun a h => R.ox a ((hO a).mp h), by rw [List.length_set, List.length_set, R.len], fun k t e n => ?_, fun k t e n => ?_, fun j l a hj' hl' e1 e2 => ?_⟩, hO⟩
  · have hk := ne k t e
    rw [List.getElem?_set_ne (fun z => hk z.symm)] at e
    obtain ⟨v, h1, h2⟩ := R.val k t e n
    exact ⟨v, by rw [List.getElem?_set_ne (fun z => hk z.symm)]; exact h1, h2.mono hZ⟩
  · have hk := ne k t e
    rw [List.getElem?_set_ne (fun z => hk z.symm)] at e
    obtain ⟨a, xs, ts, h1, h2, h3, h4, h5, h6⟩ := R.ow k t e n
    exact ⟨a, xs, ts, by rw [List.getElem?_set_ne (fun z => hk z.symm)]; exact h1, h2, h3, h4, h5, h6.mono hZ⟩
  · rw [hj j hj'] at e1
    rw [hj l hl'] at e2
    exact R.inj j l a hj' hl' e1 e2
theorem RelE.wipe (R : RelE K own W Z env σ H) : ∀ vs : List Nat, (vs.all fun i => !own.contains i) = true → RelE K own W Z (wipeT env vs) (L2.wipe σ vs) H ∧ (∀ a, Ow own (L2.wipe σ vs) a ↔ Ow own σ a)
  | [], _ => ⟨R, fun _ => Iff.rfl⟩
  | v :: vs, h => by
    (rw [List.all_cons, Bool.and_eq_true] at h)
    obtain ⟨h1, h2⟩ := RelE.wipe R vs h.2
    obtain ⟨h3, h4⟩ := h1.unset v (by simpa using h.1)
    exact ⟨h3, fun a => (h4 a).trans (h2 a)⟩
theorem wipe_get : ∀ (vs : List Nat) (σ : St) (k : Nat), (L2.wipe σ vs)[k]? = if k ∈ vs ∧ k < σ.length then some none else σ[k]?
  | [], σ, k => by simp [L2.wipe]
  | v :: vs, σ, k => by
    rw [L2.wipe]
    by_cases e : v = k
    · subst e
      by_cases hl : v < σ.length
      · rw [List.getElem?_set_self (by rw [wipe_length]; exact hl), if_pos ⟨List.mem_cons_self .., hl⟩]
      · rw [List.getElem?_eq_none_iff.mpr (by rw [List.length_set, wipe_length]; omega), if_neg (fun z => hl z.2), List.getElem?_eq_none_iff.mpr (by omega)]
    · rw [List.getElem?_set_ne e, wipe_get vs σ k]
      have : (k ∈ v :: vs) ↔ k ∈ vs := by
        rw [List.mem_cons]
        exact ⟨fun z => z.resolve_left fun y => e y.symm, .inr⟩
      simp only [this]
theorem wipe_eq {σ σ' : St} {vs : List Nat} (hl : σ'.length = σ.length) (h : ∀ k, k ∉ vs → σ'[k]? = (L2.wipe σ vs)[k]?) : L2.wipe σ' vs = L2.wipe σ vs := by
  apply List.ext_getElem?
  intro k
  rw [wipe_get vs σ' k]
  by_cases m : k ∈ vs
  · rw [wipe_get vs σ k, hl]
    by_cases q : k < σ.length
    · rw [if_pos ⟨m, q⟩, if_pos ⟨m, q⟩]
    · rw [if_neg (fun z => q z.2), if_neg (fun z => q z.2), List.getElem?_eq_none_iff.mpr (by omega), List.getElem?_eq_none_iff.mpr (by omega)]
  · rw [if_neg (fun z => m z.1), h k m]
end
end Tw

namespace Tw
open PySem
open PySem.Spec PyProof.Rows L2
section
variable {K : PySem.W.Frag} {own : List Nat} {W W' Z : Addr → Prop} {env : TEnv} {σ : St} {H H' : Hp} {p : Addr}
theorem RelE.addZ (R : RelE K own W Z env σ H) (hp : H p = none) (s : Step W H W' H') (e : ∃ o, H' p = some o) : RelE K own W' (fun b => Z b ∨ b = p) env σ H' := by
  have R' := R.step s
  have hz : ∀ a, ZZ own σ (fun b => Z b ∨ b = p) true a → ZZ own σ Z true a ∨ a = p := fun a q => by
    rcases q with (q | q) | q
    · exact .inl (.inl q)
    · exact .inr q
    · exact .inl (.inr q)
  refine ⟨R'.wok, fun a q => ?_, R'.ox, R'.len, fun i t h n => ?_, fun i t h n => ?_, R'.inj⟩
  · rcases q with q | q
    · exact R'.zx a q
    · subst q; exact e
  · obtain ⟨v, h1, h2⟩ := R.val i t h n
    exact ⟨v, h1, ((h2.add hp).step R.wok s).mono hz⟩
  · obtain ⟨a, xs, ts, h1, h2, h3, h4, h5, h6⟩ := R.ow i t h n
    refine ⟨a, xs, ts, h1, h2, s.keep h3 h4, fun q => ?_, fun q => ?_, ((h6.add hp).step R.wok s).mono hz⟩
    · rcases s.so.new a q with y | y
      · exact h4 y
      · rw [h3] at y; cases y
    · rcases q with q | q
      · exact h5 q
      · rw [q, hp] at h3; cases h3
theorem RelE.chgZ {xs0 xs : List V} (R : RelE K own W Z env σ H) (h0 : H p = some (.lst xs0)) (hw : ¬ W p) (hz : Z p) : RelE K own W Z env σ (upd H p (.lst xs)) := by
  have hZ : ZZ own σ Z true p := .inl hz
  refine ⟨fun b q => ?_, fun b q => ?_, fun b q => ?_, R.len, fun i t h n => ?_, fun i t h n => ?_, R.inj⟩
  · obtain ⟨g, c, d, e⟩ := R.wok b q
    exact ⟨g, c, d, by rw [upd_ne (fun z => hw (by rw [← z]; exact q))]; exact e⟩
  · obtain ⟨o, e⟩ := R.zx b q
    by_cases z : b = p
    · subst z; exact ⟨_, upd_same⟩
    · exact ⟨o, by rw [upd_ne z]; exact e⟩
  · obtain ⟨o, e⟩ := R.ox b q
    by_cases z : b = p
    · subst z; exact ⟨_, upd_same⟩
    · exact ⟨o, by rw [upd_ne z]; exact e⟩
  · obtain ⟨v, h1, h2⟩ := R.val i t h n
    exact ⟨v, h1, h2.chg h0 hw hZ⟩
  · obtain ⟨a, ys, ts, h1, h2, h3, h4, h5, h6⟩ := R.ow i t h n
    exact ⟨a, ys, ts, h1, h2, by rw [upd_ne (fun z => h5 (by rw [z]; exact hz))]; exact h3, h4, h5, h6.chg h0 hw hZ⟩
theorem wLc_one {g : T → TEnv → (TEnv → Prop) → Prop} {tt : TB} {te : TR} {env : TEnv} {t : T} {ts acc : List T} {Q : List T → Prop} (h : wLc g tt te env (t :: ts) acc Q) :
    g t env fun env' => tt env' fun b => if b = true then te env' fun u => wLc g tt te env ts (acc ++ [u]) Q else wLc g tt te env ts acc Q := h
theorem lc_run {ri : TL} {g : T → TEnv → (TEnv → Prop) → Prop} {tt : TB} {te : TR} {sl vs : List Nat} {Q : VK} (hv : (vs.all fun i => !own.contains i) = true) (hsl : (sl.all fun i => vs.contains i) = true)
    (h : liftF K own (rLc ri g tt te vs) σ H Q) : tLc (liftIc K own ri) (liftG K own sl g) (liftB K own tt) (liftE K own true true te) vs σ H Q := by
  obtain ⟨W, Z, env, Qt, R, h, k⟩ := h
  refine ⟨W, Z, env, _, R, h, fun ts hts J H1 W1 s1 hB => ?_⟩
  obtain ⟨hlim, hts⟩ := hts
  obtain ⟨B, hI, b0⟩ := hB
  intro D hD
  have R1 := R.step s1
  obtain ⟨z1, z2, z3, z4⟩ := putNew (K := K) (Zc := ZZ own σ Z true) s1.ok hD (RpA.nil)
  have RD := R1.addZ hD z1 ⟨_, z2⟩
  have hO : StepO W1 No H1 W1 (fun b => b = D) (upd H1 D (.lst [])) := ⟨z1.so.keep, z1.so.sub, z1.so.new, fun a q => .inr (by rw [q]; exact hD), z1.so.dom⟩
  have b1 := hI.stay _ _ _ _ _ _ s1.ok (fun a z => z.elim) b0 hO
  refine ⟨fun i m H2 => i ≤ ts.length ∧ m = ts.length - i ∧ ∃ W2 acc xs, Step W H W2 H2 ∧ RelE K own W2 (fun b => Z b ∨ b = D) env σ H2 ∧ H2 D = some (.lst xs) ∧ ¬ W2 D ∧ RpA K W2 (ZZ own σ (fun b => Z b ∨ b = D) true) H2 xs acc ∧
      B W2 (fun b => b = D) H2 ∧ acc.length ≤ i ∧ wLc g tt te (wipeT env vs) (ts.drop i) acc fun acc => Qt (.lst acc),
    ⟨ts.length, Nat.zero_le _, by simp, W1, [], [], s1.trans z1, RD, z2, z3, .nil, b1, Nat.le_refl _, by simpa using hts⟩, fun i m H2 hW => ?_⟩
  obtain ⟨hi, rfl, W2, acc, xs, s2, R2, d2, w2, p2, b2, l2, h2⟩ := hW
  by_cases hlt : i < ts.length
  · refine .inr ⟨hI.go i _ _ _ b2 hlt, fun H3 => ∃ W3 acc xs, Step W H W3 H3 ∧ RelE K own W3 (fun b => Z b ∨ b = D) env σ H3 ∧ H3 D = some (.lst xs) ∧ ¬ W3 D ∧ RpA K W3 (ZZ own σ (fun b => Z b ∨ b = D) true) H3 xs acc ∧
      B W3 (fun b => b = D) H3 ∧ acc.length ≤ i + 1 ∧ wLc g tt te (wipeT env vs) (ts.drop (i + 1)) acc fun acc => Qt (.lst acc), fun H3 h3 => ⟨ts.length - (i + 1), by omega, hlt, rfl, h3⟩, fun x H3 y => ?_⟩
    obtain ⟨t, et, s3, p3⟩ := hI.yld i _ _ _ x H3 R2.wok b2 hlt y
    have ed : ts.drop i = t :: ts.drop (i + 1) := by
      (rw [List.drop_eq_getElem_cons hlt])
      rw [List.getElem?_eq_getElem hlt] at et
      rw [Option.some.inj et]
    rw [ed] at h2
    have R3 := R2.step s3
    have d3 := s3.keep d2 w2
    have b3 := hI.stay _ _ _ _ _ _ R2.wok (fun a z => by rw [z]; exact ⟨_, d2⟩) b2 s3.so.wid
    obtain ⟨R3w, o3⟩ := R3.wipe vs hv
    refine ⟨W2, _, _, _, t, R3w, p3.mono (fun a q => ?_), wLc_one h2, fun env4 h4 σ4 R4 o4 f4 l4 => ⟨?_, ?_⟩⟩
    · rcases q with (q | q) | ⟨_, q⟩
      · exact .inl (.inl q)
      · exact .inr q
      · exact .inl (.inr ⟨rfl, (o3 a).mp q⟩)
    · refine wipe_eq (l4.trans (wipe_length _ _)) fun j hj => f4 j fun z => hj ?_
      rw [List.all_eq_true] at hsl
      exact List.contains_iff_mem.mp (hsl j z)
    · have oo : ∀ a, Ow own σ4 a ↔ Ow own σ a := fun a => (o4 a).trans (o3 a)
      have zz : ∀ a, ZZ own σ (fun b => Z b ∨ b = D) true a → ZZ own σ4 (fun b => Z b ∨ b = D) true a := fun a q => by
        rcases q with q | ⟨_, q⟩
        · exact .inl q
        · exact .inr ⟨rfl, (oo a).mpr q⟩
      refine ⟨W2, _, env4, _, R4, h4, fun b hb H5 W5 s5 => ?_⟩
      have d5 := s5.keep d3 w2
      have w5 : ¬ W5 D := fun q => by
        rcases s5.so.new D q with y | y
        · exact w2 y
        · rw [d3] at y; cases y
      have b5 := hI.stay _ _ _ _ _ _ s3.ok (fun a z => by rw [z]; exact ⟨_, d3⟩) b3 s5.so.wid
      cases b with
      | false =>
        refine iteF ⟨W5, acc, xs, (s2.trans s3).trans s5, (R3.step s5), d5, w5, (p2.step R2.wok s3).step s3.ok s5, b5, by omega, by simpa using hb⟩
      | true =>
        refine iteT ⟨W5, _, env4, _, R4.step s5, by simpa using hb, fun u hu v H6 W6 s6 p6 => ?_⟩
        have d6 := s6.keep d5 w5
        have w6 : ¬ W6 D := fun q => by
          rcases s6.so.new D q with y | y
          · exact w5 y
          · rw [d5] at y; cases y
        have b6 := hI.stay _ _ _ _ _ _ s5.ok (fun a z => by rw [z]; exact ⟨_, d5⟩) b5 s6.so.wid
        have p6' : Rp K W6 (ZZ own σ (fun b => Z b ∨ b = D) true) H6 v u := p6.rp.mono zz
        have R6 := (R3.step s5).step s6
        have pp := ((p2.step R2.wok s3).step s3.ok s5).step s5.ok s6
        have hZD : ZZ own σ (fun b => Z b ∨ b = D) true D := .inl (.inr rfl)
        have su : StepO W6 (fun b => b = D) H6 W6 (fun b => b = D) (upd H6 D (.lst (xs ++ [v]))) := by
          refine ⟨fun a o q _ n => by rw [upd_ne n]; exact q, fun _ q => q, fun _ q => .inl q, fun _ q => .inl q, fun a o q => ?_⟩
          by_cases z : a = D
          · subst z; exact ⟨_, upd_same⟩
          · exact ⟨o, by rw [upd_ne z]; exact q⟩
        have sH : Step W H W6 (upd H6 D (.lst (xs ++ [v]))) := by
          have s06 := ((s2.trans s3).trans s5).trans s6
          have hHD : H D = none := s1.so.none_of hD
          refine ⟨⟨fun a o q w n => ?_, s06.so.sub, s06.so.new, fun _ q => q.elim, fun a o q => ?_⟩, (R6.chgZ (xs := xs ++ [v]) d6 w6 (.inr rfl)).wok⟩
          · rw [upd_ne (ne_of_none q hHD)]
            exact s06.keep q w
          · rw [upd_ne (ne_of_none q hHD)]
            exact s06.so.dom a o q
        refine ⟨xs, d6, by rw [pp.length, fit]; omega, W6, acc ++ [u], xs ++ [v], sH, R6.chgZ d6 w6 (.inr rfl), upd_same, w6, (pp.snoc p6').chg d6 w6 hZD, hI.stay _ _ _ _ _ _ s6.ok (fun a z => by rw [z]; exact ⟨_, d6⟩) b6 su,
          by rw [List.length_append, List.length_singleton]; omega, hu⟩
  · have e : i = ts.length := by omega
    subst e
    rw [List.drop_length] at h2
    refine .inl ⟨hI.stop _ _ _ b2, k _ h2 D xs acc H2 W2 rfl s2 (s1.so.none_of hD) d2 w2 (p2.mono fun a q => ?_)⟩
    rcases q with (q | ⟨_, q⟩) | q
    · exact .inl (.inl q)
    · exact .inr ⟨rfl, q⟩
    · exact .inl (.inr q)
end
section
variable {X : Cx} {own : List Nat} {elt tg iter : Expr} {ifs : List Expr} {scope : Scope} {ow : List (Str × Nat)} {pos spos : Pos} {ri : TL} {g : T → TEnv → (TEnv → Prop) → Prop} {tt : TB} {te : TR} {sl : List Nat}
structure PTst (X : Cx) (own : List Nat) (ifs : List Expr) (r : TB) : Prop where
  pt : PTs X ifs (liftB X.K own r)
def bYes : TB := fun _ Q => Q true
theorem ts_nil : PTst X own [] bYes := ⟨⟨fun pins s σ H Q I ⟨W, Z, env, Qt, R, h, k⟩ => pts_nil.run pins s σ H Q I (k _ h H W (Step.refl R.wok))⟩⟩
theorem ts_one {c : Expr} {r : TB} (h : PTt X own c r) : PTst X own [c] r := ⟨pts_one h.pt⟩
/-- [e for x in ..] -/
theorem ef_lc (hc : X.calm = true) (hN : X.N.Nodup) (hi : PIc X own tg iter ri) (ok : BlkOk X.N X.env.scope scope ow)
    (hg : ∀ (s : Shared) (H : Hp) (C : Addr) (cl : List (Str × Addr)) (fp : List Addr), PGt (X.blk s H scope (compEnvC scope cl C X.env) fp) own sl tg g)
    (ht : ∀ (s : Shared) (H : Hp) (C : Addr) (cl : List (Str × Addr)) (fp : List Addr), PTst (X.blk s H scope (compEnvC scope cl C X.env) fp) own ifs tt)
    (he : ∀ (s : Shared) (H : Hp) (C : Addr) (cl : List (Str × Addr)) (fp : List Addr), PEt (X.blk s H scope (compEnvC scope cl C X.env) fp) own true true elt te)
    (hs : ∀ x, foldedSetIterable iter X.env x = pure x := by intro _; rfl) (hv : ((ow.map (·.2)).all fun i => !own.contains i) = true := by rfl) (hsl : (sl.all fun i => (ow.map (·.2)).contains i) = true := by rfl) :
    PFt X own (.ListComp elt [⟨tg, iter, ifs, 0⟩] scope pos) (rLc ri g tt te (ow.map (·.2))) :=
  ⟨peImp (pe_lc hc hN hi.pi ok (fun s H C cl fp => (hg s H C cl fp).pg) (fun s H C cl fp => (ht s H C cl fp).pt) (fun s H C cl fp => (he s H C cl fp).pe) hs) fun σ H Q h => lc_run hv hsl h⟩
/-- a new list as a value -/
theorem et_new {e : Expr} {r : TR} (h : PFt X own e r) (hl : ∀ env Q, r env Q → r env fun u => (∃ ts, u = .lst ts) ∧ Q u) : PEt X own true true e r := by
  refine ⟨peImp h.pe fun σ H Q q => ?_⟩
  obtain ⟨W, Z, env, Qt, R, q, k⟩ := q
  refine ⟨W, Z, env, _, R, hl _ _ q, fun u hu a xs ts H' W' e s hn ha hw p => ?_⟩
  subst e
  refine k _ hu.2 _ H' W' s ⟨a, xs, rfl, ha, hw, fun z => ?_, p.mono fun b q => .inl q⟩
  rcases z with z | ⟨_, z⟩
  · obtain ⟨o, e⟩ := R.zx a z
    rw [hn] at e; cases e
  · obtain ⟨o, e⟩ := R.ox a z
    rw [hn] at e; cases e
/-- .. as a value -/
theorem et_lc (hc : X.calm = true) (hN : X.N.Nodup) (hi : PIc X own tg iter ri) (ok : BlkOk X.N X.env.scope scope ow)
    (hg : ∀ (s : Shared) (H : Hp) (C : Addr) (cl : List (Str × Addr)) (fp : List Addr), PGt (X.blk s H scope (compEnvC scope cl C X.env) fp) own sl tg g)
    (ht : ∀ (s : Shared) (H : Hp) (C : Addr) (cl : List (Str × Addr)) (fp : List Addr), PTst (X.blk s H scope (compEnvC scope cl C X.env) fp) own ifs tt)
    (he : ∀ (s : Shared) (H : Hp) (C : Addr) (cl : List (Str × Addr)) (fp : List Addr), PEt (X.blk s H scope (compEnvC scope cl C X.env) fp) own true true elt te)
    (hs : ∀ x, foldedSetIterable iter X.env x = pure x := by intro _; rfl) (hv : ((ow.map (·.2)).all fun i => !own.contains i) = true := by rfl) (hsl : (sl.all fun i => (ow.map (·.2)).contains i) = true := by rfl) :
    PEt X own true true (.ListComp elt [⟨tg, iter, ifs, 0⟩] scope pos) (rLc ri g tt te (ow.map (·.2))) := by
  refine ⟨peImp (pe_lc hc hN hi.pi ok (fun s H C cl fp => (hg s H C cl fp).pg) (fun s H C cl fp => (ht s H C cl fp).pt) (fun s H C cl fp => (he s H C cl fp).pe) hs) fun σ H Q h => lc_run hv hsl ?_⟩
  obtain ⟨W, Z, env, Qt, R, q, k⟩ := h
  refine ⟨W, Z, env, Qt, R, q, fun u hu a xs ts H' W' e s hn ha hw p => ?_⟩
  subst e
  refine k _ hu _ H' W' s ⟨a, xs, rfl, ha, hw, fun z => ?_, p.mono fun b q => .inl q⟩
  rcases z with z | ⟨_, z⟩
  · obtain ⟨o, e⟩ := R.zx a z
    rw [hn] at e; cases e
  · obtain ⟨o, e⟩ := R.ox a z
    rw [hn] at e; cases e
/-- y = [..] on one line -/
theorem st_lc (i : Nat) {y : Str} {py : Pos} (hc : X.calm = true) (hN : X.N.Nodup) (hy : X.N[i]? = some y) (hyl : X.env.scope.names.lookup y = some .local)
    (hsw : swapsWith (.ListComp elt [⟨tg, iter, ifs, 0⟩] scope pos) (some (.Name y py)) spos.line X.env = pure true) (hi : PIc X own tg iter ri) (ok : BlkOk X.N X.env.scope scope ow)
    (hg : ∀ (s : Shared) (H : Hp) (C : Addr) (cl : List (Str × Addr)) (fp : List Addr), PGt (X.blk s H scope (compEnvC scope cl C X.env) fp) own sl tg g)
    (ht : ∀ (s : Shared) (H : Hp) (C : Addr) (cl : List (Str × Addr)) (fp : List Addr), PTst (X.blk s H scope (compEnvC scope cl C X.env) fp) own ifs tt)
    (he : ∀ (s : Shared) (H : Hp) (C : Addr) (cl : List (Str × Addr)) (fp : List Addr), PEt (X.blk s H scope (compEnvC scope cl C X.env) fp) own true true elt te)
    (hs : ∀ x, foldedSetIterable iter X.env x = pure x := by intro _; rfl) (hv : ((ow.map (·.2)).all fun i => !own.contains i) = true := by rfl) (hsl : (sl.all fun i => (ow.map (·.2)).contains i) = true := by rfl) :
    PSt X own (.Assign [.Name y py] (.ListComp elt [⟨tg, iter, ifs, 0⟩] scope pos) spos) (sSet i (rLc ri g tt te (ow.map (·.2)))) := by
  refine ⟨fun F => psImp (ps_setLc (te := liftE X.K own true true te) (g := liftG X.K own sl g) (tt := liftB X.K own tt) hc hN hy hyl hsw hi.pi ok (fun s H C cl fp => (hg s H C cl fp).pg) (fun s H C cl fp => (ht s H C cl fp).pt) (fun s H C cl fp => (he s H C cl fp).pe) hs) fun D σ H h => ?_⟩
  obtain ⟨W, env, Dt, R, h, k⟩ := h
  refine lc_run hv hsl ⟨W, F.Z0, env, _, R.e, h, fun u hu a xs ts H' W' e s hn ha hw p => ?_⟩
  subst e
  cases ho : own.contains i with
  | true =>
    obtain ⟨R2, s2⟩ := R.setOwn s hn ho ha hw p
    exact k.nx _ hu _ H' W' R2 s2
  | false =>
    refine after_set R k ho s (Rp.lst hw (fun z => ?_) ha (p.mono fun b q => .inl q)) hu
    rcases z with z | ⟨_, z⟩
    · obtain ⟨o, e⟩ := R.e.zx a z
      rw [hn] at e; cases e
    · obtain ⟨o, e⟩ := R.e.ox a z
      rw [hn] at e; cases e
end
/-! ### two names at once, one or both the frame's own -/
section
variable {X : Cx} {own : List Nat} {a b : Expr} {ra rb : TR} {pos : Pos} {x y : Str} {px py pt : Pos} {kt : Nat} {k2 : Nat} {pt2 : Pos}
theorem ZZ.put {σ : St} {Z : Addr → Prop} {i : Nat} {q : Addr} : ∀ c, ZZ own (σ.set i (some (V.ref q))) Z true c → ZZ own σ (fun b => Z b ∨ b = q) true c := fun c h => by
  rcases h with h | ⟨_, j, hj, e⟩
  · exact .inl (.inl h)
  · by_cases hji : j = i
    · subst hji
      cases set_self e
      exact .inl (.inr rfl)
    · rw [List.getElem?_set_ne (fun z => hji z.symm)] at e
      exact .inr ⟨rfl, j, hj, e⟩
/-- xs, y = [..], e -/
theorem st_parFN (i j : Nat) (hc : X.calm = true) (hN : X.N.Nodup) (ha : PFt X own a ra) (hb : PEt X own true true b rb) (hi : X.N[i]? = some x := by rfl) (hj : X.N[j]? = some y := by rfl) (hij : i ≠ j := by decide)
    (hx : X.env.scope.names.lookup x = some .local := by rfl) (hy : X.env.scope.names.lookup y = some .local := by rfl) (ho1 : own.contains i = true := by rfl) (ho2 : own.contains j = false := by rfl)
    (hw : swappedStores [.Tuple [.Name x px, .Name y py] kt pt] (.Tuple [a, b] k2 pt2) X.env = pure (some [x, y]) := by rfl)
    (hs : swapsWithSole [.Tuple [.Name x px, .Name y py] kt pt] (.Tuple [a, b] k2 pt2) pos.line X.env = pure false := by rfl)
    (h1 : starEach [a, b] X.env = (false, eval a X.env) :: starEach [b] X.env := by rfl) (h2 : starEach [b] X.env = (false, eval b X.env) :: starEach [] X.env := by rfl) :
    PSt X own (.Assign [.Tuple [.Name x px, .Name y py] kt pt] (.Tuple [a, b] k2 pt2) pos) (sPar i j ra rb) := by
  refine ⟨fun F => psImp (ps_par hc hN hi hj hij hx hy (pa_cons ha.pe (pa_cons hb.pe pa_nil h2) h1) hw hs) fun D σ H h => ?_⟩
  obtain ⟨W, env, Dt, R, h, k⟩ := h
  refine ⟨W, F.Z0, env, _, R.e, h, fun u hu q xs ts H1 W1 e s1 hn hq hw1 p => ?_⟩
  subst e
  refine ⟨W1, _, env, _, R.e.addZ hn s1 ⟨_, hq⟩, hu, fun w hw2 v2 H2 W2 s2 p2 => ⟨_, v2, rfl, ?_⟩⟩
  have w2 : ¬ W2 q := fun z => by
    rcases s2.so.new q z with y | y
    · exact hw1 y
    · rw [hq] at y; cases y
  obtain ⟨R3, s3⟩ := R.setOwn (s1.trans s2) hn ho1 (s2.keep hq hw1) w2 (p.step s1.ok s2)
  obtain ⟨R4, s4⟩ := R3.set ho2 (p2.rp.mono ZZ.put)
  exact k.nx _ hw2 _ _ _ R4 (s3.trans s4)
/-- y, xs = e, [..] -/
theorem st_parNF (i j : Nat) (hc : X.calm = true) (hN : X.N.Nodup) (ha : PEt X own true true a ra) (hb : PFt X own b rb) (hi : X.N[i]? = some x := by rfl) (hj : X.N[j]? = some y := by rfl) (hij : i ≠ j := by decide)
    (hx : X.env.scope.names.lookup x = some .local := by rfl) (hy : X.env.scope.names.lookup y = some .local := by rfl) (ho1 : own.contains i = false := by rfl) (ho2 : own.contains j = true := by rfl)
    (hw : swappedStores [.Tuple [.Name x px, .Name y py] kt pt] (.Tuple [a, b] k2 pt2) X.env = pure (some [x, y]) := by rfl)
    (hs : swapsWithSole [.Tuple [.Name x px, .Name y py] kt pt] (.Tuple [a, b] k2 pt2) pos.line X.env = pure false := by rfl)
    (h1 : starEach [a, b] X.env = (false, eval a X.env) :: starEach [b] X.env := by rfl) (h2 : starEach [b] X.env = (false, eval b X.env) :: starEach [] X.env := by rfl) :
    PSt X own (.Assign [.Tuple [.Name x px, .Name y py] kt pt] (.Tuple [a, b] k2 pt2) pos) (sPar i j ra rb) := by
  refine ⟨fun F => psImp (ps_par hc hN hi hj hij hx hy (pa_cons ha.pe (pa_cons hb.pe pa_nil h2) h1) hw hs) fun D σ H h => ?_⟩
  obtain ⟨W, env, Dt, R, h, k⟩ := h
  refine ⟨W, F.Z0, env, _, R.e, h, fun u hu v H1 W1 s1 p1 => ⟨W1, F.Z0, env, _, R.e.step s1, hu, fun w hw1 q xs ts H2 W2 e s2 hn hq hw2 p => ⟨_, _, rfl, ?_⟩⟩⟩
  subst e
  obtain ⟨R3, s3⟩ := (R.step s1).set ho1 p1.rp
  have o3 := ((R.step s1).e.set ho1 p1.rp).2
  obtain ⟨R4, s4⟩ := R3.setOwn s2 hn ho2 hq hw2 (p.mono fun c z => by
    rcases z with (z | ⟨y, z⟩) | z
    · exact .inl (.inl z)
    · exact .inl (.inr ⟨y, (o3 c).mp z⟩)
    · exact .inr z)
  exact k.nx _ hw1 _ _ _ R4 ((s1.so.wid.trans s3).trans s4)
/-- xs, ys = [..], [..] -/
theorem st_parFF (i j : Nat) (hc : X.calm = true) (hN : X.N.Nodup) (ha : PFt X own a ra) (hb : PFt X own b rb) (hi : X.N[i]? = some x := by rfl) (hj : X.N[j]? = some y := by rfl) (hij : i ≠ j := by decide)
    (hx : X.env.scope.names.lookup x = some .local := by rfl) (hy : X.env.scope.names.lookup y = some .local := by rfl) (ho1 : own.contains i = true := by rfl) (ho2 : own.contains j = true := by rfl)
    (hw : swappedStores [.Tuple [.Name x px, .Name y py] kt pt] (.Tuple [a, b] k2 pt2) X.env = pure (some [x, y]) := by rfl)
    (hs : swapsWithSole [.Tuple [.Name x px, .Name y py] kt pt] (.Tuple [a, b] k2 pt2) pos.line X.env = pure false := by rfl)
    (h1 : starEach [a, b] X.env = (false, eval a X.env) :: starEach [b] X.env := by rfl) (h2 : starEach [b] X.env = (false, eval b X.env) :: starEach [] X.env := by rfl) :
    PSt X own (.Assign [.Tuple [.Name x px, .Name y py] kt pt] (.Tuple [a, b] k2 pt2) pos) (sPar i j ra rb) := by
  refine ⟨fun F => psImp (ps_par hc hN hi hj hij hx hy (pa_cons ha.pe (pa_cons hb.pe pa_nil h2) h1) hw hs) fun D σ H h => ?_⟩
  obtain ⟨W, env, Dt, R, h, k⟩ := h
  refine ⟨W, F.Z0, env, _, R.e, h, fun u hu q xs ts H1 W1 e s1 hn hq hw1 p => ?_⟩
  subst e
  refine ⟨W1, _, env, _, R.e.addZ hn s1 ⟨_, hq⟩, hu, fun w hw2 q2 xs2 ts2 H2 W2 e s2 hn2 hq2 hw22 p2 => ⟨_, _, rfl, ?_⟩⟩
  subst e
  obtain ⟨R3, s3⟩ := R.setOwn s1 hn ho1 hq hw1 p
  obtain ⟨R4, s4⟩ := R3.setOwn s2 hn2 ho2 hq2 hw22 (p2.mono fun c z => by
    rcases z with z | z
    · exact .inl (ZZ.put c z)
    · exact .inr z)
  exact k.nx _ hw2 _ _ _ R4 (s3.trans s4)
/-- x, y = e, e' -/
theorem st_parNN (i j : Nat) (hc : X.calm = true) (hN : X.N.Nodup) (ha : PEt X own true true a ra) (hb : PEt X own true true b rb) (hi : X.N[i]? = some x := by rfl) (hj : X.N[j]? = some y := by rfl) (hij : i ≠ j := by decide)
    (hx : X.env.scope.names.lookup x = some .local := by rfl) (hy : X.env.scope.names.lookup y = some .local := by rfl) (ho1 : own.contains i = false := by rfl) (ho2 : own.contains j = false := by rfl)
    (hw : swappedStores [.Tuple [.Name x px, .Name y py] kt pt] (.Tuple [a, b] k2 pt2) X.env = pure (some [x, y]) := by rfl)
    (hs : swapsWithSole [.Tuple [.Name x px, .Name y py] kt pt] (.Tuple [a, b] k2 pt2) pos.line X.env = pure false := by rfl)
    (h1 : starEach [a, b] X.env = (false, eval a X.env) :: starEach [b] X.env := by rfl) (h2 : starEach [b] X.env = (false, eval b X.env) :: starEach [] X.env := by rfl) :
    PSt X own (.Assign [.Tuple [.Name x px, .Name y py] kt pt] (.Tuple [a, b] k2 pt2) pos) (sPar i j ra rb) :=
  st_par i j hc hN hi hj hij hx hy ho1 ho2 ha hb hw hs h1 h2
end
/-! ### a def of the text -/
section
variable {P : Program}
variable {w : World}
variable {K : PySem.W.Frag}
variable {mg : Str → Option Value}
variable {base : Heap}
def startT (N : List Str) (ts : List T) : TEnv := ts.map some ++ List.replicate (N.length - ts.length) none
theorem RpA.start {W Z : Addr → Prop} {H : Hp} {vs : List V} {ts : List T} {N : List Str} {own : List Nat} (w : WOk W H) (zx : ∀ a, Z a → ∃ o, H a = some o) (r : RpA K W Z H vs ts) (ho : (own.all fun i => decide (ts.length ≤ i)) = true) :
    RelE K own W Z (startT N ts) (L2.start N vs) H := by
  have hl := r.length
  have high : ∀ j, vs.length ≤ j → ∀ v, (L2.start N vs)[j]? ≠ some (some v) := fun j hj v e => by
    unfold L2.start at e
    rw [List.getElem?_append_right (by rw [List.length_map]; exact hj)] at e
    have := List.mem_of_getElem? e
    have := List.eq_of_mem_replicate this
    cases this
  have highT : ∀ j, ts.length ≤ j → ∀ v, (startT N ts)[j]? ≠ some (some v) := fun j hj v e => by
    unfold startT at e
    rw [List.getElem?_append_right (by rw [List.length_map]; exact hj)] at e
    have := List.mem_of_getElem? e
    have := List.eq_of_mem_replicate this
    cases this
  have oj : ∀ j, j ∈ own → ts.length ≤ j := fun j hj => of_decide_eq_true (List.all_eq_true.mp ho j hj)
  have noO : ∀ a, ¬ Ow own (L2.start N vs) a := fun a ⟨j, hj, e⟩ => high j (by rw [hl]; exact oj j hj) _ e
  refine ⟨w, zx, fun a q => absurd q (noO a), by simp [startT, L2.start, hl], fun i t e n => ?_, fun i t e n => absurd e (highT i (oj i n) t), fun i j a hi _ e _ => absurd e (high i (by rw [hl]; exact oj i hi) _)⟩
  have hi : i < ts.length := by
    rcases Nat.lt_or_ge i ts.length with q | q
    · exact q
    · exact absurd e (highT i q t)
  unfold startT at e
  rw [List.getElem?_append_left (by rw [List.length_map]; exact hi), List.getElem?_map] at e
  cases h1 : ts[i]? with
  | none => rw [h1] at e; cases e
  | some t' =>
    rw [h1] at e
    cases e
    obtain ⟨v, h2, h3⟩ := r.get h1
    refine ⟨v, ?_, h3.mono fun a q => ?_⟩
    · unfold L2.start
      rw [List.getElem?_append_left (by rw [List.length_map]; omega), List.getElem?_map, h2]
      rfl
    · rcases q with q | ⟨_, q⟩
      · exact q
      · exact absurd q (noO a)
/-- THE RULE: a def keeps a promise on trees if its body's reading follows from it -/
theorem fn_T {x qual : Str} {st : Stmt} {f : Addr} {fd : FuncData} {N ps : List Str} {k : Nat} {Φ : TF} (own : List Nat) (F : Fun K x qual st f fd) (S : FnScope N ps (defScope st)) (len : ∀ ts Q, Φ ts Q → ts.length = ps.length)
    (ho : (own.all fun i => decide (ps.length ≤ i)) = true)
    (body : ∀ (cdv : Value) (A : Around) (outer : List Env) (s : Shared) (H : Hp) (E : XK), Room k (A.deeper (envOfC qual (defScope st) s.heap.objs.size f cdv)) →
      ∃ r, PBt (cxOf CX0 P w K mg base N qual (defScope st) f cdv A outer s H E).nox own (defBody st) r ∧ ∀ ts Q, Φ ts Q → r { nx := fun _ => Q .non, rt := Q } (startT N ts)) :
    FnOk P w K mg base CX0 (k + 1) f fd ps (spT K Φ) := by
  refine F.ok S (fun vs H Q E h => ?_) fun cdv A outer s H vs Q E hr h => ?_
  · obtain ⟨W, Z, ts, Qt, _, _, r, h, _⟩ := h
    rw [r.length]
    exact len _ _ h
  · obtain ⟨W, Z, ts, Qt, w0, zx, r, h, kk⟩ := h
    obtain ⟨rd, hb, hq⟩ := body cdv A outer s H E hr
    refine ⟨_, hb.ps ⟨W, Z, H⟩, W, startT N ts, _, ⟨RpA.start w0 zx r ?_, ?_⟩, hq ts Qt h, ?_⟩
    · rw [len _ _ h]; exact ho
    · have Rs := RpA.start (N := N) (own := own) w0 zx r (by rw [len _ _ h]; exact ho)
      refine (StepO.refl W No H).congr fun a q => ?_
      obtain ⟨j, hj, e⟩ := q
      have h1 : ts.length ≤ j := by
        rw [len _ _ h]
        exact of_decide_eq_true (List.all_eq_true.mp ho j hj)
      unfold L2.start at e
      rw [List.getElem?_append_right (by rw [List.length_map, r.length]; exact h1)] at e
      have := List.eq_of_mem_replicate (List.mem_of_getElem? e)
      cases this
    · refine ⟨fun env' q σ' H' W' R' s' => ?_, fun _ q => q.elim, fun _ q => q.elim, fun u q v H' W' s' p => kk u q v H' W' s' p, fun u q v H' W' s' p => kk u q v H' W' s' (p.mono fun a z => zx a z)⟩
      exact kk _ q _ H' W' R'.out .non
end
end Tw

namespace Tw
open PySem
open PySem.Spec PyProof.Rows L2
/-- a def stands in the text -/
structure Def (K : PySem.W.Frag) (mg : Str → Option Value) (x : Str) (st : Stmt) (ps : List Str) : Prop where
  ex : ∃ f fd, Fun K x x st f fd ∧ Binds K fd ps [] ∧ mg x = some (.ref f)
theorem fun_lk {K : PySem.W.Frag} {x qual : Str} {st : Stmt} {f : Addr} {fd : FuncData} (F : Fun K x qual st f fd) : ∃ oc od osl, K.lookup f = some ⟨oc, od, .func fd, osl⟩ := by
  obtain ⟨oc, od, _, _, _, _, _, _, osl, _, lk, _⟩ := F.ex
  exact ⟨oc, od, osl, lk⟩
/-- a def keeps a promise on trees -/
structure Has (P : Program) (w : World) (K : PySem.W.Frag) (mg : Str → Option Value) (base : Heap) (x : Str) (ps : List Str) (k : Nat) (Φ : TF) : Prop where
  ex : ∃ f fd, mg x = some (.ref f) ∧ PySem.W.keepIn K (.ref f) = true ∧ Binds K fd ps [] ∧ FnOk P w K mg base CX0 k f fd ps (spT K Φ) ∧ ∃ oc od osl, K.lookup f = some ⟨oc, od, .func fd, osl⟩
section
variable {P : Program}
variable {w : World}
variable {K : PySem.W.Frag}
variable {mg : Str → Option Value}
variable {base : Heap}
/-- nothing of the run looks into long divisions -/
structure Sees (P : Program) (base : Heap) : Prop where
  seer : base.NoSeer
  tree : P.given.tree = none
theorem nopy {x qual : Str} {N ps : List Str} {sc : Scope} {f : Addr} {cdv : Value} {A : Around} {outer : List Env} {s : Shared} {H : Hp} {E : XK} {k : Nat} (Se : Sees P base) (S : FnScope N ps sc) (hk : 40 ≤ k) (hr : Room k (A.deeper (envOfC qual sc s.heap.objs.size f cdv))) :
    NoPy base P (A.deeper (envOfC qual sc s.heap.objs.size f cdv)) (envOfC qual sc s.heap.objs.size f cdv :: outer) := by
  refine ⟨Se.seer, Se.tree, ?_, _, _, rfl, S.gen, S.co, rfl, rfl⟩
  have := hr.dp
  have e : recursionLimit = 1000 := rfl
  omega
theorem has_T {x : Str} {st : Stmt} {N ps : List Str} (k : Nat) {Φ : TF} (own : List Nat) (Se : Sees P base) (d : Def K mg x st ps) (S : FnScope N ps (defScope st)) (hk : 40 ≤ k) (len : ∀ ts Q, Φ ts Q → ts.length = ps.length)
    (ho : (own.all fun i => decide (ps.length ≤ i)) = true)
    (body : ∀ (f : Addr) (cdv : Value) (A : Around) (outer : List Env) (s : Shared) (H : Hp) (E : XK), Room k (A.deeper (envOfC x (defScope st) s.heap.objs.size f cdv)) →
      NoPy base P (A.deeper (envOfC x (defScope st) s.heap.objs.size f cdv)) (envOfC x (defScope st) s.heap.objs.size f cdv :: outer) →
      ∃ r, PBt (cxOf CX0 P w K mg base N x (defScope st) f cdv A outer s H E).nox own (defBody st) r ∧ ∀ ts Q, Φ ts Q → r { nx := fun _ => Q .non, rt := Q } (startT N ts)) : Has P w K mg base x ps (k + 1) Φ := by
  obtain ⟨f, fd, F, b, g⟩ := d.ex
  obtain ⟨oc, od, _, _, _, _, _, _, osl, _, lk, _⟩ := F.ex
  exact ⟨f, fd, g, F.kp, b, fn_T own F S len ho fun cdv A outer s H E hr => body f cdv A outer s H E hr (nopy (H := H) (E := E) (x := x) Se S hk hr), oc, od, osl, lk⟩
theorem Has.imp {x : Str} {ps : List Str} {k : Nat} {Φ Ψ : TF} (h : Has P w K mg base x ps k Φ) (i : ∀ ts Q, Ψ ts Q → Φ ts Q) : Has P w K mg base x ps k Ψ := by
  obtain ⟨f, fd, g, kp, b, F, lk⟩ := h.ex
  refine ⟨f, fd, g, kp, b, F.imp ?_, lk⟩
  exact fun vs H Q E ⟨W, Z, ts, Qt, a1, a2, a3, a4, a5⟩ => ⟨W, Z, ts, Qt, a1, a2, a3, i _ _ a4, a5⟩
/-- a name of the module holds a value that is told by the written part alone -/
structure KCs (K : PySem.W.Frag) (mg : Str → Option Value) (x : Str) (t : T) : Prop where
  ex : ∃ v u, mg x = some u ∧ RelV v u ∧ ∀ (W Z : Addr → Prop) (H : Hp), Rp K W Z H v t
end
section
variable {X : Cx} {own : List Nat} {a b cc tg iter : Expr} {ra rb : TR} {rs ri : TL} {rc : TB} {c1 t1 c2 t2 bb : Bool} {pos p p2 : Pos} {x : Str} {st : Stmt} {sts : List Stmt} {r u : TSt} {ps : List Str} {k : Nat} {Φ : TF} {t : T} {es : List Expr}
theorem Ev (i : Nat) (hN : X.N[i]? = some x := by rfl) (hv : Vis X.env.scope x := by first | exact Or.inl rfl | exact Or.inr (Or.inl rfl) | exact Or.inr (Or.inr rfl)) (ho : own.contains i = false := by rfl)
    (hd : (x == ("__debug__" : Str)) = false := by decide) (hcd : (x == ("__classdict__" : Str)) = false := by decide) : PEt X own true true (.Name x pos) (rVar i) := et_var i hN hv ho hd hcd
theorem Eo (i : Nat) (hN : X.N[i]? = some x := by rfl) (hv : Vis X.env.scope x := by first | exact Or.inl rfl | exact Or.inr (Or.inl rfl) | exact Or.inr (Or.inr rfl)) (ho : own.contains i = true := by rfl)
    (hd : (x == ("__debug__" : Str)) = false := by decide) (hcd : (x == ("__classdict__" : Str)) = false := by decide) : PEt X own true false (.Name x pos) (rVar i) := et_own i hN hv ho hd hcd
theorem Eg (h : KCs X.K X.mg x t) (hg : Gl X x := by rfl) (hd : (x == ("__debug__" : Str)) = false := by decide) : PEt X own true true (.Name x pos) (rC t) := et_glob hg ⟨h.ex⟩ hd
theorem Ec (h : Has X.prog X.w X.K X.mg X.base x ps k Φ) (hr : Room k X.A) (ha : PAt X own bb (a :: es) rs) (hg : Gl X x := by rfl) (hdb : (x == ("__debug__" : Str)) = false := by decide)
    (he : starEach (a :: es) X.env = (false, eval a X.env) :: starEach es X.env := by rfl) (hpl : (backTo pos (starEach es X.env)).any (·.1) = false := by rfl) : PEt X own bb bb (.Call (.Name x p) (a :: es) [] pos) (rCall Φ rs) := by
  obtain ⟨f, fd, g, kp, bd, F, _⟩ := h.ex
  exact et_call F hr hg g kp bd ha hdb he hpl
theorem Sset (i : Nat) (hN : X.N.Nodup) (ha : PEt X own true true a ra) (hi : X.N[i]? = some x := by rfl) (hx : Loc X.env.scope x := by first | exact Or.inl rfl | exact Or.inr rfl) (ho : own.contains i = false := by rfl)
    (hs : swapsWith a (some (.Name x p)) pos.line X.env = pure false := by rfl) (hf : X.fn x = true ∨ X.env.scope.names.lookup x = some .local := by first | exact .inl rfl | exact .inr rfl) : PSt X own (.Assign [.Name x p] a pos) (sSet i ra) :=
  st_set i hN hi hx ho ha hs hf
theorem SsetF (i : Nat) (hN : X.N.Nodup) (ha : PFt X own a ra) (hi : X.N[i]? = some x := by rfl) (hx : Loc X.env.scope x := by first | exact Or.inl rfl | exact Or.inr rfl) (ho : own.contains i = true := by rfl)
    (hs : swapsWith a (some (.Name x p)) pos.line X.env = pure false := by rfl) (hf : X.fn x = true ∨ X.env.scope.names.lookup x = some .local := by first | exact .inl rfl | exact .inr rfl) : PSt X own (.Assign [.Name x p] a pos) (sSet i ra) :=
  st_setF i hN hi hx ho ha hs hf
theorem Gn (i : Nat) (hN : X.N.Nodup) (hi : X.N[i]? = some x := by rfl) (hx : Loc X.env.scope x := by first | exact Or.inl rfl | exact Or.inr rfl) (ho : own.contains i = false := by rfl)
    (hf : X.fn x = true ∨ X.env.scope.names.lookup x = some .local := by first | exact .inl rfl | exact .inr rfl) : PGt X own [i] (.Name x pos) (gN i) := gt_name i hN hi hx ho hf
end

/-! ### the lists of draws -/
/-- what drawing from such a list is worth: any number below the width -/
def pDrop : TF := fun ts Q => ∃ n : Int, ts = [.wel, .int n] ∧ 0 < n ∧ n < 1073741824 ∧ ∀ r, 0 ≤ r → r < n → Q (.int r)
def pWell : TF := fun ts Q => ∃ (ns : List Int) (i j : Int), ts = [.scr ns, .int i, .int j] ∧ ns.length ≤ 63 ∧ 0 ≤ i ∧ i < 100 ∧ 0 ≤ j ∧ j < 1000000000 ∧ Q .wel
theorem step_well {W : Addr → Prop} {H : Hp} {a : Addr} {g b s : Int} (w : WOk W H) (h : W a) : Step W H W (upd H a (.lst [.int g, .int b, .int s])) := by
  refine ⟨⟨fun c o e n _ => ?_, fun _ h => h, fun _ h => .inl h, fun _ h => h.elim, fun c o e => ?_⟩, fun c q => ?_⟩
  · rw [upd_ne (fun z => n (by rw [z]; exact h))]; exact e
  · by_cases z : c = a
    · subst z; exact ⟨_, upd_same⟩
    · exact ⟨o, by rw [upd_ne z]; exact e⟩
  · by_cases z : c = a
    · subst z; exact ⟨_, _, _, upd_same⟩
    · obtain ⟨g', b', s', e⟩ := w c q
      exact ⟨g', b', s', by rw [upd_ne z]; exact e⟩
end Tw
namespace Tw
open PySem
open PySem.Spec PyProof.Rows L2
theorem gTups_tup {n : Nat} {g : List T → TEnv → (TEnv → Prop) → Prop} {ts : List T} {env : TEnv} {Q : TEnv → Prop} : gTups n g (.tup ts) env Q = (ts.length = n ∧ g ts env Q) := by
  simp [gTups]
theorem gConss_cons {g : T → TEnv → (TEnv → Prop) → Prop} {gs : List T → TEnv → (TEnv → Prop) → Prop} {t : T} {ts : List T} {env : TEnv} {Q : TEnv → Prop} : gConss g gs (t :: ts) env Q = g t env fun env' => gs ts env' Q := by
  apply propext
  constructor
  · rintro ⟨a, b, e, h⟩
    cases e
    exact h
  · exact fun h => ⟨t, ts, rfl, h⟩
theorem gNils_nil {env : TEnv} {Q : TEnv → Prop} : gNils [] env Q = Q env := by simp [gNils]
/-- the built-in names that the text leaves as they are -/
structure Bi (mg : Str → Option Value) : Prop where
  n_len : mg "len" = none
  n_int : mg "int" = none
  n_abs : mg "abs" = none
  n_isinstance : mg "isinstance" = none
  n_bool : mg "bool" = none
  n_tuple : mg "tuple" = none
  n_list : mg "list" = none
  n_str : mg "str" = none
  n_max : mg "max" = none
  n_min : mg "min" = none
  n_all : mg "all" = none
  n_any : mg "any" = none
  n_sum : mg "sum" = none
  n_range : mg "range" = none
  n_enumerate : mg "enumerate" = none
  n_zip : mg "zip" = none
  n_reversed : mg "reversed" = none
  n_repr : mg "repr" = none
  n_set : mg "set" = none
  n_gcd : mg "gcd" = some (.builtin "math.gcd")
end Tw

namespace Tw
open PySem
open PySem.Spec PyProof.Rows L2
def tQ (x : Rat) : T := .tup [.int x.num, .int x.den]
def tQs (p : List Rat) : List T := p.map tQ
def tP (p : List Rat) : T := .tup (tQs p)
def tLQ (p : List Rat) : T := .lst (tQs p)
theorem tQ_zero : tQ 0 = .tup [.int 0, .int 1] := rfl
theorem tQ_one : tQ 1 = .tup [.int 1, .int 1] := rfl
theorem tQ_inj {x y : Rat} (h : tQ x = tQ y) : x = y := by
  unfold tQ at h
  simp only [T.tup.injEq, List.cons.injEq, T.int.injEq, and_true] at h
  exact Rat.ext h.1 (by omega)
/-- numbers below 2 ^ b up and down -/
structure Sz (b : Nat) (x : Rat) : Prop where
  n : x.num.natAbs < 2 ^ b
  d : x.den < 2 ^ b
theorem Sz.mono {b c : Nat} {x : Rat} (h : Sz b x) (l : b ≤ c) : Sz c x := ⟨Nat.lt_of_lt_of_le h.n (Nat.pow_le_pow_right (by decide) l), Nat.lt_of_lt_of_le h.d (Nat.pow_le_pow_right (by decide) l)⟩
theorem mulOk {i j : Int} {a b : Nat} (h1 : i.natAbs < 2 ^ a) (h2 : j.natAbs < 2 ^ b) (h : a + b < 100000000 := by omega) : MulOk i j := by
  have x := PySem.Flt.log2_lt_of (n := i.natAbs) (k := a + 1) (by omega) (Nat.lt_of_lt_of_le h1 (Nat.pow_le_pow_right (by decide) (Nat.le_succ a)))
  have y := PySem.Flt.log2_lt_of (n := j.natAbs) (k := b + 1) (by omega) (Nat.lt_of_lt_of_le h2 (Nat.pow_le_pow_right (by decide) (Nat.le_succ b)))
  have e : (2 : Nat) ^ 27 = 134217728 := by decide
  have bi : ∀ k : Int, Builtin.Int.intBits k ≤ k.natAbs.log2 + 1 := fun k => by
    unfold Builtin.Int.intBits
    split <;> omega
  have hi := bi i
  have hj := bi j
  have hb : Builtin.Int.intTooBig (Builtin.Int.intBits i + Builtin.Int.intBits j) = false := by
    unfold Builtin.Int.intTooBig
          bitsLine
    exact (decide_eq_false (by omega))
  unfold MulOk IntMulOk
  rw [hb]
  simp
theorem divOk {i j : Int} (h0 : j ≠ 0) : DivOk i j := h0
theorem mul_lt {i j : Int} {a b : Nat} (h1 : i.natAbs < 2 ^ a) (h2 : j.natAbs < 2 ^ b) : (i * j).natAbs < 2 ^ (a + b) := by
  (rw [Int.natAbs_mul, Nat.pow_add])
  exact Nat.mul_lt_mul'' h1 h2
theorem add_lt {i j : Int} {a : Nat} (h1 : i.natAbs < 2 ^ a) (h2 : j.natAbs < 2 ^ a) : (i + j).natAbs < 2 ^ (a + 1) := by
  rw [Nat.pow_succ]
  omega
theorem sub_lt {i j : Int} {a : Nat} (h1 : i.natAbs < 2 ^ a) (h2 : j.natAbs < 2 ^ a) : (i - j).natAbs < 2 ^ (a + 1) := by
  rw [Nat.pow_succ]
  omega
theorem neg_lt {i : Int} {a : Nat} (h1 : i.natAbs < 2 ^ a) : (-i).natAbs < 2 ^ a := by omega
/-- the numbers of n / d, reduced, are no greater -/
theorem divInt_num_le (n d : Int) : (Rat.divInt n d).num.natAbs ≤ n.natAbs := by
  rw [Rat.num_divInt, Int.natAbs_ediv_of_dvd]
  · rw [Int.natAbs_mul]
    by_cases h : d = 0
    · subst h; simp
    · rw [Int.natAbs_sign_of_ne_zero h, Nat.one_mul]
      exact Nat.div_le_self _ _
  · exact Int.dvd_mul_of_dvd_right (Int.gcd_dvd_right ..)
theorem divInt_den_le (n d : Int) (h : d ≠ 0) : (Rat.divInt n d).den ≤ d.natAbs := by
  rw [Rat.den_divInt, if_neg h]
  exact Nat.div_le_self _ _
theorem sz_divInt {n d : Int} {b : Nat} (h : d ≠ 0) (h1 : n.natAbs < 2 ^ b) (h2 : d.natAbs < 2 ^ b) : Sz b (Rat.divInt n d) :=
  ⟨Nat.lt_of_le_of_lt (divInt_num_le n d) h1, Nat.lt_of_le_of_lt (divInt_den_le n d h) h2⟩
theorem add_divInt (x y : Rat) : Rat.divInt (x.num * y.den + y.num * x.den) (x.den * y.den) = x + y := by
  have hx : (x.den : Int) ≠ 0 := by have := x.den_nz; omega
  have hy : (y.den : Int) ≠ 0 := by have := y.den_nz; omega
  rw [← Rat.divInt_add_divInt _ _ hx hy, Rat.num_divInt_den, Rat.num_divInt_den]
theorem mul_divInt (x y : Rat) : Rat.divInt (x.num * y.num) (x.den * y.den) = x * y := by
  rw [← Rat.divInt_mul_divInt, Rat.num_divInt_den, Rat.num_divInt_den]
theorem den_ne (x y : Rat) : ((x.den : Int) * (y.den : Int)) ≠ 0 := by
  have hx := x.den_nz
  have hy := y.den_nz
  exact Int.mul_ne_zero (by omega) (by omega)
theorem Sz.den {b : Nat} {x : Rat} (h : Sz b x) : ((x.den : Int)).natAbs < 2 ^ b := by
  rw [Int.natAbs_natCast]
  exact h.d
theorem Sz.add {a b : Nat} {x y : Rat} (hx : Sz a x) (hy : Sz b y) : Sz (a + b + 1) (x + y) := by
  rw [← add_divInt]
  refine sz_divInt (den_ne x y) ?_ ?_
  · exact add_lt (mul_lt hx.n hy.den) (by rw [Nat.add_comm]; exact mul_lt hy.n hx.den)
  · exact Nat.lt_of_lt_of_le (mul_lt hx.den hy.den) (Nat.pow_le_pow_right (by decide) (Nat.le_succ _))
theorem Sz.mul {a b : Nat} {x y : Rat} (hx : Sz a x) (hy : Sz b y) : Sz (a + b) (x * y) := by
  rw [← mul_divInt]
  exact sz_divInt (den_ne x y) (mul_lt hx.n hy.n) (mul_lt hx.den hy.den)
theorem Sz.neg {a : Nat} {x : Rat} (hx : Sz a x) : Sz a (-x) := ⟨by rw [Rat.neg_num, Int.natAbs_neg]; exact hx.n, by rw [Rat.neg_den]; exact hx.d⟩
theorem Sz.sub {a b : Nat} {x y : Rat} (hx : Sz a x) (hy : Sz b y) : Sz (a + b + 1) (x - y) := by
  rw [Rat.sub_eq_add_neg]
  exact hx.add hy.neg
/-- n over d by the greatest part of both, with the sign of d -/
theorem parts_of (n d : Int) (h : d ≠ 0) : (T.tup [.int (n.fdiv (if 0 < d then ((n.natAbs.gcd d.natAbs : Nat) : Int) else -((n.natAbs.gcd d.natAbs : Nat) : Int))), .int (d.fdiv (if 0 < d then ((n.natAbs.gcd d.natAbs : Nat) : Int) else -((n.natAbs.gcd d.natAbs : Nat) : Int)))]) = tQ (Rat.divInt n d) := by
  have g1 : ((n.natAbs.gcd d.natAbs : Nat) : Int) ∣ n := Int.natAbs_dvd_natAbs.mp (by simpa using Nat.gcd_dvd_left n.natAbs d.natAbs)
  have g2 : ((n.natAbs.gcd d.natAbs : Nat) : Int) ∣ d := Int.natAbs_dvd_natAbs.mp (by simpa using Nat.gcd_dvd_right n.natAbs d.natAbs)
  have hg : d.gcd n = n.natAbs.gcd d.natAbs := by rw [Int.gcd, Nat.gcd_comm]
  unfold tQ
  rw [Rat.num_divInt, Rat.den_divInt, if_neg h, hg]
  generalize n.natAbs.gcd d.natAbs = g at *
  by_cases hd : 0 < d
  · rw [if_pos hd, Int.fdiv_eq_ediv_of_dvd g1, Int.fdiv_eq_ediv_of_dvd g2, Int.sign_eq_one_of_pos hd, Int.one_mul]
    have : ((d.natAbs / g : Nat) : Int) = d / g := by
      rw [Int.natCast_ediv, Int.natAbs_of_nonneg (by omega)]
    rw [this]
  · rw [if_neg hd, Int.fdiv_eq_ediv_of_dvd (Int.neg_dvd.mpr g1), Int.fdiv_eq_ediv_of_dvd (Int.neg_dvd.mpr g2), Int.sign_eq_neg_one_of_neg (by omega), Int.ediv_neg, Int.ediv_neg]
    have e1 : -1 * n / (g : Int) = -(n / g) := by
      rw [Int.neg_mul, Int.one_mul, Int.neg_ediv_of_dvd g1]
    have e2 : ((d.natAbs / g : Nat) : Int) = -(d / g) := by
      rw [Int.natCast_ediv, Int.ofNat_natAbs_of_nonpos (by omega), Int.neg_ediv_of_dvd g2]
    rw [e1, e2]
/-! ### == of fractions -/
theorem eqOk_Q (x y : Rat) : EqOk (tQ x) (tQ y) := ⟨rfl, rfl, rfl, rfl⟩
theorem eqT_Q (x y : Rat) : eqT (tQ x) (tQ y) = decide (x = y) := by
  by_cases h : x = y
  · subst h
    rw [decide_eq_true rfl]
    simp [eqT, tQ, T.toD, toDs, PyData.eqv, PyData.eqvAll]
  · rw [decide_eq_false h]
    cases e : eqT (tQ x) (tQ y) with
    | false => rfl
    | true =>
      refine absurd ?_ h
      simp [eqT, tQ, T.toD, toDs, PyData.eqv, PyData.eqvAll] at e
      exact Rat.ext e.1 (by omega)
/-! ### comprehensions, loops, by what a turn is worth -/
theorem wLc_map {g : T → TEnv → (TEnv → Prop) → Prop} {te : TR} {env : TEnv} (f : T → T) : ∀ (ts acc : List T) (Q : List T → Prop), (∀ t, t ∈ ts → ∀ Q' : T → Prop, Q' (f t) → g t env fun env' => te env' Q') → Q (acc ++ ts.map f) → wLc g bYes te env ts acc Q
  | [], acc, Q, _, hq => by simpa [wLc] using hq
  | t :: ts, acc, Q, h, hq => by
    have := h t (List.mem_cons_self ..) (fun u => wLc g bYes te env ts (acc ++ [u]) Q) (wLc_map f ts _ Q (fun t m => h t (List.mem_cons_of_mem _ m)) (by simpa using hq))
    simpa [wLc, bYes] using this
mutual
/-- no part of it is too long -/
def T.sh : T → Bool
  | .non | .bl _ | .int _ | .str _ | .wel | .scr _ | .d0 | .d1 _ _ => true
  | .tup ts | .lst ts => decide (ts.length ≤ lim) && shs ts
def shs : List T → Bool
  | [] => true
  | t :: ts => t.sh && shs ts
end
theorem shs_mem : ∀ {ts : List T}, shs ts = true → ∀ t, t ∈ ts → t.sh = true
  | [], _, t, m => by cases m
  | u :: ts, h, t, m => by
    rw [shs, Bool.and_eq_true] at h
    rcases List.mem_cons.mp m with rfl | m
    · exact h.1
    · exact shs_mem h.2 t m
theorem eqOk_int (i j : Int) : EqOk (.int i) (.int j) := ⟨rfl, rfl, rfl, rfl⟩
theorem eqT_int (i j : Int) : eqT (.int i) (.int j) = decide (i = j) := by
  show (i == j) = decide (i = j)
  by_cases h : i = j <;> simp [h]
theorem bls_map (f : T → Bool) (ts : List T) : ∃ bs : List Bool, ts.map (fun t => T.bl (f t)) = bs.map T.bl ∧ bs = ts.map f := ⟨ts.map f, by simp [List.map_map, Function.comp_def], rfl⟩
def isWhole : T → Bool
  | .int _ => true
  | _ => false
def areWholes (v : T) (n : Int) : Bool := match v with
  | .tup ts => decide ((ts.length : Int) = n) && ts.all isWhole
  | _ => false
/-- a value is a fraction -/
def isQ : T → Bool
  | .tup [.int n, .int d] => decide (0 < d) && n.natAbs.gcd d.natAbs == 1
  | _ => false
theorem isQ_tQ (x : Rat) : isQ (tQ x) = true := by
  have h := x.den_nz
  have r := x.reduced
  simp [isQ, tQ]
  exact ⟨by omega, r⟩
theorem isQ_ex {v : T} (h : isQ v = true) : ∃ x : Rat, v = tQ x := by
  unfold isQ at h
  split at h
  · rename_i n d
    simp at h
    obtain ⟨h1, h2⟩ := h
    refine ⟨⟨n, d.natAbs, by omega, h2⟩, ?_⟩
    simp [tQ]
    omega
  · cases h
def isQs : T → Bool
  | .tup ts => ts.all isQ
  | _ => false
def isP : T → Bool
  | .tup ts => ts.all isQ && (match ts.getLast? with | some t => !eqT t (.tup [.int 0, .int 1]) | none => false)
  | _ => false
def gcdL : List Int → Nat → Nat
  | [], g => g
  | n :: ns, g => gcdL ns (Nat.gcd g n.natAbs)

theorem atI_nat' {α : Type} {xs : List α} {k : Int} (h : 0 ≤ k) : atI xs k = xs[k.toNat]? := by
  unfold atI ixN
  rw [if_pos h]
  by_cases hl : k < xs.length
  · rw [if_pos hl]; rfl
  · rw [if_neg hl, List.getElem?_eq_none_iff.mpr (by omega)]; rfl
theorem atI_neg {α : Type} {xs : List α} (h : xs ≠ []) : atI xs (-1) = some (xs.getLast h) := by
  have hl : 0 < xs.length := List.length_pos_iff.mpr h
  unfold atI ixN
  rw [if_neg (by decide), if_pos (by omega)]
  show xs[(-1 + (xs.length : Int)).toNat]? = _
  have : (-1 + (xs.length : Int)).toNat = xs.length - 1 := by omega
  rw [this, List.getLast_eq_getElem]
  exact List.getElem?_eq_getElem _
theorem cutT_to {ts : List T} {k : Int} (h : 0 ≤ k) : cutT ts none (some k) = ts.take k.toNat := by
  unfold cutT
  rw [HT.sIx_none, List.drop_zero, Nat.sub_zero]
  have e : (k = ((k.toNat : Nat) : Int)) := by omega
  rw [e, HT.sIx_nat]
  simp only [Int.toNat_natCast]
  rcases Nat.le_total k.toNat ts.length with q | q
  · rw [Nat.min_eq_left q]
  · rw [Nat.min_eq_right q, List.take_length, List.take_of_length_le q]
theorem cutT_from {ts : List T} {k : Int} (h : 0 ≤ k) : cutT ts (some k) none = ts.drop k.toNat := by
  unfold cutT
  rw [HT.sIx_none]
  have e : (k = ((k.toNat : Nat) : Int)) := by omega
  rw [e, HT.sIx_nat]
  simp only [Int.toNat_natCast]
  rcases Nat.le_total k.toNat ts.length with q | q
  · rw [Nat.min_eq_left q, List.take_of_length_le (by rw [List.length_drop]; omega)]
  · rw [Nat.min_eq_right q, List.drop_length, List.drop_of_length_le q, List.take_nil]
/-- trailing noughts off -/
def trimN (p : List Rat) : Nat → Nat
  | 0 => 0
  | n + 1 => if p[n]? = some 0 then trimN p n else n + 1
def trim (p : List Rat) : List Rat := p.take (trimN p p.length)
theorem trimN_le (p : List Rat) : ∀ n, trimN p n ≤ n
  | 0 => Nat.le_refl 0
  | n + 1 => by
    unfold trimN
    split
    · exact Nat.le_succ_of_le (trimN_le p n)
    · exact Nat.le_refl _
theorem tQs_get {p : List Rat} {i : Nat} : (tQs p)[i]? = p[i]?.map tQ := by unfold tQs; rw [List.getElem?_map]
theorem tQs_len {p : List Rat} : (tQs p).length = p.length := List.length_map ..
theorem tQs_take {p : List Rat} {n : Nat} : (tQs p).take n = tQs (p.take n) := (List.map_take ..).symm
theorem tQs_drop {p : List Rat} {n : Nat} : (tQs p).drop n = tQs (p.drop n) := (List.map_drop ..).symm
theorem tQs_set {p : List Rat} {i : Nat} {x : Rat} : (tQs p).set i (tQ x) = tQs (p.set i x) := (List.map_set ..).symm
theorem tQs_app {p q : List Rat} : tQs p ++ tQs q = tQs (p ++ q) := (List.map_append ..).symm
theorem tQs_rev {p : List Rat} : (tQs p).reverse = tQs p.reverse := List.map_reverse.symm
def SzL (b : Nat) (p : List Rat) : Prop := ∀ x, x ∈ p → Sz b x
theorem SzL.get {b : Nat} {p : List Rat} (h : SzL b p) {i : Nat} {x : Rat} (e : p[i]? = some x) : Sz b x := h x (List.mem_of_getElem? e)
theorem SzL.mono {b c : Nat} {p : List Rat} (h : SzL b p) (l : b ≤ c) : SzL c p := fun x m => (h x m).mono l
theorem Sz.zero {b : Nat} (h : 0 < b) : Sz b 0 := ⟨by show 0 < 2 ^ b; exact Nat.two_pow_pos b, by show 1 < 2 ^ b; exact Nat.one_lt_two_pow (by omega)⟩
theorem SzL.rep {b n : Nat} {x : Rat} (h : Sz b x) : SzL b (List.replicate n x) := fun y m => by rw [List.eq_of_mem_replicate m]; exact h
theorem SzL.set {b : Nat} {p : List Rat} (h : SzL b p) {i : Nat} {x : Rat} (hx : Sz b x) : SzL b (p.set i x) := fun y m => by
  rcases List.mem_or_eq_of_mem_set m with q | q
  · exact h y q
  · rw [q]; exact hx
theorem SzL.take {b n : Nat} {p : List Rat} (h : SzL b p) : SzL b (p.take n) := fun x m => h x (List.mem_of_mem_take m)
theorem SzL.trim {b : Nat} {p : List Rat} (h : SzL b p) : SzL b (trim p) := h.take
/-- the data of rows of fractions -/
theorem datas_Qs : ∀ p : List Rat, datas (tQs p) = true
  | [] => rfl
  | x :: p => by show (T.data (tQ x) && datas (tQs p)) = true; rw [datas_Qs p]; rfl
theorem shs_Qs : ∀ p : List Rat, shs (tQs p) = true
  | [] => rfl
  | x :: p => by show (T.sh (tQ x) && shs (tQs p)) = true; rw [shs_Qs p]; rfl
theorem sh_tQ (x : Rat) : (tQ x).sh = true := rfl
theorem noLs_Qs : ∀ p : List Rat, noLs (tQs p) = true
  | [] => rfl
  | x :: p => by show (T.noL (tQ x) && noLs (tQs p)) = true; rw [noLs_Qs p]; rfl
theorem noL_P (p : List Rat) : (tP p).noL = true := noLs_Qs p
theorem noL_Q (x : Rat) : (tQ x).noL = true := rfl
theorem canLays_Qs : ∀ p : List Rat, PyData.canLayAll0 (toDs (tQs p)) = true
  | [] => rfl
  | x :: p => by
    show (PyData.canLay0 (T.toD (tQ x)) && PyData.canLayAll0 (toDs (tQs p))) = true
    rw [canLays_Qs p]; rfl
theorem depth_Qs : ∀ p : List Rat, PyData.depthAll (toDs (tQs p)) ≤ 1
  | [] => by show 0 ≤ 1; omega
  | x :: p => by
    show max (PyData.depth (T.toD (tQ x))) (PyData.depthAll (toDs (tQs p))) ≤ 1
    have := depth_Qs p
    have e : PyData.depth (T.toD (tQ x)) = 1 := rfl
    omega
theorem shaped_P (p : List Rat) : SeqAt.shaped (tP p).toD = true := by
  show (PyData.canLayAll0 (toDs (tQs p)) && decide (PyData.depthAll (toDs (tQs p)) + 1 ≤ 64)) = true
  rw [canLays_Qs p, Bool.true_and]
  have := depth_Qs p
  exact (decide_eq_true (by omega))
theorem shaped_LQ (p : List Rat) : SeqAt.shaped (tLQ p).toD = true := shaped_P p
theorem eqOk_P (p q : List Rat) : EqOk (tP p) (tP q) := ⟨datas_Qs p, datas_Qs q, shaped_P p, shaped_P q⟩
theorem eqvs_Qs : ∀ p q : List Rat, PyData.eqvAll (toDs (tQs p)) (toDs (tQs q)) = decide (p = q)
  | [], [] => rfl
  | [], _ :: _ => by simp [tQs, toDs, PyData.eqvAll]
  | _ :: _, [] => by simp [tQs, toDs, PyData.eqvAll]
  | x :: p, y :: q => by
    show (eqT (tQ x) (tQ y) && PyData.eqvAll (toDs (tQs p)) (toDs (tQs q))) = decide (x :: p = y :: q)
    rw [eqT_Q, eqvs_Qs p q]
    by_cases h : x = y <;> by_cases h2 : p = q <;> simp [h, h2]
theorem eqT_P (p q : List Rat) : eqT (tP p) (tP q) = decide (p = q) := eqvs_Qs p q
theorem all_isQ : ∀ {ts : List T}, ts.all isQ = true → ∃ p, ts = tQs p
  | [], _ => ⟨[], rfl⟩
  | t :: ts, h => by
    (rw [List.all_cons, Bool.and_eq_true] at h)
    obtain ⟨x, rfl⟩ := isQ_ex h.1
    obtain ⟨p, rfl⟩ := all_isQ h.2
    exact ⟨x :: p, rfl⟩
theorem all_isQ_Qs : ∀ p : List Rat, (tQs p).all isQ = true
  | [] => rfl
  | x :: p => by
    show (isQ (tQ x) && (tQs p).all isQ) = true
    rw [isQ_tQ, all_isQ_Qs p]; rfl
/-- a value is a polynomial -/
def isPoly : T → Bool
  | .tup ts => ts.all isQ && (match ts.getLast? with | some t => !eqT t (tQ 0) | none => false)
  | _ => false
theorem isPoly_P {p : List Rat} {x : Rat} (h : p.getLast? = some x) (hx : x ≠ 0) : isPoly (tP p) = true := by
  show ((tQs p).all isQ && (match (tQs p).getLast? with | some t => !eqT t (tQ 0) | none => false)) = true
  rw [all_isQ_Qs, Bool.true_and]
  have : (tQs p).getLast? = some (tQ x) := by unfold tQs; rw [List.getLast?_map, h]; rfl
  rw [this]
  show (!eqT (tQ x) (tQ 0)) = true
  rw [eqT_Q, decide_eq_false hx]; rfl
theorem isPoly_ex {v : T} (h : isPoly v = true) : ∃ p x, v = tP p ∧ p.getLast? = some x ∧ x ≠ 0 := by
  unfold isPoly at h
  split at h
  · rename_i ts
    rw [Bool.and_eq_true] at h
    obtain ⟨p, rfl⟩ := all_isQ h.1
    have e : (tQs p).getLast? = p.getLast?.map tQ := List.getLast?_map ..
    rw [e] at h
    cases q : p.getLast? with
    | none => rw [q] at h; simp at h
    | some x =>
      refine ⟨p, x, rfl, q, fun z => ?_⟩
      rw [q] at h
      have := h.2
      simp [eqT_Q, z] at this
  · cases h
/-! ### the number of a polynomial at a place; a product -/
def pval : List Rat → Rat → Rat
  | [], _ => 0
  | x :: p, z => x + z * pval p z
theorem pval_snoc (z x : Rat) : ∀ p : List Rat, pval (p ++ [x]) z = pval p z + x * z ^ p.length
  | [] => by
    show x + z * 0 = 0 + x * z ^ 0
    rw [Rat.pow_zero]
    grind
  | y :: p => by
    show y + z * pval (p ++ [x]) z = y + z * pval p z + x * z ^ (p.length + 1)
    rw [pval_snoc z x p, Rat.pow_succ]
    grind
/-- found[k] = found[k] + x -/
def addAt (l : List Rat) (k : Nat) (x : Rat) : List Rat := l.set k (l.getD k 0 + x)
def mulRow (x : Rat) (at_ : Nat) : List Rat → Nat → List Rat → List Rat
  | [], _, l => l
  | y :: q, k, l => mulRow x at_ q (k + 1) (addAt l (at_ + k) (x * y))
def mulRows (q : List Rat) : List Rat → Nat → List Rat → List Rat
  | [], _, l => l
  | x :: p, k, l => mulRows q p (k + 1) (mulRow x k q 0 l)
def mulP (p q : List Rat) : List Rat := mulRows q p 0 (List.replicate (p.length + q.length - 1) 0)
theorem addAt_len (l : List Rat) (k : Nat) (x : Rat) : (addAt l k x).length = l.length := List.length_set ..
theorem mulRow_len (x : Rat) (a : Nat) : ∀ (q : List Rat) (k : Nat) (l : List Rat), (mulRow x a q k l).length = l.length
  | [], _, _ => rfl
  | y :: q, k, l => by rw [mulRow, mulRow_len x a q, addAt_len]
theorem mulRows_len (q : List Rat) : ∀ (p : List Rat) (k : Nat) (l : List Rat), (mulRows q p k l).length = l.length
  | [], _, _ => rfl
  | y :: p, k, l => by rw [mulRows, mulRows_len q p, mulRow_len]
theorem ixN_nat {n k : Nat} (h : k < n) : ixN n ((k : Nat) : Int) = some k := by
  unfold ixN
  rw [if_pos (by omega), if_pos (by omega), Int.toNat_natCast]
theorem atI_k {α : Type} {xs : List α} {k : Nat} : atI xs ((k : Nat) : Int) = xs[k]? := by rw [atI_nat' (by omega), Int.toNat_natCast]
theorem rep_flat {α : Type} (x : α) : ∀ n : Nat, (List.replicate n [x]).flatten = List.replicate n x
  | 0 => rfl
  | n + 1 => by rw [List.replicate_succ, List.flatten_cons, rep_flat x n, List.replicate_succ]; rfl
theorem rep_Q (x : Rat) (n : Nat) : List.replicate n (tQ x) = tQs (List.replicate n x) := by unfold tQs; rw [List.map_replicate]
theorem enT_nil (k : Nat) : ([] : List T).zipIdx k = [] := rfl
/-- sizes: those ahead of place t are below hi, those from it on below lo -/
def SzR (l : List Rat) (t lo hi : Nat) : Prop := ∀ j y, l[j]? = some y → Sz (if j < t then hi else lo) y
theorem SzR.of {l : List Rat} {t lo hi : Nat} (h : SzL lo l) (le : lo ≤ hi) : SzR l t lo hi := fun j y e => by
  split
  · exact (h.get e).mono le
  · exact h.get e
theorem SzR.all {l : List Rat} {t lo hi : Nat} (h : SzR l t lo hi) (le : lo ≤ hi) : SzL hi l := fun y m => by
  obtain ⟨j, hj, e⟩ := List.getElem_of_mem m
  have := h j y (by rw [List.getElem?_eq_getElem hj, e])
  split at this
  · exact this
  · exact this.mono le
theorem SzR.put {l : List Rat} {t lo hi : Nat} {x : Rat} (h : SzR l t lo hi) (hx : Sz hi x) : SzR (l.set t x) (t + 1) lo hi := fun j y e => by
  by_cases hj : j = t
  · subst hj
    rw [if_pos (Nat.lt_succ_self _)]
    rw [set_self e]
    exact hx
  · rw [List.getElem?_set_ne (fun z => hj z.symm)] at e
    have := h j y e
    have e2 : (j < t + 1) ↔ j < t := by omega
    simp only [e2]
    exact this
theorem trim_zeros (n : Nat) : trim (List.replicate n 0) = [] := by
  have : ∀ m, m ≤ n → trimN (List.replicate n (0 : Rat)) m = 0 := by
    intro m
    induction m with
    | zero => intro _; rfl
    | succ m ih =>
      intro h
      rw [trimN, if_pos (by rw [List.getElem?_replicate, if_pos (by omega)])]
      exact ih (by omega)
  unfold trim
  rw [List.length_replicate, this n (Nat.le_refl n), List.take_zero]
theorem mulRows_nil : ∀ (p : List Rat) (k : Nat) (l : List Rat), mulRows [] p k l = l
  | [], _, _ => rfl
  | x :: p, k, l => by rw [mulRows, mulRow]; exact mulRows_nil p (k + 1) l
def prodP (p q : List Rat) : List Rat := trim (mulP p q)
theorem prodP_nil (p q : List Rat) (h : p = [] ∨ q = []) : prodP p q = [] := by
  rcases h with rfl | rfl
  · exact trim_zeros _
  · unfold prodP mulP
    rw [mulRows_nil]
    exact trim_zeros _
end Tw

namespace Tw
open PySem
open PySem.Spec PyProof.Rows L2
section
variable {X : Cx} {own : List Nat} {a : Expr} {ra : TR} {rs rk : TL} {c1 t1 bb bk : Bool} {pos p : Pos} {x : Str}
structure PKt (X : Cx) (own : List Nat) (b : Bool) (kws : List Keyword) (r : TL) : Prop where
  pk : PK X kws (liftL X.K own b r)
theorem pkImp {kws : List Keyword} {t t' : TA} (h : PK X kws t) (i : ∀ σ H Q, t' σ H Q → t σ H Q) : PK X kws t' := ⟨fun p pins s σ H Q I q => h.run p pins s σ H Q I (i _ _ _ q)⟩
theorem kt_nil : PKt X own true [] rNil := ⟨pkImp pk_nil fun σ H Q ⟨_, _, _, _, R, q, k⟩ => k _ q _ H _ (Step.refl R.wok) .nil⟩
theorem kt_cons {nm : Option Str} {kpos : Pos} {kws : List Keyword} (ha : PEt X own c1 t1 a ra) (hr : PKt X own bb kws rs) : PKt X own (c1 && t1 && bb) (⟨nm, a, kpos⟩ :: kws) (rCons ra rs) := by
  refine ⟨pkImp (pk_cons ha.pe hr.pk) fun σ H Q h => ?_⟩
  obtain ⟨W, Z, env, Qt, R, h, k⟩ := h
  refine ⟨W, Z, env, _, R, h, fun u hu v H1 W1 s1 p1 => ⟨W1, Z, env, _, R.step s1, hu, fun us hus vs H2 W2 s2 p2 => ?_⟩⟩
  have q1 : RpO X.K W1 (ZZ own σ Z (c1 && t1 && bb)) (ZZ own σ Z (c1 && t1 && bb)) H1 v u := p1.mono (ZZ.le fun e => by simp [Bool.and_eq_true] at e; exact e.1.2) (ZZ.le fun e => by simp [Bool.and_eq_true] at e; exact e.1.1)
  refine k _ hus _ H2 W2 (s1.trans s2) (.cons (q1.rp.step s1.ok s2) ?_)
  exact p2.mono (ZZ.le fun e => by simp [Bool.and_eq_true] at e; exact e.2)
def pick {α : Type} (perm : List Nat) (l : List α) : List α := perm.filterMap (l[·]?)
theorem pick_nil {α : Type} {l : List α} : pick [] l = [] := rfl
theorem pick_cons {α : Type} {i : Nat} {perm : List Nat} {l : List α} : pick (i :: perm) l = match l[i]? with | some x => x :: pick perm l | none => pick perm l := by
  unfold pick
  rw [List.filterMap_cons]
  cases l[i]? <;> rfl
theorem vals_pick {vs : List V} {us : List Value} (h : Vals vs us) : ∀ perm : List Nat, Vals (pick perm vs) (pick perm us)
  | [] => .nil
  | i :: perm => by
    rw [pick_cons, pick_cons]
    cases e : vs[i]? with
    | some v =>
      obtain ⟨u, h1, h2⟩ := h.get e
      rw [h1]
      exact .cons h2 (vals_pick h perm)
    | none =>
      rw [List.getElem?_eq_none_iff.mpr (by rw [← h.length]; exact List.getElem?_eq_none_iff.mp e)]
      exact vals_pick h perm
theorem RpA.pick {K : PySem.W.Frag} {W Z : Addr → Prop} {H : Hp} {vs : List V} {ts : List T} (h : RpA K W Z H vs ts) : ∀ perm : List Nat, RpA K W Z H (Tw.pick perm vs) (Tw.pick perm ts)
  | [] => .nil
  | i :: perm => by
    rw [pick_cons, pick_cons]
    cases e : ts[i]? with
    | some v =>
      obtain ⟨u, h1, h2⟩ := h.get e
      rw [h1]
      exact .cons h2 (h.pick perm)
    | none =>
      rw [List.getElem?_eq_none_iff.mpr (by rw [h.length]; exact List.getElem?_eq_none_iff.mp e)]
      exact h.pick perm
/-- how a call with n values and keywords named ks binds -/
structure KBd (K : PySem.W.Frag) (mg : Str → Option Value) (x : Str) (n : Nat) (ks ps : List Str) (perm : List Nat) : Prop where
  ex : ∃ f fd oc od osl, mg x = some (.ref f) ∧ K.lookup f = some ⟨oc, od, .func fd, osl⟩ ∧ ∀ (s : Shared) (us ws : List Value), us.length = n → ws.length = ks.length → BindsTo s fd ⟨us, ks.zip ws⟩ (ps.zip (pick perm (us ++ ws)))
theorem kbd_of {K : PySem.W.Frag} {mg : Str → Option Value} {x : Str} {st : Stmt} {n : Nat} {ks ps : List Str} {perm : List Nat} (d : Def K mg x st ps)
    (h : ∀ (kV doc pm : Value) (an : Option Addr) (cdv ct : Value) (us ws : List Value), us.length = n → ws.length = ks.length → bindArgs (PySem.W.fnOf x x (defArgs st) (defBody st) (defScope st) .none kV doc pm an cdv ct) ⟨us, ks.zip ws⟩ = pure (ps.zip (pick perm (us ++ ws)))) :
    KBd K mg x n ks ps perm := by
  obtain ⟨f, fd, F, b, g⟩ := d.ex
  obtain (⟨oc, od, kV, doc, pm, an, cdv, ct, osl, rfl, lk, hcd⟩) := F.ex
  exact ⟨f, _, oc, od, osl, g, lk, fun s us ws h1 h2 => .of_eq (h kV doc pm an cdv ct us ws h1 h2)⟩
def rCallK (n m : Nat) (perm : List Nat) (Φ : TF) (rs rk : TL) : TR := fun env Q => rs env fun us => rk env fun ws => us.length = n ∧ ws.length = m ∧ Φ (pick perm (us ++ ws)) Q
variable {ps ks : List Str} {k n : Nat} {Φ : TF} {perm : List Nat} {kws : List Keyword} {e : Expr} {es : List Expr}
theorem runK {pins : List (Addr × Obj)} {σ : L2.St} {H : Hp} {s : Shared} {Q : VK} {us ws : List Value} {vs zs : List V} {f : Addr} {fd : FuncData} {sp : Sp} (F : FnOk X.prog X.w X.K X.mg X.base CX0 k f fd ps sp) (hr : Room k X.A)
    (hb : BindsTo s fd ⟨us, ks.zip ws⟩ (ps.zip (pick perm (us ++ ws)))) (I : Inv X pins σ H s) (r : Vals (vs ++ zs) (us ++ ws)) (h : sp (pick perm (vs ++ zs)) H Q E0) : wpAny (model X.prog X.w) X.A (call (.ref f) us (ks.zip ws)) (EP X pins σ Q) X.xe s := by
  refine wpAny_call (codeAny_mono (F.run X.A X.stack s H _ _ _ Q E0 hr I.env0 hb (vals_pick r perm) h) fun res s2 hq => ?_)
  match res, hq with
  | .error _, hq => exact hq.elim
  | .ok (.ret _), hq => exact I.after hq
  | .ok .next, hq => exact hq.elim
  | .ok .brk, hq => exact hq.elim
  | .ok .cont, hq => exact hq.elim
theorem callK_ok {W Z : Addr → Prop} {H : Hp} {Q : VK} (w : WOk W H) (zx : ∀ a, Z a → ∃ o, H a = some o) {vs : List V} {ts : List T} {Qt : T → Prop} (r : RpA X.K W Z H vs ts) (h : Φ (pick perm ts) Qt)
    (k : ∀ u, Qt u → ∀ v H' W', Step W H W' H' → Rp X.K W' Z H' v u → Q v H') : spT X.K Φ (pick perm vs) H Q E0 :=
  ⟨W, Z, _, Qt, w, zx, r.pick perm, h, k⟩
def tCallP (sp : Sp) (n m : Nat) (perm : List Nat) (t tk : TA) : TE := fun σ H Q => t σ H fun vs H1 => tk σ H1 fun zs H2 => vs.length = n ∧ zs.length = m ∧ sp (pick perm (vs ++ zs)) H2 Q E0
theorem pe_callP {f : Addr} {fd : FuncData} {sp : Sp} {t tk : TA} (F : FnOk X.prog X.w X.K X.mg X.base CX0 k f fd ps sp) (hr : Room k X.A) (hg : Gl X x) (hm : X.mg x = some (.ref f)) (kp : PySem.W.keepIn X.K (.ref f) = true)
    (hb : ∀ (s : Shared) (us ws : List Value), us.length = n → ws.length = ks.length → BindsTo s fd ⟨us, ks.zip ws⟩ (ps.zip (pick perm (us ++ ws)))) (ha : PA X (e :: es) t) (hk : PK X kws tk)
    (hall : (backToKw pos (keywordEach kws X.env)).all (·.1.isSome) = true) (hks : (backToKw pos (keywordEach kws X.env)).filterMap (·.1) = ks)
    (hdb : (x == ("__debug__" : Str)) = false) (he : starEach (e :: es) X.env = (false, eval e X.env) :: starEach es X.env)
    (hpl : ((backTo pos (starEach (e :: es) X.env)).any (·.1) || (backToKw pos (keywordEach kws X.env)).any (·.1.isNone)) = false) :
    PE X (.Call (.Name x p) (e :: es) kws pos) (tCallP sp n ks.length perm t tk) := by
  refine ⟨fun pins s σ H Q I hq => wpAny_Call_Name_kw (ld_glob I hg hm ?_ hdb)⟩
  refine PySem.W.callWith_KW (h₀ := X.base) I.ok.mod.kin kp hall (thn (ha.run pos pins s σ H _ I hq) fun us s1 ⟨vs, H1, I1, r1, q1⟩ => ?_) hpl he
  refine thn (hk.run pos pins s1 σ H1 _ I1 q1) fun ws s2 ⟨zs, H2, I2, r2, l1, l2, q2⟩ => ⟨I2.kIn, ?_⟩
  rw [hks]
  exact runK F hr (hb s2 us ws (r1.length ▸ l1) (r2.length ▸ l2)) I2 (r1.append r2) q2
theorem pe_callP0 {f : Addr} {fd : FuncData} {sp : Sp} {tk : TA} (F : FnOk X.prog X.w X.K X.mg X.base CX0 k f fd ps sp) (hr : Room k X.A) (hg : Gl X x) (hm : X.mg x = some (.ref f)) (kp : PySem.W.keepIn X.K (.ref f) = true)
    (hb : ∀ (s : Shared) (us ws : List Value), us.length = n → ws.length = ks.length → BindsTo s fd ⟨us, ks.zip ws⟩ (ps.zip (pick perm (us ++ ws)))) (hk : PK X kws tk)
    (hall : (backToKw pos (keywordEach kws X.env)).all (·.1.isSome) = true) (hks : (backToKw pos (keywordEach kws X.env)).filterMap (·.1) = ks)
    (hdb : (x == ("__debug__" : Str)) = false) (hpl : ((backTo pos (starEach [] X.env)).any (·.1) || (backToKw pos (keywordEach kws X.env)).any (·.1.isNone)) = false) :
    PE X (.Call (.Name x p) [] kws pos) (tCallP sp n ks.length perm tNil tk) := by
  refine ⟨fun pins s σ H Q I hq => wpAny_Call_Name_kw (ld_glob I hg hm ?_ hdb)⟩
  refine PySem.W.callWith_KW0 (h₀ := X.base) I.ok.mod.kin kp hall (thn (hk.run pos pins s σ H _ I hq) fun ws s2 ⟨zs, H2, I2, r2, l1, l2, q2⟩ => ⟨I2.kIn, ?_⟩) hpl
  rw [hks]
  exact runK (us := []) (vs := []) F hr (hb s2 [] ws l1 (r2.length ▸ l2)) I2 r2 q2
/-- f(e, .., k = v, ..) -/
theorem Eck (h : Has X.prog X.w X.K X.mg X.base x ps k Φ) (b : KBd X.K X.mg x n ks ps perm) (hr : Room k X.A) (ha : PAt X own bb (e :: es) rs) (hk : PKt X own bk kws rk) (hg : Gl X x := by rfl)
    (hall : (backToKw pos (keywordEach kws X.env)).all (·.1.isSome) = true := by rfl) (hks : (backToKw pos (keywordEach kws X.env)).filterMap (·.1) = ks := by rfl) (hdb : (x == ("__debug__" : Str)) = false := by decide) (he : starEach (e :: es) X.env = (false, eval e X.env) :: starEach es X.env := by rfl) (hpl : ((backTo pos (starEach (e :: es) X.env)).any (·.1) || (backToKw pos (keywordEach kws X.env)).any (·.1.isNone)) = false := by rfl) :
    PEt X own (bb && bk) (bb && bk) (.Call (.Name x p) (e :: es) kws pos) (rCallK n ks.length perm Φ rs rk) := by
  obtain ⟨f, fd, g, kp, bd, F, _, _, _, lk⟩ := h.ex
  obtain ⟨f2, fd2, _, _, _, g2, lk2, bt⟩ := b.ex
  rw [g] at g2; cases g2
  rw [lk] at lk2; cases lk2
  refine ⟨peImp (pe_callP F hr hg g kp bt ha.pa hk.pk hall hks hdb he hpl) fun σ H Q hq => ?_⟩
  obtain ⟨W, Z, env, Qt, R, hq, kk⟩ := hq
  refine ⟨W, Z, env, _, R, hq, fun us hus vs H1 W1 s1 p1 => ⟨W1, Z, env, _, R.step s1, hus, fun ws hws zs H2 W2 s2 p2 => ?_⟩⟩
  obtain ⟨l1, l2, hws⟩ := hws
  refine ⟨p1.length.trans l1, p2.length.trans l2, callK_ok (Z := ZZ own σ Z (bb && bk)) s2.ok (((R.step s1).step s2).zzx _) (((p1.step s1.ok s2).mono (ZZ.le fun q => ?_)).app (p2.mono (ZZ.le fun q => ?_))) hws fun u hu v H' W' s' r' => kk u hu v H' W' ((s1.trans s2).trans s') (.of r')⟩
  · exact (Bool.and_eq_true _ _ ▸ q).1
  · exact (Bool.and_eq_true _ _ ▸ q).2
/-- f(k = v, ..) -/
theorem Eck0 (h : Has X.prog X.w X.K X.mg X.base x ps k Φ) (b : KBd X.K X.mg x n ks ps perm) (hr : Room k X.A) (hk : PKt X own bk kws rk) (hg : Gl X x := by rfl)
    (hall : (backToKw pos (keywordEach kws X.env)).all (·.1.isSome) = true := by rfl) (hks : (backToKw pos (keywordEach kws X.env)).filterMap (·.1) = ks := by rfl)
    (hdb : (x == ("__debug__" : Str)) = false := by decide) (hpl : ((backTo pos (starEach [] X.env)).any (·.1) || (backToKw pos (keywordEach kws X.env)).any (·.1.isNone)) = false := by rfl) :
    PEt X own bk bk (.Call (.Name x p) [] kws pos) (rCallK n ks.length perm Φ rNil rk) := by
  obtain ⟨f, fd, g, kp, bd, F, _, _, _, lk⟩ := h.ex
  obtain ⟨f2, fd2, _, _, _, g2, lk2, bt⟩ := b.ex
  rw [g] at g2; cases g2
  rw [lk] at lk2; cases lk2
  refine ⟨peImp (pe_callP0 F hr hg g kp bt hk.pk hall hks hdb hpl) fun σ H Q hq => ?_⟩
  obtain ⟨W, Z, env, Qt, R, hq, kk⟩ := hq
  refine ⟨W, Z, env, _, R, hq, fun ws hws zs H2 W2 s2 p2 => ?_⟩
  obtain ⟨l1, l2, hws⟩ := hws
  exact ⟨l1, p2.length.trans l2, callK_ok (vs := [] ++ zs) s2.ok ((R.step s2).zzx _) p2 hws fun u hu v H' W' s' r' => kk u hu v H' W' (s2.trans s') (.of r')⟩
/-! ### displays of dicts -/
mutual
theorem Rp.noLu {K : PySem.W.Frag} {W Z : Addr → Prop} {H : Hp} {q : Addr} {o : HO} (hq : H q = some (.dK [])) : ∀ {t : T} {v : V}, Rp K W Z H v t → t.noL = true → Rp K W Z (upd H q o) v t
  | .non, _, h, _ => by cases h; exact .non
  | .bl _, _, h, _ => by cases h; exact .bl _
  | .int _, _, h, _ => by cases h; exact .int _
  | .str _, _, h, _ => by cases h; exact .str _
  | .tup ts, _, h, e => by
    cases h with
    | tup s r =>
      refine .tup ?_ (RpA.noLu hq r (by simpa [T.noL] using e))
      rcases s with (s | ⟨y, s⟩) | s
      · exact .inl (.inl (by rw [upd_ne (fun z => by rw [z, hq] at s; cases s)]; exact s))
      · exact .inl (.inr ⟨y, by rw [upd_ne (fun z => by rw [z, hq] at s; cases s)]; exact s⟩)
      · exact .inr s
  | .lst ts, _, h, e => by simp [T.noL] at e
  | .wel, _, h, _ => by cases h with | wel s => exact .wel s
  | .scr _, _, h, _ => by
    cases h with
    | scr s =>
      rcases s with ⟨y, s⟩ | s
      · exact .scr (.inl ⟨y, by rw [upd_ne (fun z => by rw [z, hq] at s; cases s)]; exact s⟩)
      · exact .scr (.inr s)
  | .d0, _, h, e => by simp [T.noL] at e
  | .d1 k t, _, h, e => by simp [T.noL] at e
theorem RpA.noLu {K : PySem.W.Frag} {W Z : Addr → Prop} {H : Hp} {q : Addr} {o : HO} (hq : H q = some (.dK [])) : ∀ {ts : List T} {vs : List V}, RpA K W Z H vs ts → noLs ts = true → RpA K W Z (upd H q o) vs ts
  | [], _, h, _ => by cases h; exact .nil
  | t :: ts, _, h, e => by
    cases h with
    | cons y z =>
      rw [noLs, Bool.and_eq_true] at e
      exact .cons (Rp.noLu hq y e.1) (RpA.noLu hq z e.2)
end
theorem notW {W : Addr → Prop} {H : Hp} {q : Addr} (w : WOk W H) (n : H q = none) : ¬ W q := fun z => by
  obtain ⟨_, _, _, e⟩ := w q z
  rw [n] at e; cases e
theorem et_d0 : PEt X own true true (.Dict [] [] pos) (rC .d0) := by
  refine ⟨peImp pe_dnewK fun σ H Q ⟨W, Z, env, Qt, R, q, k⟩ p n => ?_⟩
  refine k _ q _ _ W (Step.put R.wok n) (.of (.d0 (notW R.wok n) (fun z => ?_) upd_same))
  obtain ⟨o, e⟩ := R.zzx _ _ z
  rw [n] at e; cases e
def rD1 (k : Str) (ra : TR) : TR := fun env Q => ra env fun u => u.noL = true ∧ Q (.d1 k u)
theorem et_d1 {kk : Str} {j : Tok} {p1 : Pos} (ha : PEt X own c1 t1 a ra) : PEt X own true true (.Dict [some (.Constant (.str kk) j p1)] [a] pos) (rD1 kk ra) := by
  refine ⟨peImp (pe_disp (pps_cons pe_str ha.pe pps_nil) rfl rfl (by simp) (by simp)) fun σ H Q ⟨W, Z, env, Qt, R, h, k⟩ q n => ?_⟩
  have s0 := Step.put (o := .dK []) R.wok n
  refine ⟨W, Z, env, _, R.step s0, h, fun u hu v H1 W1 s1 p1 => ?_⟩
  obtain ⟨hn, hu⟩ := hu
  have nW := notW R.wok n
  have hq : H1 q = some (.dK []) := s1.keep upd_same nW
  have nW1 : ¬ W1 q := fun z => by
    rcases s1.so.new q z with y | y
    · exact nW y
    · rw [upd_same] at y; cases y
  refine ⟨hq, [(.inr kk, v)], rfl, by simp, ?_⟩
  have s2 := s0.trans s1
  have pv : Rp X.K W1 (ZZ own σ Z true) (upd H1 q (.dK [(.inr kk, v)])) v u := by
    refine Rp.noLu hq (Rp.noL (Z := Z) ?_ hn) hn
    cases u with
    | lst ts => cases hn
    | _ => exact Rp.mono (fun _ y => .inl y) p1
  refine k _ hu _ _ W1 ⟨⟨fun b o e w z => ?_, s2.so.sub, s2.so.new, fun _ z => z.elim, fun b o e => ?_⟩, fun b hb => ?_⟩ (.of (.d1 nW1 (fun z => ?_) upd_same pv))
  · rw [upd_ne (ne_of_none e n)]
    exact s2.keep e w
  · obtain ⟨o2, e2⟩ := s2.so.dom b o e
    exact ⟨o2, by rw [upd_ne (ne_of_none e n)]; exact e2⟩
  · obtain ⟨g, c, d, e⟩ := s1.ok b hb
    exact ⟨g, c, d, by rw [upd_ne (fun z => nW1 (by rw [← z]; exact hb))]; exact e⟩
  · obtain ⟨o, e⟩ := R.zzx _ _ z
    rw [n] at e; cases e
end
end Tw

namespace Tw
open PySem
open PySem.Spec PyProof.Rows L2
mutual
theorem noDict_of : ∀ t : T, t.data = true → t.toD.hasDict = false
  | .non, _ => by simp [T.toD, PyData.hasDict]
  | .bl _, _ => by simp [T.toD, PyData.hasDict]
  | .int _, _ => by simp [T.toD, PyData.hasDict]
  | .str _, _ => by simp [T.toD, PyData.hasDict]
  | .tup ts, h => by
    have := noDict_ofs ts (by simpa [T.data] using h)
    simpa [T.toD, PyData.hasDict] using this
  | .lst ts, h => by
    have := noDict_ofs ts (by simpa [T.data] using h)
    simpa [T.toD, PyData.hasDict] using this
  | .wel, h => by simp [T.data] at h
  | .scr _, h => by simp [T.data] at h
  | .d0, h => by simp [T.data] at h
  | .d1 _ _, h => by simp [T.data] at h
theorem noDict_ofs : ∀ ts : List T, datas ts = true → PyData.hasDictAll (toDs ts) = false
  | [], _ => by simp [toDs, PyData.hasDictAll]
  | t :: ts, h => by
    rw [datas, Bool.and_eq_true] at h
    simp [toDs, PyData.hasDictAll, noDict_of t h.1, noDict_ofs ts h.2]
end
/-- a tree that can be shown: n parts, d deep -/
structure Rk (n d : Nat) (t : T) : Prop where
  data : t.data = true
  show' : t.toD.showable = true
  lf : t.toD.leavesShort 1921 = true
  bk : t.toD.bulk ≤ n
  dp : t.toD.depth ≤ d
structure RkA (n d : Nat) (ts : List T) : Prop where
  data : datas ts = true
  show' : PyData.showableAll (toDs ts) = true
  lf : PyData.leavesShortAll 1921 (toDs ts) = true
  bk : PyData.bulkAll (toDs ts) ≤ n
  dp : PyData.depthAll (toDs ts) ≤ d
theorem Rk.mono {n d m e : Nat} {t : T} (h : Rk n d t) (h1 : n ≤ m) (h2 : d ≤ e) : Rk m e t := ⟨h.data, h.show', h.lf, Nat.le_trans h.bk h1, Nat.le_trans h.dp h2⟩
theorem RkA.mono {n d m e : Nat} {t : List T} (h : RkA n d t) (h1 : n ≤ m) (h2 : d ≤ e) : RkA m e t := ⟨h.data, h.show', h.lf, Nat.le_trans h.bk h1, Nat.le_trans h.dp h2⟩
theorem RkA.nil {d : Nat} : RkA 0 d [] := ⟨rfl, by simp [toDs, PyData.showableAll], by simp [toDs, PyData.leavesShortAll], by simp [toDs, PyData.bulkAll], by simp [toDs, PyData.depthAll]⟩
theorem RkA.cons {n m d : Nat} {t : T} {ts : List T} (h : Rk n d t) (r : RkA m d ts) : RkA (n + 1 + m) d (t :: ts) := by
  refine ⟨by rw [datas, h.data, r.data]; rfl, by simp [toDs, PyData.showableAll, h.show', r.show'], by simp [toDs, PyData.leavesShortAll, h.lf, r.lf], ?_, ?_⟩
  · have h1 := h.bk
    have h2 := r.bk
    simp only [toDs, PyData.bulkAll]; omega
  · have h1 := h.dp
    have h2 := r.dp
    simp only [toDs, PyData.depthAll]; omega
theorem Rk.tup {n d : Nat} {ts : List T} (h : RkA n d ts) : Rk n (d + 1) (.tup ts) :=
  ⟨by simpa [T.data] using h.data, by simpa [T.toD, PyData.showable] using h.show', by simpa [T.toD, PyData.leavesShort] using h.lf, by simpa [T.toD, PyData.bulk] using h.bk, by have := h.dp; simp only [T.toD, PyData.depth]; omega⟩
theorem Rk.lst {n d : Nat} {ts : List T} (h : RkA n d ts) : Rk n (d + 1) (.lst ts) :=
  ⟨by simpa [T.data] using h.data, by simpa [T.toD, PyData.showable] using h.show', by simpa [T.toD, PyData.leavesShort] using h.lf, by simpa [T.toD, PyData.bulk] using h.bk, by have := h.dp; simp only [T.toD, PyData.depth]; omega⟩
theorem Rk.non {d : Nat} : Rk 0 d .non := ⟨rfl, by simp [T.toD, PyData.showable], by simp [T.toD, PyData.leavesShort], by simp [T.toD, PyData.bulk], by simp [T.toD, PyData.depth]⟩
theorem Rk.bl {d : Nat} {b : Bool} : Rk 0 d (.bl b) := ⟨rfl, by simp [T.toD, PyData.showable], by simp [T.toD, PyData.leavesShort], by simp [T.toD, PyData.bulk], by simp [T.toD, PyData.depth]⟩
theorem Rk.int {d : Nat} {i : Int} (h : i.natAbs < 2 ^ 1900) : Rk 0 d (.int i) := by
  have hl : i.natAbs.log2 < 1920 := PySem.Flt.log2_lt_of (n := i.natAbs) (k := 1920) (by decide) (Nat.lt_of_lt_of_le h (Nat.pow_le_pow_right (by decide) (by decide)))
  clear h
  refine ⟨rfl, by simp [T.toD, PyData.showable, hl], ?_, by simp [T.toD, PyData.bulk], by simp [T.toD, PyData.depth]⟩
  have e := int_text_length_le (k := 1920) (by decide) hl
  simp only [T.toD, PyData.leavesShort, PyData.shown]
  refine decide_eq_true ?_
  rw [PySem.ofString_length]
  exact e
theorem Rk.str {d : Nat} {x : Str} (h : (x.cps.toList.all fun c => decide (c < 16 ^ 8)) = true := by decide +kernel) : Rk x.cps.size d (.str x) := ⟨rfl, by simp [T.toD, PyData.showable], by simpa [T.toD, PyData.leavesShort] using h, by simp [T.toD, PyData.bulk], by simp [T.toD, PyData.depth]⟩
theorem Rk.tQ {d : Nat} {x : Rat} (h : Sz 1900 x) : Rk 2 (d + 1) (tQ x) := .tup (.cons (.int h.n) (.cons (.int h.den) .nil))
theorem RkA.tQs {d : Nat} : ∀ {p : List Rat}, SzL 1900 p → RkA (3 * p.length) (d + 1) (Tw.tQs p)
  | [], _ => .nil
  | x :: p, h => (RkA.cons (.tQ (h x (List.mem_cons_self ..))) (RkA.tQs (p := p) fun y m => h y (List.mem_cons_of_mem _ m))).mono (by rw [List.length_cons]; omega) (Nat.le_refl _)
theorem Rk.tP {d : Nat} {p : List Rat} (h : SzL 1900 p) : Rk (3 * p.length) (d + 2) (Tw.tP p) := .tup (.tQs h)
theorem RkA.bls {d : Nat} : ∀ {bs : List Bool}, RkA bs.length d (bs.map T.bl)
  | [] => .nil
  | b :: bs => (RkA.cons (.bl (b := b)) (RkA.bls (bs := bs))).mono (by rw [List.length_cons]; omega) (Nat.le_refl _)
theorem Rk.fits {n d : Nat} {t : T} (h : Rk n d t) (hn : n ≤ 8000) : t.toD.shown.length ≤ sizeLine := by
  have h1 := PyData.shown_le_bulk 1921 (by decide) _ h.lf
  have h2 := h.bk
  have h3 : (1921 + 2) * t.toD.bulk ≤ 1923 * 8000 := Nat.mul_le_mul (by decide) (by omega)
  rw [sizeLine_eq]
  omega
/-- repr(t) -/
def uRep (t : T) (Q : T → Prop) : Prop := Rk 8000 60 t ∧ Q (.str t.toD.shown)
section
variable {X : Cx} {own : List Nat} {a : Expr} {ra : TR} {c1 t1 : Bool} {pos p : Pos} {x : Str}
theorem b_rep (hg : X.A.guards = some []) (hu : X.A.units + 64 < cLine) : CallR X (.builtin "repr") (tC1 X.K uRep) := by
  intro pins s σ H xs us Q I rv0 h
  obtain ⟨W, Zt, Zc, v, t, Qt, rfl, w, zx, p, ⟨hk, h⟩, k⟩ := h
  obtain ⟨u, rfl, rv⟩ := vals1 rv0
  have p' : Rp X.K W No H v t := p.weak
  have q := k _ h (.str t.toD.shown) H W (.refl w) (.of (.str _))
  obtain ⟨as, r⟩ := Dp.reads I _ v u (p'.dp hk.data) rv
  have hz := hk.fits (Nat.le_refl _)
  have refc : ∀ b, u = .ref b → wpAny (model X.prog X.w) X.A (call (.builtin "repr") [u]) (EP X pins σ Q) X.xe s := by
    rintro b rfl
    have hd := hk.dp
    exact repr_of_reads' r hk.show' (PySem.PyData.noDict_hsm (noDict_of t hk.data)) hg (by omega) (fun _ _ e => e) (fun h' y tk hh => ⟨.str _, H, I.kept hh, ⟨_, rfl⟩, q⟩) hz
  match t, p', hk, q with
  | .non, .non, hk, q => cases rv; exact PySem.P.repr_of_none ⟨.str _, H, I.tok _, ⟨_, rfl⟩, q⟩
  | .bl bb, .bl _, hk, q =>
    cases rv
    refine PySem.P.repr_of_bool ⟨.str _, H, I.tok _, ⟨_, rfl⟩, ?_⟩
    cases bb <;> exact q
  | .int i, .int _, hk, q =>
    obtain ⟨tk, rfl⟩ := rv
    exact PySem.P.repr_of_int (by simpa [T.toD, PyData.showable] using hk.show') ⟨.str _, H, I.tok _, ⟨_, rfl⟩, q⟩
  | .str y, .str _, hk, q =>
    obtain ⟨tk, rfl⟩ := rv
    exact PySem.P.repr_of_str ⟨.str _, H, I.tok _, ⟨_, rfl⟩, q⟩ hz
  | .tup ts, .tup _ _, hk, q => exact refc _ rv
  | .lst ts, .lst _ _ _ _, hk, q => exact refc _ rv
theorem et_rep {k : Nat} (hg : X.A.guards = some []) (hr : Room k X.A) (h1 : Gl X x) (hm : X.mg x = none) (hv : bootBuiltins x = some (.builtin "repr")) (ha : PEt X own c1 t1 a ra)
    (hs : starEach [a] X.env = (false, eval a X.env) :: starEach [] X.env := by rfl) (hn : x ≠ "__name__" := by decide) (hdb : (x == ("__debug__" : Str)) = false := by decide)
    (hpl : (backTo pos (starEach [] X.env)).any (·.1) = false := by rfl) : PEt X own c1 c1 (.Call (.Name x p) [a] [] pos) (rUn uRep ra) :=
  et_b1 (b_rep hg (by have := hr.un; omega)) h1 hm hv ha hs hn hdb hpl
end
/-! ### the law's def -/
section
variable {P : Program}
variable {w : World}
variable {K : PySem.W.Frag}
variable {mg : Str → Option Value}
variable {base : Heap}
/-- a def keeps a promise where the law's caller calls it: no guard stands there -/
structure FnG (P : Program) (w : World) (K : PySem.W.Frag) (mg : Str → Option Value) (base : Heap) (f : Addr) (fd : FuncData) (ps : List Str) (sp : Sp) : Prop where
  run : ∀ (s0 : Shared) (H0 : Hp) (ys : List Value) (xs : List V) (Q0 : VK), Env0 P w K mg base callerA [] s0 H0 → BindsTo s0 fd ⟨ys, []⟩ (ps.zip ys) → Vals xs ys → sp xs H0 Q0 E0 →
    codeAny (model P w) callerA (.call (.ref f) ⟨ys, []⟩) (CR CX0 [] P w H0 s0 Q0 E0) s0
theorem room_caller {k : Nat} (h : k ≤ 100) : Room k callerA := by
  refine ⟨rfl, ?_, ?_⟩
  · show 1 + claimMargin + 3 * k + 5 < recursionLimit
    have e1 : recursionLimit = 1000 := rfl
    have e2 : claimMargin = 300 := rfl
    omega
  · show 4 + 16 * k + 200 < cLine
    have e1 : cLine = 9900 := rfl
    omega
theorem fn_G {x : Str} {st : Stmt} {f : Addr} {fd : FuncData} {N ps : List Str} {k : Nat} {Φ : TF} (own : List Nat) (F : Fun K x x st f fd) (S : FnScope N ps (defScope st)) (len : ∀ ts Q, Φ ts Q → ts.length = ps.length)
    (ho : (own.all fun i => decide (ps.length ≤ i)) = true) (Se : Sees P base) (h40 : 40 ≤ k) (hk : k + 1 ≤ 100)
    (body : ∀ (cdv : Value) (s : Shared) (H : Hp) (E : XK), Room k (callerA.deeper (envOfC x (defScope st) s.heap.objs.size f cdv)) → NoPy base P (callerA.deeper (envOfC x (defScope st) s.heap.objs.size f cdv)) [envOfC x (defScope st) s.heap.objs.size f cdv] →
      ∃ r, PBt (cxOf CX0 P w K mg base N x (defScope st) f cdv callerA [] s H E).nox own (defBody st) r ∧ ∀ ts Q, Φ ts Q → r { nx := fun _ => Q .non, rt := Q } (startT N ts)) :
    FnG P w K mg base f fd ps (spT K Φ) := by
  obtain ⟨oc, od, kV, doc, pm, an, cdv, ct, osl, rfl, look, code⟩ := F.ex
  refine ⟨fun s0 H0 ys xs Q0 env0 bind rv hq => ?_⟩
  have hR : Room (k + 1) callerA := room_caller hk
  have lx : xs.length = ps.length := by
    obtain ⟨_, _, ts, _, _, _, r, h, _⟩ := hq
    rw [r.length]; exact len _ _ h
  have inK : K.In s0.heap := env0.mod.kin.keeps fun b o e => (env0.bs b o e).1
  have noL : s0.heap.NoLimit := env0.mod.nolimit.keeps fun b o e => (env0.bs b o e).1
  refine codeAny_call_function hR.depth (inK _ _ look) rfl S.co S.gen rfl (PySem.W.codeRec_of inK code) (bind _ _ _ _ ?_)
  refine wpAny_newFunctionEnv_cells S.kind (fun ⟨n, v⟩ hy => ?_) fun env he s1 into => ?_
  · rcases S.par n (List.of_mem_zip hy).1 with c | c
    · exact Or.inl c
    · exact Or.inr ⟨c, PySem.W.cellsFrom_some _ _ _ (Or.inl c)⟩
  subst he
  refine ⟨noL.keeps into.toInCall.keep, codeAny_func ?_⟩
  obtain ⟨W, Z, ts, Qt, wok, zx, r, hΦ, kk⟩ := hq
  obtain ⟨rd, hb, hrd⟩ := body cdv s0 H0 E0 (hR.deeper _) (nopy (x := x) (H := H0) (E := E0) Se S h40 (hR.deeper _))
  have ini : Inv (cxOf CX0 P w K mg base N x (defScope st) f cdv callerA [] s0 H0 E0) [] (L2.start N xs) H0 s1 := inv_start S hR.hd env0 lx rv into
  have hlen : ts.length = ps.length := len _ _ hΦ
  have Rs : RelE K own W Z (startT N ts) (L2.start N xs) H0 := RpA.start wok zx r (by rw [hlen]; exact ho)
  refine wpAny_mono (((hb.ps ⟨W, Z, H0⟩).nox).run [] s1 (L2.start N xs) H0 { nx := fun _ H' => Q0 .non H', rt := Q0 } ini ⟨W, startT N ts, _, ⟨Rs, ?_⟩, hrd ts Qt hΦ, ?_⟩) (fun fl s' hs => ?_) fun e s' hs => hs
  · refine (StepO.refl W No H0).congr fun a ⟨j, hj, e⟩ => ?_
    have h1 : ts.length ≤ j := by
      rw [hlen]
      exact of_decide_eq_true (List.all_eq_true.mp ho j hj)
    unfold L2.start at e
    rw [List.getElem?_append_right (by rw [List.length_map, r.length]; exact h1)] at e
    cases List.eq_of_mem_replicate (List.mem_of_getElem? e)
  · refine ⟨fun env' q σ' H' W' R' s' => kk _ q _ H' W' R'.out .non, fun _ q => q.elim, fun _ q => q.elim, fun u q v H' W' s' p => kk u q v H' W' s' p, fun u q v H' W' s' p => kk u q v H' W' s' (p.mono fun a z => zx a z)⟩
  · have done : ∀ (σ' : L2.St) (H' : Hp) (v : V) (u : Value), Inv (cxOf CX0 P w K mg base N x (defScope st) f cdv callerA [] s0 H0 E0) [] σ' H' s' → RelV v u → Q0 v H' → CE [] P w H0 s0 Q0 u s' :=
      fun _ H' v _ J q1 q2 => ⟨v, H', J.os, J.bare, J.base, J.hok, q1, q2⟩
    match fl, hs with
    | .ret u, ⟨v, σ', H', J, q1, q2⟩ => exact done σ' H' v u J q1 q2
    | .next, ⟨σ', H', J, q2⟩ => exact done σ' H' V.non Value.none J rfl q2
    | .brk, ⟨_, _, _, q⟩ => exact q.elim
    | .cont, ⟨_, _, _, q⟩ => exact q.elim
/-- from the promise of the law's def to its call behind the top -/
theorem call_G {P : Program} {w : World} {K : PySem.W.Frag} {mg mb : Str → Option Value} {fa sc : Addr} {fd : FuncData} {x : Str} {sp : Sp} {s1 : Shared} {vs : List Value} {ns : List Int}
    (KX : K.In s1.heap) (hns : s1.heap.Ns mainGlobals mg) (hbn : s1.heap.Ns builtinsNs mb) (hbb : ∀ y : Str, y ≠ "__name__" → mb y = bootBuiltins y) (hlim : s1.heap.NoLimit) (hgen : s1.gens = #[])
    (ha : s1.heap.get? sc = some { cls := .type "list", data := .seq vs.toArray }) (hi : IntsAre vs ns) (hl : ns.length ≤ sizeLine)
    (hse : s1.heap.NoSeer) (htr : P.given.tree = none)
    (F : ∀ base : Heap, K.In base → base.Ns mainGlobals mg → Sees P base → FnG P w K mg base fa fd [x] sp) (hbind : ∀ (s : Shared) (u : Value), BindsTo s fd ⟨[u], []⟩ [(x, u)])
    (hsp : ∀ H : Hp, Only H → SqL K H sc (ns.map V.int) → sp [.ref sc] H (fun v _ => v = .bl true) E0) :
    codeAny (model P w) callerA (.call (.ref fa) ⟨[.ref sc], []⟩) (fun r t => r = .ok (.ret (.bool true)) ∧ OldK s1.heap t.heap ∧ t.os = s1.os ∧ AllBare t.gens) s1 := by
  have relv := vals_ints hi
  have go : ∀ G : Hp, Only G → SqL K G sc (ns.map V.int) → HOk P w G s1.heap → (∀ b, G b ≠ none → b = sc) → (G sc ≠ none → K.lookup sc = none) →
      codeAny (model P w) callerA (.call (.ref fa) ⟨[.ref sc], []⟩) (fun r t => r = .ok (.ret (.bool true)) ∧ OldK s1.heap t.heap ∧ t.os = s1.os ∧ AllBare t.gens) s1 := by
    intro G only sq ok one notK
    have clear : ∀ {b : Addr} {o : Obj}, s1.heap.get? b = some o → (b = sc → G sc = none) → G b = none := fun {b o} e h => by
      by_cases hb : b = sc
      · rw [hb]; exact h hb
      · cases q : G b with
        | none => rfl
        | some u => exact absurd (one b (by rw [q]; simp)) hb
    have inB : K.In (hidT s1.heap G) := fun b o e => hidT_get (KX b o e) (clear (KX b o e) fun hb => by
      cases q : G sc with
      | none => rfl
      | some u =>
        have := notK (by rw [q]; simp)
        rw [← hb, e] at this; cases this)
    have nsB : ∀ {b : Addr} {m : Str → Option Value}, s1.heap.Ns b m → (hidT s1.heap G).Ns b m := fun {b m} ⟨o, es, ep, e, d, r⟩ =>
      ⟨o, es, ep, hidT_get e (clear e fun hb => by
        rw [hb, ha] at e
        cases e
        cases d), d, r⟩
    have seB : (hidT s1.heap G).NoSeer := by
      obtain ⟨⟨m1, a1, b1⟩, ⟨m2, a2, b2⟩, ⟨m3, a3, b3⟩, m4, bm, ob, a4, b4, c4, d4, e4⟩ := hse
      refine ⟨⟨m1, nsB a1, b1⟩, ⟨m2, nsB a2, b2⟩, ⟨m3, nsB a3, b3⟩, m4, bm, ob, nsB a4, b4, hidT_get c4 (clear c4 fun hb => ?_), d4, e4⟩
      rw [hb, ha] at c4
      cases c4
      exact absurd (Value.type.inj d4) (by decide)
    have modB : Mod K mg (hidT s1.heap G) := by
      obtain ⟨mc, q1, q2⟩ := hlim
      exact ⟨inB, nsB hns, ⟨mb, nsB hbn, hbb⟩, ⟨mc, nsB q1, q2⟩⟩
    have env : Env0 P w K mg (hidT s1.heap G) callerA [] s1 G := by
      refine ⟨rfl, modB, fun b o e => of_hidT e, Nat.le_of_eq (hidT_size _ _), trivial, fun b hb => ?_, ok, .of_eq hgen⟩
      cases (hb : b ∈ ([] : List Addr))
    refine codeAny_mono ((F _ inB (nsB hns) ⟨seB, htr⟩).run s1 G [.ref sc] [.ref sc] _ env (hbind s1 (.ref sc)) (.cons rfl .nil) (hsp G only sq)) fun r t h => ?_
    match r, h with
    | .error _, h => exact h.elim
    | .ok .next, h => exact h.elim
    | .ok .brk, h => exact h.elim
    | .ok .cont, h => exact h.elim
    | .ok (.ret u), ⟨v, G', os, bare, un, ok', rel, hv⟩ =>
      have hv' : v = .bl true := hv
      subst hv'
      have hu : u = Value.bool true := rel
      subst hu
      refine ⟨rfl, .of_keep fun b o e => ?_, os, bare⟩
      rcases only b with z | ⟨ob, xs, z⟩
      · exact un.keep b o e z (fun y => nomatch (show b ∈ ([] : List Addr) from y)) (by simp)
      · obtain ⟨f1, _⟩ := ok b _ z
        obtain ⟨f2, _⟩ := ok' b _ (un.frzs b ob _ z)
        rw [e] at f1; cases f1
        exact f2
  by_cases hk : K.lookup sc = none
  · have at1 : ∀ b, (fun b => if b = sc then some (HO.frz { cls := .type "list", data := .seq vs.toArray } (.lst (ns.map V.int))) else none) b ≠ none → b = sc := fun b hb => by
      by_cases q : b = sc
      · exact q
      · exact absurd (if_neg q) hb
    refine go _ (fun b => ?_) (.inl (.inr ⟨_, if_pos rfl⟩)) (fun b u e => ?_) at1 fun _ => hk
    · by_cases q : b = sc
      · exact .inr ⟨_, _, if_pos q⟩
      · exact .inl (if_neg q)
    · have q := at1 b fun z => by cases z.symm.trans e
      rw [q] at e ⊢
      have e' := (if_pos rfl).symm.trans e
      cases e'
      exact ⟨ha, by rw [List.length_map]; exact hl, vs, _, relv, ha⟩
  · obtain ⟨o, ho⟩ := Option.ne_none_iff_exists'.mp hk
    have e := KX sc o ho
    rw [ha] at e; cases e
    refine go (fun _ => none) (fun _ => .inl rfl) (.inr ⟨_, vs.toArray, _, ho, rfl, rfl, rfl, ?_, by simpa using relv⟩) (fun b u z => nomatch z) (fun b z => absurd rfl z) fun z => absurd rfl z
    rw [List.size_toArray, hi.length]; exact hl
/-- the goal that the law's head leaves -/
theorem walk_G {l : PySem.W.OpenLaw} {n : Nat} {q : Program} {loose : List Str} {XP : (Str → Option Value) → Heap → Prop} {YP : World → Heap → Prop} {d : DefRec} {K : Params → PySem.W.Frag} {sp : World → Sp} {x : Str}
    (hn : l.most = some n) (hn2 : n ≤ sizeLine) (hdf : d.params.defaults = []) (him : importsNone q = true) (htr : l.prog.given.tree = none) (hY : ∀ (w : World) (h : Heap), YP w h → (K w.params).In h) (F : ∀ (w : World) (mg : Str → Option Value) (fa : Addr) (h : Heap), (K w.params).In h → h.Ns mainGlobals mg → mg d.name = some (.ref fa) →
      ∃ fd : FuncData, (∀ (s : Shared) (u : Value), BindsTo s fd ⟨[u], []⟩ [(x, u)]) ∧ ∀ base : Heap, (K w.params).In base → base.Ns mainGlobals mg → Sees l.prog base → FnG l.prog w (K w.params) mg base fa fd [x] (sp w))
    (hsp : ∀ (w : World) (H : Hp) (a : Addr) (ns : List Int), ns.length ≤ n → Only H → SqL (K w.params) H a (ns.map V.int) → sp w [.ref a] H (fun v _ => v = .bl true) E0) : PySem.W.WalkO q loose XP YP l.row.toRowW d [] (fun f vs => PySem.call f vs) := by
  refine Att.attach_call hn hdf fun w t0 t1 mg mb fa o pm cd doc a vs ns G Y h1 h2 h3 hmg hobj hints hlen hgen => ?_
  obtain ⟨fd, hb, hF⟩ := F w mg fa _ (hY w _ Y) G.T.g hmg
  exact call_G (hY w _ Y) G.T.g G.T.b G.T.builtins G.T.nolimit hgen hobj hints (Nat.le_trans hlen hn2) (G.T.seer him) htr hF hb fun H only sq => hsp w H a ns hlen only sq
/-- the promise of a law: a script of at most 63 numbers, the answer True -/
def pLaw : TF := fun ts Q => ∃ ns : List Int, ts = [.scr ns] ∧ ns.length ≤ 63 ∧ Q (.bl true)
theorem sp_law {K : PySem.W.Frag} {H : Hp} {a : Addr} {ns : List Int} (hl : ns.length ≤ 63) (only : Only H) (sq : SqL K H a (ns.map V.int)) : spT K pLaw [.ref a] H (fun v _ => v = .bl true) E0 := by
  refine ⟨No, No, [.scr ns], fun u => u = .bl true, fun _ h => h.elim, fun _ h => h.elim, .cons (.scr ?_) .nil, ⟨ns, rfl, hl, rfl⟩, fun u hu v H' W' _ p => ?_⟩
  · rcases sq with (q | q) | q
    · rcases only a with z | ⟨o, xs, z⟩ <;> rw [q] at z <;> cases z
    · exact .inl q
    · exact .inr fun H' => .inr q
  · subst hu
    cases p
    rfl
/-! ### what the top has written -/
theorem def_mk {K : PySem.W.Frag} {h : Heap} {mg : Str → Option Value} {x : Str} {st : Stmt} {ps : List Str} {f : Addr} {oc : Value} {od an : Option Addr} {osl : Array (Option Value)} {kV doc pm cdv ct : Value} (X : K.In h) (G : h.Ns mainGlobals mg)
    (a : PySem.W.nsIn K mainGlobals x = some (some (.ref f))) (l : K.lookup f = some ⟨oc, od, .func (PySem.W.fnOf x x (defArgs st) (defBody st) (defScope st) .none kV doc pm an cdv ct), osl⟩)
    (c : PySem.W.codeIn K cdv x = true) (k : PySem.W.keepIn K (.ref f) = true)
    (hb : ∀ (kV doc pm : Value) (an : Option Addr) (cdv ct : Value) (us : List Value), us.length = ps.length → bindArgs (PySem.W.fnOf x x (defArgs st) (defBody st) (defScope st) .none kV doc pm an cdv ct) ⟨us, []⟩ = pure (ps.zip us)) : Def K mg x st ps := by
  have F := fun_mk (st := st) l c k
  exact ⟨f, _, F, F.binds hb, PySem.W.mg_of X G a⟩
theorem law_mk {P : Program} {w : World} {K : PySem.W.Frag} {mg : Str → Option Value} {st : Stmt} {fa : Addr} {x y : Str} {sp : Sp} (d : Def K mg x st [y]) (hfa : mg x = some (.ref fa))
    (hb : ∀ (kV doc pm : Value) (an : Option Addr) (cdv ct u : Value), bindArgs (PySem.W.fnOf x x (defArgs st) (defBody st) (defScope st) .none kV doc pm an cdv ct) ⟨[u], []⟩ = pure [(y, u)])
    (F : ∀ fd, Fun K x x st fa fd → ∀ base : Heap, K.In base → base.Ns mainGlobals mg → Sees P base → FnG P w K mg base fa fd [y] sp) :
    ∃ fd : FuncData, (∀ (s : Shared) (u : Value), BindsTo s fd ⟨[u], []⟩ [(y, u)]) ∧ ∀ base : Heap, K.In base → base.Ns mainGlobals mg → Sees P base → FnG P w K mg base fa fd [y] sp := by
  obtain ⟨f, fd, Fn, _, g⟩ := d.ex
  rw [hfa] at g; cases g
  refine ⟨fd, fun s u => ?_, F fd Fn⟩
  obtain ⟨oc, od, kV, doc, pm, an, cdv, ct, osl, rfl, _, _⟩ := Fn.ex
  exact .of_eq (hb kV doc pm an cdv ct u)
/-! a value that stands in the written part -/
mutual
inductive KVal (K : PySem.W.Frag) : Value → V → T → Prop
  | non : KVal K .none .non .non
  | bl {b : Bool} : KVal K (.bool b) (.bl b) (.bl b)
  | int {i : Int} {t : Tok} : KVal K (.int i t) (.int i) (.int i)
  | str {x : Str} {t : Tok} : KVal K (.str x t) (.str x) (.str x)
  | tup {a : Addr} {d : Option Addr} {its : List Value} {n : Nat} {sl : Array (Option Value)} {vs : List V} {ts : List T} : K.lookup a = some ⟨.type "tuple", d, .seq its.toArray n, sl⟩ → its.length ≤ 1000 → KVals K its vs ts → KVal K (.ref a) (.ref a) (.tup ts)
inductive KVals (K : PySem.W.Frag) : List Value → List V → List T → Prop
  | nil : KVals K [] [] []
  | cons {u : Value} {us : List Value} {v : V} {vs : List V} {t : T} {ts : List T} : KVal K u v t → KVals K us vs ts → KVals K (u :: us) (v :: vs) (t :: ts)
end
mutual
theorem KVal.ok {K : PySem.W.Frag} : ∀ {u : Value} {v : V} {t : T}, KVal K u v t → RelV v u ∧ ∀ (W Z : Addr → Prop) (H : Hp), Rp K W Z H v t
  | _, _, _, .non => ⟨rfl, fun _ _ _ => .non⟩
  | _, _, _, .bl => ⟨rfl, fun _ _ _ => .bl _⟩
  | _, _, _, .int => ⟨⟨_, rfl⟩, fun _ _ _ => .int _⟩
  | _, _, _, .str => ⟨⟨_, rfl⟩, fun _ _ _ => .str _⟩
  | _, _, _, .tup (its := its) l hl h => by
    obtain ⟨r1, r2⟩ := KVals.ok h
    refine ⟨rfl, fun W Z H => .tup (.inr ⟨_, its.toArray, _, l, rfl, rfl, ?_, by simpa using r1⟩) (r2 W Z H)⟩
    rw [List.size_toArray, sizeLine_eq]
    omega
theorem KVals.ok {K : PySem.W.Frag} : ∀ {u : List Value} {v : List V} {t : List T}, KVals K u v t → Vals v u ∧ ∀ (W Z : Addr → Prop) (H : Hp), RpA K W Z H v t
  | _, _, _, .nil => ⟨.nil, fun _ _ _ => .nil⟩
  | _, _, _, .cons a r => ⟨.cons (KVal.ok a).1 (KVals.ok r).1, fun W Z H => .cons ((KVal.ok a).2 W Z H) ((KVals.ok r).2 W Z H)⟩
end
theorem kcs_mk {K : PySem.W.Frag} {h : Heap} {mg : Str → Option Value} {x : Str} {u : Value} {v : V} {t : T} (X : K.In h) (G : h.Ns mainGlobals mg) (a : PySem.W.nsIn K mainGlobals x = some (some u)) (q : KVal K u v t) : KCs K mg x t :=
  ⟨v, u, PySem.W.mg_of X G a, q.ok.1, q.ok.2⟩
end
end Tw

namespace Tw
open PySem
open PySem.Spec PyProof.Rows L2
def oEqN (x y : T) (Q : T → Prop) : Prop := ∃ ts, x = .lst ts ∧ y = .lst [] ∧ Q (.bl ts.isEmpty)
def oNeN (x y : T) (Q : T → Prop) : Prop := ∃ ts, x = .lst ts ∧ y = .lst [] ∧ Q (.bl !ts.isEmpty)
section
variable {X : Cx}
theorem plain_isL {h : Heap} {a : Addr} {its : Array Value} (p : PlainL h a its) : h.IsList a its := by
  obtain ⟨o, n, h1, h2, _, h3⟩ := p
  exact ⟨o, h1, h2, n, h3⟩
theorem o_eqN (hu : X.A.units + 64 < cLine) : OpR X (compareOp .Eq) (tR2 X.K oEqN) := by
  intro pins s σ H x y
  intro v u Q I rx ry h
  obtain ⟨W, Zt, Zc, tx, ty, Qt, w, zx, p1, p2, ⟨ts, rfl, rfl, h⟩, k⟩ := h
  have q := k _ h (.bl ts.isEmpty) H W (.refl w) (.of (.bl _))
  cases ts with
  | nil => exact op_eqD hu pins s σ H x y v u Q I rx ry ⟨_, _, p1.weak.dp rfl, p2.weak.dp rfl, rfl, rfl, q⟩
  | cons t ts =>
    obtain ⟨a, xs, rfl, e1, _, _, r1⟩ := p1
    obtain ⟨b, ys, rfl, e2, _, _, r2⟩ := p2
    cases rx; cases ry
    cases r2
    obtain ⟨i1, v1, l1, _⟩ := I.list (.of e1)
    obtain ⟨i2, v2, l2, _⟩ := I.list (.of e2)
    cases v2
    refine SeqAt.eq_list_lengthsAt (plain_isL l1) (plain_isL l2) ?_ (by omega) ⟨.bl _, H, I, rfl, q⟩
    rw [List.size_toArray, List.size_toArray, ← v1.length, r1.length]
    rfl
theorem o_neN (hu : X.A.units + 64 < cLine) : OpR X (compareOp .NotEq) (tR2 X.K oNeN) := by
  intro pins s σ H x y
  intro v u Q I rx ry h
  obtain ⟨W, Zt, Zc, tx, ty, Qt, w, zx, p1, p2, ⟨ts, rfl, rfl, h⟩, k⟩ := h
  have q := k _ h (.bl !ts.isEmpty) H W (.refl w) (.of (.bl _))
  cases ts with
  | nil => exact op_neD hu pins s σ H x y v u Q I rx ry ⟨_, _, p1.weak.dp rfl, p2.weak.dp rfl, rfl, rfl, q⟩
  | cons t ts =>
    obtain ⟨a, xs, rfl, e1, _, _, r1⟩ := p1
    obtain ⟨b, ys, rfl, e2, _, _, r2⟩ := p2
    cases rx; cases ry
    cases r2
    obtain ⟨i1, v1, l1, _⟩ := I.list (.of e1)
    obtain ⟨i2, v2, l2, _⟩ := I.list (.of e2)
    cases v2
    refine SeqAt.RcNeAt.lists_lengths (plain_isL l1) (plain_isL l2) ?_ (by omega) _ _ _ _ ⟨.bl _, H, I, rfl, q⟩
    rw [List.size_toArray, List.size_toArray, ← v1.length, r1.length]
    rfl
def oEqS (x y : T) (Q : T → Prop) : Prop := ∃ a b : Str, x = .str a ∧ y = .str b ∧ Q (.bl (decide (a = b)))
def oNeS (x y : T) (Q : T → Prop) : Prop := ∃ a b : Str, x = .str a ∧ y = .str b ∧ Q (.bl (!decide (a = b)))
theorem o_eqS : OpR X (compareOp .Eq) (tR2 X.K oEqS) := by
  intro pins s σ H x y
  intro v u Q I rx ry h
  obtain ⟨W, Zt, Zc, tx, ty, Qt, w, zx, p1, p2, ⟨a, b, rfl, rfl, h⟩, k⟩ := h
  cases p1; cases p2
  refine op_eq pins s σ H _ _ v u Q I rx ry ⟨rfl, ?_⟩
  have q := k _ h (.bl _) H W (.refl w) (.of (.bl _))
  have e : decide (V.str a = V.str b) = decide (a = b) := by by_cases hh : a = b <;> simp [hh]
  rw [e]; exact q
theorem o_neS : OpR X (compareOp .NotEq) (tR2 X.K oNeS) := by
  intro pins s σ H x y
  intro v u Q I rx ry h
  obtain ⟨W, Zt, Zc, tx, ty, Qt, w, zx, p1, p2, ⟨a, b, rfl, rfl, h⟩, k⟩ := h
  cases p1; cases p2
  refine op_ne pins s σ H _ _ v u Q I rx ry ⟨rfl, ?_⟩
  have q := k _ h (.bl _) H W (.refl w) (.of (.bl _))
  have e : decide (V.str a = V.str b) = decide (a = b) := by by_cases hh : a = b <;> simp [hh]
  rw [e]; exact q
end
end Tw
namespace Tw
open PySem
open PySem.Spec PyProof.Rows L2
theorem sh_P {p : List Rat} (h : p.length ≤ 1000) : (tP p).sh = true := by
  show (decide ((tQs p).length ≤ lim) && shs (tQs p)) = true
  rw [shs_Qs, tQs_len, Bool.and_true]
  exact decide_eq_true (by unfold lim; omega)
theorem sh_LQ {p : List Rat} (h : p.length ≤ 1000) : (tLQ p).sh = true := sh_P h
theorem absI (n : Int) : (if n < 0 then -n else n) = (n.natAbs : Int) := by split <;> omega
theorem oEq_int {i j : Int} {Q : T → Prop} : oEq (.int i) (.int j) Q = Q (.bl (decide (i = j))) := by
  unfold oEq
  rw [eqT_int]
  exact propext ⟨fun h => h.2, fun h => ⟨eqOk_int i j, h⟩⟩
theorem oNe_int {i j : Int} {Q : T → Prop} : oNe (.int i) (.int j) Q = Q (.bl (!decide (i = j))) := by
  unfold oNe
  rw [eqT_int]
  exact propext ⟨fun h => h.2, fun h => ⟨eqOk_int i j, h⟩⟩
theorem eqT_refl_str (x : Str) : eqT (.str x) (.str x) = true := by
  simp [eqT, T.toD, PyData.eqv]
theorem oNeS_same {x : Str} {Q : T → Prop} : oNeS (.str x) (.str x) Q = Q (.bl false) := by
  unfold oNeS
  refine propext ⟨fun ⟨_, _, e1, e2, h⟩ => ?_, fun h => ⟨x, x, rfl, rfl, by simpa using h⟩⟩
  cases e1; cases e2
  simpa using h
theorem oEqN_lst {ts : List T} {Q : T → Prop} : oEqN (.lst ts) (.lst []) Q = Q (.bl ts.isEmpty) := by
  unfold oEqN
  exact propext ⟨fun ⟨_, e, _, h⟩ => by cases e; exact h, fun h => ⟨_, rfl, rfl, h⟩⟩
theorem oNeN_lst {ts : List T} {Q : T → Prop} : oNeN (.lst ts) (.lst []) Q = Q (.bl !ts.isEmpty) := by
  unfold oNeN
  exact propext ⟨fun ⟨_, e, _, h⟩ => by cases e; exact h, fun h => ⟨_, rfl, rfl, h⟩⟩
/-! trailing noughts -/
theorem trimN_snoc (l : List Rat) (x : Rat) : ∀ n, n ≤ l.length → trimN (l ++ [x]) n = trimN l n
  | 0, _ => rfl
  | n + 1, h => by
    rw [trimN, trimN, List.getElem?_append_left (by omega), trimN_snoc l x n (by omega)]
theorem trim_snoc0 (l : List Rat) : trim (l ++ [0]) = trim l := by
  unfold trim
  rw [List.length_append, List.length_singleton, trimN, if_pos (by rw [List.getElem?_append_right (Nat.le_refl _)]; simp), trimN_snoc l 0 _ (Nat.le_refl _)]
  exact List.take_append_of_le_length (trimN_le l _)
theorem trim_snoc {x : Rat} (h : x ≠ 0) (l : List Rat) : trim (l ++ [x]) = l ++ [x] := by
  unfold trim
  rw [List.length_append, List.length_singleton, trimN, if_neg (by rw [List.getElem?_append_right (Nat.le_refl _)]; simpa using h)]
  exact (List.take_of_length_le (by simp))
theorem num_ne {x : Rat} : x.num = 0 ↔ x = 0 := Rat.num_eq_zero
/-! a comprehension with a test -/
theorem wLc_filter {g : T → TEnv → (TEnv → Prop) → Prop} {tt : TB} {te : TR} {env : TEnv} (f : T → Bool) : ∀ (ts acc : List T) (Q : List T → Prop),
    (∀ t, t ∈ ts → ∀ (Q1 : Prop) (Q' : T → Prop), (f t = true → Q' t) → (f t = false → Q1) → g t env fun env' => tt env' fun b => if b = true then te env' Q' else Q1) → Q (acc ++ ts.filter f) → wLc g tt te env ts acc Q
  | [], acc, Q, _, hq => by simpa [wLc] using hq
  | t :: ts, acc, Q, h, hq => by
    have hr : ∀ u, u ∈ ts → _ := fun u m => h u (List.mem_cons_of_mem _ m)
    refine h t (List.mem_cons_self ..) _ _ (fun e => ?_) fun e => ?_
    · refine wLc_filter f ts _ Q hr ?_
      rw [List.filter_cons_of_pos e] at hq
      simpa using hq
    · refine wLc_filter f ts _ Q hr ?_
      rw [List.filter_cons_of_neg (by simp [e])] at hq
      exact hq
theorem rgT0 (n : Nat) : rgT 0 (n : Nat) = (List.range' 0 n).map fun i => T.int (i : Nat) := by
  unfold rgT
  rw [List.range_eq_range', show (((n : Nat) : Int) - 0).toNat = n from by omega]
  exact List.map_congr_left fun i _ => by rw [Int.zero_add]
theorem Sz.nat {b n : Nat} (h : n < 2 ^ b) (hb : 0 < b) : Sz b (n : Rat) := ⟨by rw [Rat.num_natCast]; simpa using h, by rw [Rat.den_natCast]; exact Nat.one_lt_two_pow (by omega)⟩
theorem tQ_int (n : Int) : tQ (n : Rat) = .tup [.int n, .int 1] := rfl
theorem divInt_ne {n d : Int} (h : n ≠ 0) (hd : d ≠ 0) : Rat.divInt n d ≠ 0 := fun e => by
  rw [show (0 : Rat) = Rat.divInt 0 1 from rfl, Rat.divInt_eq_divInt_iff hd (by decide)] at e
  omega
theorem lt9000 {n : Nat} (h : n < 2 ^ 64) : n < 2 ^ 9000 := Nat.lt_of_lt_of_le h (Nat.pow_le_pow_right (by decide) (by decide))
theorem shs_of : ∀ {ts : List T}, (∀ t, t ∈ ts → t.sh = true) → shs ts = true
  | [], _ => rfl
  | t :: ts, h => by rw [shs, h t (List.mem_cons_self ..), shs_of fun u m => h u (List.mem_cons_of_mem _ m)]; rfl
theorem sh_tup {ts : List T} (h : ts.length ≤ 100000) (m : ∀ t, t ∈ ts → t.sh = true) : T.sh (.tup ts) = true := by
  rw [T.sh, shs_of m, Bool.and_true]
  exact decide_eq_true (by unfold lim; omega)
theorem sh_lst {ts : List T} (h : ts.length ≤ 100000) (m : ∀ t, t ∈ ts → t.sh = true) : T.sh (.lst ts) = true := by
  rw [T.sh, shs_of m, Bool.and_true]
  exact decide_eq_true (by unfold lim; omega)
theorem shs_app {a b : List T} (h : shs a = true) (r : shs b = true) : shs (a ++ b) = true := shs_of fun t m => by
  rcases List.mem_append.mp m with (q | q)
  · exact shs_mem h t q
  · exact shs_mem r t q
theorem cutT_mem {ts : List T} {lo hi : Option Int} {t : T} (h : t ∈ cutT ts lo hi) : t ∈ ts := List.mem_of_mem_drop (List.mem_of_mem_take h)
theorem cutT_len (ts : List T) (lo hi : Option Int) : (cutT ts lo hi).length ≤ ts.length := by
  unfold cutT
  (rw [List.length_take, List.length_drop])
  omega
theorem _root_.List.set_eq_take_append_cons_drop_of {α : Type} {l : List α} {k : Nat} {x : α} (h : k < l.length) : l.set k x = l.take k ++ x :: l.drop (k + 1) := by
  rw [List.set_eq_take_append_cons_drop, if_pos h]
theorem atI_head {p : List Rat} (h : p ≠ []) : atI (tQs p) 0 = some (tQ (p.head h)) := by
  rw [atI_nat' (by decide), show (0 : Int).toNat = 0 from rfl, tQs_get]
  cases p with
  | nil => exact absurd rfl h
  | cons _ _ => rfl
/-- a loop by an invariant -/
theorem wLoop_inv {g : T → TEnv → (TEnv → Prop) → Prop} {r : TSt} {D : EndsT} (I : TEnv → Prop) : ∀ (ts : List T) (env : TEnv), (∀ t, t ∈ ts → ∀ env, I env → ∀ nx : TEnv → Prop, (∀ e, I e → nx e) → g t env fun env' => r { D with nx := nx, ct := nx, bk := D.nx } env') →
    I env → (∀ e, I e → D.nx e) → wLoop g r D ts env
  | [], env, _, hI, hD => hD env hI
  | t :: ts, env, h, hI, hD => h t (List.mem_cons_self ..) env hI _ fun e he => wLoop_inv I ts e (fun u m => h u (List.mem_cons_of_mem _ m)) he hD
section
variable {X : Cx} {own : List Nat} {a b c : Expr} {ra rb rc : TR} {x y z : Str} {px py pz pt pos : Pos}
def sPar3 (i j l : Nat) (ra rb rc : TR) : TSt := fun D env => ra env fun u => rb env fun w => rc env fun q => D.nx (((env.set i (some u)).set j (some w)).set l (some q))
theorem zzSet {K : PySem.W.Frag} {W Z : Addr → Prop} {env : TEnv} {σ : L2.St} {H : Hp} {i : Nat} {v : V} {t : T} (R : RelE K own W Z env σ H) (ho : own.contains i = false) (p : Rp K W (ZZ own σ Z true) H v t) :
    ∀ e, ZZ own (σ.set i (some v)) Z true e → ZZ own σ Z true e := fun e q => by
  rcases q with q | ⟨k, q⟩
  · exact .inl q
  · exact .inr ⟨k, ((R.set ho p).2 e).mp q⟩
/-- x, y, z = e, e', e'' -/
theorem st_parNNN (i j l : Nat) {kt k2 pt2} (hc : X.calm = true) (hN : X.N.Nodup) (ha : PEt X own true true a ra) (hb : PEt X own true true b rb) (hd : PEt X own true true c rc)
    (hi : X.N[i]? = some x := by rfl) (hj : X.N[j]? = some y := by rfl) (hl : X.N[l]? = some z := by rfl) (hij : i ≠ j := by decide) (hil : i ≠ l := by decide) (hjl : j ≠ l := by decide)
    (hx : X.env.scope.names.lookup x = some .local := by rfl) (hy : X.env.scope.names.lookup y = some .local := by rfl) (hz : X.env.scope.names.lookup z = some .local := by rfl)
    (ho1 : own.contains i = false := by rfl) (ho2 : own.contains j = false := by rfl) (ho3 : own.contains l = false := by rfl)
    (hw : swappedStores [.Tuple [.Name x px, .Name y py, .Name z pz] kt pt] (.Tuple [a, b, c] k2 pt2) X.env = pure (some [x, y, z]) := by rfl)
    (hs : swapsWithSole [.Tuple [.Name x px, .Name y py, .Name z pz] kt pt] (.Tuple [a, b, c] k2 pt2) pos.line X.env = pure false := by rfl)
    (h1 : starEach [a, b, c] X.env = (false, eval a X.env) :: starEach [b, c] X.env := by rfl) (h2 : starEach [b, c] X.env = (false, eval b X.env) :: starEach [c] X.env := by rfl) (h3 : starEach [c] X.env = (false, eval c X.env) :: starEach [] X.env := by rfl) :
    PSt X own (.Assign [.Tuple [.Name x px, .Name y py, .Name z pz] kt pt] (.Tuple [a, b, c] k2 pt2) pos) (sPar3 i j l ra rb rc) := by
  refine ⟨fun F => psImp (ps_par3 hc hN hi hj hl hij hil hjl hx hy hz (pa_cons ha.pe (pa_cons hb.pe (pa_cons hd.pe pa_nil h3) h2) h1) hw hs) fun D σ H h => ?_⟩
  obtain ⟨W, env, Dt, R, h, k⟩ := h
  refine ⟨W, F.Z0, env, _, R.e, h, fun u hu v H1 W1 s1 p1 => ⟨W1, F.Z0, env, _, R.e.step s1, hu, fun u2 hu2 v2 H2 W2 s2 p2 => ⟨W2, F.Z0, env, _, (R.e.step s1).step s2, hu2, fun u3 hu3 v3 H3 W3 s3 p3 => ⟨v, v2, v3, rfl, ?_⟩⟩⟩⟩
  have R3 := ((R.step s1).step s2).step s3
  have q1 := (p1.rp.step s1.ok s2).step s2.ok s3
  have q2 := p2.rp.step s2.ok s3
  obtain ⟨R4, s4⟩ := R3.set ho1 q1
  have z1 := zzSet R3.e ho1 q1
  have q2' := q2.mono z1
  obtain ⟨R5, s5⟩ := R4.set ho2 q2'
  have z2 := zzSet R4.e ho2 q2'
  obtain ⟨R6, s6⟩ := R5.set ho3 (p3.rp.mono fun e q => z1 e (z2 e q))
  exact k.nx _ hu3 _ _ _ R6 (((((s1.trans s2).trans s3).so.wid.trans s4).trans s5).trans s6)
end
theorem mem_rgT {lo hi : Int} {t : T} (h : t ∈ rgT lo hi) : ∃ i : Int, t = .int i ∧ lo ≤ i ∧ i < hi := by
  obtain ⟨k, hk, rfl⟩ := List.mem_map.mp h
  have := List.mem_range.mp hk
  exact ⟨_, rfl, by omega, by omega⟩
theorem cut_last {ts : List T} (h : ts ≠ []) : cutT ts (some (-1)) none = [ts.getLast h] := by
  have hl : 0 < ts.length := List.length_pos_iff.mpr h
  unfold cutT
  rw [HT.sIx_none]
  have e : HT.sIx ts.length 0 (some (-1)) = ts.length - 1 := by
    unfold HT.sIx
    simp
    omega
  rw [e, List.drop_eq_getElem_cons (by omega), List.drop_of_length_le (by omega), List.getLast_eq_getElem]
  exact List.take_of_length_le (by simp; omega)
end Tw
namespace Tw
open PySem
open PySem.Spec PyProof.Rows L2
/-! ### range(i, j, -1) -/
def rgB (i j : Int) : List T := (List.range (i - j).toNat).map fun k => T.int (i + (k : Nat) * (-1))
def iRg3 (ra rb rc : TR) : TL := fun env Q => ra env fun u => rb env fun w => rc env fun z => ∃ i j, u = .int i ∧ w = .int j ∧ z = .int (-1) ∧ Rg i ∧ Rg j ∧ Q (rgB i j)
section
variable {X : Cx} {own : List Nat} {a b c tg : Expr} {ra rb rc : TR} {c1 t1 c2 t2 c3 t3 : Bool} {pos p : Pos}
theorem it_r3 (hg : Gl X "range") (hm : X.mg "range" = none) (ha : PEt X own c1 t1 a ra) (hb : PEt X own c2 t2 b rb) (hd : PEt X own c3 t3 c rc)
    (hs : starEach [a, b, c] X.env = (false, eval a X.env) :: starEach [b, c] X.env := by rfl) (hs2 : starEach [b, c] X.env = (false, eval b X.env) :: starEach [c] X.env := by rfl) (hs3 : starEach [c] X.env = (false, eval c X.env) :: starEach [] X.env := by rfl)
    (hpl : (backTo pos (starEach [b, c] X.env)).any (·.1) = false := by rfl) : PIt X own tg (.Call (.Name "range" p) [a, b, c] [] pos) (iRg3 ra rb rc) := by
  refine ⟨piImp (pi_range3 hg hm (pa_cons ha.pe (pa_cons hb.pe (pa_cons hd.pe pa_nil hs3) hs2) hs) hs hpl) fun σ H Q h => ?_⟩
  obtain ⟨W, Z, env, Qt, R, h, k⟩ := h
  refine ⟨W, Z, env, _, R, h, fun u hu v H1 W1 s1 p1 => ⟨W1, Z, env, _, R.step s1, hu, fun w hw v2 H2 W2 s2 p2 => ⟨W2, Z, env, _, (R.step s1).step s2, hw, fun z hz v3 H3 W3 s3 p3 => ?_⟩⟩⟩
  obtain ⟨i, j, rfl, rfl, rfl, hi, hj, hz⟩ := hz
  cases p1
  cases p2
  cases p3
  exact ⟨i, j, -1, _, rfl, .neg hi.1 hi.2 hj.1 hj.2, k _ hz _ _ W3 ((s1.trans s2).trans s3) ⟨_, it_down, trivial⟩⟩
theorem ic_r3 (hg : Gl X "range") (hm : X.mg "range" = none) (ha : PEt X own c1 t1 a ra) (hb : PEt X own c2 t2 b rb) (hd : PEt X own c3 t3 c rc)
    (hs : starEach [a, b, c] X.env = (false, eval a X.env) :: starEach [b, c] X.env := by rfl) (hs2 : starEach [b, c] X.env = (false, eval b X.env) :: starEach [c] X.env := by rfl) (hs3 : starEach [c] X.env = (false, eval c X.env) :: starEach [] X.env := by rfl)
    (hpl : (backTo pos (starEach [b, c] X.env)).any (·.1) = false := by rfl) : PIc X own tg (.Call (.Name "range" p) [a, b, c] [] pos) (iRg3 ra rb rc) := by
  refine ⟨piImp (pi_range3 hg hm (pa_cons ha.pe (pa_cons hb.pe (pa_cons hd.pe pa_nil hs3) hs2) hs) hs hpl) fun σ H Q h => ?_⟩
  obtain ⟨W, Z, env, Qt, R, h, k⟩ := h
  refine ⟨W, Z, env, _, R, h, fun u hu v H1 W1 s1 p1 => ⟨W1, Z, env, _, R.step s1, hu, fun w hw v2 H2 W2 s2 p2 => ⟨W2, Z, env, _, (R.step s1).step s2, hw, fun z hz v3 H3 W3 s3 p3 => ?_⟩⟩⟩
  obtain ⟨i, j, rfl, rfl, rfl, hi, hj, hz⟩ := hz
  cases p1
  cases p2
  cases p3
  exact ⟨i, j, -1, _, rfl, .neg hi.1 hi.2 hj.1 hj.2, k _ hz _ _ W3 ((s1.trans s2).trans s3) ⟨_, it_down, trivial⟩⟩
end
theorem rgB_zero : rgB (-1) (-1) = [] := rfl
theorem rgB_neg {i : Int} (h : i ≤ -1) : rgB i (-1) = [] := by
  unfold rgB
  rw [show (i - -1).toNat = 0 from by omega]
  rfl
theorem rgB_succ (n : Nat) : rgB (n : Nat) (-1) = .int (n : Nat) :: rgB ((n : Nat) - 1) (-1) := by
  unfold rgB
  rw [show (((n : Nat) : Int) - -1).toNat = n + 1 from by omega, show (((n : Nat) : Int) - 1 - -1).toNat = n from by omega, List.range_succ_eq_map, List.map_cons, List.map_map]
  refine congr (congrArg List.cons ?_) (List.map_congr_left fun i _ => ?_)
  · simp
  · show T.int _ = T.int _
    congr 1
    omega
/-- as reversed(range(n)) -/
theorem rgB_D (n : Nat) : rgB ((n : Nat) - 1) (-1) = rgD 0 (n : Nat) := by
  unfold rgB rgD
  rw [show (((n : Nat) : Int) - 1 - -1).toNat = n from by omega, show (((n : Nat) : Int) - 0).toNat = n from by omega]
  refine (List.map_congr_left fun i _ => ?_)
  congr 1
  omega
end Tw
namespace Tw
open PySem
open PySem.Spec PyProof.Rows L2
/-! ### tuple * int -/
theorem tup_mul1 (l : Addr) (its : Array Value) (n : Nat) (dd : Option Addr) (sl : Array (Option Value)) (x : Int) (u : Tok) (c0 : (decide (x < -(2 ^ 63)) || decide (x ≥ 2 ^ 63)) = false) (c1 : (its.isEmpty || x == 1) = true) :
    Meets (Builtin.«tuple.__mul__» ⟨[.ref l, .int x u], []⟩) (fun _ R s => s.heap.get? l = some { cls := .type "tuple", dict := dd, data := .seq its n, slots := sl } ∧ R (.ok (.ret (Value.ref l))) s) :=
  .of_wp fun pg w A R st hh => by
    obtain ⟨hp, g, d, tk, os⟩ := st
    obtain ⟨hl, hq⟩ := hh
    have f1 := AutoSeq1.idx_int
    wp_walk using
          wpAny_loadPart' hl
    repeat (first
      | (refine wpAny_ite_false (decide_eq_false (by rw [c0]; exact
            Bool.false_ne_true)) ?_; wp_walk using wpAny_loadPart' hl)
      | (refine wpAny_ite_true (decide_eq_true c1) ?_; wp_walk using wpAny_loadPart' hl))
    exact ⟨_, rfl, hq⟩
theorem tup_mul0 (l : Addr) (its : Array Value) (n : Nat) (dd : Option Addr) (sl : Array (Option Value)) (x : Int) (u : Tok) (c0 : (decide (x < -(2 ^ 63)) || decide (x ≥ 2 ^ 63)) = false) (c1 : (its.isEmpty || x == 1) = false) (c2 : (decide (x ≤ 0) || its.isEmpty) = true) :
    Meets (Builtin.«tuple.__mul__» ⟨[.ref l, .int x u], []⟩) (fun _ R s => s.heap.get? l = some { cls := .type "tuple", dict := dd, data := .seq its n, slots := sl } ∧
      R (.ok (.ret (Value.ref s.heap.objs.size))) { s with heap := s.heap.push { cls := .type "tuple", data := .seq #[] }, toks := s.toks }) :=
  .of_wp fun pg w A R st hh => by
    obtain ⟨hp, g, d, tk, os⟩ := st
    obtain ⟨hl, hq⟩ := hh
    have f1 := AutoSeq1.idx_int
    wp_walk using
          wpAny_loadPart' hl
    repeat (first
      | (refine wpAny_ite_false (decide_eq_false (by rw [c0]; exact
            Bool.false_ne_true)) ?_; wp_walk using wpAny_loadPart' hl)
      | (refine wpAny_ite_false (decide_eq_false (by rw [c1]; exact
            Bool.false_ne_true)) ?_; wp_walk using wpAny_loadPart' hl)
      | (refine wpAny_ite_true (decide_eq_true c2) ?_; wp_walk using wpAny_loadPart' hl))
    exact ⟨_, rfl, hq⟩
end Tw
namespace Tw
open PySem
open PySem.Spec PyProof.Rows L2
def oMulT (x y : T) (Q : T → Prop) : Prop := ∃ (xs : List T) (k : Int), x = .tup xs ∧ y = .int k ∧ -1000 ≤ k ∧ k ≤ 1000 ∧ xs.length ≤ 1000 ∧ Q (.tup (List.replicate k.toNat xs).flatten)
section
variable {X : Cx}
theorem o_mulT : OpR X (binaryOp .Mult) (tR2 X.K oMulT) := by
  intro pins s σ H x y
  intro v u Q I rx ry h
  obtain ⟨W, Zt, Zc, tx, ty, Qt, w, zx, p1, p2, ⟨xs, k, rfl, rfl, h1, h2, hz, h⟩, kk⟩ := h
  obtain ⟨l, ys, rfl, hT, r1⟩ := p1.tupI
  cases p2
  by_cases hc : ys ≠ [] ∧ 2 ≤ k
  · refine op_repT pins s σ H _ _ v u Q I rx ry ⟨l, k, ys, rfl, rfl, hT, hc.1, hc.2, h2, by rw [r1.length]; exact hz, fun p hp => ?_⟩
    obtain ⟨z1, z2⟩ := putTup w hp (r1.rep k.toNat)
    exact kk _ h _ _ W z1 z2
  · cases rx
    obtain ⟨t, rfl⟩ := ry
    obtain ⟨its, r, ⟨⟨cls, dd, data, sl⟩, ho, hc1, n, hd⟩, hs⟩ := I.tuple hT
    simp only at hc1 hd
    subst hc1 hd
    have hle : its.length = ys.length := r.length.symm
    have c0 : ((decide (k < -(2 ^ 63)) || decide (k ≥ 2 ^ 63)) = false) := by
      rw [decide_eq_false
            (by omega), decide_eq_false (by omega)] <;> rfl
    by_cases c1 : (its.toArray.isEmpty || k == 1) = true
    · have e : (List.replicate k.toNat xs).flatten = xs := by
        rw [Bool.or_eq_true] at c1
        rcases c1 with c1 | c1
        · have : its = [] := by simpa using c1
          rw [this] at hle
          have hy : ys = [] := List.eq_nil_of_length_eq_zero hle.symm
          rw [hy] at r1
          cases r1
          simp
        · rw [eq_of_beq c1]
          simp
      rw [e] at h
      refine wpAny_binaryOp_repeat_ref (T := "tuple") (U := "int") (by decide) ⟨_, ho, rfl⟩ (fun s' =>
            typeIs_int s' k t) noFill_tuple_mul F.fills_int_mul F.slot_int_rmul repeat_tuple F.slot_int_index.lookup
        (call_meets F.slot_int_rmul (typeIs_int s k t) F.entry_int_rmul
              (F.args_int_rmul_2 _ _) (int_rmul_tuple k t l its.toArray n dd sl)
          ⟨ho, rfl, ⟨_, ho, rfl⟩, call_meets F.slot_tuple_mul ⟨_, ho, rfl⟩ F.entry_tuple_mul (F.args_tuple_mul_2 _ _) (tup_mul1 l its.toArray n dd sl k t c0 c1) ⟨ho, ?_⟩⟩)
      exact ⟨.ref l, H, I, rfl, kk _ h _ H W (.refl w) p1.tupM⟩
    · have c1' : (its.toArray.isEmpty || k == 1) = false := by simpa using c1
      have c2 : (decide (k ≤ 0) || its.toArray.isEmpty) = true := by
        rw [Bool.or_eq_false_iff] at c1'
        have ne : ys ≠ [] := fun z => by
          rw [z] at hle
          have : its = [] := List.eq_nil_of_length_eq_zero hle
          rw [this] at c1'
          exact absurd c1'.1 (by simp)
        have k1 : k ≠ 1 := fun z => by
          rw [z] at c1'
          exact absurd c1'.2 (by simp)
        have : k ≤ 0 := by
          rcases (show k < 2 ∨ 2 ≤ k by omega) with q | q
          · omega
          · exact absurd ⟨ne, q⟩ hc
        rw [decide_eq_true this]; rfl
      have k0 : k ≤ 0 := by
        rw [Bool.or_eq_true] at c2
        rcases c2 with q | q
        · exact of_decide_eq_true q
        · rw [q] at c1'
          exact absurd c1' (by simp)
      have e : (List.replicate k.toNat xs).flatten = [] := by
        rw [show k.toNat = 0 from by omega]; rfl
      rw [e] at h
      refine wpAny_binaryOp_repeat_ref (T := "tuple") (U := "int") (by decide) ⟨_, ho, rfl⟩ (fun s' =>
            typeIs_int s' k t) noFill_tuple_mul F.fills_int_mul F.slot_int_rmul repeat_tuple F.slot_int_index.lookup
        (call_meets F.slot_int_rmul (typeIs_int s k t) F.entry_int_rmul
              (F.args_int_rmul_2 _ _) (int_rmul_tuple k t l its.toArray n dd sl)
          ⟨ho, rfl, ⟨_, ho, rfl⟩, call_meets F.slot_tuple_mul ⟨_, ho, rfl⟩ F.entry_tuple_mul (F.args_tuple_mul_2 _ _) (tup_mul0 l its.toArray n dd sl k t c0 c1' c2) ⟨ho, ?_⟩⟩)
      have hn := (I.hok.fresh (Nat.le_refl (Array.size s.heap.objs)))
      obtain ⟨z1, z2⟩ := putTup (K := X.K) (Zc := Zc) (xs := []) (ts := []) w hn .nil
      refine ⟨.ref s.heap.objs.size, _, I.laid (t' := s.toks) (o := .tup []) (fun b ob q => Heap.get?_push_of_some _ q) (Nat.le_refl _) ?_, rfl, kk _ h _ _ W z1 z2⟩
      exact ⟨Nat.zero_le _, [], .nil, IsTup.new _ _⟩
end
end Tw

namespace Tw
def cf (p : List Rat) (k : Nat) : Rat := p.getD k 0
theorem cf_nil (k : Nat) : cf [] k = 0 := rfl
theorem cf_zero (x : Rat) (p : List Rat) : cf (x :: p) 0 = x := rfl
theorem cf_succ (x : Rat) (p : List Rat) (k : Nat) : cf (x :: p) (k + 1) = cf p k := rfl
theorem cf_get {p : List Rat} {k : Nat} (h : k < p.length) : cf p k = p[k] := by
  unfold cf
  rw [List.getD_eq_getElem?_getD, List.getElem?_eq_getElem h]
  rfl
theorem cf_out {p : List Rat} {k : Nat} (h : p.length ≤ k) : cf p k = 0 := by
  unfold cf
  rw [List.getD_eq_getElem?_getD, List.getElem?_eq_none_iff.mpr h]; rfl
theorem cf_ext {p q : List Rat} (hl : p.length = q.length) (h : ∀ k, cf p k = cf q k) : p = q :=
  List.ext_getElem hl fun k h1 h2 => by rw [← cf_get h1, ← cf_get h2, h k]
theorem cf_rep (n k : Nat) : cf (List.replicate n 0) k = 0 := by
  unfold cf
  rw [List.getD_eq_getElem?_getD, List.getElem?_replicate]
  split <;> rfl
theorem cf_addAt {l : List Rat} {k : Nat} (x : Rat) (hk : k < l.length) (j : Nat) : cf (addAt l k x) j = if j = k then cf l j + x else cf l j := by
  unfold addAt cf
  simp only [List.getD_eq_getElem?_getD, List.getElem?_set]
  by_cases h : k = j
  · subst h
    rw [if_pos rfl, if_pos hk, if_pos rfl]; rfl
  · rw [if_neg h, if_neg (fun z => h z.symm)]
theorem cf_mulRow (x : Rat) (a : Nat) : ∀ (q : List Rat) (k : Nat) (l : List Rat) (j : Nat), a + k + q.length ≤ l.length → cf (mulRow x a q k l) j = cf l j + (if a + k ≤ j then x * cf q (j - (a + k)) else 0)
  | [], k, l, j, _ => by
    rw [mulRow]
    split <;> simp [cf_nil, Rat.mul_zero, Rat.add_zero]
  | y :: q, k, l, j, h => by
    rw [List.length_cons] at h
    rw [mulRow, cf_mulRow x a q (k + 1) _ j (by rw [addAt_len]; omega), cf_addAt _ (by omega)]
    by_cases h1 : j = a + k
    · subst h1
      rw [if_pos rfl, if_neg (by omega), if_pos (Nat.le_refl _), Nat.sub_self, cf_zero, Rat.add_zero]
    · rw [if_neg h1]
      by_cases h2 : a + k ≤ j
      · rw [if_pos h2, if_pos (by omega), show j - (a + k) = (j - (a + (k + 1))) + 1 from by omega, cf_succ]
      · rw [if_neg h2, if_neg (by omega)]
def sumN (f : Nat → Rat) : Nat → Rat
  | 0 => 0
  | n + 1 => sumN f n + f n
theorem sumN_congr {f g : Nat → Rat} : ∀ n, (∀ i, i < n → f i = g i) → sumN f n = sumN g n
  | 0, _ => rfl
  | n + 1, h => by rw [sumN, sumN, sumN_congr n fun i hi => h i (by omega), h n (by omega)]
theorem sumN_zero {f : Nat → Rat} : ∀ n, (∀ i, i < n → f i = 0) → sumN f n = 0
  | 0, _ => rfl
  | n + 1, h => by rw [sumN, sumN_zero n fun i hi => h i (by omega), h n (by omega), Rat.add_zero]
theorem sumN_front (f : Nat → Rat) : ∀ n, sumN f (n + 1) = f 0 + sumN (fun i => f (i + 1)) n
  | 0 => by simp [sumN, Rat.zero_add, Rat.add_zero]
  | n + 1 => by
    rw [sumN, sumN_front f n, sumN]
    grind
theorem sumN_rev (f : Nat → Rat) : ∀ n, sumN f n = sumN (fun i => f (n - 1 - i)) n
  | 0 => rfl
  | n + 1 => by
    rw [sumN_front (fun i => f (n + 1 - 1 - i)) n, sumN, sumN_rev f n]
    have e : sumN (fun i => f (n - 1 - i)) n = sumN (fun i => f (n + 1 - 1 - (i + 1))) n := sumN_congr n fun i hi => by
      rw [show n + 1 - 1 - (i + 1) = n - 1 - i from by omega]
    rw [e]
    simp only [Nat.add_sub_cancel, Nat.sub_zero]
    grind
def conv (p q : List Rat) (j : Nat) : Rat := sumN (fun i => cf p i * cf q (j - i)) (j + 1)
theorem conv_comm (p q : List Rat) (j : Nat) : conv p q j = conv q p j := by
  unfold conv
  rw [sumN_rev]
  refine sumN_congr _ fun i hi => ?_
  rw [show j + 1 - 1 - i = j - i from by omega, show j - (j - i) = i from by omega, Rat.mul_comm]
theorem cf_mulRows (q : List Rat) : ∀ (p : List Rat) (k : Nat) (l : List Rat) (j : Nat), k + p.length + q.length ≤ l.length + 1 → 
    cf (mulRows q p k l) j = cf l j + (if k ≤ j then sumN (fun i => cf p i * cf q (j - k - i)) (j - k + 1) else 0)
  | [], k, l, j, _ => by
    rw [mulRows]
    have : sumN (fun i => cf [] i * cf q (j - k - i)) (j - k + 1) = 0 := sumN_zero _ fun i _ => by rw [cf_nil, Rat.zero_mul]
    rw [this]
    split <;> rw [Rat.add_zero]
  | x :: p, k, l, j, h => by
    rw [List.length_cons] at h
    rw [mulRows, cf_mulRows q p (k + 1) _ j (by rw [mulRow_len]; omega), cf_mulRow x k q 0 l j (by omega), Nat.add_zero]
    by_cases h1 : k ≤ j
    · rw [if_pos h1, if_pos h1, sumN_front (fun i => cf (x :: p) i * cf q (j - k - i))]
      simp only [cf_zero, cf_succ, Nat.sub_zero]
      by_cases h2 : k + 1 ≤ j
      · rw [if_pos h2, show j - (k + 1) + 1 = j - k from by omega]
        have : sumN (fun i => cf p i * cf q (j - (k + 1) - i)) (j - k) = sumN (fun i => cf p i * cf q (j - k - (i + 1))) (j - k) := sumN_congr _ fun i _ => by
          rw [show j - (k + 1) - i = j - k - (i + 1) from by omega]
        rw [this]
        grind
      · rw [if_neg h2, show j - k = 0 from by omega, sumN]
        grind
    · rw [if_neg h1, if_neg h1, if_neg (by omega)]
      simp [Rat.add_zero]
theorem mulP_len (p q : List Rat) : (mulP p q).length = p.length + q.length - 1 := by
  unfold mulP
  rw [mulRows_len, List.length_replicate]
theorem cf_mulP (p q : List Rat) (j : Nat) : cf (mulP p q) j = conv p q j := by
  unfold mulP
  rw [cf_mulRows q p 0 _ j (by rw [List.length_replicate]; omega), cf_rep, if_pos (Nat.zero_le _), Rat.zero_add]
  rfl
theorem mulP_comm (p q : List Rat) : mulP p q = mulP q p :=
  cf_ext (by rw [mulP_len, mulP_len, Nat.add_comm]) fun j => by rw [cf_mulP, cf_mulP, conv_comm]
theorem prodP_comm (p q : List Rat) : prodP p q = prodP q p := by unfold prodP; rw [mulP_comm]
theorem cf_map (x : Rat) : ∀ (q : List Rat) (j : Nat), cf (q.map (· * x)) j = cf q j * x
  | [], j => by rw [List.map_nil, cf_nil, Rat.zero_mul]
  | y :: q, 0 => rfl
  | y :: q, j + 1 => by rw [List.map_cons, cf_succ, cf_succ, cf_map x q j]
theorem mulP_one (x : Rat) (q : List Rat) : mulP [x] q = q.map (· * x) :=
  cf_ext (by rw [mulP_len, List.length_map]; simp) fun j => by
    rw [cf_mulP, cf_map, conv, sumN_front, cf_zero, Nat.sub_zero]
    rw [sumN_zero _ fun i _ => by rw [cf_succ, cf_nil, Rat.zero_mul], Rat.add_zero, Rat.mul_comm]
theorem prodP_one (x : Rat) (q : List Rat) : prodP [x] q = trim (q.map (· * x)) := by unfold prodP; rw [mulP_one]
/-! sizes -/
theorem mulRow_sz {x : Rat} {at_ a b lo : Nat} (hx : Sz a x) : ∀ (q : List Rat) (k : Nat) (l : List Rat), SzL b q → at_ + k + q.length ≤ l.length → SzR l (at_ + k) lo (lo + (a + b + 1)) → SzL (lo + (a + b + 1)) (mulRow x at_ q k l)
  | [], k, l, _, _, hs => hs.all (by omega)
  | y :: q, k, l, hq, hl, hs => by
    rw [List.length_cons] at hl
    have hk : at_ + k < l.length := by omega
    have e1 : l[at_ + k]? = some l[at_ + k] := List.getElem?_eq_getElem hk
    have s1 : Sz lo l[at_ + k] := by
      have := hs _ _ e1
      rw [if_neg (Nat.lt_irrefl _)] at this
      exact this
    have s2 : Sz (lo + (a + b + 1)) (l[at_ + k] + x * y) := (s1.add (hx.mul (hq y (List.mem_cons_self ..)))).mono (by omega)
    rw [mulRow]
    refine mulRow_sz hx q (k + 1) _ (fun z m => hq z (List.mem_cons_of_mem _ m)) (by rw [addAt_len]; omega) ?_
    have := hs.put s2
    unfold addAt
    rw [List.getD_eq_getElem?_getD, e1]
    exact this
theorem mulRows_sz {q : List Rat} {a b : Nat} (hq : SzL b q) : ∀ (p : List Rat) (k r : Nat) (l : List Rat), SzL a p → k + p.length + q.length ≤ l.length + 1 → SzL r l → SzL (r + p.length * (a + b + 1)) (mulRows q p k l)
  | [], k, r, l, _, _, hs => hs.mono (by omega)
  | x :: p, k, r, l, hp, hl, hs => by
    have hm : (x :: p).length * (a + b + 1) = (a + b + 1) + p.length * (a + b + 1) := by rw [List.length_cons, Nat.add_mul, Nat.one_mul, Nat.add_comm]
    rw [List.length_cons] at hl
    rw [hm, mulRows]
    have h1 := mulRow_sz (at_ := k) (lo := r) (hp x (List.mem_cons_self ..)) q 0 l hq (by omega) (.of hs (by omega))
    refine (mulRows_sz hq p (k + 1) _ _ (fun z m => hp z (List.mem_cons_of_mem _ m)) (by rw [mulRow_len]; omega) h1).mono (by omega)
theorem prodP_sz {p q : List Rat} {a b : Nat} (hp : SzL a p) (hq : SzL b q) : SzL (1 + p.length * (a + b + 1)) (prodP p q) :=
  (mulRows_sz hq p 0 1 _ hp (by rw [List.length_replicate]; omega) (SzL.rep (Sz.zero (by decide)))).trim
theorem trim_len (p : List Rat) : (trim p).length ≤ p.length := by
  unfold trim
  rw [List.length_take]
  omega
theorem prodP_len (p q : List Rat) : (prodP p q).length ≤ p.length + q.length := by
  have := trim_len (mulP p q)
  rw [mulP_len] at this
  unfold prodP
  omega
theorem pval_sz {z : Rat} {a b : Nat} (hz : Sz b z) : ∀ {p : List Rat}, SzL a p → Sz (1 + p.length * (a + b + 1)) (pval p z)
  | [], _ => Sz.zero (by omega)
  | x :: p, hp => by
    have hm : (x :: p).length * (a + b + 1) = (a + b + 1) + p.length * (a + b + 1) := by rw [List.length_cons, Nat.add_mul, Nat.one_mul, Nat.add_comm]
    rw [hm, pval]
    exact ((hp x (List.mem_cons_self ..)).add (hz.mul (pval_sz hz (p := p) fun y m => hp y (List.mem_cons_of_mem _ m)))).mono (by omega)
theorem pval_zero : ∀ (p : List Rat) (x : Rat) (r : List Rat), p = x :: r → pval p 0 = x
  | _, x, r, rfl => by rw [pval, Rat.zero_mul, Rat.add_zero]
theorem pval_one (x z : Rat) : pval [x] z = x := by rw [pval, pval, Rat.mul_zero, Rat.add_zero]
theorem SzL.map {p : List Rat} {a b : Nat} {x : Rat} (hp : SzL a p) (hx : Sz b x) : SzL (a + b) (p.map (· * x)) := fun y m => by
  obtain ⟨z, hz, rfl⟩ := List.mem_map.mp m
  exact (hp z hz).mul hx
end Tw

namespace Tw
structure PS where
  c : Nat → Rat
theorem PS.ext {f g : PS} (h : ∀ k, f.c k = g.c k) : f = g := by
  cases f; cases g
  congr
  funext k
  exact h k
def tri (F : Nat → Nat → Rat) (n : Nat) : Rat := sumN (fun i => sumN (fun j => F i j) (n + 1 - i)) (n + 1)
theorem sumN_add (f g : Nat → Rat) : ∀ n, sumN (fun i => f i + g i) n = sumN f n + sumN g n
  | 0 => by simp [sumN, Rat.add_zero]
  | n + 1 => by
    rw [sumN, sumN, sumN, sumN_add f g n]
    grind
theorem sumN_mul (x : Rat) (f : Nat → Rat) : ∀ n, sumN (fun i => x * f i) n = x * sumN f n
  | 0 => by simp [sumN, Rat.mul_zero]
  | n + 1 => by
    rw [sumN, sumN, sumN_mul x f n]
    grind
theorem tri_succ (F : Nat → Nat → Rat) (n : Nat) : tri F (n + 1) = tri F n + sumN (fun i => F i (n + 1 - i)) (n + 2) := by
  unfold tri
  have e1 : sumN (fun i => sumN (fun j => F i j) (n + 1 + 1 - i)) (n + 1 + 1) = sumN (fun i => sumN (fun j => F i j) (n + 1 - i) + F i (n + 1 - i)) (n + 2) := sumN_congr _ fun i hi => by
    rw [show n + 1 + 1 - i = (n + 1 - i) + 1 from by omega, sumN]
  rw [e1, sumN_add]
  have e2 : sumN (fun i => sumN (fun j => F i j) (n + 1 - i)) (n + 2) = sumN (fun i => sumN (fun j => F i j) (n + 1 - i)) (n + 1) := by
    rw [sumN, Nat.sub_self]
    show _ + sumN _ 0 = _
    rw [sumN, Rat.add_zero]
  rw [e2]
theorem tri_swap (F : Nat → Nat → Rat) : ∀ n, tri F n = tri (fun i j => F j i) n
  | 0 => rfl
  | n + 1 => by
    rw [tri_succ, tri_succ, tri_swap F n]
    congr 1
    rw [sumN_rev]
    refine sumN_congr _ fun i hi => ?_
    rw [show n + 2 - 1 - i = n + 1 - i from by omega, show n + 1 - (n + 1 - i) = i from by omega]
namespace PS
def mulS (f g : PS) : PS := ⟨fun n => sumN (fun i => f.c i * g.c (n - i)) (n + 1)⟩
def C (x : Rat) : PS := ⟨fun n => if n = 0 then x else 0⟩
theorem mulS_comm (f g : PS) : mulS f g = mulS g f := ext fun n => by
  show sumN _ _ = sumN _ _
  rw [sumN_rev]
  refine sumN_congr _ fun i hi => ?_
  rw [show n + 1 - 1 - i = n - i from by omega, show n - (n - i) = i from by omega, Rat.mul_comm]
theorem mulS_left (f g h : PS) : mulS f (mulS g h) = mulS g (mulS f h) := ext fun n => by
  have e : ∀ f g : PS, (mulS f (mulS g h)).c n = tri (fun i j => f.c i * (g.c j * h.c (n - i - j))) n := fun f g => by
    show sumN _ _ = sumN _ _
    refine sumN_congr _ fun i hi => ?_
    show f.c i * sumN (fun j => g.c j * h.c (n - i - j)) (n - i + 1) = sumN _ (n + 1 - i)
    rw [show n + 1 - i = n - i + 1 from by omega, ← sumN_mul]
  rw [e f g, e g f, tri_swap]
  unfold tri
  refine sumN_congr _ fun i hi => sumN_congr _ fun j hj => ?_
  dsimp only
  rw [show n - j - i = n - i - j from by omega]
  grind
theorem mulS_assoc (f g h : PS) : mulS (mulS f g) h = mulS f (mulS g h) := by
  rw [mulS_comm (mulS f g) h, mulS_left, mulS_comm h g]
theorem C_mul (x : Rat) (f : PS) (n : Nat) : (mulS (C x) f).c n = x * f.c n := by
  show sumN _ _ = _
  rw [sumN_front]
  have : sumN (fun i => (C x).c (i + 1) * f.c (n - (i + 1))) n = 0 := sumN_zero _ fun i _ => by
    show (if i + 1 = 0 then x else 0) * _ = 0
    rw [if_neg (by omega), Rat.zero_mul]
  rw [this, Rat.add_zero]
  rfl
instance : Add PS := ⟨fun f g => ⟨fun n => f.c n + g.c n⟩⟩
instance : Mul PS := ⟨mulS⟩
instance : Neg PS := ⟨fun f => ⟨fun n => -f.c n⟩⟩
instance : Sub PS := ⟨fun f g => ⟨fun n => f.c n - g.c n⟩⟩
instance : NatCast PS := ⟨fun n => C (n : Rat)⟩
instance : IntCast PS := ⟨fun n => C (n : Rat)⟩
instance (n : Nat) : OfNat PS n := ⟨C (n : Rat)⟩
instance : SMul Nat PS := ⟨fun n f => C (n : Rat) * f⟩
instance : SMul Int PS := ⟨fun n f => C (n : Rat) * f⟩
def pw (f : PS) : Nat → PS
  | 0 => C 1
  | n + 1 => pw f n * f
instance : HPow PS Nat PS := ⟨pw⟩
theorem add_c (f g : PS) (n : Nat) : (f + g).c n = f.c n + g.c n := rfl
theorem sub_c (f g : PS) (n : Nat) : (f - g).c n = f.c n - g.c n := rfl
theorem neg_c (f : PS) (n : Nat) : (-f).c n = -f.c n := rfl
theorem mul_c (f g : PS) (n : Nat) : (f * g).c n = sumN (fun i => f.c i * g.c (n - i)) (n + 1) := rfl
theorem Cm_c (x : Rat) (f : PS) (n : Nat) : (C x * f).c n = x * f.c n := C_mul x f n
theorem zero_c (n : Nat) : (0 : PS).c n = 0 := by
  show (if n = 0 then ((0 : Nat) : Rat) else 0) = 0
  split <;> rfl
theorem one_eq : (1 : PS) = C 1 := rfl
theorem C_c (x : Rat) (n : Nat) : (C x).c n = if n = 0 then x else 0 := rfl
instance : Lean.Grind.CommRing PS where
  add_zero f := ext fun n => by rw [add_c, zero_c, Rat.add_zero]
  add_comm f g := ext fun n => Rat.add_comm _ _
  add_assoc f g h := ext fun n => Rat.add_assoc _ _ _
  mul_assoc := mulS_assoc
  mul_one f := (mulS_comm f 1).trans (ext fun n => (C_mul 1 f n).trans (Rat.one_mul _))
  one_mul f := ext fun n => (C_mul 1 f n).trans (Rat.one_mul _)
  left_distrib f g h := ext fun n => by
    rw [add_c, mul_c, mul_c, mul_c, ← sumN_add]
    exact sumN_congr _ fun i _ => Rat.mul_add _ _ _
  right_distrib f g h := ext fun n => by
    rw [add_c, mul_c, mul_c, mul_c, ← sumN_add]
    exact sumN_congr _ fun i _ => Rat.add_mul _ _ _
  zero_mul f := ext fun n => by
    rw [mul_c, zero_c]
    exact sumN_zero _ fun i _ => by rw [zero_c, Rat.zero_mul]
  mul_zero f := ext fun n => by
    rw [mul_c, zero_c]
    exact sumN_zero _ fun i _ => by rw [zero_c, Rat.mul_zero]
  mul_comm := mulS_comm
  pow_zero f := rfl
  pow_succ f n := rfl
  ofNat_succ n := ext fun k => by
    show (C ((n + 1 : Nat) : Rat)).c k = (C (n : Rat)).c k + (C 1).c k
    rw [C_c, C_c, C_c]
    split
    · exact Rat.natCast_add n 1
    · exact (Rat.add_zero 0).symm
  ofNat_eq_natCast n := rfl
  nsmul_eq_natCast_mul n f := rfl
  neg_add_cancel f := ext fun n => by
    rw [add_c, neg_c, zero_c]
    exact Rat.neg_add_cancel _
  sub_eq_add_neg f g := ext fun n => Rat.sub_eq_add_neg _ _
  neg_zsmul i f := ext fun n => by
    show (C ((-i : Int) : Rat) * f).c n = (-(C (i : Rat) * f)).c n
    rw [neg_c, Cm_c, Cm_c, Rat.intCast_neg, Rat.neg_mul]
  zsmul_natCast_eq_nsmul n f := rfl
  intCast_ofNat n := rfl
  intCast_neg i := ext fun n => by
    show (C ((-i : Int) : Rat)).c n = (-(C (i : Rat))).c n
    rw [neg_c, C_c, C_c, Rat.intCast_neg]
    split
    · rfl
    · rfl
end PS
/-! ### degrees -/
open PS
theorem sumN_single {f : Nat → Rat} {k : Nat} : ∀ n, k < n → (∀ i, i < n → i ≠ k → f i = 0) → sumN f n = f k
  | 0, h, _ => by omega
  | n + 1, h, h0 => by
    rw [sumN]
    by_cases e : k = n
    · subst e
      rw [sumN_zero _ fun i hi => h0 i (by omega) (by omega), Rat.zero_add]
    · rw [sumN_single n (by omega) fun i hi => h0 i (by omega), h0 n (by omega) (fun z => e z.symm), Rat.add_zero]
/-- of a degree below n -/
def Bd (n : Nat) (f : PS) : Prop := ∀ k, n ≤ k → f.c k = 0
theorem Bd.mono {n m : Nat} {f : PS} (h : Bd n f) (l : n ≤ m) : Bd m f := fun k hk => h k (by omega)
theorem Bd.zero {n : Nat} : Bd n 0 := fun k _ => zero_c k
theorem Bd.eq0 {f : PS} (h : Bd 0 f) : f = 0 := PS.ext fun k => (h k (Nat.zero_le _)).trans (zero_c k).symm
theorem Bd.add {n : Nat} {f g : PS} (h : Bd n f) (r : Bd n g) : Bd n (f + g) := fun k hk => by rw [add_c, h k hk, r k hk, Rat.add_zero]
theorem Bd.sub {n : Nat} {f g : PS} (h : Bd n f) (r : Bd n g) : Bd n (f - g) := fun k hk => by
  rw [sub_c, h k hk, r k hk]
  grind
theorem Bd.neg {n : Nat} {f : PS} (h : Bd n f) : Bd n (-f) := fun k hk => by
  rw [neg_c, h k hk]
  grind
theorem Bd.Cm {n : Nat} {f : PS} (h : Bd n f) (x : Rat) : Bd n (C x * f) := fun k hk => by rw [Cm_c, h k hk, Rat.mul_zero]
theorem Bd.C (x : Rat) : Bd 1 (C x) := fun k hk => by rw [C_c, if_neg (by omega)]
theorem Bd.mul {n m : Nat} {f g : PS} (h : Bd n f) (r : Bd m g) : Bd (n + m - 1) (f * g) := fun k hk => by
  rw [mul_c]
  refine sumN_zero _ fun i hi => ?_
  by_cases e : n ≤ i
  · rw [h i e, Rat.zero_mul]
  · rw [r (k - i) (by omega), Rat.mul_zero]
theorem top_mul {n m : Nat} {f g : PS} (h : Bd (n + 1) f) (r : Bd (m + 1) g) : (f * g).c (n + m) = f.c n * g.c m := by
  rw [mul_c, sumN_single (k := n) _ (by omega) fun i hi ne => ?_]
  · rw [show n + m - n = m from by omega]
  · by_cases e : n + 1 ≤ i
    · rw [h i e, Rat.zero_mul]
    · rw [r (n + m - i) (by omega), Rat.mul_zero]
theorem Bd.of_mul {n k : Nat} {f g : PS} (hf : Bd (n + 1) f) (h0 : f.c n ≠ 0) (h : Bd k (f * g)) : ∀ M, Bd M g → Bd (k - n) g
  | 0, hg => hg.mono (Nat.zero_le _)
  | m + 1, hg => by
    by_cases e : m + 1 ≤ k - n
    · exact hg.mono e
    · refine Bd.of_mul hf h0 h m fun j hj => ?_
      by_cases e2 : j = m
      · subst e2
        have := h (n + j) (by omega)
        rw [top_mul hf hg] at this
        rcases Rat.mul_eq_zero.mp this with z | z
        · exact absurd z h0
        · exact z
      · exact hg j (by omega)
/-- no two quotients -/
theorem div_uniq {n M : Nat} {b f1 f2 r1 r2 : PS} (hb : Bd (n + 1) b) (h0 : b.c n ≠ 0) (h1 : Bd M f1) (h2 : Bd M f2) (q1 : Bd n r1) (q2 : Bd n r2) (e : f1 * b + r1 = f2 * b + r2) : f1 = f2 ∧ r1 = r2 := by
  have e1 : b * (f1 - f2) = r2 - r1 := by grind
  have h3 : Bd n (b * (f1 - f2)) := by rw [e1]; exact q2.sub q1
  have h4 := (Bd.of_mul hb h0 h3 M (h1.sub h2))
  rw [Nat.sub_self] at h4
  have h5 := h4.eq0
  have e2 : f1 = f2 := by grind
  refine ⟨e2, ?_⟩
  rw [e2] at e
  grind
/-- a power of z -/
def Mn (s : Nat) : PS := ⟨fun n => if n = s then 1 else 0⟩
theorem Mn_c (s : Nat) (f : PS) (n : Nat) : (Mn s * f).c n = if s ≤ n then f.c (n - s) else 0 := by
  rw [mul_c]
  by_cases e : s ≤ n
  · rw [if_pos e, sumN_single (k := s) _ (by omega) fun i _ ne => ?_]
    · show (if s = s then (1 : Rat) else 0) * _ = _
      rw [if_pos rfl, Rat.one_mul]
    · show (if i = s then (1 : Rat) else 0) * _ = 0
      rw [if_neg ne, Rat.zero_mul]
  · rw [if_neg e]
    refine sumN_zero _ fun i hi => ?_
    show (if i = s then (1 : Rat) else 0) * _ = 0
    rw [if_neg (by omega), Rat.zero_mul]
theorem Bd.Mn (s : Nat) : Bd (s + 1) (Mn s) := fun k hk => if_neg (by omega)
theorem Mn_add (s t : Nat) : Mn s * Mn t = Mn (s + t) := PS.ext fun n => by
  rw [Mn_c]
  by_cases e : s ≤ n
  · rw [if_pos e]
    show (if n - s = t then (1 : Rat) else 0) = if n = s + t then 1 else 0
    by_cases h : n = s + t
    · (rw [if_pos h, if_pos (by omega)])
    · (rw [if_neg h, if_neg (by omega)])
  · rw [if_neg e]
    show (0 : Rat) = if n = s + t then 1 else 0
    rw [if_neg (by omega)]
theorem div_ex {m : Nat} {b : PS} (hb : Bd (m + 1) b) (h0 : b.c m ≠ 0) : ∀ (n : Nat) (p : PS), Bd n p → ∃ f r, Bd (n - m) f ∧ Bd m r ∧ p = f * b + r
  | 0, p, hp => ⟨0, p, .zero, hp.mono (Nat.zero_le _), by grind⟩
  | n + 1, p, hp => by
    by_cases e : n + 1 ≤ m
    · exact ⟨0, p, .zero, hp.mono e, by grind⟩
    · have hm : m ≤ n := by omega
      have key : Bd n (p - Tw.PS.C (p.c n / b.c m) * (Tw.Mn (n - m) * b)) := fun k hk => by
        rw [sub_c, Cm_c, Mn_c, if_pos (by omega)]
        by_cases e2 : k = n
        · subst e2
          rw [show k - (k - m) = m from by omega]
          grind
        · rw [hp k (by omega), hb (k - (n - m)) (by omega)]
          grind
      obtain ⟨f, r, hf, hr, e3⟩ := div_ex hb h0 n _ key
      refine ⟨f + Tw.PS.C (p.c n / b.c m) * Tw.Mn (n - m), r, (hf.mono (by omega)).add (((Bd.Mn (n - m)).Cm _).mono (by omega)), hr, ?_⟩
      grind
/-! ### lists -/
def ps (p : List Rat) : PS := ⟨cf p⟩
theorem ps_c (p : List Rat) (k : Nat) : (ps p).c k = cf p k := rfl
theorem ps_bd (p : List Rat) : Bd p.length (ps p) := fun k hk => cf_out hk
theorem ps_nil : ps [] = 0 := PS.ext fun k => (zero_c k).symm
theorem ps_one (x : Rat) : ps [x] = C x := PS.ext fun k => by
  rw [C_c, ps_c]
  cases k with
  | zero => rw [if_pos rfl]; rfl
  | succ k => rw [if_neg (by omega)]; rfl
theorem ps_mul (p q : List Rat) : ps (mulP p q) = ps p * ps q := PS.ext fun k => cf_mulP p q k
theorem cf_take (p : List Rat) (n k : Nat) : cf (p.take n) k = if k < n then cf p k else 0 := by
  unfold cf
  rw [List.getD_eq_getElem?_getD, List.getD_eq_getElem?_getD]
  by_cases h : k < n
  · rw [if_pos h, List.getElem?_take_of_lt h]
  · rw [if_neg h, List.getElem?_eq_none_iff.mpr (by rw [List.length_take]; omega)]; rfl
theorem trimN_zero (p : List Rat) : ∀ n k, n ≤ p.length → trimN p n ≤ k → k < n → cf p k = 0
  | 0, k, _, _, h => by omega
  | n + 1, k, hn, h1, h2 => by
    rw [trimN] at h1
    by_cases e : p[n]? = some 0
    · rw [if_pos e] at h1
      by_cases e2 : k = n
      · subst e2
        unfold cf
        rw [List.getD_eq_getElem?_getD, e]; rfl
      · exact trimN_zero p n k (by omega) h1 (by omega)
    · rw [if_neg e] at h1
      omega
theorem cf_trim (p : List Rat) (k : Nat) : cf (trim p) k = cf p k := by
  unfold trim
  rw [cf_take]
  by_cases h : k < trimN p p.length
  · rw [if_pos h]
  · rw [if_neg h]
    by_cases e : k < p.length
    · exact (trimN_zero p p.length k (Nat.le_refl _) (by omega) e).symm
    · exact (cf_out (by omega)).symm
theorem ps_trim (p : List Rat) : ps (trim p) = ps p := PS.ext fun k => cf_trim p k
theorem ps_prod (p q : List Rat) : ps (prodP p q) = ps p * ps q := by
  unfold prodP
  rw [ps_trim, ps_mul]
/-- no nought at the end -/
def Tr (p : List Rat) : Prop := p ≠ [] → cf p (p.length - 1) ≠ 0
theorem trimN_last (p : List Rat) : ∀ n, n ≤ p.length → trimN p n ≠ 0 → cf p (trimN p n - 1) ≠ 0
  | 0, _, h => absurd rfl h
  | n + 1, hn, h => by
    rw [trimN] at h ⊢
    by_cases e : p[n]? = some 0
    · rw [if_pos e] at h ⊢
      exact trimN_last p n (by omega) h
    · rw [if_neg e]
      rw [Nat.add_sub_cancel, cf_get (by omega)]
      intro z
      rw [List.getElem?_eq_getElem (by omega), z] at e
      exact e rfl
theorem tr_trim (p : List Rat) : Tr (trim p) := fun h => by
  have hl : (trim p).length = trimN p p.length := by
    unfold trim
    rw [List.length_take]
    have := trimN_le p p.length
    omega
  have h0 : trimN p p.length ≠ 0 := fun z => h (List.length_eq_zero_iff.mp (by rw [hl, z]))
  rw [hl, cf_trim]
  exact trimN_last p p.length (Nat.le_refl _) h0
theorem ps_inj {p q : List Rat} (hp : Tr p) (hq : Tr q) (e : ps p = ps q) : p = q := by
  have ec : ∀ k, cf p k = cf q k := fun k => congrArg (fun f => f.c k) e
  have le : ∀ {p q : List Rat}, Tr q → (∀ k, cf p k = cf q k) → q.length ≤ p.length := fun {p q} hq ec => by
    rcases Nat.lt_or_ge p.length q.length with h | h
    · have hn : q ≠ [] := fun z => by rw [z] at h; exact absurd h (Nat.not_lt_zero _)
      refine absurd ?_ (hq hn)
      rw [← ec]
      exact cf_out (by omega)
    · exact h
  exact cf_ext (Nat.le_antisymm (le hp fun k => (ec k).symm) (le hq ec)) ec
theorem tr_nil : Tr [] := fun h => absurd rfl h
theorem tr_trim_eq {p : List Rat} (h : Tr p) : trim p = p := ps_inj (tr_trim p) h (ps_trim p)
theorem tr_last {p : List Rat} {x : Rat} (h : p.getLast? = some x) (h0 : x ≠ 0) : Tr p := fun hn => by
  have hl := List.length_pos_iff.mpr hn
  rw [cf_get (by omega)]
  rw [List.getLast?_eq_some_getLast hn, List.getLast_eq_getElem] at h
  rw [Option.some.inj h]
  exact h0
theorem last_tr {p : List Rat} (h : Tr p) (hn : p ≠ []) : ∃ x, p.getLast? = some x ∧ x ≠ 0 ∧ x = cf p (p.length - 1) := by
  have hl := List.length_pos_iff.mpr hn
  refine ⟨cf p (p.length - 1), ?_, h hn, rfl⟩
  rw [List.getLast?_eq_some_getLast hn, List.getLast_eq_getElem, cf_get (by omega)]
/-- the list of a polynomial -/
theorem of_bd {n : Nat} {f : PS} (h : Bd n f) : ∃ p : List Rat, Tr p ∧ p.length ≤ n ∧ ps p = f := by
  refine ⟨trim ((List.range n).map f.c), tr_trim _, ?_, ?_⟩
  · have := trim_len ((List.range n).map f.c)
    rw [List.length_map, List.length_range] at this
    exact this
  · rw [ps_trim]
    refine PS.ext fun k => ?_
    rw [ps_c]
    by_cases e : k < n
    · rw [cf_get (by rw [List.length_map, List.length_range]; exact e), List.getElem_map, List.getElem_range]
    · rw [cf_out (by rw [List.length_map, List.length_range]; omega), h k (by omega)]
end Tw

namespace Tw
open PS
def Fin' (f : PS) : Prop := ∃ n, Bd n f
theorem Fin'.ps (p : List Rat) : Fin' (ps p) := ⟨_, ps_bd p⟩
theorem Fin'.C (x : Rat) : Fin' (C x) := ⟨1, .C x⟩
theorem Fin'.zero : Fin' 0 := ⟨0, .zero⟩
theorem Fin'.one : Fin' 1 := ⟨1, .C 1⟩
theorem Fin'.mul {f g : PS} (h : Fin' f) (r : Fin' g) : Fin' (f * g) := by
  obtain ⟨n, h⟩ := h
  obtain ⟨m, r⟩ := r
  exact ⟨_, h.mul r⟩
theorem Fin'.add {f g : PS} (h : Fin' f) (r : Fin' g) : Fin' (f + g) := by
  obtain ⟨n, h⟩ := h
  obtain ⟨m, r⟩ := r
  exact ⟨n + m, (h.mono (by omega)).add (r.mono (by omega))⟩
theorem Fin'.sub {f g : PS} (h : Fin' f) (r : Fin' g) : Fin' (f - g) := by
  obtain ⟨n, h⟩ := h
  obtain ⟨m, r⟩ := r
  exact ⟨n + m, (h.mono (by omega)).sub (r.mono (by omega))⟩
theorem len_pos {p : List Rat} (h : p ≠ []) : 0 < p.length := List.length_pos_iff.mpr h
theorem ps_bd' {p : List Rat} (h : p ≠ []) : Bd (p.length - 1 + 1) (ps p) := (ps_bd p).mono (by have := len_pos h; omega)
/-- nothing but nought gives nought -/
theorem mul_cancel {G a b : PS} {n : Nat} (hG : Bd (n + 1) G) (h0 : G.c n ≠ 0) (ha : Fin' a) (hb : Fin' b) (e : G * a = G * b) : a = b := by
  obtain ⟨m, hm⟩ := ha.sub hb
  have h1 : G * (a - b) = 0 := by grind
  have h2 := (Bd.of_mul hG h0 (k := 0) (by rw [h1]; exact .zero) m hm)
  rw [Nat.zero_sub] at h2
  have h3 := h2.eq0
  grind
theorem ps_cancel {p : List Rat} {a b : PS} (hp : Tr p) (hn : p ≠ []) (ha : Fin' a) (hb : Fin' b) (e : ps p * a = ps p * b) : a = b :=
  mul_cancel (ps_bd' hn) (hp hn) ha hb e
/-- the last number is 1 -/
structure Mo (G : List Rat) : Prop where
  ne : G ≠ []
  one : cf G (G.length - 1) = 1
theorem Mo.tr {G : List Rat} (h : Mo G) : Tr G := fun _ => by
  rw [h.one]
  decide
def Dv (a : List Rat) (f : PS) : Prop := ∃ u, Fin' u ∧ f = ps a * u
/-- the common part -/
structure IsG (p q G : List Rat) : Prop where
  mo : Mo G
  dp : Dv G (ps p)
  dq : Dv G (ps q)
  comb : ∃ u v, Fin' u ∧ Fin' v ∧ ps G = ps p * u + ps q * v
theorem dv_len {a b : List Rat} (ha : Tr a) (hn : a ≠ []) (hb : Tr b) (hbn : b ≠ []) (h : Dv a (ps b)) : a.length ≤ b.length := by
  obtain ⟨u, ⟨m, hu⟩, e⟩ := h
  rcases Nat.lt_or_ge b.length a.length with l | l
  · refine absurd ?_ (hb hbn)
    have h2 := Bd.of_mul (ps_bd' hn) (ha hn) (k := b.length) (by rw [← e]; exact ps_bd b) m hu
    rw [show b.length - (a.length - 1) = 0 from by omega] at h2
    have : ps b = 0 := by
      rw [e, h2.eq0]
      grind
    rw [← ps_c, this, zero_c]
  · exact l
theorem mo_uniq {G H : List Rat} (hG : Mo G) (hH : Mo H) (h1 : Dv G (ps H)) (h2 : Dv H (ps G)) : G = H := by
  have l1 := dv_len hG.tr hG.ne hH.tr hH.ne h1
  have l2 := dv_len hH.tr hH.ne hG.tr hG.ne h2
  have l : G.length = H.length := by omega
  obtain ⟨u, ⟨m, hu⟩, e⟩ := h1
  have p := len_pos hG.ne
  have h3 := Bd.of_mul (ps_bd' hG.ne) (hG.tr hG.ne) (k := H.length) (by rw [← e]; exact ps_bd H) m hu
  rw [show H.length - (G.length - 1) = 0 + 1 from by omega] at h3
  have ht := top_mul (ps_bd' hG.ne) h3
  rw [← e, Nat.add_zero, ps_c, ps_c, hG.one, l, hH.one] at ht
  have hu1 : u = C 1 := PS.ext fun k => by
    rw [C_c]
    cases k with
    | zero => rw [if_pos rfl]; grind
    | succ k => rw [if_neg (by omega)]; exact h3 _ (by omega)
  refine ps_inj hG.tr hH.tr ?_
  rw [e, hu1]
  have : (1 : PS) = C 1 := rfl
  rw [← this]
  grind
theorem Dv.trans {a b : List Rat} {f : PS} (h : Dv a (ps b)) (r : Dv b f) : Dv a f := by
  obtain ⟨u, hu, e⟩ := h
  obtain ⟨v, hv, e2⟩ := r
  exact ⟨u * v, hu.mul hv, by grind⟩
theorem Dv.add {a : List Rat} {f g : PS} (h : Dv a f) (r : Dv a g) : Dv a (f + g) := by
  obtain ⟨u, hu, e⟩ := h
  obtain ⟨v, hv, e2⟩ := r
  exact ⟨u + v, hu.add hv, by grind⟩
theorem Dv.mul {a : List Rat} {f g : PS} (h : Dv a f) (r : Fin' g) : Dv a (f * g) := by
  obtain ⟨u, hu, e⟩ := h
  exact ⟨u * g, hu.mul r, by grind⟩
theorem IsG.dv {p q G : List Rat} (h : IsG p q G) {H : List Rat} (h1 : Dv H (ps p)) (h2 : Dv H (ps q)) : Dv H (ps G) := by
  obtain ⟨u, v, hu, hv, e⟩ := h.comb
  rw [e]
  exact (h1.mul hu).add (h2.mul hv)
theorem IsG.uniq {p q G H : List Rat} (h : IsG p q G) (r : IsG p q H) : G = H := mo_uniq h.mo r.mo (r.dv h.dp h.dq) (h.dv r.dp r.dq)
theorem IsG.symm {p q G : List Rat} (h : IsG p q G) : IsG q p G := by
  obtain ⟨u, v, hu, hv, e⟩ := h.comb
  exact ⟨h.mo, h.dq, h.dp, v, u, hv, hu, by grind⟩
theorem C_mulC (x y : Rat) : C x * C y = C (x * y) := PS.ext fun k => by
  rw [Cm_c, C_c, C_c]
  split
  · rfl
  · exact Rat.mul_zero _
theorem C_inv {x : Rat} (h : x ≠ 0) : C x * C (1 / x) = 1 := by
  rw [C_mulC, show x * (1 / x) = 1 from by grind]
  rfl
/-- a step of the chain; both sides may be multiplied -/
theorem IsG.step {p q r G : List Rat} {x : Rat} {f : PS} (h : IsG p q G) (hf : Fin' f) (e : ps p = f * ps q + ps r) {r' : List Rat} (hx : x ≠ 0) (er : ps r' = C x * ps r) : IsG q r' G := by
  obtain ⟨u, v, hu, hv, ec⟩ := h.comb
  obtain ⟨a, ha, ea⟩ := h.dp
  obtain ⟨b, hb, eb⟩ := h.dq
  have hi := C_inv hx
  refine ⟨h.mo, h.dq, ⟨C x * (a - f * b), (Fin'.C x).mul (ha.sub (hf.mul hb)), ?_⟩, f * u + v, C (1 / x) * u, (hf.mul hu).add hv, (Fin'.C _).mul hu, ?_⟩
  · grind
  · grind
theorem IsG.scale {p q G p' q' : List Rat} {x y : Rat} (h : IsG p q G) (hx : x ≠ 0) (hy : y ≠ 0) (ep : ps p' = C x * ps p) (eq : ps q' = C y * ps q) : IsG p' q' G := by
  obtain ⟨u, v, hu, hv, ec⟩ := h.comb
  obtain ⟨a, ha, ea⟩ := h.dp
  obtain ⟨b, hb, eb⟩ := h.dq
  have hi := C_inv hx
  have hj := C_inv hy
  refine ⟨h.mo, ⟨C x * a, (Fin'.C x).mul ha, by grind⟩, ⟨C y * b, (Fin'.C y).mul hb, by grind⟩, C (1 / x) * u, C (1 / y) * v, (Fin'.C _).mul hu, (Fin'.C _).mul hv, ?_⟩
  grind
theorem ps_map (p : List Rat) (x : Rat) : ps (p.map (· * x)) = C x * ps p := PS.ext fun k => by
  rw [ps_c, cf_map, Cm_c, ps_c, Rat.mul_comm]
/-- divided by its last number -/
def mon (p : List Rat) : List Rat := trim (p.map (· * (1 / cf p (p.length - 1))))
theorem ps_mon (p : List Rat) : ps (mon p) = C (1 / cf p (p.length - 1)) * ps p := by
  unfold mon
  rw [ps_trim, ps_map]
theorem inv_ne {x : Rat} (h : x ≠ 0) : 1 / x ≠ 0 := fun z => by
  have : x * (1 / x) = 1 := by grind
  rw [z, Rat.mul_zero] at this
  exact absurd this (by decide)
theorem mon_eq {p : List Rat} (h : Tr p) (hn : p ≠ []) : mon p = p.map (· * (1 / cf p (p.length - 1))) := by
  unfold mon
  refine tr_trim_eq fun hm => ?_
  rw [List.length_map, cf_map]
  intro z
  rcases Rat.mul_eq_zero.mp z with z | z
  · exact h hn z
  · exact inv_ne (h hn) z
theorem mon_len {p : List Rat} (h : Tr p) (hn : p ≠ []) : (mon p).length = p.length := by rw [mon_eq h hn, List.length_map]
theorem mo_mon {p : List Rat} (h : Tr p) (hn : p ≠ []) : Mo (mon p) := by
  have hl := mon_len h hn
  refine ⟨fun z => hn (List.length_eq_zero_iff.mp (by rw [← hl, z]; rfl)), ?_⟩
  rw [hl, mon_eq h hn, cf_map]
  have := h hn
  grind
/-- the end of the chain -/
theorem isG_nil {p : List Rat} (h : Tr p) (hn : p ≠ []) : IsG p [] (mon p) := by
  have h0 := h hn
  have hi := C_inv h0
  have e := ps_mon p
  refine ⟨mo_mon h hn, ⟨C (cf p (p.length - 1)), .C _, by grind⟩, ⟨0, .zero, by rw [ps_nil]; grind⟩, C (1 / cf p (p.length - 1)), 0, .C _, .zero, by rw [ps_nil]; grind⟩
theorem isG_dv {p q : List Rat} (hq : Tr q) (hn : q ≠ []) (h : Dv q (ps p)) : IsG p q (mon q) := by
  have h0 := hq hn
  have hi := C_inv h0
  have e := ps_mon q
  obtain ⟨a, ha, ea⟩ := h
  exact ⟨mo_mon hq hn, ⟨C (cf q (q.length - 1)) * a, (Fin'.C _).mul ha, by grind⟩, ⟨C (cf q (q.length - 1)), .C _, by grind⟩, 0, C (1 / cf q (q.length - 1)), .zero, .C _, by grind⟩
/-- division of lists -/
theorem divL_ex (p : List Rat) {q : List Rat} (hq : Tr q) (hn : q ≠ []) : ∃ f r : List Rat, Tr f ∧ Tr r ∧ f.length ≤ p.length - (q.length - 1) ∧ r.length < q.length ∧ ps p = ps f * ps q + ps r := by
  obtain ⟨f, r, hf, hr, e⟩ := div_ex (ps_bd' hn) (hq hn) p.length _ (ps_bd p)
  obtain ⟨f', t1, l1, rfl⟩ := of_bd hf
  obtain ⟨r', t2, l2, rfl⟩ := of_bd hr
  have := len_pos hn
  exact ⟨f', r', t1, t2, l1, by omega, e⟩
theorem isG_ex : ∀ (n : Nat) (p q : List Rat), q.length ≤ n → Tr p → Tr q → p ≠ [] ∨ q ≠ [] → ∃ G, IsG p q G
  | n, p, q, hl, hp, hq, hn => by
    by_cases e : q = []
    · subst e
      exact ⟨_, isG_nil hp (by simpa using hn)⟩
    · match n, hl with
      | 0, hl => exact absurd (List.length_eq_zero_iff.mp (by omega)) e
      | n + 1, hl =>
        obtain ⟨f, r, tf, tr, _, lr, ed⟩ := divL_ex p hq e
        obtain ⟨G, hG⟩ := isG_ex n q r (by omega) hq tr (.inl e)
        refine ⟨G, ?_⟩
        obtain ⟨u, v, hu, hv, ec⟩ := hG.comb
        obtain ⟨a, ha, ea⟩ := hG.dp
        obtain ⟨b, hb, eb⟩ := hG.dq
        exact ⟨hG.mo, ⟨ps f * a + b, ((Fin'.ps f).mul ha).add hb, by grind⟩, ⟨a, ha, ea⟩, v, u - ps f * v, hv, hu.sub ((Fin'.ps f).mul hv), by grind⟩
/-- a divisor of a product, in two -/
theorem dv_split {G q1 q2 : List Rat} (hG : Mo G) (h1 : Tr q1) (h : Dv G (ps q1 * ps q2)) : ∃ G1 G2 : List Rat, Mo G1 ∧ Mo G2 ∧ Dv G1 (ps q1) ∧ Dv G2 (ps q2) ∧ ps G = ps G1 * ps G2 := by
  obtain ⟨G1, hg⟩ := isG_ex q1.length G q1 (Nat.le_refl _) hG.tr h1 (.inl hG.ne)
  obtain ⟨a, ha, ea⟩ := hg.dp
  obtain ⟨w, hw, ew⟩ := hg.dq
  obtain ⟨u, v, hu, hv, ec⟩ := hg.comb
  obtain ⟨t, ht, et⟩ := h
  have hc : (1 : PS) = a * u + w * v := by
    refine ps_cancel hg.mo.tr hg.mo.ne .one ((ha.mul hu).add (hw.mul hv)) ?_
    grind
  have h2 : a * t = w * ps q2 := by
    refine ps_cancel hg.mo.tr hg.mo.ne (ha.mul ht) (hw.mul (Fin'.ps q2)) ?_
    grind
  obtain ⟨m, hm⟩ := id ha
  obtain ⟨G2, tr2, _, e2⟩ := of_bd hm
  have hne : G2 ≠ [] := fun z => by
    rw [z, ps_nil] at e2
    have : ps G = 0 := by grind
    refine absurd ?_ (hG.tr hG.ne)
    rw [← ps_c, this, zero_c]
  have ht2 := top_mul (ps_bd' hg.mo.ne) (ps_bd' hne)
  rw [ps_c, ps_c, hg.mo.one, Rat.one_mul] at ht2
  have eG : ps G = ps G1 * ps G2 := by rw [e2]; exact ea
  have hlen : G.length - 1 = G1.length - 1 + (G2.length - 1) := by
    rcases Nat.lt_trichotomy (G.length - 1) (G1.length - 1 + (G2.length - 1)) with l | l | l
    · refine absurd ?_ (tr2 hne)
      rw [← ht2, ← eG, ps_c]
      exact cf_out (by have := len_pos hG.ne; omega)
    · exact l
    · refine absurd ?_ (hG.tr hG.ne)
      rw [← ps_c, eG]
      exact ((ps_bd' hg.mo.ne).mul (ps_bd' hne)) _ (by omega)
  refine ⟨G1, G2, hg.mo, ⟨hne, ?_⟩, ⟨w, hw, ew⟩, ⟨ps q2 * u + t * v, ((Fin'.ps q2).mul hu).add (ht.mul hv), ?_⟩, eG⟩
  · rw [← ht2, ← eG, ← hlen, ps_c, hG.one]
  · rw [e2]
    grind
end Tw

namespace Tw
open PS
/-- n over D -/
structure Ov (h : Nat) (D : Int) (x : Rat) : Prop where
  ex : ∃ n : Int, n.natAbs < 2 ^ h ∧ x * (D : Rat) = (n : Rat)
/-- all numbers are over one number below, all below 2 ^ h -/
def Ht (h : Nat) (l : List Rat) : Prop := ∃ D : Int, D ≠ 0 ∧ D.natAbs < 2 ^ h ∧ ∀ x, x ∈ l → Ov h D x
theorem castI_ne {D : Int} (h : D ≠ 0) : (D : Rat) ≠ 0 := fun z => h (Rat.intCast_inj.mp (by simpa using z))
theorem Ov.eq {h : Nat} {D n : Int} {x : Rat} (hD : D ≠ 0) (e : x * (D : Rat) = (n : Rat)) : x = Rat.divInt n D := by
  have h0 := castI_ne hD
  have : x = (n : Rat) / (D : Rat) := by grind
  rw [this, Rat.div_def, Rat.divInt_eq_div, Rat.div_def]
theorem Ov.sz {h k : Nat} {D : Int} {x : Rat} (o : Ov h D x) (hD : D ≠ 0) (hl : D.natAbs < 2 ^ k) : Sz (max h k) x := by
  obtain ⟨n, hn, e⟩ := o.ex
  rw [Ov.eq (h := h) hD e]
  exact sz_divInt hD (Nat.lt_of_lt_of_le hn (Nat.pow_le_pow_right (by decide) (Nat.le_max_left ..))) (Nat.lt_of_lt_of_le hl (Nat.pow_le_pow_right (by decide) (Nat.le_max_right ..)))
theorem Ht.szl {h : Nat} {l : List Rat} (o : Ht h l) : SzL h l := fun x m => by
  obtain ⟨D, hD, hl, H⟩ := o
  have := (H x m).sz hD hl
  rwa [Nat.max_self] at this
theorem pow_le {a b : Nat} (h : a ≤ b) : 2 ^ a ≤ 2 ^ b := Nat.pow_le_pow_right (by decide) h
theorem Ov.mono {h k : Nat} {D : Int} {x : Rat} (o : Ov h D x) (l : h ≤ k) : Ov k D x := by
  obtain ⟨n, hn, e⟩ := o.ex
  exact ⟨n, Nat.lt_of_lt_of_le hn (pow_le l), e⟩
theorem Ht.mono {h k : Nat} {p : List Rat} (o : Ht h p) (l : h ≤ k) : Ht k p := by
  obtain ⟨D, hD, hl, H⟩ := o
  exact ⟨D, hD, Nat.lt_of_lt_of_le hl (pow_le l), fun x m => (H x m).mono l⟩
theorem Ht.sub {h : Nat} {p q : List Rat} (o : Ht h p) (s : ∀ x, x ∈ q → x ∈ p) : Ht h q := by
  obtain ⟨D, hD, hl, H⟩ := o
  exact ⟨D, hD, hl, fun x m => H x (s x m)⟩
theorem Ht.nil {h : Nat} (hh : 0 < h) : Ht h [] := ⟨1, by decide, Nat.one_lt_two_pow (by omega), fun x m => by cases m⟩
theorem trim_sub {p : List Rat} {x : Rat} (h : x ∈ trim p) : x ∈ p := List.mem_of_mem_take h
theorem Ht.trim {h : Nat} {p : List Rat} (o : Ht h p) : Ht h (trim p) := o.sub fun _ m => trim_sub m
theorem Ov.zero {h : Nat} {D : Int} : Ov h D 0 := ⟨0, Nat.two_pow_pos h, by rw [Rat.zero_mul]; rfl⟩
theorem natAbs_mul_lt {i j : Int} {a b : Nat} (h1 : i.natAbs < 2 ^ a) (h2 : j.natAbs < 2 ^ b) : (i * j).natAbs < 2 ^ (a + b) := mul_lt h1 h2
/-- multiplied by a number -/
theorem Ht.map {h k : Nat} {p : List Rat} {x : Rat} (o : Ht h p) (s : Sz k x) : Ht (h + k) (p.map (· * x)) := by
  obtain ⟨D, hD, hl, H⟩ := o
  have hx : (x.den : Int) ≠ 0 := by have := x.den_nz; omega
  refine ⟨D * x.den, Int.mul_ne_zero hD hx, natAbs_mul_lt hl s.den, fun y m => ?_⟩
  obtain ⟨z, hz, rfl⟩ := List.mem_map.mp m
  obtain ⟨n, hn, e⟩ := (H z hz).ex
  refine ⟨n * x.num, natAbs_mul_lt hn s.n, ?_⟩
  have hq : x * ((x.den : Int) : Rat) = (x.num : Rat) := by
    have e := Rat.num_divInt_den x
    rw [Rat.divInt_eq_div] at e
    have := castI_ne hx
    grind
  rw [Rat.intCast_mul, Rat.intCast_mul]
  grind
/-- divided by its last number -/
theorem Ht.mon {h : Nat} {p : List Rat} (o : Ht h p) (t : Tr p) (hn : p ≠ []) : Ht h (mon p) := by
  obtain ⟨D, hD, hl, H⟩ := o
  rw [mon_eq t hn]
  have hp := len_pos hn
  have h0 := t hn
  have hm : cf p (p.length - 1) ∈ p := by
    rw [cf_get (by omega)]
    exact List.getElem_mem _
  obtain ⟨k, hk, ek⟩ := (H _ hm).ex
  generalize cf p (p.length - 1) = c at *
  have hD' := castI_ne hD
  have hk0 : k ≠ 0 := fun z => by
    rw [z] at ek
    rcases Rat.mul_eq_zero.mp (ek.trans (by rfl)) with q | q
    · exact h0 q
    · exact hD' q
  refine ⟨k, hk0, hk, fun y m => ?_⟩
  obtain ⟨z, hz, rfl⟩ := List.mem_map.mp m
  obtain ⟨n, hn2, e⟩ := (H z hz).ex
  refine ⟨n, hn2, ?_⟩
  rw [← ek, ← e]
  grind
/-- sums of products -/
theorem sum_lt (f : Nat → Int) {B : Nat} : ∀ n, (∀ i, i < n → (f i).natAbs ≤ B) → ∃ s : Int, s.natAbs ≤ n * B ∧ sumN (fun i => (f i : Rat)) n = (s : Rat)
  | 0, _ => ⟨0, by simp, rfl⟩
  | n + 1, h => by
    obtain ⟨s, h1, h2⟩ := sum_lt f n fun i hi => h i (by omega)
    refine ⟨s + f n, ?_, ?_⟩
    · have := h n (by omega)
      rw [Nat.add_mul, Nat.one_mul]
      omega
    · rw [sumN, h2, Rat.intCast_add]
theorem Ov.cf {h : Nat} {D : Int} {p : List Rat} (H : ∀ x, x ∈ p → Ov h D x) (k : Nat) : Ov h D (cf p k) := by
  by_cases e : k < p.length
  · rw [cf_get e]
    exact H _ (List.getElem_mem e)
  · rw [cf_out (by omega)]
    exact .zero
theorem mem_cf {p : List Rat} {x : Rat} (m : x ∈ p) : ∃ k, k < p.length ∧ x = cf p k := by
  obtain ⟨k, hk, e⟩ := List.getElem_of_mem m
  exact ⟨k, hk, by rw [cf_get hk, e]⟩
theorem Ht.of_cf {h : Nat} {p : List Rat} (o : ∃ D : Int, D ≠ 0 ∧ D.natAbs < 2 ^ h ∧ ∀ k, k < p.length → Ov h D (Tw.cf p k)) : Ht h p := by
  obtain ⟨D, h1, h2, h3⟩ := o
  refine ⟨D, h1, h2, fun x m => ?_⟩
  obtain ⟨k, hk, rfl⟩ := mem_cf m
  exact h3 k hk
theorem Ht.mulP {a b c : Nat} {p q : List Rat} (hp : Ht a p) (hq : Ht b q) (hc : p.length ≤ 2 ^ c) : Ht (a + b + c) (Tw.mulP p q) := by
  obtain ⟨D, d0, d1, H⟩ := hp
  obtain ⟨E, e0, e1, G⟩ := hq
  refine .of_cf ⟨D * E, Int.mul_ne_zero d0 e0, Nat.lt_of_lt_of_le (natAbs_mul_lt d1 e1) (pow_le (by omega)), fun k _ => ?_⟩
  have hf : ∀ i, ∃ n : Int, n.natAbs < 2 ^ (a + b) ∧ Tw.cf p i * Tw.cf q (k - i) * ((D * E : Int) : Rat) = (n : Rat) ∧ (p.length ≤ i → n = 0) := fun i => by
    by_cases hi : p.length ≤ i
    · exact ⟨0, Nat.two_pow_pos _, by rw [cf_out hi, Rat.zero_mul, Rat.zero_mul]; rfl, fun _ => rfl⟩
    · obtain ⟨n, hn, en⟩ := (Ov.cf H i).ex
      obtain ⟨m, hm, em⟩ := (Ov.cf G (k - i)).ex
      refine ⟨n * m, natAbs_mul_lt hn hm, ?_, fun z => absurd z hi⟩
      rw [Rat.intCast_mul, Rat.intCast_mul]
      grind
  have hf2 : ∀ i, (Classical.choose (hf i)).natAbs < 2 ^ (a + b) ∧ Tw.cf p i * Tw.cf q (k - i) * ((D * E : Int) : Rat) = ((Classical.choose (hf i) : Int) : Rat) ∧ (p.length ≤ i → Classical.choose (hf i) = 0) := fun i => Classical.choose_spec (hf i)
  generalize hF : (fun i => Classical.choose (hf i)) = F at *
  have hF' : ∀ i, Classical.choose (hf i) = F i := fun i => by rw [← hF]
  have hf3 : ∀ i, (F i).natAbs < 2 ^ (a + b) ∧ Tw.cf p i * Tw.cf q (k - i) * ((D * E : Int) : Rat) = ((F i : Int) : Rat) ∧ (p.length ≤ i → F i = 0) := fun i => by
    have := hf2 i
    rw [hF'] at this
    exact this
  have key : ∀ n, ∃ s : Int, s.natAbs ≤ (min n p.length) * (2 ^ (a + b) - 1) ∧ sumN (fun i => Tw.cf p i * Tw.cf q (k - i)) n * ((D * E : Int) : Rat) = (s : Rat) := by
    intro n
    induction n with
    | zero => exact ⟨0, by simp, by rw [sumN, Rat.zero_mul]; rfl⟩
    | succ n ih =>
      obtain ⟨s, h1, h2⟩ := ih
      obtain ⟨g1, g2, g3⟩ := hf3 n
      refine ⟨s + F n, ?_, ?_⟩
      · by_cases hn : p.length ≤ n
        · rw [g3 hn, Int.add_zero, Nat.min_eq_right (by omega)]
          rw [Nat.min_eq_right hn] at h1
          exact h1
        · rw [Nat.min_eq_left (by omega), Nat.add_mul, Nat.one_mul]
          rw [Nat.min_eq_left (by omega)] at h1
          omega
      · rw [sumN, Rat.add_mul, h2, g2, Rat.intCast_add]
  obtain ⟨s, h1, h2⟩ := key (k + 1)
  refine ⟨s, ?_, by rw [cf_mulP]; exact h2⟩
  have hm : min (k + 1) p.length ≤ 2 ^ c := Nat.le_trans (Nat.min_le_right ..) hc
  have h3 : min (k + 1) p.length * (2 ^ (a + b) - 1) ≤ 2 ^ c * (2 ^ (a + b) - 1) := Nat.mul_le_mul_right _ hm
  have h4 : 2 ^ c * (2 ^ (a + b) - 1) < 2 ^ c * 2 ^ (a + b) := Nat.mul_lt_mul_of_pos_left (by have := Nat.two_pow_pos (a + b); omega) (Nat.two_pow_pos c)
  rw [Nat.pow_add 2 (a + b) c, Nat.mul_comm (2 ^ (a + b))]
  omega
theorem Ht.prodP {a b c : Nat} {p q : List Rat} (hp : Ht a p) (hq : Ht b q) (hc : p.length ≤ 2 ^ c)     : Ht (a + b + c) (Tw.prodP p q) := (hp.mulP hq hc).trim
theorem Ht.prodP' {a b c : Nat} {p q : List Rat} (hp : Ht a p) (hq : Ht b q) (hc : q.length ≤ 2 ^ c) : Ht (a + b + c) (Tw.prodP p q) := by
  rw [prodP_comm, Nat.add_comm a b]
  exact hq.prodP hp hc
/-- a step of a division: from l the t-fold of q, from place s on -/
theorem Ht.step {a b : Nat} {l q : List Rat} {t : Rat} {s : Nat} (hl : Ht a l) (hq : Ht b q) (hn : q ≠ []) (h0 : Tr q) (ht : t = cf l (s + q.length - 1) / cf q (q.length - 1)) :
    ∃ D : Int, D ≠ 0 ∧ D.natAbs < 2 ^ (a + b + 1) ∧ (∀ k, Ov (a + b + 1) D (cf l k)) ∧ (∀ k, Ov (a + b + 1) D (cf l (s + k) - t * cf q k)) ∧ Sz (a + b) t := by
  obtain ⟨D, d0, d1, H⟩ := hl
  obtain ⟨E, e0, e1, G⟩ := hq
  obtain ⟨m, hm, em⟩ := (Ov.cf G (q.length - 1)).ex
  obtain ⟨n, hn2, en⟩ := (Ov.cf H (s + q.length - 1)).ex
  have hc := h0 hn
  generalize cf q (q.length - 1) = c at *
  generalize cf l (s + q.length - 1) = x at *
  have D' := castI_ne d0
  have E' := castI_ne e0
  have hm0 : m ≠ 0 := fun z => by
    rw [z] at em
    rcases Rat.mul_eq_zero.mp (em.trans (by rfl)) with q | q
    · exact hc q
    · exact E' q
  have m' := castI_ne hm0
  have tD : t * ((D * m : Int) : Rat) = ((n * E : Int) : Rat) := by
    rw [ht, Rat.intCast_mul, Rat.intCast_mul]
    grind
  refine ⟨D * m, Int.mul_ne_zero d0 hm0, Nat.lt_of_lt_of_le (natAbs_mul_lt d1 hm) (pow_le (by omega)), fun k => ?_, fun k => ?_, ?_⟩
  · obtain ⟨i, hi, ei⟩ := (Ov.cf H k).ex
    refine ⟨i * m, Nat.lt_of_lt_of_le (natAbs_mul_lt hi hm) (pow_le (by omega)), ?_⟩
    rw [Rat.intCast_mul, Rat.intCast_mul]
    grind
  · obtain ⟨i, hi, ei⟩ := (Ov.cf H (s + k)).ex
    obtain ⟨j, hj, ej⟩ := (Ov.cf G k).ex
    refine ⟨i * m - n * j, sub_lt (natAbs_mul_lt hi hm) (natAbs_mul_lt hn2 hj), ?_⟩
    rw [Rat.intCast_mul] at tD
    rw [Rat.intCast_sub, Rat.intCast_mul, Rat.intCast_mul, Rat.intCast_mul]
    rw [Rat.intCast_mul] at tD
    grind
  · rw [Ov.eq (h := 0) (Int.mul_ne_zero d0 hm0) tD]
    exact sz_divInt (Int.mul_ne_zero d0 hm0) (natAbs_mul_lt hn2 e1) (natAbs_mul_lt d1 hm)
end Tw
namespace Tw
open PS L2
theorem sub_divInt (x y : Rat) : Rat.divInt (x.num * y.den - y.num * x.den) (x.den * y.den) = x - y := by
  have hx : (x.den : Int) ≠ 0 := by have := x.den_nz; omega
  have hy : (y.den : Int) ≠ 0 := by have := y.den_nz; omega
  rw [Rat.divInt_eq_div, Rat.intCast_sub, Rat.intCast_mul, Rat.intCast_mul, Rat.intCast_mul]
  have e1 := Rat.num_divInt_den x
  have e2 := Rat.num_divInt_den y
  rw [Rat.divInt_eq_div] at e1 e2
  have h1 := castI_ne hx
  have h2 := castI_ne hy
  grind
theorem over_ne {x y : Rat} (h : y ≠ 0) : ((x.den : Int) * y.num) ≠ 0 := Int.mul_ne_zero (by have := x.den_nz; omega) fun z => h (num_ne.mp z)
theorem over_divInt (x : Rat) {y : Rat} (h : y ≠ 0) : Rat.divInt (x.num * y.den) (x.den * y.num) = x / y := by
  have hx : (x.den : Int) ≠ 0 := by have := x.den_nz; omega
  have hy : (y.den : Int) ≠ 0 := by have := y.den_nz; omega
  have hn : y.num ≠ 0 := fun z => h (num_ne.mp z)
  rw [Rat.divInt_eq_div, Rat.intCast_mul, Rat.intCast_mul]
  have e1 := Rat.num_divInt_den x
  have e2 := Rat.num_divInt_den y
  rw [Rat.divInt_eq_div] at e1 e2
  have h1 := castI_ne hx
  have h2 := castI_ne hy
  have h3 := castI_ne hn
  grind
theorem rgD_zero : rgD 0 0 = [] := rfl
theorem rgD_succ (n : Nat) : rgD 0 ((n + 1 : Nat) : Int) = .int (n : Nat) :: rgD 0 (n : Nat) := by
  unfold rgD
  rw [show (((n + 1 : Nat) : Int) - 0).toNat = n + 1 from by omega, show (((n : Nat) : Int) - 0).toNat = n from by omega, List.range_succ_eq_map, List.map_cons, List.map_map]
  refine congr (congrArg List.cons ?_) (List.map_congr_left fun i _ => ?_)
  · congr 1; omega
  · show T.int _ = T.int _
    congr 1
    omega
theorem cf_set (l : List Rat) (k : Nat) (x : Rat) (hk : k < l.length) (j : Nat) : cf (l.set k x) j = if j = k then x else cf l j := by
  unfold cf
  simp only [List.getD_eq_getElem?_getD, List.getElem?_set]
  by_cases h : k = j
  · subst h
    rw [if_pos rfl, if_pos hk, if_pos rfl]; rfl
  · rw [if_neg h, if_neg (fun z => h z.symm)]
theorem tQs_at {l : List Rat} {k : Nat} (h : k < l.length) : atI (tQs l) ((k : Nat) : Int) = some (tQ (cf l k)) := by
  rw [atI_k, tQs_get, List.getElem?_eq_getElem h, cf_get h]; rfl
theorem ps_eqL {l l' : List Rat} {t : Rat} {s : Nat} {q : List Rat} (h : ∀ j, cf l' j = if s ≤ j then cf l j - t * cf q (j - s) else cf l j) : ps l' = ps l - C t * (Mn s * ps q) := PS.ext fun j => by
  rw [ps_c, sub_c, Cm_c, Mn_c, h j]
  split
  · rfl
  · rw [ps_c]; grind
end Tw
namespace Tw
theorem SzL.cf {h : Nat} {p : List Rat} (o : SzL h p) (k : Nat) : Sz (h + 1) (Tw.cf p k) := by
  by_cases e : k < p.length
  · rw [cf_get e]
    exact (o _ (List.getElem_mem e)).mono (by omega)
  · rw [cf_out (by omega)]
    exact Sz.zero (by omega)
end Tw
/-! ### the sizes along the chain of rests -/
namespace Tw
def euT (tm t0 : Nat) : Nat → Nat
  | 0 => t0
  | 1 => tm + 2 * t0 + 2
  | k + 2 => euT tm t0 k + 2 * euT tm t0 (k + 1) + 2
def euM (tm t0 : Nat) : Nat → Nat
  | 0 => tm
  | k + 1 => euT tm t0 k
theorem euT_succ (tm t0 : Nat) : ∀ e, euT tm t0 (e + 1) = euM tm t0 e + 2 * euT tm t0 e + 2
  | 0 => rfl
  | e + 1 => rfl
theorem euT_le (tm t0 : Nat) (e : Nat) : euT tm t0 e ≤ euT tm t0 (e + 1) := by
  rw [euT_succ]
  omega
theorem euT_mono (tm t0 : Nat) {e k : Nat} (h : e ≤ k) : euT tm t0 e ≤ euT tm t0 k := by
  induction h with
  | refl => exact Nat.le_refl _
  | step _ ih => exact Nat.le_trans ih (euT_le tm t0 _)
theorem euM_le {tm t0 : Nat} (h : tm ≤ t0) : ∀ e, euM tm t0 e ≤ euT tm t0 e
  | 0 => h
  | e + 1 => euT_le tm t0 e
theorem euT_step {tm t0 : Nat} (h : tm ≤ t0) (e : Nat) : ∀ d, euM tm t0 e + (d + 2) * (euT tm t0 e + 1) ≤ euT tm t0 (e + d + 1)
  | 0 => by
    rw [Nat.add_zero, euT_succ]
    omega
  | d + 1 => by
    have ih := euT_step h e d
    have e1 : euT tm t0 (e + (d + 1) + 1) = euM tm t0 (e + d + 1) + 2 * euT tm t0 (e + d + 1) + 2 := euT_succ tm t0 (e + d + 1)
    have e2 : (d + 1 + 2) * (euT tm t0 e + 1) = (d + 2) * (euT tm t0 e + 1) + (euT tm t0 e + 1) := by
      rw [show d + 1 + 2 = (d + 2) + 1 from rfl, Nat.add_mul, Nat.one_mul]
    have e3 : euT tm t0 e ≤ euT tm t0 (e + d + 1) := euT_mono tm t0 (by omega)
    rw [e1, e2]
    omega
theorem euM_up {tm t0 : Nat} (h : tm ≤ t0) {e k : Nat} (l : e < k) : euT tm t0 e ≤ euM tm t0 k := by
  cases k with
  | zero => omega
  | succ k => exact euT_mono tm t0 (by omega)
/-- what the chain of rests asks -/
def euOk (a lp b lq : Nat) : Prop := (lp + lq + 3) * (euT b (a + (lp + 1 - lq) * (b + 1) + b) lq + 1) ≤ 39000000
theorem isG_ne {p G : List Rat} (h : IsG p [] G) : p ≠ [] := fun z => by
  subst z
  obtain ⟨u, v, _, _, e⟩ := h.comb
  rw [ps_nil] at e
  have : ps G = 0 := by grind
  refine absurd ?_ (h.mo.tr h.mo.ne)
  rw [← ps_c, this, PS.zero_c]
theorem isG_end {p G : List Rat} (hp : Tr p) (h : IsG p [] G) : G = mon p := h.uniq (isG_nil hp (isG_ne h))
end Tw

namespace Tw
open PS
/-- every divisor with the last number 1 has numbers below 2 ^ b over one number below -/
def Sm (b : Nat) (q : List Rat) : Prop := ∀ G : List Rat, Mo G → Dv G (ps q) → Ht b G
theorem mo_mul {G G1 G2 : List Rat} (hG : Mo G) (h1 : Mo G1) (h2 : Mo G2) (e : ps G = ps G1 * ps G2) : G = prodP G1 G2 := by
  refine ps_inj hG.tr (tr_trim _) ?_
  rw [ps_prod, e]
theorem Sm.mul {a b c : Nat} {p q r : List Rat} (hp : Sm a p) (hq : Sm b q) (tp : Tr p) (np : p ≠ []) (hl : p.length ≤ 2 ^ c) (e : ps r = ps p * ps q) : Sm (a + b + c) r := fun G hG hd => by
  rw [e] at hd
  obtain ⟨G1, G2, m1, m2, d1, d2, e2⟩ := dv_split hG tp hd
  rw [mo_mul hG m1 m2 e2]
  refine (hp G1 m1 d1).prodP (hq G2 m2 d2) ?_
  exact Nat.le_trans (dv_len m1.tr m1.ne tp np d1) hl
theorem Sm.scale {b : Nat} {p q : List Rat} {x : Rat} (h : Sm b p) (hx : x ≠ 0) (e : ps q = C x * ps p) : Sm b q := fun G hG ⟨u, hu, eu⟩ => by
  refine h G hG ⟨C (1 / x) * u, (Fin'.C _).mul hu, ?_⟩
  have hi := C_inv hx
  grind
theorem mo_one {G : List Rat} (h : Mo G) (l : G.length ≤ 1) : G = [1] := by
  match G, h, l with
  | [], h, _ => exact absurd rfl h.ne
  | [x], h, _ => rw [show x = 1 from h.one]
  | _ :: _ :: _, _, l => simp at l
theorem ht_one {b : Nat} (hb : 0 < b) : Ht b [1] := ⟨1, by decide, Nat.one_lt_two_pow (by omega), fun x m => by
  rw [List.mem_singleton.mp m]
  exact ⟨1, Nat.one_lt_two_pow (by omega), by rw [Rat.one_mul]⟩⟩
/-- a constant -/
theorem Sm.const {b : Nat} {x : Rat} (hb : 0 < b) (hx : x ≠ 0) : Sm b [x] := fun G hG hd => by
  have := dv_len (b := [x]) hG.tr hG.ne (by intro _; exact hx) (by simp) hd
  rw [mo_one hG this]
  exact ht_one hb
end Tw
namespace Tw
open PS
/-- a root of a polynomial of degree 2 over one number below -/
theorem root_ht {h : Nat} {c b g : Rat} (o : Ht h [c, b, 1]) (e : g * g - b * g + c = 0) : Ht h [g, 1] := by
  obtain ⟨D, d0, d1, H⟩ := o
  obtain ⟨n0, l0, e0⟩ := (H c (by simp)).ex
  obtain ⟨n1, l1, e1⟩ := (H b (by simp)).ex
  have hD := castI_ne d0
  have one : ∀ {E : Int}, E.natAbs < 2 ^ h → Ov h E 1 := fun {E} hE => ⟨E, hE, Rat.one_mul _⟩
  by_cases hc : c = 0
  · have hg : g * (g - b) = 0 := by rw [hc] at e; grind
    rcases Rat.mul_eq_zero.mp hg with z | z
    · refine ⟨D, d0, d1, fun x m => ?_⟩
      simp at m
      rcases m with rfl | rfl
      · rw [z]; exact .zero
      · exact one d1
    · have : g = b := by grind
      refine ⟨D, d0, d1, fun x m => ?_⟩
      simp at m
      rcases m with rfl | rfl
      · rw [this]; exact ⟨n1, l1, e1⟩
      · exact one d1
  · have hn0 : n0 ≠ 0 := fun z => by
      rw [z] at e0
      rcases Rat.mul_eq_zero.mp (e0.trans (by rfl)) with q | q
      · exact hc q
      · exact hD q
    have hv : (g.den : Int) ≠ 0 := by have := g.den_nz; omega
    have hv' := castI_ne hv
    have eg := Rat.num_divInt_den g
    rw [Rat.divInt_eq_div] at eg
    have key : (D : Rat) * ((g.num : Rat) * (g.num : Rat)) - (n1 : Rat) * (g.num : Rat) * ((g.den : Int) : Rat) + (n0 : Rat) * ((g.den : Int) : Rat) * ((g.den : Int) : Rat) = 0 := by
      have : g * ((g.den : Int) : Rat) = (g.num : Rat) := by grind
      rw [← this, ← e0, ← e1]
      grind
    have keyI : D * (g.num * g.num) - n1 * g.num * (g.den : Int) + n0 * (g.den : Int) * (g.den : Int) = 0 := by
      rw [← Rat.intCast_mul, ← Rat.intCast_mul, ← Rat.intCast_mul, ← Rat.intCast_mul, ← Rat.intCast_mul, ← Rat.intCast_mul, ← Rat.intCast_sub, ← Rat.intCast_add] at key
      exact Rat.intCast_inj.mp (by simpa using key)
    have cop : Nat.Coprime g.num.natAbs g.den := g.reduced
    have dv : (g.den : Int) ∣ D * (g.num * g.num) := ⟨n1 * g.num - n0 * g.den, by grind⟩
    have du : g.num ∣ n0 * (g.den : Int) * (g.den : Int) := ⟨n1 * g.den - D * g.num, by grind⟩
    have dv2 : g.den ∣ D.natAbs := by
      have := Int.natAbs_dvd_natAbs.mpr dv
      rw [Int.natAbs_natCast, Int.natAbs_mul, Int.natAbs_mul] at this
      have c2 : Nat.Coprime g.den (g.num.natAbs * g.num.natAbs) := Nat.Coprime.mul_right cop.symm cop.symm
      exact c2.dvd_of_dvd_mul_right this
    have du2 : g.num.natAbs ∣ n0.natAbs := by
      have := Int.natAbs_dvd_natAbs.mpr du
      rw [Int.natAbs_mul, Int.natAbs_mul, Int.natAbs_natCast, Nat.mul_assoc] at this
      have c2 : Nat.Coprime g.num.natAbs (g.den * g.den) := Nat.Coprime.mul_right cop cop
      exact c2.dvd_of_dvd_mul_right this
    have s1 : g.den < 2 ^ h := Nat.lt_of_le_of_lt (Nat.le_of_dvd (by omega) dv2) d1
    have s2 : g.num.natAbs < 2 ^ h := Nat.lt_of_le_of_lt (Nat.le_of_dvd (by omega) du2) l0
    refine ⟨g.den, hv, by rw [Int.natAbs_natCast]; exact s1, fun x m => ?_⟩
    simp at m
    rcases m with rfl | rfl
    · exact ⟨x.num, s2, by grind⟩
    · exact one (by rw [Int.natAbs_natCast]; exact s1)
end Tw
namespace Tw
open PS
theorem mo_same {G H : List Rat} (hG : Mo G) (hH : Mo H) (h1 : Dv G (ps H)) (l : G.length = H.length) : G = H := by
  obtain ⟨u, ⟨m, hu⟩, e⟩ := h1
  have p := len_pos hG.ne
  have h3 := Bd.of_mul (ps_bd' hG.ne) (hG.tr hG.ne) (k := H.length) (by rw [← e]; exact ps_bd H) m hu
  rw [show H.length - (G.length - 1) = 0 + 1 from by omega] at h3
  have ht := top_mul (ps_bd' hG.ne) h3
  rw [← e, Nat.add_zero, ps_c, ps_c, hG.one, l, hH.one] at ht
  have hu1 : u = C 1 := PS.ext fun k => by
    rw [C_c]
    cases k with
    | zero => rw [if_pos rfl]; grind
    | succ k => rw [if_neg (by omega)]; exact h3 _ (by omega)
  refine ps_inj hG.tr hH.tr ?_
  rw [e, hu1, ← PS.one_eq]
  grind
theorem mo_two {G : List Rat} (h : Mo G) (l : G.length = 2) : ∃ g, G = [g, 1] := by
  match G, h, l with
  | [g, x], h, _ => exact ⟨g, by rw [show x = 1 from h.one]⟩
theorem mo2 (s : Rat) : Mo [s, 1] := ⟨by simp, rfl⟩
theorem mo3 (c b : Rat) : Mo [c, b, 1] := ⟨by simp, rfl⟩
theorem Sm.lin {h : Nat} {s : Rat} (h0 : 0 < h) (o : Ht h [s, 1]) : Sm h [s, 1] := fun G hG hd => by
  have l := dv_len hG.tr hG.ne (mo2 s).tr (mo2 s).ne hd
  by_cases h1 : G.length ≤ 1
  · rw [mo_one hG h1]
    exact ht_one h0
  · rw [mo_same hG (mo2 s) hd (by simp at l ⊢; omega)]
    exact o
theorem Sm.quad {h : Nat} {c b : Rat} (h0 : 0 < h) (o : Ht h [c, b, 1]) : Sm h [c, b, 1] := fun G hG hd => by
  have l := dv_len hG.tr hG.ne (mo3 c b).tr (mo3 c b).ne hd
  by_cases h1 : G.length ≤ 1
  · rw [mo_one hG h1]
    exact ht_one h0
  · by_cases h2 : G.length = 3
    · rw [mo_same hG (mo3 c b) hd (by simp; omega)]
      exact o
    · obtain ⟨g, rfl⟩ := mo_two hG (by simp at l; omega)
      obtain ⟨u, ⟨m, hu⟩, e⟩ := hd
      have h3 := Bd.of_mul (n := 1) (k := 3) ((ps_bd [g, 1])) (by show (1 : Rat) ≠ 0; decide) (by rw [← e]; exact ps_bd [c, b, 1]) m hu
      have c0 : c = g * u.c 0 := by
        have := congrArg (fun f => f.c 0) e
        simpa [mul_c, sumN, ps_c, cf, Rat.zero_add] using this
      have c1 : b = g * u.c 1 + 1 * u.c 0 := by
        have := congrArg (fun f => f.c 1) e
        simpa [mul_c, sumN, ps_c, cf, Rat.zero_add] using this
      have c2 : 1 = g * u.c 2 + 1 * u.c 1 := by
        have := congrArg (fun f => f.c 2) e
        simpa [mul_c, sumN, ps_c, cf, Rat.zero_add, Rat.add_zero, Rat.zero_mul] using this
      have c3 : u.c 2 = 0 := h3 2 (by omega)
      refine root_ht o ?_
      grind
end Tw

namespace Tw
open PS PySem PySem.Spec PyProof.Rows L2
/-- the chain stays small: by its bound, by that of the turned pair, or as it ends at once -/
def EuB (a : Nat) (p : List Rat) (b : Nat) (q : List Rat) : Prop :=
  euOk a p.length b q.length ∨ (p.length < q.length ∧ euOk b q.length a p.length) ∨ (Dv q (ps p) ∧ q ≠ [] ∧ a + (p.length + 2) * (b + 1) ≤ 39000000)
theorem rest_same {p q f r : List Rat} (tp : Tr p) (tq : Tr q) (hn : q ≠ []) (tr : Tr r) (lr : r.length < q.length) (e : ps p = ps f * ps q + ps r) (hl : p.length < q.length) : r = p := by
  have lq := len_pos hn
  have u := div_uniq (n := q.length - 1) (M := f.length + 1) (b := ps q) (f1 := ps f) (f2 := 0) (r1 := ps r) (r2 := ps p) ((ps_bd q).mono (by omega)) (tq hn)
    ((ps_bd f).mono (by omega)) .zero ((ps_bd r).mono (by omega)) ((ps_bd p).mono (by omega)) (by rw [← e]; grind)
  exact ps_inj tr tp u.2
theorem rest_none {p q f r : List Rat} (tq : Tr q) (hn : q ≠ []) (tr : Tr r) (lr : r.length < q.length) (e : ps p = ps f * ps q + ps r) (h : Dv q (ps p)) : r = [] := by
  have lq := len_pos hn
  obtain ⟨u, ⟨n, hu⟩, eu⟩ := h
  have w := div_uniq (n := q.length - 1) (M := f.length + n) (b := ps q) (f1 := ps f) (f2 := u) (r1 := ps r) (r2 := 0) ((ps_bd q).mono (by omega)) (tq hn)
    ((ps_bd f).mono (by omega)) (hu.mono (by omega)) ((ps_bd r).mono (by omega)) .zero (by rw [← e, eu]; grind)
  exact ps_inj tr tr_nil (w.2.trans ps_nil.symm)
theorem euT_ge (tm t0 : Nat) (e : Nat) : t0 ≤ euT tm t0 e := euT_mono tm t0 (Nat.zero_le e)
theorem euOk_first {a lp b lq : Nat} (h : euOk b lq a lp) : a + (lp + 2) * (b + 1) ≤ 39000000 := by
  unfold euOk at h
  have h1 := euT_ge a (b + (lq + 1 - lp) * (a + 1) + a) lp
  have h2 : (lq + lp + 3) * (b + a + 1) ≤ (lq + lp + 3) * (euT a (b + (lq + 1 - lp) * (a + 1) + a) lp + 1) := Nat.mul_le_mul_left _ (by omega)
  have h3 : (lq + lp + 3) * (b + a + 1) = (lq + lp + 3) * a + (lq + lp + 3) * (b + 1) := by rw [← Nat.mul_add]; congr 1; omega
  have h4 : 1 * a ≤ (lq + lp + 3) * a := Nat.mul_le_mul_right _ (by omega)
  have h5 : (lp + 2) * (b + 1) ≤ (lq + lp + 3) * (b + 1) := Nat.mul_le_mul_right _ (by omega)
  omega
theorem euTM_up {tm tm' t0 t0' : Nat} (h1 : tm ≤ tm') (h2 : t0 ≤ t0') : ∀ e, euT tm t0 e ≤ euT tm' t0' e ∧ euM tm t0 e ≤ euM tm' t0' e
  | 0 => ⟨h2, h1⟩
  | e + 1 => by
    obtain ⟨a, b⟩ := euTM_up h1 h2 e
    refine ⟨?_, ?_⟩
    · rw [euT_succ, euT_succ]; omega
    · show euT tm t0 e ≤ euT tm' t0' e
      exact a
/-- bounds for all pairs up to some lengths -/
theorem euOk_of {a lp b lq A P B L : Nat} (ha : a ≤ A) (hp : lp ≤ P) (hb : b ≤ B) (hl : lq ≤ L) (h : (P + L + 3) * (euT B (A + (P + 1) * (B + 1) + B) L + 1) ≤ 39000000) : euOk a lp b lq := by
  unfold euOk
  have m : (lp + 1 - lq) * (b + 1) ≤ (P + 1) * (B + 1) := Nat.mul_le_mul (by omega) (by omega)
  have h1 := (euTM_up hb (show a + (lp + 1 - lq) * (b + 1) + b ≤ A + (P + 1) * (B + 1) + B by omega) lq).1
  have h2 := euT_mono B (A + (P + 1) * (B + 1) + B) hl
  exact Nat.le_trans (Nat.mul_le_mul (by omega) (by omega)) h
/-- a loop by what holds before its k-th turn -/
theorem wLoop_cnt {g : T → TEnv → (TEnv → Prop) → Prop} {r : TSt} {D : EndsT} (I : Nat → TEnv → Prop) : ∀ (ts : List T) (env : TEnv) (n : Nat),
    (∀ k t, ts[k]? = some t → ∀ env, I (n + k) env → ∀ nx : TEnv → Prop, (∀ e, I (n + k + 1) e → nx e) → g t env fun env' => r { D with nx := nx, ct := nx, bk := D.nx } env') →
    I n env → (∀ e, I (n + ts.length) e → D.nx e) → wLoop g r D ts env
  | [], env, n, _, hI, hD => hD env hI
  | t :: ts, env, n, h, hI, hD => h 0 t rfl env hI _ fun e he => wLoop_cnt I ts e (n + 1) (fun k t hk env hI nx hnx => h (k + 1) t (by simpa using hk) env (by rwa [show n + (k + 1) = n + 1 + k from by omega]) nx fun e he => hnx e (by rwa [show n + 1 + k + 1 = n + (k + 1) + 1 from by omega])) he fun e he => hD e (by
      rw [List.length_cons]
      rwa [show n + (ts.length + 1) = n + 1 + ts.length from by omega])
theorem rgT_len (n : Int) : (rgT 0 n).length = n.toNat := by
  unfold rgT
  rw [List.length_map, List.length_range, Int.sub_zero]
theorem cf_shift (j : Nat) (p : List Rat) (k : Nat) : cf (List.replicate j 0 ++ p) k = if j ≤ k then cf p (k - j) else 0 := by
  induction j generalizing k with
  | zero => simp
  | succ j ih =>
    rw [List.replicate_succ, List.cons_append]
    cases k with
    | zero => rw [if_neg (by omega)]; rfl
    | succ k =>
      rw [cf_succ, ih k]
      by_cases h : j ≤ k
      · rw [if_pos h, if_pos (by omega), show k + 1 - (j + 1) = k - j from by omega]
      · (rw [if_neg h, if_neg (by omega)])
theorem ps_shift (j : Nat) (p : List Rat) : ps (List.replicate j 0 ++ p) = Mn j * ps p := PS.ext fun k => by
  rw [Mn_c, ps_c, cf_shift]
  rfl
theorem shift_ne {j : Nat} {p : List Rat} (h : p ≠ []) : List.replicate j 0 ++ p ≠ [] := by simp [h]
theorem tr_shift {j : Nat} {p : List Rat} (t : Tr p) (h : p ≠ []) : Tr (List.replicate j 0 ++ p) := fun _ => by
  have := len_pos h
  rw [cf_shift, List.length_append, List.length_replicate, if_pos (by omega), show j + p.length - 1 - j = p.length - 1 from by omega]
  exact t h
theorem Ht.shift {h j : Nat} {p : List Rat} (o : Ht h p) : Ht h (List.replicate j 0 ++ p) := by
  obtain ⟨D, d0, d1, o⟩ := o
  refine ⟨D, d0, d1, fun x m => ?_⟩
  rcases List.mem_append.mp m with (q | q)
  · rw [List.eq_of_mem_replicate q]; exact .zero
  · exact o x q
theorem prod_ne {p q : List Rat} (tp : Tr p) (np : p ≠ []) (tq : Tr q) (nq : q ≠ []) : prodP p q ≠ [] := fun z => by
  have e := ps_prod p q
  rw [z, ps_nil] at e
  have lp := len_pos np
  have lq := len_pos nq
  have := top_mul (n := p.length - 1) (m := q.length - 1) (f := ps p) (g := ps q) ((ps_bd p).mono (by omega)) ((ps_bd q).mono (by omega))
  rw [← e, PS.zero_c] at this
  rcases Rat.mul_eq_zero.mp this.symm with z | z
  · exact tp np z
  · exact tq nq z
theorem euOk_up {a lp b lq A P B : Nat} (ha : a ≤ A) (hp : lp ≤ P) (hb : b ≤ B) (h : euOk A P B lq) : euOk a lp b lq := by
  unfold euOk at h ⊢
  have m : (lp + 1 - lq) * (b + 1) ≤ (P + 1 - lq) * (B + 1) := Nat.mul_le_mul (by omega) (by omega)
  have h1 := (euTM_up hb (show a + (lp + 1 - lq) * (b + 1) + b ≤ A + (P + 1 - lq) * (B + 1) + B by omega) lq).1
  exact Nat.le_trans (Nat.mul_le_mul (by omega) (by omega)) h
theorem map_tr {p : List Rat} {x : Rat} (t : Tr p) (n : p ≠ []) (hx : x ≠ 0) : trim (p.map (· * x)) = p.map (· * x) ∧ Tr (p.map (· * x)) ∧ p.map (· * x) ≠ [] := by
  have h : Tr (p.map (· * x)) := fun _ => by
    rw [cf_map, List.length_map]
    exact fun z => (Rat.mul_eq_zero.mp z).elim (t n) hx
  exact ⟨tr_trim_eq h, h, by simp [n]⟩
theorem at_last {p : List Rat} (n : p ≠ []) : atI (tQs p) (-1) = some (tQ (cf p (p.length - 1))) := by
  have lp := len_pos n
  have e : tQs p ≠ [] := fun z => n (by simpa [tQs] using z)
  rw [atI_neg e, cf_get (by omega), ← List.getLast_eq_getElem n]
  congr 1
  exact List.getLast_map _
theorem Dv.self (q : List Rat) : Dv q (ps q) := ⟨1, Fin'.one, by grind⟩
theorem Dv.cst {x : Rat} (h : x ≠ 0) (p : List Rat) : Dv [x] (ps p) := ⟨C (1 / x) * ps p, (Fin'.C _).mul (Fin'.ps p), by
  have := C_inv h
  rw [ps_one]
  grind⟩
theorem tr_one {x : Rat} (h : x ≠ 0) : Tr [x] := fun _ => h
theorem mon_cst {x : Rat} (h : x ≠ 0) : mon [x] = [1] := mo_one (mo_mon (tr_one h) (by simp)) (by rw [mon_len (tr_one h) (by simp)]; simp)
theorem prod_len (p q : List Rat) : (prodP p q).length ≤ p.length + q.length - 1 := Nat.le_trans (trim_len _) (by rw [mulP_len]; omega)
theorem Sm.mono {a b : Nat} {q : List Rat} (h : Sm a q) (l : a ≤ b) : Sm b q := fun G hG hd => (h G hG hd).mono l
theorem Sm.shift1 {b j : Nat} {q : List Rat} (h : Sm b q) (hj : j ≤ 1) : Sm (b + 3) (List.replicate j 0 ++ q) := by
  have e : ps (List.replicate j 0 ++ q) = Mn j * ps q := ps_shift j q
  match j, hj with
  | 0, _ => simpa using h.mono (by omega)
  | 1, _ =>
    have o : Ht 1 [(0 : Rat), 1] := ⟨1, by decide, by decide, fun x m => by
      simp at m
      rcases m with rfl | rfl
      · exact .zero
      · exact ⟨1, by decide, Rat.one_mul _⟩⟩
    have s : Sm 1 [(0 : Rat), 1] := Sm.lin (by decide) o
    have tr : Tr [(0 : Rat), 1] := tr_last (x := 1) rfl (by decide)
    have e1 : ps [(0 : Rat), 1] = Mn 1 := by
      rw [show [(0 : Rat), 1] = List.replicate 1 0 ++ [1] from rfl, ps_shift, ps_one, ← PS.one_eq]
      grind
    exact (Sm.mul (c := 1) s h tr (by simp) (by decide) (by rw [e, e1])).mono (by omega)
/-- a piece as it is drawn -/
def Pc (p : List Rat) : Prop := (∃ s, p = [s, 1]) ∨ (∃ c b, p = [c, b, 1])
theorem Pc.tr {p : List Rat} (h : Pc p) : Tr p := by
  rcases h with ⟨s, rfl⟩ | ⟨c, b, rfl⟩
  · exact tr_last (x := 1) rfl (by decide)
  · exact tr_last (x := 1) rfl (by decide)
theorem Pc.ne {p : List Rat} (h : Pc p) : p ≠ [] := by
  rcases h with ⟨s, rfl⟩ | ⟨c, b, rfl⟩ <;> simp
theorem Pc.len {p : List Rat} (h : Pc p) : p.length ≤ 3 := by
  rcases h with ⟨s, rfl⟩ | ⟨c, b, rfl⟩ <;> simp
theorem Pc.sm {p : List Rat} (h : Pc p) (o : Ht 12 p) : Sm 12 p := by
  rcases h with ⟨s, rfl⟩ | ⟨c, b, rfl⟩
  · exact Sm.lin (by decide) o
  · exact Sm.quad (by decide) o
theorem Ht.one {b : Nat} {x : Rat} (h : Sz b x) : Ht b [x] := ⟨x.den, by have := x.den_nz; omega, h.den, fun y m => by
  exact ⟨x.num, h.n, by have e := Rat.num_divInt_den x; rw [Rat.divInt_eq_div] at e; have := castI_ne (D := (x.den : Int)) (by have := x.den_nz; omega); rw [List.mem_singleton.mp m]; grind⟩⟩
theorem Ht.app {a b : Nat} {p q : List Rat} (hp : Ht a p) (hq : Ht b q) : Ht (a + b) (p ++ q) := by
  obtain ⟨D, d0, d1, o⟩ := hp
  obtain ⟨E, e0, e1, r⟩ := hq
  refine ⟨D * E, Int.mul_ne_zero d0 e0, natAbs_mul_lt d1 e1, fun x m => ?_⟩
  rcases List.mem_append.mp m with z | z
  · obtain ⟨n, hn, e⟩ := o x z
    exact ⟨n * E, natAbs_mul_lt hn e1, by simp only [Rat.intCast_mul]; grind⟩
  · obtain ⟨n, hn, e⟩ := r x z
    refine ⟨D * n, natAbs_mul_lt d1 hn, by simp only [Rat.intCast_mul]; grind⟩
theorem SzL.ht {b : Nat} : ∀ {p : List Rat} {n : Nat}, SzL b p → p.length ≤ n → Ht (n * b + 1) p
  | [], n, _, _ => Ht.nil (by omega)
  | x :: p, n, h, hl => by
    match n, hl with
    | n + 1, hl =>
      have h1 := Ht.one (h x (List.mem_cons_self ..))
      have h2 := SzL.ht (p := p) (n := n) (fun y m => h y (List.mem_cons_of_mem _ m)) (by simpa using hl)
      exact (h1.app h2).mono (by rw [Nat.add_mul, Nat.one_mul]; omega)
end Tw

namespace Tw
abbrev Mx := List (List Rat)
/-- the row at a place, the entry of it -/
def rw' (F : Mx) (i : Nat) : List Rat := F.getD i []
def en (F : Mx) (i k : Nat) : Rat := cf (rw' F i) k
def dotR (r : List Rat) (x : Nat → Rat) (n : Nat) : Rat := sumN (fun k => cf r k * x k) n
/-- all rows make 0 with x -/
def Kills (F : Mx) (n : Nat) (x : Nat → Rat) : Prop := ∀ r, r ∈ F → dotR r x n = 0
def swapL {α : Type} (l : List α) (i j : Nat) (d : α) : List α := (l.set i (l.getD j d)).set j (l.getD i d)
def subRow (lead : List Rat) (c : Nat) (r : List Rat) : List Rat := List.zipWith (fun x y => x - y) r (lead.map (· * cf r c))
def leadOf (F : Mx) (p c : Nat) : List Rat := (rw' F p).map (· * (1 / en F p c))
def elim (F : Mx) (p a c : Nat) : Mx :=
  ((swapL F p a []).map (subRow (leadOf (swapL F p a []) p c) c)).set p (leadOf (swapL F p a []) p c)
def hereL (F : Mx) (c lo : Nat) : List Nat := (List.range' lo (F.length - lo)).filter fun i => decide (en F i c ≠ 0)
def stepE (c : Nat) (F : Mx) (S : List Nat) : Mx × List Nat :=
  match hereL F c S.length with
  | [] => (F, S)
  | a :: _ => (elim F S.length a c, S ++ [c])
/-- m columns from c on -/
def stairsE : Nat → Nat → Mx → List Nat → Mx × List Nat
  | 0, _, F, S => (F, S)
  | m + 1, c, F, S => stairsE m (c + 1) (stepE c F S).1 (stepE c F S).2
/-- rows of n numbers -/
def Wd (n : Nat) (F : Mx) : Prop := ∀ r, r ∈ F → r.length = n

theorem rw_mem {F : Mx} {i : Nat} (h : i < F.length) : rw' F i ∈ F := by
  unfold rw'
  rw [List.getD_eq_getElem?_getD, List.getElem?_eq_getElem h]
  exact List.getElem_mem h
theorem rw_get {F : Mx} {i : Nat} (h : i < F.length) : rw' F i = F[i] := by
  unfold rw'
  rw [List.getD_eq_getElem?_getD, List.getElem?_eq_getElem h]
  rfl
theorem mem_rw {F : Mx} {r : List Rat} (h : r ∈ F) : ∃ i, i < F.length ∧ r = rw' F i := by
  obtain ⟨i, hi, e⟩ := List.getElem_of_mem h
  exact ⟨i, hi, by rw [rw_get hi, e]⟩
theorem rw_set {F : Mx} {i : Nat} {r : List Rat} (h : i < F.length) (j : Nat) : rw' (F.set i r) j = if j = i then r else rw' F j := by
  unfold rw'
  rw [List.getD_eq_getElem?_getD, List.getD_eq_getElem?_getD, List.getElem?_set]
  by_cases e : j = i
  · subst e; simp [h]
  · rw [if_neg (fun z => e z.symm), if_neg e]
theorem swap_len {α : Type} {l : List α} {i j : Nat} {d : α} : (swapL l i j d).length = l.length := by unfold swapL; rw [List.length_set, List.length_set]
theorem rw_swap {F : Mx} {i j : Nat} (hi : i < F.length) (hj : j < F.length) (k : Nat) : rw' (swapL F i j []) k = if k = j then rw' F i else if k = i then rw' F j else rw' F k := by
  unfold swapL
  rw [rw_set (by rw [List.length_set]; exact hj), rw_set hi]
  rfl
theorem cf_zip {r s : List Rat} (h : r.length = s.length) (k : Nat) : cf (List.zipWith (fun x y => x - y) r s) k = cf r k - cf s k := by
  unfold cf
  rw [List.getD_eq_getElem?_getD, List.getD_eq_getElem?_getD, List.getD_eq_getElem?_getD, List.getElem?_zipWith]
  by_cases hk : k < r.length
  · rw [List.getElem?_eq_getElem hk, List.getElem?_eq_getElem (by omega)]; rfl
  · rw [List.getElem?_eq_none (by omega), List.getElem?_eq_none (by omega)]
    show (0 : Rat) = 0 - 0
    grind
theorem subRow_len {lead r : List Rat} {c : Nat} (h : lead.length = r.length) : (subRow lead c r).length = r.length := by
  unfold subRow
  rw [List.length_zipWith, List.length_map, h, Nat.min_self]
theorem cf_subRow {lead r : List Rat} {c : Nat} (h : lead.length = r.length) (k : Nat) : cf (subRow lead c r) k = cf r k - cf lead k * cf r c := by
  unfold subRow
  rw [cf_zip (by rw [List.length_map, h]), cf_map]
theorem rw_map {F : Mx} {f : List Rat → List Rat} {i : Nat} (h : i < F.length) : rw' (F.map f) i = f (rw' F i) := by
  rw [rw_get (by rw [List.length_map]; exact h), rw_get h, List.getElem_map]
theorem elim_len {F : Mx} {p a c : Nat} : (elim F p a c).length = F.length := by unfold elim; rw [List.length_set, List.length_map, swap_len]
theorem wd_swap {n : Nat} {F : Mx} {i j : Nat} (w : Wd n F) (hi : i < F.length) (hj : j < F.length) : Wd n (swapL F i j []) := fun r m => by
  obtain ⟨k, hk, rfl⟩ := mem_rw m
  rw [swap_len] at hk
  rw [rw_swap hi hj]
  split
  · exact w _ (rw_mem hi)
  · split
    · exact w _ (rw_mem hj)
    · exact w _ (rw_mem hk)
theorem lead_len {n : Nat} {F : Mx} {p c : Nat} (w : Wd n F) (hp : p < F.length) : (leadOf F p c).length = n := by
  unfold leadOf
  rw [List.length_map]
  exact w _ (rw_mem hp)
theorem cf_lead {F : Mx} {p c : Nat} (k : Nat) : cf (leadOf F p c) k = en F p k / en F p c := by
  unfold leadOf
  rw [cf_map]
  unfold en
  rw [Rat.div_def, Rat.div_def, Rat.one_mul]
theorem rw_elim {n : Nat} {F : Mx} {p a c : Nat} (w : Wd n F) (hp : p < F.length) (ha : a < F.length) {i : Nat} (hi : i < F.length) :
    rw' (elim F p a c) i = if i = p then leadOf (swapL F p a []) p c else subRow (leadOf (swapL F p a []) p c) c (rw' (swapL F p a []) i) := by
  unfold elim
  rw [rw_set (by rw [List.length_map, swap_len]; exact hp), rw_map (by rw [swap_len]; exact hi)]
theorem wd_elim {n : Nat} {F : Mx} {p a c : Nat} (w : Wd n F) (hp : p < F.length) (ha : a < F.length) : Wd n (elim F p a c) := fun r m => by
  obtain ⟨k, hk, rfl⟩ := mem_rw m
  rw [elim_len] at hk
  have w2 := wd_swap w hp ha
  have hl := lead_len (c := c) w2 (by rw [swap_len]; exact hp)
  have hr := w2 _ (rw_mem (show k < (swapL F p a []).length by rw [swap_len]; exact hk))
  rw [rw_elim w hp ha hk]
  split
  · exact hl
  · rw [subRow_len (by rw [hl, hr]), hr]
theorem en_elim {n : Nat} {F : Mx} {p a c : Nat} (w : Wd n F) (hp : p < F.length) (ha : a < F.length) {i : Nat} (hi : i < F.length) (k : Nat) :
    en (elim F p a c) i k = if i = p then en F a k / en F a c else (if i = a then en F p k else en F i k) - en F a k / en F a c * (if i = a then en F p c else en F i c) := by
  have w2 := wd_swap w hp ha
  have hl := lead_len (c := c) w2 (by rw [swap_len]; exact hp)
  have hr := w2 _ (rw_mem (show i < (swapL F p a []).length by rw [swap_len]; exact hi))
  have es : ∀ k, en (swapL F p a []) p k = en F a k := fun k => by
    unfold en
    rw [rw_swap hp ha]
    split
    · rename_i e; rw [e]
    · rw [if_pos rfl]
  unfold en
  rw [rw_elim w hp ha hi]
  by_cases e : i = p
  · rw [if_pos e, if_pos e, cf_lead, es, es]; rfl
  · rw [if_neg e, if_neg e, cf_subRow (by rw [hl, hr]), cf_lead, es, es, rw_swap hp ha, if_neg e]
    by_cases e2 : i = a
    · rw [if_pos e2, if_pos e2, if_pos e2]; rfl
    · rw [if_neg e2, if_neg e2, if_neg e2]; rfl
theorem dotR_lin {r s : List Rat} {x : Nat → Rat} {n : Nat} {y : Rat} {t : List Rat} (h : ∀ k, cf t k = cf r k + y * cf s k) : dotR t x n = dotR r x n + y * dotR s x n := by
  unfold dotR
  rw [← sumN_mul, ← sumN_add]
  exact sumN_congr n fun i _ => by rw [h i]; grind
theorem dotR_scale {r : List Rat} {x : Nat → Rat} {n : Nat} {y : Rat} {t : List Rat} (h : ∀ k, cf t k = y * cf r k) : dotR t x n = y * dotR r x n := by
  unfold dotR
  rw [← sumN_mul]
  exact sumN_congr n fun i _ => by rw [h i]; grind
theorem kills_iff {F : Mx} {n : Nat} {x : Nat → Rat} : Kills F n x ↔ ∀ i, i < F.length → dotR (rw' F i) x n = 0 := by
  refine ⟨fun h i hi => h _ (rw_mem hi), fun h r m => ?_⟩
  obtain ⟨i, hi, rfl⟩ := mem_rw m
  exact h i hi
/-- a step changes nothing at what the rows make 0 with -/
theorem kills_elim {m n : Nat} {F : Mx} {p a c : Nat} {x : Nat → Rat} (w : Wd m F) (hp : p < F.length) (ha : a < F.length) (h0 : en F a c ≠ 0) : Kills (elim F p a c) n x ↔ Kills F n x := by
  have e : ∀ i, i < F.length → ∀ k, cf (rw' (elim F p a c) i) k = _ := fun i hi k => en_elim w hp ha hi k
  have dp : dotR (rw' (elim F p a c) p) x n = (1 / en F a c) * dotR (rw' F a) x n := dotR_scale fun k => by
    rw [e p hp, if_pos rfl]
    show en F a k / en F a c = 1 / en F a c * en F a k
    grind
  have da : a ≠ p → dotR (rw' (elim F p a c) a) x n = dotR (rw' F p) x n + (-(en F p c / en F a c)) * dotR (rw' F a) x n := fun ne => dotR_lin fun k => by
    rw [e a ha, if_neg ne, if_pos rfl, if_pos rfl]
    show en F p k - en F a k / en F a c * en F p c = en F p k + -(en F p c / en F a c) * en F a k
    grind
  have di : ∀ i, i < F.length → i ≠ p → i ≠ a → dotR (rw' (elim F p a c) i) x n = dotR (rw' F i) x n + (-(en F i c / en F a c)) * dotR (rw' F a) x n := fun i hi n1 n2 => dotR_lin fun k => by
    rw [e i hi, if_neg n1, if_neg n2, if_neg n2]
    show en F i k - en F a k / en F a c * en F i c = en F i k + -(en F i c / en F a c) * en F a k
    grind
  rw [kills_iff, kills_iff, elim_len]
  constructor
  · intro h
    have hA : dotR (rw' F a) x n = 0 := by
      have := h p hp
      rw [dp] at this
      rcases Rat.mul_eq_zero.mp this with z | z
      · exact absurd z (inv_ne h0)
      · exact z
    intro i hi
    by_cases n1 : i = p
    · subst n1
      by_cases n2 : a = i
      · rw [← n2]; exact hA
      · have := h a ha
        rw [da n2, hA, Rat.mul_zero, Rat.add_zero] at this
        exact this
    · by_cases n2 : i = a
      · rw [n2]; exact hA
      · have := h i hi
        rw [di i hi n1 n2, hA, Rat.mul_zero, Rat.add_zero] at this
        exact this
  · intro h i hi
    have hA := h a ha
    by_cases n1 : i = p
    · subst n1; rw [dp, hA, Rat.mul_zero]
    · by_cases n2 : i = a
      · subst n2; rw [da n1, hA, Rat.mul_zero, Rat.add_zero]; exact h p hp
      · rw [di i hi n1 n2, hA, Rat.mul_zero, Rat.add_zero]; exact h i hi
/-- stairs by the columns up to c -/
structure Sta (F : Mx) (S : List Nat) (c : Nat) : Prop where
  le : S.length ≤ F.length
  lt : ∀ k, k < S.length → S.getD k 0 < c
  inc : ∀ i k, i < k → k < S.length → S.getD i 0 < S.getD k 0
  one : ∀ k, k < S.length → en F k (S.getD k 0) = 1
  zero : ∀ i k, k < S.length → i < F.length → i ≠ k → en F i (S.getD k 0) = 0
  low : ∀ i k, S.length ≤ i → i < F.length → k < c → en F i k = 0
  /-- ahead of its step a row has noughts -/
  ahead : ∀ i k, i < S.length → k < S.getD i 0 → en F i k = 0
theorem here_mem {F : Mx} {c lo a : Nat} (h : a ∈ hereL F c lo) : lo ≤ a ∧ a < F.length ∧ en F a c ≠ 0 := by
  unfold hereL at h
  rw [List.mem_filter, List.mem_range'_1] at h
  exact ⟨h.1.1, by omega, by simpa using h.2⟩
theorem here_nil {F : Mx} {c lo : Nat} (h : hereL F c lo = []) {i : Nat} (h1 : lo ≤ i) (h2 : i < F.length) : en F i c = 0 := by
  unfold hereL at h
  rw [List.filter_eq_nil_iff] at h
  have := h i (List.mem_range'_1.mpr ⟨h1, by omega⟩)
  simpa using this
theorem getD_snoc {S : List Nat} {c k : Nat} : (S ++ [c]).getD k 0 = if k < S.length then S.getD k 0 else if k = S.length then c else 0 := by
  rw [List.getD_eq_getElem?_getD, List.getD_eq_getElem?_getD, List.getElem?_append]
  by_cases h : k < S.length
  · rw [if_pos h, if_pos h]
  · rw [if_neg h, if_neg h]
    by_cases e : k = S.length
    · subst e; simp
    · rw [if_neg e, List.getElem?_eq_none (by simp; omega)]; rfl
theorem sta_step {n : Nat} {F : Mx} {S : List Nat} {c : Nat} (w : Wd n F) (h : Sta F S c) : Wd n (stepE c F S).1 ∧ (stepE c F S).1.length = F.length ∧ Sta (stepE c F S).1 (stepE c F S).2 (c + 1) ∧ ∀ m x, Kills (stepE c F S).1 m x ↔ Kills F m x := by
  unfold stepE
  split
  · rename_i e
    refine ⟨w, rfl, ⟨h.le, fun k hk => Nat.lt_succ_of_lt (h.lt k hk), h.inc, h.one, h.zero, fun i k h1 h2 h3 => ?_, h.ahead⟩, fun m x => Iff.rfl⟩
    by_cases hk : k = c
    · subst hk; exact here_nil e h1 h2
    · exact h.low i k h1 h2 (by omega)
  · rename_i a r e
    obtain ⟨a1, a2, a3⟩ := here_mem (show a ∈ hereL F c S.length by rw [e]; exact List.mem_cons_self ..)
    have hp : S.length < F.length := by omega
    have aS : ∀ k, k < S.length → en F a (S.getD k 0) = 0 := fun k hk => h.zero a k hk a2 (by omega)
    have pS : ∀ k, k < S.length → en F S.length (S.getD k 0) = 0 := fun k hk => h.zero _ k hk hp (by omega)
    refine ⟨wd_elim w hp a2, elim_len, ⟨by rw [elim_len, List.length_append, List.length_singleton]; exact hp, fun k hk => ?_, fun i k hik hk => ?_, fun k hk => ?_, fun i k hk hi ne => ?_, fun i k h1 h2 h3 => ?_, fun i k hi hk => ?_⟩, fun m x => kills_elim w hp a2 a3⟩
    · (rw [List.length_append, List.length_singleton] at hk)
      rw [getD_snoc]
      by_cases e1 : k < S.length
      · rw [if_pos e1]; exact Nat.lt_succ_of_lt (h.lt k e1)
      · rw [if_neg e1, if_pos (by omega)]; omega
    · (rw [List.length_append, List.length_singleton] at hk)
      rw [getD_snoc, getD_snoc, if_pos (show i < S.length by omega)]
      by_cases e1 : k < S.length
      · rw [if_pos e1]; exact h.inc i k hik e1
      · rw [if_neg e1, if_pos (by omega)]; exact h.lt i (by omega)
    · (rw [List.length_append, List.length_singleton] at hk)
      rw [getD_snoc]
      by_cases e1 : k < S.length
      · rw [if_pos e1, en_elim w hp a2 (show k < F.length by omega), if_neg (by omega), if_neg (by omega), if_neg (by omega), aS k e1, h.one k e1]
        grind
      · rw [if_neg e1, if_pos (by omega), en_elim w hp a2 (show k < F.length by omega), if_pos (by omega)]
        grind
    · (rw [List.length_append, List.length_singleton] at hk)
      rw [elim_len] at hi
      rw [getD_snoc]
      by_cases e1 : k < S.length
      · rw [if_pos e1, en_elim w hp a2 hi, aS k e1]
        by_cases e2 : i = S.length
        · rw [if_pos e2]; grind
        · rw [if_neg e2]
          by_cases e3 : i = a
          · rw [if_pos e3, if_pos e3, pS k e1]; grind
          · rw [if_neg e3, if_neg e3, h.zero i k e1 hi ne]; grind
      · rw [if_neg e1, if_pos (by omega), en_elim w hp a2 hi, if_neg (by omega)]
        grind
    · rw [List.length_append, List.length_singleton] at h1
      rw [elim_len] at h2
      rw [en_elim w hp a2 h2, if_neg (by omega)]
      by_cases hk : k = c
      · subst hk; grind
      · have z1 : en F a k = 0 := h.low a k a1 a2 (by omega)
        rw [z1]
        by_cases e3 : i = a
        · rw [if_pos e3, if_pos e3, h.low S.length k (by omega) hp (by omega)]; grind
        · rw [if_neg e3, if_neg e3, h.low i k (by omega) h2 (by omega)]; grind
    · rw [List.length_append, List.length_singleton] at hi
      rw [getD_snoc] at hk
      by_cases e1 : i < S.length
      · rw [if_pos e1] at hk
        have hc := h.lt i e1
        rw [en_elim w hp a2 (show i < F.length by omega), if_neg (by omega), if_neg (by omega), if_neg (by omega), h.ahead i k e1 hk, h.low a k a1 a2 (by omega)]
        grind
      · rw [if_neg e1, if_pos (by omega)] at hk
        rw [en_elim w hp a2 (show i < F.length by omega), if_pos (by omega), h.low a k a1 a2 hk]
        grind
theorem sta_run {n : Nat} : ∀ (m c : Nat) {F : Mx} {S : List Nat}, Wd n F → Sta F S c → Wd n (stairsE m c F S).1 ∧ (stairsE m c F S).1.length = F.length ∧ Sta (stairsE m c F S).1 (stairsE m c F S).2 (c + m) ∧ ∀ k x, Kills (stairsE m c F S).1 k x ↔ Kills F k x
  | 0, c, F, S, w, h => ⟨w, rfl, h, fun _ _ => Iff.rfl⟩
  | m + 1, c, F, S, w, h => by
    obtain ⟨a1, a2, a3, a4⟩ := sta_step w h
    obtain ⟨b1, b2, b3, b4⟩ := sta_run m (c + 1) a1 a3
    refine ⟨b1, b2.trans a2, ?_, fun k x => (b4 k x).trans (a4 k x)⟩
    rw [show c + (m + 1) = c + 1 + m from by omega]
    exact b3
theorem sta_nil {F : Mx} : Sta F [] 0 := ⟨Nat.zero_le _, fun k h => by simp at h, fun i k _ h => by simp at h, fun k h => by simp at h, fun i k h => by simp at h, fun i k _ _ h => by omega, fun i k h => by simp at h⟩
/-- rows with a number more each -/
def extE (A : Mx) (r : List Rat) : Mx := List.zipWith (fun row x => row ++ [x]) A r
def putAll : Mx → List Nat → Nat → List Rat → List Rat
  | r :: F, c :: S, n, l => putAll F S n (l.set c (cf r n))
  | _, _, _, l => l
def Sol (A : Mx) (r : List Rat) (n : Nat) (x : Nat → Rat) : Prop := ∀ i, i < A.length → dotR (rw' A i) x n = cf r i
def xt (n : Nat) (x : Nat → Rat) : Nat → Rat := fun k => if k < n then x k else -1
def badE (F : Mx) (S : List Nat) (n : Nat) : Mx := (F.drop S.length).filter fun r => decide (cf r n ≠ 0)
def anyE (A : Mx) (r : List Rat) (n : Nat) : Option (List Rat) :=
  match badE (stairsE n 0 (extE A r) []).1 (stairsE n 0 (extE A r) []).2 n with
  | [] => some (putAll (stairsE n 0 (extE A r) []).1 (stairsE n 0 (extE A r) []).2 n (List.replicate n 0))
  | _ => none
theorem cf_set' (l : List Rat) (k : Nat) (x : Rat) (j : Nat) : cf (l.set k x) j = if j = k ∧ k < l.length then x else cf l j := by
  unfold cf
  rw [List.getD_eq_getElem?_getD, List.getD_eq_getElem?_getD, List.getElem?_set]
  by_cases e : j = k
  · subst e
    by_cases h : j < l.length
    · simp [h]
    · simp [h, List.getElem?_eq_none (show l.length ≤ j by omega)]
  · rw [if_neg (fun z => e z.symm), if_neg (fun z => e z.1)]
theorem putAll_len : ∀ (F : Mx) (S : List Nat) (n : Nat) (l : List Rat), (putAll F S n l).length = l.length
  | r :: F, c :: S, n, l => by rw [putAll, putAll_len F S n, List.length_set]
  | [], _, _, _ => rfl
  | _ :: _, [], _, _ => rfl
theorem putAll_out : ∀ (F : Mx) (S : List Nat) (n : Nat) (l : List Rat) (j : Nat), (∀ k, k < S.length → S.getD k 0 ≠ j) → cf (putAll F S n l) j = cf l j
  | r :: F, c :: S, n, l, j, h => by
    rw [putAll, putAll_out F S n _ j fun k hk => by have := h (k + 1) (by simpa using hk); simpa using this]
    rw [cf_set', if_neg]
    have := h 0 (by simp)
    rintro ⟨rfl, _⟩
    exact this rfl
  | [], _, _, _, _, _ => rfl
  | _ :: _, [], _, _, _, _ => rfl
theorem putAll_in : ∀ (F : Mx) (S : List Nat) (n : Nat) (l : List Rat) (i : Nat), S.length ≤ F.length → (∀ i k, i < k → k < S.length → S.getD i 0 < S.getD k 0) → (∀ k, k < S.length → S.getD k 0 < l.length) → i < S.length → cf (putAll F S n l) (S.getD i 0) = en F i n
  | r :: F, c :: S, n, l, 0, hl, hi, hs, h => by
    rw [putAll, putAll_out F S n _ _ fun k hk => by have := hi 0 (k + 1) (by omega) (by simpa using hk); simp at this ⊢; omega]
    rw [cf_set', if_pos ⟨rfl, by have := hs 0 (by simp); simpa using this⟩]
    rfl
  | r :: F, c :: S, n, l, i + 1, hl, hi, hs, h => by
    rw [putAll]
    have := putAll_in F S n (l.set c (cf r n)) i (by simpa using hl) (fun a b h1 h2 => by have := hi (a + 1) (b + 1) (by omega) (by simpa using h2); simpa using this) (fun k hk => by rw [List.length_set]; have := hs (k + 1) (by simpa using hk); simpa using this) (by simpa using h)
    exact this
  | [], c :: S, n, l, i, hl, _, _, _ => by simp at hl
  | _, [], _, _, _, _, _, _, h => by simp at h
theorem ext_len {A : Mx} {r : List Rat} (h : A.length = r.length) : (extE A r).length = A.length := by
  unfold extE
  rw [List.length_zipWith, h, Nat.min_self]
theorem cf_snoc {row : List Rat} {x : Rat} (k : Nat) : cf (row ++ [x]) k = if k < row.length then cf row k else if k = row.length then x else 0 := by
  unfold cf
  rw [List.getD_eq_getElem?_getD, List.getD_eq_getElem?_getD, List.getElem?_append]
  by_cases h : k < row.length
  · rw [if_pos h, if_pos h]
  · rw [if_neg h, if_neg h]
    by_cases e : k = row.length
    · subst e; simp
    · rw [if_neg e, List.getElem?_eq_none (by simp; omega)]; rfl
theorem rw_ext {A : Mx} {r : List Rat} (h : A.length = r.length) {i : Nat} (hi : i < A.length) : rw' (extE A r) i = rw' A i ++ [cf r i] := by
  rw [rw_get (by rw [ext_len h]; exact hi), rw_get hi, cf_get (by omega)]
  unfold extE
  rw [List.getElem_zipWith]
theorem wd_ext {n : Nat} {A : Mx} {r : List Rat} (h : A.length = r.length) (w : Wd n A) : Wd (n + 1) (extE A r) := fun q m => by
  obtain ⟨i, hi, rfl⟩ := mem_rw m
  rw [ext_len h] at hi
  rw [rw_ext h hi, List.length_append, w _ (rw_mem hi)]
  rfl
theorem dot_ext {n : Nat} {row : List Rat} {y : Rat} {x : Nat → Rat} (h : row.length = n) : dotR (row ++ [y]) (xt n x) (n + 1) = dotR row x n - y := by
  unfold dotR
  rw [sumN, cf_snoc, if_neg (by omega), if_pos h.symm]
  have e : sumN (fun k => cf (row ++ [y]) k * xt n x k) n = sumN (fun k => cf row k * x k) n := sumN_congr n fun i hi => by
    rw [cf_snoc, if_pos (by omega)]
    unfold xt
    rw [if_pos hi]
  rw [e]
  unfold xt
  rw [if_neg (by omega)]
  grind
theorem sol_kills {n : Nat} {A : Mx} {r : List Rat} (h : A.length = r.length) (w : Wd n A) {x : Nat → Rat} : Sol A r n x ↔ Kills (extE A r) (n + 1) (xt n x) := by
  rw [kills_iff, ext_len h]
  unfold Sol
  constructor
  · intro s i hi
    rw [rw_ext h hi, dot_ext (w _ (rw_mem hi)), s i hi]
    grind
  · intro s i hi
    have := s i hi
    rw [rw_ext h hi, dot_ext (w _ (rw_mem hi))] at this
    grind
theorem any_none {n : Nat} {A : Mx} {r : List Rat} (h : A.length = r.length) (w : Wd n A) (e : anyE A r n = none) (x : Nat → Rat) : ¬ Sol A r n x := fun s => by
  obtain ⟨_, a2, a3, a4⟩ := sta_run n 0 (wd_ext h w) (sta_nil (F := extE A r))
  rw [Nat.zero_add] at a3
  have K := (a4 _ _).mpr ((sol_kills h w).mp s)
  unfold anyE at e
  split at e
  · cases e
  · rename_i hb
    obtain ⟨q, hq⟩ := List.exists_mem_of_ne_nil _ (fun z => hb z)
    unfold badE at hq
    rw [List.mem_filter] at hq
    have hm := List.mem_of_mem_drop hq.1
    obtain ⟨j, hj, eq⟩ := List.getElem_of_mem hq.1
    rw [List.getElem_drop] at eq
    have hj2 : (stairsE n 0 (extE A r) []).2.length + j < (stairsE n 0 (extE A r) []).1.length := by rw [List.length_drop] at hj; omega
    have hd := K q hm
    unfold dotR at hd
    rw [sumN, sumN_zero n fun i hi => ?_] at hd
    · unfold xt at hd
      rw [if_neg (by omega)] at hd
      have := hq.2
      simp at this
      grind
    · have := a3.low _ i (Nat.le_add_right _ j) hj2 hi
      unfold en at this
      rw [rw_get hj2, eq] at this
      rw [this, Rat.zero_mul]
theorem any_some {n : Nat} {A : Mx} {r x : List Rat} (h : A.length = r.length) (w : Wd n A) (e : anyE A r n = some x) : x.length = n ∧ Sol A r n (cf x) := by
  obtain ⟨_, a2, a3, a4⟩ := sta_run n 0 (wd_ext h w) (sta_nil (F := extE A r))
  rw [Nat.zero_add] at a3
  unfold anyE at e
  split at e
  · rename_i hb
    cases e
    refine ⟨by rw [putAll_len, List.length_replicate], (sol_kills h w).mpr ((a4 _ _).mp (kills_iff.mpr fun i hi => ?_))⟩
    generalize (stairsE n 0 (extE A r) []).1 = F at *
    generalize (stairsE n 0 (extE A r) []).2 = S at *
    have hl : ∀ k, k < S.length → S.getD k 0 < (List.replicate n (0 : Rat)).length := fun k hk => by rw [List.length_replicate]; exact a3.lt k hk
    have hin := fun i hi => putAll_in F S n (List.replicate n 0) i a3.le a3.inc hl hi
    have hout := fun j hj => (putAll_out F S n (List.replicate n 0) j hj).trans (cf_rep n j)
    generalize putAll F S n (List.replicate n 0) = x at *
    unfold dotR
    rw [sumN]
    rw [show xt n (cf x) n = -1 from if_neg (by omega)]
    by_cases hS : i < S.length
    · rw [sumN_single (k := S.getD i 0) n (a3.lt i hS) fun j hj ne => ?_]
      · have h1 := a3.one i hS
        unfold en at h1
        rw [h1]
        unfold xt
        rw [if_pos (a3.lt i hS), hin i hS]
        unfold en
        grind
      · unfold xt
        rw [if_pos hj]
        by_cases hx : ∃ k, k < S.length ∧ S.getD k 0 = j
        · obtain ⟨k, hk, rfl⟩ := hx
          have := a3.zero i k hk hi (fun z => ne (by rw [z]))
          unfold en at this
          rw [this, Rat.zero_mul]
        · rw [hout j fun k hk z => hx ⟨k, hk, z⟩, Rat.mul_zero]
    · rw [sumN_zero n fun j hj => ?_]
      · have hz : cf (rw' F i) n = 0 := by
          unfold badE at hb
          rw [List.filter_eq_nil_iff] at hb
          have hm : rw' F i ∈ F.drop S.length := by
            rw [rw_get hi]
            have : i - S.length < (F.drop S.length).length := by rw [List.length_drop]; omega
            have e := List.getElem_drop (xs := F) (i := S.length) (j := i - S.length) (h := this)
            have e2 : F[S.length + (i - S.length)]'(by omega) = F[i] := by congr 1; omega
            rw [← e2, ← e]
            exact List.getElem_mem this
          have := hb _ hm
          simpa using this
        rw [hz]
        grind
      · have := a3.low i j (by omega) hi hj
        unfold en at this
        rw [this, Rat.zero_mul]
  · cases e
end Tw

namespace Tw
open PySem
open PySem.Spec PyProof.Rows L2
section
variable {X : Cx} {own : List Nat} {a b : Expr} {ra rb : TR} {x y : Str} {px py pt pos : Pos} {kt k2 pt2}
/-- xs, ys = [..], [..], by way of a pair -/
theorem st_asgFF (i j : Nat) (hc : X.calm = true) (hN : X.N.Nodup) (ha : PFt X own a ra) (hb : PFt X own b rb) (hi : X.N[i]? = some x := by rfl) (hj : X.N[j]? = some y := by rfl) (hij : i ≠ j := by decide)
    (hx : Loc X.env.scope x := by first | exact Or.inl rfl | exact Or.inr rfl) (hy : Loc X.env.scope y := by first | exact Or.inl rfl | exact Or.inr rfl) (ho1 : own.contains i = true := by rfl) (ho2 : own.contains j = true := by rfl)
    (hw : swappedStores [.Tuple [.Name x px, .Name y py] kt pt] (.Tuple [a, b] k2 pt2) X.env = pure none := by rfl)
    (hs : swapsWithSole [.Tuple [.Name x px, .Name y py] kt pt] (.Tuple [a, b] k2 pt2) pos.line X.env = pure false := by rfl)
    (h1 : starEach [a, b] X.env = (false, eval a X.env) :: starEach [b] X.env := by rfl) (h2 : starEach [b] X.env = (false, eval b X.env) :: starEach [] X.env := by rfl)
    (e1 : (assignEach [.Tuple [.Name x px, .Name y py] kt pt] X.env).map (·.2) = [assign (.Tuple [.Name x px, .Name y py] kt pt) X.env] := by rfl)
    (e2 : (assignEach [.Name x px, .Name y py] X.env).length = 2 := by rfl) (e3 : (assignEach [.Name x px, .Name y py] X.env).findIdx? (·.1) = none := by rfl)
    (e4 : (assignEach [.Name x px, .Name y py] X.env).map (·.2) = assign (.Name x px) X.env :: (assignEach [.Name y py] X.env).map (·.2) := by rfl)
    (e5 : (assignEach [.Name y py] X.env).map (·.2) = assign (.Name y py) X.env :: (assignEach [] X.env).map (·.2) := by rfl)
    (f1 : X.fn x = true ∨ X.env.scope.names.lookup x = some .local := by first | exact .inl rfl | exact .inr rfl) (f2 : X.fn y = true ∨ X.env.scope.names.lookup y = some .local := by first | exact .inl rfl | exact .inr rfl) :
    PSt X own (.Assign [.Tuple [.Name x px, .Name y py] kt pt] (.Tuple [a, b] k2 pt2) pos) (sPar i j ra rb) := by
  refine ⟨fun F => psImp (ps_asg (pe_tup (pa_cons ha.pe (pa_cons hb.pe pa_nil h2) h1)) (pg_tup hc (pgs_cons (pg_name hN hi hx f1) (pgs_cons (pg_name hN hj hy f2) pgs_nil e5) e4) e2 e3) hs hw e1) fun D σ H h => ?_⟩
  obtain ⟨W, env, Dt, R, h, k⟩ := h
  refine ⟨W, F.Z0, env, _, R.e, h, fun u hu q xs ts H1 W1 e s1 hn hq hw1 p => ?_⟩
  subst e
  refine ⟨W1, _, env, _, R.e.addZ hn s1 ⟨_, hq⟩, hu, fun w hw2 q2 xs2 ts2 H2 W2 e s2 hn2 hq2 hw22 p2 => ⟨by show 2 ≤ sizeLine; decide, fun r hr => ?_⟩⟩
  subst e
  have s3 : Step W2 H2 W2 (upd H2 r (.tup [.ref q, .ref q2])) := Step.put s2.ok hr
  obtain ⟨R3, t3⟩ := R.setOwn s1 hn ho1 hq hw1 p
  obtain ⟨R4, t4⟩ := R3.setOwn s2 hn2 ho2 hq2 hw22 (p2.mono fun c z => by
    rcases z with z | z
    · exact .inl (ZZ.put c z)
    · exact .inr z)
  refine ⟨r, [.ref q, .ref q2], rfl, .inl (.inl upd_same), rfl, _, _, rfl, _, _, rfl, rfl, ?_⟩
  exact k.nx _ hw2 _ _ _ (R4.step s3) ((t3.trans t4).trans s3.so.wid)
/-- xs[a], xs[b] = e, e' -/
def sSwap (i : Nat) (ri rj ra rb : TR) : TSt := fun D env => ra env fun u => rb env fun w => ∃ ts, env[i]? = some (some (.lst ts)) ∧ ri env fun k => ∃ kk m, k = .int kk ∧ ixN ts.length kk = some m ∧
  rj (env.set i (some (.lst (ts.set m u)))) fun l => ∃ ll n, l = .int ll ∧ ixN ts.length ll = some n ∧ D.nx ((env.set i (some (.lst (ts.set m u)))).set i (some (.lst ((ts.set m u).set n w))))
theorem after_chgR {F : FrD} {W W' : Addr → Prop} {env : TEnv} {σ : L2.St} {H H' : Hp} {i : Nat} {a : Addr} {xs0 xs : List V} {ts : List T} (R : RelS X.K own F W env σ H) (ho : own.contains i = true)
    (s : Step W H W' H') (hs : σ[i]? = some (some (.ref a))) (ha : H' a = some (.lst xs0)) (hw : ¬ W' a) (hz : ¬ F.Z0 a) (p : RpA X.K W' (ZZ own σ F.Z0 true) H' xs ts) :
    RelS X.K own F W' (env.set i (some (.lst ts))) σ (upd H' a (.lst xs)) ∧ StepO W (Ow own σ) H W' (Ow own σ) (upd H' a (.lst xs)) := by
  have R1 := R.step s
  have R2 := R1.e.chgOwn ho hs ha hw hz p
  have hOa : Ow own σ a := ⟨i, List.contains_iff_mem.mp ho, hs⟩
  have s2 : StepO W' (Ow own σ) H' W' (Ow own σ) (upd H' a (.lst xs)) := by
    refine ⟨fun b o h _ n => ?_, fun _ h => h, fun _ h => .inl h, fun _ h => .inl h, fun b o h => ?_⟩
    · rw [upd_ne (fun z => n (by rw [z]; exact hOa))]; exact h
    · by_cases z : b = a
      · subst z; exact ⟨_, upd_same⟩
      · exact ⟨o, by rw [upd_ne z]; exact h⟩
  exact ⟨⟨R2, R1.s.trans s2⟩, s.so.wid.trans s2⟩
variable {ei ej : Expr} {ri rj : TR} {p1 p2 q1 q2 p3 p4 : Pos} {c1 t1 c2 t2 : Bool}
theorem st_swap (i : Nat) (hc : X.calm = true) (hN : X.N[i]? = some x) (hv : Vis X.env.scope x) (ho : own.contains i = true) (hi : PEt X own c1 t1 ei ri) (hj : PEt X own c2 t2 ej rj) (ha : PEt X own true true a ra) (hb : PEt X own true true b rb)
    (hw : swappedStores [.Tuple [.Subscript (.Name x p1) ei p2, .Subscript (.Name x q1) ej q2] kt pt] (.Tuple [a, b] k2 pt2) X.env = pure none := by rfl)
    (hs : swapsWithSole [.Tuple [.Subscript (.Name x p1) ei p2, .Subscript (.Name x q1) ej q2] kt pt] (.Tuple [a, b] k2 pt2) pos.line X.env = pure false := by rfl)
    (h1 : starEach [a, b] X.env = (false, eval a X.env) :: starEach [b] X.env := by rfl) (h2 : starEach [b] X.env = (false, eval b X.env) :: starEach [] X.env := by rfl)
    (e1 : (assignEach [.Tuple [.Subscript (.Name x p1) ei p2, .Subscript (.Name x q1) ej q2] kt pt] X.env).map (·.2) = [assign (.Tuple [.Subscript (.Name x p1) ei p2, .Subscript (.Name x q1) ej q2] kt pt) X.env] := by rfl)
    (e2 : (assignEach [.Subscript (.Name x p1) ei p2, .Subscript (.Name x q1) ej q2] X.env).length = 2 := by rfl) (e3 : (assignEach [.Subscript (.Name x p1) ei p2, .Subscript (.Name x q1) ej q2] X.env).findIdx? (·.1) = none := by rfl)
    (e4 : (assignEach [.Subscript (.Name x p1) ei p2, .Subscript (.Name x q1) ej q2] X.env).map (·.2) = assign (.Subscript (.Name x p1) ei p2) X.env :: (assignEach [.Subscript (.Name x q1) ej q2] X.env).map (·.2) := by rfl)
    (e5 : (assignEach [.Subscript (.Name x q1) ej q2] X.env).map (·.2) = assign (.Subscript (.Name x q1) ej q2) X.env :: (assignEach [] X.env).map (·.2) := by rfl)
    (hsub : ∀ v, assign (.Subscript (.Name x p1) ei p2) X.env v = (do
      let ov ← holding [v] (eval (.Name x p1) X.env)
      let iv ← holding [v, ov] (eval ei X.env)
      standAt p2; holding [v, ov, iv] (setItem ov iv v)
      release [v, ov, iv] []) := by intro _; rfl)
    (hsub2 : ∀ v, assign (.Subscript (.Name x q1) ej q2) X.env v = (do
      let ov ← holding [v] (eval (.Name x q1) X.env)
      let iv ← holding [v, ov] (eval ej X.env)
      standAt q2; holding [v, ov, iv] (setItem ov iv v)
      release [v, ov, iv] []) := by intro _; rfl) (hd : (x == ("__debug__" : Str)) = false := by decide) (hcd : (x == ("__classdict__" : Str)) = false := by decide) :
    PSt X own (.Assign [.Tuple [.Subscript (.Name x p1) ei p2, .Subscript (.Name x q1) ej q2] kt pt] (.Tuple [a, b] k2 pt2) pos) (sSwap i ri rj ra rb) := by
  refine ⟨fun F => psImp (ps_asg (pe_tup (pa_cons ha.pe (pa_cons hb.pe pa_nil h2) h1)) (pg_tup hc (pgs_cons (pg_sub (pe_var hN hv hd hcd) hi.pe set_list hsub) (pgs_cons (pg_sub (pe_var hN hv hd hcd) hj.pe set_list hsub2) pgs_nil e5) e4) e2 e3) hs hw e1) fun D σ H h => ?_⟩
  obtain ⟨W, env, Dt, R, h, k⟩ := h
  refine ⟨W, F.Z0, env, _, R.e, h, fun u hu v H1 W1 s1 r1 => ⟨W1, F.Z0, env, _, R.e.step s1, hu, fun w hw2 v2 H2 W2 s2 r2 => ⟨by show 2 ≤ sizeLine; decide, fun r hr => ?_⟩⟩⟩
  have s3 : Step W2 H2 W2 (upd H2 r (.tup [v, v2])) := Step.put s2.ok hr
  obtain ⟨ts, et, hu3⟩ := hw2
  have S3 := (s1.trans s2).trans s3
  have v1 : Rp X.K W2 (ZZ own σ F.Z0 true) (upd H2 r (.tup [v, v2])) v u := (r1.rp.step s1.ok s2).step s2.ok s3
  have w1 : Rp X.K W2 (ZZ own σ F.Z0 true) (upd H2 r (.tup [v, v2])) v2 w := r2.rp.step s2.ok s3
  refine ⟨r, [v, v2], rfl, .inl (.inl upd_same), rfl, _, _, rfl, ?_⟩
  have R1 := R.step S3
  obtain ⟨q, xs0, ts0, g1, g2, _, _, _, _⟩ := R1.e.ow i _ et (List.contains_iff_mem.mp ho)
  cases g2
  refine ⟨_, g1, W2, F.Z0, env, _, R1.e, hu3, fun kv hk v3 H3 W3 t3 p3 => ?_⟩
  obtain ⟨kk, m, rfl, hm, hn⟩ := hk
  cases p3
  obtain ⟨q', xs, ts1, g1', g2', g3, g4, g5, g6⟩ := (R1.e.step t3).ow i _ et (List.contains_iff_mem.mp ho)
  cases g2'
  rw [g1] at g1'
  cases g1'
  refine ⟨q, xs, kk, m, rfl, rfl, g3, by rw [g6.length]; exact hm, ?_⟩
  have v3 := v1.step s3.ok t3
  have w3 := w1.step s3.ok t3
  obtain ⟨R4, S4⟩ := after_chgR R ho (S3.trans t3) g1 g3 g4 g5 (g6.set v3 m)
  have hzq : ZZ own σ F.Z0 true q := .inr ⟨rfl, i, List.contains_iff_mem.mp ho, g1⟩
  have w4 : Rp X.K W3 (ZZ own σ F.Z0 true) (upd H3 q (.lst (xs.set m v))) v2 w := Rp.chg g3 g4 hzq w3
  have li : i < env.length := by
    rcases Nat.lt_or_ge i env.length with z | z
    · exact z
    · rw [List.getElem?_eq_none z] at et; cases et
  have et4 : (env.set i (some (T.lst (ts.set m u))))[i]? = some (some (.lst (ts.set m u))) := List.getElem?_set_self li
  refine ⟨_, _, rfl, ?_⟩
  refine ⟨_, g1, W3, F.Z0, _, _, R4.e, hn, fun lv hl v5 H5 W5 t5 p5 => ?_⟩
  obtain ⟨ll, n, rfl, hm5, hn5⟩ := hl
  cases p5
  obtain ⟨q', ys, ts5, f1, f2, f3, f4, f5, f6⟩ := (R4.e.step t5).ow i _ et4 (List.contains_iff_mem.mp ho)
  cases f2
  rw [g1] at f1
  cases f1
  refine ⟨q, ys, ll, n, rfl, rfl, f3, by rw [f6.length, List.length_set]; exact hm5, rfl, ?_⟩
  obtain ⟨R6, S6⟩ := after_chgR R4 ho t5 g1 f3 f4 f5 (f6.set (w4.step R4.e.wok t5) n)
  exact k.nx _ hn5 _ _ _ R6 (S4.trans S6)
end
end Tw
namespace Tw
open PySem
open PySem.Spec PyProof.Rows L2
/-- a block within a block sees names of the outer one -/
def relS (sc o : Scope) : Scope := { sc with names := sc.names.map fun (n, k) => if (k == .free && o.kind == .function && o.names.lookup n == some .cell) then (n, .cell) else (n, k) }
theorem blkC_re {N : List Str} {sc o inner : Scope} {env : Env} {own : List (Str × Nat)} (e : env.scope = o) (h : blkC N (relS sc o) inner own = true) : blkC N (relabel sc env) inner own = true := by
  subst e; exact h
end Tw
namespace Tw
open PySem
open PySem.Spec PyProof.Rows L2
section
variable {X : Cx}
/-- x in a list -/
structure InOk (x : T) (ts : List T) : Prop where
  dx : x.data = true
  ds : datas ts = true
  sx : SeqAt.shaped x.toD = true
  ss : SeqAt.shaped (.list (toDs ts)) = true
def inT (x : T) : List T → Bool
  | [] => false
  | t :: ts => PyData.eqv t.toD x.toD || inT x ts
def oIn (x y : T) (Q : T → Prop) : Prop := ∃ ts, (y = .lst ts ∨ y = .tup ts) ∧ InOk x ts ∧ Q (.bl (inT x ts))
def oNotIn (x y : T) (Q : T → Prop) : Prop := ∃ ts, (y = .lst ts ∨ y = .tup ts) ∧ InOk x ts ∧ Q (.bl (!inT x ts))
theorem inT_any (x : T) : ∀ ts : List T, ((toDs ts).any fun z => PyData.eqv z x.toD) = inT x ts
  | [] => by simp [toDs, inT]
  | t :: ts => by simp [toDs, inT, inT_any x ts]
theorem o_in (hu : X.A.units + 65 < cLine) : OpR X (compareOp .In) (tR2 X.K oIn) := by
  intro pins s σ H x y
  intro v u Q I rx ry h
  obtain ⟨W, Zt, Zc, tx, ty, Qt, w, zx, p1, p2, ⟨ts, et, e, h⟩, k⟩ := h
  have fin := k _ h _ H W (.refl w) (.of (.bl _))
  rw [← inT_any] at fin
  rcases et with rfl | rfl
  · exact op_inD hu pins s σ H x y v u Q I rx ry ⟨_, toDs ts, p1.weak.dp e.dx, p2.weak.dp (by simpa [T.data] using e.ds), e.sx, e.ss, fin⟩
  · obtain ⟨as, r1⟩ := Dp.reads I _ x v (p1.weak.dp e.dx) rx
    obtain ⟨bs, r2⟩ := Dp.reads I (.tuple (toDs ts)) y u (p2.weak.dp (by simpa [T.data] using e.ds)) ry
    exact SeqAt.in_tuple_reads r2 r1 (SeqAt.canLay_of_shaped e.ss) (SeqAt.canLay_of_shaped e.sx) (room_in_shaped e.sx hu) ⟨.bl _, H, I, rfl, fin⟩
theorem o_notIn (hu : X.A.units + 65 < cLine) : OpR X (compareOp .NotIn) (tR2 X.K oNotIn) := by
  intro pins s σ H x y
  intro v u Q I rx ry h
  obtain ⟨W, Zt, Zc, tx, ty, Qt, w, zx, p1, p2, ⟨ts, et, e, h⟩, k⟩ := h
  have fin := k _ h _ H W (.refl w) (.of (.bl _))
  rw [← inT_any] at fin
  rcases et with rfl | rfl
  · exact op_notInD hu pins s σ H x y v u Q I rx ry ⟨_, toDs ts, p1.weak.dp e.dx, p2.weak.dp (by simpa [T.data] using e.ds), e.sx, e.ss, fin⟩
  · obtain ⟨as, r1⟩ := Dp.reads I _ x v (p1.weak.dp e.dx) rx
    obtain ⟨bs, r2⟩ := Dp.reads I (.tuple (toDs ts)) y u (p2.weak.dp (by simpa [T.data] using e.ds)) ry
    exact SeqAt.notIn_tuple_reads r2 r1 (SeqAt.canLay_of_shaped e.ss) (SeqAt.canLay_of_shaped e.sx) (room_in_shaped e.sx hu) ⟨.bl _, H, I, rfl, fin⟩
end
end Tw
namespace Tw
open PySem
open PySem.Spec PyProof.Rows L2
theorem units65 {k : Nat} {A : Around} (r : Room k A) : A.units + 65 < cLine := by have := r.un; omega
end Tw

namespace Tw
open PySem
open PySem.Spec PyProof.Rows L2
def tM (A : Mx) : T := .tup (A.map tP)
def lM (A : Mx) : T := .lst (A.map tP)
def totL (p : List Rat) : Rat := p.foldl (· + ·) 0
def dotL (p q : List Rat) : Rat := totL (List.zipWith (· * ·) p q)
theorem fold_add (p : List Rat) : ∀ y : Rat, p.foldl (· + ·) y = y + p.foldl (· + ·) 0 := by
  induction p with
  | nil => intro y; simp [Rat.add_zero]
  | cons x p ih => intro y; rw [List.foldl_cons, List.foldl_cons, ih (y + x), ih (0 + x)]; grind
theorem totL_nil : totL [] = 0 := rfl
theorem totL_cons (x : Rat) (p : List Rat) : totL (x :: p) = x + totL p := by unfold totL; rw [List.foldl_cons, fold_add, Rat.zero_add]
theorem totL_app (p q : List Rat) : totL (p ++ q) = totL p + totL q := by
  induction p with
  | nil => rw [List.nil_append, totL_nil, Rat.zero_add]
  | cons x p ih => rw [List.cons_append, totL_cons, totL_cons, ih]; grind
theorem totL_sum (p : List Rat) : totL p = sumN (cf p) p.length := by
  induction p with
  | nil => rfl
  | cons x p ih =>
    rw [totL_cons, List.length_cons, sumN_front, cf_zero, ih]
    rfl
theorem cf_zipMul {p q : List Rat} (h : p.length = q.length) (k : Nat) : cf (List.zipWith (· * ·) p q) k = cf p k * cf q k := by
  unfold cf
  rw [List.getD_eq_getElem?_getD, List.getD_eq_getElem?_getD, List.getD_eq_getElem?_getD, List.getElem?_zipWith]
  by_cases hk : k < p.length
  · rw [List.getElem?_eq_getElem hk, List.getElem?_eq_getElem (by omega)]; rfl
  · rw [List.getElem?_eq_none (by omega), List.getElem?_eq_none (by omega)]
    show (0 : Rat) = 0 * 0
    grind
theorem dotL_dot {p q : List Rat} {n : Nat} (hp : p.length = n) (hq : q.length = n) : dotL p q = dotR p (cf q) n := by
  unfold dotL dotR
  rw [totL_sum, List.length_zipWith, hp, hq, Nat.min_self]
  exact sumN_congr n fun i _ => cf_zipMul (by omega) i
theorem dotR_comm {p q : List Rat} {n : Nat} : dotR p (cf q) n = dotR q (cf p) n := sumN_congr n fun i _ => Rat.mul_comm _ _
theorem totL_sz {b : Nat} : ∀ {p : List Rat}, SzL b p → Sz (1 + p.length * (b + 1)) (totL p)
  | [], _ => Sz.zero (by omega)
  | x :: p, h => by
    have h1 := (h x (List.mem_cons_self ..))
    have h2 := totL_sz (p := p) fun y m => h y (List.mem_cons_of_mem _ m)
    rw [totL_cons]
    refine (h1.add h2).mono ?_
    rw [List.length_cons, Nat.add_mul]
    omega
theorem SzL.zipMul {a b : Nat} {p q : List Rat} (hp : SzL a p) (hq : SzL b q) : SzL (a + b) (List.zipWith (· * ·) p q) := fun x m => by
  obtain ⟨i, hi, e⟩ := List.getElem_of_mem m
  rw [List.getElem_zipWith] at e
  rw [← e]
  exact (hp _ (List.getElem_mem _)).mul (hq _ (List.getElem_mem _))
theorem dotL_sz {a b : Nat} {p q : List Rat} (hp : SzL a p) (hq : SzL b q) : Sz (1 + p.length * (a + b + 1)) (dotL p q) := by
  refine (totL_sz (hp.zipMul hq)).mono ?_
  have : (List.zipWith (· * ·) p q).length * (a + b + 1) ≤ p.length * (a + b + 1) := Nat.mul_le_mul_right _ (by rw [List.length_zipWith]; omega)
  omega
theorem mulOk_l {i j : Int} (h1 : -(2 ^ 64) < i) (h2 : i < 2 ^ 64) : MulOk i j := IntMulOk.of_left (intBits_le_64 h1 h2)
theorem mulOk_r {i j : Int} (h1 : -(2 ^ 64) < j) (h2 : j < 2 ^ 64) : MulOk i j := IntMulOk.of_right (intBits_le_64 h1 h2)
def isBetween (v : T) (lo hi : Int) : Bool := match v with
  | .int i => decide (lo ≤ i) && decide (i ≤ hi)
  | _ => false
def isLine (v : T) (n : Int) : Bool := match v with
  | .tup ts => decide ((ts.length : Int) = n) && ts.all isQ
  | _ => false
theorem isLine_P {p : List Rat} : isLine (tP p) p.length = true := by
  show (decide (((tQs p).length : Int) = p.length) && (tQs p).all isQ) = true
  rw [all_isQ_Qs, tQs_len]
  simp
theorem isLine_ex {v : T} {n : Int} (h : isLine v n = true) : ∃ p : List Rat, v = tP p ∧ (p.length : Int) = n := by
  match v, h with
  | .tup ts, h =>
    simp only [isLine, Bool.and_eq_true, decide_eq_true_eq] at h
    obtain ⟨p, rfl⟩ := all_isQ h.2
    exact ⟨p, rfl, by rw [← h.1, tQs_len]⟩
/-- what a search for a row tells: any row that is so, none if there is none -/
def AnyQ (B : Nat) (Q : T → Prop) (n : Nat) (S : (Nat → Rat) → Prop) : Prop :=
  (∀ x : List Rat, x.length = n → SzL B x → S (cf x) → Q (tP x)) ∧ ((∀ x, ¬ S x) → Q .non)
/-- sizes of a table's numbers -/
def SzM (b : Nat) (A : Mx) : Prop := ∀ r, r ∈ A → SzL b r
theorem SzM.mono {a b : Nat} {A : Mx} (h : SzM a A) (l : a ≤ b) : SzM b A := fun r m => (h r m).mono l
theorem SzM.rw {b : Nat} {A : Mx} (h : SzM b A) {i : Nat} (hi : i < A.length) : SzL b (rw' A i) := h _ (rw_mem hi)
theorem Sz.inv {b : Nat} {x : Rat} (h : Sz b x) (h0 : x ≠ 0) : Sz b (1 / x) := by
  rw [← over_divInt 1 h0]
  refine sz_divInt (over_ne h0) ?_ ?_
  · show (1 * (x.den : Int)).natAbs < _
    rw [Int.one_mul]
    exact h.den
  · show (1 * x.num).natAbs < _
    rw [Int.one_mul]
    exact h.n
theorem SzM.swap {b : Nat} {A : Mx} (h : SzM b A) {i j : Nat} (hi : i < A.length) (hj : j < A.length) : SzM b (swapL A i j []) := fun r m => by
  obtain ⟨k, hk, rfl⟩ := mem_rw m
  rw [swap_len] at hk
  rw [rw_swap hi hj]
  split
  · exact h.rw hi
  · split
    · exact h.rw hj
    · exact h.rw hk
theorem SzL.subRow {a b c : Nat} {r l : List Rat} (hr : SzL a r) (hl : SzL b l) : SzL (2 * a + b + 2) (Tw.subRow l c r) := fun x m => by
  unfold Tw.subRow at m
  obtain ⟨i, hi, e⟩ := List.getElem_of_mem m
  rw [List.getElem_zipWith, List.getElem_map] at e
  rw [← e]
  exact ((hr _ (List.getElem_mem _)).sub ((hl _ (List.getElem_mem _)).mul (hr.cf c))).mono (by omega)
theorem SzM.elim {b n : Nat} {A : Mx} (h : SzM b A) (w : Wd n A) {p a c : Nat} (hp : p < A.length) (ha : a < A.length) (h0 : en A a c ≠ 0) : SzM (4 * b + 3) (Tw.elim A p a c) := fun r m => by
  obtain ⟨k, hk, rfl⟩ := mem_rw m
  rw [elim_len] at hk
  have hs := h.swap hp ha
  have e : en (swapL A p a []) p c = en A a c := by
    unfold en
    rw [rw_swap hp ha]
    by_cases e : p = a
    · rw [if_pos e, e]
    · rw [if_neg e, if_pos rfl]
  have hL : SzL (2 * b + 1) (leadOf (swapL A p a []) p c) := by
    unfold leadOf
    rw [e]
    refine SzL.mono (SzL.map (hs.rw (by rw [swap_len]; exact hp)) (Sz.inv (h := (?_ : Sz (b + 1) (en A a c))) h0)) (by omega)
    exact (h.rw ha).cf c
  rw [rw_elim w hp ha hk]
  split
  · exact hL.mono (by omega)
  · exact ((hs.rw (by rw [swap_len]; exact hk)).subRow hL).mono (by omega)
end Tw
namespace Tw
open PySem
open PySem.Spec PyProof.Rows L2
theorem wLc_Qs {g : T → TEnv → (TEnv → Prop) → Prop} {te : TR} {env : TEnv} (f : Rat → Rat) : ∀ (p : List Rat) (acc : List T) (Q : List T → Prop), (∀ y, y ∈ p → ∀ Q' : T → Prop, Q' (tQ (f y)) → g (tQ y) env fun env' => te env' Q') → Q (acc ++ tQs (p.map f)) → wLc g bYes te env (tQs p) acc Q
  | [], acc, Q, _, hq => by simpa [wLc, tQs] using hq
  | t :: ts, acc, Q, h, hq => by
    have := h t (List.mem_cons_self ..) (fun u => wLc g bYes te env (tQs ts) (acc ++ [u]) Q) (wLc_Qs f ts _ Q (fun t m => h t (List.mem_cons_of_mem _ m)) (by simpa [tQs] using hq))
    simpa [wLc, bYes, tQs] using this
theorem wLc_Qs2 {g : T → TEnv → (TEnv → Prop) → Prop} {te : TR} {env : TEnv} (f : Rat → Rat → Rat) : ∀ (p q : List Rat) (acc : List T) (Q : List T → Prop), (∀ x y, x ∈ p → y ∈ q → ∀ Q' : T → Prop, Q' (tQ (f x y)) → g (.tup [tQ x, tQ y]) env fun env' => te env' Q') → Q (acc ++ tQs (List.zipWith f p q)) → wLc g bYes te env (ziT (tQs p) (tQs q)) acc Q
  | [], q, acc, Q, _, hq => by cases q <;> simpa [wLc, tQs, ziT] using hq
  | _ :: _, [], acc, Q, _, hq => by simpa [wLc, tQs, ziT] using hq
  | t :: ts, u :: us, acc, Q, h, hq => by
    have := h t u (List.mem_cons_self ..) (List.mem_cons_self ..) (fun z => wLc g bYes te env (ziT (tQs ts) (tQs us)) (acc ++ [z]) Q) (wLc_Qs2 f ts us _ Q (fun x y m1 m2 => h x y (List.mem_cons_of_mem _ m1) (List.mem_cons_of_mem _ m2)) (by simpa [tQs] using hq))
    simpa [wLc, bYes, tQs, ziT] using this
end Tw
namespace Tw
open PySem
open PySem.Spec PyProof.Rows L2
theorem wLc_mapG {α : Type} (e f : α → T) {g : T → TEnv → (TEnv → Prop) → Prop} {te : TR} {env : TEnv} : ∀ (l : List α) (acc : List T) (Q : List T → Prop), (∀ x, x ∈ l → ∀ Q' : T → Prop, Q' (f x) → g (e x) env fun env' => te env' Q') → Q (acc ++ l.map f) → wLc g bYes te env (l.map e) acc Q
  | [], acc, Q, _, hq => by simpa [wLc] using hq
  | t :: ts, acc, Q, h, hq => by
    have := h t (List.mem_cons_self ..) (fun u => wLc g bYes te env (ts.map e) (acc ++ [u]) Q) (wLc_mapG e f ts _ Q (fun t m => h t (List.mem_cons_of_mem _ m)) (by simpa using hq))
    simpa [wLc, bYes] using this
theorem wLc_filterG {α : Type} (e : α → T) (f : α → Bool) {g : T → TEnv → (TEnv → Prop) → Prop} {tt : TB} {te : TR} {env : TEnv} : ∀ (l : List α) (acc : List T) (Q : List T → Prop),
    (∀ x, x ∈ l → ∀ (Q1 : Prop) (Q' : T → Prop), (f x = true → Q' (e x)) → (f x = false → Q1) → g (e x) env fun env' => tt env' fun b => if b = true then te env' Q' else Q1) → Q (acc ++ (l.filter f).map e) → wLc g tt te env (l.map e) acc Q
  | [], acc, Q, _, hq => by simpa [wLc] using hq
  | t :: ts, acc, Q, h, hq => by
    have hr : ∀ u, u ∈ ts → _ := fun u m => h u (List.mem_cons_of_mem _ m)
    refine h t (List.mem_cons_self ..) _ _ (fun q => ?_) fun q => ?_
    · refine wLc_filterG e f ts _ Q hr ?_
      rw [List.filter_cons_of_pos q] at hq
      simpa using hq
    · refine wLc_filterG e f ts _ Q hr ?_
      rw [List.filter_cons_of_neg (by simp [q])] at hq
      exact hq
def tN (S : List Nat) : List T := S.map fun i => T.int (i : Nat)
theorem rgT_nat (a b : Nat) : rgT (a : Nat) (b : Nat) = tN (List.range' a (b - a)) := by
  unfold rgT tN
  rw [show ((b : Int) - (a : Int)).toNat = b - a from by omega, List.range'_eq_map_range, List.map_map]
  refine (List.map_congr_left fun i _ => ?_)
  show T.int (_ + _) = T.int _
  congr 1
theorem rgT_z (b : Nat) : rgT 0 (b : Nat) = tN (List.range b) := by
  have := rgT_nat 0 b
  rw [Nat.sub_zero, ← List.range_eq_range'] at this
  exact this
theorem tN_len (S : List Nat) : (tN S).length = S.length := List.length_map ..
theorem tN_at {S : List Nat} {k : Nat} (h : k < S.length) : atI (tN S) ((k : Nat) : Int) = some (.int (S.getD k 0 : Nat)) := by
  unfold tN
  rw [atI_k, List.getElem?_map, List.getD_eq_getElem?_getD, List.getElem?_eq_getElem h]
  rfl
theorem mx_at {A : Mx} {k : Nat} (h : k < A.length) : atI (A.map tP) ((k : Nat) : Int) = some (tP (rw' A k)) := by
  rw [atI_k, List.getElem?_map, rw_get h, List.getElem?_eq_getElem h]
  rfl
theorem Q_at {p : List Rat} {k : Nat} (h : k < p.length) : atI (tQs p) ((k : Nat) : Int) = some (tQ (cf p k)) := tQs_at h
end Tw
namespace Tw
theorem putAll_sz {c : Nat} : ∀ (F : Mx) (S : List Nat) (n : Nat) (l : List Rat), SzM c F → SzL (c + 1) l → SzL (c + 1) (putAll F S n l)
  | r :: F, k :: S, n, l, hF, hl => by
    rw [putAll]
    exact putAll_sz F S n _ (fun q m => hF q (List.mem_cons_of_mem _ m)) (hl.set ((hF r (List.mem_cons_self ..)).cf n))
  | [], _, _, _, _, hl => hl
  | _ :: _, [], _, _, _, hl => hl
end Tw
namespace Tw
open PySem
open PySem.Spec PyProof.Rows L2
/-- weights that tell -/
def WSol (A : Mx) (n : Nat) (x : Nat → Rat) : Prop := sumN x n = 1 ∧ ∀ r, r ∈ A → dotR r x n = 0
/-- multiples that make ones -/
def BSol (A : Mx) (n : Nat) (c : Nat → Rat) : Prop := ∀ k, k < n → sumN (fun j => en A j k * c j) A.length = 1
def colM (A : Mx) (k : Nat) : List Rat := A.map fun r => cf r k
def colsM (n : Nat) (A : Mx) : Mx := (List.range n).map (colM A)
theorem rw_cons (a : List Rat) (A : Mx) (i : Nat) : rw' (a :: A) (i + 1) = rw' A i := rfl
theorem rw_zero (a : List Rat) (A : Mx) : rw' (a :: A) 0 = a := rfl
theorem sol_cons {a : List Rat} {A : Mx} {y : Rat} {r : List Rat} {n : Nat} {x : Nat → Rat} : Sol (a :: A) (y :: r) n x ↔ dotR a x n = y ∧ Sol A r n x := by
  unfold Sol
  constructor
  · intro h
    exact ⟨h 0 (by simp), fun i hi => h (i + 1) (by simpa using hi)⟩
  · rintro ⟨h1, h2⟩ i hi
    cases i with
    | zero => exact h1
    | succ i => exact h2 i (by simpa using hi)
theorem sol_zero {A : Mx} {m n : Nat} {x : Nat → Rat} : Sol A (List.replicate m 0) n x ↔ ∀ r, r ∈ A → dotR r x n = 0 := by
  unfold Sol
  constructor
  · intro h r hr
    obtain ⟨i, hi, rfl⟩ := mem_rw hr
    rw [h i hi, cf_rep]
  · intro h i hi
    rw [h _ (rw_mem hi), cf_rep]
theorem cf_repl (n : Nat) (y : Rat) (k : Nat) : cf (List.replicate n y) k = if k < n then y else 0 := by
  unfold cf
  rw [List.getD_eq_getElem?_getD, List.getElem?_replicate]
  split <;> rfl
theorem dot_ones {n : Nat} {x : Nat → Rat} : dotR (List.replicate n 1) x n = sumN x n := sumN_congr n fun i hi => by
  rw [cf_repl, if_pos hi, Rat.one_mul]
theorem wsol_iff {A : Mx} {n : Nat} {x : Nat → Rat} : Sol (List.replicate n 1 :: A) (1 :: List.replicate A.length 0) n x ↔ WSol A n x := by
  rw [sol_cons, sol_zero, dot_ones]
  rfl
theorem colsM_len {n : Nat} {A : Mx} : (colsM n A).length = n := by unfold colsM; rw [List.length_map, List.length_range]
theorem rw_cols {n : Nat} {A : Mx} {k : Nat} (h : k < n) : rw' (colsM n A) k = colM A k := by
  rw [rw_get (by rw [colsM_len]; exact h)]
  unfold colsM
  rw [List.getElem_map, List.getElem_range]
theorem cf_col {A : Mx} {k j : Nat} (h : j < A.length) : cf (colM A k) j = en A j k := by
  rw [cf_get (by unfold colM; rw [List.length_map]; exact h)]
  unfold colM en
  rw [List.getElem_map, rw_get h]
theorem wd_cols {n : Nat} {A : Mx} : Wd A.length (colsM n A) := fun r m => by
  unfold colsM at m
  rw [List.mem_map] at m
  obtain ⟨k, _, rfl⟩ := m
  unfold colM
  rw [List.length_map]
theorem bsol_iff {A : Mx} {n : Nat} {c : Nat → Rat} : Sol (colsM n A) (List.replicate n 1) A.length c ↔ BSol A n c := by
  unfold Sol BSol
  rw [colsM_len]
  refine forall_congr' fun k => forall_congr' fun hk => ?_
  rw [rw_cols hk, cf_repl, if_pos hk]
  unfold dotR
  rw [sumN_congr A.length fun j hj => by rw [cf_col hj]]
theorem SzM.cols {b n : Nat} {A : Mx} (h : SzM b A) : SzM (b + 1) (colsM n A) := fun r m => by
  unfold colsM at m
  rw [List.mem_map] at m
  obtain ⟨k, _, rfl⟩ := m
  intro x hx
  unfold colM at hx
  rw [List.mem_map] at hx
  obtain ⟨r, hr, rfl⟩ := hx
  exact (h r hr).cf k
theorem AnyQ.imp {B C : Nat} {Q : T → Prop} {n : Nat} {S U : (Nat → Rat) → Prop} (h : AnyQ B Q n S) (i : ∀ x, S x ↔ U x) (l : C ≤ B) : AnyQ C Q n U :=
  ⟨fun x h1 h2 h3 => h.1 x h1 (h2.mono l) ((i _).mpr h3), fun h1 => h.2 fun x hx => h1 x ((i x).mp hx)⟩
end Tw
namespace Tw
open PySem
open PySem.Spec PyProof.Rows L2
theorem oEq_Q {x y : Rat} {Q : T → Prop} (h : Q (.bl (decide (x = y)))) : oEq (tQ x) (tQ y) Q := ⟨eqOk_Q x y, by rw [eqT_Q]; exact h⟩
theorem oNe_Q {x y : Rat} {Q : T → Prop} (h : Q (.bl (!decide (x = y)))) : oNe (tQ x) (tQ y) Q := ⟨eqOk_Q x y, by rw [eqT_Q]; exact h⟩
theorem oEq_P {p q : List Rat} {Q : T → Prop} (h : Q (.bl (decide (p = q)))) : oEq (tP p) (tP q) Q := ⟨eqOk_P p q, by rw [eqT_P]; exact h⟩
theorem oNe_P {p q : List Rat} {Q : T → Prop} (h : Q (.bl (!decide (p = q)))) : oNe (tP p) (tP q) Q := ⟨eqOk_P p q, by rw [eqT_P]; exact h⟩
theorem enT_at {ts : List T} {k : Nat} {t : T} (h : (enT ts)[k]? = some t) : ∃ u, ts[k]? = some u ∧ t = .tup [.int (k : Nat), u] := by
  unfold enT at h
  rw [List.getElem?_map, List.getElem?_zipIdx] at h
  cases e : ts[k]? with
  | none =>
    rw [e] at h; cases h
  | some u => rw [e] at h; exact ⟨u, rfl, by simpa using (Option.some.inj h).symm⟩
theorem enT_len {ts : List T} : (enT ts).length = ts.length := by unfold enT; rw [List.length_map, List.length_zipIdx]
theorem sh_Q {x : Rat} : (tQ x).sh = true := rfl
theorem isQ_Q {x : Rat} : Tw.isQ (tQ x) = true := isQ_tQ x
end Tw
namespace Tw
open PySem
open PySem.Spec PyProof.Rows L2
/-- a row and multiples of rows -/
def sumM : Mx → List Rat → List Rat → List Rat
  | r :: A, y :: c, b => sumM A c (List.zipWith (fun x z => x + y * z) b r)
  | _, _, b => b
theorem cf_zipF {f : Rat → Rat → Rat} (f0 : f 0 0 = 0) {p q : List Rat} (h : p.length = q.length) (k : Nat) : cf (List.zipWith f p q) k = f (cf p k) (cf q k) := by
  unfold cf
  rw [List.getD_eq_getElem?_getD, List.getD_eq_getElem?_getD, List.getD_eq_getElem?_getD, List.getElem?_zipWith]
  by_cases hk : k < p.length
  · rw [List.getElem?_eq_getElem hk, List.getElem?_eq_getElem (by omega)]; rfl
  · rw [List.getElem?_eq_none (by omega), List.getElem?_eq_none (by omega)]
    exact f0.symm
theorem sumM_len : ∀ (A : Mx) (c b : List Rat), Wd b.length A → (sumM A c b).length = b.length
  | r :: A, y :: c, b, w => by
    have hr := w r (List.mem_cons_self ..)
    rw [sumM, sumM_len A c _ (fun q m => by rw [List.length_zipWith, hr, Nat.min_self]; exact w q (List.mem_cons_of_mem _ m)), List.length_zipWith, hr, Nat.min_self]
  | [], _, _, _ => rfl
  | _ :: _, [], _, _ => rfl
/-- the sum of the rows' numbers at a place, each times a number -/
def comb (A : Mx) (c : List Rat) (k : Nat) : Rat := totL (List.zipWith (fun r y => cf r k * y) A c)
theorem comb_sum : ∀ (A : Mx) (c : List Rat) (k : Nat), A.length = c.length → sumN (fun j => en A j k * cf c j) A.length = comb A c k
  | [], c, k, _ => by cases c <;> rfl
  | r :: A, y :: c, k, h => by
    unfold comb
    rw [List.length_cons, sumN_front, List.zipWith_cons_cons, totL_cons]
    have := comb_sum A c k (by simpa using h)
    unfold comb at this
    rw [← this]
    rfl
  | _ :: _, [], _, h => by simp at h
theorem cf_sumM : ∀ (A : Mx) (c b : List Rat) (k : Nat), Wd b.length A → cf (sumM A c b) k = cf b k + comb A c k
  | r :: A, y :: c, b, k, w => by
    have hr := w r (List.mem_cons_self ..)
    have hl : (List.zipWith (fun x z => x + y * z) b r).length = b.length := by rw [List.length_zipWith, hr, Nat.min_self]
    rw [sumM, cf_sumM A c _ k (fun q m => by rw [hl]; exact w q (List.mem_cons_of_mem _ m)), cf_zipF (by grind) hr.symm]
    unfold comb
    rw [List.zipWith_cons_cons, totL_cons]
    grind
  | [], c, b, k, _ => by
    have : comb [] c k = 0 := by cases c <;> rfl
    rw [this, Rat.add_zero]
    cases c <;> rfl
  | _ :: _, [], b, k, _ => by
    show cf b k = cf b k + 0
    grind
theorem SzL.lin {a b d : Nat} {y : Rat} {p r : List Rat} (hp : SzL d p) (hy : Sz b y) (hr : SzL a r) : SzL (d + (a + b + 1)) (List.zipWith (fun x z => x + y * z) p r) := fun x m => by
  obtain ⟨i, hi, e⟩ := List.getElem_of_mem m
  rw [List.getElem_zipWith] at e
  rw [← e]
  exact ((hp _ (List.getElem_mem _)).add (hy.mul (hr _ (List.getElem_mem _)))).mono (by omega)
theorem sumN_swap (f : Nat → Nat → Rat) (n : Nat) : ∀ m, sumN (fun i => sumN (fun j => f i j) n) m = sumN (fun j => sumN (fun i => f i j) m) n
  | 0 => by
    rw [show (fun j => sumN (fun i => f i j) 0) = fun _ => (0 : Rat) from rfl, sumN_zero n fun _ _ => rfl]
    rfl
  | m + 1 => by
    rw [sumN, sumN_swap f n m, ← sumN_add]
    exact sumN_congr n fun i _ => rfl
/-- not both at once -/
theorem not_both {A : Mx} {n : Nat} {x c : Nat → Rat} (h : WSol A n x) (b : BSol A n c) : False := by
  have e1 : sumN (fun k => sumN (fun j => x k * (en A j k * c j)) A.length) n = 1 := by
    rw [← h.1]
    refine sumN_congr n fun k hk => ?_
    rw [sumN_mul, b k hk, Rat.mul_one]
  rw [sumN_swap] at e1
  rw [sumN_zero A.length fun j hj => ?_] at e1
  · exact absurd e1 (by decide)
  · have := h.2 _ (rw_mem hj)
    unfold dotR at this
    have e2 : sumN (fun k => x k * (en A j k * c j)) n = c j * sumN (fun k => cf (rw' A j) k * x k) n := by
      rw [← sumN_mul]
      refine sumN_congr n fun k _ => ?_
      unfold en
      grind
    rw [e2, this, Rat.mul_zero]
theorem sumN_upd (f : Nat → Rat) (z : Rat) {k : Nat} : ∀ n, k < n → sumN (fun i => if i = k then z else f i) n = sumN f n - f k + z
  | 0, h => by omega
  | n + 1, h => by
    rw [sumN, sumN]
    by_cases e : k = n
    · subst e
      rw [if_pos rfl, sumN_congr k fun i hi => if_neg (show ¬ i = k by omega)]
      grind
    · rw [sumN_upd f z n (by omega), if_neg (fun y => e y.symm)]
      grind
theorem tells_iff {A : Mx} {p : List Rat} (w : Wd p.length A) : (totL p = 1 ∧ ∀ r, r ∈ A → dotL r p = 0) ↔ WSol A p.length (cf p) := by
  unfold WSol
  rw [totL_sum]
  refine and_congr_right fun _ => forall_congr' fun r => forall_congr' fun hr => ?_
  rw [dotL_dot (w r hr) rfl]
theorem Ov.add {h k : Nat} {D : Int} {x y : Rat} (a : Ov h D x) (b : Ov k D y) : Ov (max h k + 1) D (x + y) := by
  obtain ⟨n, hn, e⟩ := a
  obtain ⟨m, hm, f⟩ := b
  refine ⟨n + m, ?_, by simp only [Rat.intCast_add]; grind⟩
  have h1 := pow_le (Nat.le_max_left h k)
  have h2 := pow_le (Nat.le_max_right h k)
  rw [Nat.pow_succ]
  omega
theorem Ov.neg {h : Nat} {D : Int} {x : Rat} (a : Ov h D x) : Ov h D (-x) := by
  obtain ⟨n, hn, e⟩ := a
  exact ⟨-n, by omega, by simp only [Rat.intCast_neg]; grind⟩
theorem Ov.sub {h k : Nat} {D : Int} {x y : Rat} (a : Ov h D x) (b : Ov k D y) : Ov (max h k + 1) D (x - y) := by
  rw [show x - y = x + -y from by grind]
  exact a.add b.neg
theorem Ov.mul {h k : Nat} {D E : Int} {x y : Rat} (a : Ov h D x) (b : Ov k E y) : Ov (h + k) (D * E) (x * y) := by
  obtain ⟨n, hn, e⟩ := a
  obtain ⟨m, hm, f⟩ := b
  exact ⟨n * m, natAbs_mul_lt hn hm, by simp only [Rat.intCast_mul]; grind⟩
theorem Ov.tot {h : Nat} {D : Int} : ∀ {p : List Rat}, (∀ x, x ∈ p → Ov h D x) → ∃ n : Int, n.natAbs ≤ p.length * 2 ^ h ∧ totL p * (D : Rat) = (n : Rat)
  | [], _ => ⟨0, by simp, by rw [totL_nil, Rat.zero_mul]; rfl⟩
  | x :: p, a => by
    obtain ⟨n, hn, e⟩ := a x (List.mem_cons_self ..)
    obtain ⟨m, hm, f⟩ := Ov.tot (p := p) fun y q => a y (List.mem_cons_of_mem _ q)
    refine ⟨n + m, ?_, by rw [totL_cons]; simp only [Rat.intCast_add]; grind⟩
    rw [List.length_cons, Nat.add_mul]
    omega
theorem Ov.totL {h c : Nat} {D : Int} {p : List Rat} (a : ∀ x, x ∈ p → Ov h D x) (l : p.length < 2 ^ c) : Ov (h + c) D (totL p) := by
  obtain ⟨n, hn, e⟩ := Ov.tot a
  refine ⟨n, Nat.lt_of_le_of_lt hn ?_, e⟩
  rw [Nat.pow_add, Nat.mul_comm]
  exact Nat.mul_lt_mul_of_pos_left l (Nat.two_pow_pos h)
theorem Ov.dot {h k c : Nat} {D E : Int} {p q : List Rat} (a : ∀ x, x ∈ p → Ov h D x) (b : ∀ x, x ∈ q → Ov k E x) (l : p.length < 2 ^ c) : Ov (h + k + c) (D * E) (dotL p q) := by
  refine Ov.totL (p := List.zipWith (· * ·) p q) (fun x m => ?_) (Nat.lt_of_le_of_lt (by rw [List.length_zipWith]; omega) l)
  obtain ⟨i, hi, e⟩ := List.getElem_of_mem m
  rw [List.getElem_zipWith] at e
  rw [← e]
  exact (a _ (List.getElem_mem _)).mul (b _ (List.getElem_mem _))
/-- the size of a quotient of two such -/
theorem Ov.over {h k d e : Nat} {D E : Int} {x y : Rat} (a : Ov h D x) (b : Ov k E y) (hD : D ≠ 0) (hE : E ≠ 0) (lD : D.natAbs < 2 ^ d) (lE : E.natAbs < 2 ^ e) (h0 : y ≠ 0) : Sz (max (h + e) (k + d)) (x / y) := by
  obtain ⟨n, hn, f⟩ := a
  obtain ⟨m, hm, g⟩ := b
  have dD := castI_ne hD
  have dE := castI_ne hE
  have m0 : m ≠ 0 := fun z => h0 (by
    rw [z] at g
    rcases Rat.mul_eq_zero.mp (g.trans (by rfl : ((0 : Int) : Rat) = 0)) with u | u
    · exact u
    · exact absurd u dE)
  have dm := castI_ne m0
  have ev : x / y = Rat.divInt (n * E) (D * m) := by
    rw [Rat.divInt_eq_div]
    simp only [Rat.intCast_mul]
    rw [← f, ← g]
    grind
  rw [ev]
  refine sz_divInt (Int.mul_ne_zero hD m0) ?_ ?_
  · exact Nat.lt_of_lt_of_le (natAbs_mul_lt hn lE) (pow_le (by omega))
  · rw [Int.mul_comm]
    exact Nat.lt_of_lt_of_le (natAbs_mul_lt hm lD) (pow_le (by omega))
theorem Ov.szD {h d : Nat} {D : Int} {x : Rat} (a : Ov h D x) (hD : D ≠ 0) (lD : D.natAbs < 2 ^ d) : Sz (max h d) x := a.sz hD lD
end Tw
namespace Tw
open PySem
open PySem.Spec PyProof.Rows L2
theorem comb_app : ∀ {A B : Mx} {c d : List Rat} {k : Nat}, A.length = c.length → comb (A ++ B) (c ++ d) k = comb A c k + comb B d k
  | [], B, c, d, k, h => by
    have : c = [] := List.length_eq_zero_iff.mp h.symm
    subst this
    show comb B d k = 0 + comb B d k
    grind
  | r :: A, B, y :: c, d, k, h => by
    have := comb_app (A := A) (B := B) (c := c) (d := d) (k := k) (by simpa using h)
    unfold comb at this ⊢
    rw [List.cons_append, List.cons_append, List.zipWith_cons_cons, totL_cons, this, List.zipWith_cons_cons, totL_cons]
    grind
  | _ :: _, _, [], _, _, h => by simp at h
theorem comb_one {r : List Rat} {y : Rat} {k : Nat} : comb [r] [y] k = cf r k * y := by
  unfold comb
  rw [List.zipWith_cons_cons, totL_cons]
  show _ + totL [] = _
  rw [totL_nil, Rat.add_zero]
theorem comb_neg : ∀ {A : Mx} {c : List Rat} {k : Nat}, comb A (c.map fun x => -x) k = -comb A c k
  | [], c, k => by
    have h : ∀ c : List Rat, comb [] c k = 0 := fun c => by cases c <;> rfl
    rw [h, h]
    rfl
  | r :: A, y :: c, k => by
    have := comb_neg (A := A) (c := c) (k := k)
    unfold comb at this ⊢
    rw [List.map_cons, List.zipWith_cons_cons, totL_cons, this, List.zipWith_cons_cons, totL_cons]
    grind
  | _ :: _, [], _ => by
    show (0 : Rat) = -0
    grind
theorem dot_set {p r : List Rat} {k : Nat} {y : Rat} (h : r.length = p.length) (hk : k < p.length) : dotL (r.set k y) p = dotL p r - cf p k * cf r k + cf p k * y := by
  rw [dotL_dot (n := p.length) (by rw [List.length_set]; exact h) rfl, dotL_dot (n := p.length) rfl h]
  unfold dotR
  rw [← sumN_upd (fun i => cf p i * cf r i) (cf p k * y) p.length hk]
  refine sumN_congr _ fun i hi => ?_
  rw [cf_set _ _ _ (by omega)]
  split
  · rename_i e; rw [e, Rat.mul_comm]
  · rw [Rat.mul_comm]
theorem at0 {n d : Int} : atI [T.int n, T.int d] 0 = some (T.int n) := rfl
theorem at1 {n d : Int} : atI [T.int n, T.int d] 1 = some (T.int d) := rfl
end Tw
namespace Tw
open PySem
open PySem.Spec PyProof.Rows L2
theorem AnyQ.mk {B n : Nat} {Q : T → Prop} {S : (Nat → Rat) → Prop} (a : ∀ x : List Rat, x.length = n → SzL B x → S (cf x) → Q (tP x)) (b : (∀ x, ¬ S x) → Q .non) : AnyQ B Q n S := ⟨a, b⟩
def tellsB (A : Mx) (p : List Rat) : Bool := decide (totL p = 1) && A.all fun r => decide (dotL r p = 0)
theorem tellsB_of {A : Mx} {p : List Rat} (w : Wd p.length A) (h : WSol A p.length (cf p)) : tellsB A p = true := by
  obtain ⟨e1, e2⟩ := (tells_iff w).mpr h
  unfold tellsB
  rw [e1]
  simpa using e2
theorem rk_bl {b : Bool} : Rk 8000 60 (T.bl b) := Rk.bl.mono (by decide) (Nat.le_refl _)
end Tw
namespace Tw
open PySem
open PySem.Spec PyProof.Rows L2
theorem inT_ints (i : Int) : ∀ js : List Int, inT (.int i) (js.map T.int) = js.contains i
  | [] => rfl
  | j :: js => by
    have := eqT_int j i
    unfold eqT at this
    rw [List.map_cons, inT, this, inT_ints i js, List.contains_cons]
    congr 1
    by_cases e : j = i
    · subst e; simp
    · have e2 : (i == j) = false := beq_eq_false_iff_ne.mpr fun z => e z.symm
      rw [decide_eq_false e, e2]
theorem datas_ints : ∀ js : List Int, datas (js.map T.int) = true
  | [] => rfl
  | j :: js => by rw [List.map_cons, datas, datas_ints js]; rfl
theorem lay_ints : ∀ js : List Int, PyData.canLayAll0 (toDs (js.map T.int)) = true
  | [] => rfl
  | j :: js => by rw [List.map_cons, toDs, PyData.canLayAll0, lay_ints js]; rfl
theorem dep_ints : ∀ js : List Int, PyData.depthAll (toDs (js.map T.int)) ≤ 0
  | [] => Nat.le_refl _
  | j :: js => by
    have := dep_ints js
    rw [List.map_cons, toDs, PyData.depthAll]
    simp only [T.toD, PyData.depth]
    omega
theorem inOk_ints (i : Int) (js : List Int) : InOk (.int i) (js.map T.int) := by
  refine ⟨rfl, datas_ints js, rfl, ?_⟩
  have h1 := lay_ints js
  have h2 := dep_ints js
  show (PyData.canLayAll0 (toDs (js.map T.int)) && decide (PyData.depthAll (toDs (js.map T.int)) + 1 ≤ 64)) = true
  rw [h1, Bool.true_and]
  exact (decide_eq_true (by omega))
end Tw

namespace Tw
open PySem
open PySem.Spec PyProof.Rows L2
/-- a sum of multiples of rows -/
def InSp (F : Mx) (r : List Rat) : Prop := ∃ c : Nat → Rat, ∀ k, cf r k = sumN (fun j => c j * en F j k) F.length
theorem insp_mem {F : Mx} {i : Nat} (h : i < F.length) : InSp F (rw' F i) := ⟨fun j => if j = i then 1 else 0, fun k => by
  rw [sumN_single (k := i) F.length h fun j _ ne => by dsimp only; rw [if_neg ne, Rat.zero_mul]]
  dsimp only
  rw [if_pos rfl, Rat.one_mul]
  rfl⟩
theorem insp_lin {F : Mx} {r s t : List Rat} {x y : Rat} (hr : InSp F r) (hs : InSp F s) (e : ∀ k, cf t k = x * cf r k + y * cf s k) : InSp F t := by
  obtain ⟨c, hc⟩ := hr
  obtain ⟨d, hd⟩ := hs
  refine ⟨fun j => x * c j + y * d j, fun k => ?_⟩
  rw [e k, hc k, hd k, ← sumN_mul, ← sumN_mul, ← sumN_add]
  exact sumN_congr _ fun j _ => by grind
theorem insp_elim {n : Nat} {F0 F : Mx} {p a c : Nat} (w : Wd n F) (hp : p < F.length) (ha : a < F.length) (h : ∀ i, i < F.length → InSp F0 (rw' F i)) (i : Nat) (hi : i < F.length) : InSp F0 (rw' (elim F p a c) i) := by
  by_cases n1 : i = p
  · refine insp_lin (x := 1 / en F a c) (y := 0) (h a ha) (h a ha) fun k => ?_
    have := en_elim (c := c) w hp ha hi k
    rw [if_pos n1] at this
    show en (elim F p a c) i k = _
    rw [this]
    show en F a k / en F a c = 1 / en F a c * en F a k + 0 * en F a k
    grind
  · by_cases n2 : i = a
    · refine insp_lin (x := 1) (y := -(en F p c / en F a c)) (h p hp) (h a ha) fun k => ?_
      have := en_elim (c := c) w hp ha hi k
      rw [if_neg n1, if_pos n2, if_pos n2] at this
      show en (elim F p a c) i k = _
      rw [this]
      show en F p k - en F a k / en F a c * en F p c = 1 * en F p k + -(en F p c / en F a c) * en F a k
      grind
    · refine insp_lin (x := 1) (y := -(en F i c / en F a c)) (h i hi) (h a ha) fun k => ?_
      have := en_elim (c := c) w hp ha hi k
      rw [if_neg n1, if_neg n2, if_neg n2] at this
      show en (elim F p a c) i k = _
      rw [this]
      show en F i k - en F a k / en F a c * en F i c = 1 * en F i k + -(en F i c / en F a c) * en F a k
      grind
theorem insp_step {n : Nat} {F0 F : Mx} {S : List Nat} {c : Nat} (w : Wd n F) (hS : S.length ≤ F.length) (h : ∀ i, i < F.length → InSp F0 (rw' F i)) : ∀ i, i < (stepE c F S).1.length → InSp F0 (rw' (stepE c F S).1 i) := by
  unfold stepE
  split
  · exact h
  · rename_i a r e
    obtain ⟨a1, a2, a3⟩ := here_mem (show a ∈ hereL F c S.length by rw [e]; exact List.mem_cons_self ..)
    intro i hi
    rw [elim_len] at hi
    exact insp_elim w (by omega) a2 h i hi
theorem insp_run {n : Nat} {F0 : Mx} : ∀ (m c : Nat) {F : Mx} {S : List Nat}, Wd n F → Sta F S c → (∀ i, i < F.length → InSp F0 (rw' F i)) → ∀ i, i < (stairsE m c F S).1.length → InSp F0 (rw' (stairsE m c F S).1 i)
  | 0, c, F, S, w, s, h => h
  | m + 1, c, F, S, w, s, h => by
    obtain ⟨a1, a2, a3, a4⟩ := sta_step w s
    exact insp_run m (c + 1) a1 a3 (insp_step w s.le h)
/-- no solution: a sum of multiples of the rows is nought, that of the right sides is not -/
theorem any_none_sp {n : Nat} {A : Mx} {r : List Rat} (h : A.length = r.length) (w : Wd n A) (e : anyE A r n = none) : ∃ c : Nat → Rat, (∀ k, k < n → sumN (fun j => c j * en A j k) A.length = 0) ∧ sumN (fun j => c j * cf r j) A.length ≠ 0 := by
  obtain ⟨_, a2, a3, a4⟩ := sta_run n 0 (wd_ext h w) (sta_nil (F := extE A r))
  have sp := insp_run (F0 := extE A r) n 0 (wd_ext h w) (sta_nil (F := extE A r)) fun i hi => insp_mem hi
  rw [Nat.zero_add] at a3
  unfold anyE at e
  split at e
  · cases e
  · rename_i hb
    obtain ⟨q, hq⟩ := List.exists_mem_of_ne_nil _ (fun z => hb z)
    unfold badE at hq
    rw [List.mem_filter] at hq
    obtain ⟨j, hj, eq⟩ := List.getElem_of_mem hq.1
    rw [List.getElem_drop] at eq
    have hj2 : (stairsE n 0 (extE A r) []).2.length + j < (stairsE n 0 (extE A r) []).1.length := by rw [List.length_drop] at hj; omega
    obtain ⟨c, hc⟩ := sp _ hj2
    rw [rw_get hj2, eq, ext_len h] at hc
    refine ⟨c, fun k hk => ?_, ?_⟩
    · have z := a3.low _ k (Nat.le_add_right _ j) hj2 hk
      unfold en at z
      rw [rw_get hj2, eq, hc k] at z
      rw [← z]
      refine sumN_congr _ fun i hi => ?_
      unfold en
      rw [rw_ext h hi, cf_snoc, if_pos (by rw [w _ (rw_mem hi)]; exact hk)]
    · have y := hq.2
      simp only [decide_eq_true_eq] at y
      rw [hc n] at y
      intro z
      refine y (Eq.trans (sumN_congr _ fun i hi => ?_) z)
      unfold en
      rw [rw_ext h hi, cf_snoc, if_neg (by rw [w _ (rw_mem hi)]; omega), if_pos (by rw [w _ (rw_mem hi)])]
/-- weights that tell, or multiples that make ones -/
theorem one_of {A : Mx} {n : Nat} (w : Wd n A) : (∃ x : List Rat, x.length = n ∧ WSol A n (cf x)) ∨ ∃ c, BSol A n c := by
  have hl : (List.replicate n 1 :: A).length = ((1 : Rat) :: List.replicate A.length 0).length := by simp
  have hw : Wd n (List.replicate n 1 :: A) := fun r m => by
    rcases List.mem_cons.mp m with rfl | m
    · exact List.length_replicate
    · exact w r m
  cases e : anyE (List.replicate n 1 :: A) (1 :: List.replicate A.length 0) n with
  | some x =>
    obtain ⟨h1, h2⟩ := any_some hl hw e
    exact .inl ⟨x, h1, wsol_iff.mp h2⟩
  | none =>
    obtain ⟨c, h1, h2⟩ := any_none_sp hl hw e
    refine .inr ⟨fun j => -(c (j + 1)) / c 0, fun k hk => ?_⟩
    rw [List.length_cons, sumN_front] at h2
    have z : sumN (fun i => c (i + 1) * cf ((1 : Rat) :: List.replicate A.length 0) (i + 1)) A.length = 0 := sumN_zero _ fun i _ => by rw [cf_succ, cf_rep, Rat.mul_zero]
    rw [z, cf_zero, Rat.mul_one, Rat.add_zero] at h2
    have h3 := h1 k hk
    rw [List.length_cons, sumN_front] at h3
    have e0 : en (List.replicate n 1 :: A) 0 k = 1 := by
      show cf (List.replicate n 1) k = 1
      rw [cf_repl, if_pos hk]
    rw [e0] at h3
    have e1 : sumN (fun j => en A j k * (-(c (j + 1)) / c 0)) A.length = (-1 / c 0) * sumN (fun i => c (i + 1) * en (List.replicate n 1 :: A) (i + 1) k) A.length := by
      rw [← sumN_mul]
      refine sumN_congr _ fun j _ => ?_
      show en A j k * (-(c (j + 1)) / c 0) = -1 / c 0 * (c (j + 1) * en A j k)
      grind
    rw [e1]
    grind
theorem wsol_no {A : Mx} {n : Nat} (w : Wd n A) : (∀ x, ¬ WSol A n x) ↔ ∃ c, BSol A n c := by
  constructor
  · intro h
    rcases one_of w with ⟨x, _, hx⟩ | h2
    · exact absurd hx (h _)
    · exact h2
  · rintro ⟨c, hc⟩ x hx
    exact not_both hx hc
/-- stairs whose steps are any numbers but 0 -/
structure StP (F : Mx) (S : List Nat) (c : Nat) : Prop where
  le : S.length ≤ F.length
  lt : ∀ k, k < S.length → S.getD k 0 < c
  inc : ∀ i k, i < k → k < S.length → S.getD i 0 < S.getD k 0
  piv : ∀ k, k < S.length → en F k (S.getD k 0) ≠ 0
  zero : ∀ i k, k < S.length → i < F.length → i ≠ k → en F i (S.getD k 0) = 0
  low : ∀ i k, S.length ≤ i → i < F.length → k < c → en F i k = 0
theorem stp_nil {F : Mx} : StP F [] 0 := ⟨Nat.zero_le _, fun k h => by simp at h, fun i k _ h => by simp at h, fun k h => by simp at h, fun i k h => by simp at h, fun i k _ _ h => by omega⟩
/-- the rows but the p-th one cleared at a column -/
structure Red (F G : Mx) (p c : Nat) : Prop where
  len : G.length = F.length
  at_ : ∀ j, en G p j = en F p j
  off : ∀ i, i < F.length → i ≠ p → ∃ y : Rat, y ≠ 0 ∧ ∀ j, en G i j = y * (en F p c * en F i j - en F i c * en F p j)
theorem kills_swap {F : Mx} {p a n : Nat} {x : Nat → Rat} (hp : p < F.length) (ha : a < F.length) : Kills (swapL F p a []) n x ↔ Kills F n x := by
  rw [kills_iff, kills_iff, swap_len]
  constructor
  · intro h i hi
    by_cases e : i = p
    · have := h a ha
      rw [rw_swap hp ha, if_pos rfl] at this
      rw [e]; exact this
    · by_cases e2 : i = a
      · have := h p hp
        rw [rw_swap hp ha] at this
        by_cases e3 : p = a
        · rw [if_pos e3] at this; exact absurd (e2.trans e3.symm) e
        · rw [if_neg e3, if_pos rfl] at this
          rw [e2]; exact this
      · have := h i hi
        rw [rw_swap hp ha, if_neg e2, if_neg e] at this
        exact this
  · intro h i hi
    rw [rw_swap hp ha]
    split
    · exact h p hp
    · split
      · exact h a ha
      · exact h i hi
theorem kills_red {F G : Mx} {p c n : Nat} {x : Nat → Rat} (r : Red F G p c) (hp : p < F.length) (h0 : en F p c ≠ 0) : Kills G n x ↔ Kills F n x := by
  rw [kills_iff, kills_iff, r.len]
  have dp : dotR (rw' G p) x n = dotR (rw' F p) x n := sumN_congr n fun k _ => by
    have := r.at_ k
    unfold en at this
    rw [this]
  have di : ∀ i, i < F.length → i ≠ p → ∃ y : Rat, y ≠ 0 ∧ dotR (rw' G i) x n = y * (en F p c * dotR (rw' F i) x n - en F i c * dotR (rw' F p) x n) := fun i hi ne => by
    obtain ⟨y, y0, e⟩ := r.off i hi ne
    refine ⟨y, y0, ?_⟩
    have := dotR_lin (r := (rw' F i).map (· * (y * en F p c))) (s := rw' F p) (y := -(y * en F i c)) (t := rw' G i) (x := x) (n := n) fun k => by
      have := e k
      unfold en at this ⊢
      rw [this, cf_map]
      grind
    rw [this, dotR_scale (r := rw' F i) (y := y * en F p c) fun k => by rw [cf_map, Rat.mul_comm]]
    grind
  constructor
  · intro h i hi
    have hP := h p hp
    rw [dp] at hP
    by_cases ne : i = p
    · rw [ne]; exact hP
    · obtain ⟨y, y0, e⟩ := di i hi ne
      have := h i hi
      rw [e, hP, Rat.mul_zero, show ∀ z : Rat, z - 0 = z from fun z => by grind] at this
      rcases Rat.mul_eq_zero.mp this with z | z
      · exact absurd z y0
      · rcases Rat.mul_eq_zero.mp z with z | z
        · exact absurd z h0
        · exact z
  · intro h i hi
    by_cases ne : i = p
    · rw [ne, dp]; exact h p hp
    · obtain ⟨y, y0, e⟩ := di i hi ne
      rw [e, h i hi, h p hp]
      grind
theorem stp_none {F : Mx} {S : List Nat} {c : Nat} (h : StP F S c) (z : ∀ i, S.length ≤ i → i < F.length → en F i c = 0) : StP F S (c + 1) :=
  ⟨h.le, fun k hk => Nat.lt_succ_of_lt (h.lt k hk), h.inc, h.piv, h.zero, fun i k h1 h2 h3 => by
    by_cases hk : k = c
    · subst hk; exact z i h1 h2
    · exact h.low i k h1 h2 (by omega)⟩
theorem stp_red {F G : Mx} {S : List Nat} {c a : Nat} (h : StP F S c) (h1 : S.length ≤ a) (ha : a < F.length) (h0 : en F a c ≠ 0) (r : Red (swapL F S.length a []) G S.length c) : StP G (S ++ [c]) (c + 1) := by
  have hp : S.length < F.length := by omega
  have sw : ∀ i k, en (swapL F S.length a []) i k = if i = a then en F S.length k else if i = S.length then en F a k else en F i k := fun i k => by
    unfold en
    rw [rw_swap hp ha]
    split
    · rfl
    · split <;> rfl
  have sp : ∀ k, en (swapL F S.length a []) S.length k = en F a k := fun k => by
    rw [sw]
    split
    · rename_i e; rw [e]
    · rw [if_pos rfl]
  have gl : G.length = F.length := by rw [r.len, swap_len]
  have aS : ∀ k, k < S.length → en F a (S.getD k 0) = 0 := fun k hk => h.zero a k hk ha (by omega)
  have gp : ∀ k, en G S.length k = en F a k := fun k => by rw [r.at_, sp]
  have gi : ∀ i, i < F.length → i ≠ S.length → ∃ y : Rat, y ≠ 0 ∧ ∀ k, en G i k = y * (en F a c * en (swapL F S.length a []) i k - en (swapL F S.length a []) i c * en F a k) := fun i hi ne => by
    obtain ⟨y, y0, e⟩ := r.off i (by rw [swap_len]; exact hi) ne
    exact ⟨y, y0, fun k => by rw [e, sp, sp]⟩
  have lowS : ∀ i k, S.length ≤ i → i < F.length → k < c → en (swapL F S.length a []) i k = 0 := fun i k h2 h3 h4 => by
    rw [sw]
    split
    · exact h.low _ k (Nat.le_refl _) hp h4
    · split
      · exact h.low a k h1 ha h4
      · exact h.low i k h2 h3 h4
  refine ⟨by rw [gl, List.length_append, List.length_singleton]; exact hp, fun k hk => ?_, fun i k hik hk => ?_, fun k hk => ?_, fun i k hk hi ne => ?_, fun i k h2 h3 h4 => ?_⟩
  · (rw [List.length_append, List.length_singleton] at hk)
    rw [getD_snoc]
    by_cases e1 : k < S.length
    · rw [if_pos e1]; exact Nat.lt_succ_of_lt (h.lt k e1)
    · rw [if_neg e1, if_pos (by omega)]; omega
  · (rw [List.length_append, List.length_singleton] at hk)
    rw [getD_snoc, getD_snoc, if_pos (show i < S.length by omega)]
    by_cases e1 : k < S.length
    · rw [if_pos e1]; exact h.inc i k hik e1
    · rw [if_neg e1, if_pos (by omega)]; exact h.lt i (by omega)
  · (rw [List.length_append, List.length_singleton] at hk)
    rw [getD_snoc]
    by_cases e1 : k < S.length
    · rw [if_pos e1]
      obtain ⟨y, y0, e⟩ := gi k (by omega) (by omega)
      rw [e, aS k e1, sw, if_neg (by omega), if_neg (by omega), Rat.mul_zero, show ∀ z : Rat, z - 0 = z from fun z => by grind]
      intro z
      rcases Rat.mul_eq_zero.mp z with z | z
      · exact y0 z
      · rcases Rat.mul_eq_zero.mp z with z | z
        · exact h0 z
        · exact h.piv k e1 z
    · rw [if_neg e1, if_pos (by omega), show k = S.length from by omega, gp]
      exact h0
  · (rw [List.length_append, List.length_singleton] at hk)
    rw [gl] at hi
    rw [getD_snoc]
    by_cases e1 : k < S.length
    · rw [if_pos e1]
      by_cases e2 : i = S.length
      · rw [e2, gp, aS k e1]
      · obtain ⟨y, y0, e⟩ := gi i hi e2
        rw [e, aS k e1, sw, if_neg e2]
        by_cases e3 : i = a
        · rw [if_pos e3, h.zero S.length k e1 hp (by omega)]; grind
        · rw [if_neg e3, h.zero i k e1 hi ne]; grind
    · rw [if_neg e1, if_pos (by omega)]
      obtain ⟨y, y0, e⟩ := gi i hi (by omega)
      rw [e]
      grind
  · rw [List.length_append, List.length_singleton] at h2
    rw [gl] at h3
    obtain ⟨y, y0, e⟩ := gi i h3 (by omega)
    rw [e]
    by_cases hk : k = c
    · subst hk; grind
    · rw [lowS i k (by omega) h3 (by omega), h.low a k h1 ha (by omega)]; grind
/-- what the stairs tell of a solution -/
theorem stp_sol {F : Mx} {S : List Nat} {n : Nat} (h : StP F S n) : (∃ x, Kills F (n + 1) (xt n x)) ↔ ∀ i, S.length ≤ i → i < F.length → en F i n = 0 := by
  constructor
  · rintro ⟨x, K⟩ i h1 h2
    have hd := kills_iff.mp K i h2
    unfold dotR at hd
    rw [sumN, sumN_zero n fun k hk => by
      have := h.low i k h1 h2 hk
      unfold en at this
      rw [this, Rat.zero_mul]] at hd
    unfold xt at hd
    rw [if_neg (by omega)] at hd
    unfold en
    grind
  · intro z
    have ex : ∃ x : Nat → Rat, (∀ k, k < S.length → x (S.getD k 0) = en F k n / en F k (S.getD k 0)) ∧ ∀ j, (∀ k, k < S.length → S.getD k 0 ≠ j) → x j = 0 := by
      refine ⟨fun j => sumN (fun k => if S.getD k 0 = j then en F k n / en F k (S.getD k 0) else 0) S.length, fun k hk => ?_, fun j hj => ?_⟩
      · dsimp only
        rw [sumN_single (k := k) S.length hk fun i hi ne => if_neg fun e => ?_]
        · rw [if_pos rfl]
        · rcases Nat.lt_or_gt_of_ne ne with q | q
          · have := h.inc i k q hk; omega
          · have := h.inc k i q hi; omega
      · dsimp only
        exact sumN_zero _ fun k hk => if_neg (hj k hk)
    obtain ⟨x, h1, h2⟩ := ex
    refine ⟨x, kills_iff.mpr fun i hi => ?_⟩
    unfold dotR
    rw [sumN, show xt n x n = -1 from if_neg (by omega)]
    by_cases hS : i < S.length
    · have hlt := h.lt i hS
      rw [sumN_single (k := S.getD i 0) n hlt fun j hj ne => ?_]
      · unfold xt
        rw [if_pos hlt, h1 i hS]
        have := h.piv i hS
        unfold en at this ⊢
        grind
      · unfold xt
        rw [if_pos hj]
        by_cases hx : ∃ k, k < S.length ∧ S.getD k 0 = j
        · obtain ⟨k, hk, rfl⟩ := hx
          have := h.zero i k hk hi (fun q => ne (by rw [q]))
          unfold en at this
          rw [this, Rat.zero_mul]
        · rw [h2 j fun k hk q => hx ⟨k, hk, q⟩, Rat.mul_zero]
    · rw [sumN_zero n fun j hj => ?_]
      · have := z i (by omega) hi
        unfold en at this
        rw [this]
        grind
      · have := h.low i j (by omega) hi hj
        unfold en at this
        rw [this, Rat.zero_mul]
def iL (l : List Int) : T := .lst (l.map T.int)
def iM (G : List (List Int)) : T := .lst (G.map iL)
def castL (l : List Int) : List Rat := l.map fun i : Int => ((i : Int) : Rat)
def castM (G : List (List Int)) : Mx := G.map castL
theorem cf_cast (l : List Int) (k : Nat) : cf (castL l) k = ((l.getD k 0 : Int) : Rat) := by
  unfold cf castL
  (rw [List.getD_eq_getElem?_getD, List.getD_eq_getElem?_getD, List.getElem?_map])
  cases l[k]? <;> rfl
def gcdF : List Int → Nat → Nat
  | [], c => c
  | x :: l, c => gcdF l (Nat.gcd x.natAbs c)
theorem gcdF_dvd : ∀ (l : List Int) (c : Nat), gcdF l c ∣ c ∧ ∀ x, x ∈ l → gcdF l c ∣ x.natAbs
  | [], c => ⟨Nat.dvd_refl c, fun x h => by cases h⟩
  | x :: l, c => by
    obtain ⟨h1, h2⟩ := gcdF_dvd l (Nat.gcd x.natAbs c)
    refine ⟨Nat.dvd_trans h1 (Nat.gcd_dvd_right _ _), fun y m => ?_⟩
    rcases List.mem_cons.mp m with rfl | m
    · exact Nat.dvd_trans h1 (Nat.gcd_dvd_left _ _)
    · exact h2 y m
def rI (G : List (List Int)) (i : Nat) : List Int := G.getD i []
def enI (G : List (List Int)) (i k : Nat) : Int := (rI G i).getD k 0
theorem rI_get {G : List (List Int)} {i : Nat} (h : i < G.length) : rI G i = G[i] := by
  unfold rI
  rw [List.getD_eq_getElem?_getD, List.getElem?_eq_getElem h]
  rfl
theorem rI_mem {G : List (List Int)} {i : Nat} (h : i < G.length) : rI G i ∈ G := by rw [rI_get h]; exact List.getElem_mem h
theorem castM_len {G : List (List Int)} : (castM G).length = G.length := List.length_map ..
theorem rw_cast {G : List (List Int)} {i : Nat} : rw' (castM G) i = castL (rI G i) := by
  unfold rw' castM rI
  (rw [List.getD_eq_getElem?_getD, List.getD_eq_getElem?_getD, List.getElem?_map])
  cases G[i]? <;> rfl
theorem en_cast {G : List (List Int)} {i k : Nat} : en (castM G) i k = ((enI G i k : Int) : Rat) := by
  unfold en enI
  rw [rw_cast, cf_cast]
theorem cast_swap {G : List (List Int)} {i j : Nat} : castM (swapL G i j []) = swapL (castM G) i j [] := by
  unfold swapL castM
  rw [List.map_set, List.map_set]
  have e : ∀ k, (List.map castL G).getD k [] = castL (G.getD k []) := fun k => by
    (rw [List.getD_eq_getElem?_getD, List.getD_eq_getElem?_getD, List.getElem?_map])
    cases G[k]? <;> rfl
  rw [e, e]
theorem iM_at {G : List (List Int)} {i : Nat} (h : i < G.length) : atI (G.map iL) ((i : Nat) : Int) = some (iL (rI G i)) := by
  rw [atI_k, List.getElem?_map, rI_get h, List.getElem?_eq_getElem h]
  rfl
theorem iL_at {l : List Int} {k : Nat} (h : k < l.length) : atI (l.map T.int) ((k : Nat) : Int) = some (.int (l.getD k 0)) := by
  rw [atI_k, List.getElem?_map, List.getD_eq_getElem?_getD, List.getElem?_eq_getElem h]
  rfl
theorem rI_set {G : List (List Int)} {i : Nat} {l : List Int} (h : i < G.length) (j : Nat) : rI (G.set i l) j = if j = i then l else rI G j := by
  unfold rI
  rw [List.getD_eq_getElem?_getD, List.getD_eq_getElem?_getD, List.getElem?_set]
  by_cases e : j = i
  · subst e; simp [h]
  · rw [if_neg (fun z => e z.symm), if_neg e]
theorem castI_eq0 {i : Int} : ((i : Int) : Rat) = 0 ↔ i = 0 := ⟨fun h => Rat.intCast_inj.mp (by simpa using h), fun h => by rw [h]; rfl⟩
def lcmF : List Rat → Nat → Nat
  | [], c => c
  | x :: p, c => lcmF p (Nat.lcm c x.den)
theorem lcmF_facts : ∀ (p : List Rat) (c : Nat), 0 < c → 0 < lcmF p c ∧ c ∣ lcmF p c ∧ ∀ x, x ∈ p → x.den ∣ lcmF p c
  | [], c, h => ⟨h, Nat.dvd_refl c, fun x m => by cases m⟩
  | x :: p, c, h => by
    have hd : 0 < Nat.lcm c x.den := Nat.lcm_pos h (Nat.pos_of_ne_zero x.den_nz)
    obtain ⟨h1, h2, h3⟩ := lcmF_facts p (Nat.lcm c x.den) hd
    refine ⟨h1, Nat.dvd_trans (Nat.dvd_lcm_left _ _) h2, fun y m => ?_⟩
    rcases List.mem_cons.mp m with rfl | m
    · exact Nat.dvd_trans (Nat.dvd_lcm_right _ _) h2
    · exact h3 y m
theorem lcm_div (c d : Nat) : (((c : Nat) : Int) * ((d : Nat) : Int)).fdiv ((Nat.gcd c d : Nat) : Int) = ((Nat.lcm c d : Nat) : Int) := by
  rw [Int.fdiv_eq_ediv_of_nonneg _ (by omega), ← Int.natCast_mul, ← Int.natCast_ediv]
  rfl
theorem lcm_lt {c d e b : Nat} (h : 0 < d) (hc : c < 2 ^ e) (hd : d < 2 ^ b) : Nat.lcm c d < 2 ^ (e + b) := by
  have h1 : Nat.lcm c d ≤ c * d := Nat.div_le_self _ _
  rw [Nat.pow_add]
  exact Nat.lt_of_le_of_lt h1 (Nat.mul_lt_mul_of_lt_of_le hc (Nat.le_of_lt hd) (Nat.two_pow_pos b))
theorem wLc_zipG {α β : Type} (e1 : α → T) (e2 : β → T) (f : α → β → T) {g : T → TEnv → (TEnv → Prop) → Prop} {te : TR} {env : TEnv} : ∀ (p : List α) (q : List β) (acc : List T) (Q : List T → Prop), (∀ x y, x ∈ p → y ∈ q → ∀ Q' : T → Prop, Q' (f x y) → g (.tup [e1 x, e2 y]) env fun env' => te env' Q') → Q (acc ++ List.zipWith f p q) → wLc g bYes te env (ziT (p.map e1) (q.map e2)) acc Q
  | [], q, acc, Q, _, hq => by cases q <;> simpa [wLc, ziT] using hq
  | _ :: _, [], acc, Q, _, hq => by simpa [wLc, ziT] using hq
  | t :: ts, u :: us, acc, Q, h, hq => by
    have := h t u (List.mem_cons_self ..) (List.mem_cons_self ..) (fun z => wLc g bYes te env (ziT (ts.map e1) (us.map e2)) (acc ++ [z]) Q) (wLc_zipG e1 e2 f ts us _ Q (fun x y m1 m2 => h x y (List.mem_cons_of_mem _ m1) (List.mem_cons_of_mem _ m2)) (by simpa using hq))
    simpa [wLc, bYes, ziT] using this
theorem getD_zipI {f : Int → Int → Int} (f0 : f 0 0 = 0) {p q : List Int} (h : p.length = q.length) (k : Nat) : (List.zipWith f p q).getD k 0 = f (p.getD k 0) (q.getD k 0) := by
  rw [List.getD_eq_getElem?_getD, List.getD_eq_getElem?_getD, List.getD_eq_getElem?_getD, List.getElem?_zipWith]
  by_cases hk : k < p.length
  · rw [List.getElem?_eq_getElem hk, List.getElem?_eq_getElem (by omega)]; rfl
  · rw [List.getElem?_eq_none (by omega), List.getElem?_eq_none (by omega)]
    exact f0.symm
theorem getD_memI {l : List Int} {k : Nat} {b : Nat} (h : ∀ x, x ∈ l → x.natAbs < 2 ^ b) : (l.getD k 0).natAbs < 2 ^ b := by
  (rw [List.getD_eq_getElem?_getD])
  cases e : l[k]? with
  | none => exact Nat.two_pow_pos b
  | some x => exact h x (List.mem_of_getElem? e)
theorem getD_mulI (g : Int) (l : List Int) (k : Nat) : (l.map (g * ·)).getD k 0 = g * l.getD k 0 := by
  (rw [List.getD_eq_getElem?_getD, List.getD_eq_getElem?_getD, List.getElem?_map])
  cases l[k]? with
  | none => exact (Int.mul_zero g).symm
  | some x => rfl
theorem tN_ints (S : List Nat) : tN S = (S.map fun i : Nat => (i : Int)).map T.int := by unfold tN; rw [List.map_map]; rfl
theorem inT_N (j : Nat) (S : List Nat) : inT (.int (j : Nat)) (tN S) = decide (j ∈ S) := by
  rw [tN_ints, inT_ints, Bool.eq_iff_iff, List.contains_iff_mem, List.mem_map, decide_eq_true_eq]
  constructor
  · rintro ⟨i, hi, e⟩
    rwa [show i = j from by omega] at hi
  · intro h
    exact ⟨j, h, rfl⟩
theorem inOk_N (j : Nat) (S : List Nat) : InOk (.int (j : Nat)) (tN S) := by rw [tN_ints]; exact inOk_ints _ _
theorem en_take {A : Mx} {m i k : Nat} (h : k < m) : en (A.map (List.take m)) i k = en A i k := by
  unfold en rw'
  (rw [List.getD_eq_getElem?_getD, List.getD_eq_getElem?_getD, List.getElem?_map])
  cases A[i]? with
  | none => rfl
  | some r =>
    show cf (r.take m) k = cf r k
    rw [cf_take, if_pos h]
theorem bsol_take {A : Mx} {m : Nat} {c : Nat → Rat} : BSol (A.map (List.take m)) m c ↔ BSol A m c := by
  unfold BSol
  rw [List.length_map]
  refine forall_congr' fun k => forall_congr' fun hk => ?_
  rw [sumN_congr A.length fun j _ => by rw [en_take hk]]
theorem wd_take {A : Mx} {n m : Nat} (w : Wd n A) (h : m ≤ n) : Wd m (A.map (List.take m)) := fun r hr => by
  obtain ⟨q, hq, rfl⟩ := List.mem_map.mp hr
  rw [List.length_take, w q hq]
  omega
theorem filter_head {f : Nat → Bool} {a n m : Nat} (hm : a ≤ m ∧ m < a + n) (h1 : f m = true) (h2 : ∀ j, a ≤ j → j < m → f j = false) : ∃ r, (List.range' a n).filter f = m :: r := by
  have mm : m ∈ (List.range' a n).filter f := List.mem_filter.mpr ⟨List.mem_range'_1.mpr hm, h1⟩
  have sor : ((List.range' a n).filter f).Pairwise (· < ·) := List.Pairwise.filter _ (List.pairwise_lt_range')
  cases e : (List.range' a n).filter f with
  | nil => rw [e] at mm; cases mm
  | cons b r =>
    rw [e] at mm sor
    have hb : b ∈ (List.range' a n).filter f := by rw [e]; exact List.mem_cons_self ..
    rw [List.mem_filter, List.mem_range'_1] at hb
    rcases List.mem_cons.mp mm with rfl | z
    · exact ⟨r, rfl⟩
    · have := (List.pairwise_cons.mp sor).1 m z
      rw [h2 b hb.1.1 this] at hb
      exact absurd hb.2 (by decide)
end Tw

namespace Tw
open PySem
open PySem.Spec PyProof.Rows L2
/-- the value of a polynomial of n numbers -/
def ev (c : Nat → Rat) (n : Nat) (z : Rat) : Rat := sumN (fun k => c k * z ^ k) n
theorem ev_front (c : Nat → Rat) (n : Nat) (z : Rat) : ev c (n + 1) z = c 0 + z * ev (fun k => c (k + 1)) n z := by
  unfold ev
  rw [sumN_front, ← sumN_mul]
  have : sumN (fun i => c (i + 1) * z ^ (i + 1)) n = sumN (fun i => z * (c (i + 1) * z ^ i)) n := sumN_congr n fun i _ => by
    rw [Rat.pow_succ]
    grind
  rw [this]
  rw [show z ^ 0 = (1 : Rat) from Rat.pow_zero ..]
  grind
theorem ev_part : ∀ (n : Nat) (c : Nat → Rat) (x : Rat), ∃ q : Nat → Rat, ∀ z, ev c (n + 1) z = ev c (n + 1) x + (z - x) * ev q n z
  | 0, c, x => ⟨fun _ => 0, fun z => by
    rw [ev_front, ev_front]
    show c 0 + z * 0 = c 0 + x * 0 + (z - x) * 0
    grind⟩
  | n + 1, c, x => by
    obtain ⟨q, hq⟩ := ev_part n (fun k => c (k + 1)) x
    refine ⟨fun k => match k with | 0 => ev (fun k => c (k + 1)) (n + 1) x | k + 1 => q k, fun z => ?_⟩
    rw [ev_front c (n + 1) z, ev_front c (n + 1) x, hq z, ev_front _ n z]
    show _ = _ + (z - x) * (ev (fun k => c (k + 1)) (n + 1) x + z * ev q n z)
    grind
/-- more zeros than the degree: nought -/
theorem ev_roots : ∀ (l : List Rat) (c : Nat → Rat), l.Nodup → (∀ x, x ∈ l → ev c l.length x = 0) → ∀ z, ev c l.length z = 0
  | [], c, _, _, z => rfl
  | x :: l, c, nd, h, z => by
    rw [List.nodup_cons] at nd
    obtain ⟨q, hq⟩ := ev_part l.length c x
    have h0 : ev c (l.length + 1) x = 0 := h x (List.mem_cons_self ..)
    have ih := ev_roots l q nd.2 fun y m => by
      have hy : ev c (l.length + 1) y = 0 := h y (List.mem_cons_of_mem _ m)
      rw [hq y, h0, Rat.zero_add] at hy
      rcases Rat.mul_eq_zero.mp hy with e | e
      · have : y = x := by grind
        exact absurd (this ▸ m) nd.1
      · exact e
    rw [List.length_cons, hq z, h0, ih z]
    grind
/-- rows of the powers 1 to m of steps -/
def powM (p : List Rat) (m : Nat) : Mx := (List.range m).map fun k => p.map (· ^ (k + 1))
theorem powM_len {p : List Rat} {m : Nat} : (powM p m).length = m := by unfold powM; rw [List.length_map, List.length_range]
theorem wd_pow {p : List Rat} {m : Nat} : Wd p.length (powM p m) := fun r hr => by
  obtain ⟨k, _, rfl⟩ := List.mem_map.mp hr
  exact List.length_map ..
theorem rw_pow {p : List Rat} {m k : Nat} (h : k < m) : rw' (powM p m) k = p.map (· ^ (k + 1)) := by
  rw [rw_get (by rw [powM_len]; exact h)]
  unfold powM
  rw [List.getElem_map, List.getElem_range]
theorem cf_mapF {f : Rat → Rat} {p : List Rat} {k : Nat} (h : k < p.length) : cf (p.map f) k = f (cf p k) := by
  rw [cf_get (by rw [List.length_map]; exact h), cf_get h, List.getElem_map]
/-- what weights for the powers up to m make of polynomials of m + 1 numbers -/
theorem wsol_ev {p : List Rat} {m : Nat} {x c : Nat → Rat} (h : WSol (powM p m) p.length x) : sumN (fun i => x i * ev c (m + 1) (cf p i)) p.length = c 0 := by
  have e1 : sumN (fun i => x i * ev c (m + 1) (cf p i)) p.length = sumN (fun i => sumN (fun k => x i * (c k * cf p i ^ k)) (m + 1)) p.length := sumN_congr _ fun i _ => by
    unfold ev
    rw [sumN_mul]
  rw [e1, sumN_swap, sumN_front]
  have e2 : sumN (fun j => x j * (c 0 * cf p j ^ 0)) p.length = c 0 := by
    have : sumN (fun j => x j * (c 0 * cf p j ^ 0)) p.length = c 0 * sumN x p.length := by
      rw [← sumN_mul]
      refine sumN_congr _ fun j _ => ?_
      rw [show cf p j ^ 0 = (1 : Rat) from Rat.pow_zero ..]
      grind
    rw [this, h.1, Rat.mul_one]
  have e3 : sumN (fun i => sumN (fun i_1 => x i_1 * (c (i + 1) * cf p i_1 ^ (i + 1))) p.length) m = 0 := sumN_zero m fun k hk => by
    have := h.2 _ (rw_mem (F := powM p m) (i := k) (by rw [powM_len]; exact hk))
    rw [rw_pow hk] at this
    unfold dotR at this
    have e4 : sumN (fun j => x j * (c (k + 1) * cf p j ^ (k + 1))) p.length = c (k + 1) * sumN (fun i => cf (p.map (· ^ (k + 1))) i * x i) p.length := by
      rw [← sumN_mul]
      refine sumN_congr _ fun j hj => ?_
      rw [cf_mapF hj]
      grind
    rw [e4, this, Rat.mul_zero]
  rw [e2, e3, Rat.add_zero]
/-- there are weights for the powers up to one less than steps -/
theorem wsol_ex {p : List Rat} (nd : p.Nodup) (hp : p ≠ []) : ∃ x : List Rat, x.length = p.length ∧ WSol (powM p (p.length - 1)) p.length (cf x) := by
  rcases one_of (wd_pow (p := p) (m := p.length - 1)) with h | ⟨c, hc⟩
  · exact h
  · exfalso
    have lp := len_pos hp
    have h := ev_roots p (fun k => match k with | 0 => -1 | k + 1 => c k) nd fun x m => by
      obtain ⟨i, hi, rfl⟩ := List.getElem_of_mem m
      have hb := hc i hi
      rw [powM_len] at hb
      obtain ⟨n, hn⟩ : ∃ n, p.length = n + 1 := ⟨p.length - 1, by omega⟩
      rw [hn, ev_front]
      have : p[i] * ev (fun k => c k) n p[i] = sumN (fun j => en (powM p (p.length - 1)) j i * c j) (p.length - 1) := by
        unfold ev
        rw [← sumN_mul, hn, Nat.add_sub_cancel]
        refine sumN_congr n fun k hk => ?_
        unfold en
        rw [rw_pow (by omega), cf_mapF hi, cf_get hi, Rat.pow_succ]
        grind
      show -1 + p[i] * ev (fun k => c k) n p[i] = 0
      rw [this, hb]
      grind
    have h0 := h 0
    obtain ⟨n, hn⟩ : ∃ n, p.length = n + 1 := ⟨p.length - 1, by omega⟩
    rw [hn, ev_front] at h0
    have : (-1 : Rat) + 0 * ev (fun k => c k) n 0 = 0 := h0
    grind
/-- the product of each of the first m other steps over its distance -/
def wp (p : List Rat) (i : Nat) : Nat → Rat
  | 0 => 1
  | k + 1 => if k = i then wp p i k else wp p i k * (cf p k / (cf p k - cf p i))
/-- the product of z less each of the first m other steps -/
def rp (p : List Rat) (i : Nat) (z : Rat) : Nat → Rat
  | 0 => 1
  | k + 1 => if k = i then rp p i z k else rp p i z k * (z - cf p k)
def rc (p : List Rat) (i : Nat) : Nat → (Nat → Rat)
  | 0 => fun k => if k = 0 then 1 else 0
  | m + 1 => if m = i then rc p i m else fun k => (match k with | 0 => 0 | k + 1 => rc p i m k) - cf p m * rc p i m k
theorem ev_shift (c : Nat → Rat) (n : Nat) (z : Rat) : ev (fun k => match k with | 0 => 0 | k + 1 => c k) (n + 1) z = z * ev c n z := by
  rw [ev_front]
  show 0 + z * ev c n z = _
  rw [Rat.zero_add]
theorem ev_more {c : Nat → Rat} {n : Nat} (h : c n = 0) (z : Rat) : ev c (n + 1) z = ev c n z := by
  unfold ev
  rw [sumN, h, Rat.zero_mul, Rat.add_zero]
theorem ev_up {c : Nat → Rat} {n : Nat} (h : ∀ k, n ≤ k → c k = 0) (z : Rat) : ∀ m, n ≤ m → ev c m z = ev c n z
  | 0, hm => by rw [show n = 0 from by omega]
  | m + 1, hm => by
    by_cases e : n = m + 1
    · rw [e]
    · rw [ev_more (h m (by omega)), ev_up h z m (by omega)]
theorem ev_lin (a b : Nat → Rat) (y : Rat) (z : Rat) : ∀ n, ev (fun k => a k - y * b k) n z = ev a n z - y * ev b n z
  | 0 => by
    show (0 : Rat) = 0 - y * 0
    grind
  | n + 1 => by
    have ih := ev_lin a b y z n
    unfold ev at ih ⊢
    rw [sumN, sumN, sumN, ih]
    grind
/-- its degree is the number of the steps taken -/
def cnt (i : Nat) : Nat → Nat
  | 0 => 0
  | m + 1 => if m = i then cnt i m else cnt i m + 1
theorem rc_facts (p : List Rat) (i : Nat) : ∀ m, (∀ k, cnt i m < k → rc p i m k = 0) ∧ ∀ z, ev (rc p i m) (cnt i m + 1) z = rp p i z m
  | 0 => ⟨fun k h => if_neg (by
      show ¬ k = 0
      have : cnt i 0 = 0 := rfl
      omega), fun z => by
    show ev _ 1 z = 1
    unfold ev
    simp only [sumN]
    rw [show z ^ 0 = (1 : Rat) from Rat.pow_zero ..]
    show 0 + (if (0 : Nat) = 0 then (1 : Rat) else 0) * 1 = 1
    rw [if_pos rfl]
    grind⟩
  | m + 1 => by
    obtain ⟨h1, h2⟩ := rc_facts p i m
    by_cases e : m = i
    · simp only [rc, rp, cnt, if_pos e]
      exact ⟨h1, h2⟩
    · simp only [rc, rp, cnt, if_neg e]
      refine ⟨fun k hk => ?_, fun z => ?_⟩
      · cases k with
        | zero => omega
        | succ k =>
          show rc p i m k - cf p m * rc p i m (k + 1) = 0
          rw [h1 k (by omega), h1 (k + 1) (by omega)]
          grind
      · rw [ev_lin, ev_shift, ev_more (n := cnt i m + 1) (h1 _ (by omega)), h2 z]
        grind
theorem rp_zero (p : List Rat) (i : Nat) : ∀ (m j : Nat), j < m → j ≠ i → rp p i (cf p j) m = 0
  | 0, j, h, _ => by omega
  | m + 1, j, h, ne => by
    by_cases e : m = i
    · simp only [rp, if_pos e]
      exact rp_zero p i m j (by omega) ne
    · simp only [rp, if_neg e]
      by_cases e2 : j = m
      · rw [e2]; grind
      · rw [rp_zero p i m j (by omega) ne, Rat.zero_mul]
theorem wp_rp {p : List Rat} {i : Nat} (h : ∀ k, k ≠ i → k < p.length → cf p k ≠ cf p i) : ∀ m, m ≤ p.length → wp p i m * rp p i (cf p i) m = rp p i 0 m ∧ rp p i (cf p i) m ≠ 0
  | 0, _ => ⟨by show (1 : Rat) * 1 = 1; grind, by show (1 : Rat) ≠ 0; decide⟩
  | m + 1, hm => by
    obtain ⟨h1, h2⟩ := wp_rp h m (by omega)
    by_cases e : m = i
    · simp only [wp, rp, if_pos e]
      exact ⟨h1, h2⟩
    · simp only [wp, rp, if_neg e]
      have hd : cf p i - cf p m ≠ 0 := fun z => h m e (by omega) (by grind)
      refine ⟨?_, fun z => (Rat.mul_eq_zero.mp z).elim h2 hd⟩
      have hd2 : cf p m - cf p i ≠ 0 := fun z => hd (by grind)
      rw [← h1]
      grind
theorem cnt_lt {i n : Nat} (h : i < n) : cnt i n = n - 1 := by
  have : ∀ m, cnt i m = if i < m then m - 1 else m := fun m => by
    induction m with
    | zero => rfl
    | succ m ih =>
      rw [cnt, ih]
      by_cases e : m = i
      · rw [if_pos e, if_neg (by omega), if_pos (by omega)]; omega
      · rw [if_neg e]
        by_cases e2 : i < m
        · rw [if_pos e2, if_pos (by omega)]; omega
        · rw [if_neg e2, if_neg (by omega)]
  rw [this, if_pos h]
theorem cnt_ge {i n : Nat} (h : n ≤ i) : cnt i n = n := by
  induction n with
  | zero => rfl
  | succ n ih => rw [cnt, if_neg (by omega), ih (by omega)]
/-- the weights told -/
def lagr (p : List Rat) : List Rat := (List.range p.length).map fun i => wp p i p.length
theorem lagr_len {p : List Rat} : (lagr p).length = p.length := by unfold lagr; rw [List.length_map, List.length_range]
theorem cf_lagr {p : List Rat} {i : Nat} (h : i < p.length) : cf (lagr p) i = wp p i p.length := by
  rw [cf_get (by rw [lagr_len]; exact h)]
  unfold lagr
  rw [List.getElem_map, List.getElem_range]
theorem nd_cf {p : List Rat} (nd : p.Nodup) {i k : Nat} (hi : i < p.length) (hk : k < p.length) (ne : k ≠ i) : cf p k ≠ cf p i := by
  rw [cf_get hk, cf_get hi]
  intro e
  have pw := List.pairwise_iff_getElem.mp nd
  rcases Nat.lt_or_gt_of_ne ne with q | q
  · exact pw k i hk hi q e
  · exact pw i k hi hk q e.symm
/-- all weights for these powers are those -/
theorem wsol_uniq {p : List Rat} (nd : p.Nodup) {x : Nat → Rat} (h : WSol (powM p (p.length - 1)) p.length x) (i : Nat) (hi : i < p.length) : x i = wp p i p.length := by
  obtain ⟨r1, r2⟩ := rc_facts p i p.length
  rw [cnt_lt hi] at r1 r2
  have e := wsol_ev (c := rc p i p.length) h
  have n1 : p.length - 1 + 1 = p.length := by omega
  rw [n1] at e r2
  rw [sumN_single (k := i) p.length hi fun j hj ne => by rw [r2, rp_zero p i p.length j hj ne, Rat.mul_zero], r2] at e
  have z : rc p i p.length 0 = rp p i 0 p.length := by
    have := r2 0
    obtain ⟨n, hn⟩ : ∃ n, p.length = n + 1 := ⟨p.length - 1, by omega⟩
    rw [← this]
    conv => rhs; rw [hn, ev_front]
    rw [hn]
    grind
  obtain ⟨h1, h2⟩ := wp_rp (p := p) (i := i) (fun k ne hk => nd_cf nd hi hk ne) p.length (Nat.le_refl _)
  rw [z, ← h1] at e
  grind
theorem lagr_wsol {p : List Rat} (nd : p.Nodup) (hp : p ≠ []) : WSol (powM p (p.length - 1)) p.length (cf (lagr p)) := by
  obtain ⟨x, lx, hx⟩ := wsol_ex nd hp
  have : x = lagr p := cf_ext (lx.trans lagr_len.symm) fun k => by
    by_cases hk : k < p.length
    · rw [wsol_uniq nd hx k hk, cf_lagr hk]
    · rw [cf_out (by omega), cf_out (by rw [lagr_len]; omega)]
  rw [← this]
  exact hx
/-- none beside as many powers as steps -/
theorem wsol_none {p : List Rat} (h0 : ∀ y, y ∈ p → y ≠ 0) {x : Nat → Rat} : ¬ WSol (powM p p.length) p.length x := fun h => by
  obtain ⟨r1, r2⟩ := rc_facts p p.length p.length
  rw [cnt_ge (Nat.le_refl _)] at r1 r2
  have e := wsol_ev (c := rc p p.length p.length) h
  rw [sumN_zero p.length fun j hj => by rw [r2, rp_zero p p.length p.length j hj (by omega), Rat.mul_zero]] at e
  have z : rc p p.length p.length 0 = rp p p.length 0 p.length := by
    rw [← r2 0, ev_front]
    grind
  have nz : ∀ m, m ≤ p.length → rp p p.length 0 m ≠ 0 := fun m => by
    induction m with
    | zero => intro _; show (1 : Rat) ≠ 0; decide
    | succ m ih =>
      intro hm q
      simp only [rp] at q
      rw [if_neg (by omega)] at q
      rcases Rat.mul_eq_zero.mp q with q | q
      · exact ih (by omega) q
      · have : cf p m = 0 := by grind
        rw [cf_get (by omega)] at this
        exact h0 _ (List.getElem_mem _) this
  rw [z] at e
  exact nz p.length (Nat.le_refl _) e.symm
end Tw
namespace Tw
open PySem
open PySem.Spec PyProof.Rows L2
/-- a fraction without its sign -/
def absQ (x : Rat) : Rat := if x.num < 0 then -x else x
theorem absQ_num (x : Rat) : (absQ x).num = (x.num.natAbs : Int) ∧ (absQ x).den = x.den := by
  unfold absQ
  by_cases h : x.num < 0
  · rw [if_pos h, Rat.neg_num, Rat.neg_den]
    exact ⟨by omega, rfl⟩
  · rw [if_neg h]
    exact ⟨by omega, rfl⟩
theorem Sz.abs {b : Nat} {x : Rat} (h : Sz b x) : Sz b (absQ x) := ⟨by rw [(absQ_num x).1]; simpa using h.n, by rw [(absQ_num x).2]; exact h.d⟩
theorem SzL.abs {b : Nat} {p : List Rat} (h : SzL b p) : SzL b (p.map absQ) := fun y m => by
  obtain ⟨x, hx, rfl⟩ := List.mem_map.mp m
  exact (h x hx).abs
theorem tQ_abs (x : Rat) : tQ (absQ x) = .tup [.int (x.num.natAbs : Int), .int x.den] := by
  unfold tQ
  rw [(absQ_num x).1, (absQ_num x).2]
theorem Sz.pow {b : Nat} {x : Rat} (h : Sz b x) : ∀ n, Sz (b * n + 1) (x ^ n)
  | 0 => by rw [Rat.pow_zero]; exact (show Sz 1 (1 : Rat) from ⟨by decide, by decide⟩).mono (by omega)
  | n + 1 => by rw [Rat.pow_succ]; exact ((Sz.pow h n).mul h).mono (by rw [Nat.mul_succ]; omega)
theorem wp_sz {p : List Rat} {b : Nat} (h : SzL b p) (i : Nat) (nd : p.Nodup) (hi : i < p.length) : ∀ m, m ≤ p.length → Sz (1 + m * (3 * b + 5)) (wp p i m)
  | 0, _ => (show Sz 1 (1 : Rat) from ⟨by decide, by decide⟩).mono (by omega)
  | m + 1, hm => by
    have ih := wp_sz h i nd hi m (by omega)
    rw [wp]
    by_cases e : m = i
    · rw [if_pos e]; exact ih.mono (by rw [Nat.add_mul]; omega)
    · rw [if_neg e]
      have h1 := h.cf m
      have h2 := h1.sub (h.cf i)
      have ne : cf p m - cf p i ≠ 0 := fun z => nd_cf nd hi (by omega) e (by grind)
      have h3 := h1.mul (h2.inv ne)
      have e2 : cf p m / (cf p m - cf p i) = cf p m * (1 / (cf p m - cf p i)) := by grind
      rw [e2]
      exact (ih.mul h3).mono (by rw [Nat.add_mul]; omega)
end Tw
namespace Tw
open PySem
open PySem.Spec PyProof.Rows L2
theorem inT_Q (x : Rat) : ∀ l : List Rat, inT (tQ x) (tQs l) = decide (x ∈ l)
  | [] => rfl
  | y :: l => by
    have e := eqT_Q y x
    unfold eqT at e
    show (PyData.eqv (tQ y).toD (tQ x).toD || inT (tQ x) (tQs l)) = _
    rw [e, inT_Q x l]
    by_cases h : y = x
    · subst h; simp
    · have h2 : x ≠ y := fun z => h z.symm
      simp [h, h2]
theorem inOk_Q (x : Rat) (l : List Rat) : InOk (tQ x) (tQs l) := ⟨rfl, datas_Qs l, rfl, shaped_LQ l⟩
end Tw
namespace Tw
open PySem
open PySem.Spec PyProof.Rows L2
theorem powM_succ {p : List Rat} {m : Nat} : powM p (m + 1) = powM p m ++ [p.map (· ^ (m + 1))] := by unfold powM; rw [List.range_succ, List.map_append]; rfl
theorem zip_pow {p : List Rat} (k : Nat) : List.zipWith (· * ·) (p.map (· ^ k)) p = p.map (· ^ (k + 1)) := by
  induction p with
  | nil => rfl
  | cons x p ih => rw [List.map_cons, List.zipWith_cons_cons, ih, List.map_cons, Rat.pow_succ]
theorem SzL.pow {b : Nat} {p : List Rat} (h : SzL b p) (k : Nat) : SzL (b * k + 1) (p.map (· ^ k)) := fun y m => by
  obtain ⟨x, hx, rfl⟩ := List.mem_map.mp m
  exact (h x hx).pow k
theorem powM_sz {b m n : Nat} {p : List Rat} (h : SzL b p) (hm : b * m + 1 ≤ n) : SzM n (powM p m) := fun r hr => by
  obtain ⟨k, hk, rfl⟩ := List.mem_map.mp hr
  have hk := List.mem_range.mp hk
  have : b * (k + 1) ≤ b * m := Nat.mul_le_mul_left _ hk
  exact (h.pow (k + 1)).mono (by omega)
theorem pval_ev (z : Rat) : ∀ p : List Rat, pval p z = ev (cf p) p.length z
  | [] => rfl
  | x :: p => by
    rw [List.length_cons, ev_front, cf_zero, show (fun k => cf (x :: p) (k + 1)) = cf p from rfl, ← pval_ev z p, pval]
theorem lagr_sz {p : List Rat} {b : Nat} (h : SzL b p) (nd : p.Nodup) : SzL (1 + p.length * (3 * b + 5)) (lagr p) := fun y m => by
  obtain ⟨i, hi, rfl⟩ := List.mem_map.mp m
  exact wp_sz h i nd (List.mem_range.mp hi) p.length (Nat.le_refl _)
/-- the weights lead a polynomial of a lesser degree to its value at 0 -/
theorem lagr_at {p c : List Rat} (nd : p.Nodup) (hp : p ≠ []) (hc : c.length = p.length) : dotL (lagr p) (p.map (pval c)) = cf c 0 := by
  have lp := len_pos hp
  rw [dotL_dot (n := p.length) lagr_len (List.length_map ..)]
  have h := wsol_ev (c := cf c) (lagr_wsol nd hp)
  rw [show p.length - 1 + 1 = p.length from by omega] at h
  rw [← h]
  unfold dotR
  refine sumN_congr _ fun i hi => ?_
  rw [cf_mapF hi, pval_ev, hc]
theorem powM_tells {p : List Rat} (nd : p.Nodup) (hp : p ≠ []) (x : List Rat) (lx : x.length = p.length) (h : WSol (powM p (p.length - 1)) p.length (cf x)) : x = lagr p :=
  cf_ext (lx.trans lagr_len.symm) fun k => by
    by_cases hk : k < p.length
    · rw [wsol_uniq nd h k hk, cf_lagr hk]
    · rw [cf_out (by omega), cf_out (by rw [lagr_len]; omega)]
end Tw

namespace Tw
open PS PySem PySem.Spec PyProof.Rows L2
/-- whole numbers whose sizes add up to N at most -/
inductive Nq : Nat → PS → Prop
  | zero {N : Nat} : Nq N 0
  | add {N M : Nat} {f : PS} (a : Int) (s : Nat) : Nq N f → N + a.natAbs ≤ M → Nq M (f + C (a : Rat) * Mn s)
theorem Nq.mono {N M : Nat} {f : PS} (h : Nq N f) (l : N ≤ M) : Nq M f := by
  cases h with
  | zero => exact .zero
  | add a s h k => exact .add a s h (Nat.le_trans k l)
theorem Nq.sum {M : Nat} {g : PS} (hg : Nq M g) : ∀ {N : Nat} {f : PS}, Nq N f → Nq (N + M) (f + g) := by
  induction hg with
  | zero => intro N f h; rw [show f + 0 = f from by grind]; exact h.mono (by omega)
  | add a s _ k ih =>
    rename_i N0 M0 g0 hh
    intro N f h
    rw [show f + (g0 + C (a : Rat) * Mn s) = (f + g0) + C (a : Rat) * Mn s from by grind]
    exact .add a s (ih h) (by omega)
theorem C_cast (a b : Int) : C (a : Rat) * C (b : Rat) = C ((a * b : Int) : Rat) := by rw [C_mulC, Rat.intCast_mul]
theorem Nq.term {M : Nat} {g : PS} (a : Int) (s : Nat) (hg : Nq M g) : Nq (a.natAbs * M) (C (a : Rat) * Mn s * g) := by
  induction hg with
  | zero => rw [show C (a : Rat) * Mn s * 0 = 0 from by grind]; exact .zero
  | add b t _ k ih =>
    rename_i N0 M0 g0 hh
    rw [show C (a : Rat) * Mn s * (g0 + C (b : Rat) * Mn t) = C (a : Rat) * Mn s * g0 + C (a : Rat) * C (b : Rat) * (Mn s * Mn t) from by grind, C_cast, Mn_add]
    refine .add _ _ ih ?_
    rw [Int.natAbs_mul, ← Nat.mul_add]
    exact Nat.mul_le_mul_left _ k
theorem Nq.mul {N M : Nat} {f g : PS} (hf : Nq N f) (hg : Nq M g) : Nq (N * M) (f * g) := by
  induction hf with
  | zero => rw [show 0 * g = 0 from by grind]; exact .zero
  | add a s _ k ih =>
    rename_i N0 M0 f0 hh
    rw [show (f0 + C (a : Rat) * Mn s) * g = f0 * g + C (a : Rat) * Mn s * g from by grind]
    refine (Nq.sum (hg.term a s) ih).mono ?_
    rw [← Nat.add_mul]
    exact Nat.mul_le_mul_right _ k
theorem Nq.neg {N : Nat} {f : PS} (hf : Nq N f) : Nq N (-f) := by
  have h := hf.term (-1) 0
  have e : C ((-1 : Int) : Rat) * Mn 0 * f = -f := by
    have : Mn 0 = 1 := PS.ext fun n => by
      rw [PS.one_eq, PS.C_c]
      rfl
    rw [this]
    refine PS.ext fun n => ?_
    rw [show C ((-1 : Int) : Rat) * 1 * f = C ((-1 : Int) : Rat) * f from by grind, PS.Cm_c, PS.neg_c]
    show -1 * _ = _
    grind
  rw [e] at h
  simpa using h
/-- the numbers are whole; the sum of their sizes -/
def absS (F : Nat → Int) : Nat → Nat
  | 0 => 0
  | n + 1 => absS F n + (F n).natAbs
theorem absS_le {F G : Nat → Int} (h : ∀ k, (F k).natAbs ≤ (G k).natAbs) : ∀ n, absS F n ≤ absS G n
  | 0 => Nat.le_refl _
  | n + 1 => Nat.add_le_add (absS_le h n) (h n)
theorem absS_add (F : Nat → Int) (a : Int) (s : Nat) : ∀ n, absS (fun k => F k + if k = s then a else 0) n ≤ absS F n + (if s < n then a.natAbs else 0)
  | 0 => by simp [absS]
  | n + 1 => by
    have ih := absS_add F a s n
    simp only [absS]
    by_cases h : n = s
    · subst h
      rw [if_neg (by omega)] at ih
      rw [if_pos rfl, if_pos (by omega)]
      omega
    · rw [if_neg h]
      by_cases h2 : s < n
      · rw [if_pos h2] at ih
        rw [if_pos (by omega)]
        omega
      · rw [if_neg h2] at ih
        rw [if_neg (by omega)]
        omega
theorem Nq.ints {N : Nat} {f : PS} (h : Nq N f) : ∃ F : Nat → Int, (∀ k, f.c k = (F k : Rat)) ∧ ∀ n, absS F n ≤ N := by
  induction h with
  | zero => exact ⟨fun _ => 0, fun k => zero_c k, fun n => by
      have : ∀ n, absS (fun _ => 0) n = 0 := fun n => by induction n with
        | zero => rfl
        | succ n ih => rw [absS, ih]; rfl
      rw [this]; omega⟩
  | add a s _ k ih =>
    obtain ⟨F, h1, h2⟩ := ih
    refine ⟨fun j => F j + if j = s then a else 0, fun j => ?_, fun n => ?_⟩
    · rw [PS.add_c, PS.Cm_c, h1]
      show _ + _ * (if j = s then (1 : Rat) else 0) = ((F j + if j = s then a else 0 : Int) : Rat)
      by_cases e : j = s
      · rw [if_pos e, if_pos e, Rat.mul_one, Rat.intCast_add]
      · rw [if_neg e, if_neg e, Rat.mul_zero, Int.add_zero, Rat.add_zero]
    · have h3 := absS_add F a s n
      have h4 := h2 n
      split at h3 <;> omega
theorem absS_at (F : Nat → Int) {k : Nat} : ∀ n, k < n → (F k).natAbs ≤ absS F n
  | 0, h => absurd h (Nat.not_lt_zero k)
  | n + 1, h => by
    rw [absS]
    by_cases e : k = n
    · subst e; omega
    · have := absS_at F n (show k < n by omega); omega
/-- a polynomial over one number below, all sizes together N at most -/
def Nm (N : Nat) (p : List Rat) : Prop := ∃ D : Int, D ≠ 0 ∧ D.natAbs ≤ N ∧ Nq N (C (D : Rat) * ps p)
theorem Nm.mono {N M : Nat} {p : List Rat} (h : Nm N p) (l : N ≤ M) : Nm M p := by
  obtain ⟨D, d0, d1, h⟩ := h
  exact ⟨D, d0, Nat.le_trans d1 l, h.mono l⟩
theorem Nm.ov {N b : Nat} {p : List Rat} (h : Nm N p) (l : N < 2 ^ b) : ∃ D : Int, D ≠ 0 ∧ D.natAbs < 2 ^ b ∧ ∀ k, Ov b D (cf p k) := by
  obtain ⟨D, d0, d1, h⟩ := h
  obtain ⟨F, h1, h2⟩ := h.ints
  refine ⟨D, d0, Nat.lt_of_le_of_lt d1 l, fun k => ⟨F k, ?_, ?_⟩⟩
  · exact Nat.lt_of_le_of_lt (Nat.le_trans (absS_at F (k + 1) (by omega)) (h2 (k + 1))) l
  · rw [← h1 k, PS.Cm_c, Rat.mul_comm]
    rfl
theorem Nm.ht {N b : Nat} {p : List Rat} (h : Nm N p) (l : N < 2 ^ b) : Ht b p := by
  obtain ⟨D, d0, d1, h⟩ := h.ov l
  exact .of_cf ⟨D, d0, d1, fun k _ => h k⟩
theorem Nm.of {N M : Nat} {p q r : List Rat} (hp : Nm N p) (hq : Nm M q) (e : ps r = ps p * ps q) : Nm (N * M) r := by
  obtain ⟨D, d0, d1, h⟩ := hp
  obtain ⟨E, e0, e1, g⟩ := hq
  refine ⟨D * E, Int.mul_ne_zero d0 e0, by rw [Int.natAbs_mul]; exact Nat.mul_le_mul d1 e1, ?_⟩
  rw [← C_cast, e, show C (D : Rat) * C (E : Rat) * (ps p * ps q) = (C (D : Rat) * ps p) * (C (E : Rat) * ps q) from by grind]
  exact h.mul g
theorem Nm.prod {N M : Nat} {p q : List Rat} (hp : Nm N p) (hq : Nm M q) : Nm (N * M) (prodP p q) := hp.of hq (ps_prod p q)
theorem Nm.scale {N M : Nat} {p q : List Rat} {x : Rat} (hp : Nm N p) (h1 : x.num.natAbs ≤ M) (h2 : x.den ≤ M) (e : ps q = C x * ps p) : Nm (N * M) q := by
  obtain ⟨D, d0, d1, h⟩ := hp
  have dn : (x.den : Int) ≠ 0 := by have := x.den_nz; omega
  refine ⟨D * x.den, Int.mul_ne_zero d0 dn, by rw [Int.natAbs_mul, Int.natAbs_natCast]; exact Nat.mul_le_mul d1 h2, ?_⟩
  have ex : C ((x.den : Int) : Rat) * C x = C (x.num : Rat) * Mn 0 := by
    have m0 : Mn 0 = 1 := PS.ext fun n => by
      rw [PS.one_eq, PS.C_c]
      rfl
    rw [C_mulC, m0]
    have := Rat.num_divInt_den x
    rw [Rat.divInt_eq_div] at this
    have hv := castI_ne dn
    have e2 : ((x.den : Int) : Rat) * x = (x.num : Rat) := by grind
    rw [e2]
    grind
  rw [← C_cast, e, show C (D : Rat) * C ((x.den : Int) : Rat) * (C x * ps p) = (C ((x.den : Int) : Rat) * C x) * (C (D : Rat) * ps p) from by grind, ex]
  refine (h.term x.num 0).mono ?_
  rw [Nat.mul_comm]
  exact Nat.mul_le_mul_left _ h1
/-- made so that one of its numbers is 1 -/
theorem Nm.unit {N : Nat} {p q : List Rat} {k : Nat} (hp : Nm N p) (h0 : cf p k ≠ 0) (e : ps q = C (1 / cf p k) * ps p) : Nm N q := by
  obtain ⟨D, d0, d1, h⟩ := hp
  obtain ⟨F, h1, h2⟩ := h.ints
  have ek : cf p k * (D : Rat) = (F k : Rat) := by
    have := h1 k
    rw [PS.Cm_c] at this
    rw [← this, Rat.mul_comm]
    rfl
  have f0 : F k ≠ 0 := fun z => by
    rw [z] at ek
    rcases Rat.mul_eq_zero.mp (ek.trans (by rfl)) with y | y
    · exact h0 y
    · exact castI_ne d0 y
  refine ⟨F k, f0, Nat.le_trans (absS_at F (k + 1) (by omega)) (h2 (k + 1)), ?_⟩
  have : C (F k : Rat) * ps q = C (D : Rat) * ps p := by
    rw [e, show C (F k : Rat) * (C (1 / cf p k) * ps p) = C (F k : Rat) * C (1 / cf p k) * ps p from by grind, C_mulC, ← ek]
    congr 2
    grind
  rw [this]
  exact h
theorem Nm.shift {N j : Nat} {p q : List Rat} (hp : Nm N p) (e : ps q = Mn j * ps p) : Nm N q := by
  obtain ⟨D, d0, d1, h⟩ := hp
  refine ⟨D, d0, d1, ?_⟩
  have m := h.term 1 j
  rw [e, show C (D : Rat) * (Mn j * ps p) = C ((1 : Int) : Rat) * Mn j * (C (D : Rat) * ps p) from by
    have : C ((1 : Int) : Rat) = 1 := (PS.one_eq).symm
    rw [this]
    grind]
  simpa using m
theorem Nm.sum {N M : Nat} {p q r : List Rat} (hp : Nm N p) (hq : Nm M q) (e : ps r = ps p + ps q) : Nm (2 * (N * M)) r := by
  obtain ⟨D, d0, d1, h⟩ := hp
  obtain ⟨E, e0, e1, g⟩ := hq
  have l1 : (D * E).natAbs ≤ N * M := by rw [Int.natAbs_mul]; exact Nat.mul_le_mul d1 e1
  refine ⟨D * E, Int.mul_ne_zero d0 e0, by omega, ?_⟩
  have m0 : Mn 0 = 1 := PS.ext fun n => by
    rw [PS.one_eq, PS.C_c]
    rfl
  have t1 := h.term E 0
  have t2 := g.term D 0
  rw [m0] at t1 t2
  rw [← C_cast, e, show C (D : Rat) * C (E : Rat) * (ps p + ps q) = C (E : Rat) * 1 * (C (D : Rat) * ps p) + C (D : Rat) * 1 * (C (E : Rat) * ps q) from by grind]
  refine (Nq.sum t2 t1).mono ?_
  have u1 : E.natAbs * N ≤ M * N := Nat.mul_le_mul_right _ e1
  have u2 : D.natAbs * M ≤ N * M := Nat.mul_le_mul_right _ d1
  rw [Nat.mul_comm M N] at u1
  omega
/-- one number -/
theorem Nm.one {N : Nat} {x : Rat} (h1 : x.num.natAbs ≤ N) (h2 : x.den ≤ N) : Nm N [x] := by
  have dn : (x.den : Int) ≠ 0 := by have := x.den_nz; omega
  refine ⟨x.den, dn, by simpa using h2, ?_⟩
  have m0 : Mn 0 = 1 := PS.ext fun n => by
    rw [PS.one_eq, PS.C_c]
    rfl
  have e : C ((x.den : Int) : Rat) * ps [x] = 0 + C (x.num : Rat) * Mn 0 := by
    rw [ps_one, C_mulC, m0]
    have := Rat.num_divInt_den x
    rw [Rat.divInt_eq_div] at this
    have hv := castI_ne dn
    have e2 : ((x.den : Int) : Rat) * x = (x.num : Rat) := by grind
    rw [e2]
    grind
  rw [e]
  exact .add x.num 0 (.zero (N := 0)) (by omega)
theorem ps_cons (x : Rat) (p : List Rat) : ps (x :: p) = C x + Mn 1 * ps p := PS.ext fun k => by
  rw [PS.add_c, Mn_c, PS.C_c, ps_c]
  cases k with
  | zero => rw [if_pos rfl, if_neg (by omega), Rat.add_zero]; rfl
  | succ k => rw [if_neg (by omega), if_pos (by omega), Rat.zero_add]; rfl
/-- numbers told over one number below -/
theorem Nm.ofInts {N : Nat} {p : List Rat} {D : Int} (d0 : D ≠ 0) (l : List Int) (d1 : D.natAbs ≤ N) (s : (l.map Int.natAbs).sum ≤ N) (e : p.map (· * (D : Rat)) = l.map fun i : Int => ((i : Int) : Rat)) : Nm N p := by
  refine ⟨D, d0, d1, ?_⟩
  have key : ∀ (p : List Rat) (l : List Int), p.map (· * (D : Rat)) = l.map (fun i : Int => ((i : Int) : Rat)) → ∀ s : Nat, Nq (l.map Int.natAbs).sum (Mn s * (C (D : Rat) * ps p)) := by
    intro p
    induction p with
    | nil => intro l _ s; rw [ps_nil, show Mn s * (C (D : Rat) * 0) = 0 from by grind]; exact .zero
    | cons x p ih =>
      intro l e s
      cases l with
      | nil => simp at e
      | cons i l =>
        (rw [List.map_cons, List.map_cons] at e)
        obtain ⟨e1, e2⟩ := List.cons.inj e
        have h := ih l e2 (s + 1)
        rw [ps_cons, show Mn s * (C (D : Rat) * (C x + Mn 1 * ps p)) = (Mn s * Mn 1) * (C (D : Rat) * ps p) + C (D : Rat) * C x * Mn s from by grind, Mn_add, C_mulC, show (D : Rat) * x = (i : Rat) from by rw [Rat.mul_comm]; exact e1]
        exact .add i s h (by simp; omega)
  have m0 : Mn 0 = 1 := PS.ext fun n => by
    rw [PS.one_eq, PS.C_c]
    rfl
  have h := key p l e 0
  rw [m0, show (1 : PS) * (C (D : Rat) * ps p) = C (D : Rat) * ps p from by grind] at h
  exact h.mono s
end Tw

namespace Tw
open PS PySem PySem.Spec PyProof.Rows L2
/-- the first numbers of a quotient -/
def serL (t u : List Rat) : Nat → List Rat
  | 0 => []
  | n + 1 => serL t u n ++ [(cf t n - sumN (fun i => cf u (i + 1) * cf (serL t u n) (n - 1 - i)) n) / cf u 0]
def serN (t u : List Rat) (n : Nat) : Rat := (cf t n - sumN (fun i => cf u (i + 1) * cf (serL t u n) (n - 1 - i)) n) / cf u 0
theorem serL_len (t u : List Rat) : ∀ n, (serL t u n).length = n
  | 0 => rfl
  | n + 1 => by rw [serL, List.length_append, serL_len t u n]; rfl
theorem cf_app {p q : List Rat} (k : Nat) : cf (p ++ q) k = if k < p.length then cf p k else cf q (k - p.length) := by
  unfold cf
  rw [List.getD_eq_getElem?_getD, List.getD_eq_getElem?_getD, List.getD_eq_getElem?_getD, List.getElem?_append]
  split <;> rfl
theorem cf_serL (t u : List Rat) : ∀ n k, k < n → cf (serL t u n) k = serN t u k
  | 0, k, h => absurd h (Nat.not_lt_zero k)
  | n + 1, k, h => by
    rw [serL, cf_app, serL_len]
    by_cases e : k < n
    · rw [if_pos e]; exact cf_serL t u n k e
    · rw [if_neg e, show k = n from by omega, Nat.sub_self]; rfl
theorem serN_eq (t u : List Rat) (n : Nat) : serN t u n = (cf t n - sumN (fun i => cf u (i + 1) * serN t u (n - 1 - i)) n) / cf u 0 := by
  conv => lhs; unfold serN
  rw [sumN_congr n fun i hi => by rw [cf_serL t u n (n - 1 - i) (by omega)]]
theorem serL_map (t u : List Rat) : ∀ n, serL t u n = (List.range n).map (serN t u)
  | 0 => rfl
  | n + 1 => by rw [serL, serL_map t u n, List.range_succ, List.map_append, ← serL_map t u n]; rfl
/-- as a row -/
def serS (t u : List Rat) : PS := ⟨serN t u⟩
theorem ser_mul {t u : List Rat} (h0 : cf u 0 ≠ 0) : ps u * serS t u = ps t := PS.ext fun n => by
  rw [PS.mul_c, sumN_front]
  have e := serN_eq t u n
  have h1 : sumN (fun i => (ps u).c (i + 1) * (serS t u).c (n - (i + 1))) n = sumN (fun i => cf u (i + 1) * serN t u (n - 1 - i)) n := sumN_congr n fun i hi => by
    show cf u (i + 1) * serN t u (n - (i + 1)) = _
    rw [show n - (i + 1) = n - 1 - i from by omega]
  rw [h1]
  show cf u 0 * serN t u n + _ = cf t n
  rw [e]
  grind
theorem ps_cancel0 {u f g : PS} (h0 : u.c 0 ≠ 0) (e : u * f = u * g) : f = g := by
  have key : ∀ n, ∀ k, k ≤ n → f.c k = g.c k := fun n => by
    induction n with
    | zero =>
      intro k hk
      rw [show k = 0 from by omega]
      have := congrArg (fun f => PS.c f 0) e
      simp only [PS.mul_c, sumN] at this
      rw [Rat.zero_add, Rat.zero_add] at this
      have h : u.c 0 * (f.c 0 - g.c 0) = 0 := by grind
      rcases Rat.mul_eq_zero.mp h with z | z
      · exact absurd z h0
      · grind
    | succ n ih =>
      intro k hk
      by_cases hn : k ≤ n
      · exact ih k hn
      · rw [show k = n + 1 from by omega]
        have := congrArg (fun f => PS.c f (n + 1)) e
        simp only [PS.mul_c] at this
        have e3 : sumN (fun i => u.c (i + 1) * f.c (n + 1 - (i + 1))) (n + 1) = sumN (fun i => u.c (i + 1) * g.c (n + 1 - (i + 1))) (n + 1) := sumN_congr (n + 1) fun i hi => by rw [ih (n + 1 - (i + 1)) (by omega)]
        rw [sumN_front (fun i => u.c i * f.c (n + 1 - i)), sumN_front (fun i => u.c i * g.c (n + 1 - i)), e3] at this
        have h : u.c 0 * (f.c (n + 1) - g.c (n + 1)) = 0 := by
          rw [Nat.sub_zero] at this
          grind
        rcases Rat.mul_eq_zero.mp h with z | z
        · exact absurd z h0
        · grind
  exact PS.ext fun n => key n n (Nat.le_refl n)
theorem ser_uniq {t u : List Rat} {f : PS} (h0 : cf u 0 ≠ 0) (e : ps u * f = ps t) : f = serS t u :=
  ps_cancel0 (u := ps u) h0 (e.trans (ser_mul h0).symm)
/-- the same series as the products across are the same -/
theorem ser_cross {t u s v : List Rat} (h0 : cf u 0 ≠ 0) (g0 : cf v 0 ≠ 0) : serS t u = serS s v ↔ ps t * ps v = ps s * ps u := by
  constructor
  · intro e
    rw [← ser_mul (t := t) h0, ← ser_mul (t := s) g0, e]
    grind
  · intro e
    refine ps_cancel0 (u := ps u * ps v) ?_ ?_
    · rw [PS.mul_c]
      simp only [sumN]
      rw [Rat.zero_add]
      exact fun z => (Rat.mul_eq_zero.mp z).elim h0 g0
    · rw [show ps u * ps v * serS t u = ps u * serS t u * ps v from by grind, show ps u * ps v * serS s v = ps v * serS s v * ps u from by grind, ser_mul h0, ser_mul g0, e]
/-- so many first numbers decide -/
theorem ser_first {t u s v : List Rat} (h0 : cf u 0 ≠ 0) (g0 : cf v 0 ≠ 0) {n : Nat} (l1 : t.length + v.length - 1 ≤ n) (l2 : s.length + u.length - 1 ≤ n) (h : ∀ k, k < n → serN t u k = serN s v k) : ps t * ps v = ps s * ps u := by
  have e : ps u * ps v * (serS t u - serS s v) = ps t * ps v - ps s * ps u := by
    rw [show ps u * ps v * (serS t u - serS s v) = ps u * serS t u * ps v - ps v * serS s v * ps u from by grind, ser_mul h0, ser_mul g0]
  have b : Bd n (ps t * ps v - ps s * ps u) := Bd.sub ((Bd.mul (ps_bd t) (ps_bd v)).mono l1) ((Bd.mul (ps_bd s) (ps_bd u)).mono l2)
  have z : ps t * ps v - ps s * ps u = 0 := PS.ext fun k => by
    rw [zero_c]
    by_cases hk : n ≤ k
    · exact b k hk
    · rw [← e, PS.mul_c]
      refine sumN_zero _ fun i hi => ?_
      have : (serS t u - serS s v).c (k - i) = 0 := by
        rw [PS.sub_c]
        show serN t u (k - i) - serN s v (k - i) = 0
        rw [h _ (by omega)]
        grind
      rw [this, Rat.mul_zero]
  have : ps t * ps v - ps s * ps u + ps s * ps u = 0 + ps s * ps u := by rw [z]
  grind
theorem absS_front (F : Nat → Int) : ∀ n, absS F (n + 1) = (F 0).natAbs + absS (fun k => F (k + 1)) n
  | 0 => by simp [absS]
  | n + 1 => by
    rw [absS, absS_front F n, absS]
    omega
/-- a partial sum on the way to the n-th number -/
def serP (t u : List Rat) (n k : Nat) : Rat := cf t n - sumN (fun i => cf u (i + 1) * serN t u (n - 1 - i)) k
theorem ser_bound {t u : List Rat} {N M : Nat} (h0 : cf u 0 ≠ 0) (hu : Nm N u) (ht : Nm M t) : ∃ D E U0 : Int, D ≠ 0 ∧ E ≠ 0 ∧ U0 ≠ 0 ∧ D.natAbs ≤ N ∧ E.natAbs ≤ M ∧ U0.natAbs ≤ N ∧
    ∀ n, (∀ k, k ≤ n → ∃ Z : Int, Z.natAbs ≤ M * N ^ (n + 1) ∧ serP t u n k * ((E * D * U0 ^ n : Int) : Rat) = (Z : Rat)) ∧ ∃ Y : Int, Y.natAbs ≤ M * N ^ (n + 1) ∧ serN t u n * ((E * U0 ^ (n + 1) : Int) : Rat) = (Y : Rat) := by
  obtain ⟨D, d0, d1, hD⟩ := hu
  obtain ⟨E, e0, e1, hE⟩ := ht
  obtain ⟨U, u1, u2⟩ := hD.ints
  obtain ⟨T, t1, t2⟩ := hE.ints
  have uc : ∀ k, (D : Rat) * cf u k = (U k : Rat) := fun k => by rw [← u1 k, PS.Cm_c]; rfl
  have tc : ∀ k, (E : Rat) * cf t k = (T k : Rat) := fun k => by rw [← t1 k, PS.Cm_c]; rfl
  have dv := castI_ne d0
  have ev := castI_ne e0
  have U0n : U 0 ≠ 0 := fun z => by
    have := uc 0
    rw [z] at this
    rcases Rat.mul_eq_zero.mp (this.trans (by rfl)) with y | y
    · exact dv y
    · exact h0 y
  have uv := castI_ne U0n
  have Ul : (U 0).natAbs ≤ N := Nat.le_trans (absS_at U 1 (by omega)) (u2 1)
  refine ⟨D, E, U 0, d0, e0, U0n, d1, e1, Ul, fun n => ?_⟩
  induction n
    using Nat.strongRecOn with
  | ind n ih =>
    have Zk : ∀ k, k ≤ n → ∃ Z : Int, Z.natAbs ≤ (U 0).natAbs ^ n * (N * M) + M * N ^ n * absS (fun i => U (i + 1)) k ∧ serP t u n k * ((E * D * U 0 ^ n : Int) : Rat) = (Z : Rat) := fun k => by
      induction k with
      | zero =>
        intro _
        refine ⟨U 0 ^ n * (D * T n), ?_, ?_⟩
        · rw [Int.natAbs_mul, Int.natAbs_mul, Int.natAbs_pow]
          refine Nat.le_trans (Nat.mul_le_mul_left _ (Nat.mul_le_mul d1 (Nat.le_trans (absS_at T (n + 1) (by omega)) (t2 (n + 1))))) (Nat.le_add_right _ _)
        · unfold serP
          simp only [sumN, Rat.intCast_mul]
          have := tc n
          grind
      | succ k ik =>
        intro hk
        obtain ⟨Z, z1, z2⟩ := ik (by omega)
        obtain ⟨_, Y, y1, y2⟩ := ih (n - 1 - k) (by omega)
        refine ⟨Z - U (k + 1) * U 0 ^ k * Y, ?_, ?_⟩
        · have b1 : (U (k + 1) * U 0 ^ k * Y).natAbs ≤ M * N ^ n * (U (k + 1)).natAbs := by
            rw [Int.natAbs_mul, Int.natAbs_mul, Int.natAbs_pow]
            have c1 : (U 0).natAbs ^ k ≤ N ^ k := Nat.pow_le_pow_left Ul k
            have c2 : (U 0).natAbs ^ k * Y.natAbs ≤ N ^ k * (M * N ^ (n - 1 - k + 1)) := Nat.mul_le_mul c1 y1
            have c3 : N ^ k * (M * N ^ (n - 1 - k + 1)) = M * N ^ n := by
              rw [Nat.mul_left_comm, ← Nat.pow_add]
              congr 2
              omega
            rw [c3] at c2
            rw [Nat.mul_assoc, Nat.mul_comm (M * N ^ n)]
            exact Nat.mul_le_mul_left _ c2
          have b2 : absS (fun i => U (i + 1)) (k + 1) = absS (fun i => U (i + 1)) k + (U (k + 1)).natAbs := rfl
          rw [b2, Nat.mul_add]
          omega
        · unfold serP at z2 ⊢
          rw [sumN]
          have hu := uc (k + 1)
          have hp : U 0 ^ n = U 0 ^ k * U 0 ^ (n - 1 - k + 1) := by rw [← Int.pow_add]; congr 1; omega
          have e3 : (cf t n - (sumN (fun i => cf u (i + 1) * serN t u (n - 1 - i)) k + cf u (k + 1) * serN t u (n - 1 - k))) * ((E * D * U 0 ^ n : Int) : Rat) = (cf t n - sumN (fun i => cf u (i + 1) * serN t u (n - 1 - i)) k) * ((E * D * U 0 ^ n : Int) : Rat) - ((D : Rat) * cf u (k + 1)) * ((U 0 ^ k : Int) : Rat) * (serN t u (n - 1 - k) * ((E * U 0 ^ (n - 1 - k + 1) : Int) : Rat)) := by
            rw [hp]
            simp only [Rat.intCast_mul]
            grind
          rw [e3, z2, y2, hu]
          simp only [Rat.intCast_mul, Rat.intCast_sub]
    have fin : ∀ k, k ≤ n → (U 0).natAbs ^ n * (N * M) + M * N ^ n * absS (fun i => U (i + 1)) k ≤ M * N ^ (n + 1) := fun k hk => by
      cases n with
      | zero =>
        rw [show k = 0 from by omega]
        simp [absS]
        rw [Nat.mul_comm]
        exact Nat.le_refl _
      | succ n =>
        have a1 := absS_front U k
        have a2 := u2 (k + 1)
        have c1 : (U 0).natAbs ^ (n + 1) ≤ N ^ n * (U 0).natAbs := by
          rw [Nat.pow_succ]
          exact Nat.mul_le_mul_right _ (Nat.pow_le_pow_left Ul n)
        have c2 : (U 0).natAbs ^ (n + 1) * (N * M) ≤ N ^ n * (U 0).natAbs * (N * M) := Nat.mul_le_mul_right _ c1
        have c3 : N ^ n * (U 0).natAbs * (N * M) = M * N ^ (n + 1) * (U 0).natAbs := by
          rw [Nat.pow_succ]
          simp only [Nat.mul_assoc, Nat.mul_comm, Nat.mul_left_comm]
        rw [c3] at c2
        have c4 : M * N ^ (n + 1) * (U 0).natAbs + M * N ^ (n + 1) * absS (fun i => U (i + 1)) k ≤ M * N ^ (n + 1) * N := by
          rw [← Nat.mul_add]
          exact Nat.mul_le_mul_left _ (by omega)
        have c5 : M * N ^ (n + 1) * N = M * N ^ (n + 1 + 1) := by rw [Nat.pow_succ N (n + 1), Nat.mul_assoc]
        omega
    refine ⟨fun k hk => ?_, ?_⟩
    · obtain ⟨Z, z1, z2⟩ := Zk k hk
      exact ⟨Z, Nat.le_trans z1 (fin k hk), z2⟩
    · obtain ⟨Z, z1, z2⟩ := Zk n (Nat.le_refl n)
      refine ⟨Z, Nat.le_trans z1 (fin n (Nat.le_refl n)), ?_⟩
      have e := serN_eq t u n
      have e2 : serN t u n * cf u 0 = serP t u n n := by
        rw [e]
        unfold serP
        grind
      have hu := uc 0
      rw [Int.pow_succ, ← z2, ← e2]
      simp only [Rat.intCast_mul]
      rw [← hu]
      grind
theorem ser_sz {t u : List Rat} {N M n b : Nat} (h0 : cf u 0 ≠ 0) (hu : Nm N u) (ht : Nm M t) (l : M * N ^ (n + 1) < 2 ^ b) : Sz b (serN t u n) ∧ ∀ k, k ≤ n → Sz b (serP t u n k) := by
  obtain ⟨D, E, U, d0, e0, u0, d1, e1, u1, hb⟩ := ser_bound h0 hu ht
  obtain ⟨h1, Y, y1, y2⟩ := hb n
  have up : ∀ m, U ^ m ≠ 0 := fun m => Int.pow_ne_zero u0
  have bu : ∀ m, (U ^ m).natAbs ≤ N ^ m := fun m => by rw [Int.natAbs_pow]; exact Nat.pow_le_pow_left u1 m
  constructor
  · rw [Ov.eq (h := 0) (Int.mul_ne_zero e0 (up (n + 1))) y2]
    refine sz_divInt (Int.mul_ne_zero e0 (up (n + 1))) (Nat.lt_of_le_of_lt y1 l) (Nat.lt_of_le_of_lt ?_ l)
    rw [Int.natAbs_mul]
    exact Nat.mul_le_mul e1 (bu (n + 1))
  · intro k hk
    obtain ⟨Z, z1, z2⟩ := h1 k hk
    have hne := Int.mul_ne_zero (Int.mul_ne_zero e0 d0) (up n)
    rw [Ov.eq (h := 0) hne z2]
    refine sz_divInt hne (Nat.lt_of_le_of_lt z1 l) (Nat.lt_of_le_of_lt ?_ l)
    rw [Int.natAbs_mul, Int.natAbs_mul, Nat.pow_succ, Nat.mul_comm (N ^ n), ← Nat.mul_assoc]
    exact Nat.mul_le_mul (Nat.mul_le_mul e1 d1) (bu n)
end Tw

namespace Tw
open PS PySem PySem.Spec PyProof.Rows L2
/-- a division, how great its rest and its quotient are -/
theorem div_ht {p q : List Rat} {a b : Nat} (hp : Ht a p) (hq : Ht b q) (tq : Tr q) (hn : q ≠ []) : ∃ f r : List Rat, Tr f ∧ Tr r ∧ r.length < q.length ∧ ps p = ps f * ps q + ps r ∧ Ht (a + (p.length + 1 - q.length) * (b + 1)) r ∧ SzL (a + (p.length + 1 - q.length) * (b + 1) + b + 1) f := by
  have lq := len_pos hn
  have key : ∀ (n : Nat) (N : Nat) (found left : List Rat), n ≤ N → found.length = N → Bd (n + q.length - 1) (ps left) → ps p = ps found * ps q + ps left → (∀ j, j < n → cf found j = 0) → Ht (a + (N - n) * (b + 1)) left → SzL (a + N * (b + 1) + b + 1) found →
      ∃ found' left' : List Rat, found'.length = N ∧ Bd (q.length - 1) (ps left') ∧ ps p = ps found' * ps q + ps left' ∧ Ht (a + N * (b + 1)) left' ∧ SzL (a + N * (b + 1) + b + 1) found' := by
    intro n
    induction n with
    | zero =>
      intro N found left _ hf hB he _ hH hs
      rw [Nat.zero_add] at hB
      exact ⟨found, left, hf, hB, he, hH, hs⟩
    | succ s ih =>
      intro N found left hs hf hB he h0 hH hsz
      have hc0 := tq hn
      have hm : (N - (s + 1) + 1) * (b + 1) ≤ N * (b + 1) := Nat.mul_le_mul_right _ (by omega)
      have hm4 : (N - (s + 1) + 1) * (b + 1) = (N - (s + 1)) * (b + 1) + (b + 1) := by rw [Nat.add_mul, Nat.one_mul]
      obtain ⟨D, d0, d1, o0, o1, ht⟩ := hH.step hq hn tq (s := s) rfl
      generalize hT : cf left (s + q.length - 1) / cf q (q.length - 1) = t at *
      obtain ⟨l', t1, hl, hj⟩ := of_bd (n := s + q.length - 1) (f := ps left - C t * (Mn s * ps q)) (fun k hk => by
        rw [PS.sub_c, PS.Cm_c, Mn_c, if_pos (by omega)]
        by_cases hk2 : k = s + q.length - 1
        · subst hk2
          show cf left _ - t * cf q _ = 0
          rw [show s + q.length - 1 - s = q.length - 1 from by omega, ← hT]
          grind
        · have z1 : (ps left).c k = 0 := hB k (by omega)
          rw [z1]
          show 0 - t * cf q _ = 0
          rw [cf_out (p := q) (by omega)]
          grind)
      have cl : ∀ k, cf l' k = if s ≤ k then cf left k - t * cf q (k - s) else cf left k := fun k => by
        have := congrArg (fun f => PS.c f k) hj
        simp only [ps_c, PS.sub_c, PS.Cm_c, Mn_c] at this
        rw [this]
        split
        · rfl
        · grind
      have ef : ps (found.set s t) = ps found + C t * Mn s := PS.ext fun j => by
        rw [ps_c, cf_set _ _ _ (by omega), PS.add_c, PS.Cm_c]
        show _ = cf found j + t * (if j = s then 1 else 0)
        by_cases hjs : j = s
        · rw [if_pos hjs, if_pos hjs, hjs, h0 s (by omega)]
          grind
        · rw [if_neg hjs, if_neg hjs]
          grind
      refine ih N (found.set s t) l' (by omega) (by rw [List.length_set, hf]) ((ps_bd l').mono hl) ?_ (fun j hj2 => ?_) ?_ (hsz.set (ht.mono (by omega)))
      · rw [ef, hj]
        grind
      · rw [cf_set _ _ _ (by omega), if_neg (by omega)]
        exact h0 j (by omega)
      · rw [show N - s = N - (s + 1) + 1 from by omega, hm4]
        refine .of_cf ⟨D, d0, Nat.lt_of_lt_of_le d1 (pow_le (by omega)), fun k _ => ?_⟩
        rw [cl k]
        split
        · have := o1 (k - s)
          rw [show s + (k - s) = k from by omega] at this
          exact this.mono (by omega)
        · exact (o0 k).mono (by omega)
  have z : ps (List.replicate (p.length + 1 - q.length) 0) = 0 := PS.ext fun k => by rw [ps_c, cf_rep, PS.zero_c]
  obtain ⟨f, r, lf, hB, he, hH, hS⟩ := key (p.length + 1 - q.length) (p.length + 1 - q.length) (List.replicate (p.length + 1 - q.length) 0) p (Nat.le_refl _) List.length_replicate ((ps_bd p).mono (by omega)) (by rw [z]; grind) (fun j _ => cf_rep _ _) (by rw [Nat.sub_self, Nat.zero_mul, Nat.add_zero]; exact hp) (SzL.rep (Sz.zero (by omega)))
  refine ⟨trim f, trim r, tr_trim _, tr_trim _, ?_, by rw [ps_trim, ps_trim]; exact he, hH.trim, hS.trim⟩
  rcases Nat.lt_or_ge (trim r).length q.length with y | y
  · exact y
  · refine absurd ?_ (tr_trim r (fun x => by rw [x] at y; simp at y; exact hn y))
    rw [cf_trim]
    exact hB _ (by omega)
theorem div_same {p q f r f2 r2 : List Rat} (tq : Tr q) (hn : q ≠ []) (tf : Tr f) (tr : Tr r) (lr : r.length < q.length) (e : ps p = ps f * ps q + ps r) (tf2 : Tr f2) (tr2 : Tr r2) (lr2 : r2.length < q.length) (e2 : ps p = ps f2 * ps q + ps r2) : f = f2 ∧ r = r2 := by
  have lq := len_pos hn
  have u := div_uniq (n := q.length - 1) (M := f.length + f2.length) (b := ps q) (f1 := ps f) (f2 := ps f2) (r1 := ps r) (r2 := ps r2) ((ps_bd q).mono (by omega)) (tq hn)
    ((ps_bd f).mono (by omega)) ((ps_bd f2).mono (by omega)) ((ps_bd r).mono (by omega)) ((ps_bd r2).mono (by omega)) (by rw [← e, ← e2])
  exact ⟨ps_inj tf tf2 u.1, ps_inj tr tr2 u.2⟩
def nrm (r : List Rat) : List Rat := if r = [] then [] else mon r
theorem nrm_nil : nrm [] = [] := rfl
theorem tr_nrm {r : List Rat} (t : Tr r) : Tr (nrm r) := by
  unfold nrm
  split
  · exact tr_nil
  · rename_i h; exact (mo_mon t h).tr
/-- the rests of a pair, each but the first two made to end in 1: what the divisions cost is at most B -/
inductive Chn (B : Nat) : List Rat → List Rat → Prop
  | stop {p : List Rat} : Ht B p → Chn B p []
  | step {p q f r : List Rat} {a b : Nat} : q ≠ [] → Ht a p → Ht b q → a + (p.length + 3 - q.length) * (b + 1) ≤ B → Tr f → Tr r → r.length < q.length → ps p = ps f * ps q + ps r → Ht B r → Chn B q (nrm r) → Chn B p q
theorem Chn.mono {B C : Nat} (l : B ≤ C) {p q : List Rat} (h : Chn B p q) : Chn C p q := by
  induction h with
  | stop h => exact .stop (h.mono l)
  | step h1 h2 h3 h4 h5 h6 h7 h8 h9 _ ih => exact .step h1 h2 h3 (Nat.le_trans h4 l) h5 h6 h7 h8 (h9.mono l) ih
theorem nrm_len {r : List Rat} (t : Tr r) : (nrm r).length = r.length := by
  unfold nrm
  split
  · rename_i h; rw [h]
  · rename_i h; exact mon_len t h
theorem nrm_ht {r : List Rat} {a : Nat} (t : Tr r) (h : Ht a r) : Ht a (nrm r) := by
  unfold nrm
  split
  · rename_i e; rw [e] at h; exact h
  · rename_i e; exact h.mon t e
theorem chn_loop {tm t0 : Nat} (ht : tm ≤ t0) (K : Nat) : ∀ (m : Nat) (p q : List Rat) (e : Nat), q.length < m → q.length < p.length → e + p.length ≤ K → Tr p → Tr q → Ht (euM tm t0 e) p → Ht (euT tm t0 e) q → Chn (euT tm t0 (K + 1)) p q
  | m + 1, p, q, e, hm, hl, he, tp, tq, hp, hq => by
    have t2 := euM_le ht e
    by_cases hn : q = []
    · subst hn
      exact .stop (hp.mono (Nat.le_trans t2 (euT_mono tm t0 (by omega))))
    · have lq := len_pos hn
      obtain ⟨f, r, tf, tr, lr, er, hr, _⟩ := div_ht hp hq tq hn
      have s0 := euT_step ht e (p.length - q.length + 1)
      rw [show p.length - q.length + 1 + 2 = p.length + 3 - q.length from by omega] at s0
      have s2 : euT tm t0 (e + (p.length - q.length + 1) + 1) ≤ euT tm t0 (K + 1) := euT_mono tm t0 (by omega)
      have s1 := euT_step ht e (p.length - q.length - 1)
      rw [show p.length - q.length - 1 + 2 = p.length + 1 - q.length from by omega, show e + (p.length - q.length - 1) + 1 = e + (p.length - q.length) from by omega] at s1
      have s3 : euT tm t0 (e + (p.length - q.length)) ≤ euT tm t0 (K + 1) := euT_mono tm t0 (by omega)
      have ih := chn_loop ht K m q (nrm r) (e + (p.length - q.length)) (by rw [nrm_len tr]; omega) (by rw [nrm_len tr]; omega) (by omega) tq (tr_nrm tr) (hq.mono (euM_up ht (by omega))) (nrm_ht tr (hr.mono s1))
      exact .step hn hp hq (by omega) tf tr lr er (hr.mono (by omega)) ih
theorem chn_eu {p q : List Rat} {a b : Nat} (tp : Tr p) (tq : Tr q) (hp : Ht a p) (hq : Ht b q) (hn : q ≠ []) : Chn (euT b (a + (p.length + 3 - q.length) * (b + 1) + b) (q.length + 1)) p q := by
  have lq := len_pos hn
  obtain ⟨f, r, tf, tr, lr, er, hr, _⟩ := div_ht hp hq tq hn
  have hm : (p.length + 1 - q.length) * (b + 1) ≤ (p.length + 3 - q.length) * (b + 1) := Nat.mul_le_mul_right _ (by omega)
  generalize ht0 : a + (p.length + 3 - q.length) * (b + 1) + b = t0
  have h0 : t0 ≤ euT b t0 (q.length + 1) := euT_mono b t0 (Nat.zero_le _)
  have ih := chn_loop (tm := b) (t0 := t0) (by omega) q.length (q.length + 1) q (nrm r) 0 (by rw [nrm_len tr]; omega) (by rw [nrm_len tr]; omega) (by omega) tq (tr_nrm tr) hq (nrm_ht tr (hr.mono (by show _ ≤ t0; omega)))
  exact .step hn hp hq (by omega) tf tr lr er (hr.mono (by omega)) ih
theorem euT_up {tm tm2 t0 t1 : Nat} (h : tm ≤ tm2) (h2 : t0 ≤ t1) : ∀ e, euT tm t0 e ≤ euT tm2 t1 e ∧ euM tm t0 e ≤ euM tm2 t1 e
  | 0 => ⟨h2, h⟩
  | e + 1 => by
    have ih := euT_up h h2 e
    refine ⟨?_, ih.1⟩
    rw [euT_succ, euT_succ]
    omega
/-- what a chain costs, by the two lengths and a height of both -/
def chC (h lp lq : Nat) : Nat := euT h (h + (lp + 3 - lq) * (h + 1) + h) (lq + 1)
theorem chn_h {p q : List Rat} {h B : Nat} (tp : Tr p) (tq : Tr q) (hp : Ht h p) (hq : Ht h q) (np : p ≠ []) (hn : q ≠ []) (c1 : q.length ≤ p.length → chC h p.length q.length ≤ B) (c2 : p.length < q.length → chC h q.length p.length ≤ B) (c3 : h + 2 * (h + 1) ≤ B) : Chn B p q := by
  rcases Nat.lt_or_ge p.length q.length with l | l
  · have m1 := mo_mon tp np
    have c := chn_eu tq m1.tr hq (hp.mon tp np) m1.ne
    rw [mon_len tp np] at c
    refine .step (f := []) (r := p) hn hp hq ?_ tr_nil tp l (by rw [ps_nil]; grind) (hp.mono (by omega)) ?_
    · have : (p.length + 3 - q.length) * (h + 1) ≤ 2 * (h + 1) := Nat.mul_le_mul_right _ (by omega)
      omega
    · unfold nrm
      rw [if_neg np]
      exact c.mono (c2 l)
  · exact (chn_eu tp tq hp hq hn).mono (c1 l)
theorem mon_of {p q : List Rat} {x : Rat} (tp : Tr p) (np : p ≠ []) (hq : Mo q) (e : ps q = C x * ps p) : q = mon p := by
  have hx : x ≠ 0 := fun z => by
    rw [z] at e
    have h0 : ps q = 0 := by
      rw [e]
      exact PS.ext fun k => by rw [PS.Cm_c, Rat.zero_mul, zero_c]
    exact hq.ne (ps_inj hq.tr tr_nil (h0.trans ps_nil.symm))
  refine mo_uniq hq (mo_mon tp np) ?_ ?_
  · refine ⟨C (1 / cf p (p.length - 1)) * C (1 / x), (Fin'.C _).mul (Fin'.C _), ?_⟩
    rw [ps_mon, e]
    have := C_inv hx
    grind
  · refine ⟨C (cf p (p.length - 1)) * C x, (Fin'.C _).mul (Fin'.C _), ?_⟩
    rw [ps_mon, e]
    have := C_inv (tp np)
    grind
theorem prod_lenE {p q : List Rat} (tp : Tr p) (np : p ≠ []) (tq : Tr q) (nq : q ≠ []) : (prodP p q).length = p.length + q.length - 1 := by
  have b := prod_len p q
  have hne := prod_ne tp np tq nq
  have lq := len_pos np
  have lm0 := len_pos nq
  rcases Nat.lt_or_ge (prodP p q).length (p.length + q.length - 1) with z | z
  · exfalso
    have t := top_mul (n := p.length - 1) (m := q.length - 1) (f := ps p) (g := ps q) ((ps_bd p).mono (by omega)) ((ps_bd q).mono (by omega))
    rw [← ps_prod] at t
    have : (ps (prodP p q)).c (p.length - 1 + (q.length - 1)) = 0 := ps_bd _ _ (by omega)
    rw [this] at t
    rcases Rat.mul_eq_zero.mp t.symm with y | y
    · exact tp np y
    · exact tq nq y
  · omega
theorem mo_prod {p q : List Rat} (hp : Mo p) (hq : Mo q) : Mo (prodP p q) := by
  have hne := prod_ne hp.tr hp.ne hq.tr hq.ne
  refine ⟨hne, ?_⟩
  have l1 := len_pos hp.ne
  have l2 := len_pos hq.ne
  have t := top_mul (n := p.length - 1) (m := q.length - 1) (f := ps p) (g := ps q) ((ps_bd _).mono (by omega)) ((ps_bd q).mono (by omega))
  rw [← ps_prod] at t
  have o1 : (ps p).c (p.length - 1) = 1 := hp.one
  have o2 : (ps q).c (q.length - 1) = 1 := hq.one
  rw [o1, o2, Rat.mul_one] at t
  rw [prod_lenE hp.tr hp.ne hq.tr hq.ne, show p.length + q.length - 1 - 1 = p.length - 1 + (q.length - 1) from by omega]
  exact t
/-- both times one more -/
theorem IsG.times {p q G m p' q' : List Rat} (h : IsG p q G) (hm : Mo m) (ep : ps p' = ps p * ps m) (eq : ps q' = ps q * ps m) : IsG p' q' (prodP G m) := by
  obtain ⟨u, v, hu, hv, e⟩ := h.comb
  obtain ⟨x, hx, ex⟩ := h.dp
  obtain ⟨y, hy, ey⟩ := h.dq
  refine ⟨mo_prod h.mo hm, ⟨x, hx, by rw [ep, ex, ps_prod]; grind⟩, ⟨y, hy, by rw [eq, ey, ps_prod]; grind⟩, u, v, hu, hv, ?_⟩
  rw [ps_prod, e, ep, eq]
  grind
end Tw

namespace Tw
open PS PySem PySem.Spec PyProof.Rows L2
theorem dv_one (f : PS) (h : Fin' f) : Dv [1] f := ⟨f, h, by rw [ps_one]; show f = 1 * f; grind⟩
theorem mo_1 : Mo [1] := ⟨by decide, rfl⟩
def Cop (p q : List Rat) : Prop := IsG p q [1]
theorem cop_of {p q : List Rat} {u v : PS} (hu : Fin' u) (hv : Fin' v) (e : 1 = ps p * u + ps q * v) : Cop p q :=
  ⟨mo_1, dv_one _ (.ps p), dv_one _ (.ps q), u, v, hu, hv, by rw [ps_one]; exact e⟩
theorem Cop.bez {p q : List Rat} (h : Cop p q) : ∃ u v, Fin' u ∧ Fin' v ∧ 1 = ps p * u + ps q * v := by
  obtain ⟨u, v, hu, hv, e⟩ := h.comb
  rw [ps_one] at e
  exact ⟨u, v, hu, hv, e⟩
theorem Cop.symm {p q : List Rat} (h : Cop p q) : Cop q p := IsG.symm h
theorem Cop.mul {p q r t : List Rat} (h1 : Cop p r) (h2 : Cop q r) (e : ps t = ps p * ps q) : Cop t r := by
  obtain ⟨u, v, hu, hv, e1⟩ := h1.bez
  obtain ⟨x, y, hx, hy, e2⟩ := h2.bez
  refine cop_of (u := u * x) (v := ps p * u * y + v * (ps q * x) + v * (ps r * y)) (hu.mul hx) ((((Fin'.ps p).mul hu).mul hy |>.add (hv.mul ((Fin'.ps q).mul hx))).add (hv.mul ((Fin'.ps r).mul hy))) ?_
  have : (1 : PS) = (ps p * u + ps r * v) * (ps q * x + ps r * y) := by rw [← e1, ← e2]; grind
  rw [this, e]
  grind
theorem Cop.const {p r : List Rat} {x : Rat} (h : x ≠ 0) (e : ps p = C x) : Cop p r :=
  cop_of (u := C (1 / x)) (v := 0) (.C _) .zero (by rw [e, C_inv h]; grind)
theorem Cop.z {p r : List Rat} {n : Nat} (h : cf r 0 ≠ 0) (e : ps p = Mn n) : Cop p r := by
  -- the n-th power of z
  have key : ∀ n, ∃ u v, Fin' u ∧ Fin' v ∧ 1 = Mn n * u + ps r * v := by
    intro n
    induction n with
    | zero => exact ⟨1, 0, .one, .zero, by show _ = (1 : PS) * 1 + _; grind⟩
    | succ n ih =>
      obtain ⟨u, v, hu, hv, e1⟩ := ih
      obtain ⟨w, hw, e2⟩ : ∃ w, Fin' w ∧ ps r = C (cf r 0) + Mn 1 * w := by
        cases r with
        | nil => exact absurd rfl h
        | cons x q => exact ⟨ps q, .ps q, ps_cons x q⟩
      have ei := C_inv h
      have e3 : (1 : PS) = Mn 1 * (-(w * C (1 / cf r 0))) + ps r * C (1 / cf r 0) := by rw [e2]; grind
      refine ⟨u * (-(w * C (1 / cf r 0))), v * (Mn 1 * (-(w * C (1 / cf r 0)))) + C (1 / cf r 0), ?_, ?_, ?_⟩
      · have : -(w * C (1 / cf r 0)) = 0 - w * C (1 / cf r 0) := by grind
        rw [this]
        exact hu.mul (.sub .zero (hw.mul (.C _)))
      · have : -(w * C (1 / cf r 0)) = 0 - w * C (1 / cf r 0) := by grind
        rw [this]
        exact (hv.mul (Fin'.mul ⟨2, .Mn 1⟩ (.sub .zero (hw.mul (.C _))))).add (.C _)
      · rw [← Mn_add n 1]
        have : (1 : PS) = (Mn n * u + ps r * v) * (Mn 1 * (-(w * C (1 / cf r 0)))) + ps r * C (1 / cf r 0) := by rw [← e1]; grind
        grind
  obtain ⟨u, v, hu, hv, e1⟩ := key n
  exact cop_of hu hv (by rw [e]; exact e1)
/-! plain forms -/
def Pl (t u a b : List Rat) : Prop := Tr a ∧ Tr b ∧ cf b 0 = 1 ∧ Cop a b ∧ ps t * ps b = ps a * ps u
theorem cf_mul0 (f g : PS) : (f * g).c 0 = f.c 0 * g.c 0 := by
  rw [PS.mul_c]
  show sumN _ 1 = _
  simp [sumN, Rat.zero_add]
theorem pl_ex {t u G a b : List Rat} (tt : Tr t) (tu : Tr u) (h0 : cf u 0 ≠ 0) (hG : IsG t u G) (et : ps t = ps a * ps G) (eu : ps u = ps b * ps G) :
    cf b 0 ≠ 0 ∧ Pl t u (trim (a.map (· * (1 / cf b 0)))) (trim (b.map (· * (1 / cf b 0)))) := by
  have hb0 : cf b 0 ≠ 0 := fun z => h0 (by
    have := congrArg (fun f => PS.c f 0) eu
    simp only [cf_mul0, ps_c] at this
    rw [this, z, Rat.zero_mul])
  refine ⟨hb0, tr_trim _, tr_trim _, ?_, ?_, ?_⟩
  · rw [← ps_c, ps_trim, ps_map, PS.Cm_c, ps_c]
    grind
  · obtain ⟨x, y, hx, hy, e⟩ := hG.comb
    have e1 : 1 = ps a * x + ps b * y := by
      refine ps_cancel hG.mo.tr hG.mo.ne .one (((Fin'.ps a).mul hx).add ((Fin'.ps b).mul hy)) ?_
      have : ps G * (1 : PS) = ps G := by grind
      rw [this]
      have h2 : ps G * (ps a * x + ps b * y) = ps a * ps G * x + ps b * ps G * y := by grind
      rw [h2, ← et, ← eu]
      exact e
    refine cop_of (u := C (cf b 0) * x) (v := C (cf b 0) * y) ((Fin'.C _).mul hx) ((Fin'.C _).mul hy) ?_
    rw [ps_trim, ps_trim, ps_map, ps_map]
    have := C_inv hb0
    grind
  · rw [ps_trim, ps_trim, ps_map, ps_map, et, eu]
    grind
theorem Cop.dv {a b c : List Rat} {f : PS} (h : Cop a b) (hf : Fin' f) (hc : Fin' (ps c)) (e : ps a * f = ps b * ps c) : Dv b f := by
  obtain ⟨u, v, hu, hv, e1⟩ := h.bez
  refine ⟨ps c * u + f * v, (hc.mul hu).add (hf.mul hv), ?_⟩
  have : f = (ps a * u + ps b * v) * f := by rw [← e1]; grind
  have h2 : (ps a * u + ps b * v) * f = (ps a * f) * u + ps b * (f * v) := by grind
  rw [this, h2, e]
  grind
theorem ne_of0 {b : List Rat} (h : cf b 0 ≠ 0) : b ≠ [] := fun z => h (by rw [z]; rfl)
theorem one_of0 {b : List Rat} (h : cf b 0 = 1) : cf b 0 ≠ 0 := by rw [h]; decide
theorem assoc_eq {b d : List Rat} (tb : Tr b) (td : Tr d) (hb : cf b 0 = 1) (hd : cf d 0 = 1) (h1 : Dv b (ps d)) (h2 : Dv d (ps b)) : b = d := by
  have nb := ne_of0 (one_of0 hb)
  have nd := ne_of0 (one_of0 hd)
  have e : mon b = mon d := by
    obtain ⟨u, hu, eu⟩ := h1
    obtain ⟨v, hv, ev⟩ := h2
    refine mo_uniq (mo_mon tb nb) (mo_mon td nd) ?_ ?_
    · refine ⟨u * C (1 / cf d (d.length - 1)) * C (cf b (b.length - 1)), (hu.mul (.C _)).mul (.C _), ?_⟩
      rw [ps_mon, ps_mon, eu]
      have := C_inv (tb nb)
      grind
    · refine ⟨v * C (1 / cf b (b.length - 1)) * C (cf d (d.length - 1)), (hv.mul (.C _)).mul (.C _), ?_⟩
      rw [ps_mon, ps_mon, ev]
      have := C_inv (td nd)
      grind
  have e2 : ps b = C (cf b (b.length - 1)) * (C (1 / cf d (d.length - 1)) * ps d) := by
    rw [← ps_mon, ← e, ps_mon]
    have := C_inv (tb nb)
    grind
  have e3 := congrArg (fun f => PS.c f 0) e2
  simp only [PS.Cm_c, ps_c, hb, hd] at e3
  refine ps_inj tb td ?_
  have e4 : C (cf b (b.length - 1)) * (C (1 / cf d (d.length - 1)) * ps d) = C (cf b (b.length - 1) * (1 / cf d (d.length - 1) * 1)) * ps d := by
    rw [← C_mulC, Rat.mul_one]; grind
  rw [e2, e4, ← e3]
  show (1 : PS) * _ = _
  grind
theorem pl_uniq {t u s v a b c d : List Rat} (h0 : cf u 0 ≠ 0) (g0 : cf v 0 ≠ 0) (h1 : Pl t u a b) (h2 : Pl s v c d) : (a = c ∧ b = d) ↔ ps t * ps v = ps s * ps u := by
  obtain ⟨ta, tb, b1, c1, e1⟩ := h1
  obtain ⟨tc, td, d1, c2, e2⟩ := h2
  constructor
  · rintro ⟨rfl, rfl⟩
    refine ps_cancel0 (u := ps b) (one_of0 b1) ?_
    have : ps b * (ps t * ps v) = (ps t * ps b) * ps v := by grind
    rw [this, e1]
    have : ps b * (ps s * ps u) = (ps s * ps b) * ps u := by grind
    rw [this, e2]
    grind
  · intro e
    have key : ps a * ps d = ps c * ps b := by
      refine ps_cancel0 (u := ps u) h0 (ps_cancel0 (u := ps v) g0 ?_)
      have x1 : ps v * (ps u * (ps a * ps d)) = (ps a * ps u) * (ps v * ps d) := by grind
      have x2 : ps v * (ps u * (ps c * ps b)) = (ps c * ps v) * (ps u * ps b) := by grind
      rw [x1, x2, ← e1, ← e2]
      have x3 : ps t * ps b * (ps v * ps d) = (ps t * ps v) * (ps b * ps d) := by grind
      rw [x3, e]
      grind
    have hbd : b = d := assoc_eq tb td b1 d1 (c1.dv (.ps d) (.ps c) (by rw [key]; grind)) (c2.dv (.ps b) (.ps a) (by rw [← key]; grind))
    refine ⟨?_, hbd⟩
    rw [← hbd] at key
    refine ps_inj ta tc (ps_cancel0 (u := ps b) (one_of0 b1) ?_)
    rw [show ps b * ps a = ps a * ps b from by grind, key]
    grind
theorem pl_self {t u : List Rat} (tt : Tr t) (tu : Tr u) (h : cf u 0 = 1) (c : Cop t u) : Pl t u t u := ⟨tt, tu, h, c, rfl⟩
/-! pieces -/
structure Irr (p : List Rat) : Prop where
  mo : Mo p
  lo : 2 ≤ p.length
  hi : p.length ≤ 3
  z0 : cf p 0 ≠ 0
  nr : p.length = 3 → ∀ s : Rat, s * s + cf p 1 * s + cf p 0 ≠ 0
theorem irr_dv {p G : List Rat} (h : Irr p) (hG : Mo G) (hd : Dv G (ps p)) (hl : 2 ≤ G.length) : G = p := by
  obtain ⟨u, ⟨n, hu⟩, e⟩ := hd
  obtain ⟨U, tU, _, eU⟩ := of_bd hu
  have hU : U ≠ [] := fun z => by
    rw [z, ps_nil] at eU
    rw [← eU] at e
    exact h.mo.ne (ps_inj h.mo.tr tr_nil (by rw [e, ps_nil]; grind))
  have ep : p = prodP G U := ps_inj h.mo.tr (tr_trim _) (by show _ = ps (prodP G U); rw [ps_prod, eU]; exact e)
  have el : p.length = G.length + U.length - 1 := by
    have := prod_lenE hG.tr hG.ne tU hU
    rw [← ep] at this
    exact this
  have lU := len_pos hU
  have hi := h.hi
  have hlo := h.lo
  rcases Nat.lt_or_ge 1 U.length with l | l
  · have g2 : G.length = 2 := by omega
    have u2 : U.length = 2 := by omega
    have p3 : p.length = 3 := by omega
    match G, g2, U, u2 with
    | [g, o], _, [x, y], _ =>
      have ho : o = 1 := hG.one
      subst ho
      have ee : ps p = ps [g, 1] * ps [x, y] := by rw [e, eU]
      have m1 := h.mo.one
      rw [p3] at m1
      have k0 := congrArg (fun f => PS.c f 0) ee
      have k1 := congrArg (fun f => PS.c f 1) ee
      have k2 := congrArg (fun f => PS.c f 2) ee
      simp only [PS.mul_c, ps_c, sumN] at k0 k1 k2
      simp [cf] at k0 k1 k2 m1
      refine absurd ?_ (h.nr p3 (-g))
      simp [cf]
      grind
  · match U, (by omega : U.length = 1) with
    | [x], _ =>
      have el2 : p.length = G.length := by simp at el; omega
      have ee : ps p = ps G * C x := by rw [e, ← eU, ps_one]
      have t := congrArg (fun f => PS.c f (p.length - 1)) ee
      simp only [show ps G * C x = C x * ps G from by grind, PS.Cm_c, ps_c] at t
      have m1 := h.mo.one
      have m2 := hG.one
      rw [m1, el2, m2, Rat.mul_one] at t
      refine ps_inj hG.tr h.mo.tr ?_
      rw [ee, ← t, ← PS.one_eq]
      grind
theorem cop_irr {p q : List Rat} (hp : Irr p) (hq : Irr q) (n : p ≠ q) : Cop p q := by
  obtain ⟨G, hG⟩ := isG_ex q.length p q (Nat.le_refl _) hp.mo.tr hq.mo.tr (.inl hp.mo.ne)
  have lG := len_pos hG.mo.ne
  rcases Nat.lt_or_ge 1 G.length with l | l
  · exact absurd ((irr_dv hp hG.mo hG.dp l).symm.trans (irr_dv hq hG.mo hG.dq l)) n
  · match G, hG, (by omega : G.length = 1) with
    | [x], hG, _ =>
      have : x = 1 := hG.mo.one
      subst this
      exact hG
/-- how far the places of a piece lie, squared -/
def dst (p : List Rat) : Rat := if p.length = 2 then cf p 0 * cf p 0 else if cf p 0 < 0 then -cf p 0 else cf p 0
structure Pce (p : List Rat) : Prop where
  ir : Irr p
  nm : Nm 1024 p
def tPc (p : List Rat) : T := .tup [tP p, tQ (dst p)]
/-! products of powers -/
def powP (f p : List Rat) : Nat → List Rat
  | 0 => f
  | n + 1 => prodP (powP f p n) p
def rsP : List (List Rat) → List Int → List Rat → List Rat
  | p :: L, k :: ks, f => rsP L ks (powP f p k.toNat)
  | _, _, f => f
/-- how many factors -/
def rsN : List Int → Nat
  | [] => 0
  | k :: ks => k.toNat + rsN ks
structure Rs (N l : Nat) (f : List Rat) : Prop where
  mo : Mo f
  z0 : cf f 0 ≠ 0
  nm : Nm N f
  le : f.length ≤ l
theorem cf_prod0 (p q : List Rat) : cf (prodP p q) 0 = cf p 0 * cf q 0 := by
  have := congrArg (fun f => PS.c f 0) (ps_prod p q)
  simp only [cf_mul0, ps_c] at this
  exact this
theorem Rs.mul {N l : Nat} {f p : List Rat} (h : Rs N l f) (hp : Pce p) : Rs (N * 1024) (l + 2) (prodP f p) := by
  refine ⟨mo_prod h.mo hp.ir.mo, ?_, h.nm.prod hp.nm, ?_⟩
  · rw [cf_prod0]
    intro z
    rcases Rat.mul_eq_zero.mp z with y | y
    · exact h.z0 y
    · exact hp.ir.z0 y
  · have := prod_len f p
    have := hp.ir.hi
    have := h.le
    omega
theorem Rs.pow {N l : Nat} {f p : List Rat} (h : Rs N l f) (hp : Pce p) : ∀ n, Rs (N * 1024 ^ n) (l + 2 * n) (powP f p n)
  | 0 => by simpa [powP] using h
  | n + 1 => by
    have := (Rs.pow h hp n).mul hp
    rw [Nat.pow_succ, ← Nat.mul_assoc]
    exact this
theorem Rs.mono {N l N' l' : Nat} {f : List Rat} (h : Rs N l f) (a : N ≤ N') (b : l ≤ l') : Rs N' l' f := ⟨h.mo, h.z0, h.nm.mono a, Nat.le_trans h.le b⟩
theorem rs_of : ∀ (L : List (List Rat)) (ks : List Int) {f : List Rat} {N l : Nat}, (∀ p, p ∈ L → Pce p) → Rs N l f → Rs (N * 1024 ^ rsN ks) (l + 2 * rsN ks) (rsP L ks f)
  | [], ks, f, N, l, _, h => by
    have e : rsP [] ks f = f := by unfold rsP; rfl
    rw [e]
    exact h.mono (Nat.le_mul_of_pos_right _ (Nat.pow_pos (by decide))) (by omega)
  | p :: L, [], f, N, l, _, h => by
    have e : rsP (p :: L) [] f = f := by unfold rsP; rfl
    rw [e]
    exact h.mono (Nat.le_mul_of_pos_right _ (Nat.pow_pos (by decide))) (by omega)
  | p :: L, k :: ks, f, N, l, hL, h => by
    have := rs_of L ks (fun q m => hL q (List.mem_cons_of_mem _ m)) (h.pow (hL p (List.mem_cons_self ..)) k.toNat)
    rw [rsN, Nat.pow_add, ← Nat.mul_assoc, Nat.mul_add, ← Nat.add_assoc]
    exact this
theorem rs_one : Rs 1 1 [1] := ⟨mo_1, by decide, Nm.one (by decide) (by decide), Nat.le_refl _⟩
theorem pow_cop {f p r : List Rat} (h : Cop f r) : ∀ n, (0 < n → Cop p r) → Cop (powP f p n) r
  | 0, _ => h
  | n + 1, hp => (pow_cop h n (fun _ => hp (by omega))).mul (hp (by omega)) (ps_prod _ _)
/-- products of powers, one of them made of the pieces with powers above nought, the other of those below: no common part -/
theorem rs_copG : ∀ (L : List (List Rat)) (ks : List Int) {f r : List Rat}, Cop f r → (∀ (i : Nat) p k, L[i]? = some p → ks[i]? = some k → 0 < k → Cop p r) → Cop (rsP L ks f) r
  | [], ks, f, r, h, _ => by
    have e : rsP [] ks f = f := by unfold rsP; rfl
    rw [e]; exact h
  | p :: L, [], f, r, h, _ => by
    have e : rsP (p :: L) [] f = f := by unfold rsP; rfl
    rw [e]; exact h
  | p :: L, k :: ks, f, r, h, hc => rs_copG L ks (pow_cop h _ fun q => hc 0 p k rfl rfl (by omega)) fun i p' k' e1 e2 => hc (i + 1) p' k' e1 e2
theorem rs_cop {L : List (List Rat)} {ks : List Int} (hL : ∀ p, p ∈ L → Irr p) (hn : L.Nodup) : Cop (rsP L ks [1]) (rsP L (ks.map (fun k => -k)) [1]) := by
  have c1 : ∀ r, Cop [1] r := fun r => Cop.const (x := 1) (by decide) (ps_one 1)
  refine rs_copG L ks (c1 _) fun i p k e1 e2 hk => ?_
  refine Cop.symm (rs_copG L _ (c1 _) fun j q k' f1 f2 hk' => ?_)
  refine cop_irr (hL q (List.mem_of_getElem? f1)) (hL p (List.mem_of_getElem? e1)) fun z => ?_
  subst z
  have ij : i = j := by
    have hi := (List.getElem?_eq_some_iff.mp e1).1
    exact (List.getElem?_inj hi hn).mp (e1.trans f1.symm)
  subst ij
  rw [List.getElem?_map, e2] at f2
  simp at f2
  omega
end Tw

namespace Tw
open PS PySem PySem.Spec PyProof.Rows L2
theorem app_cut {α : Type} {c : α} : ∀ {a b u v : List α}, c ∉ a → c ∉ b → a ++ c :: u = b ++ c :: v → a = b ∧ u = v
  | [], [], _, _, _, _, h => ⟨rfl, (List.cons.inj h).2⟩
  | [], y :: b, _, _, _, hb, h => absurd (List.mem_cons.mpr (.inl (List.cons.inj h).1)) hb
  | x :: a, [], _, _, ha, _, h => absurd (List.mem_cons.mpr (.inl (List.cons.inj h).1.symm)) ha
  | x :: a, y :: b, u, v, ha, hb, h => by
    obtain ⟨h1, h2⟩ := List.cons.inj h
    obtain ⟨e1, e2⟩ := app_cut (fun m => ha (List.mem_cons_of_mem _ m)) (fun m => hb (List.mem_cons_of_mem _ m)) h2
    exact ⟨by rw [h1, e1], e2⟩
/-- a whole number's text -/
def txI (i : Int) : List Nat := (PySem.Str.ofString (toString i)).cps.toList
theorem txI_eq (i : Int) : txI i = if 0 ≤ i then TL.numL i.toNat else 45 :: TL.numL (-i).toNat := by
  unfold txI
  rw [signs_ofString, Int.toString_eq_repr, Int.repr_eq_if]
  split
  · rw [Nat.toList_repr]; rfl
  · rw [String.toList_append, List.map_append, Nat.toList_repr]; rfl
theorem txI_inj {i j : Int} (h : txI i = txI j) : i = j := by
  rw [txI_eq, txI_eq] at h
  have no : ∀ n, 45 ∉ TL.numL n := fun n => TL.numL_free (.inl (by decide))
  split at h
  · split at h
    · have := TL.numL_inj h
      omega
    · exact absurd (by rw [h]; exact List.mem_cons_self ..) (no i.toNat)
  · split at h
    · exact absurd (by rw [← h]; exact List.mem_cons_self ..) (no j.toNat)
    · have := TL.numL_inj (List.cons.inj h).2
      omega
theorem txI_free {i : Int} {k : Nat} (hk : k ≠ 45 ∧ (k < 48 ∨ 57 < k)) : k ∉ txI i := int_text_free' k hk i
def txQ (x : Rat) : List Nat := 40 :: (txI x.num ++ 44 :: 32 :: (txI (x.den : Nat) ++ [41]))
theorem txQ_cut {x y : Rat} {u v : List Nat} (h : txQ x ++ u = txQ y ++ v) : x = y ∧ u = v := by
  unfold txQ at h
  simp only [List.cons_append, List.append_assoc, List.nil_append, List.cons.injEq, true_and] at h
  obtain ⟨e1, e2⟩ := app_cut (txI_free ⟨by decide, .inl (by decide)⟩) (txI_free ⟨by decide, .inl (by decide)⟩) h
  obtain ⟨e3, e4⟩ := app_cut (txI_free ⟨by decide, .inl (by decide)⟩) (txI_free ⟨by decide, .inl (by decide)⟩) (List.cons.inj e2).2
  refine ⟨Rat.ext (txI_inj e1) ?_, e4⟩
  have := txI_inj e3
  omega
def jnQ : List Rat → List Nat
  | [] => []
  | [x] => txQ x
  | x :: y :: r => txQ x ++ 44 :: 32 :: jnQ (y :: r)
theorem jnQ_inj {s s' : List Nat} (hs : s = [41] ∨ s = [44, 41]) (hs' : s' = [41] ∨ s' = [44, 41]) : ∀ p q : List Rat, jnQ p ++ s = jnQ q ++ s' → p = q
  | [], [], _ => rfl
  | [], [y], h => by
    unfold jnQ txQ at h
    rcases hs with rfl | rfl <;> simp at h
  | [], y :: z :: r, h => by
    unfold jnQ txQ at h
    rcases hs with rfl | rfl <;> simp at h
  | [x], [], h => by
    unfold jnQ txQ at h
    rcases hs' with rfl | rfl <;> simp at h
  | x :: z :: r, [], h => by
    unfold jnQ txQ at h
    rcases hs' with rfl | rfl <;> simp at h
  | [x], [y], h => by rw [(txQ_cut h).1]
  | [x], y :: z :: r, h => by
    unfold jnQ at h
    rw [List.append_assoc] at h
    have := (txQ_cut h).2
    rcases hs with rfl | rfl <;> simp at this
  | x :: w :: t, [y], h => by
    have e : jnQ (x :: w :: t) = txQ x ++ 44 :: 32 :: jnQ (w :: t) := rfl
    rw [e, List.append_assoc] at h
    have := (txQ_cut (v := s') h).2
    rcases hs' with rfl | rfl <;> simp at this
  | x :: w :: t, y :: z :: r, h => by
    unfold jnQ at h
    rw [List.append_assoc, List.append_assoc] at h
    obtain ⟨e1, e2⟩ := txQ_cut h
    simp only [List.cons_append, List.cons.injEq, true_and] at e2
    rw [e1, jnQ_inj hs hs' (w :: t) (z :: r) e2]
theorem shown_Q (x : Rat) : (tQ x).toD.shown.cps.toList = txQ x := by
  show (PyData.tuple [PyData.int x.num, PyData.int (x.den : Nat)]).shown.cps.toList = _
  rw [PyData.shown_tuple]
  simp only [PyData.shownAll_cons, PyData.shownAll_nil, PyData.shown_int, List.length_cons, List.length_nil, Nat.reduceAdd, Nat.reduceBEq, Bool.false_eq_true, if_false, join_cons_cons, join_one, cps_toList_append]
  rw [signs_lparen, signs_sep]
  show [40] ++ (txI x.num ++ [44, 32] ++ txI (x.den : Nat)) ++ [41] = _
  unfold txQ
  simp
theorem shown_Qs : ∀ p : List Rat, (Str.join (PySem.Str.ofString ", ") (PyData.shownAll (toDs (tQs p)))).cps.toList = jnQ p
  | [] => by
    show (Str.join _ (PyData.shownAll [])).cps.toList = _
    rw [PyData.shownAll_nil, join_nil]; rfl
  | [x] => by
    show (Str.join _ (PyData.shownAll [(tQ x).toD])).cps.toList = _
    rw [PyData.shownAll_cons, PyData.shownAll_nil, join_one, shown_Q]; rfl
  | x :: y :: r => by
    have ih := shown_Qs (y :: r)
    show (Str.join _ (PyData.shownAll ((tQ x).toD :: (tQ y).toD :: toDs (tQs r)))).cps.toList = _
    have e : PyData.shownAll (toDs (tQs (y :: r))) = (tQ y).toD.shown :: PyData.shownAll (toDs (tQs r)) := PyData.shownAll_cons ..
    rw [e] at ih
    rw [PyData.shownAll_cons, PyData.shownAll_cons, join_cons_cons, cps_toList_append, cps_toList_append, ih, shown_Q]
    rw [signs_sep]
    show txQ x ++ [44, 32] ++ jnQ (y :: r) = txQ x ++ 44 :: 32 :: jnQ (y :: r)
    simp
theorem shown_P (p : List Rat) : (tP p).toD.shown.cps.toList = 40 :: (jnQ p ++ if p.length = 1 then [44, 41] else [41]) := by
  show (PyData.tuple (toDs (tQs p))).shown.cps.toList = _
  have el : ∀ p : List Rat, (toDs (tQs p)).length = p.length := fun p => by
    induction p with
    | nil => rfl
    | cons x p ih => show (toDs (tQs p)).length + 1 = _; rw [ih]; rfl
  rw [PyData.shown_tuple, cps_toList_append, cps_toList_append, shown_Qs, el, signs_lparen]
  by_cases h : p.length = 1
  · rw [if_pos (by simp [h]), if_pos h]; rfl
  · rw [if_neg (by simp [h]), if_neg h]; rfl
theorem shown_P_inj {p q : List Rat} (h : (tP p).toD.shown = (tP q).toD.shown) : p = q := by
  have e := congrArg (fun s => s.cps.toList) h
  simp only [shown_P, List.cons.injEq, true_and] at e
  exact jnQ_inj (by split <;> simp) (by split <;> simp) p q e
theorem oEqS_P {p q : List Rat} {Q : T → Prop} (h : Q (.bl (decide (p = q)))) : oEqS (.str (tP p).toD.shown) (.str (tP q).toD.shown) Q := by
  refine ⟨_, _, rfl, rfl, ?_⟩
  by_cases e : p = q
  · subst e; simpa using h
  · rw [decide_eq_false (fun z => e (shown_P_inj z))]
    rwa [decide_eq_false e] at h
end Tw

namespace Tw
open PS PySem PySem.Spec PyProof.Rows L2
theorem sq_nn (x : Rat) : 0 ≤ x * x := by
  rcases Rat.le_total (a := 0) (b := x) with h | h
  · exact Rat.mul_nonneg h h
  · have := Rat.mul_nonneg (a := -x) (b := -x) (by grind) (by grind)
    grind
theorem quad_nr {b c : Rat} (h : b * b < 4 * c) (s : Rat) : s * s + b * s + c ≠ 0 := fun z => by
  have := sq_nn (2 * s + b)
  grind
theorem no_sq {m : Nat} (hm : ∀ k, k ≤ m → k * k ≠ m) (s : Rat) : s * s ≠ ((m : Nat) : Rat) := fun z => by
  have hd : (s.den : Int) ≠ 0 := by have := s.den_nz; omega
  have es := Rat.num_divInt_den s
  rw [Rat.divInt_eq_div] at es
  have hv := castI_ne hd
  have e1 : ((s.num * s.num : Int) : Rat) = (((m : Int) * (s.den * s.den) : Int) : Rat) := by
    simp only [Rat.intCast_mul]
    have : ((m : Int) : Rat) = ((m : Nat) : Rat) := rfl
    rw [this, ← z]
    grind
  have e2 := Rat.intCast_inj.mp e1
  have e3 : s.num.natAbs * s.num.natAbs = m * (s.den * s.den) := by
    have := congrArg Int.natAbs e2
    simpa [Int.natAbs_mul] using this
  have cp : s.num.natAbs.Coprime s.den := s.reduced
  have d1 : s.den ∣ s.num.natAbs * s.num.natAbs := ⟨m * s.den, by rw [e3, ← Nat.mul_assoc, Nat.mul_comm]⟩
  have d2 : s.den = 1 := Nat.Coprime.eq_one_of_dvd ((Nat.Coprime.mul_left cp cp).symm) d1
  simp only [d2, Nat.mul_one] at e3
  refine hm s.num.natAbs ?_ e3
  rcases Nat.lt_or_ge m s.num.natAbs with q | q
  · have := Nat.mul_le_mul q q
    have : m.succ * m.succ = m * m + 2 * m + 1 := by rw [Nat.succ_mul, Nat.mul_succ]; omega
    have : m ≤ m * m ∨ m = 0 := by
      rcases Nat.eq_zero_or_pos m with h | h
      · exact .inr h
      · exact .inl (Nat.le_mul_of_pos_left m h)
    omega
  · exact q
theorem q_num (x : Rat) : x * ((x.den : Int) : Rat) = ((x.num : Int) : Rat) := by
  have hd : (x.den : Int) ≠ 0 := by have := x.den_nz; omega
  have es := Rat.num_divInt_den x
  rw [Rat.divInt_eq_div] at es
  have hv := castI_ne hd
  grind
theorem nm1 {s : Rat} (h : Sz 3 s) : Nm 14 [s, 1] := by
  have e := q_num s
  have h1 := h.n
  have h2 := h.den
  have hd : (s.den : Int) ≠ 0 := by have := s.den_nz; omega
  refine Nm.ofInts (D := (s.den : Int)) hd [s.num, (s.den : Int)] (by omega) ?_ ?_
  · simp only [List.map_cons, List.map_nil, List.sum_cons, List.sum_nil]
    omega
  · simp only [List.map_cons, List.map_nil, e, Rat.one_mul]
theorem le3 {a b c x y z : Nat} (h : a ≤ x) (h2 : b ≤ y) (h3 : c ≤ z) : a * b * c ≤ x * y * z := Nat.mul_le_mul (Nat.mul_le_mul h h2) h3
theorem nm2 {l a : Rat} (h : Sz 3 l) (a1 : a.num.natAbs ≤ 5) (a2 : a.den ≤ 5) : Nm 1024 [l * l, a * l, 1] := by
  have e := q_num l
  have f := q_num a
  have h1 := h.n
  have h2 := h.den
  have hd : (l.den : Int) ≠ 0 := by have := l.den_nz; omega
  have hd2 : (a.den : Int) ≠ 0 := by have := a.den_nz; omega
  have h3 : (a.den : Int).natAbs ≤ 5 := by omega
  have p1 : (l.num * l.num * a.den).natAbs ≤ 7 * 7 * 5 := by rw [Int.natAbs_mul, Int.natAbs_mul]; exact le3 (by omega) (by omega) h3
  have p2 : (a.num * l.num * l.den).natAbs ≤ 5 * 7 * 7 := by rw [Int.natAbs_mul, Int.natAbs_mul]; exact le3 a1 (by omega) (by omega)
  have p3 : ((l.den : Int) * l.den * a.den).natAbs ≤ 7 * 7 * 5 := by rw [Int.natAbs_mul, Int.natAbs_mul]; exact le3 (by omega) (by omega) h3
  refine Nm.ofInts (D := (l.den : Int) * l.den * a.den) (Int.mul_ne_zero (Int.mul_ne_zero hd hd) hd2) [l.num * l.num * a.den, a.num * l.num * l.den, (l.den : Int) * l.den * a.den] (by omega) ?_ ?_
  · simp only [List.map_cons, List.map_nil, List.sum_cons, List.sum_nil]
    omega
  · simp only [List.map_cons, List.map_nil, Rat.intCast_mul, Rat.one_mul]
    rw [← e, ← f]
    congr 1
    · grind
    congr 1
    · grind
theorem nm3 {c b : Rat} (h : Sz 3 c) (h2 : Sz 3 b) : Nm 1024 [c, b, 1] := by
  have e := q_num c
  have f := q_num b
  have h1 := h.n
  have h3 := h.den
  have h4 := h2.n
  have h5 := h2.den
  have hd : (c.den : Int) ≠ 0 := by have := c.den_nz; omega
  have hd2 : (b.den : Int) ≠ 0 := by have := b.den_nz; omega
  have p1 : (c.num * b.den).natAbs ≤ 7 * 7 := by rw [Int.natAbs_mul]; exact Nat.mul_le_mul (by omega) (by omega)
  have p2 : (b.num * c.den).natAbs ≤ 7 * 7 := by rw [Int.natAbs_mul]; exact Nat.mul_le_mul (by omega) (by omega)
  have p3 : ((c.den : Int) * b.den).natAbs ≤ 7 * 7 := by rw [Int.natAbs_mul]; exact Nat.mul_le_mul (by omega) (by omega)
  refine Nm.ofInts (D := (c.den : Int) * b.den) (Int.mul_ne_zero hd hd2) [c.num * b.den, b.num * c.den, (c.den : Int) * b.den] (by omega) ?_ ?_
  · simp only [List.map_cons, List.map_nil, List.sum_cons, List.sum_nil]
    omega
  · simp only [List.map_cons, List.map_nil, Rat.intCast_mul, Rat.one_mul]
    rw [← e, ← f]
    congr 1
    · grind
    congr 1
    · grind
theorem pce1 {s : Rat} (h : Sz 3 s) (h0 : s ≠ 0) : Pce [-s, 1] ∧ dst [-s, 1] = s * s := by
  refine ⟨⟨⟨⟨by simp, rfl⟩, by simp, by simp, ?_, fun z => by simp at z⟩, (nm1 h.neg).mono (by decide)⟩, ?_⟩
  · show -s ≠ 0
    grind
  · unfold dst
    rw [if_pos (by simp)]
    show -s * -s = s * s
    grind
theorem pce2 {l a : Rat} (h : Sz 3 l) (h0 : l ≠ 0) (a1 : a.num.natAbs ≤ 5) (a2 : a.den ≤ 5) (a3 : a * a < 4) : Pce [l * l, a * l, 1] ∧ dst [l * l, a * l, 1] = l * l := by
  have hl : 0 < l * l := by
    have := sq_nn l
    have h3 : l * l ≠ 0 := fun z => (Rat.mul_eq_zero.mp z).elim h0 h0
    grind
  have hm : 0 < (4 - a * a) * (l * l) := Rat.mul_pos (by grind) hl
  refine ⟨⟨⟨⟨by simp, rfl⟩, by simp, by simp, ?_, fun _ s => ?_⟩, nm2 h a1 a2⟩, ?_⟩
  · show l * l ≠ 0
    grind
  · show s * s + a * l * s + l * l ≠ 0
    exact quad_nr (by grind) s
  · unfold dst
    rw [if_neg (by simp)]
    show (if l * l < 0 then _ else l * l) = _
    rw [if_neg (by grind)]
theorem pce3 {c b : Rat} (h : Sz 3 c) (h2 : Sz 3 b) (h3 : b * b < 4 * c) : Pce [c, b, 1] ∧ dst [c, b, 1] = c := by
  have hb := sq_nn b
  refine ⟨⟨⟨⟨by simp, rfl⟩, by simp, by simp, ?_, fun _ s => ?_⟩, nm3 h h2⟩, ?_⟩
  · show c ≠ 0
    grind
  · exact quad_nr h3 s
  · unfold dst
    rw [if_neg (by simp)]
    show (if c < 0 then _ else c) = _
    rw [if_neg (by grind)]
theorem pce4 {c : Rat} (h : Sz 3 c) (h0 : 0 < c) (h3 : ∀ s : Rat, s * s ≠ c) : Pce [-c, 0, 1] ∧ dst [-c, 0, 1] = c := by
  refine ⟨⟨⟨⟨by simp, rfl⟩, by simp, by simp, ?_, fun _ s => ?_⟩, nm3 h.neg (Sz.zero (by decide))⟩, ?_⟩
  · show -c ≠ 0
    grind
  · show s * s + 0 * s + -c ≠ 0
    have := h3 s
    grind
  · unfold dst
    rw [if_neg (by simp)]
    show (if -c < 0 then - -c else _) = _
    rw [if_pos (by grind)]
    grind
/-- squares: c times a square is whole and no square -/
theorem nsq_of {c : Rat} {m k : Nat} (hm : ∀ k, k ≤ m → k * k ≠ m) (e : c * ((k : Nat) : Rat) * ((k : Nat) : Rat) = ((m : Nat) : Rat)) (s : Rat) : s * s ≠ c := fun z => by
  refine no_sq hm (s * ((k : Nat) : Rat)) ?_
  rw [← e, ← z]
  grind
theorem eqT_Pc (p q : List Rat) : eqT (tPc p) (tPc q) = decide (p = q) := by
  show (eqT (tP p) (tP q) && (eqT (tQ (dst p)) (tQ (dst q)) && true)) = _
  rw [eqT_P, eqT_Q]
  by_cases h : p = q
  · subst h; simp
  · simp [h]
theorem inT_Pc (p : List Rat) : ∀ L : List (List Rat), inT (tPc p) (L.map tPc) = decide (p ∈ L)
  | [] => rfl
  | q :: L => by
    have e := eqT_Pc q p
    unfold eqT at e
    show (PyData.eqv (tPc q).toD (tPc p).toD || inT (tPc p) (L.map tPc)) = _
    rw [e, inT_Pc p L]
    by_cases h : q = p
    · subst h; simp
    · have h2 : p ≠ q := fun z => h z.symm
      simp [h, h2]
theorem data_Pc (p : List Rat) : T.data (tPc p) = true := by
  show (datas (tQs p) && (T.data (tQ (dst p)) && true)) = true
  rw [datas_Qs]; rfl
theorem datas_Pc : ∀ L : List (List Rat), datas (L.map tPc) = true
  | [] => rfl
  | p :: L => by rw [List.map_cons, datas, datas_Pc L, data_Pc]; rfl
theorem lay_Pc : ∀ L : List (List Rat), PyData.canLayAll0 (toDs (L.map tPc)) = true
  | [] => rfl
  | p :: L => by
    show (PyData.canLay0 (T.toD (tPc p)) && PyData.canLayAll0 (toDs (L.map tPc))) = true
    rw [lay_Pc L]
    show ((PyData.canLayAll0 (toDs (tQs p)) && (PyData.canLay0 (T.toD (tQ (dst p))) && true)) && true) = true
    rw [canLays_Qs]; rfl
theorem dep_Pc : ∀ L : List (List Rat), PyData.depthAll (toDs (L.map tPc)) ≤ 3
  | [] => Nat.zero_le _
  | p :: L => by
    show max (max (PyData.depthAll (toDs (tQs p)) + 1) (max (PyData.depth (T.toD (tQ (dst p)))) 0) + 1) (PyData.depthAll (toDs (L.map tPc))) ≤ 3
    have := dep_Pc L
    have := depth_Qs p
    have e : PyData.depth (T.toD (tQ (dst p))) = 1 := rfl
    omega
theorem shaped_Pc (L : List (List Rat)) : SeqAt.shaped (.list (toDs (L.map tPc))) = true := by
  show (PyData.canLayAll0 (toDs (L.map tPc)) && decide (PyData.depthAll (toDs (L.map tPc)) + 1 ≤ 64)) = true
  rw [lay_Pc L, Bool.true_and]
  have := dep_Pc L
  exact (decide_eq_true (by omega))
theorem shaped_Pc1 (p : List Rat) : SeqAt.shaped (tPc p).toD = true := by
  have h1 := lay_Pc [p]
  have h2 := dep_Pc [p]
  have e1 : PyData.canLayAll0 (toDs ([p].map tPc)) = (PyData.canLay0 (T.toD (tPc p)) && true) := rfl
  have e2 : PyData.depthAll (toDs ([p].map tPc)) = max (PyData.depth (T.toD (tPc p))) 0 := rfl
  show (PyData.canLay0 (T.toD (tPc p)) && decide (PyData.depth (T.toD (tPc p)) ≤ 64)) = true
  rw [e1, Bool.and_true] at h1
  rw [h1, Bool.true_and]
  exact (decide_eq_true (by omega))
theorem inOk_Pc (p : List Rat) (L : List (List Rat)) : InOk (tPc p) (L.map tPc) := ⟨data_Pc p, datas_Pc L, shaped_Pc1 p, shaped_Pc L⟩
/-! made of pieces -/
def mdL (L : List (List Rat)) (ks : List Int) : List Rat := rsP L (ks.map (0 - ·)) [1]
def mdU (L : List (List Rat)) (ks : List Int) : List Rat := trim ((mdL L ks).map (· * (1 / cf (mdL L ks) 0)))
def mdT (L : List (List Rat)) (ks : List Int) (lag : Nat) (r : Rat) : List Rat := List.replicate lag 0 ++ trim ((trim ((rsP L ks [1]).map (· * r))).map (· * (1 / cf (mdL L ks) 0)))
structure Mad (lag : Nat) (t u : List Rat) : Prop where
  tt : Tr t
  nt : t ≠ []
  tu : Tr u
  u0 : cf u 0 = 1
  cp : Cop t u
  n1 : Nm (2 ^ 44) t
  n2 : Nm (2 ^ 40) u
  le : t.length + u.length ≤ 10 + lag
theorem ps_rep (n : Nat) (p : List Rat) : ps (List.replicate n 0 ++ p) = Mn n * ps p := PS.ext fun k => by
  rw [Mn_c, ps_c, cf_shift, ps_c]
theorem made_ps {L : List (List Rat)} {ks : List Int} {lag : Nat} {r : Rat} : ps (mdU L ks) = C (1 / cf (mdL L ks) 0) * ps (mdL L ks) ∧ ps (mdT L ks lag r) = Mn lag * (C (1 / cf (mdL L ks) 0) * (C r * ps (rsP L ks [1]))) := by
  unfold mdU mdT
  rw [ps_trim, ps_map, ps_rep, ps_trim, ps_map, ps_trim, ps_map]
  exact ⟨rfl, rfl⟩
theorem tr_app {p q : List Rat} (hq : Tr q) (n : q ≠ []) : Tr (p ++ q) := fun _ => by
  have l := len_pos n
  rw [cf_app, if_neg (by rw [List.length_append]; omega), List.length_append, show p.length + q.length - 1 - p.length = q.length - 1 from by omega]
  exact hq n
theorem Cop.sc {p r t : List Rat} {x : Rat} (h : Cop p r) (hx : x ≠ 0) (e : ps t = C x * ps p) : Cop t r :=
  Cop.mul (p := [x]) (q := p) (.const hx (ps_one x)) h (by rw [e, ps_one])
theorem made_ok {L : List (List Rat)} {ks : List Int} {lag : Nat} {r : Rat} (hL : ∀ p, p ∈ L → Pce p) (nd : L.Nodup) (r0 : r ≠ 0) (hr : Sz 3 r) (hS : rsN ks + rsN (ks.map (0 - ·)) ≤ 4) : Mad lag (mdT L ks lag r) (mdU L ks) := by
  have a := rs_of L ks hL rs_one
  have b := rs_of L (ks.map (0 - ·)) hL rs_one
  have c := rs_cop (L := L) (ks := ks) (fun p m => (hL p m).ir) nd
  have en : ks.map (fun k => -k) = ks.map (0 - ·) := List.map_congr_left fun k _ => by omega
  rw [en] at c
  obtain ⟨e1, e2⟩ := made_ps (L := L) (ks := ks) (lag := lag) (r := r)
  have eL : mdL L ks = rsP L (ks.map (0 - ·)) [1] := rfl
  rw [← eL] at b c
  generalize hl : mdL L ks = low at *
  generalize hh : rsP L ks [1] = high at *
  have l0 : cf low 0 ≠ 0 := b.z0
  have v0 : 1 / cf low 0 ≠ 0 := inv_ne l0
  have hU : mdU L ks = low.map (· * (1 / cf low 0)) := by
    unfold mdU; rw [hl]; exact tr_trim_eq (map_tr b.mo.tr b.mo.ne v0).2.1
  have m1 := map_tr a.mo.tr a.mo.ne r0
  have m2 := map_tr m1.2.1 m1.2.2 v0
  have hT : mdT L ks lag r = List.replicate lag 0 ++ (high.map (· * r)).map (· * (1 / cf low 0)) := by
    unfold mdT
    rw [hl, hh, tr_trim_eq m1.2.1, tr_trim_eq m2.2.1]
  have u0 : cf (mdU L ks) 0 = 1 := by
    rw [← ps_c, e1, PS.Cm_c, ps_c]
    grind
  have p1 : (1024 : Nat) ^ rsN ks ≤ 1024 ^ 4 := Nat.pow_le_pow_right (by decide) (by omega)
  have p2 : (1024 : Nat) ^ rsN (ks.map (0 - ·)) ≤ 1024 ^ 4 := Nat.pow_le_pow_right (by decide) (by omega)
  have nu : Nm (2 ^ 40) (mdU L ks) := (b.nm.unit (q := mdU L ks) (k := 0) l0 e1).mono (by rw [Nat.one_mul]; exact p2)
  have hrn := hr.n
  have hrd := hr.den
  refine ⟨?_, ?_, ?_, u0, ?_, ?_, nu, ?_⟩
  · rw [hT]; exact tr_app m2.2.1 m2.2.2
  · rw [hT]; exact fun z => m2.2.2 (List.append_eq_nil_iff.mp z).2
  · exact tr_trim _
  · have h1 : Cop low low → True := fun _ => trivial
    have c1 : Cop (mdT L ks lag r) low := by
      refine Cop.mul (p := List.replicate lag 0 ++ [1]) (q := (high.map (· * r)).map (· * (1 / cf low 0))) (Cop.z (n := lag) l0 ?_) (Cop.sc (p := high) (x := 1 / cf low 0 * r) c (fun z => (Rat.mul_eq_zero.mp z).elim v0 r0) ?_) ?_
      · rw [ps_rep, ps_one, ← PS.one_eq]; grind
      · rw [ps_map, ps_map, ← C_mulC]; grind
      · rw [hT, ps_rep, ps_rep, ps_one, ← PS.one_eq]; grind
    exact (Cop.sc c1.symm v0 e1).symm
  · have k2 : 1 * 1024 ^ rsN (ks.map (0 - ·)) < 2 ^ (10 * rsN (ks.map (0 - ·)) + 1) := by
      rw [Nat.one_mul, show (1024 : Nat) = 2 ^ 10 from rfl, ← Nat.pow_mul]
      exact (Nat.pow_lt_pow_right (by decide) (by omega))
    obtain ⟨D, d0, d1, ho⟩ := b.nm.ov k2
    have s0 := (ho 0).sz d0 d1
    rw [Nat.max_self] at s0
    have s1 := s0.inv l0
    have n1 := (a.nm.scale (q := high.map (· * r)) (M := 8) (x := r) (by omega) (by omega) (ps_map _ _)).scale (M := 2 ^ (10 * rsN (ks.map (0 - ·)) + 1)) (q := (high.map (· * r)).map (· * (1 / cf low 0))) (x := 1 / cf low 0) (Nat.le_of_lt s1.n) (Nat.le_of_lt s1.d) (ps_map _ _)
    rw [hT]
    refine Nm.mono (Nm.shift (j := lag) n1 (ps_rep _ _)) ?_
    rw [Nat.one_mul, show (1024 : Nat) = 2 ^ 10 from rfl, ← Nat.pow_mul, show (8 : Nat) = 2 ^ 3 from rfl, ← Nat.pow_add, ← Nat.pow_add]
    exact (Nat.pow_le_pow_right (by decide) (by omega))
  · rw [hT, hU]
    (simp only [List.length_append, List.length_replicate, List.length_map])
    have := a.le
    have := b.le
    omega
end Tw

namespace Tw
open PS PySem PySem.Spec PyProof.Rows L2
theorem nm_list {A B : Nat} (hB : 1 ≤ B) : ∀ p : List Rat, (∀ x, x ∈ p → x.num.natAbs ≤ A ∧ x.den ≤ B) → ∃ (D : Int) (l : List Int), D ≠ 0 ∧ D.natAbs ≤ B ^ p.length ∧ (l.map Int.natAbs).sum ≤ p.length * A * B ^ p.length ∧ p.map (· * (D : Rat)) = l.map fun i : Int => ((i : Int) : Rat)
  | [], _ => ⟨1, [], by decide, by simp, by simp, rfl⟩
  | x :: p, h => by
    obtain ⟨D, l, d0, d1, d2, d3⟩ := nm_list hB p fun y m => h y (List.mem_cons_of_mem _ m)
    obtain ⟨h1, h2⟩ := h x (List.mem_cons_self ..)
    have hd : (x.den : Int) ≠ 0 := by have := x.den_nz; omega
    refine ⟨D * x.den, (x.num * D) :: l.map (· * (x.den : Int)), Int.mul_ne_zero d0 hd, ?_, ?_, ?_⟩
    · rw [Int.natAbs_mul, List.length_cons, Nat.pow_succ]
      exact Nat.mul_le_mul d1 (by omega)
    · rw [List.map_cons, List.sum_cons, List.length_cons, Nat.pow_succ, List.map_map]
      have e : ∀ l : List Int, (l.map (Int.natAbs ∘ fun i => i * (x.den : Int))).sum = (l.map Int.natAbs).sum * x.den := fun l => by
        induction l with
        | nil => simp
        | cons i l ih =>
          rw [List.map_cons, List.map_cons, List.sum_cons, List.sum_cons, ih, Nat.add_mul]
          simp [Int.natAbs_mul]
      rw [e, Int.natAbs_mul]
      have k1 : x.num.natAbs * D.natAbs ≤ A * B ^ p.length := Nat.mul_le_mul h1 d1
      have k2 : (l.map Int.natAbs).sum * x.den ≤ p.length * A * B ^ p.length * B := Nat.mul_le_mul d2 h2
      have k3 : A * B ^ p.length ≤ A * (B ^ p.length * B) := Nat.mul_le_mul_left _ (Nat.le_mul_of_pos_right _ hB)
      have k4 : (p.length + 1) * A * (B ^ p.length * B) = p.length * A * B ^ p.length * B + A * (B ^ p.length * B) := by
        rw [Nat.add_mul, Nat.one_mul, Nat.add_mul, Nat.mul_assoc (p.length * A)]
      omega
    · rw [List.map_cons, List.map_cons]
      congr 1
      · rw [Rat.intCast_mul, Rat.intCast_mul, ← q_num x]
        grind
      · have : p.map (· * ((D * x.den : Int) : Rat)) = (p.map (· * (D : Rat))).map (· * ((x.den : Int) : Rat)) := by
          rw [List.map_map]
          exact List.map_congr_left fun y _ => by simp only [Function.comp, Rat.intCast_mul]; grind
        rw [this, d3, List.map_map, List.map_map]
        exact List.map_congr_left fun y _ => by simp only [Function.comp, Rat.intCast_mul]
theorem Nm.list {A B : Nat} {p : List Rat} (hA : 1 ≤ A) (hB : 1 ≤ B) (h : ∀ x, x ∈ p → x.num.natAbs ≤ A ∧ x.den ≤ B) : Nm ((p.length + 1) * A * B ^ p.length) p := by
  obtain ⟨D, l, d0, d1, d2, d3⟩ := nm_list hB p h
  refine Nm.ofInts d0 l ?_ ?_ d3
  · refine Nat.le_trans d1 (Nat.le_mul_of_pos_left _ ?_)
    exact Nat.mul_pos (by omega) hA
  · refine Nat.le_trans d2 (Nat.mul_le_mul_right _ (Nat.mul_le_mul_right _ (by omega)))
theorem Nm.pos {N : Nat} {p : List Rat} (h : Nm N p) : 1 ≤ N := by
  obtain ⟨D, d0, d1, _⟩ := h
  omega
theorem Nm.sz {N b : Nat} {p : List Rat} (h : Nm N p) (l : N < 2 ^ b) (k : Nat) : Sz b (cf p k) := by
  obtain ⟨D, d0, d1, ho⟩ := h.ov l
  have := (ho k).sz d0 d1
  rwa [Nat.max_self] at this
theorem serL_succ (t u : List Rat) (n : Nat) : serL t u (n + 1) = serL t u n ++ [serN t u n] := rfl
theorem serP_end {t u : List Rat} {n m : Nat} (hm : m ≤ n) (h : u.length ≤ m + 1) : serP t u n m = serP t u n n := by
  unfold serP
  have key : ∀ k, m ≤ k → sumN (fun i => cf u (i + 1) * serN t u (n - 1 - i)) k = sumN (fun i => cf u (i + 1) * serN t u (n - 1 - i)) m := by
    intro k hk
    induction k with
    | zero => rw [show m = 0 from by omega]
    | succ k ih =>
      rcases Nat.lt_or_ge m (k + 1) with z | z
      · rw [sumN, ih (by omega), cf_out (p := u) (by omega)]
        grind
      · rw [show m = k + 1 from by omega]
  rw [key n hm]
theorem serN_P (t u : List Rat) (n : Nat) : serP t u n n / cf u 0 = serN t u n := (serN_eq t u n).symm
theorem serL_congr {t s u : List Rat} : ∀ {n : Nat}, (∀ k, k < n → cf t k = cf s k) → serL t u n = serL s u n
  | 0, _ => rfl
  | n + 1, h => by
    rw [serL, serL, serL_congr fun k hk => h k (by omega), h n (by omega)]
/-- partial sums of a product -/
def cvP (t l : List Rat) (n k : Nat) : Rat := sumN (fun i => cf t i * cf l (n - i)) k
theorem cvP_sz {t l : List Rat} {a b : Nat} (ht : ∀ i, Sz a (cf t i)) (hl : ∀ i, Sz b (cf l i)) (n : Nat) : ∀ k, Sz (k * (a + b + 1) + 1) (cvP t l n k)
  | 0 => by rw [Nat.zero_mul]; exact Sz.zero (by decide)
  | k + 1 => by
    have := (cvP_sz ht hl n k).add ((ht k).mul (hl (n - k)))
    refine Sz.mono (this) ?_
    rw [Nat.add_mul]
    omega
theorem cvP_end {t l : List Rat} {n m : Nat} (hm : m ≤ n + 1) (h : t.length ≤ m) : cvP t l n m = cf (mulP t l) n := by
  rw [cf_mulP]
  unfold cvP
  have key : ∀ k, m ≤ k → sumN (fun i => cf t i * cf l (n - i)) k = sumN (fun i => cf t i * cf l (n - i)) m := by
    intro k hk
    induction k with
    | zero => rw [show m = 0 from by omega]
    | succ k ih =>
      rcases Nat.lt_or_ge m (k + 1) with z | z
      · rw [sumN, ih (by omega), cf_out (p := t) (by omega)]
        grind
      · rw [show m = k + 1 from by omega]
  exact (key (n + 1) hm).symm
theorem cvP_all {t l : List Rat} {n : Nat} : cvP t l n (n + 1) = cf (mulP t l) n := (cf_mulP t l n).symm
/-- the first n numbers of a product -/
def ledL (t l : List Rat) (n : Nat) : List Rat := (List.range n).map fun k => cf (mulP t l) k
theorem ledL_len (t l : List Rat) (n : Nat) : (ledL t l n).length = n := by unfold ledL; rw [List.length_map, List.length_range]
theorem ledL_succ (t l : List Rat) (n : Nat) : ledL t l (n + 1) = ledL t l n ++ [cf (mulP t l) n] := by unfold ledL; rw [List.range_succ, List.map_append]; rfl
theorem cf_led {t l : List Rat} {n k : Nat} (h : k < n) : cf (ledL t l n) k = cf (mulP t l) k := by
  rw [cf_get (by rw [ledL_len]; exact h)]
  unfold ledL
  simp
theorem ser_led {t l u : List Rat} {n : Nat} : serL (ledL t l n) u n = serL (mulP t l) u n := serL_congr fun k hk => cf_led hk
theorem rgT_at {a b : Int} {k : Nat} {t : T} (h : (rgT a b)[k]? = some t) : t = .int (a + (k : Nat)) ∧ k < (b - a).toNat := by
  have k1 := (List.getElem?_eq_some_iff.mp h).1
  unfold rgT at h k1
  rw [List.length_map, List.length_range] at k1
  rw [List.getElem?_map, List.getElem?_range k1] at h
  exact ⟨(Option.some.inj h).symm, k1⟩
theorem rgT_len' (a b : Int) : (rgT a b).length = (b - a).toNat := by
  unfold rgT
  (rw [List.length_map, List.length_range])
theorem ser_ok {t u : List Rat} {N M n b : Nat} (h0 : cf u 0 ≠ 0) (hu : Nm N u) (ht : Nm M t) (l : M * N ^ (n + 1) < 2 ^ b) : (∀ k, k ≤ n → Sz b (serN t u k) ∧ ∀ i, i ≤ k → Sz b (serP t u k i)) ∧ SzL b (serL t u (n + 1)) := by
  have h1 : ∀ k, k ≤ n → Sz b (serN t u k) ∧ ∀ i, i ≤ k → Sz b (serP t u k i) := fun k hk => ser_sz h0 hu ht (Nat.lt_of_le_of_lt (Nat.mul_le_mul_left _ (Nat.pow_le_pow_right hu.pos (by omega))) l)
  refine ⟨h1, fun x m => ?_⟩
  rw [serL_map] at m
  obtain ⟨k, hk, rfl⟩ := List.mem_map.mp m
  exact (h1 k (by have := List.mem_range.mp hk; omega)).1
theorem Nm.line {l : List Rat} (sl : SzL 100 l) (ll : l.length ≤ 100) : Nm (2 ^ 10107) l := by
  refine (Nm.list (A := 2 ^ 100) (B := 2 ^ 100) (Nat.two_pow_pos _) (Nat.two_pow_pos _) fun x m => ⟨Nat.le_of_lt (sl x m).n, Nat.le_of_lt (sl x m).d⟩).mono ?_
  have h : (l.length + 1) * 2 ^ 100 * (2 ^ 100) ^ l.length ≤ 2 ^ 7 * 2 ^ 100 * (2 ^ 100) ^ 100 := Nat.mul_le_mul (Nat.mul_le_mul_right _ (by omega)) (Nat.pow_le_pow_right (Nat.two_pow_pos _) ll)
  have e : 2 ^ 7 * 2 ^ 100 * (2 ^ 100) ^ 100 = 2 ^ 10107 := by rw [← Nat.pow_mul, ← Nat.pow_add, ← Nat.pow_add]
  exact e ▸ h
theorem pw_big {M N n : Nat} (hM : M < 2 ^ 1000) (hN : N < 2 ^ 1000) (hn : n ≤ 100) : M * 2 ^ 10107 * N ^ (n + 1) < 2 ^ 10000000 := by
  have h1 : N ^ (n + 1) ≤ (2 ^ 1000) ^ (n + 1) := Nat.pow_le_pow_left (Nat.le_of_lt hN) _
  have h2 : M * 2 ^ 10107 * N ^ (n + 1) ≤ 2 ^ 1000 * 2 ^ 10107 * (2 ^ 1000) ^ (n + 1) := Nat.mul_le_mul (Nat.mul_le_mul_right _ (Nat.le_of_lt hM)) h1
  refine Nat.lt_of_le_of_lt h2 ?_
  rw [← Nat.pow_mul, ← Nat.pow_add, ← Nat.pow_add]
  exact (Nat.pow_lt_pow_right (by decide) (by omega))
theorem pw_lt {N : Nat} (hN : N < 2 ^ 1000) : N < 2 ^ 10000000 := Nat.lt_of_lt_of_le hN (Nat.pow_le_pow_right (by decide) (by decide))
end Tw

namespace Tw
open PS PySem PySem.Spec PyProof.Rows L2
theorem IsG.timesT {p q G m p' q' : List Rat} (h : IsG p q G) (tm : Tr m) (nm : m ≠ []) (ep : ps p' = ps p * ps m) (eq : ps q' = ps q * ps m) : IsG p' q' (prodP G (mon m)) := by
  have c0 := tm nm
  have ci := C_inv c0
  have em : ps m = C (cf m (m.length - 1)) * ps (mon m) := by rw [ps_mon]; grind
  have h2 := h.scale (p' := p.map (· * cf m (m.length - 1))) (q' := q.map (· * cf m (m.length - 1))) c0 c0 (ps_map _ _) (ps_map _ _)
  exact h2.times (mo_mon tm nm) (by rw [ep, ps_map, em]; grind) (by rw [eq, ps_map, em]; grind)
theorem Chn.g {B : Nat} {p q : List Rat} (h : Chn B p q) : ∀ {G : List Rat}, Tr p → Tr q → IsG p q G → Ht B G := by
  induction h with
  | stop h =>
    intro G tp _ hG
    rw [isG_end tp hG]
    exact h.mon tp (isG_ne hG)
  | @step p q f r a b hn hp hq hb tf tr lr er hr hc ih =>
    intro G tp tq hG
    refine ih tq (tr_nrm tr) ?_
    by_cases hz : r = []
    · rw [show nrm r = r from by rw [hz]; rfl]
      refine hG.step (x := 1) (Fin'.ps f) er (by decide) ?_
      rw [← PS.one_eq]
      grind
    · rw [show nrm r = mon r from by unfold nrm; rw [if_neg hz]]
      exact hG.step (x := 1 / cf r (r.length - 1)) (Fin'.ps f) er (inv_ne (tr hz)) (ps_mon r)
/-- a teller whose sizes are known -/
structure Rdy (h : Nat) (t u : List Rat) : Prop where
  tt : Tr t
  nt : t ≠ []
  tu : Tr u
  u0 : cf u 0 ≠ 0
  n1 : Nm (2 ^ h) t
  n2 : Nm (2 ^ h) u
/-- one more factor above and below -/
structure Mor (m : List Rat) : Prop where
  tr : Tr m
  ne : m ≠ []
  z0 : cf m 0 ≠ 0
  nm : Nm (2 ^ 17) m
  le : m.length ≤ 4
theorem Rdy.mor {h : Nat} {t u m : List Rat} (r : Rdy h t u) (hm : Mor m) : Rdy (h + 17) (prodP t m) (prodP u m) := by
  refine ⟨tr_trim _, prod_ne r.tt r.nt hm.tr hm.ne, tr_trim _, ?_, ?_, ?_⟩
  · rw [cf_prod0]
    exact fun z => (Rat.mul_eq_zero.mp z).elim r.u0 hm.z0
  · rw [Nat.pow_add]; exact r.n1.prod hm.nm
  · rw [Nat.pow_add]; exact r.n2.prod hm.nm
theorem Mad.rdy {lag : Nat} {t u : List Rat} (h : Mad lag t u) : Rdy 44 t u := ⟨h.tt, h.nt, h.tu, one_of0 h.u0, h.n1, h.n2.mono (by decide)⟩
theorem Rdy.mono {h k : Nat} {t u : List Rat} (r : Rdy h t u) (l : h ≤ k) : Rdy k t u := ⟨r.tt, r.nt, r.tu, r.u0, r.n1.mono (pow_le l), r.n2.mono (pow_le l)⟩
theorem Rdy.chn {h B : Nat} {t u : List Rat} (r : Rdy h t u) (hB : ∀ a, a < 24 → ∀ b, b < 24 → a + b ≤ t.length + u.length → 1 ≤ b → b ≤ a → chC (h + 1) a b ≤ B) (l : t.length + u.length ≤ 24) : Chn B t u := by
  have l1 := len_pos r.nt
  have l2 := len_pos (ne_of0 r.u0)
  refine chn_h r.tt r.tu (r.n1.ht (Nat.pow_lt_pow_right (by decide) (Nat.lt_succ_self h))) (r.n2.ht (Nat.pow_lt_pow_right (by decide) (Nat.lt_succ_self h))) r.nt (ne_of0 r.u0) (fun q => hB _ (by omega) _ (by omega) (by omega) (by omega) q) (fun q => hB _ (by omega) _ (by omega) (by omega) (by omega) (by omega)) ?_
  have z := hB 1 (by decide) 1 (by decide) (by omega) (by decide) (by decide)
  have y : h + 1 + (1 + 3 - 1) * (h + 1 + 1) + (h + 1) ≤ chC (h + 1) 1 1 := euT_mono _ _ (Nat.zero_le _)
  omega
theorem chC_up {h k a b : Nat} (l : h ≤ k) : chC h a b ≤ chC k a b := by
  unfold chC
  refine (euT_up l ?_ _).1
  have : (a + 3 - b) * (h + 1) ≤ (a + 3 - b) * (k + 1) := Nat.mul_le_mul_left _ (by omega)
  omega
theorem chC_80 : ∀ a, a < 24 → ∀ b, b < 24 → a + b ≤ 23 → 1 ≤ b → b ≤ a → chC 81 a b ≤ 38000000 := by decide +kernel
theorem chC_70 : ∀ a, a < 24 → ∀ b, b < 24 → a + b ≤ 17 → 1 ≤ b → b ≤ a → chC 71 a b ≤ 1500000 := by decide +kernel
theorem ser_iff {t u s v : List Rat} {n : Nat} (u0 : cf u 0 ≠ 0) (v0 : cf v 0 ≠ 0) (l1 : t.length + v.length - 1 ≤ n) (l2 : s.length + u.length - 1 ≤ n) : serL t u n = serL s v n ↔ prodP t v = prodP s u := by
  have e : prodP t v = prodP s u ↔ ps t * ps v = ps s * ps u := by
    rw [← ps_prod, ← ps_prod]
    exact ⟨fun z => by rw [z], fun z => ps_inj (tr_trim _) (tr_trim _) z⟩
  rw [e]
  constructor
  · intro h
    refine ser_first u0 v0 l1 l2 fun k hk => ?_
    rw [← cf_serL t u n k hk, ← cf_serL s v n k hk, h]
  · intro h
    have := (ser_cross u0 v0).mpr h
    rw [serL_map, serL_map]
    refine (List.map_congr_left fun k _ => ?_)
    have := congrArg (fun f => PS.c f k) this
    exact this
theorem Rdy.ser {t u : List Rat} (r : Rdy 80 t u) {n : Nat} (hn : n ≤ 20) : SzL 1900 (serL t u n) := by
  have h := (ser_ok (n := 20) (b := 1900) r.u0 r.n2 r.n1 (by rw [← Nat.pow_mul, ← Nat.pow_add]; exact Nat.pow_lt_pow_right (by decide) (by decide))).1
  intro x m
  rw [serL_map] at m
  obtain ⟨k, hk, rfl⟩ := List.mem_map.mp m
  exact (h k (by have := List.mem_range.mp hk; omega)).1
theorem Rdy.led {t u l : List Rat} (r : Rdy 80 t u) (sl : SzL 33 l) (ll : l.length ≤ 8) : SzL 1900 (serL (mulP t l) u l.length) := by
  have nl : Nm (2 ^ 301) l := by
    refine (Nm.list (A := 2 ^ 33) (B := 2 ^ 33) (Nat.two_pow_pos _) (Nat.two_pow_pos _) fun x m => ⟨Nat.le_of_lt (sl x m).n, Nat.le_of_lt (sl x m).d⟩).mono ?_
    have h : (l.length + 1) * 2 ^ 33 * (2 ^ 33) ^ l.length ≤ 2 ^ 4 * 2 ^ 33 * (2 ^ 33) ^ 8 := Nat.mul_le_mul (Nat.mul_le_mul_right _ (by omega)) (Nat.pow_le_pow_right (Nat.two_pow_pos _) ll)
    have e : 2 ^ 4 * 2 ^ 33 * (2 ^ 33) ^ 8 = 2 ^ 301 := by rw [← Nat.pow_mul, ← Nat.pow_add, ← Nat.pow_add]
    exact e ▸ h
  have np : Nm (2 ^ 381) (mulP t l) := by
    have := r.n1.of nl (ps_mul t l)
    rwa [← Nat.pow_add] at this
  have h := (ser_ok (n := 8) (b := 1900) r.u0 r.n2 np (by rw [← Nat.pow_mul, ← Nat.pow_add]; exact Nat.pow_lt_pow_right (by decide) (by decide))).1
  intro x m
  rw [serL_map] at m
  obtain ⟨k, hk, rfl⟩ := List.mem_map.mp m
  exact (h k (by have := List.mem_range.mp hk; omega)).1
end Tw

namespace Tw
open PS PySem PySem.Spec PyProof.Rows L2
def isUnder (v : T) : Bool := isPoly v && (match v with
  | .tup (t :: _) => !eqT t (tQ 0)
  | _ => false)
def isPair : T → Bool
  | .tup [a, b] => isPoly a && isUnder b
  | _ => false
theorem isUnder_P {p : List Rat} (tp : Tr p) (h0 : cf p 0 ≠ 0) : isUnder (tP p) = true := by
  obtain ⟨x, hx, hx0, _⟩ := last_tr tp (ne_of0 h0)
  unfold isUnder
  rw [isPoly_P hx hx0, Bool.true_and]
  match p, h0 with
  | y :: r, h0 =>
    show (!eqT (tQ y) (tQ 0)) = true
    rw [eqT_Q, decide_eq_false (show y ≠ 0 from h0)]
    rfl
theorem isPair_P {t u : List Rat} (tt : Tr t) (nt : t ≠ []) (tu : Tr u) (h0 : cf u 0 ≠ 0) : isPair (.tup [tP t, tP u]) = true := by
  obtain ⟨x, hx, hx0, _⟩ := last_tr tt nt
  show (isPoly (tP t) && isUnder (tP u)) = true
  rw [isPoly_P hx hx0, isUnder_P tu h0]
  rfl
theorem sh_pair {t u : List Rat} (lt : t.length ≤ 1000) (lu : u.length ≤ 1000) : (T.tup [tP t, tP u]).sh = true := by
  have a := sh_P (p := t) (by omega)
  have b := sh_P (p := u) (by omega)
  show (decide (2 ≤ lim) && ((tP t).sh && ((tP u).sh && true))) = true
  rw [a, b]
  decide
end Tw

namespace Tw
open PS PySem PySem.Spec PyProof.Rows L2
/-- Pascal's numbers -/
def bin : Nat → Nat → Nat
  | _, 0 => 1
  | 0, _ + 1 => 0
  | n + 1, k + 1 => bin n k + bin n (k + 1)
theorem bin_zero (n : Nat) : bin n 0 = 1 := by cases n <;> rfl
theorem bin_out : ∀ {n k : Nat}, n < k → bin n k = 0
  | 0, k + 1, _ => rfl
  | n + 1, k + 1, h => by rw [bin, bin_out (by omega), bin_out (by omega)]
theorem bin_pos : ∀ {n k : Nat}, k ≤ n → 0 < bin n k
  | n, 0, _ => by rw [bin_zero]; omega
  | n + 1, k + 1, h => by
    rw [bin]
    have := bin_pos (n := n) (k := k) (by omega)
    omega
theorem bin_step : ∀ (n k : Nat), k ≤ n → bin n (k + 1) * (k + 1) = bin n k * (n - k)
  | 0, 0, _ => rfl
  | n + 1, 0, _ => by
    have ih := bin_step n 0 (by omega)
    have ih2 : bin n 1 = n := by simpa [bin_zero] using ih
    show (bin n 0 + bin n 1) * 1 = bin (n + 1) 0 * (n + 1 - 0)
    rw [bin_zero, bin_zero, ih2]
    omega
  | n + 1, k + 1, h => by
    have i1 := bin_step n k (by omega)
    rw [bin, bin]
    rcases Nat.lt_or_ge k n with q | q
    · have i2 := bin_step n (k + 1) (by omega)
      obtain ⟨d, rfl⟩ : ∃ d, n = k + 1 + d := ⟨n - (k + 1), by omega⟩
      rw [show k + 1 + d - (k + 1) = d from by omega] at i2
      rw [show k + 1 + d - k = d + 1 from by omega] at i1
      rw [show k + 1 + d + 1 - (k + 1) = d + 1 from by omega]
      generalize bin (k + 1 + d) k = a at *
      generalize bin (k + 1 + d) (k + 1) = b at *
      generalize bin (k + 1 + d) (k + 1 + 1) = c at *
      rw [Nat.add_mul, i2]
      have e1 : b * (k + 1 + 1) = b * (k + 1) + b := by rw [Nat.mul_succ]
      have e2 : (a + b) * (d + 1) = a * (d + 1) + (b * d + b) := by rw [Nat.add_mul, Nat.mul_succ b d]
      rw [e1, i1, e2]
      omega
    · have hk : k = n := by omega
      subst hk
      rw [bin_out (n := k) (k := k + 1) (by omega), bin_out (n := k) (k := k + 1 + 1) (by omega)]
      simp
theorem bin_le : ∀ n k, bin n k ≤ 2 ^ n
  | n, 0 => by rw [bin_zero]; exact Nat.one_le_two_pow
  | 0, k + 1 => by rw [bin]; omega
  | n + 1, k + 1 => by
    rw [bin, Nat.pow_succ]
    have := bin_le n k
    have := bin_le n (k + 1)
    omega
/-- the ones -/
def ones : PS := ⟨fun _ => 1⟩
theorem ones_c (f : PS) (n : Nat) : (ones * f).c n = sumN f.c (n + 1) := by
  rw [PS.mul_c, sumN_rev]
  have : ∀ m, m ≤ n + 1 → sumN (fun i => ones.c (n + 1 - 1 - i) * f.c (n - (n + 1 - 1 - i))) m = sumN f.c m := by
    intro m hm
    induction m with
    | zero => rfl
    | succ m ih =>
      rw [sumN, sumN, ih (by omega), show n - (n + 1 - 1 - m) = m from by omega]
      show _ + 1 * _ = _
      rw [Rat.one_mul]
  exact this (n + 1) (Nat.le_refl _)
theorem ones_zero (f : PS) : (ones * f).c 0 = f.c 0 := by
  rw [ones_c]
  simp [sumN, Rat.zero_add]
theorem ones_succ (f : PS) (n : Nat) : (ones * f).c (n + 1) = (ones * f).c n + f.c (n + 1) := by
  rw [ones_c, ones_c]
  rfl
theorem ones_step : ps [1, -1] * ones = 1 := PS.ext fun n => by
  rw [show ps [1, -1] * ones = ones * ps [1, -1] from by grind]
  cases n with
  | zero => rw [ones_zero]; rfl
  | succ n =>
    have key : ∀ m, (ones * ps [1, -1]).c (m + 1) = 0 := by
      intro m
      induction m with
      | zero => rw [ones_succ, ones_zero]; decide +kernel
      | succ m ih => rw [ones_succ, ih]; show 0 + cf [1, -1] (m + 2) = 0; rw [cf_out (by simp), Rat.add_zero]
    rw [key]
    rfl
/-- ones to a power -/
def onp : Nat → PS
  | 0 => 1
  | k + 1 => ones * onp k
theorem onp_bin : ∀ (k n : Nat), (onp (k + 1)).c n = ((bin (n + k) k : Nat) : Rat)
  | 0, n => by
    rw [bin_zero]
    induction n with
    | zero => rw [onp, ones_zero]; rfl
    | succ n ih =>
      rw [onp, ones_succ]
      rw [onp] at ih
      rw [ih]
      show 1 + (PS.C 1).c (n + 1) = 1
      rw [PS.C_c, if_neg (by omega), Rat.add_zero]
  | k + 1, 0 => by
    rw [onp, ones_zero, onp_bin k 0, Nat.zero_add, Nat.zero_add]
    have : ∀ k, bin k k = 1 := fun k => by
      induction k with
      | zero => rfl
      | succ k ih => rw [bin, ih, bin_out (by omega)]
    rw [this, this]
  | k + 1, n + 1 => by
    rw [onp, ones_succ, onp_bin k (n + 1)]
    have ih := onp_bin (k + 1) n
    rw [onp] at ih
    rw [ih, show n + 1 + (k + 1) = (n + (k + 1)) + 1 from by omega, bin, show n + 1 + k = n + (k + 1) from by omega]
    rw [Rat.natCast_add]
    grind
theorem onp_mul (k : Nat) (f : PS) : onp (k + 1) * f = ones * (onp k * f) := by
  rw [onp]
  grind
/-- numbers of a row cut off after the first n -/
def cutL (f : PS) (n : Nat) : List Rat := (List.range n).map f.c
theorem cutL_len (f : PS) (n : Nat) : (cutL f n).length = n := by unfold cutL; rw [List.length_map, List.length_range]
theorem cf_cutL {f : PS} {n k : Nat} (h : k < n) : cf (cutL f n) k = f.c k := by
  rw [cf_get (by rw [cutL_len]; exact h)]
  unfold cutL
  simp
theorem cutL_set_ {f : PS} {n : Nat} : True := trivial
theorem serL_cut (t u : List Rat) (n : Nat) : serL t u n = cutL (serS t u) n := serL_map t u n
theorem cut_mul {f g h : PS} {n k : Nat} (e : ∀ i, i < n → g.c i = h.c i) (hk : k < n) : (f * g).c k = (f * h).c k := by
  rw [PS.mul_c, PS.mul_c]
  have : ∀ m, m ≤ k + 1 → sumN (fun i => f.c i * g.c (k - i)) m = sumN (fun i => f.c i * h.c (k - i)) m := by
    intro m
    induction m with
    | zero => intro _; rfl
    | succ m ih => intro hm; rw [sumN, sumN, ih (by omega), e _ (by omega)]
  exact this _ (Nat.le_refl _)
theorem list_ext_cf {p q : List Rat} (l : p.length = q.length) (h : ∀ k, k < p.length → cf p k = cf q k) : p = q := by
  refine List.ext_getElem l fun k h1 h2 => ?_
  have := h k h1
  rwa [cf_get h1, cf_get h2] at this
/-- means of an order -/
def cesL (f : PS) (r n : Nat) : List Rat := (List.range n).map fun k => (onp r * f).c k / ((bin (k + r) r : Nat) : Rat)
theorem cesL_len (f : PS) (r n : Nat) : (cesL f r n).length = n := by unfold cesL; rw [List.length_map, List.length_range]
section
variable {X : Cx} {own : List Nat} {a b c : Expr} {ra rb rc : TR} {x y z : Str} {px py pz pt pos : Pos}
/-- x, y, zs = e, e', [..] -/
theorem st_parNNF (i j l : Nat) {kt k2 pt2} (hc : X.calm = true) (hN : X.N.Nodup) (ha : PEt X own true true a ra) (hb : PEt X own true true b rb) (hd : PFt X own c rc)
    (hi : X.N[i]? = some x := by rfl) (hj : X.N[j]? = some y := by rfl) (hl : X.N[l]? = some z := by rfl) (hij : i ≠ j := by decide) (hil : i ≠ l := by decide) (hjl : j ≠ l := by decide)
    (hx : X.env.scope.names.lookup x = some .local := by rfl) (hy : X.env.scope.names.lookup y = some .local := by rfl) (hz : X.env.scope.names.lookup z = some .local := by rfl)
    (ho1 : own.contains i = false := by rfl) (ho2 : own.contains j = false := by rfl) (ho3 : own.contains l = true := by rfl)
    (hw : swappedStores [.Tuple [.Name x px, .Name y py, .Name z pz] kt pt] (.Tuple [a, b, c] k2 pt2) X.env = pure (some [x, y, z]) := by rfl)
    (hs : swapsWithSole [.Tuple [.Name x px, .Name y py, .Name z pz] kt pt] (.Tuple [a, b, c] k2 pt2) pos.line X.env = pure false := by rfl)
    (h1 : starEach [a, b, c] X.env = (false, eval a X.env) :: starEach [b, c] X.env := by rfl) (h2 : starEach [b, c] X.env = (false, eval b X.env) :: starEach [c] X.env := by rfl) (h3 : starEach [c] X.env = (false, eval c X.env) :: starEach [] X.env := by rfl) :
    PSt X own (.Assign [.Tuple [.Name x px, .Name y py, .Name z pz] kt pt] (.Tuple [a, b, c] k2 pt2) pos) (sPar3 i j l ra rb rc) := by
  refine ⟨fun F => psImp (ps_par3 hc hN hi hj hl hij hil hjl hx hy hz (pa_cons ha.pe (pa_cons hb.pe (pa_cons hd.pe pa_nil h3) h2) h1) hw hs) fun D σ H h => ?_⟩
  obtain ⟨W, env, Dt, R, h, k⟩ := h
  refine ⟨W, F.Z0, env, _, R.e, h, fun u hu v H1 W1 s1 p1 => ⟨W1, F.Z0, env, _, R.e.step s1, hu, fun u2 hu2 v2 H2 W2 s2 p2 => ⟨W2, F.Z0, env, _, (R.e.step s1).step s2, hu2, fun u3 hu3 q xs ts H3 W3 e s3 hn hq hw3 p => ⟨_, _, _, rfl, ?_⟩⟩⟩⟩
  subst e
  have R3 := (R.step s1).step s2
  have q1 := p1.rp.step s1.ok s2
  have q2 := p2.rp
  obtain ⟨R4, s4⟩ := R3.set ho1 q1
  have o4 := (R3.e.set ho1 q1).2
  have z1 := zzSet R3.e ho1 q1
  have q2' := q2.mono z1
  obtain ⟨R5, s5⟩ := R4.set ho2 q2'
  have o5 := (R4.e.set ho2 q2').2
  obtain ⟨R6, s6⟩ := R5.setOwn s3 hn ho3 hq hw3 (p.mono fun c z => by
    rcases z with (z | ⟨y, z⟩) | z
    · exact .inl (.inl z)
    · exact .inl (.inr ⟨y, (o4 c).mp ((o5 c).mp z)⟩)
    · exact .inr z)
  exact k.nx _ hu3 _ _ _ R6 ((((s1.trans s2).so.wid.trans s4).trans s5).trans s6)
end
/-- a row while it is summed: up to the i-th number -/
def cumL (g : PS) (n i : Nat) : List Rat := (List.range n).map fun j => if j ≤ i then (ones * g).c j else g.c j
theorem cumL_len (g : PS) (n i : Nat) : (cumL g n i).length = n := by unfold cumL; rw [List.length_map, List.length_range]
theorem cumL_zero (g : PS) (n : Nat) : cutL g n = cumL g n 0 := by
  unfold cutL cumL
  refine List.map_congr_left fun j _ => ?_
  by_cases h : j ≤ 0
  · rw [if_pos h, show j = 0 from by omega, ones_zero]
  · rw [if_neg h]
theorem cumL_end (g : PS) (n : Nat) : cumL g n (n - 1) = cutL (ones * g) n := by
  unfold cutL cumL
  refine List.map_congr_left fun j hj => ?_
  have := List.mem_range.mp hj
  rw [if_pos (by omega)]
theorem cf_cum {g : PS} {n i k : Nat} (h : k < n) : cf (cumL g n i) k = if k ≤ i then (ones * g).c k else g.c k := by
  rw [cf_get (by rw [cumL_len]; exact h)]
  unfold cumL
  simp
theorem cumL_set {g : PS} {n i : Nat} (h : i + 1 < n) : (cumL g n i).set (i + 1) ((ones * g).c i + g.c (i + 1)) = cumL g n (i + 1) := by
  refine list_ext_cf (by rw [List.length_set, cumL_len, cumL_len]) fun k hk => ?_
  rw [List.length_set, cumL_len] at hk
  rw [cf_set _ _ _ (by rw [cumL_len]; exact h), cf_cum hk, cf_cum hk]
  by_cases e : k = i + 1
  · subst e
    rw [if_pos rfl, if_pos (Nat.le_refl _), ones_succ]
  · rw [if_neg e]
    by_cases e2 : k ≤ i
    · rw [if_pos e2, if_pos (by omega)]
    · rw [if_neg e2, if_neg (by omega)]
theorem tQ_inv {c : Nat} (h : 0 < c) : T.tup [.int 1, .int (c : Nat)] = tQ (1 / ((c : Nat) : Rat)) := by
  let x : Rat := ⟨1, c, by omega, Nat.coprime_one_left c⟩
  have e : x * (((c : Nat) : Int) : Rat) = ((1 : Int) : Rat) := q_num x
  have hc : (((c : Nat) : Int) : Rat) ≠ 0 := castI_ne (by omega)
  have e2 : x = 1 / ((c : Nat) : Rat) := by
    have e3 : (((c : Nat) : Int) : Rat) = ((c : Nat) : Rat) := rfl
    have e4 : ((1 : Int) : Rat) = 1 := rfl
    rw [e3] at e hc
    rw [e4] at e
    grind
  rw [← e2]
  rfl
theorem sz_inv_nat {c b : Nat} (h : 0 < c) (hb : c < 2 ^ b) : Sz b (1 / ((c : Nat) : Rat)) := by
  refine Sz.inv (Sz.nat hb ?_) ?_
  · rcases Nat.eq_zero_or_pos b with z | z
    · rw [z] at hb; simp at hb; omega
    · exact z
  · exact fun z => by
      have : (((c : Nat) : Int) : Rat) ≠ 0 := castI_ne (by omega)
      exact this z
/-- a product's number while it is summed -/
def csP (f g : PS) (a j : Nat) : Rat := sumN (fun i => g.c (a - i) * f.c i) j
theorem csP_end (f g : PS) (a : Nat) : csP f g a (a + 1) = (g * f).c a := by
  rw [show g * f = f * g from by grind, PS.mul_c]
  unfold csP
  have : ∀ m, sumN (fun i => g.c (a - i) * f.c i) m = sumN (fun i => f.c i * g.c (a - i)) m := fun m => by
    induction m with
    | zero => rfl
    | succ m ih => rw [sumN, sumN, ih, Rat.mul_comm]
  exact this _
theorem csP_sz {f g : PS} {a b c : Nat} (hf : ∀ i, i ≤ a → Sz b (f.c i)) (hg : ∀ i, i ≤ a → Sz c (g.c i)) : ∀ j, j ≤ a + 1 → Sz (j * (c + b + 1) + 1) (csP f g a j)
  | 0, _ => by rw [Nat.zero_mul]; exact Sz.zero (by decide)
  | j + 1, hj => by
    have := (csP_sz hf hg j (by omega)).add ((hg (a - j) (by omega)).mul (hf j (by omega)))
    refine Sz.mono this ?_
    rw [Nat.add_mul]
    omega
theorem onp_sz {k i : Nat} (hk : k ≤ 20) (hi : i < 100) : Sz 200 ((onp k).c i) := by
  cases k with
  | zero =>
    show Sz 200 ((PS.C 1).c i)
    rw [PS.C_c]
    split
    · exact ⟨by decide, by decide⟩
    · exact Sz.zero (by decide)
  | succ k =>
    rw [onp_bin]
    exact Sz.nat (Nat.lt_of_le_of_lt (bin_le _ _) (Nat.pow_lt_pow_right (by decide) (by omega))) (by decide)
theorem onp_ne (k i : Nat) : (onp (k + 1)).c i ≠ 0 := by
  rw [onp_bin]
  have := bin_pos (n := i + k) (k := k) (by omega)
  exact fun z => (castI_ne (D := ((bin (i + k) k : Nat) : Int)) (by omega)) z
theorem cesL_succ (f : PS) (r n : Nat) : cesL f r (n + 1) = cesL f r n ++ [(onp r * f).c n / ((bin (n + r) r : Nat) : Rat)] := by
  unfold cesL
  rw [List.range_succ, List.map_append]
  rfl
end Tw

namespace Tw
open PS PySem PySem.Spec PyProof.Rows L2
def euS (s : Rat) (a : PS) (n k : Nat) : Rat := sumN (fun b => ((bin n b : Nat) : Rat) * s ^ b * a.c (n - b)) k
def eu (s : Rat) (a : PS) : PS := ⟨fun n => (1 / (1 + s)) ^ n * euS s a n (n + 1)⟩
theorem eu_c (s : Rat) (a : PS) (n : Nat) : (eu s a).c n = (1 / (1 + s)) ^ n * euS s a n (n + 1) := rfl
theorem euS_add (s : Rat) (f g : PS) (n : Nat) : ∀ k, euS s (f + g) n k = euS s f n k + euS s g n k
  | 0 => by show (0 : Rat) = 0 + 0; grind
  | k + 1 => by
    have ih := euS_add s f g n k
    unfold euS at *
    rw [sumN, sumN, sumN, ih, PS.add_c]
    grind
theorem eu_add (s : Rat) (f g : PS) : eu s (f + g) = eu s f + eu s g := PS.ext fun n => by
  rw [PS.add_c, eu_c, eu_c, eu_c, euS_add]
  grind
theorem euS_mul (s x : Rat) (f : PS) (n : Nat) : ∀ k, euS s (C x * f) n k = x * euS s f n k
  | 0 => by show (0 : Rat) = x * 0; grind
  | k + 1 => by
    have ih := euS_mul s x f n k
    unfold euS at *
    rw [sumN, sumN, ih, PS.Cm_c]
    grind
theorem eu_mul (s x : Rat) (f : PS) : eu s (C x * f) = C x * eu s f := PS.ext fun n => by
  rw [PS.Cm_c, eu_c, eu_c, euS_mul]
  grind
theorem eu_zero (s : Rat) : eu s 0 = 0 := by
  have := eu_mul s 0 0
  have z : ∀ f : PS, C 0 * f = 0 := fun f => PS.ext fun n => by rw [PS.Cm_c, Rat.zero_mul, zero_c]
  rw [z, z] at this
  exact this
theorem bin_succ (n k : Nat) : bin (n + 1) (k + 1) = bin n k + bin n (k + 1) := by rw [bin]
theorem Mn1_c (f : PS) (n : Nat) : (Mn 1 * f).c (n + 1) = f.c n := by
  rw [Mn_c, if_pos (by omega), show n + 1 - 1 = n from by omega]
theorem Mn1_0 (f : PS) : (Mn 1 * f).c 0 = 0 := by rw [Mn_c, if_neg (by omega)]
theorem ps_lin (w s : Rat) : ps [w, -s] = C w - C s * Mn 1 := PS.ext fun n => by
  rw [PS.sub_c, PS.Cm_c, PS.C_c]
  show cf [w, -s] n = _
  match n with
  | 0 => show w = w - s * (if 0 = 1 then 1 else 0); rw [if_neg (by omega)]; grind
  | 1 => show -s = 0 - s * (if 1 = 1 then 1 else 0); rw [if_pos rfl]; grind
  | n + 2 => rw [cf_out (by simp)]; show _ = 0 - s * (if n + 2 = 1 then 1 else 0); rw [if_neg (by omega)]; grind
/-- the row moved by one -/
theorem euS_z (s : Rat) (a : PS) (n : Nat) : ∀ k, k ≤ n → sumN (fun b => ((bin (n + 1) b : Nat) : Rat) * s ^ b * a.c (n - b)) (k + 1) = sumN (fun b => ((bin n b : Nat) : Rat) * s ^ b * a.c (n - b)) (k + 1) + s * sumN (fun b => ((bin n b : Nat) : Rat) * s ^ b * a.c (n - 1 - b)) k
  | 0, _ => by
    simp only [sumN, bin_zero]
    grind
  | k + 1, h => by
    have ih := euS_z s a n k (by omega)
    have a1 : sumN (fun b => ((bin n b : Nat) : Rat) * s ^ b * a.c (n - b)) (k + 1 + 1) = sumN (fun b => ((bin n b : Nat) : Rat) * s ^ b * a.c (n - b)) (k + 1) + ((bin n (k + 1) : Nat) : Rat) * s ^ (k + 1) * a.c (n - (k + 1)) := rfl
    have a2 : sumN (fun b => ((bin n b : Nat) : Rat) * s ^ b * a.c (n - 1 - b)) (k + 1) = sumN (fun b => ((bin n b : Nat) : Rat) * s ^ b * a.c (n - 1 - b)) k + ((bin n k : Nat) : Rat) * s ^ k * a.c (n - 1 - k) := rfl
    rw [sumN, ih, a1, a2, bin_succ, Rat.natCast_add, show n - 1 - k = n - (k + 1) from by omega, Rat.pow_succ]
    grind
theorem eu_z {s : Rat} (hs : 1 + s ≠ 0) (a : PS) : ps [1 + s, -s] * eu s (Mn 1 * a) = Mn 1 * eu s a := PS.ext fun n => by
  rw [ps_lin, show (C (1 + s) - C s * Mn 1) * eu s (Mn 1 * a) = C (1 + s) * eu s (Mn 1 * a) - C s * (Mn 1 * eu s (Mn 1 * a)) from by grind, PS.sub_c, PS.Cm_c, PS.Cm_c]
  cases n with
  | zero =>
    rw [Mn1_0, Mn1_0, eu_c]
    have z : euS s (Mn 1 * a) 0 (0 + 1) = 0 := by
      show 0 + ((bin 0 0 : Nat) : Rat) * s ^ 0 * (Mn 1 * a).c 0 = 0
      rw [Mn1_0]
      grind
    rw [z]
    grind
  | succ n =>
    rw [Mn1_c, Mn1_c, eu_c, eu_c, eu_c]
    have e1 : euS s (Mn 1 * a) (n + 1) (n + 1 + 1) = sumN (fun b => ((bin (n + 1) b : Nat) : Rat) * s ^ b * a.c (n - b)) (n + 1) := by
      unfold euS
      rw [sumN, Nat.sub_self, Mn1_0]
      have : ∀ m, m ≤ n + 1 → sumN (fun b => ((bin (n + 1) b : Nat) : Rat) * s ^ b * (Mn 1 * a).c (n + 1 - b)) m = sumN (fun b => ((bin (n + 1) b : Nat) : Rat) * s ^ b * a.c (n - b)) m := by
        intro m
        induction m with
        | zero => intro _; rfl
        | succ m ih => intro hm; rw [sumN, sumN, ih (by omega), show n + 1 - m = (n - m) + 1 from by omega, Mn1_c]
      rw [this _ (Nat.le_refl _)]
      grind
    have e2 : euS s (Mn 1 * a) n (n + 1) = sumN (fun b => ((bin n b : Nat) : Rat) * s ^ b * a.c (n - 1 - b)) n := by
      unfold euS
      rw [sumN, Nat.sub_self, Mn1_0]
      have : ∀ m, m ≤ n → sumN (fun b => ((bin n b : Nat) : Rat) * s ^ b * (Mn 1 * a).c (n - b)) m = sumN (fun b => ((bin n b : Nat) : Rat) * s ^ b * a.c (n - 1 - b)) m := by
        intro m
        induction m with
        | zero => intro _; rfl
        | succ m ih => intro hm; rw [sumN, sumN, ih (by omega), show n - m = (n - 1 - m) + 1 from by omega, Mn1_c]
      rw [this _ (Nat.le_refl _)]
      grind
    rw [e1, e2, euS_z s a n n (Nat.le_refl _), Rat.pow_succ]
    unfold euS
    generalize (1 / (1 + s)) ^ n = p
    generalize sumN (fun b => ((bin n b : Nat) : Rat) * s ^ b * a.c (n - b)) (n + 1) = x
    generalize sumN (fun b => ((bin n b : Nat) : Rat) * s ^ b * a.c (n - 1 - b)) n = y
    grind
theorem bin_self : ∀ k, bin k k = 1
  | 0 => rfl
  | k + 1 => by rw [bin, bin_self k, bin_out (by omega)]
theorem eu_one {s : Rat} (hs : 1 + s ≠ 0) : ps [1 + s, -s] * eu s 1 = C (1 + s) := by
  have e : ∀ n, (eu s 1).c n = (1 / (1 + s)) ^ n * s ^ n := fun n => by
    rw [eu_c]
    unfold euS
    rw [sumN_single (n + 1) (k := n) (by omega) (fun b hb hbn => by
      show _ * (PS.C 1).c (n - b) = 0
      rw [PS.C_c, if_neg (by omega)]
      grind), bin_self, Nat.sub_self]
    show _ * (((1 : Nat) : Rat) * s ^ n * (PS.C 1).c 0) = _
    rw [PS.C_c, if_pos rfl, show ((1 : Nat) : Rat) = 1 from rfl]
    grind
  refine PS.ext fun n => ?_
  rw [ps_lin, show (C (1 + s) - C s * Mn 1) * eu s 1 = C (1 + s) * eu s 1 - C s * (Mn 1 * eu s 1) from by grind, PS.sub_c, PS.Cm_c, PS.Cm_c, PS.C_c]
  cases n with
  | zero =>
    rw [Mn1_0, e, if_pos rfl]
    simp only [Rat.pow_zero]
    grind
  | succ n =>
    rw [Mn1_c, e, e, if_neg (by omega), Rat.pow_succ, Rat.pow_succ]
    generalize (1 / (1 + s)) ^ n = p
    generalize s ^ n = q
    grind
/-- a polynomial with z over a line put in, times the line to a power -/
def pin (l : PS) : List Rat → Nat → PS
  | [], _ => 0
  | x :: p, m => C x * pw l m + Mn 1 * pin l p (m - 1)
theorem eu_pin {s : Rat} (hs : 1 + s ≠ 0) (a : PS) : ∀ (p : List Rat) (m : Nat), p.length ≤ m + 1 → pw (ps [1 + s, -s]) m * eu s (ps p * a) = pin (ps [1 + s, -s]) p m * eu s a
  | [], m, _ => by
    rw [ps_nil, show (0 : PS) * a = 0 from by grind, eu_zero]
    show _ = (0 : PS) * _
    grind
  | x :: p, m, h => by
    have e1 : ps (x :: p) * a = C x * a + Mn 1 * (ps p * a) := by rw [ps_cons]; grind
    rw [e1, eu_add, eu_mul, pin]
    by_cases hp : p = []
    · subst hp
      rw [ps_nil, show Mn 1 * (0 * a) = (0 : PS) from by grind, eu_zero]
      show _ = (C x * pw _ m + Mn 1 * 0) * _
      grind
    · have hl := len_pos hp
      obtain ⟨m, rfl⟩ : ∃ k, m = k + 1 := ⟨m - 1, by rw [List.length_cons] at h; omega⟩
      have ih := eu_pin hs a p m (by rw [List.length_cons] at h; omega)
      have ez := eu_z hs (ps p * a)
      rw [show m + 1 - 1 = m from by omega]
      have ew : pw (ps [1 + s, -s]) (m + 1) = ps [1 + s, -s] * pw (ps [1 + s, -s]) m := by
        first | rfl | (rw [pw]; grind)
      rw [ew]
      generalize ps [1 + s, -s] = l at *
      generalize pw l m = q at *
      generalize eu s (Mn 1 * (ps p * a)) = y at *
      generalize eu s (ps p * a) = x1 at *
      have : l * q * (C x * eu s a + y) = C x * (l * q) * eu s a + q * (l * y) := by grind
      rw [this, ez]
      have : q * (Mn 1 * x1) = Mn 1 * (q * x1) := by grind
      rw [this, ih]
      grind
end Tw

namespace Tw
open PS PySem PySem.Spec PyProof.Rows L2
theorem tail_ps (a : PS) : a = C (a.c 0) + Mn 1 * ⟨fun n => a.c (n + 1)⟩ := PS.ext fun n => by
  rw [PS.add_c, PS.C_c]
  cases n with
  | zero => rw [Mn1_0, if_pos rfl, Rat.add_zero]
  | succ n => rw [Mn1_c, if_neg (by omega), Rat.zero_add]
theorem lin_c (w s : Rat) (f : PS) (n : Nat) : (ps [w, -s] * f).c (n + 1) = w * f.c (n + 1) - s * f.c n := by
  rw [ps_lin, show (C w - C s * Mn 1) * f = C w * f - C s * (Mn 1 * f) from by grind, PS.sub_c, PS.Cm_c, PS.Cm_c, Mn1_c]
theorem lin_0 (w s : Rat) (f : PS) : (ps [w, -s] * f).c 0 = w * f.c 0 := by
  rw [ps_lin, show (C w - C s * Mn 1) * f = C w * f - C s * (Mn 1 * f) from by grind, PS.sub_c, PS.Cm_c, PS.Cm_c, Mn1_0]
  grind
theorem eu_tail {s : Rat} (hs : 1 + s ≠ 0) (a : PS) : ps [1 + s, -s] * eu s a = C (a.c 0) * C (1 + s) + Mn 1 * eu s ⟨fun n => a.c (n + 1)⟩ := by
  have e1 := eu_one hs
  have e2 := eu_z hs ⟨fun n => a.c (n + 1)⟩
  have e3 : eu s a = C (a.c 0) * eu s 1 + eu s (Mn 1 * ⟨fun n => a.c (n + 1)⟩) := by
    have t := tail_ps a
    have : C (a.c 0) = C (a.c 0) * (1 : PS) := by grind
    rw [← eu_mul, ← eu_add, ← this, ← t]
  rw [e3]
  generalize ps [1 + s, -s] = l at *
  generalize eu s (Mn 1 * ⟨fun n => a.c (n + 1)⟩) = y at *
  have : l * (C (a.c 0) * eu s 1 + y) = C (a.c 0) * (l * eu s 1) + l * y := by grind
  rw [this, e1, e2]
theorem eu_eu {s1 s2 s3 : Rat} (h1 : 1 + s1 ≠ 0) (h2 : 1 + s2 ≠ 0) (h3 : 1 + s3 ≠ 0) (e : 1 + s3 = (1 + s1) * (1 + s2)) (a : PS) : eu s2 (eu s1 a) = eu s3 a := by
  have rec1 : ∀ a : PS, ps [1 + s3, -s3] * eu s2 (eu s1 a) = C (a.c 0) * C (1 + s3) + Mn 1 * eu s2 (eu s1 ⟨fun n => a.c (n + 1)⟩) := fun a => by
    have t1 := eu_tail h1 a
    have t2 := congrArg (eu s2) t1
    have o1 := eu_one h2
    have z1 := eu_z h2 (eu s1 a)
    have z2 := eu_z h2 (eu s1 ⟨fun n => a.c (n + 1)⟩)
    rw [eu_add, ps_lin, show (C (1 + s1) - C s1 * Mn 1) * eu s1 a = C (1 + s1) * eu s1 a + C (-s1) * (Mn 1 * eu s1 a) from by
      rw [show C (-s1) = -C s1 from PS.ext fun n => by rw [PS.C_c, PS.neg_c, PS.C_c]; split <;> grind]
      grind, eu_add, eu_mul, eu_mul, show C (a.c 0) * C (1 + s1) = C (a.c 0) * (C (1 + s1) * 1) from by grind, eu_mul, eu_mul] at t2
    have m1 : C (-s1) = -C s1 := PS.ext fun n => by rw [PS.C_c, PS.neg_c, PS.C_c]; split <;> grind
    rw [m1] at t2
    have e3 : ps [1 + s3, -s3] = C (1 + s1) * ps [1 + s2, -s2] - C s1 * Mn 1 := by
      rw [ps_lin, ps_lin]
      have a1 : C (1 + s3) = C (1 + s1) * C (1 + s2) := by rw [C_mulC, e]
      have a2 : C s3 = C (1 + s1) * C s2 + C s1 := by
        rw [C_mulC]
        refine PS.ext fun n => ?_
        rw [PS.add_c, PS.C_c, PS.C_c, PS.C_c]
        split <;> grind
      rw [a1, a2]
      grind
    have a1 : C (1 + s3) = C (1 + s1) * C (1 + s2) := by rw [C_mulC, e]
    rw [e3, a1, ← o1, ← z2]
    generalize ps [1 + s2, -s2] = l at *
    generalize eu s2 (Mn 1 * eu s1 a) = y at *
    generalize eu s2 (Mn 1 * eu s1 ⟨fun n => a.c (n + 1)⟩) = y2 at *
    generalize eu s2 (eu s1 a) = x at *
    have k1 : (C (1 + s1) * l - C s1 * Mn 1) * x = l * (C (1 + s1) * x) - C s1 * (Mn 1 * x) := by grind
    rw [k1, ← z1]
    have k2 : l * (C (1 + s1) * x) - C s1 * (l * y) = l * (C (1 + s1) * x + -C s1 * y) := by grind
    rw [k2, t2]
    grind
  have key : ∀ n a, (eu s2 (eu s1 a)).c n = (eu s3 a).c n := by
    intro n
    induction n with
    | zero =>
      intro a
      have r1 := congrArg (fun f => PS.c f 0) (rec1 a)
      have r2 := congrArg (fun f => PS.c f 0) (eu_tail h3 a)
      simp only [lin_0, PS.add_c, Mn1_0] at r1 r2
      have : (1 + s3) * (eu s2 (eu s1 a)).c 0 = (1 + s3) * (eu s3 a).c 0 := by rw [r1, r2]
      grind
    | succ n ih =>
      intro a
      have r1 := congrArg (fun f => PS.c f (n + 1)) (rec1 a)
      have r2 := congrArg (fun f => PS.c f (n + 1)) (eu_tail h3 a)
      simp only [lin_c, PS.add_c, Mn1_c] at r1 r2
      rw [ih a, ih] at r1
      have : (1 + s3) * (eu s2 (eu s1 a)).c (n + 1) = (1 + s3) * (eu s3 a).c (n + 1) := by grind
      grind
  exact PS.ext fun n => key n a
theorem pw_0 (f : PS) (m : Nat) : (pw f m).c 0 = f.c 0 ^ m := by
  induction m with
  | zero => show (PS.C 1).c 0 = _; rw [PS.C_c, if_pos rfl, Rat.pow_zero]
  | succ m ih => rw [pw, cf_mul0, ih, Rat.pow_succ]
/-- Euler's means of a row -/
theorem eu_row {s : Rat} (hs : 1 + s ≠ 0) {t u : List Rat} (u0 : cf u 0 ≠ 0) {m : Nat} (lt : t.length ≤ m + 1) (lu : u.length ≤ m + 1) {T U : List Rat} (eT : ps T = C (1 + s) * pin (ps [1 + s, -s]) t m) (eU : ps U = pin (ps [1 + s, -s]) u m * ps [1 + s, -s]) :
    cf U 0 ≠ 0 ∧ eu s (serS t u) = serS T U := by
  have w0 : cf U 0 ≠ 0 := by
    have e := congrArg (fun f => PS.c f 0) eU
    simp only [cf_mul0, ps_c] at e
    rw [e]
    match u, u0 with
    | x :: p, u0 =>
      show (C x * pw _ m + Mn 1 * _).c 0 * (1 + s) ≠ 0
      rw [PS.add_c, PS.Cm_c, Mn1_0, pw_0, Rat.add_zero]
      show x * (1 + s) ^ m * (1 + s) ≠ 0
      have p0 : (1 + s) ^ m ≠ 0 := by
        clear e eT eU lt lu
        induction m with
        | zero => rw [Rat.pow_zero]; decide
        | succ m ih => rw [Rat.pow_succ]; exact fun z => (Rat.mul_eq_zero.mp z).elim ih hs
      exact fun z => (Rat.mul_eq_zero.mp z).elim (fun y => (Rat.mul_eq_zero.mp y).elim u0 p0) hs
  refine ⟨w0, ser_uniq w0 ?_⟩
  have a1 := eu_pin hs (serS t u) u m lu
  have a2 := eu_pin hs 1 t m lt
  rw [ser_mul u0, show ps t = ps t * 1 from by grind, a2] at a1
  have o := eu_one hs
  rw [eU, eT, show pin (ps [1 + s, -s]) u m * ps [1 + s, -s] * eu s (serS t u) = ps [1 + s, -s] * (pin (ps [1 + s, -s]) u m * eu s (serS t u)) from by grind, ← a1, ← o]
  grind
theorem loop_g {tm t0 : Nat} (ht : tm ≤ t0) (K : Nat) {G : List Rat} (hG2 : 2 ≤ G.length) : ∀ (m : Nat) (p q : List Rat) (e : Nat), q.length < m → q.length < p.length → e + p.length ≤ K → Tr p → Tr q → Ht (euM tm t0 e) p → Ht (euT tm t0 e) q → IsG p q G → Ht (euT tm t0 (K - 2)) G
  | m + 1, p, q, e, hm, hl, he, tp, tq, hp, hq, hG => by
    have t2 := euM_le ht e
    by_cases hn : q = []
    · subst hn
      have eg := isG_end tp hG
      have l1 := mon_len tp (isG_ne hG)
      rw [← eg] at l1
      rw [eg]
      exact (hp.mon tp (isG_ne hG)).mono (Nat.le_trans t2 (euT_mono tm t0 (by omega)))
    · obtain ⟨f, r, tf, tr, lr, er, hr, _⟩ := div_ht hp hq tq hn
      have s1 := euT_step ht e (p.length - q.length - 1)
      rw [show p.length - q.length - 1 + 2 = p.length + 1 - q.length from by omega, show e + (p.length - q.length - 1) + 1 = e + (p.length - q.length) from by omega] at s1
      refine loop_g ht K hG2 m q (nrm r) (e + (p.length - q.length)) (by rw [nrm_len tr]; omega) (by rw [nrm_len tr]; omega) (by omega) tq (tr_nrm tr) (hq.mono (euM_up ht (by omega))) (nrm_ht tr (hr.mono s1)) ?_
      by_cases hz : r = []
      · rw [show nrm r = r from by rw [hz]; rfl]
        refine hG.step (x := 1) (Fin'.ps f) er (by decide) ?_
        rw [← PS.one_eq]
        grind
      · rw [show nrm r = mon r from by unfold nrm; rw [if_neg hz]]
        exact hG.step (x := 1 / cf r (r.length - 1)) (Fin'.ps f) er (inv_ne (tr hz)) (ps_mon r)
/-- a common part, how great it is -/
theorem g_ht {p q G : List Rat} {a b : Nat} (tp : Tr p) (tq : Tr q) (hp : Ht a p) (hq : Ht b q) (hn : q ≠ []) (hG : IsG p q G) : Ht (euT b (a + (p.length + 1 - q.length) * (b + 1) + b + 1) (q.length - 2)) G := by
  rcases Nat.lt_or_ge 1 G.length with l | l
  · obtain ⟨f, r, tf, tr, lr, er, hr, _⟩ := div_ht hp hq tq hn
    generalize ht0 : a + (p.length + 1 - q.length) * (b + 1) + b + 1 = t0 at *
    refine loop_g (tm := b) (t0 := t0) (by omega) q.length l (q.length + 1) q (nrm r) 0 (by rw [nrm_len tr]; omega) (by rw [nrm_len tr]; omega) (by omega) tq (tr_nrm tr) hq (nrm_ht tr (hr.mono (by show _ ≤ t0; omega))) ?_
    by_cases hz : r = []
    · rw [show nrm r = r from by rw [hz]; rfl]
      refine hG.step (x := 1) (Fin'.ps f) er (by decide) ?_
      rw [← PS.one_eq]
      grind
    · rw [show nrm r = mon r from by unfold nrm; rw [if_neg hz]]
      exact hG.step (x := 1 / cf r (r.length - 1)) (Fin'.ps f) er (inv_ne (tr hz)) (ps_mon r)
  · have := mo_one hG.mo l
    rw [this]
    have g1 : Ht 1 ([1] : List Rat) := ⟨1, by decide, by decide, fun x h => by rw [List.mem_singleton.mp h]; exact ⟨1, by decide, by decide +kernel⟩⟩
    refine g1.mono ?_
    have := euT_mono b (a + (p.length + 1 - q.length) * (b + 1) + b + 1) (Nat.zero_le (q.length - 2))
    have e : euT b (a + (p.length + 1 - q.length) * (b + 1) + b + 1) 0 = a + (p.length + 1 - q.length) * (b + 1) + b + 1 := rfl
    omega
end Tw

namespace Tw
open PS PySem PySem.Spec PyProof.Rows L2
/-- a sum of two rows of numbers -/
def sumP (p q : List Rat) : List Rat := trim ((List.range (max p.length q.length)).map fun k => cf p k + cf q k)
theorem ps_sumP (p q : List Rat) : ps (sumP p q) = ps p + ps q := by
  unfold sumP
  rw [ps_trim]
  refine PS.ext fun k => ?_
  rw [PS.add_c, ps_c, ps_c, ps_c]
  rcases Nat.lt_or_ge k (max p.length q.length) with h | h
  · rw [cf_get (by rw [List.length_map, List.length_range]; exact h)]
    simp
  · rw [cf_out (by rw [List.length_map, List.length_range]; exact h), cf_out (p := p) (by omega), cf_out (p := q) (by omega)]
    grind
theorem sumP_len (p q : List Rat) : (sumP p q).length ≤ max p.length q.length := by
  unfold sumP
  refine Nat.le_trans (trim_len _) ?_
  (rw [List.length_map, List.length_range])
  exact Nat.le_refl _
def pwL (p : List Rat) : Nat → List Rat
  | 0 => [1]
  | n + 1 => prodP (pwL p n) p
theorem ps_pwL (p : List Rat) : ∀ n, ps (pwL p n) = pw (ps p) n
  | 0 => by show ps [1] = C 1; rw [ps_one]
  | n + 1 => by rw [pwL, ps_prod, ps_pwL p n, pw]
theorem pwL_len {p : List Rat} (h : p.length ≤ 2) : ∀ n, (pwL p n).length ≤ n + 1
  | 0 => by simp [pwL]
  | n + 1 => by
    have ih := pwL_len h n
    have := prod_len (pwL p n) p
    rw [pwL]
    omega
theorem pwL_nm {p : List Rat} {b : Nat} (h : Nm (2 ^ b) p) : ∀ n, Nm (2 ^ (b * n)) (pwL p n)
  | 0 => (Nm.one (N := 1) (by decide) (by decide)).mono Nat.one_le_two_pow
  | n + 1 => by
    rw [pwL, Nat.mul_succ, Nat.pow_add]
    exact (pwL_nm h n).prod h
/-- one part of a polynomial with the line put in -/
def pinE (l : List Rat) (at_ m : Nat) (x : Rat) : List Rat := trim ((List.replicate at_ 0 ++ pwL l (m - at_)).map (· * x))
theorem ps_pinE (l : List Rat) (at_ m : Nat) (x : Rat) : ps (pinE l at_ m x) = Mn at_ * (C x * pw (ps l) (m - at_)) := by
  unfold pinE
  rw [ps_trim, ps_map, ps_rep, ps_pwL]
  grind
theorem pinE_len {l : List Rat} {at_ m : Nat} (x : Rat) (h : l.length ≤ 2) (h2 : at_ ≤ m) : (pinE l at_ m x).length ≤ m + 1 := by
  unfold pinE
  refine Nat.le_trans (trim_len _) ?_
  rw [List.length_map, List.length_append, List.length_replicate]
  have := pwL_len h (m - at_)
  omega
theorem pinE_nm {l : List Rat} {at_ m b : Nat} {x : Rat} (h : Nm (2 ^ b) l) (hx : Sz b x) : Nm (2 ^ (b * m + b)) (pinE l at_ m x) := by
  have h1 := (pwL_nm h (m - at_)).mono (pow_le (Nat.mul_le_mul_left b (show m - at_ ≤ m by omega)))
  have h2 := (h1.shift (j := at_) (q := List.replicate at_ 0 ++ pwL l (m - at_)) (ps_rep _ _)).scale (M := 2 ^ b) (x := x) (q := pinE l at_ m x) (Nat.le_of_lt hx.n) (Nat.le_of_lt hx.d) (by unfold pinE; rw [ps_trim, ps_map])
  rwa [← Nat.pow_add] at h2
def pinL (l : List Rat) : List Rat → Nat → Nat → List Rat → List Rat
  | [], _, _, f => f
  | x :: p, at_, m, f => pinL l p (at_ + 1) m (sumP f (pinE l at_ m x))
theorem pinL_ps (l : List Rat) : ∀ (p : List Rat) (at_ m : Nat) (f : List Rat), p.length + at_ ≤ m + 1 → ps (pinL l p at_ m f) = ps f + Mn at_ * pin (ps l) p (m - at_)
  | [], at_, m, f, _ => by
    show ps f = ps f + Mn at_ * 0
    grind
  | x :: p, at_, m, f, h => by
    rw [List.length_cons] at h
    rw [pinL, pinL_ps l p (at_ + 1) m _ (by omega), ps_sumP, ps_pinE, pin, show m - (at_ + 1) = m - at_ - 1 from by omega, ← Mn_add at_ 1]
    grind
theorem pinL_len {l : List Rat} (hl : l.length ≤ 2) : ∀ (p : List Rat) (at_ m : Nat) (f : List Rat), p.length + at_ ≤ m + 1 → f.length ≤ m + 1 → (pinL l p at_ m f).length ≤ m + 1
  | [], _, _, _, _, h => h
  | x :: p, at_, m, f, h, hf => by
    rw [List.length_cons] at h
    rw [pinL]
    refine pinL_len hl p (at_ + 1) m _ (by omega) ?_
    have h1 := sumP_len f (pinE l at_ m x)
    have h2 := pinE_len (l := l) (at_ := at_) (m := m) x hl (by omega)
    omega
theorem Nm.sumP {a b : Nat} {p q : List Rat} (hp : Nm (2 ^ a) p) (hq : Nm (2 ^ b) q) : Nm (2 ^ (a + b + 1)) (Tw.sumP p q) := by
  have := hp.sum hq (ps_sumP p q)
  rwa [← Nat.pow_add, Nat.mul_comm, ← Nat.pow_succ] at this
theorem pinL_nm {l : List Rat} {b : Nat} (hl : Nm (2 ^ b) l) : ∀ (p : List Rat) (at_ m e : Nat) (f : List Rat), SzL b p → Nm (2 ^ e) f → Nm (2 ^ (e + p.length * (b * m + b + 1))) (pinL l p at_ m f)
  | [], _, _, _, _, _, h => by rw [List.length_nil, Nat.zero_mul]; exact h
  | x :: p, at_, m, e, f, hp, hf => by
    have ih := pinL_nm hl p (at_ + 1) m _ _ (fun y n => hp y (List.mem_cons_of_mem _ n)) (hf.sumP (pinE_nm (at_ := at_) (m := m) hl (hp x (List.mem_cons_self ..))))
    rw [pinL]
    refine ih.mono (pow_le ?_)
    rw [List.length_cons, Nat.add_mul]
    omega
theorem tr_pinL {l : List Rat} : ∀ (p : List Rat) (at_ m : Nat) (f : List Rat), Tr f → Tr (pinL l p at_ m f)
  | [], _, _, _, h => h
  | x :: p, at_, m, f, _ => tr_pinL p (at_ + 1) m _ (tr_trim _)
end Tw

namespace Tw
open PySem
open PySem.Spec PyProof.Rows L2
/-- as spT; what is given back keeps clear of all that stood ahead of the call -/
def spN (K : PySem.W.Frag) (Φ : TF) : Sp := fun vs H Q _ => ∃ (W Z : Addr → Prop) (ts : List T) (Qt : T → Prop), WOk W H ∧ (∀ a, Z a → ∃ o, H a = some o) ∧ RpA K W Z H vs ts ∧ Φ ts Qt ∧
  ∀ u, Qt u → ∀ v H' W', Step W H W' H' → Rp K W' (Dom H) H' v u → Q v H'
structure HasN (P : Program) (w : World) (K : PySem.W.Frag) (mg : Str → Option Value) (base : Heap) (x : Str) (ps : List Str) (k : Nat) (Φ : TF) : Prop where
  ex : ∃ f fd, mg x = some (.ref f) ∧ PySem.W.keepIn K (.ref f) = true ∧ Binds K fd ps [] ∧ FnOk P w K mg base CX0 k f fd ps (spN K Φ) ∧ ∃ oc od osl, K.lookup f = some ⟨oc, od, .func fd, osl⟩
section
variable {P : Program}
variable {w : World}
variable {K : PySem.W.Frag}
variable {mg : Str → Option Value}
variable {base : Heap}
theorem HasN.has {x : Str} {ps : List Str} {k : Nat} {Φ : TF} (h : HasN P w K mg base x ps k Φ) : Has P w K mg base x ps k Φ := by
  obtain ⟨f, fd, g, kp, b, F, lk⟩ := h.ex
  refine ⟨f, fd, g, kp, b, F.imp ?_, lk⟩
  exact fun vs H Q E ⟨W, Z, ts, Qt, a1, a2, a3, a4, a5⟩ => ⟨W, Z, ts, Qt, a1, a2, a3, a4, fun u q v H' W' s p => a5 u q v H' W' s (p.mono fun a z => a2 a z)⟩
theorem fn_N {x qual : Str} {st : Stmt} {f : Addr} {fd : FuncData} {N ps : List Str} {k : Nat} {Φ : TF} (own : List Nat) (F : Fun K x qual st f fd) (S : FnScope N ps (defScope st)) (len : ∀ ts Q, Φ ts Q → ts.length = ps.length)
    (ho : (own.all fun i => decide (ps.length ≤ i)) = true)
    (body : ∀ (cdv : Value) (A : Around) (outer : List Env) (s : Shared) (H : Hp) (E : XK), Room k (A.deeper (envOfC qual (defScope st) s.heap.objs.size f cdv)) →
      ∃ r, PBt (cxOf CX0 P w K mg base N qual (defScope st) f cdv A outer s H E).nox own (defBody st) r ∧ ∀ ts Q, Φ ts Q → r { nx := fun _ => Q .non, rt := fun _ => False, rn := Q } (startT N ts)) :
    FnOk P w K mg base CX0 (k + 1) f fd ps (spN K Φ) := by
  refine F.ok S (fun vs H Q E h => ?_) fun cdv A outer s H vs Q E hr h => ?_
  · obtain ⟨W, Z, ts, Qt, _, _, r, h, _⟩ := h
    rw [r.length]
    exact len _ _ h
  · obtain ⟨W, Z, ts, Qt, w0, zx, r, h, kk⟩ := h
    obtain ⟨rd, hb, hq⟩ := body cdv A outer s H E hr
    refine ⟨_, hb.ps ⟨W, Z, H⟩, W, startT N ts, _, ⟨RpA.start w0 zx r ?_, ?_⟩, hq ts Qt h, ?_⟩
    · rw [len _ _ h]; exact ho
    · refine (StepO.refl W No H).congr fun a q => ?_
      obtain ⟨j, hj, e⟩ := q
      have h1 : ts.length ≤ j := by
        rw [len _ _ h]
        exact of_decide_eq_true (List.all_eq_true.mp ho j hj)
      unfold L2.start at e
      rw [List.getElem?_append_right (by rw [List.length_map, r.length]; exact h1)] at e
      have := List.eq_of_mem_replicate (List.mem_of_getElem? e)
      cases this
    · refine ⟨fun env' q σ' H' W' R' s' => ?_, fun _ q => q.elim, fun _ q => q.elim, fun u q => q.elim, fun u q v H' W' s' p => kk u q v H' W' s' p⟩
      exact kk _ q _ H' W' R'.out .non
theorem has_N {x : Str} {st : Stmt} {N ps : List Str} (k : Nat) {Φ : TF} (own : List Nat) (Se : Sees P base) (d : Def K mg x st ps) (S : FnScope N ps (defScope st)) (hk : 40 ≤ k) (len : ∀ ts Q, Φ ts Q → ts.length = ps.length)
    (ho : (own.all fun i => decide (ps.length ≤ i)) = true)
    (body : ∀ (f : Addr) (cdv : Value) (A : Around) (outer : List Env) (s : Shared) (H : Hp) (E : XK), Room k (A.deeper (envOfC x (defScope st) s.heap.objs.size f cdv)) →
      NoPy base P (A.deeper (envOfC x (defScope st) s.heap.objs.size f cdv)) (envOfC x (defScope st) s.heap.objs.size f cdv :: outer) →
      ∃ r, PBt (cxOf CX0 P w K mg base N x (defScope st) f cdv A outer s H E).nox own (defBody st) r ∧ ∀ ts Q, Φ ts Q → r { nx := fun _ => Q .non, rt := fun _ => False, rn := Q } (startT N ts)) : HasN P w K mg base x ps (k + 1) Φ := by
  obtain ⟨f, fd, F, b, g⟩ := d.ex
  obtain ⟨oc, od, _, _, _, _, _, _, osl, _, lk, _⟩ := F.ex
  exact ⟨f, fd, g, F.kp, b, fn_N own F S len ho fun cdv A outer s H E hr => body f cdv A outer s H E hr (nopy (H := H) (E := E) (x := x) Se S hk hr), oc, od, osl, lk⟩
end
section
variable {X : Cx} {own : List Nat} {a b cc : Expr} {ra rb : TR} {rs : TL} {rc : TB} {c1 t1 bb : Bool} {pos p : Pos} {x : Str} {ps : List Str} {k : Nat} {Φ : TF} {es : List Expr}
def sRetF (ra : TR) : TSt := fun D env => ra env fun u => (∃ ts, u = .lst ts ∧ noLs ts = true) ∧ D.rn u
theorem noDom {H : Hp} {q : Addr} (h : ¬ Dom H q) : H q = none := by
  cases e : H q with
  | none => rfl
  | some o => exact absurd ⟨o, e⟩ h
theorem st_retF (ha : PFt X own a ra) : PSt X own (.Return (some a) pos) (sRetF ra) := by
  refine ⟨fun F => psImp (ps_ret ha.pe) fun D σ H h => ?_⟩
  obtain ⟨W, env, Dt, R, h, k⟩ := h
  refine ⟨W, F.Z0, env, _, R.e, h, fun u hu q xs ts H' W' e s hn hq hw p => ?_⟩
  obtain ⟨⟨ts', e', nl⟩, hu⟩ := hu
  subst e
  cases e'
  exact k.rn _ hu _ H' W' (R.step s).out (.lst hw (fun ⟨o, e⟩ => by rw [R.s.none_of hn] at e; cases e) hq (p.noL nl))
/-- one of the frame's own lists -/
theorem st_retO (i : Nat) (hN : X.N[i]? = some x := by rfl) (hv : Vis X.env.scope x := by first | exact Or.inl rfl | exact Or.inr (Or.inl rfl) | exact Or.inr (Or.inr rfl)) (ho : own.contains i = true := by rfl)
    (hd : (x == ("__debug__" : Str)) = false := by decide) (hcd : (x == ("__classdict__" : Str)) = false := by decide) : PSt X own (.Return (some (.Name x p)) pos) (sRetF (rVar i)) := by
  refine ⟨fun F => psImp (ps_ret (pe_var hN hv hd hcd)) fun D σ H h => ?_⟩
  obtain ⟨W, env, Dt, R, ⟨t, e, ⟨ts', e', nl⟩, q⟩, k⟩ := h
  have hm : i ∈ own := List.contains_iff_mem.mp ho
  obtain ⟨a, xs, ts, h1, rfl, h3, h4, h5, h6⟩ := R.e.ow i t e hm
  cases e'
  refine ⟨_, h1, k.rn _ q _ H W R.out (.lst h4 (fun ⟨o, e⟩ => ?_) h3 (h6.noL nl))⟩
  rcases R.s.own a ⟨i, hm, h1⟩ with z | z
  · exact z
  · rw [z] at e; cases e
/-- a call of a def that gives a new list -/
def rCallF (Φ : TF) (rs : TL) : TR := fun env Q => rs env fun ts => Φ ts fun u => (∃ ts, u = .lst ts ∧ noLs ts = true) ∧ Q u
theorem ef_call (h : HasN X.prog X.w X.K X.mg X.base x ps k Φ) (hr : Room k X.A) (ha : PAt X own bb (a :: es) rs) (hg : Gl X x := by rfl) (hdb : (x == ("__debug__" : Str)) = false := by decide)
    (he : starEach (a :: es) X.env = (false, eval a X.env) :: starEach es X.env := by rfl) (hpl : (backTo pos (starEach es X.env)).any (·.1) = false := by rfl) : PFt X own (.Call (.Name x p) (a :: es) [] pos) (rCallF Φ rs) := by
  obtain ⟨f, fd, hm, kp, bd, F, _⟩ := h.ex
  refine ⟨peImp (pe_call F hr hg hm kp bd .nil pass0 ha.pa hdb he hpl) fun σ H Q h => ?_⟩
  obtain ⟨W, Z, env, Qt, R, h, k⟩ := h
  refine ⟨W, Z, env, _, R, h, fun us hus vs H1 W1 s1 p1 => ?_⟩
  show spN X.K Φ (vs ++ []) H1 Q E0
  rw [List.append_nil]
  refine ⟨W1, ZZ own σ Z bb, us, _, s1.ok, (R.step s1).zzx _, p1, hus, fun u hu v H2 W2 s2 p2 => ?_⟩
  obtain ⟨⟨ts, e', nl⟩, hu⟩ := hu
  subst e'
  cases p2 with
  | lst hw hz hq r => exact k _ hu _ _ _ _ _ rfl (s1.trans s2) (s1.so.none_of (noDom hz)) hq hw (r.noL nl)
theorem ef_if (hc : PTt X own cc rc) (ha : PFt X own a ra) (hb : PFt X own b rb) : PFt X own (.IfExp cc a b pos) (rIf rc ra rb) := by
  refine ⟨peImp (pe_ifExp hc.pt ha.pe hb.pe) fun σ H Q h => ?_⟩
  obtain ⟨W, Z, env, Qt, R, h, k⟩ := h
  refine ⟨W, Z, env, _, R, h, fun v hv H1 W1 s1 => ?_⟩
  cases v with
  | true => exact iteT ⟨W1, Z, env, _, R.step s1, by simpa using hv, fun u hu a xs ts H2 W2 e s2 hn hq hw p => k u hu a xs ts H2 W2 e (s1.trans s2) (s1.so.none_of hn) hq hw p⟩
  | false => exact iteF ⟨W1, Z, env, _, R.step s1, by simpa using hv, fun u hu a xs ts H2 W2 e s2 hn hq hw p => k u hu a xs ts H2 W2 e (s1.trans s2) (s1.so.none_of hn) hq hw p⟩
end
theorem noLs_ints : ∀ l : List Int, noLs (l.map T.int) = true
  | [] => rfl
  | i :: l => by rw [List.map_cons, noLs, noLs_ints l]; rfl
end Tw

namespace Tw
open PS PySem PySem.Spec PyProof.Rows L2
/-- more things than places -/
theorem pigeon : ∀ (K : Nat) (f : Nat → Nat), (∀ i, i ≤ K → f i < K) → ∃ i j, i < j ∧ j ≤ K ∧ f i = f j
  | 0, f, h => absurd (h 0 (Nat.le_refl _)) (Nat.not_lt_zero _)
  | K + 1, f, h => by
    by_cases c : ∃ i, i ≤ K ∧ f i = f (K + 1)
    · obtain ⟨i, h1, h2⟩ := c
      exact ⟨i, K + 1, by omega, Nat.le_refl _, h2⟩
    · have nv : ∀ i, i ≤ K → f i ≠ f (K + 1) := fun i hi e => c ⟨i, hi, e⟩
      have hv := h (K + 1) (Nat.le_refl _)
      obtain ⟨i, j, h1, h2, h3⟩ := pigeon K (fun i => if f i = K then f (K + 1) else f i) fun i hi => by
        have a1 := h i (by omega)
        have a2 := nv i hi
        show (if f i = K then f (K + 1) else f i) < K
        split <;> omega
      refine ⟨i, j, h1, by omega, ?_⟩
      have b1 := nv i (by omega)
      have b2 := nv j (by omega)
      have h4 : (if f i = K then f (K + 1) else f i) = (if f j = K then f (K + 1) else f j) := h3
      split at h4 <;> split at h4 <;> omega
/-- the j-th figure -/
def fig (b i : Nat) : Nat → Nat
  | 0 => i % b
  | j + 1 => fig b (i / b) j
theorem fig_lt {b : Nat} (hb : 0 < b) : ∀ (j i : Nat), fig b i j < b
  | 0, i => Nat.mod_lt _ hb
  | j + 1, i => fig_lt hb j (i / b)
theorem fig_inj {b : Nat} (hb : 0 < b) : ∀ (n i k : Nat), i < b ^ n → k < b ^ n → (∀ j, j < n → fig b i j = fig b k j) → i = k
  | 0, i, k, h1, h2, _ => by
    rw [Nat.pow_zero] at h1 h2
    omega
  | n + 1, i, k, h1, h2, h => by
    have a := h 0 (Nat.succ_pos _)
    have e : i / b = k / b := fig_inj hb n (i / b) (k / b) (by
      rw [Nat.pow_succ] at h1
      exact Nat.div_lt_of_lt_mul (by rwa [Nat.mul_comm])) (by
      rw [Nat.pow_succ] at h2
      exact Nat.div_lt_of_lt_mul (by rwa [Nat.mul_comm])) fun j hj => h (j + 1) (by omega)
    have e1 := Nat.div_add_mod i b
    have e2 := Nat.div_add_mod k b
    have a2 : i % b = k % b := a
    rw [e, a2] at e1
    omega
/-- the number with such figures -/
def enc (b : Nat) (d : Nat → Nat) : Nat → Nat
  | 0 => 0
  | n + 1 => enc b d n * b + d n
theorem enc_lt {b : Nat} {d : Nat → Nat} : ∀ n, (∀ j, j < n → d j < b) → enc b d n < b ^ n
  | 0, _ => by rw [Nat.pow_zero]; exact Nat.one_pos
  | n + 1, h => by
    have ih := enc_lt n fun j hj => h j (by omega)
    have hn := h n (Nat.lt_succ_self _)
    have : (enc b d n + 1) * b ≤ b ^ n * b := Nat.mul_le_mul_right _ ih
    rw [Nat.pow_succ, enc]
    rw [Nat.add_mul, Nat.one_mul] at this
    omega
theorem enc_inj {b : Nat} {d e : Nat → Nat} : ∀ n, (∀ j, j < n → d j < b) → (∀ j, j < n → e j < b) → enc b d n = enc b e n → ∀ j, j < n → d j = e j
  | 0, _, _, _, j, hj => absurd hj (Nat.not_lt_zero _)
  | n + 1, h1, h2, he, j, hj => by
    have a1 := h1 n (Nat.lt_succ_self _)
    have a2 := h2 n (Nat.lt_succ_self _)
    rw [enc, enc] at he
    have m : d n = e n := by
      have := congrArg (· % b) he
      simp only [Nat.mul_add_mod_self_right, Nat.mod_eq_of_lt a1, Nat.mod_eq_of_lt a2] at this
      exact this
    have q : enc b d n = enc b e n := by
      rw [m] at he
      exact Nat.eq_of_mul_eq_mul_right (by omega) (Nat.add_right_cancel he)
    by_cases c : j = n
    · rw [c]; exact m
    · exact enc_inj n (fun j hj => h1 j (by omega)) (fun j hj => h2 j (by omega)) q j (by omega)
def sumI (f : Nat → Int) : Nat → Int
  | 0 => 0
  | n + 1 => sumI f n + f n
theorem sumI_le {f : Nat → Int} {B : Nat} : ∀ n, (∀ i, i < n → (f i).natAbs ≤ B) → (sumI f n).natAbs ≤ n * B
  | 0, _ => by simp [sumI]
  | n + 1, h => by
    have ih := sumI_le n fun i hi => h i (by omega)
    have hn := h n (Nat.lt_succ_self _)
    rw [sumI, Nat.add_mul, Nat.one_mul]
    exact Nat.le_trans (Int.natAbs_add_le _ _) (by omega)
theorem sumI_sub (f g : Nat → Int) : ∀ n, sumI (fun i => f i - g i) n = sumI f n - sumI g n
  | 0 => rfl
  | n + 1 => by rw [sumI, sumI, sumI, sumI_sub f g n]; omega
theorem sumI_congr {f g : Nat → Int} : ∀ n, (∀ i, i < n → f i = g i) → sumI f n = sumI g n
  | 0, _ => rfl
  | n + 1, h => by rw [sumI, sumI, sumI_congr n fun i hi => h i (by omega), h n (Nat.lt_succ_self _)]
theorem sumI_cast (f : Nat → Int) : ∀ n, ((sumI f n : Int) : Rat) = sumN (fun i => ((f i : Int) : Rat)) n
  | 0 => rfl
  | n + 1 => by rw [sumI, sumN, Rat.intCast_add, sumI_cast f n]
/-- fewer equations than unknown numbers: a small whole solution -/
theorem siegel (a : Nat → Nat → Int) (M A : Nat) (hA : 1 ≤ A) (h : ∀ i j, (a i j).natAbs ≤ A) :
    ∃ x : Nat → Int, (∃ j, j ≤ M ∧ x j ≠ 0) ∧ (∀ j, (x j).natAbs ≤ (2 * (M + 1) * A) ^ M) ∧ ∀ i, i < M → sumI (fun j => a i j * x j) (M + 1) = 0 := by
  generalize hN : 2 * (M + 1) * A = N
  have n1 : 1 ≤ N := by
    rw [← hN]
    have : 1 * 1 ≤ 2 * (M + 1) * A := Nat.mul_le_mul (by omega) hA
    omega
  generalize hB : N ^ M = B
  have b1 : 1 ≤ B := by rw [← hB]; exact Nat.one_le_pow _ _ n1
  let S := (M + 1) * (A * B)
  let y : Nat → Nat → Int := fun k i => sumI (fun j => a i j * ((fig (B + 1) k j : Nat) : Int)) (M + 1)
  have hy : ∀ k i, (y k i).natAbs ≤ S := fun k i => sumI_le _ fun j _ => by
    rw [Int.natAbs_mul, Int.natAbs_natCast]
    exact Nat.mul_le_mul (h i j) (Nat.le_of_lt_succ (fig_lt (Nat.succ_pos _) j k))
  let code : Nat → Nat := fun k => enc (2 * S + 1) (fun i => (y k i + (S : Nat)).toNat) M
  have hd : ∀ k i, (y k i + (S : Nat)).toNat < 2 * S + 1 := fun k i => by
    have := hy k i
    omega
  have hc : ∀ k, code k < (2 * S + 1) ^ M := fun k => enc_lt M fun i _ => hd k i
  have big : (2 * S + 1) ^ M < (B + 1) ^ (M + 1) := by
    have e1 : 2 * S + 1 ≤ N * (B + 1) := by
      have e2 : 2 * S = N * B := by
        show 2 * ((M + 1) * (A * B)) = N * B
        rw [← hN, ← Nat.mul_assoc (M + 1), ← Nat.mul_assoc, ← Nat.mul_assoc 2]
      rw [e2, Nat.mul_add, Nat.mul_one]
      omega
    have e3 : (2 * S + 1) ^ M ≤ (N * (B + 1)) ^ M := Nat.pow_le_pow_left e1 _
    rw [Nat.mul_pow, hB] at e3
    refine Nat.lt_of_le_of_lt e3 ?_
    rw [Nat.pow_succ, Nat.mul_comm]
    exact Nat.mul_lt_mul_of_pos_left (Nat.lt_succ_self _) (Nat.pow_pos (Nat.succ_pos _))
  obtain ⟨i, j, hij, hj, he⟩ := pigeon ((2 * S + 1) ^ M) code fun k _ => hc k
  have same := enc_inj M (fun l _ => hd i l) (fun l _ => hd j l) he
  refine ⟨fun l => ((fig (B + 1) i l : Nat) : Int) - ((fig (B + 1) j l : Nat) : Int), ?_, fun l => ?_, fun l hl => ?_⟩
  · by_cases c : ∃ l, l ≤ M ∧ fig (B + 1) i l ≠ fig (B + 1) j l
    · obtain ⟨l, h1, h2⟩ := c
      exact ⟨l, h1, by show ((fig (B + 1) i l : Nat) : Int) - ((fig (B + 1) j l : Nat) : Int) ≠ 0; omega⟩
    · exfalso
      have := fig_inj (b := B + 1) (Nat.succ_pos B) (M + 1) i j (by omega) (by omega) fun l hl => by
        rcases Nat.decEq (fig (B + 1) i l) (fig (B + 1) j l) with z | z
        · exact absurd ⟨l, by omega, z⟩ c
        · exact z
      omega
  · have l1 := fig_lt (b := B + 1) (Nat.succ_pos B) l i
    have l2 := fig_lt (b := B + 1) (Nat.succ_pos B) l j
    show (((fig (B + 1) i l : Nat) : Int) - ((fig (B + 1) j l : Nat) : Int)).natAbs ≤ B
    omega
  · have e := same l hl
    have h1 := hy i l
    have h2 := hy j l
    have e2 : y i l = y j l := by omega
    have e3 : sumI (fun k => a l k * (((fig (B + 1) i k : Nat) : Int) - ((fig (B + 1) j k : Nat) : Int))) (M + 1) = y i l - y j l := by
      rw [← sumI_sub]
      exact sumI_congr _ fun k _ => Int.mul_sub _ _ _
    rw [e3, e2]
    omega
end Tw

namespace Tw
open PS PySem PySem.Spec PyProof.Rows L2
/-- the polynomial with some first numbers -/
def uS (x : Nat → Int) : Nat → PS
  | 0 => 0
  | n + 1 => uS x n + C (x n : Rat) * Mn n
theorem uS_mul (x : Nat → Int) (f : PS) (n : Nat) : ∀ a, (uS x a * f).c n = sumN (fun j => (x j : Rat) * (Mn j * f).c n) a
  | 0 => by
    have : uS x 0 * f = 0 := by show (0 : PS) * f = 0; grind
    rw [this, zero_c]; rfl
  | a + 1 => by
    have : uS x (a + 1) * f = uS x a * f + C (x a : Rat) * (Mn a * f) := by
      show (uS x a + C (x a : Rat) * Mn a) * f = _
      grind
    rw [this, add_c, uS_mul x f n a, Cm_c]
    rfl
theorem Mn_at (j k : Nat) : (Mn j).c k = if k = j then 1 else 0 := rfl
theorem uS_c (x : Nat → Int) (k : Nat) : ∀ a, (uS x a).c k = if k < a then (x k : Rat) else 0
  | 0 => by rw [if_neg (Nat.not_lt_zero _)]; exact zero_c k
  | a + 1 => by
    show (uS x a + C (x a : Rat) * Mn a).c k = _
    rw [add_c, uS_c x k a, Cm_c, Mn_at]
    by_cases c : k = a
    · subst c
      rw [if_neg (Nat.lt_irrefl _), if_pos rfl, if_pos (Nat.lt_succ_self _)]
      grind
    · rw [if_neg c]
      by_cases c2 : k < a
      · rw [if_pos c2, if_pos (by omega)]; grind
      · rw [if_neg c2, if_neg (by omega)]; grind
theorem uS_bd (x : Nat → Int) (a : Nat) : Bd a (uS x a) := fun k hk => by rw [uS_c, if_neg (by omega)]
/-- all its numbers are whole and small -/
def IntB (e : Nat) (f : PS) : Prop := ∀ k, ∃ n : Int, n.natAbs < 2 ^ e ∧ f.c k = (n : Rat)
theorem sumI_split (f : Nat → Int) (a : Nat) : ∀ b, sumI f (a + b) = sumI f a + sumI (fun j => f (a + j)) b
  | 0 => by show sumI f a = sumI f a + 0; omega
  | b + 1 => by
    show sumI f (a + b) + f (a + b) = sumI f a + (sumI (fun j => f (a + j)) b + f (a + b))
    rw [sumI_split f a b]; omega
theorem Ht.ints {h : Nat} {p : List Rat} (o : Ht h p) : ∃ (D : Int) (P : Nat → Int), D ≠ 0 ∧ D.natAbs < 2 ^ h ∧ (∀ k, (P k).natAbs < 2 ^ h) ∧ ∀ k, cf p k * (D : Rat) = (P k : Rat) := by
  obtain ⟨D, d0, dl, H⟩ := o
  refine ⟨D, fun k => Classical.choose (Ov.cf H k).ex, d0, dl, fun k => (Classical.choose_spec (Ov.cf H k).ex).1, fun k => (Classical.choose_spec (Ov.cf H k).ex).2⟩
theorem small_comb {p q : List Rat} {h c : Nat} (hp : Ht h p) (hq : Ht h q) (al be e0 : Nat) (h1 : 1 ≤ al + be) (hc : al + be ≤ 2 ^ c) :
    ∃ u v w : PS, (u = 0 → v = 0 → False) ∧ Bd al u ∧ Bd be v ∧ w = u * ps p + v * ps q ∧ (∀ i, i + 1 < al + be → w.c (e0 + i) = 0) ∧
      IntB ((1 + c + h) * (al + be)) u ∧ IntB ((1 + c + h) * (al + be)) v ∧ IntB ((1 + c + h) * (al + be)) w := by
  obtain ⟨D, P, d0, dl, Pl, eP⟩ := hp.ints
  obtain ⟨E, Q, e0', el, Ql, eQ⟩ := hq.ints
  let Pd : Nat → Nat → Int := fun n j => if j ≤ n then P (n - j) else 0
  let Qd : Nat → Nat → Int := fun n j => if j ≤ n then Q (n - j) else 0
  have hPd : ∀ n j, (Pd n j).natAbs < 2 ^ h := fun n j => by
    show (if j ≤ n then P (n - j) else 0 : Int).natAbs < _
    split
    · exact Pl _
    · exact Nat.two_pow_pos _
  have hQd : ∀ n j, (Qd n j).natAbs < 2 ^ h := fun n j => by
    show (if j ≤ n then Q (n - j) else 0 : Int).natAbs < _
    split
    · exact Ql _
    · exact Nat.two_pow_pos _
  let a : Nat → Nat → Int := fun i j => if j < al then Pd (e0 + i) j else Qd (e0 + i) (j - al)
  obtain ⟨M, hM⟩ : ∃ M, al + be = M + 1 := ⟨al + be - 1, by omega⟩
  obtain ⟨x, ⟨j0, hj0, xj0⟩, xB, xE⟩ := siegel a M (2 ^ h) (Nat.two_pow_pos _) fun i j => by
    show (if j < al then Pd (e0 + i) j else Qd (e0 + i) (j - al)).natAbs ≤ _
    split
    · exact Nat.le_of_lt (hPd _ _)
    · exact Nat.le_of_lt (hQd _ _)
  have xB2 : ∀ j, (x j).natAbs ≤ 2 ^ ((1 + c + h) * M) := fun j => by
    refine Nat.le_trans (xB j) ?_
    rw [Nat.pow_mul]
    refine Nat.pow_le_pow_left ?_ _
    rw [Nat.pow_add, Nat.pow_add, Nat.pow_one]
    exact Nat.mul_le_mul_right _ (Nat.mul_le_mul_left _ (by omega))
  let y : Nat → Int := fun j => x (al + j)
  have up : ∀ n, (uS x al * (C (D : Rat) * ps p)).c n = ((sumI (fun j => Pd n j * x j) al : Int) : Rat) := fun n => by
    rw [uS_mul, sumI_cast]
    refine sumN_congr _ fun j _ => ?_
    rw [Mn_c, Rat.intCast_mul]
    show (x j : Rat) * (if j ≤ n then (C (D : Rat) * ps p).c (n - j) else 0) = ((if j ≤ n then P (n - j) else 0 : Int) : Rat) * _
    split
    · rw [Cm_c, ps_c, ← eP]; grind
    · grind
  have vq : ∀ n, (uS y be * (C (E : Rat) * ps q)).c n = ((sumI (fun j => Qd n j * y j) be : Int) : Rat) := fun n => by
    rw [uS_mul, sumI_cast]
    refine sumN_congr _ fun j _ => ?_
    rw [Mn_c, Rat.intCast_mul]
    show (y j : Rat) * (if j ≤ n then (C (E : Rat) * ps q).c (n - j) else 0) = ((if j ≤ n then Q (n - j) else 0 : Int) : Rat) * _
    split
    · rw [Cm_c, ps_c, ← eQ]; grind
    · grind
  have big : ∀ (k : Int) (z : Int), k.natAbs ≤ 2 ^ ((1 + c + h) * M) → z.natAbs < 2 ^ h → (z * k).natAbs < 2 ^ ((1 + c + h) * (al + be)) := fun k z hk hz => by
    rw [Int.natAbs_mul, hM, Nat.mul_succ, Nat.pow_add, Nat.mul_comm]
    have : 2 ^ h ≤ 2 ^ (1 + c + h) := pow_le (by omega)
    exact Nat.lt_of_le_of_lt (Nat.mul_le_mul_right _ hk) (Nat.mul_lt_mul_of_pos_left (Nat.lt_of_lt_of_le hz this) (Nat.two_pow_pos _))
  refine ⟨uS x al * C (D : Rat), uS y be * C (E : Rat), uS x al * C (D : Rat) * ps p + uS y be * C (E : Rat) * ps q, fun z1 z2 => ?_, ?_, ?_, rfl, fun i hi => ?_, fun k => ?_, fun k => ?_, fun k => ?_⟩
  · have cc : ∀ (f : PS) (d : Int) k, (f * C (d : Rat)).c k = (d : Rat) * f.c k := fun f d k => by
      rw [show f * C (d : Rat) = C (d : Rat) * f from by grind, Cm_c]
    by_cases c1 : j0 < al
    · have := congrArg (fun f => PS.c f j0) z1
      simp only [cc, uS_c, if_pos c1, zero_c] at this
      rcases Rat.mul_eq_zero.mp this with z | z
      · exact castI_ne d0 z
      · exact castI_ne xj0 z
    · have := congrArg (fun f => PS.c f (j0 - al)) z2
      simp only [cc, uS_c, zero_c] at this
      rw [if_pos (by omega), show y (j0 - al) = x j0 from by show x (al + (j0 - al)) = _; congr 1; omega] at this
      rcases Rat.mul_eq_zero.mp this with z | z
      · exact castI_ne e0' z
      · exact castI_ne xj0 z
  · have := (uS_bd x al).Cm (D : Rat)
    rwa [show C (D : Rat) * uS x al = uS x al * C (D : Rat) from by grind] at this
  · have := (uS_bd y be).Cm (E : Rat)
    rwa [show C (E : Rat) * uS y be = uS y be * C (E : Rat) from by grind] at this
  · have e1 := xE i (by omega)
    rw [show M + 1 = al + be from hM.symm, sumI_split] at e1
    have e2 : sumI (fun j => a i j * x j) al = sumI (fun j => Pd (e0 + i) j * x j) al := sumI_congr _ fun j hj => by
      show (if j < al then _ else _) * x j = _
      rw [if_pos hj]
    have e3 : sumI (fun j => a i (al + j) * x (al + j)) be = sumI (fun j => Qd (e0 + i) j * y j) be := sumI_congr _ fun j hj => by
      show (if al + j < al then _ else Qd (e0 + i) (al + j - al)) * x (al + j) = _
      rw [if_neg (by omega), show al + j - al = j from by omega]
    rw [e2, e3] at e1
    have s1 := up (e0 + i)
    have s2 := vq (e0 + i)
    rw [add_c, show uS x al * C (D : Rat) * ps p = uS x al * (C (D : Rat) * ps p) from by grind, show uS y be * C (E : Rat) * ps q = uS y be * (C (E : Rat) * ps q) from by grind, s1, s2, ← Rat.intCast_add, e1]
    rfl
  · refine ⟨D * (if k < al then x k else 0), big _ _ ?_ dl, ?_⟩
    · split
      · exact xB2 _
      · exact Nat.zero_le _
    · rw [show uS x al * C (D : Rat) = C (D : Rat) * uS x al from by grind, Cm_c, uS_c, Rat.intCast_mul]
      split <;> rfl
  · refine ⟨E * (if k < be then y k else 0), big _ _ ?_ el, ?_⟩
    · split
      · exact xB2 _
      · exact Nat.zero_le _
    · rw [show uS y be * C (E : Rat) = C (E : Rat) * uS y be from by grind, Cm_c, uS_c, Rat.intCast_mul]
      split <;> rfl
  · refine ⟨sumI (fun j => Pd k j * x j) al + sumI (fun j => Qd k j * y j) be, ?_, ?_⟩
    · have l1 := sumI_le (f := fun j => Pd k j * x j) (B := 2 ^ h * 2 ^ ((1 + c + h) * M)) al fun j _ => by
        rw [Int.natAbs_mul]
        exact Nat.mul_le_mul (Nat.le_of_lt (hPd _ _)) (xB2 _)
      have l2 := sumI_le (f := fun j => Qd k j * y j) (B := 2 ^ h * 2 ^ ((1 + c + h) * M)) be fun j _ => by
        rw [Int.natAbs_mul]
        exact Nat.mul_le_mul (Nat.le_of_lt (hQd _ _)) (xB2 _)
      have l3 := Int.natAbs_add_le (sumI (fun j => Pd k j * x j) al) (sumI (fun j => Qd k j * y j) be)
      have l4 : (al + be) * (2 ^ h * 2 ^ ((1 + c + h) * M)) ≤ 2 ^ c * (2 ^ h * 2 ^ ((1 + c + h) * M)) := Nat.mul_le_mul_right _ hc
      rw [Nat.add_mul] at l4
      have l5 : 2 ^ c * (2 ^ h * 2 ^ ((1 + c + h) * M)) < 2 ^ ((1 + c + h) * (al + be)) := by
        rw [← Nat.pow_add, ← Nat.pow_add, hM, Nat.mul_succ]
        exact (Nat.pow_lt_pow_right (by decide) (by omega))
      omega
    · rw [add_c, show uS x al * C (D : Rat) * ps p = uS x al * (C (D : Rat) * ps p) from by grind, show uS y be * C (E : Rat) * ps q = uS y be * (C (E : Rat) * ps q) from by grind, up, vq, Rat.intCast_add]
end Tw

namespace Tw
open PS PySem PySem.Spec PyProof.Rows L2
/-- a rest of the chain of a pair; rests may be multiplied on the way -/
inductive Oc : List Rat → List Rat → List Rat → Prop
  | here {p q : List Rat} : q ≠ [] → Oc p q q
  | next {p q f r1 r' r : List Rat} {x : Rat} : q ≠ [] → Tr r1 → r1.length < q.length → ps p = ps f * ps q + ps r1 → x ≠ 0 → Tr r' → ps r' = C x * ps r1 → Oc q r' r → Oc p q r
theorem Oc.ne {p q r : List Rat} (h : Oc p q r) : r ≠ [] := by
  induction h with
  | here h => exact h
  | next _ _ _ _ _ _ _ _ ih => exact ih
theorem len_scale {r s : List Rat} {x : Rat} (tr : Tr r) (ts : Tr s) (hx : x ≠ 0) (e : ps s = C x * ps r) : s.length = r.length := by
  have : s = trim (r.map (· * x)) := ps_inj ts (tr_trim _) (by rw [ps_trim, ps_map, e])
  by_cases c : r = []
  · subst c
    rw [this]; rfl
  · rw [this, (map_tr tr c hx).1, List.length_map]
theorem Oc.len {p q r : List Rat} (h : Oc p q r) : r.length ≤ q.length := by
  induction h with
  | here _ => exact Nat.le_refl _
  | next _ tr lr _ hx ts e _ ih =>
    rw [len_scale tr ts hx e] at ih
    omega
theorem nrm_cons {r : List Rat} (h : r ≠ []) : nrm r = mon r := by rw [nrm, if_neg h]
theorem mon_mo {r : List Rat} (h : Mo r) : mon r = r := (mon_of h.tr h.ne h (show ps r = C 1 * ps r by rw [← one_eq]; grind)).symm
theorem Fin'.bd {n : Nat} {f : PS} (h : Bd n f) : Fin' f := ⟨n, h⟩
theorem ps_nrm {r : List Rat} (t : Tr r) : ∃ x : Rat, x ≠ 0 ∧ ps (nrm r) = C x * ps r := by
  by_cases c : r = []
  · subst c
    exact ⟨1, by decide, by rw [nrm_nil, ps_nil]; grind⟩
  · rw [nrm_cons c]
    exact ⟨_, inv_ne (t c), ps_mon r⟩
theorem C_ne {x : Rat} {f : PS} (hx : x ≠ 0) (e : C x * f = 0) : f = 0 := by
  have h := C_inv hx
  have : f = C (1 / x) * (C x * f) := by
    have : C (1 / x) * (C x * f) = (C x * C (1 / x)) * f := by grind
    rw [this, h]; grind
  rw [this, e]; grind
theorem bd1 {s : PS} (h : Bd 1 s) : s = C (s.c 0) := PS.ext fun k => by
  rw [C_c]
  split
  · rename_i e; rw [e]
  · exact h k (by omega)
/-- so small a sum of multiples is a multiple of the rest -/
theorem Oc.uniq {p q r : List Rat} (h : Oc p q r) : Tr q → ∀ u v : PS, (u = 0 → v = 0 → False) → Fin' u → Fin' v → Bd r.length (u * ps p + v * ps q) → Bd (q.length - r.length) u → ∃ t : Rat, t ≠ 0 ∧ u * ps p + v * ps q = C t * ps r := by
  induction h with
  | @here p q hq =>
    intro tq u v nz fu fv hw hu
    rw [Nat.sub_self] at hu
    have u0 := hu.eq0
    subst u0
    have e1 : (0 : PS) * ps p + v * ps q = ps q * v := by grind
    rw [e1] at hw ⊢
    obtain ⟨M, hM⟩ := fv
    have hv := Bd.of_mul (ps_bd' hq) (by rw [ps_c]; exact tq hq) hw M hM
    have := len_pos hq
    rw [show q.length - (q.length - 1) = 1 from by omega] at hv
    have ev := bd1 hv
    refine ⟨v.c 0, fun z => nz rfl ?_, ?_⟩
    · rw [ev, z]
      exact PS.ext fun k => by rw [C_c, zero_c]; split <;> rfl
    · rw [ev, C_c, if_pos rfl]; grind
  | @next p q f r1 r' r x hq t1 l1 e x0 t2 en o ih =>
    intro tq u v nz fu fv hw hu
    have ll := o.len
    have e12 := len_scale t1 t2 x0 en
    rw [e12] at ll
    have r1p := len_pos o.ne
    have hx := C_inv x0
    have ew : u * ps p + v * ps q = (u * ps f + v) * ps q + (C (1 / x) * u) * ps r' := by
      rw [en, e]
      have : (C (1 / x) * u) * (C x * ps r1) = (C x * C (1 / x)) * (u * ps r1) := by grind
      rw [this, hx]; grind
    rw [ew] at hw ⊢
    have fu' : Fin' (u * ps f + v) := (fu.mul (Fin'.ps f)).add fv
    have bu' : Bd (r'.length - r.length) (u * ps f + v) := by
      obtain ⟨M, hM⟩ := fu'
      have b1 : Bd (q.length - r.length + r1.length - 1) (u * ps r1) := hu.mul (ps_bd r1)
      have b2 : Bd (max r.length (q.length - r.length + r1.length - 1)) (ps q * (u * ps f + v)) := by
        have e2 : ps q * (u * ps f + v) = ((u * ps f + v) * ps q + (C (1 / x) * u) * ps r') - u * ps r1 := by
          rw [en]
          have : (C (1 / x) * u) * (C x * ps r1) = (C x * C (1 / x)) * (u * ps r1) := by grind
          rw [this, hx]; grind
        rw [e2]
        exact (hw.mono (by omega)).sub (b1.mono (by omega))
      have b3 := Bd.of_mul (ps_bd' hq) (by rw [ps_c]; exact tq hq) b2 M hM
      rw [e12]
      exact b3.mono (by omega)
    refine ih t2 (u * ps f + v) (C (1 / x) * u) (fun z1 z2 => ?_) fu' ((Fin'.C _).mul fu) hw bu'
    have u0 := C_ne (inv_ne x0) z2
    subst u0
    exact nz rfl (by rw [← z1]; grind)
theorem Oc.le {p q r : List Rat} (h : Oc p q r) (tp : Tr p) (tq : Tr q) : r = q ∨ (r.length < q.length ∧ r.length ≤ p.length) := by
  cases h with
  | here _ => exact .inl rfl
  | @next _ _ f r1 r' _ x hq t1 l1 e x0 t2 en o =>
    right
    have ll := o.len
    rw [len_scale t1 t2 x0 en] at ll
    refine ⟨by omega, ?_⟩
    rcases Nat.lt_or_ge p.length r1.length with z | z
    · exfalso
      have b : Bd r1.length (ps q * ps f) := by
        have e2 : ps q * ps f = ps p - ps r1 := by rw [e]; grind
        rw [e2]
        exact ((ps_bd p).mono (by omega)).sub (ps_bd r1)
      have b3 := Bd.of_mul (ps_bd' hq) (by rw [ps_c]; exact tq hq) b _ (ps_bd f)
      rw [show r1.length - (q.length - 1) = 0 from by omega] at b3
      have f0 := b3.eq0
      have := congrArg List.length (ps_inj tp t1 (by rw [e, f0]; grind))
      omega
    · omega
theorem IntB.ht {e : Nat} {w : PS} {r : List Rat} {t : Rat} (h : IntB e w) (m : Mo r) (t0 : t ≠ 0) (ew : w = C t * ps r) : Ht e r := by
  obtain ⟨D, dl, eD⟩ := h (r.length - 1)
  have e1 : w.c (r.length - 1) = t := by rw [ew, Cm_c, ps_c, m.one]; grind
  rw [e1] at eD
  have d0 : D ≠ 0 := fun z => t0 (by rw [eD, z]; rfl)
  refine Ht.of_cf ⟨D, d0, dl, fun k _ => ?_⟩
  obtain ⟨n, nl, en⟩ := h k
  refine ⟨n, nl, ?_⟩
  rw [← en, ew, Cm_c, ps_c, ← eD]; grind
theorem oc_ht {p q r : List Rat} {h c : Nat} (o : Oc p q r) (tp : Tr p) (tq : Tr q) (tr : Tr r) (hp : Ht h p) (hq : Ht h q) (hc : p.length + q.length ≤ 2 ^ c) : Ht ((1 + c + h) * (p.length + q.length)) (mon r) := by
  rcases o.le tp tq with z | ⟨l1, l2⟩
  · subst z
    have := len_pos o.ne
    refine (hq.mon tq o.ne).mono ?_
    have := Nat.mul_le_mul (Nat.le_refl (1 + c + h)) (show 1 ≤ p.length + r.length by omega)
    omega
  · have mo := mo_mon tr o.ne
    have lr := len_pos o.ne
    obtain ⟨u, v, w, nz, bu, bv, ew, w0, _, _, iw⟩ := small_comb hp hq (q.length - r.length) (p.length - r.length) r.length (by omega) (c := c) (by omega)
    have bw : Bd r.length w := fun k hk => by
      by_cases c1 : k - r.length + 1 < q.length - r.length + (p.length - r.length)
      · have := w0 (k - r.length) c1
        rwa [show r.length + (k - r.length) = k from by omega] at this
      · rw [ew, add_c, (bu.mul (ps_bd p)) k (by omega), (bv.mul (ps_bd q)) k (by omega)]; grind
    obtain ⟨t, t0, et⟩ := o.uniq tq u v nz ⟨_, bu⟩ ⟨_, bv⟩ (by rw [← ew]; exact bw) bu
    have l0 := tr o.ne
    refine (iw.ht mo (t := t * cf r (r.length - 1)) (fun z => ?_) ?_).mono (Nat.mul_le_mul_left _ (by omega))
    · rcases Rat.mul_eq_zero.mp z with z | z
      · exact t0 z
      · exact l0 z
    · rw [ps_mon, ew, et, ← C_mulC]
      have := C_inv l0
      have e2 : C t * C (cf r (r.length - 1)) * (C (1 / cf r (r.length - 1)) * ps r) = C t * ((C (cf r (r.length - 1)) * C (1 / cf r (r.length - 1))) * ps r) := by grind
      rw [e2, this]; grind
theorem chn_all {c L B : Nat} (hB : c + (L + 3) * (c + 1) ≤ B) : ∀ (n : Nat) (p q : List Rat), q.length ≤ n → Tr p → Tr q → p.length ≤ L → q.length ≤ L → Ht c p → Ht c q → (∀ r, Tr r → Oc p q r → Ht c (mon r)) → Chn B p q
  | n, p, [], _, tp, _, _, _, hp, _, _ => .stop (hp.mono (by omega))
  | 0, p, x :: q, h, _, _, _, _, _, _, _ => by simp at h
  | n + 1, p, x :: q, hn, tp, tq, lp, lq, hp, hq, hr => by
    have nq : x :: q ≠ [] := List.cons_ne_nil _ _
    generalize x :: q = q at *
    obtain ⟨f, r, tf, tr, lr, e, h1, _⟩ := div_ht hp hq tq nq
    have m1 : (p.length + 1 - q.length) * (c + 1) ≤ (L + 3) * (c + 1) := Nat.mul_le_mul_right _ (by omega)
    have m2 : (p.length + 3 - q.length) * (c + 1) ≤ (L + 3) * (c + 1) := Nat.mul_le_mul_right _ (by omega)
    obtain ⟨y, y0, en⟩ := ps_nrm tr
    have go : ∀ s, Tr s → Oc q (nrm r) s → Ht c (mon s) := fun s ts o => hr s ts (.next nq tr lr e y0 (tr_nrm tr) en o)
    refine .step nq hp hq (by omega) tf tr lr e (h1.mono (by omega)) ?_
    refine chn_all hB n q (nrm r) (by rw [nrm_len tr]; omega) tq (tr_nrm tr) lq (by rw [nrm_len tr]; omega) hq ?_ go
    by_cases z : r = []
    · rw [z, nrm_nil]
      exact Ht.nil (by
        obtain ⟨D, d0, dl, _⟩ := hq
        rcases Nat.eq_zero_or_pos c with z | z
        · rw [z] at dl; omega
        · exact z)
    · have n2 : nrm r ≠ [] := by rw [nrm_cons z]; exact (mo_mon tr z).ne
      have := go (nrm r) (tr_nrm tr) (.here n2)
      rw [nrm_cons z, mon_mo (mo_mon tr z)] at this
      rw [nrm_cons z]; exact this
/-- the chain of two polynomials costs no more than what their lengths tell -/
theorem chn_lin {p q : List Rat} {h c L B : Nat} (tp : Tr p) (tq : Tr q) (hp : Ht h p) (hq : Ht h q) (hc : p.length + q.length ≤ 2 ^ c) (l1 : p.length + q.length ≤ L)
    (l0 : 1 ≤ L) (hB : (1 + c + h) * L + (L + 3) * ((1 + c + h) * L + 1) ≤ B) : Chn B p q := by
  have m1 : (1 + c + h) * (p.length + q.length) ≤ (1 + c + h) * L := Nat.mul_le_mul_left _ l1
  have m2 := Nat.mul_le_mul (Nat.le_refl (1 + c + h)) l0
  exact chn_all hB q.length p q (Nat.le_refl _) tp tq (by omega) (by omega) (hp.mono (by omega)) (hq.mono (by omega)) fun r tr o => (oc_ht o tp tq tr hp hq hc).mono m1
/-- a common part -/
theorem g_lin {p q G : List Rat} {h c : Nat} (tp : Tr p) (np : p ≠ []) (tq : Tr q) (nq : q ≠ []) (hp : Ht h p) (hq : Ht h q) (hc : p.length + q.length ≤ 2 ^ c) (hG : IsG p q G) : Ht ((1 + c + h) * (p.length + q.length)) G := by
  have lG1 := dv_len hG.mo.tr hG.mo.ne tp np hG.dp
  have lG2 := dv_len hG.mo.tr hG.mo.ne tq nq hG.dq
  have lG := len_pos hG.mo.ne
  by_cases c0 : q.length - G.length + (p.length - G.length) = 0
  · have e : G = mon p := by
      refine mo_same hG.mo (mo_mon tp np) ?_ (by rw [mon_len tp np]; omega)
      obtain ⟨a, fa, ea⟩ := hG.dp
      exact ⟨C (1 / cf p (p.length - 1)) * a, (Fin'.C _).mul fa, by rw [ps_mon, ea]; grind⟩
    rw [e]
    refine (hp.mon tp np).mono ?_
    have := Nat.mul_le_mul (Nat.le_refl (1 + c + h)) (show 1 ≤ p.length + q.length by omega)
    omega
  obtain ⟨u, v, w, nz, bu, bv, ew, w0, _, _, iw⟩ := small_comb hp hq (q.length - G.length) (p.length - G.length) G.length (by omega) (c := c) (by omega)
  have bw : Bd G.length w := fun k hk => by
    by_cases c1 : k - G.length + 1 < q.length - G.length + (p.length - G.length)
    · have := w0 (k - G.length) c1
      rwa [show G.length + (k - G.length) = k from by omega] at this
    · rw [ew, add_c, (bu.mul (ps_bd p)) k (by omega), (bv.mul (ps_bd q)) k (by omega)]; grind
  obtain ⟨a, fa, ea⟩ := hG.dp
  obtain ⟨b, fb, eb⟩ := hG.dq
  have fu : Fin' u := ⟨_, bu⟩
  have fv : Fin' v := ⟨_, bv⟩
  have e1 : w = ps G * (u * a + v * b) := by rw [ew, ea, eb]; grind
  have lgm : G.length - 1 + 1 = G.length := by omega
  have gB : Bd (G.length - 1 + 1) (ps G) := ps_bd' hG.mo.ne
  have gT : (ps G).c (G.length - 1) ≠ 0 := by rw [ps_c, hG.mo.one]; decide
  obtain ⟨M, hM⟩ := (fu.mul fa).add (fv.mul fb)
  have b1 := Bd.of_mul gB gT (by rw [← e1]; exact bw) M hM
  rw [show G.length - (G.length - 1) = 1 from by omega] at b1
  have es := bd1 b1
  refine (iw.ht hG.mo (t := (u * a + v * b).c 0) (fun z => ?_) (by rw [e1]; rw [es, C_c, if_pos rfl]; grind)).mono (Nat.mul_le_mul_left _ (by omega))
  -- nought: then both multiples are nought
  have z2 : u * a + v * b = 0 := by
    rw [es, z]
    exact PS.ext fun k => by rw [C_c, zero_c]; split <;> rfl
  obtain ⟨s, t, fs, ft, eg⟩ := hG.comb
  have one : a * s + b * t = 1 := by
    refine mul_cancel gB gT ((fa.mul fs).add (fb.mul ft)) Fin'.one ?_
    have : ps G * (a * s + b * t) = ps p * s + ps q * t := by rw [ea, eb]; grind
    rw [this, ← eg]; grind
  -- u = b (..), u too short
  have eu : u = b * (u * t - v * s) := by
    have : u = u * (a * s + b * t) := by rw [one]; grind
    rw [this]
    have : u * a = -(v * b) := by
      have h0 : u * a = (u * a + v * b) - v * b := by grind
      rw [h0, z2]; grind
    have e2 : u * (a * s + b * t) = (u * a) * s + u * b * t := by grind
    rw [e2, this]; grind
  have ev : v = a * (v * s - u * t) := by
    have : v = v * (a * s + b * t) := by rw [one]; grind
    rw [this]
    have : v * b = -(u * a) := by
      have h0 : v * b = (u * a + v * b) - u * a := by grind
      rw [h0, z2]; grind
    have e2 : v * (a * s + b * t) = v * a * s + (v * b) * t := by grind
    rw [e2, this]; grind
  have zero : ∀ (y : List Rat) (b u s : PS), Tr y → y ≠ [] → ps y = ps G * b → Fin' b → Fin' s → Bd (y.length - G.length) u → G.length ≤ y.length → u = b * s → u = 0 := fun y b u s ty ny ey fb fs bu ly eu => by
    have e3 : ps y * s = ps G * u := by rw [ey, eu]; grind
    have b3 : Bd (y.length - 1) (ps G * u) := ((ps_bd G).mul bu).mono (by omega)
    obtain ⟨M, hM⟩ := fs
    have b4 := Bd.of_mul (ps_bd' ny) (by rw [ps_c]; exact ty ny) (by rw [e3]; exact b3) M hM
    rw [show y.length - 1 - (y.length - 1) = 0 from by omega] at b4
    rw [eu, b4.eq0]; grind
  refine nz (zero q b u _ tq nq eb fb ((fu.mul ft).sub (fv.mul fs)) bu lG2 eu) (zero p a v _ tp np ea fa ((fv.mul fs).sub (fu.mul ft)) bv lG1 ev)
/-- a plain form -/
theorem pl_ht {t u x y : List Rat} {h c : Nat} (tt : Tr t) (nt : t ≠ []) (tu : Tr u) (u0 : cf u 0 ≠ 0) (ht : Ht h t) (hu : Ht h u) (pl : Pl t u x y) (hc : x.length + y.length ≤ 2 ^ c) :
    Ht ((1 + c + h) * (x.length + y.length)) x ∧ Ht ((1 + c + h) * (x.length + y.length)) y := by
  obtain ⟨tx, ty, y0, cop, e⟩ := pl
  have nu := ne_of0 u0
  have ny := ne_of0 (one_of0 y0)
  obtain ⟨g, fg, eg⟩ := cop.dv (Fin'.ps u) (Fin'.ps t) (show ps x * ps u = ps y * ps t by rw [← e]; grind)
  have et : ps t = ps x * g := ps_cancel ty ny (Fin'.ps t) ((Fin'.ps x).mul fg) (by
    have : ps y * (ps x * g) = ps x * (ps y * g) := by grind
    rw [this, ← eg, ← e]; grind)
  obtain ⟨n, hn⟩ := fg
  obtain ⟨G, tG, _, eG⟩ := of_bd hn
  subst eG
  have nG : G ≠ [] := fun z => nu (by
    have := eg
    rw [z, ps_nil, show ps y * (0 : PS) = ps [] from by rw [ps_nil]; grind] at this
    exact ps_inj tu tr_nil this)
  have nx : x ≠ [] := fun z => nt (by
    have := et
    rw [z, ps_nil, show (0 : PS) * ps G = ps [] from by rw [ps_nil]; grind] at this
    exact ps_inj tt tr_nil this)
  have lt : t.length = x.length + G.length - 1 := by
    rw [← prod_lenE tx nx tG nG]
    exact congrArg List.length (ps_inj tt (tr_trim _) (by rw [et]; exact (ps_prod x G).symm))
  have lu : u.length = y.length + G.length - 1 := by
    rw [← prod_lenE ty ny tG nG]
    exact congrArg List.length (ps_inj tu (tr_trim _) (by rw [eg]; exact (ps_prod y G).symm))
  have lx := len_pos nx
  have ly := len_pos ny
  have lG := len_pos nG
  obtain ⟨U, V, w, nz, bU, bV, ew, w0, iU, iV, _⟩ := small_comb ht hu y.length x.length (G.length - 1) (by omega) (c := c) (by omega)
  have bw : Bd (G.length - 1) w := fun k hk => by
    by_cases c1 : k - (G.length - 1) + 1 < y.length + x.length
    · have := w0 (k - (G.length - 1)) c1
      rwa [show G.length - 1 + (k - (G.length - 1)) = k from by omega] at this
    · rw [ew, add_c, (bU.mul (ps_bd t)) k (by omega), (bV.mul (ps_bd u)) k (by omega)]; grind
  have e1 : w = ps G * (U * ps x + V * ps y) := by rw [ew, et, eg]; grind
  have fU : Fin' U := ⟨_, bU⟩
  have fV : Fin' V := ⟨_, bV⟩
  obtain ⟨M, hM⟩ := (fU.mul (Fin'.ps x)).add (fV.mul (Fin'.ps y))
  have b1 := Bd.of_mul (ps_bd' nG) (by rw [ps_c]; exact tG nG) (by rw [← e1]; exact bw) M hM
  rw [show G.length - 1 - (G.length - 1) = 0 from by omega] at b1
  have z := b1.eq0
  obtain ⟨N2, hN2⟩ := fV
  obtain ⟨VL, tV, _, eV⟩ := of_bd hN2.neg
  obtain ⟨s, fs, es⟩ := cop.dv fU (Fin'.ps VL) (show ps x * U = ps y * ps VL by
    rw [eV]
    have : ps x * U = (U * ps x + V * ps y) - V * ps y := by grind
    rw [this, z]; grind)
  have bs : Bd 1 s := by
    obtain ⟨M, hM⟩ := fs
    have b2 := Bd.of_mul (ps_bd' ny) (by rw [ps_c]; exact ty ny) (by rw [← es]; exact bU) M hM
    exact b2.mono (by omega)
  have es1 := bd1 bs
  have eV2 : V = -(ps x * s) := by
    refine ps_cancel ty ny ⟨_, hN2⟩ ?_ ?_
    · have := ((Fin'.ps x).mul fs)
      obtain ⟨m, hm⟩ := this
      exact ⟨m, hm.neg⟩
    have : ps y * V = (U * ps x + V * ps y) - U * ps x := by grind
    rw [this, z, es]; grind
  have s0 : s.c 0 ≠ 0 := fun q => by
    have : s = 0 := by
      rw [es1, q]
      exact PS.ext fun k => by rw [C_c, zero_c]; split <;> rfl
    exact nz (by rw [es, this]; grind) (by rw [eV2, this]; grind)
  obtain ⟨D, dl, eD⟩ := iU 0
  have eD2 : s.c 0 = (D : Rat) := by
    rw [← eD, es, es1]
    have : (ps y * C (s.c 0)).c 0 = s.c 0 * (ps y).c 0 := by rw [show ps y * C (s.c 0) = C (s.c 0) * ps y from by grind, Cm_c]
    rw [this, ps_c, y0]; grind
  have d0 : D ≠ 0 := fun q => s0 (by rw [eD2, q]; rfl)
  have cm : x.length + y.length = y.length + x.length := Nat.add_comm _ _
  rw [cm]
  constructor
  · refine Ht.of_cf ⟨D, d0, dl, fun k _ => ?_⟩
    obtain ⟨n, nl, en⟩ := iV k
    refine ⟨-n, by rwa [Int.natAbs_neg], ?_⟩
    rw [Rat.intCast_neg, ← en, eV2, neg_c, es1, show ps x * C (s.c 0) = C (s.c 0) * ps x from by grind, Cm_c, ps_c, eD2]; grind
  · refine Ht.of_cf ⟨D, d0, dl, fun k _ => ?_⟩
    obtain ⟨n, nl, en⟩ := iU k
    refine ⟨n, nl, ?_⟩
    rw [← en, es, es1, show ps y * C (s.c 0) = C (s.c 0) * ps y from by grind, Cm_c, ps_c, eD2]; grind
theorem pl_nil {u x y : List Rat} (u0 : cf u 0 ≠ 0) (pl : Pl [] u x y) : x = [] ∧ y = [1] := by
  obtain ⟨tx, ty, y0, cop, e⟩ := pl
  have nu := ne_of0 u0
  have ny := ne_of0 (one_of0 y0)
  have ex : ps x = 0 := by
    refine ps_cancel0 (u := ps u) (by rw [ps_c]; exact u0) ?_
    rw [show ps u * ps x = ps x * ps u from by grind, ← e, ps_nil]; grind
  have hx : x = [] := ps_inj tx tr_nil (by rw [ex, ps_nil])
  subst hx
  refine ⟨rfl, ?_⟩
  obtain ⟨a, b, fa, fb, e1⟩ := cop.bez
  rw [ps_nil] at e1
  have e2 : Dv y (ps [1]) := ⟨b, fb, by rw [ps_one]; exact e1.trans (by grind)⟩
  have l1 := dv_len ty ny (tr_one (by decide)) (List.cons_ne_nil _ _) e2
  match y, ny, l1, y0 with
  | [w], _, _, y0 => rw [show w = 1 from y0]
/-- all that a plain form asks -/
theorem plain_rdy {t u : List Rat} {h L : Nat} (tt : Tr t) (tu : Tr u) (u0 : cf u 0 ≠ 0) (ht : Ht h t) (hu : Ht h u) (l : t.length + u.length ≤ L) (l64 : L ≤ 64) (hB : (7 + h) * L + (L + 3) * ((7 + h) * L + 1) ≤ 38000000) :
    ∃ G, IsG t u G ∧ Chn 38000000 t u ∧ Ht ((7 + h) * L) G := by
  have nu := ne_of0 u0
  have lu := len_pos nu
  have e6 : 1 + 6 + h = 7 + h := by omega
  obtain ⟨G, hG⟩ := isG_ex u.length t u (Nat.le_refl _) tt tu (.inr nu)
  refine ⟨G, hG, chn_lin tt tu ht hu (c := 6) (by omega) l (by omega) (by rw [e6]; exact hB), ?_⟩
  have m1 : (7 + h) * (t.length + u.length) ≤ (7 + h) * L := Nat.mul_le_mul_left _ l
  by_cases c : t = []
  · subst c
    rw [isG_end tu hG.symm]
    refine (hu.mon tu nu).mono (Nat.le_trans ?_ m1)
    have := Nat.mul_le_mul (Nat.le_refl (7 + h)) (show 1 ≤ ([] : List Rat).length + u.length by omega)
    omega
  · have := g_lin tt c tu nu ht hu (c := 6) (by omega) hG
    rw [e6] at this
    exact this.mono m1
/-- how great a plain form is -/
theorem pl_sz {t u x y : List Rat} {h L : Nat} (tt : Tr t) (tu : Tr u) (u0 : cf u 0 ≠ 0) (ht : Ht h t) (hu : Ht h u) (pl : Pl t u x y) (lx : x.length ≤ t.length) (ly : y.length ≤ u.length) (l : t.length + u.length ≤ L) (l64 : L ≤ 64) (l0 : 1 ≤ L) :
    Ht ((7 + h) * L) x ∧ Ht ((7 + h) * L) y := by
  have m0 := Nat.mul_le_mul (Nat.le_refl (7 + h)) l0
  by_cases c : t = []
  · subst c
    obtain ⟨rfl, rfl⟩ := pl_nil u0 pl
    exact ⟨Ht.nil (by omega), ht_one (by omega)⟩
  · obtain ⟨a, b⟩ := pl_ht tt c tu u0 ht hu pl (c := 6) (by omega)
    have m1 : (1 + 6 + h) * (x.length + y.length) ≤ (7 + h) * L := Nat.mul_le_mul (by omega) (by omega)
    exact ⟨a.mono m1, b.mono m1⟩
theorem at_0 {α : Type} {a : α} {l : List α} : L2.atI (a :: l) 0 = some a := (atI_k (k := 0)).trans rfl
theorem at_1 {α : Type} {a b : α} {l : List α} : L2.atI (a :: b :: l) 1 = some b := (atI_k (k := 1)).trans rfl
theorem at_2 {α : Type} {a b c : α} {l : List α} : L2.atI (a :: b :: c :: l) 2 = some c := (atI_k (k := 2)).trans rfl
theorem at_m1 {α : Type} {a b : α} : L2.atI [a, b] (-1) = some b := rfl
end Tw

namespace Tw
open PS PySem PySem.Spec PyProof.Rows L2
theorem pl_len {t u x y : List Rat} (tt : Tr t) (tu : Tr u) (u0 : cf u 0 ≠ 0) (pl : Pl t u x y) : x.length ≤ t.length ∧ y.length ≤ u.length := by
  obtain ⟨tx, ty, y0, cop, e⟩ := pl
  have nu := ne_of0 u0
  have ny := ne_of0 (one_of0 y0)
  have d1 := cop.dv (Fin'.ps u) (Fin'.ps t) (show ps x * ps u = ps y * ps t by rw [← e]; grind)
  refine ⟨?_, dv_len ty ny tu nu d1⟩
  by_cases c : t = []
  · have pl : Pl [] u x y := ⟨tx, ty, y0, cop, by rw [← c]; exact e⟩
    rw [(pl_nil u0 pl).1]; exact Nat.zero_le _
  · have d2 : Dv x (ps t) := cop.symm.dv (Fin'.ps t) (Fin'.ps u) (show ps y * ps t = ps x * ps u by rw [← e]; grind)
    have nx : x ≠ [] := fun z => c (by
      obtain ⟨g, _, eg⟩ := d2
      rw [z, ps_nil, show (0 : PS) * g = ps [] from by rw [ps_nil]; grind] at eg
      exact ps_inj tt tr_nil eg)
    exact dv_len tx nx tt c d2
theorem pl_same {t u x y a b : List Rat} (u0 : cf u 0 ≠ 0) (h1 : Pl t u x y) (h2 : Pl t u a b) : a = x ∧ b = y := (pl_uniq u0 u0 h2 h1).mpr (by grind)
theorem pl_ser {t u x y : List Rat} (u0 : cf u 0 ≠ 0) (pl : Pl t u x y) : serS x y = serS t u := (ser_cross (one_of0 pl.2.2.1) u0).mpr pl.2.2.2.2.symm
theorem pl_of_ser {t u a b x y : List Rat} (u0 : cf u 0 ≠ 0) (b0 : cf b 0 ≠ 0) (e : serS t u = serS a b) (h1 : Pl t u x y) {c d : List Rat} (h2 : Pl a b c d) : x = c ∧ y = d := (pl_uniq u0 b0 h1 h2).mpr ((ser_cross u0 b0).mp e)
theorem pl_exists {t u : List Rat} (tt : Tr t) (tu : Tr u) (u0 : cf u 0 ≠ 0) : ∃ x y, Pl t u x y := by
  obtain ⟨G, hG⟩ := isG_ex u.length t u (Nat.le_refl _) tt tu (.inr (ne_of0 u0))
  obtain ⟨a, ⟨n, ha⟩, ea⟩ := hG.dp
  obtain ⟨b, ⟨m, hb⟩, eb⟩ := hG.dq
  obtain ⟨A, _, _, eA⟩ := of_bd ha
  obtain ⟨B, _, _, eB⟩ := of_bd hb
  exact ⟨_, _, (pl_ex tt tu u0 hG (a := A) (b := B) (by rw [ea, eA]; grind) (by rw [eb, eB]; grind)).2⟩
/-- a menu of fractions -/
theorem menu_Q (L : List (Int × Nat)) (h : ∀ p, p ∈ L → (Rat.divInt p.1 p.2).num = p.1 ∧ (Rat.divInt p.1 p.2).den = p.2) : L.map (fun p => T.tup [.int p.1, .int (p.2 : Nat)]) = (L.map fun p => Rat.divInt p.1 p.2).map tQ := by
  rw [List.map_map]
  refine List.map_congr_left fun p m => ?_
  obtain ⟨a, b⟩ := h p m
  show _ = T.tup [.int _, .int _]
  rw [a, b]
end Tw

namespace Tw
open PS PySem PySem.Spec PyProof.Rows L2
/-- the last number -/
def lc (p : List Rat) : Rat := cf p (p.length - 1)
theorem lc_ne {p : List Rat} (t : Tr p) (n : p ≠ []) : lc p ≠ 0 := t n
theorem mon_back {p : List Rat} (t : Tr p) (n : p ≠ []) : p = (mon p).map (· * lc p) := by
  have h0 := lc_ne t n
  refine ps_inj t ?_ ?_
  · have := map_tr (mo_mon t n).tr (mo_mon t n).ne h0
    exact this.2.1
  · rw [ps_map, ps_mon]
    have := C_inv h0
    have e : C (lc p) * (C (1 / cf p (p.length - 1)) * ps p) = (C (lc p) * C (1 / lc p)) * ps p := by show C (lc p) * (C (1 / lc p) * ps p) = _; grind
    rw [e, this]; grind
theorem ex_ht {p : List Rat} {c a : Nat} (t : Tr p) (n : p ≠ []) (h : Ht c (mon p)) (s : Sz a (lc p)) : Ht (c + a) p := by
  rw [mon_back t n]
  exact h.map s
theorem lc_map {p : List Rat} {x : Rat} : lc (p.map (· * x)) = lc p * x := by
  unfold lc
  rw [cf_map, List.length_map]
theorem lc_sz {p : List Rat} {b : Nat} (n : p ≠ []) (s : SzL b p) : Sz b (lc p) := by
  have := len_pos n
  unfold lc
  rw [cf_get (by omega)]
  exact s _ (List.getElem_mem _)
/-- the last number of a rest -/
theorem ex_rest {p q f r : List Rat} {c a : Nat} (tp : Tr p) (np : p ≠ []) (tq : Tr q) (nq : q ≠ []) (hp : Ht c (mon p)) (hq : Ht c (mon q)) (sa : Sz a (lc p)) (tr : Tr r) (nr : r ≠ []) (lr : r.length < q.length) (e : ps p = ps f * ps q + ps r) :
    Sz (a + (c + (p.length + 1 - q.length) * (c + 1))) (lc r) := by
  have mp := mo_mon tp np
  have mq := mo_mon tq nq
  obtain ⟨f1, r1, tf1, tr1, lr1, e1, h1, _⟩ := div_ht hp hq mq.tr mq.ne
  rw [mon_len tp np, mon_len tq nq] at h1
  have p0 := lc_ne tp np
  have q0 := lc_ne tq nq
  have ip := C_inv p0
  have iq := C_inv q0
  obtain ⟨m2a, m2b, m2c⟩ := map_tr tr nr (inv_ne p0)
  have e2 : ps (mon p) = ps (trim (f.map (· * (lc q / lc p)))) * ps (mon q) + ps (r.map (· * (1 / lc p))) := by
    rw [ps_trim, ps_map, ps_map, ps_mon, ps_mon]
    show C (1 / lc p) * ps p = C (lc q / lc p) * ps f * (C (1 / lc q) * ps q) + C (1 / lc p) * ps r
    have : C (lc q / lc p) = C (lc q) * C (1 / lc p) := by rw [C_mulC]; congr 1; grind
    rw [this, e]
    have : C (lc q) * C (1 / lc p) * ps f * (C (1 / lc q) * ps q) = (C (lc q) * C (1 / lc q)) * (C (1 / lc p) * (ps f * ps q)) := by grind
    rw [this, iq]; grind
  obtain ⟨_, er⟩ := div_same mq.tr mq.ne tf1 tr1 lr1 e1 (tr_trim _) m2b (by rw [List.length_map, mon_len tq nq]; exact lr) e2
  have n1 : r1 ≠ [] := by rw [er]; exact m2c
  have s1 := lc_sz n1 h1.szl
  have e3 : lc r = lc p * lc r1 := by rw [er, lc_map]; grind
  rw [e3]
  exact sa.mul s1
/-- what an exact chain keeps -/
structure Exc (c A B : Nat) (p q : List Rat) : Prop where
  tp : Tr p
  np : p ≠ []
  tq : Tr q
  hp : Ht c (mon p)
  sp : Sz A (lc p)
  sq : q ≠ [] → Sz A (lc q)
  oc : ∀ r, Tr r → Oc p q r → Ht c (mon r)
  ok : A + (c + 1) * (p.length + 3 * q.length) ≤ B
theorem Exc.le {c A B : Nat} {p q : List Rat} (h : Exc c A B p q) : A ≤ B := Nat.le_trans (Nat.le_add_right _ _) h.ok
theorem Exc.htp {c A B : Nat} {p q : List Rat} (h : Exc c A B p q) : Ht (c + B) p := (ex_ht h.tp h.np h.hp h.sp).mono (Nat.add_le_add_left h.le _)
theorem Exc.htq {c A B : Nat} {p q : List Rat} (h : Exc c A B p q) (nq : q ≠ []) : Ht (c + B) q := (ex_ht h.tq nq (h.oc q h.tq (.here nq)) (h.sq nq)).mono (Nat.add_le_add_left h.le _)
theorem Exc.next {c A B : Nat} {p q f r : List Rat} (h : Exc c A B p q) (nq : q ≠ []) (tr : Tr r) (lr : r.length < q.length) (e : ps p = ps f * ps q + ps r) : ∃ A', Exc c A' B q r := by
  have hq := h.oc q h.tq (.here nq)
  refine ⟨A + (c + (p.length + 1 - q.length) * (c + 1)), h.tq, nq, tr, hq, (h.sq nq).mono (by omega), fun nr => ex_rest h.tp h.np h.tq nq h.hp hq h.sp tr nr lr e, fun s ts o => h.oc s ts (.next nq tr lr e (x := 1) (by decide) tr (by rw [← one_eq]; grind) o), ?_⟩
  refine Nat.le_trans ?_ h.ok
  have e1 : c + (p.length + 1 - q.length) * (c + 1) ≤ (c + 1) * (p.length + 1 - q.length + 1) := by
    generalize p.length + 1 - q.length = X
    have : (c + 1) * (X + 1) = X * (c + 1) + (c + 1) := by rw [Nat.mul_comm, Nat.succ_mul]
    omega
  have e2 : (c + 1) * (p.length + 1 - q.length + 1) + (c + 1) * (q.length + 3 * r.length) ≤ (c + 1) * (p.length + 3 * q.length) := by
    rw [← Nat.mul_add]
    refine Nat.mul_le_mul_left _ ?_
    rcases Nat.lt_or_ge p.length q.length with z | z
    · have : r = p := rest_same h.tp h.tq nq tr lr e z
      rw [this]; omega
    · omega
  rw [← Nat.add_assoc]
  omega
/-- of two polynomials, by their lengths and heights alone -/
theorem exc_of {p q : List Rat} {h k L : Nat} (tp : Tr p) (np : p ≠ []) (tq : Tr q) (hp : Ht h p) (hq : Ht h q) (hk : p.length + q.length ≤ 2 ^ k) (hL : p.length + q.length ≤ L) (l0 : 1 ≤ L) :
    Exc ((1 + k + h) * L) h (h + ((1 + k + h) * L + 1) * (3 * L)) p q := by
  have m0 := Nat.mul_le_mul (Nat.le_refl (1 + k + h)) l0
  refine ⟨tp, np, tq, (hp.mon tp np).mono (by omega), lc_sz np hp.szl, fun nq => lc_sz nq hq.szl, fun r tr o => (oc_ht o tp tq tr hp hq hk).mono (Nat.mul_le_mul_left _ hL), ?_⟩
  exact Nat.add_le_add_left (Nat.mul_le_mul_left _ (by omega)) _
end Tw

namespace Tw
open PS PySem PySem.Spec PyProof.Rows L2
/-- what is told of a line by a row of weights -/
def ToL (F : PS) (l : List Rat) : List Rat := cutL (F * ps l) l.length
theorem toL_len (F : PS) (l : List Rat) : (ToL F l).length = l.length := cutL_len _ _
theorem cutL_congr {f g : PS} {n : Nat} (h : ∀ k, k < n → f.c k = g.c k) : cutL f n = cutL g n :=
  list_ext_cf (by rw [cutL_len, cutL_len]) fun k hk => by
    rw [cutL_len] at hk
    rw [cf_cutL hk, cf_cutL hk, h k hk]
theorem toL_toL (F G : PS) (l : List Rat) : ToL F (ToL G l) = ToL (F * G) l := by
  unfold ToL
  rw [cutL_len]
  refine cutL_congr fun k hk => ?_
  rw [show F * G * ps l = F * (G * ps l) from by grind]
  exact cut_mul (n := l.length) (fun i hi => by rw [ps_c, cf_cutL hi]) hk
theorem ser_toL {t u l : List Rat} (u0 : cf u 0 ≠ 0) : serL (mulP t l) u l.length = ToL (serS t u) l := by
  rw [serL_cut]
  unfold ToL
  congr 1
  refine (ser_uniq u0 ?_).symm
  rw [ps_mul, ← ser_mul (t := t) u0]; grind
theorem cf_toL {F : PS} {l : List Rat} {k : Nat} (h : k < l.length) : cf (ToL F l) k = (F * ps l).c k := cf_cutL h
theorem serS_mul {t u s v : List Rat} (u0 : cf u 0 ≠ 0) (v0 : cf v 0 ≠ 0) : serS (prodP t s) (prodP u v) = serS t u * serS s v := by
  refine (ser_uniq (by rw [cf_prod0]; exact fun z => (Rat.mul_eq_zero.mp z).elim u0 v0) ?_).symm
  rw [ps_prod, ps_prod, ← ser_mul (t := t) u0, ← ser_mul (t := s) v0]; grind
/-- all that own steps ask -/
structure LedOk (t u l : List Rat) : Prop where
  u0 : cf u 0 ≠ 0
  nm : ∃ N M K : Nat, Nm N u ∧ Nm M t ∧ Nm K l ∧ M * K * N ^ (l.length + 1) < 2 ^ 10000000 ∧ N < 2 ^ 10000000
  st : ∀ i, Sz 90001 (cf t i)
  sl : ∀ i, Sz 90001 (cf l i)
  lt : t.length ≤ 100
  lu : u.length ≤ 100
  ll : l.length ≤ 100
theorem led_ok {t u l : List Rat} {n m k : Nat} (u0 : cf u 0 ≠ 0) (hu : Nm (2 ^ n) u) (ht : Nm (2 ^ m) t) (hl : Nm (2 ^ k) l) (hn : n ≤ 90000) (hm : m ≤ 90000) (hk : k ≤ 90000) (lt : t.length ≤ 100) (lu : u.length ≤ 100) (ll : l.length ≤ 100) : LedOk t u l := by
  have e : ∀ {a : Nat} {p : List Rat}, a ≤ 90000 → Nm (2 ^ a) p → ∀ i, Sz 90001 (cf p i) := fun ha h i => h.sz (Nat.pow_lt_pow_right (by decide) (by omega)) i
  refine ⟨u0, ⟨_, _, _, hu, ht, hl, ?_, Nat.pow_lt_pow_right (by decide) (by omega)⟩, e hm ht, e hk hl, lt, lu, ll⟩
  rw [← Nat.pow_mul, ← Nat.pow_add, ← Nat.pow_add]
  refine Nat.pow_lt_pow_right (by decide) ?_
  have := Nat.mul_le_mul hn (show l.length + 1 ≤ 101 by omega)
  omega
/-- a quotient in another form -/
theorem pl_alt {t u x y T M : List Rat} (u0 : cf u 0 ≠ 0) (pl : Pl t u x y) (e : ps t * ps M = ps T * ps u) : Pl T M x y := by
  refine ⟨pl.1, pl.2.1, pl.2.2.1, pl.2.2.2.1, ?_⟩
  refine ps_cancel0 (u := ps u) (by rw [ps_c]; exact u0) ?_
  have h := pl.2.2.2.2
  have e1 : ps u * (ps T * ps y) = (ps T * ps u) * ps y := by grind
  rw [e1, ← e]
  have e2 : ps t * ps M * ps y = (ps t * ps y) * ps M := by grind
  rw [e2, h]; grind
/-- norm and denominator -/
def Nd (N D : Nat) (p : List Rat) : Prop := ∃ d : Int, d ≠ 0 ∧ d.natAbs ≤ D ∧ Nq N (C (d : Rat) * ps p)
theorem Nm.nd {N : Nat} {p : List Rat} (h : Nm N p) : Nd N N p := h
theorem Nd.mono {N M D E : Nat} {p : List Rat} (h : Nd N D p) (a : N ≤ M) (b : D ≤ E) : Nd M E p := by
  obtain ⟨d, d0, dl, hn⟩ := h
  exact ⟨d, d0, Nat.le_trans dl b, hn.mono a⟩
theorem Nd.nm {N D K : Nat} {p : List Rat} (h : Nd N D p) (a : N ≤ K) (b : D ≤ K) : Nm K p := h.mono a b
theorem Nd.ht {N D b : Nat} {p : List Rat} (h : Nd N D p) (a : N < 2 ^ b) (c : D < 2 ^ b) : Ht b p := by
  obtain ⟨d, d0, dl, hn⟩ := h
  obtain ⟨F, hF, hS⟩ := hn.ints
  refine Ht.of_cf ⟨d, d0, by omega, fun k _ => ⟨F k, ?_, ?_⟩⟩
  · have := absS_at F (k := k) (k + 1) (Nat.lt_succ_self _)
    have := hS (k + 1)
    omega
  · rw [← hF k, Cm_c, ps_c]; grind
theorem Nd.of {N M D E : Nat} {p q r : List Rat} (hp : Nd N D p) (hq : Nd M E q) (e : ps r = ps p * ps q) : Nd (N * M) (D * E) r := by
  obtain ⟨d, d0, dl, hn⟩ := hp
  obtain ⟨f, f0, fl, hm⟩ := hq
  refine ⟨d * f, Int.mul_ne_zero d0 f0, by rw [Int.natAbs_mul]; exact Nat.mul_le_mul dl fl, ?_⟩
  have := hn.mul hm
  rw [Rat.intCast_mul, ← C_mulC, e]
  rwa [show C (d : Rat) * C (f : Rat) * (ps p * ps q) = C (d : Rat) * ps p * (C (f : Rat) * ps q) from by grind]
theorem Nd.scale {N D A B : Nat} {p q : List Rat} {x : Rat} (hp : Nd N D p) (h1 : x.num.natAbs ≤ A) (h2 : x.den ≤ B) (e : ps q = C x * ps p) : Nd (N * A) (D * B) q := by
  obtain ⟨d, d0, dl, hn⟩ := hp
  have dx : ((x.den : Nat) : Int) ≠ 0 := by have := x.den_nz; omega
  refine ⟨d * (x.den : Nat), Int.mul_ne_zero d0 dx, by rw [Int.natAbs_mul, Int.natAbs_natCast]; exact Nat.mul_le_mul dl h2, ?_⟩
  have h := Nq.term x.num 0 hn
  have m0 : Mn 0 = (1 : PS) := rfl
  rw [m0] at h
  have ex : C (((d * (x.den : Nat) : Int)) : Rat) * ps q = C (x.num : Rat) * 1 * (C (d : Rat) * ps p) := by
    rw [e, Rat.intCast_mul, ← C_mulC]
    have : C (((x.den : Nat) : Int) : Rat) * C x = C (x.num : Rat) := by
      rw [C_mulC]
      congr 1
      have := q_num x
      rw [Rat.mul_comm]; exact this
    have e2 : C (d : Rat) * C (((x.den : Nat) : Int) : Rat) * (C x * ps p) = (C (((x.den : Nat) : Int) : Rat) * C x) * (C (d : Rat) * ps p) := by grind
    rw [e2, this]; grind
  rw [ex]
  exact h.mono (by rw [Nat.mul_comm]; exact Nat.mul_le_mul_left _ h1)
theorem Nq.cmul {N : Nat} {f : PS} (a : Int) (h : Nq N f) : Nq (a.natAbs * N) (C (a : Rat) * f) := by
  have h := Nq.term a 0 h
  have m0 : Mn 0 = (1 : PS) := rfl
  rw [m0, show C (a : Rat) * 1 * f = C (a : Rat) * f from by grind] at h
  exact h
theorem Nd.add {N M D E : Nat} {p q r : List Rat} (hp : Nd N D p) (hq : Nd M E q) (e : ps r = ps p + ps q) : Nd (N * E + M * D) (D * E) r := by
  obtain ⟨d, d0, dl, hn⟩ := hp
  obtain ⟨f, f0, fl, hm⟩ := hq
  refine ⟨d * f, Int.mul_ne_zero d0 f0, by rw [Int.natAbs_mul]; exact Nat.mul_le_mul dl fl, ?_⟩
  have h := ((hn.cmul f).mono (show f.natAbs * N ≤ N * E by rw [Nat.mul_comm]; exact Nat.mul_le_mul_left _ fl)).sum ((hm.cmul d).mono (show d.natAbs * M ≤ M * D by rw [Nat.mul_comm]; exact Nat.mul_le_mul_left _ dl)) 
  rw [Rat.intCast_mul, ← C_mulC, e]
  have e2 : C (d : Rat) * C (f : Rat) * (ps p + ps q) = C (d : Rat) * (C (f : Rat) * ps q) + C (f : Rat) * (C (d : Rat) * ps p) := by grind
  rw [e2, Nat.add_comm (N * E)]
  exact h
theorem nq_ints {p : List Rat} {D : Int} (l : List Int) (e : p.map (· * (D : Rat)) = l.map fun i : Int => ((i : Int) : Rat)) : Nq (l.map Int.natAbs).sum (C (D : Rat) * ps p) := by
  have key : ∀ (p : List Rat) (l : List Int), p.map (· * (D : Rat)) = l.map (fun i : Int => ((i : Int) : Rat)) → ∀ s : Nat, Nq (l.map Int.natAbs).sum (Mn s * (C (D : Rat) * ps p)) := by
    intro p
    induction p with
    | nil => intro l _ s; rw [ps_nil, show Mn s * (C (D : Rat) * 0) = 0 from by grind]; exact .zero
    | cons x p ih =>
      intro l e s
      cases l with
      | nil => simp at e
      | cons i l =>
        (rw [List.map_cons, List.map_cons] at e)
        obtain ⟨e1, e2⟩ := List.cons.inj e
        have h := ih l e2 (s + 1)
        rw [ps_cons, show Mn s * (C (D : Rat) * (C x + Mn 1 * ps p)) = (Mn s * Mn 1) * (C (D : Rat) * ps p) + C (D : Rat) * C x * Mn s from by grind, Mn_add, C_mulC, show (D : Rat) * x = (i : Rat) from by rw [Rat.mul_comm]; exact e1]
        exact .add i s h (by simp; omega)
  have m0 : Mn 0 = (1 : PS) := rfl
  have h := key p l e 0
  rwa [m0, show (1 : PS) * (C (D : Rat) * ps p) = C (D : Rat) * ps p from by grind] at h
theorem Nd.list {A B n : Nat} {p : List Rat} (hB : 1 ≤ B) (h : ∀ x, x ∈ p → x.num.natAbs ≤ A ∧ x.den ≤ B) (l : p.length ≤ n) : Nd (n * A * B ^ n) (B ^ n) p := by
  obtain ⟨D, l0, d0, d1, s, e⟩ := nm_list hB p h
  have pb := Nat.pow_le_pow_right hB l
  exact ⟨D, d0, Nat.le_trans d1 pb, (nq_ints l0 e).mono (Nat.le_trans s (Nat.mul_le_mul (Nat.mul_le_mul_right _ l) pb))⟩
end Tw

namespace Tw
open PS PySem PySem.Spec PyProof.Rows L2
theorem cutS {a u v : TSt} {D : EndsT} (h : v D = u D) : sSeq a v D = sSeq a u D := by unfold sSeq; rw [h]
theorem cutE {r u : TSt} {D : EndsT} {env : TEnv} (e : r D = u D) (h : r D env) : u D env := by rw [← e]; exact h
theorem cut1 {a w : TSt} {D : EndsT} {env : TEnv} (I : TEnv → Prop) (h2 : ∀ e, I e → w D e) (h1 : ∀ K : TEnv → Prop, (∀ e, I e → K e) → (sSeq a (fun _ => K)) D env) : (sSeq a w) D env :=
  cutE (r := sSeq a (fun _ => w D)) (u := sSeq a w) (@cutS a _ _ D rfl) (h1 (w D) h2)
theorem cut2 {a b w : TSt} {D : EndsT} {env : TEnv} (I : TEnv → Prop) (h2 : ∀ e, I e → w D e) (h1 : ∀ K : TEnv → Prop, (∀ e, I e → K e) → (sSeq a (sSeq b (fun _ => K))) D env) : (sSeq a (sSeq b w)) D env :=
  cutE (r := sSeq a (sSeq b (fun _ => w D))) (u := sSeq a (sSeq b w)) (@cutS a _ _ D (@cutS b _ _ D rfl)) (h1 (w D) h2)
theorem cut3 {a b c w : TSt} {D : EndsT} {env : TEnv} (I : TEnv → Prop) (h2 : ∀ e, I e → w D e) (h1 : ∀ K : TEnv → Prop, (∀ e, I e → K e) → (sSeq a (sSeq b (sSeq c (fun _ => K)))) D env) : (sSeq a (sSeq b (sSeq c w))) D env :=
  cutE (r := sSeq a (sSeq b (sSeq c (fun _ => w D)))) (u := sSeq a (sSeq b (sSeq c w))) (@cutS a _ _ D (@cutS b _ _ D (@cutS c _ _ D rfl))) (h1 (w D) h2)
theorem cut4 {a b c d w : TSt} {D : EndsT} {env : TEnv} (I : TEnv → Prop) (h2 : ∀ e, I e → w D e) (h1 : ∀ K : TEnv → Prop, (∀ e, I e → K e) → (sSeq a (sSeq b (sSeq c (sSeq d (fun _ => K))))) D env) : (sSeq a (sSeq b (sSeq c (sSeq d w)))) D env :=
  cutE (r := sSeq a (sSeq b (sSeq c (sSeq d (fun _ => w D))))) (u := sSeq a (sSeq b (sSeq c (sSeq d w)))) (@cutS a _ _ D (@cutS b _ _ D (@cutS c _ _ D (@cutS d _ _ D rfl)))) (h1 (w D) h2)
theorem cut5 {a b c d e w : TSt} {D : EndsT} {env : TEnv} (I : TEnv → Prop) (h2 : ∀ e, I e → w D e) (h1 : ∀ K : TEnv → Prop, (∀ e, I e → K e) → (sSeq a (sSeq b (sSeq c (sSeq d (sSeq e (fun _ => K)))))) D env) : (sSeq a (sSeq b (sSeq c (sSeq d (sSeq e w))))) D env :=
  cutE (r := sSeq a (sSeq b (sSeq c (sSeq d (sSeq e (fun _ => w D)))))) (u := sSeq a (sSeq b (sSeq c (sSeq d (sSeq e w))))) (@cutS a _ _ D (@cutS b _ _ D (@cutS c _ _ D (@cutS d _ _ D (@cutS e _ _ D rfl))))) (h1 (w D) h2)
theorem cut6 {a b c d e f w : TSt} {D : EndsT} {env : TEnv} (I : TEnv → Prop) (h2 : ∀ e, I e → w D e) (h1 : ∀ K : TEnv → Prop, (∀ e, I e → K e) → (sSeq a (sSeq b (sSeq c (sSeq d (sSeq e (sSeq f (fun _ => K))))))) D env) : (sSeq a (sSeq b (sSeq c (sSeq d (sSeq e (sSeq f w)))))) D env :=
  cutE (r := sSeq a (sSeq b (sSeq c (sSeq d (sSeq e (sSeq f (fun _ => w D))))))) (u := sSeq a (sSeq b (sSeq c (sSeq d (sSeq e (sSeq f w)))))) (@cutS a _ _ D (@cutS b _ _ D (@cutS c _ _ D (@cutS d _ _ D (@cutS e _ _ D (@cutS f _ _ D rfl)))))) (h1 (w D) h2)
theorem cut7 {a b c d e f g w : TSt} {D : EndsT} {env : TEnv} (I : TEnv → Prop) (h2 : ∀ e, I e → w D e) (h1 : ∀ K : TEnv → Prop, (∀ e, I e → K e) → (sSeq a (sSeq b (sSeq c (sSeq d (sSeq e (sSeq f (sSeq g (fun _ => K)))))))) D env) : (sSeq a (sSeq b (sSeq c (sSeq d (sSeq e (sSeq f (sSeq g w))))))) D env :=
  cutE (r := sSeq a (sSeq b (sSeq c (sSeq d (sSeq e (sSeq f (sSeq g (fun _ => w D)))))))) (u := sSeq a (sSeq b (sSeq c (sSeq d (sSeq e (sSeq f (sSeq g w))))))) (@cutS a _ _ D (@cutS b _ _ D (@cutS c _ _ D (@cutS d _ _ D (@cutS e _ _ D (@cutS f _ _ D (@cutS g _ _ D rfl))))))) (h1 (w D) h2)
theorem cut8 {a b c d e f g h w : TSt} {D : EndsT} {env : TEnv} (I : TEnv → Prop) (h2 : ∀ e, I e → w D e) (h1 : ∀ K : TEnv → Prop, (∀ e, I e → K e) → (sSeq a (sSeq b (sSeq c (sSeq d (sSeq e (sSeq f (sSeq g (sSeq h (fun _ => K))))))))) D env) : (sSeq a (sSeq b (sSeq c (sSeq d (sSeq e (sSeq f (sSeq g (sSeq h w)))))))) D env :=
  cutE (r := sSeq a (sSeq b (sSeq c (sSeq d (sSeq e (sSeq f (sSeq g (sSeq h (fun _ => w D))))))))) (u := sSeq a (sSeq b (sSeq c (sSeq d (sSeq e (sSeq f (sSeq g (sSeq h w)))))))) (@cutS a _ _ D (@cutS b _ _ D (@cutS c _ _ D (@cutS d _ _ D (@cutS e _ _ D (@cutS f _ _ D (@cutS g _ _ D (@cutS h _ _ D rfl)))))))) (h1 (w D) h2)
theorem cut9 {a b c d e f g h i w : TSt} {D : EndsT} {env : TEnv} (I : TEnv → Prop) (h2 : ∀ e, I e → w D e) (h1 : ∀ K : TEnv → Prop, (∀ e, I e → K e) → (sSeq a (sSeq b (sSeq c (sSeq d (sSeq e (sSeq f (sSeq g (sSeq h (sSeq i (fun _ => K)))))))))) D env) : (sSeq a (sSeq b (sSeq c (sSeq d (sSeq e (sSeq f (sSeq g (sSeq h (sSeq i w))))))))) D env :=
  cutE (r := sSeq a (sSeq b (sSeq c (sSeq d (sSeq e (sSeq f (sSeq g (sSeq h (sSeq i (fun _ => w D)))))))))) (u := sSeq a (sSeq b (sSeq c (sSeq d (sSeq e (sSeq f (sSeq g (sSeq h (sSeq i w))))))))) (@cutS a _ _ D (@cutS b _ _ D (@cutS c _ _ D (@cutS d _ _ D (@cutS e _ _ D (@cutS f _ _ D (@cutS g _ _ D (@cutS h _ _ D (@cutS i _ _ D rfl))))))))) (h1 (w D) h2)
theorem cut10 {a b c d e f g h i j w : TSt} {D : EndsT} {env : TEnv} (I : TEnv → Prop) (h2 : ∀ e, I e → w D e) (h1 : ∀ K : TEnv → Prop, (∀ e, I e → K e) → (sSeq a (sSeq b (sSeq c (sSeq d (sSeq e (sSeq f (sSeq g (sSeq h (sSeq i (sSeq j (fun _ => K))))))))))) D env) : (sSeq a (sSeq b (sSeq c (sSeq d (sSeq e (sSeq f (sSeq g (sSeq h (sSeq i (sSeq j w)))))))))) D env :=
  cutE (r := sSeq a (sSeq b (sSeq c (sSeq d (sSeq e (sSeq f (sSeq g (sSeq h (sSeq i (sSeq j (fun _ => w D))))))))))) (u := sSeq a (sSeq b (sSeq c (sSeq d (sSeq e (sSeq f (sSeq g (sSeq h (sSeq i (sSeq j w)))))))))) (@cutS a _ _ D (@cutS b _ _ D (@cutS c _ _ D (@cutS d _ _ D (@cutS e _ _ D (@cutS f _ _ D (@cutS g _ _ D (@cutS h _ _ D (@cutS i _ _ D (@cutS j _ _ D rfl)))))))))) (h1 (w D) h2)
theorem cut11 {a b c d e f g h i j k w : TSt} {D : EndsT} {env : TEnv} (I : TEnv → Prop) (h2 : ∀ e, I e → w D e) (h1 : ∀ K : TEnv → Prop, (∀ e, I e → K e) → (sSeq a (sSeq b (sSeq c (sSeq d (sSeq e (sSeq f (sSeq g (sSeq h (sSeq i (sSeq j (sSeq k (fun _ => K)))))))))))) D env) : (sSeq a (sSeq b (sSeq c (sSeq d (sSeq e (sSeq f (sSeq g (sSeq h (sSeq i (sSeq j (sSeq k w))))))))))) D env :=
  cutE (r := sSeq a (sSeq b (sSeq c (sSeq d (sSeq e (sSeq f (sSeq g (sSeq h (sSeq i (sSeq j (sSeq k (fun _ => w D)))))))))))) (u := sSeq a (sSeq b (sSeq c (sSeq d (sSeq e (sSeq f (sSeq g (sSeq h (sSeq i (sSeq j (sSeq k w))))))))))) (@cutS a _ _ D (@cutS b _ _ D (@cutS c _ _ D (@cutS d _ _ D (@cutS e _ _ D (@cutS f _ _ D (@cutS g _ _ D (@cutS h _ _ D (@cutS i _ _ D (@cutS j _ _ D (@cutS k _ _ D rfl))))))))))) (h1 (w D) h2)
theorem cut12 {a b c d e f g h i j k l w : TSt} {D : EndsT} {env : TEnv} (I : TEnv → Prop) (h2 : ∀ e, I e → w D e) (h1 : ∀ K : TEnv → Prop, (∀ e, I e → K e) → (sSeq a (sSeq b (sSeq c (sSeq d (sSeq e (sSeq f (sSeq g (sSeq h (sSeq i (sSeq j (sSeq k (sSeq l (fun _ => K))))))))))))) D env) : (sSeq a (sSeq b (sSeq c (sSeq d (sSeq e (sSeq f (sSeq g (sSeq h (sSeq i (sSeq j (sSeq k (sSeq l w)))))))))))) D env :=
  cutE (r := sSeq a (sSeq b (sSeq c (sSeq d (sSeq e (sSeq f (sSeq g (sSeq h (sSeq i (sSeq j (sSeq k (sSeq l (fun _ => w D))))))))))))) (u := sSeq a (sSeq b (sSeq c (sSeq d (sSeq e (sSeq f (sSeq g (sSeq h (sSeq i (sSeq j (sSeq k (sSeq l w)))))))))))) (@cutS a _ _ D (@cutS b _ _ D (@cutS c _ _ D (@cutS d _ _ D (@cutS e _ _ D (@cutS f _ _ D (@cutS g _ _ D (@cutS h _ _ D (@cutS i _ _ D (@cutS j _ _ D (@cutS k _ _ D (@cutS l _ _ D rfl)))))))))))) (h1 (w D) h2)
theorem cut13 {a b c d e f g h i j k l m w : TSt} {D : EndsT} {env : TEnv} (I : TEnv → Prop) (h2 : ∀ e, I e → w D e) (h1 : ∀ K : TEnv → Prop, (∀ e, I e → K e) → (sSeq a (sSeq b (sSeq c (sSeq d (sSeq e (sSeq f (sSeq g (sSeq h (sSeq i (sSeq j (sSeq k (sSeq l (sSeq m (fun _ => K)))))))))))))) D env) : (sSeq a (sSeq b (sSeq c (sSeq d (sSeq e (sSeq f (sSeq g (sSeq h (sSeq i (sSeq j (sSeq k (sSeq l (sSeq m w))))))))))))) D env :=
  cutE (r := sSeq a (sSeq b (sSeq c (sSeq d (sSeq e (sSeq f (sSeq g (sSeq h (sSeq i (sSeq j (sSeq k (sSeq l (sSeq m (fun _ => w D)))))))))))))) (u := sSeq a (sSeq b (sSeq c (sSeq d (sSeq e (sSeq f (sSeq g (sSeq h (sSeq i (sSeq j (sSeq k (sSeq l (sSeq m w))))))))))))) (@cutS a _ _ D (@cutS b _ _ D (@cutS c _ _ D (@cutS d _ _ D (@cutS e _ _ D (@cutS f _ _ D (@cutS g _ _ D (@cutS h _ _ D (@cutS i _ _ D (@cutS j _ _ D (@cutS k _ _ D (@cutS l _ _ D (@cutS m _ _ D rfl))))))))))))) (h1 (w D) h2)
theorem cut14 {a b c d e f g h i j k l m n w : TSt} {D : EndsT} {env : TEnv} (I : TEnv → Prop) (h2 : ∀ e, I e → w D e) (h1 : ∀ K : TEnv → Prop, (∀ e, I e → K e) → (sSeq a (sSeq b (sSeq c (sSeq d (sSeq e (sSeq f (sSeq g (sSeq h (sSeq i (sSeq j (sSeq k (sSeq l (sSeq m (sSeq n (fun _ => K))))))))))))))) D env) : (sSeq a (sSeq b (sSeq c (sSeq d (sSeq e (sSeq f (sSeq g (sSeq h (sSeq i (sSeq j (sSeq k (sSeq l (sSeq m (sSeq n w)))))))))))))) D env :=
  cutE (r := sSeq a (sSeq b (sSeq c (sSeq d (sSeq e (sSeq f (sSeq g (sSeq h (sSeq i (sSeq j (sSeq k (sSeq l (sSeq m (sSeq n (fun _ => w D))))))))))))))) (u := sSeq a (sSeq b (sSeq c (sSeq d (sSeq e (sSeq f (sSeq g (sSeq h (sSeq i (sSeq j (sSeq k (sSeq l (sSeq m (sSeq n w)))))))))))))) (@cutS a _ _ D (@cutS b _ _ D (@cutS c _ _ D (@cutS d _ _ D (@cutS e _ _ D (@cutS f _ _ D (@cutS g _ _ D (@cutS h _ _ D (@cutS i _ _ D (@cutS j _ _ D (@cutS k _ _ D (@cutS l _ _ D (@cutS m _ _ D (@cutS n _ _ D rfl)))))))))))))) (h1 (w D) h2)
/-- a teller, and another form of its quotient with known norms -/
structure Tel (t u T M : List Rat) (al a be b l1 l2 : Nat) : Prop where
  tt : Tr t
  nt : t ≠ []
  tu : Tr u
  u0 : cf u 0 ≠ 0
  tT : Tr T
  nT : T ≠ []
  tM : Tr M
  M0 : cf M 0 ≠ 0
  cross : ps t * ps M = ps T * ps u
  dT : Nd (2 ^ al) (2 ^ a) T
  dM : Nd (2 ^ be) (2 ^ b) M
  lT : T.length ≤ l1
  lM : M.length ≤ l2
def mdV (L : List (List Rat)) (ks : List Int) (lag : Nat) (r : Rat) : List Rat := List.replicate lag 0 ++ trim ((rsP L ks [1]).map (· * r))
theorem made_rep {L : List (List Rat)} {ks : List Int} {lag n1 n2 : Nat} {r : Rat} (hL : ∀ p, p ∈ L → Pce p) (nd : L.Nodup) (r0 : r ≠ 0) (hr : Sz 3 r) (hS : rsN ks + rsN (ks.map (0 - ·)) ≤ 4) (h1 : rsN ks = n1) (h2 : rsN (ks.map (0 - ·)) = n2) :
    Tel (mdT L ks lag r) (mdU L ks) (mdV L ks lag r) (mdL L ks) (10 * n1 + 3) (10 * n1 + 3) (10 * n2) (10 * n2) (lag + 1 + 2 * n1) (1 + 2 * n2) := by
  have md := made_ok (lag := lag) hL nd r0 hr hS
  have a1 := rs_of L ks hL rs_one
  have a2 : Rs (1 * 1024 ^ rsN (ks.map (0 - ·))) (1 + 2 * rsN (ks.map (0 - ·))) (mdL L ks) := rs_of L (ks.map (0 - ·)) hL rs_one
  rw [h1] at a1
  rw [h2] at a2
  obtain ⟨e1, e2⟩ := made_ps (L := L) (ks := ks) (lag := lag) (r := r)
  have mt := map_tr a1.mo.tr a1.mo.ne r0
  have p1 : ∀ n : Nat, 1 * 1024 ^ n = 2 ^ (10 * n) := fun n => by rw [Nat.one_mul, Nat.pow_mul]
  have n1' : Nm (2 ^ (10 * n1 + 3)) (mdV L ks lag r) := by
    have q := a1.nm.scale (x := r) (q := trim ((rsP L ks [1]).map (· * r))) (M := 2 ^ 3) (Nat.le_of_lt hr.n) (Nat.le_of_lt hr.d) (by rw [ps_trim, ps_map])
    rw [p1, ← Nat.pow_add] at q
    exact q.shift (j := lag) (ps_rep lag _)
  have n2' := a2.nm
  rw [p1] at n2'
  refine ⟨md.tt, md.nt, md.tu, one_of0 md.u0, tr_app (by rw [mt.1]; exact mt.2.1) (by rw [mt.1]; exact mt.2.2), ?_, a2.mo.tr, a2.z0, ?_, n1'.nd, n2'.nd, ?_, a2.le⟩
  · intro z
    rw [mdV, List.append_eq_nil_iff, mt.1] at z
    exact mt.2.2 z.2
  · rw [e1, e2]
    unfold mdV
    rw [ps_rep, ps_trim, ps_map]
    grind
  · unfold mdV
    rw [mt.1, List.length_append, List.length_replicate, List.length_map]
    have := a1.le
    omega
theorem made_len {L : List (List Rat)} {ks : List Int} {lag n1 n2 : Nat} {r : Rat} (hL : ∀ p, p ∈ L → Pce p) (h1 : rsN ks = n1) (h2 : rsN (ks.map (0 - ·)) = n2) : (mdT L ks lag r).length ≤ lag + 1 + 2 * n1 ∧ (mdU L ks).length ≤ 1 + 2 * n2 := by
  have a1 := (rs_of L ks hL rs_one).le
  have a2 : (mdL L ks).length ≤ 1 + 2 * rsN (ks.map (0 - ·)) := (rs_of L (ks.map (0 - ·)) hL rs_one).le
  rw [h1] at a1
  rw [h2] at a2
  constructor
  · unfold mdT
    (rw [List.length_append, List.length_replicate])
    have z1 := trim_len ((trim ((rsP L ks [1]).map (· * r))).map (· * (1 / cf (mdL L ks) 0)))
    have z2 := trim_len ((rsP L ks [1]).map (· * r))
    rw [List.length_map] at z1 z2
    omega
  · unfold mdU
    refine Nat.le_trans (trim_len _) ?_
    rw [List.length_map]; exact a2
/-- one more factor above and below changes no quotient -/
theorem Tel.mor {t u T M m : List Rat} {al a be b l1 l2 : Nat} (h : Tel t u T M al a be b l1 l2) (hm : Mor m) : Tel (prodP t m) (prodP u m) T M al a be b l1 l2 := by
  refine ⟨tr_trim _, prod_ne h.tt h.nt hm.tr hm.ne, tr_trim _, ?_, h.tT, h.nT, h.tM, h.M0, ?_, h.dT, h.dM, h.lT, h.lM⟩
  · rw [cf_prod0]
    exact fun z => (Rat.mul_eq_zero.mp z).elim h.u0 hm.z0
  · rw [ps_prod, ps_prod]
    have := h.cross
    have e : ps t * ps m * ps M = (ps t * ps M) * ps m := by grind
    rw [e, this]; grind
/-- itself -/
theorem tel_self {t u : List Rat} {al a be b l1 l2 : Nat} (tt : Tr t) (nt : t ≠ []) (tu : Tr u) (u0 : cf u 0 ≠ 0) (d1 : Nd (2 ^ al) (2 ^ a) t) (d2 : Nd (2 ^ be) (2 ^ b) u) (lt : t.length ≤ l1) (lu : u.length ≤ l2) : Tel t u t u al a be b l1 l2 := ⟨tt, nt, tu, u0, tt, nt, tu, u0, rfl, d1, d2, lt, lu⟩
theorem pw_two {a b h : Nat} (l : a + b ≤ h) : 2 ^ a * 2 ^ b ≤ 2 ^ h := by
  rw [← Nat.pow_add]; exact pow_le l
/-- how great the plain form of a product is -/
theorem Tel.prod_ht {t u T M s v S V : List Rat} {al a be b l1 l2 ga c de d l3 l4 h : Nat} (p : Tel t u T M al a be b l1 l2) (q : Tel s v S V ga c de d l3 l4) (h1 : al + ga < h) (h2 : be + de < h) (h3 : a + c < h) (h4 : b + d < h) (h5 : l1 + l2 + l3 + l4 ≤ 18) {x y : List Rat} (pl : Pl (prodP t s) (prodP u v) x y) :
    x.length + y.length ≤ l1 + l2 + l3 + l4 - 2 ∧ Ht ((5 + h) * (l1 + l2 + l3 + l4 - 2)) x ∧ Ht ((5 + h) * (l1 + l2 + l3 + l4 - 2)) y := by
  have u0 : cf (prodP u v) 0 ≠ 0 := by rw [cf_prod0]; exact fun z => (Rat.mul_eq_zero.mp z).elim p.u0 q.u0
  have M0 : cf (prodP M V) 0 ≠ 0 := by rw [cf_prod0]; exact fun z => (Rat.mul_eq_zero.mp z).elim p.M0 q.M0
  have pl2 : Pl (prodP T S) (prodP M V) x y := pl_alt u0 pl (by
    rw [ps_prod, ps_prod, ps_prod, ps_prod]
    have e : ps t * ps s * (ps M * ps V) = (ps t * ps M) * (ps s * ps V) := by grind
    rw [e, p.cross, q.cross]; grind)
  have hT : Ht h (prodP T S) := (p.dT.of q.dT (ps_prod T S)).ht (by rw [← Nat.pow_add]; exact Nat.pow_lt_pow_right (by decide) h1) (by rw [← Nat.pow_add]; exact Nat.pow_lt_pow_right (by decide) h3)
  have hM : Ht h (prodP M V) := (p.dM.of q.dM (ps_prod M V)).ht (by rw [← Nat.pow_add]; exact Nat.pow_lt_pow_right (by decide) h2) (by rw [← Nat.pow_add]; exact Nat.pow_lt_pow_right (by decide) h4)
  obtain ⟨lx, ly⟩ : x.length ≤ (prodP T S).length ∧ y.length ≤ (prodP M V).length := pl_len (tr_trim _) (tr_trim _) M0 pl2
  have e1 := prod_lenE p.tT p.nT q.tT q.nT
  have e2 := prod_lenE p.tM (ne_of0 p.M0) q.tM (ne_of0 q.M0)
  have ls : x.length + y.length ≤ l1 + l2 + l3 + l4 - 2 := by
    have k1 : x.length + 1 ≤ l1 + l3 := by
      have := p.lT; have := q.lT; have := len_pos p.nT
      clear h1 h2 h3 h4 h5 e2 ly; omega
    have k2 : y.length + 1 ≤ l2 + l4 := by
      have := p.lM; have := q.lM; have := len_pos (ne_of0 p.M0)
      clear h1 h2 h3 h4 h5 e1 lx; omega
    clear h1 h2 h3 h4 e1 e2 lx ly
    omega
  obtain ⟨z1, z2⟩ := pl_ht (tr_trim _) (prod_ne p.tT p.nT q.tT q.nT) (tr_trim _) M0 hT hM pl2 (c := 4) (by omega)
  have m : (1 + 4 + h) * (x.length + y.length) ≤ (5 + h) * (l1 + l2 + l3 + l4 - 2) := Nat.mul_le_mul (by omega) ls
  exact ⟨ls, z1.mono m, z2.mono m⟩
def mixA (t v : List Rat) (x : Rat) : List Rat := trim ((prodP t v).map (· * x))
def mixT (t u s v : List Rat) (x : Rat) : List Rat := sumP (mixA t v (1 - x)) (mixA s u x)
theorem mixA_sz {t v : List Rat} {x : Rat} {a b : Nat} (st : SzL a t) (sv : SzL a v) (sx : Sz b x) (ha : a ≤ 10000) (hb : b ≤ 10000) (lt : t.length ≤ 40) : SzL 900000 (mixA t v x) := by
  have k1 : t.length * (a + a + 1) ≤ 40 * 20001 := Nat.mul_le_mul lt (by omega)
  exact (((prodP_sz st sv).map sx).trim).mono (by omega)
theorem mixA_len {t v : List Rat} {x : Rat} : (mixA t v x).length ≤ t.length + v.length := by
  unfold mixA
  refine Nat.le_trans (trim_len _) ?_
  rw [List.length_map]
  exact prodP_len _ _
theorem ps_mixA {t v : List Rat} {x : Rat} : ps (mixA t v x) = C x * (ps t * ps v) := by
  unfold mixA
  rw [ps_trim, ps_map, ps_prod]
theorem ps_mixT {t u s v : List Rat} {x : Rat} : ps (mixT t u s v x) = C (1 - x) * (ps t * ps v) + C x * (ps s * ps u) := by
  unfold mixT
  rw [ps_sumP, ps_mixA, ps_mixA]
structure Fit (x y : List Rat) : Prop where
  l : x.length + y.length ≤ 16
  sx : SzL 1900 x
  sy : SzL 1900 y
structure K11 (t u s v l : List Rat) (z : Rat) : Prop where
  tt : Tr t
  nt : t ≠ []
  tu : Tr u
  u0 : cf u 0 ≠ 0
  ts : Tr s
  ns : s ≠ []
  tv : Tr v
  v0 : cf v 0 ≠ 0
  n1 : Nm (2 ^ 62) t
  n2 : Nm (2 ^ 62) u
  n3 : Nm (2 ^ 132) s
  n4 : Nm (2 ^ 132) v
  hb1 : Ht 400 (prodP t s)
  hb2 : Ht 400 (prodP u v)
  hm1 : mixT t u s v z ≠ [] → Ht 400 (mixT t u s v z)
  le : t.length + u.length ≤ 13
  le2 : s.length + v.length ≤ 13
  tu3 : u.length ≤ 8
  sv3 : v.length ≤ 8
  sz : Sz 33 z
  ll : l.length ≤ 7
  nl : Nm (2 ^ 78) l
  beh : ∀ x y, Pl (prodP t s) (prodP u v) x y → Fit x y
  mix : mixT t u s v z ≠ [] → ∀ x y, Pl (mixT t u s v z) (prodP u v) x y → Fit x y
  led : SzL 1900 (ToL (serS t u * serS s v) l)
  ledx : mixT t u s v z ≠ [] → SzL 1900 (ToL (C (1 - z) * serS t u + C z * serS s v) l)
theorem line_nm {l : List Rat} (ll : l.length ≤ 7) (sl : SzL 33 l) (dl : ∀ x, x ∈ l → x.den < 2 ^ 6) : Nm (2 ^ 78) l := by
  have := Nd.list (A := 2 ^ 33) (B := 2 ^ 6) (n := 7) (by decide) (fun x m => ⟨Nat.le_of_lt (sl x m).n, Nat.le_of_lt (dl x m)⟩) ll
  exact this.nm (by decide) (by decide)
theorem toL_sz {T M l : List Rat} {F : PS} {n m : Nat} (M0 : cf M 0 ≠ 0) (eF : F = serS T M) (hT : Nm (2 ^ n) T) (hM : Nm (2 ^ m) M) (hl : Nm (2 ^ 78) l) (ll : l.length ≤ 7) (hh : n + 78 + 7 * m < 1900) : SzL 1900 (ToL F l) := by
  subst eF
  rw [← ser_toL M0]
  intro x hx
  obtain ⟨k, hk, rfl⟩ := mem_cf hx
  rw [serL_len] at hk
  rw [cf_serL _ _ _ _ hk]
  refine (ser_sz M0 hM (hT.of hl (ps_mul T l)) ?_).1
  rw [← Nat.pow_add, ← Nat.pow_mul, ← Nat.pow_add]
  refine Nat.pow_lt_pow_right (by decide) ?_
  have : m * (k + 1) ≤ m * 7 := Nat.mul_le_mul_left _ (by omega)
  omega
theorem Tel.ser {t u T M : List Rat} {al a be b l1 l2 : Nat} (p : Tel t u T M al a be b l1 l2) : serS t u = serS T M := (ser_cross p.u0 p.M0).mpr p.cross
theorem Nd.up {n m k : Nat} {p : List Rat} (h : Nd (2 ^ n) (2 ^ m) p) (a : n ≤ k) (b : m ≤ k) : Nm (2 ^ k) p := h.nm (pow_le a) (pow_le b)
theorem one_sub_num {z : Rat} (h : Sz 33 z) (d : z.den < 2 ^ 6) : (1 - z).num.natAbs ≤ 2 ^ 34 ∧ (1 - z).den ≤ 2 ^ 6 := by
  have e : (1 - z) = Rat.divInt (z.den - z.num) z.den := by
    rw [Rat.divInt_eq_div, Rat.intCast_sub]
    have := q_num z
    have hz := castI_ne (D := (z.den : Int)) (by have := z.den_nz; omega)
    grind
  have a := divInt_num_le (z.den - z.num) z.den
  have b := divInt_den_le (z.den - z.num) z.den (by have := z.den_nz; omega)
  rw [← e] at a b
  have := h.n
  constructor
  · refine Nat.le_trans a ?_
    omega
  · omega
theorem k11_of {t u T M s v S V l : List Rat} {z : Rat} {al a be b l1 l2 ga c de d l3 l4 h k : Nat} (p : Tel t u T M al a be b l1 l2) (q : Tel s v S V ga c de d l3 l4)
    (n1 : Nm (2 ^ 62) t) (n2 : Nm (2 ^ 62) u) (n3 : Nm (2 ^ 132) s) (n4 : Nm (2 ^ 132) v) (nm3 : mixT t u s v z ≠ [] → Nm (2 ^ 100) s ∧ Nm (2 ^ 100) v) (le : t.length + u.length ≤ 13) (le2 : s.length + v.length ≤ 13) (tu3 : u.length ≤ 8) (sv3 : v.length ≤ 8)
    (sz : Sz 33 z) (dz : z.den < 2 ^ 6) (ll : l.length ≤ 7) (nl : Nm (2 ^ 78) l)
    (h1 : al + ga < h) (h2 : be + de < h) (h3 : a + c < h) (h4 : b + d < h) (h5 : l1 + l2 + l3 + l4 ≤ 18) (h6 : (5 + h) * (l1 + l2 + l3 + l4 - 2) ≤ 1900) (h7 : h + 78 + 7 * k < 1900) (hk : be + de ≤ k) (hk2 : b + d ≤ k)
    (hm : mixT t u s v z ≠ [] → ∃ m, al + de + (c + b + 6) + 35 < m ∧ ga + be + (a + d + 6) + 35 < m ∧ be + de < m ∧ a + d + 6 + (c + b + 6) < m ∧ b + d < m ∧ (l1 + l4) + (l2 + l4) ≤ 17 ∧ (l3 + l2) + (l2 + l4) ≤ 17 ∧ (5 + m) * ((l1 + l4) + (l2 + l4) - 2) ≤ 1900 ∧ (5 + m) * ((l3 + l2) + (l2 + l4) - 2) ≤ 1900 ∧ m + 78 + 7 * k < 1900) : K11 t u s v l z := by
  have M0 : cf (prodP M V) 0 ≠ 0 := by rw [cf_prod0]; exact fun z => (Rat.mul_eq_zero.mp z).elim p.M0 q.M0
  have u0 : cf (prodP u v) 0 ≠ 0 := by rw [cf_prod0]; exact fun z => (Rat.mul_eq_zero.mp z).elim p.u0 q.u0
  have dMV := p.dM.of q.dM (ps_prod M V)
  rw [← Nat.pow_add, ← Nat.pow_add] at dMV
  have nMV : Nm (2 ^ k) (prodP M V) := dMV.up hk hk2
  have dTS := p.dT.of q.dT (ps_prod T S)
  rw [← Nat.pow_add, ← Nat.pow_add] at dTS
  have eMix : ps (mixT T M S V z) = C (1 - z) * (ps T * ps V) + C z * (ps S * ps M) := ps_mixT
  -- the mixed one
  have hmix : mixT t u s v z ≠ [] → ∃ m, (Nm (2 ^ m) (mixT T M S V z)) ∧ m + 78 + 7 * k < 1900 ∧ ∀ x y, Pl (mixT t u s v z) (prodP u v) x y → Fit x y := fun hne => by
    obtain ⟨m, m1, m2, m3, m4, m5, m6, m7, m8, m9, m10⟩ := hm hne
    obtain ⟨z1, z2⟩ := one_sub_num sz dz
    have d1 := (p.dT.of q.dM (ps_prod T V)).scale (q := mixA T V (1 - z)) (x := 1 - z) z1 z2 (by rw [ps_mixA, ps_prod])
    have d2 := (q.dT.of p.dM (ps_prod S M)).scale (q := mixA S M z) (x := z) (A := 2 ^ 34) (B := 2 ^ 6) (by have := sz.n; omega) (Nat.le_of_lt dz) (by rw [ps_mixA, ps_prod])
    have d3 := d1.add d2 (r := mixT T M S V z) (by unfold mixT; rw [ps_sumP])
    simp only [← Nat.pow_add] at d3
    have w0 : 2 ^ (al + de + 34 + (c + b + 6)) + 2 ^ (ga + be + 34 + (a + d + 6)) ≤ 2 ^ (m - 1) := by
      have a1 : 2 ^ (al + de + 34 + (c + b + 6)) ≤ 2 ^ (m - 2) := pow_le (by omega)
      have a2 : 2 ^ (ga + be + 34 + (a + d + 6)) ≤ 2 ^ (m - 2) := pow_le (by omega)
      have a3 : 2 ^ (m - 1) = 2 ^ (m - 2) * 2 := by rw [← Nat.pow_succ]; congr 1; omega
      omega
    have w1 := Nat.le_trans w0 (pow_le (show m - 1 ≤ m by omega))
    have w2 : 2 ^ (a + d + 6 + (c + b + 6)) ≤ 2 ^ m := pow_le (by omega)
    have nT : Nm (2 ^ m) (mixT T M S V z) := d3.nm w1 w2
    refine ⟨m, nT, m10, fun x y pl => ?_⟩
    have pl2 : Pl (mixT T M S V z) (prodP M V) x y := pl_alt u0 pl (by
      rw [ps_mixT, eMix, ps_prod, ps_prod]
      have c1 := p.cross
      have c2 := q.cross
      have e1 : (C (1 - z) * (ps t * ps v) + C z * (ps s * ps u)) * (ps M * ps V) = C (1 - z) * ((ps t * ps M) * ps v * ps V) + C z * ((ps s * ps V) * ps u * ps M) := by grind
      rw [e1, c1, c2]; grind)
    have tX : Tr (mixT T M S V z) := tr_trim _
    obtain ⟨lx, ly⟩ : x.length ≤ (mixT T M S V z).length ∧ y.length ≤ (prodP M V).length := pl_len tX (tr_trim _) M0 pl2
    have f1 : (mixT T M S V z).length ≤ max (T.length + V.length - 1) (S.length + M.length - 1) := by
      have g1 := sumP_len (mixA T V (1 - z)) (mixA S M z)
      have g2 : (mixA T V (1 - z)).length ≤ T.length + V.length - 1 := by
        unfold mixA
        refine Nat.le_trans (trim_len _) ?_
        rw [List.length_map]; exact prod_len _ _
      have g3 : (mixA S M z).length ≤ S.length + M.length - 1 := by
        unfold mixA
        refine Nat.le_trans (trim_len _) ?_
        rw [List.length_map]; exact prod_len _ _
      unfold mixT
      omega
    have f2 := prod_len M V
    have := p.lT; have := p.lM; have := q.lT; have := q.lM
    have := len_pos p.nT; have := len_pos q.nT; have := len_pos (ne_of0 p.M0); have := len_pos (ne_of0 q.M0)
    have ls : x.length + y.length ≤ (l1 + l4) + (l2 + l4) - 2 ∨ x.length + y.length ≤ (l3 + l2) + (l2 + l4) - 2 := by
      clear hm h6 h7 h1 h2 h3 h4 m1 m2 m3 m4 m5 m8 m9 m10 w1 w2
      omega
    have l16 : x.length + y.length ≤ 16 := by clear hm h6 h7 h1 h2 h3 h4 m1 m2 m3 m4 m5 m8 m9 m10 w1 w2; omega
    have ht : Ht m (mixT T M S V z) := d3.ht (Nat.lt_of_le_of_lt w0 (Nat.pow_lt_pow_right (by decide) (by omega))) (Nat.pow_lt_pow_right (by decide) m4)
    have hM : Ht m (prodP M V) := dMV.ht (Nat.pow_lt_pow_right (by decide) m3) (Nat.pow_lt_pow_right (by decide) m5)
    have nX : mixT T M S V z ≠ [] := fun q0 => by
      have e0 : ps (mixT t u s v z) * (ps M * ps V) = 0 := by
        rw [ps_mixT]
        have c1 := p.cross
        have c2 := q.cross
        have e1 : (C (1 - z) * (ps t * ps v) + C z * (ps s * ps u)) * (ps M * ps V) = C (1 - z) * ((ps t * ps M) * ps v * ps V) + C z * ((ps s * ps V) * ps u * ps M) := by grind
        rw [e1, c1, c2]
        have e2 : C (1 - z) * (ps T * ps u * ps v * ps V) + C z * (ps S * ps v * ps u * ps M) = (C (1 - z) * (ps T * ps V) + C z * (ps S * ps M)) * (ps u * ps v) := by grind
        rw [e2, ← eMix, q0, ps_nil]; grind
      have e3 : ps (mixT t u s v z) = 0 := by
        refine ps_cancel0 (u := ps (prodP M V)) (by rw [ps_c]; exact M0) ?_
        rw [ps_prod]
        have : ps M * ps V * ps (mixT t u s v z) = ps (mixT t u s v z) * (ps M * ps V) := by grind
        rw [this, e0]; grind
      exact hne (ps_inj (tr_trim _) tr_nil (by rw [ps_nil]; exact e3))
    obtain ⟨y1, y2⟩ := pl_ht tX nX (tr_trim _) M0 ht hM pl2 (c := 4) (by omega)
    have mm : (1 + 4 + m) * (x.length + y.length) ≤ 1900 := by
      rcases ls with ls | ls
      · exact Nat.le_trans (Nat.mul_le_mul (by omega) ls) m8
      · exact Nat.le_trans (Nat.mul_le_mul (by omega) ls) m9
    exact ⟨l16, (y1.mono mm).szl, (y2.mono mm).szl⟩
  have p4 : ∀ {a b : Nat}, a + b < 400 → 2 ^ a * 2 ^ b < 2 ^ 400 := fun hab => by
    rw [← Nat.pow_add]; exact Nat.pow_lt_pow_right (by decide) hab
  refine ⟨p.tt, p.nt, p.tu, p.u0, q.tt, q.nt, q.tu, q.u0, n1, n2, n3, n4, (n1.prod n3).ht (p4 (by decide)), (n2.prod n4).ht (p4 (by decide)), fun hne => ?_, le, le2, tu3, sv3, sz, ll, nl, fun x y pl => ?_, fun hne => ?_, ?_, fun hne => ?_⟩
  · obtain ⟨k3, k4⟩ := nm3 hne
    obtain ⟨z1, z2⟩ := one_sub_num sz dz
    have d1 := (n1.prod k4).scale (q := mixA t v (1 - z)) (x := 1 - z) (M := 2 ^ 34) z1 (by omega) (by rw [ps_mixA, ps_prod])
    have d2 := (k3.prod n2).scale (q := mixA s u z) (x := z) (M := 2 ^ 34) (by have := sz.n; omega) (by omega) (by rw [ps_mixA, ps_prod])
    have d3 := d1.sum d2 (r := mixT t u s v z) (by unfold mixT; rw [ps_sumP])
    simp only [← Nat.pow_add] at d3
    refine d3.ht ?_
    rw [show (2 : Nat) = 2 ^ 1 from rfl, ← Nat.pow_mul, ← Nat.pow_add]
    exact Nat.pow_lt_pow_right (by decide) (by decide)
  · obtain ⟨a1, a2, a3⟩ := p.prod_ht q h1 h2 h3 h4 h5 pl
    exact ⟨by omega, (a2.mono h6).szl, (a3.mono h6).szl⟩
  · obtain ⟨m, _, _, a3⟩ := hmix hne
    exact a3
  · exact toL_sz M0 (by rw [p.ser, q.ser, serS_mul p.M0 q.M0]) (dTS.up (show al + ga ≤ h by omega) (by omega)) nMV nl ll h7
  · obtain ⟨m, a1, a2, _⟩ := hmix hne
    refine toL_sz M0 ?_ a1 nMV nl ll a2
    rw [p.ser, q.ser]
    refine ser_uniq M0 ?_
    rw [ps_prod, eMix]
    have s1 := ser_mul (t := T) p.M0
    have s2 := ser_mul (t := S) q.M0
    have e1 : ps M * ps V * (C (1 - z) * serS T M + C z * serS S V) = C (1 - z) * ((ps M * serS T M) * ps V) + C z * ((ps V * serS S V) * ps M) := by grind
    rw [e1, s1, s2]
theorem nm_szl {b n : Nat} {p : List Rat} (h : SzL b p) (l : p.length ≤ n) : Nm (2 ^ (n + b + b * n)) p := by
  refine (Nm.list (A := 2 ^ b) (B := 2 ^ b) (Nat.two_pow_pos _) (Nat.two_pow_pos _) fun x m => ⟨Nat.le_of_lt (h x m).n, Nat.le_of_lt (h x m).d⟩).mono ?_
  have e : 2 ^ n * 2 ^ b * (2 ^ b) ^ n = 2 ^ (n + b + b * n) := by rw [← Nat.pow_mul, ← Nat.pow_add, ← Nat.pow_add]
  rw [← e]
  refine Nat.mul_le_mul (Nat.mul_le_mul_right _ ?_) (Nat.pow_le_pow_right (Nat.two_pow_pos _) l)
  exact Nat.le_trans (by omega : p.length + 1 ≤ n + 1) (Nat.lt_two_pow_self (n := n))
theorem pl_ne {t u x y : List Rat} (tt : Tr t) (nt : t ≠ []) (u0 : cf u 0 ≠ 0) (pl : Pl t u x y) : x ≠ [] := fun z => nt (by
  obtain ⟨_, ty, y0, _, e⟩ := pl
  have h : ps t = 0 := by
    refine ps_cancel0 (u := ps y) (by rw [ps_c, y0]; decide) ?_
    rw [show ps y * ps t = ps t * ps y from by grind, e, z, ps_nil]; grind
  exact ps_inj tt tr_nil (by rw [h, ps_nil]))
theorem mixT_swap {t u s v : List Rat} {z : Rat} : mixT s v t u (1 - z) = mixT t u s v z := ps_inj (tr_trim _) (tr_trim _) (by
  show ps (mixT s v t u (1 - z)) = ps (mixT t u s v z)
  rw [ps_mixT, ps_mixT, show (1 : Rat) - (1 - z) = z from by grind]; grind)
/-- a mix, plain, none for nought -/
def MixW (t u s v : List Rat) (z : Rat) (W : T) : Prop := (mixT t u s v z = [] ∧ W = .non) ∨ (mixT t u s v z ≠ [] ∧ ∃ x y, Pl (mixT t u s v z) (prodP u v) x y ∧ W = .tup [tP x, tP y])
theorem prod0 {u v : List Rat} (u0 : cf u 0 ≠ 0) (v0 : cf v 0 ≠ 0) : cf (prodP u v) 0 ≠ 0 := by
  rw [cf_prod0]; exact fun z => (Rat.mul_eq_zero.mp z).elim u0 v0
theorem MixW.same {t u s v : List Rat} {z : Rat} {W X : T} (u0 : cf u 0 ≠ 0) (v0 : cf v 0 ≠ 0) (h : MixW t u s v z W) (k : MixW t u s v z X) : X = W := by
  rcases h with ⟨h, rfl⟩ | ⟨h, x, y, pl, rfl⟩
  · rcases k with ⟨k, rfl⟩ | ⟨k, _⟩
    · rfl
    · exact absurd h k
  · rcases k with ⟨k, _⟩ | ⟨k, a, b, pl2, rfl⟩
    · exact absurd k h
    · obtain ⟨rfl, rfl⟩ := pl_same (prod0 u0 v0) pl pl2
      rfl
theorem MixW.swap {t u s v : List Rat} {z : Rat} {W : T} (h : MixW s v t u (1 - z) W) : MixW t u s v z W := by
  unfold MixW at h ⊢
  rwa [mixT_swap, prodP_comm v u] at h
theorem Fit.rk {x y : List Rat} (h : Fit x y) : Rk 60 3 (.tup [tP x, tP y]) := by
  have l := h.l
  exact (Rk.tup (.cons ((Rk.tP (d := 0) h.sx)) (.cons (Rk.tP (d := 0) h.sy) .nil))).mono (by omega) (by decide)
end Tw

namespace Tw
open PS PySem PySem.Spec PyProof.Rows L2
theorem pval_N {p : List Rat} {N : Nat} (z : Rat) (h : p.length ≤ N) : pval p z = ev (cf p) N z := by
  rw [pval_ev]
  exact (ev_up (fun k hk => cf_out hk) z N h).symm
theorem ev_congr {c d : Nat → Rat} {n : Nat} (z : Rat) (h : ∀ k, k < n → c k = d k) : ev c n z = ev d n z := sumN_congr n fun k hk => by rw [h k hk]
theorem pval_congr {p q : List Rat} (z : Rat) (e : ps p = ps q) : pval p z = pval q z := by
  rw [pval_N z (Nat.le_max_left p.length q.length), pval_N z (Nat.le_max_right p.length q.length)]
  exact ev_congr z fun k _ => by rw [← ps_c, ← ps_c, e]
theorem pval_add {p q r : List Rat} (z : Rat) (e : ps r = ps p + ps q) : pval r z = pval p z + pval q z := by
  have h := pval_N (p := r) z (Nat.le_max_right (max p.length q.length) r.length)
  rw [h, pval_N (p := p) z (show p.length ≤ max (max p.length q.length) r.length by omega), pval_N (p := q) z (show q.length ≤ max (max p.length q.length) r.length by omega)]
  unfold ev
  rw [← sumN_add]
  exact sumN_congr _ fun k _ => by rw [← ps_c r, e, add_c, ps_c, ps_c]; grind
theorem pval_sc {p q : List Rat} {x : Rat} (z : Rat) (e : ps q = C x * ps p) : pval q z = x * pval p z := by
  rw [pval_N z (Nat.le_max_left q.length p.length), pval_N z (Nat.le_max_right q.length p.length)]
  unfold ev
  rw [← sumN_mul]
  exact sumN_congr _ fun k _ => by rw [← ps_c q, e, Cm_c, ps_c]; grind
theorem pval_mulP (q : List Rat) (z : Rat) : ∀ p : List Rat, pval (mulP p q) z = pval p z * pval q z
  | [] => by
    rw [pval_congr (q := []) z (by rw [ps_mul, ps_nil]; grind)]
    show (0 : Rat) = 0 * _
    grind
  | x :: p => by
    have ih := pval_mulP q z p
    have e : ps (mulP (x :: p) q) = ps (q.map (· * x)) + ps (0 :: mulP p q) := by
      rw [ps_mul, ps_cons, ps_cons, ps_map, ps_mul]
      have : C (0 : Rat) = 0 := PS.ext fun n => by rw [C_c, zero_c]; split <;> rfl
      rw [this]; grind
    rw [pval_add z e, pval_sc z (ps_map q x)]
    show x * pval q z + (0 + z * pval (mulP p q) z) = (x + z * pval p z) * pval q z
    rw [ih]; grind
theorem pval_mul {p q r : List Rat} (z : Rat) (e : ps r = ps p * ps q) : pval r z = pval p z * pval q z := by
  rw [← pval_mulP, pval_congr z (by rw [ps_mul]; exact e)]
theorem pval_prod (p q : List Rat) (z : Rat) : pval (prodP p q) z = pval p z * pval q z := pval_mul z (ps_prod p q)
theorem cop_at {x y : List Rat} (h : Cop x y) (z : Rat) (hx : pval x z = 0) (hy : pval y z = 0) : False := by
  obtain ⟨u, v, ⟨n, fu⟩, ⟨m, fv⟩, e⟩ := h.bez
  obtain ⟨U, _, _, eU⟩ := of_bd fu
  obtain ⟨V, _, _, eV⟩ := of_bd fv
  have h1 := pval_add (p := mulP x U) (q := mulP y V) (r := [1]) z (by rw [ps_mul, ps_mul, ps_one, ← one_eq, eU, eV]; exact e)
  rw [pval_mulP, pval_mulP, hx, hy, pval_one] at h1
  revert h1
  grind
theorem pl_at {t u x y : List Rat} (pl : Pl t u x y) (z : Rat) : pval t z * pval y z = pval x z * pval u z := by
  rw [← pval_mulP, ← pval_mulP]
  exact pval_congr z (by rw [ps_mul, ps_mul]; exact pl.2.2.2.2)
/-- fair: both numbers at 1 the same, not 0 -/
def fairB (x y : List Rat) : Bool := decide (pval y 1 ≠ 0) && decide (pval x 1 = pval y 1)
theorem fairB_iff {x y : List Rat} : fairB x y = true ↔ pval y 1 ≠ 0 ∧ pval x 1 = pval y 1 := by
  unfold fairB
  (rw [Bool.and_eq_true, decide_eq_true_eq, decide_eq_true_eq])
/-- a quotient with the number 1 at 1 -/
theorem fair_of {t u x y : List Rat} (pl : Pl t u x y) (h0 : pval u 1 ≠ 0) (h : pval t 1 = pval u 1) : fairB x y = true := by
  have e := pl_at pl 1
  rw [h] at e
  have e2 : pval x 1 = pval y 1 := by
    have : pval u 1 * (pval y 1 - pval x 1) = 0 := by grind
    rcases Rat.mul_eq_zero.mp this with z | z
    · exact absurd z h0
    · grind
  exact fairB_iff.mpr ⟨fun z => cop_at pl.2.2.2.1 1 (by rw [e2, z]) z, e2⟩
/-- without a common part as it is, the plain form is the same but for a number -/
theorem fair_cop {t u x y : List Rat} (tt : Tr t) (tu : Tr u) (u0 : cf u 0 ≠ 0) (c : Cop t u) (pl : Pl t u x y) : fairB x y = (decide (pval u 1 ≠ 0) && decide (pval t 1 = pval u 1)) := by
  have pl2 := (pl_ex (a := t) (b := u) tt tu u0 c (by rw [ps_one, ← one_eq]; grind) (by rw [ps_one, ← one_eq]; grind)).2
  obtain ⟨rfl, rfl⟩ := pl_same u0 pl2 pl
  have e1 := pval_sc (q := trim (t.map (· * (1 / cf u 0)))) (p := t) (x := 1 / cf u 0) 1 (by rw [ps_trim, ps_map])
  have e2 := pval_sc (q := trim (u.map (· * (1 / cf u 0)))) (p := u) (x := 1 / cf u 0) 1 (by rw [ps_trim, ps_map])
  have i0 := inv_ne u0
  unfold fairB
  rw [e1, e2]
  have a : (1 / cf u 0 * pval u 1 ≠ 0) ↔ (pval u 1 ≠ 0) := ⟨fun h z => h (by rw [z]; grind), fun h z => (Rat.mul_eq_zero.mp z).elim i0 h⟩
  have b : (1 / cf u 0 * pval t 1 = 1 / cf u 0 * pval u 1) ↔ (pval t 1 = pval u 1) := ⟨fun h => by
    have : 1 / cf u 0 * (pval t 1 - pval u 1) = 0 := by grind
    rcases Rat.mul_eq_zero.mp this with z | z
    · exact absurd z i0
    · grind, fun h => by rw [h]⟩
  rw [decide_eq_decide.mpr a, decide_eq_decide.mpr b]
section
variable {X : Cx}
/-- is True, is not True -/
def oIsB (x y : T) (Q : T → Prop) : Prop := ∃ a b : Bool, x = .bl a ∧ y = .bl b ∧ Q (.bl (decide (a = b)))
def oNotB (x y : T) (Q : T → Prop) : Prop := ∃ a b : Bool, x = .bl a ∧ y = .bl b ∧ Q (.bl (!decide (a = b)))
theorem rpO_bl {K : PySem.W.Frag} {W Zt Zc : Addr → Prop} {H : Hp} {v : V} {b : Bool} (h : RpO K W Zt Zc H v (.bl b)) : v = .bl b := by
  have h := h.weak
  cases h; rfl
theorem o_isB : OpR X (compareOp .Is) (tR2 X.K oIsB) := by
  intro pins s σ H x y
  intro v u Q I rx ry h
  obtain ⟨W, Zt, Zc, tx, ty, Qt, w, zx, p1, p2, ⟨a, b, rfl, rfl, h⟩, k⟩ := h
  refine op_isBl pins s σ H x y v u Q I rx ry ⟨a, b, rpO_bl p1, rpO_bl p2, k _ h _ H W (.refl w) (.of (.bl _))⟩
theorem o_notB : OpR X (compareOp .IsNot) (tR2 X.K oNotB) := by
  intro pins s σ H x y
  intro v u Q I rx ry h
  obtain ⟨W, Zt, Zc, tx, ty, Qt, w, zx, p1, p2, ⟨a, b, rfl, rfl, h⟩, k⟩ := h
  refine op_notBl pins s σ H x y v u Q I rx ry ⟨a, b, rpO_bl p1, rpO_bl p2, k _ h _ H W (.refl w) (.of (.bl _))⟩
end
end Tw

namespace Tw
open PS PySem PySem.Spec PyProof.Rows L2
/-- every divisor that ends in 1 is small -/
def NmDv (n : Nat) (q : List Rat) : Prop := ∀ G : List Rat, Mo G → Dv G (ps q) → Nm (2 ^ n) G
theorem NmDv.mono {n m : Nat} {q : List Rat} (h : NmDv n q) (l : n ≤ m) : NmDv m q := fun G a b => (h G a b).mono (pow_le l)
theorem NmDv.mul {n m : Nat} {p q r : List Rat} (hp : NmDv n p) (hq : NmDv m q) (tp : Tr p) (e : ps r = ps p * ps q) : NmDv (n + m) r := fun G mo d => by
  obtain ⟨G1, G2, m1, m2, d1, d2, eG⟩ := dv_split mo tp (by rw [← e]; exact d)
  have := (hp G1 m1 d1).of (hq G2 m2 d2) eG
  rwa [← Nat.pow_add] at this
theorem NmDv.scale {n : Nat} {p q : List Rat} {x : Rat} (h : NmDv n p) (hx : x ≠ 0) (e : ps q = C x * ps p) : NmDv n q := fun G mo ⟨u, fu, eu⟩ => h G mo ⟨C (1 / x) * u, (Fin'.C _).mul fu, by
  have i := C_inv hx
  have : ps p = (C x * C (1 / x)) * ps p := by rw [i]; grind
  rw [this, show C x * C (1 / x) * ps p = C (1 / x) * (C x * ps p) from by grind, ← e, eu]; grind⟩
theorem nm_1 : Nm 1 [1] := Nm.one (by decide) (by decide)
theorem NmDv.one : NmDv 0 [1] := fun G mo d => by
  have l := dv_len mo.tr mo.ne (tr_one (by decide)) (List.cons_ne_nil _ _) d
  rw [mo_one mo l]
  exact nm_1
theorem Pce.nmdv {p : List Rat} (h : Pce p) : NmDv 10 p := fun G mo d => by
  by_cases c : 2 ≤ G.length
  · rw [irr_dv h.ir mo d c]
    exact h.nm.mono (by decide)
  · rw [mo_one mo (by omega)]
    exact nm_1.mono (by decide)
theorem pow_nmdv {f p : List Rat} {n : Nat} (hf : NmDv n f) (mf : Mo f) (hp : Pce p) : ∀ k, NmDv (n + 10 * k) (powP f p k) ∧ Mo (powP f p k)
  | 0 => ⟨hf, mf⟩
  | k + 1 => by
    obtain ⟨a, b⟩ := pow_nmdv hf mf hp k
    refine ⟨(a.mul hp.nmdv b.tr (ps_prod _ _)).mono (by omega), mo_prod b hp.ir.mo⟩
theorem rs_nmdv : ∀ (L : List (List Rat)) (ks : List Int) {f : List Rat} {n : Nat}, (∀ p, p ∈ L → Pce p) → NmDv n f → Mo f → NmDv (n + 10 * rsN ks) (rsP L ks f)
  | [], ks, f, n, _, hf, _ => by
    have : rsP [] ks f = f := by cases ks <;> rfl
    rw [this]; exact hf.mono (by omega)
  | p :: L, [], f, n, _, hf, _ => by
    have : rsP (p :: L) [] f = f := rfl
    rw [this]; exact hf.mono (by omega)
  | p :: L, k :: ks, f, n, hL, hf, mf => by
    obtain ⟨a, b⟩ := pow_nmdv hf mf (hL p (List.mem_cons_self ..)) k.toNat
    rw [rsP]
    exact (rs_nmdv L ks (fun q m => hL q (List.mem_cons_of_mem _ m)) a b).mono (by rw [rsN]; omega)
/-- the numbers of an exact quotient -/
theorem quo_sz {T G x : List Rat} {n m : Nat} (g0 : cf G 0 ≠ 0) (hT : Nm (2 ^ n) T) (hG : Nm (2 ^ m) G) (e : ps T = ps x * ps G) : SzL (n + m * x.length + 1) x := fun y hy => by
  obtain ⟨k, hk, rfl⟩ := mem_cf hy
  have es : ps x = serS T G := ser_uniq g0 (by rw [e]; grind)
  have ek : cf x k = serN T G k := by
    have := congrArg (fun f => PS.c f k) es
    exact this
  rw [ek]
  refine (ser_sz g0 hG hT ?_).1
  rw [← Nat.pow_mul, ← Nat.pow_add]
  refine Nat.pow_lt_pow_right (by decide) ?_
  have := Nat.mul_le_mul_left m (show k + 1 ≤ x.length by omega)
  omega
/-- the plain form of a quotient over a product of pieces -/
theorem pl_dv {T M x y : List Rat} {n m : Nat} (tT : Tr T) (tM : Tr M) (M0 : cf M 0 ≠ 0) (mo : Mo M) (hT : Nm (2 ^ n) T) (hM : NmDv m M) (pl : Pl T M x y) : SzL (n + m * x.length + m + 2) x ∧ SzL (2 * m + 2) y := by
  obtain ⟨G, hG⟩ := isG_ex M.length T M (Nat.le_refl _) tT tM (.inr mo.ne)
  obtain ⟨a, ⟨na, ha⟩, ea⟩ := hG.dp
  obtain ⟨b, ⟨nb, hb⟩, eb⟩ := hG.dq
  obtain ⟨A, tA, _, eA⟩ := of_bd ha
  obtain ⟨B, tB, _, eB⟩ := of_bd hb
  have e1 : ps T = ps A * ps G := by rw [ea, eA]; grind
  have e2 : ps M = ps B * ps G := by rw [eb, eB]; grind
  obtain ⟨b0, pl2⟩ := pl_ex tT tM M0 hG e1 e2
  obtain ⟨rfl, rfl⟩ := pl_same M0 pl2 pl
  have nG := hM G hG.mo hG.dq
  have g0 : cf G 0 ≠ 0 := fun z => M0 (by
    have := congrArg (fun f => PS.c f 0) e2
    rw [show (ps M).c 0 = cf M 0 from rfl, cf_mul0] at this
    rw [this]
    show _ * cf G 0 = 0
    rw [z, Rat.mul_zero])
  have nB : B ≠ [] := ne_of0 b0
  have mB : Mo B := by
    refine ⟨nB, ?_⟩
    have lB := len_pos nB
    have lG := len_pos hG.mo.ne
    have t := top_mul (ps_bd' nB) (ps_bd' hG.mo.ne)
    have lM : M.length = B.length + G.length - 1 := by
      rw [← prod_lenE tB nB hG.mo.tr hG.mo.ne]
      exact congrArg List.length (ps_inj tM (tr_trim _) (by rw [e2]; exact (ps_prod B G).symm))
    rw [← e2, show B.length - 1 + (G.length - 1) = M.length - 1 from by omega] at t
    have t : cf M (M.length - 1) = cf B (B.length - 1) * cf G (G.length - 1) := t
    rw [mo.one, hG.mo.one, Rat.mul_one] at t
    exact t.symm
  have nB2 := hM B mB ⟨ps G, Fin'.ps G, e2⟩
  have sb : Sz (m + 1) (cf B 0) := nB2.sz (Nat.pow_lt_pow_right (by decide) (Nat.lt_succ_self _)) 0
  have ib := sb.inv b0
  have tx := map_tr tB nB (inv_ne b0)
  constructor
  · by_cases c : A = []
    · rw [c]
      intro z hz
      have : trim (([] : List Rat).map (· * (1 / cf B 0))) = [] := rfl
      rw [this] at hz
      cases hz
    · have ta := map_tr tA c (inv_ne b0)
      have sA := quo_sz g0 hT nG e1
      rw [ta.1, List.length_map]
      exact (sA.map ib).mono (by omega)
  · rw [tx.1]
    have sB : SzL (m + 1) B := (nB2.ht (Nat.pow_lt_pow_right (by decide) (Nat.lt_succ_self _))).szl
    exact (sB.map ib).mono (by omega)
section
variable {X : Cx} {own : List Nat} {a b c : Expr} {ra rb rc : TR} {x y z : Str} {px py pz pt pos : Pos}
/-- xs, y, z = [..], e, e' -/
theorem st_parFNN (i j l : Nat) {kt k2 pt2} (hc : X.calm = true) (hN : X.N.Nodup) (ha : PFt X own a ra) (hb : PEt X own true true b rb) (hd : PEt X own true true c rc)
    (hi : X.N[i]? = some x := by rfl) (hj : X.N[j]? = some y := by rfl) (hl : X.N[l]? = some z := by rfl) (hij : i ≠ j := by decide) (hil : i ≠ l := by decide) (hjl : j ≠ l := by decide)
    (hx : X.env.scope.names.lookup x = some .local := by rfl) (hy : X.env.scope.names.lookup y = some .local := by rfl) (hz : X.env.scope.names.lookup z = some .local := by rfl)
    (ho1 : own.contains i = true := by rfl) (ho2 : own.contains j = false := by rfl) (ho3 : own.contains l = false := by rfl)
    (hw : swappedStores [.Tuple [.Name x px, .Name y py, .Name z pz] kt pt] (.Tuple [a, b, c] k2 pt2) X.env = pure (some [x, y, z]) := by rfl)
    (hs : swapsWithSole [.Tuple [.Name x px, .Name y py, .Name z pz] kt pt] (.Tuple [a, b, c] k2 pt2) pos.line X.env = pure false := by rfl)
    (h1 : starEach [a, b, c] X.env = (false, eval a X.env) :: starEach [b, c] X.env := by rfl) (h2 : starEach [b, c] X.env = (false, eval b X.env) :: starEach [c] X.env := by rfl) (h3 : starEach [c] X.env = (false, eval c X.env) :: starEach [] X.env := by rfl) :
    PSt X own (.Assign [.Tuple [.Name x px, .Name y py, .Name z pz] kt pt] (.Tuple [a, b, c] k2 pt2) pos) (sPar3 i j l ra rb rc) := by
  refine ⟨fun F => psImp (ps_par3 hc hN hi hj hl hij hil hjl hx hy hz (pa_cons ha.pe (pa_cons hb.pe (pa_cons hd.pe pa_nil h3) h2) h1) hw hs) fun D σ H h => ?_⟩
  obtain ⟨W, env, Dt, R, h, k⟩ := h
  refine ⟨W, F.Z0, env, _, R.e, h, fun u hu q xs ts H1 W1 e s1 hn hq hw1 p => ?_⟩
  subst e
  have R1 := R.e.addZ hn s1 ⟨_, hq⟩
  refine ⟨W1, _, env, _, R1, hu, fun u2 hu2 v2 H2 W2 s2 p2 => ⟨W2, _, env, _, R1.step s2, hu2, fun u3 hu3 v3 H3 W3 s3 p3 => ⟨_, v2, v3, rfl, ?_⟩⟩⟩
  have w2 : ¬ W2 q := fun z => by
    rcases s2.so.new q z with y | y
    · exact hw1 y
    · rw [hq] at y; cases y
  have hq2 := s2.keep hq hw1
  have w3 : ¬ W3 q := fun z => by
    rcases s3.so.new q z with y | y
    · exact w2 y
    · rw [hq2] at y; cases y
  obtain ⟨R3, t3⟩ := R.setOwn ((s1.trans s2).trans s3) hn ho1 (s3.keep hq2 w2) w3 ((p.step s1.ok s2).step s2.ok s3)
  have q2 := (p2.rp.step s2.ok s3).mono (ZZ.put (i := i))
  obtain ⟨R4, t4⟩ := R3.set ho2 q2
  obtain ⟨R5, t5⟩ := R4.set ho3 ((p3.rp.mono (ZZ.put (i := i))).mono (zzSet R3.e ho2 q2))
  exact k.nx _ hu3 _ _ _ R5 ((t3.trans t4).trans t5)
end
def sumT (t u s v : List Rat) : List Rat := sumP (prodP t v) (prodP s u)
theorem ps_sumT {t u s v : List Rat} : ps (sumT t u s v) = ps t * ps v + ps s * ps u := by unfold sumT; rw [ps_sumP, ps_prod, ps_prod]
/-- a row, and another form of its quotient, over a product of pieces -/
structure Rq (t u T M : List Rat) (al n l : Nat) : Prop where
  tt : Tr t
  tu : Tr u
  u0 : cf u 0 ≠ 0
  tT : Tr T
  mM : Mo M
  M0 : cf M 0 ≠ 0
  cross : ps t * ps M = ps T * ps u
  dT : Nm (2 ^ al) T
  dM : Nm (2 ^ (10 * n)) M
  dv : NmDv (10 * n) M
  lT : T.length ≤ l
  lM : M.length ≤ 1 + 2 * n
theorem made_rq {L : List (List Rat)} {ks : List Int} {lag n1 n2 : Nat} {r : Rat} (hL : ∀ p, p ∈ L → Pce p) (nd : L.Nodup) (r0 : r ≠ 0) (hr : Sz 3 r) (hS : rsN ks + rsN (ks.map (0 - ·)) ≤ 4) (h1 : rsN ks = n1) (h2 : rsN (ks.map (0 - ·)) = n2) :
    Rq (mdT L ks lag r) (mdU L ks) (mdV L ks lag r) (mdL L ks) (10 * n1 + 3) n2 (lag + 1 + 2 * n1) := by
  have p := made_rep (lag := lag) hL nd r0 hr hS h1 h2
  have mo : Mo (mdL L ks) := (rs_of L (ks.map (0 - ·)) hL rs_one).mo
  have dv : NmDv (0 + 10 * rsN (ks.map (0 - ·))) (mdL L ks) := rs_nmdv L (ks.map (0 - ·)) hL NmDv.one mo_1
  rw [h2, Nat.zero_add] at dv
  exact ⟨p.tt, p.tu, p.u0, p.tT, mo, p.M0, p.cross, p.dT.nm (Nat.le_refl _) (Nat.le_refl _), p.dM.nm (Nat.le_refl _) (Nat.le_refl _), dv, p.lT, p.lM⟩
theorem Rq.mor {t u T M m : List Rat} {al n l : Nat} (h : Rq t u T M al n l) (hm : Mor m) : Rq (prodP t m) (prodP u m) T M al n l := by
  refine ⟨tr_trim _, tr_trim _, prod0 h.u0 hm.z0, h.tT, h.mM, h.M0, ?_, h.dT, h.dM, h.dv, h.lT, h.lM⟩
  rw [ps_prod, ps_prod]
  have e : ps t * ps m * ps M = (ps t * ps M) * ps m := by grind
  rw [e, h.cross]; grind
theorem nm_nil : Nm 1 [] := ⟨1, by decide, by decide, by rw [ps_nil, show C ((1 : Int) : Rat) * 0 = (0 : PS) from by grind]; exact .zero⟩
theorem rq_nil {u : List Rat} {al l : Nat} (tu : Tr u) (u0 : cf u 0 ≠ 0) : Rq [] u [] [1] al 0 l := by
  refine ⟨tr_nil, tu, u0, tr_nil, mo_1, by decide, by rw [ps_nil]; grind, nm_nil.mono (Nat.one_le_two_pow), nm_1, NmDv.one, by simp, by decide⟩
theorem Rq.num {t u T M : List Rat} {al n l b : Nat} {x : Rat} (h : Rq t u T M al n l) (hx : Sz b x) : Rq (trim (t.map (· * x))) u (trim (T.map (· * x))) M (al + b) n l := by
  have e1 : ps (trim (t.map (· * x))) = C x * ps t := by rw [ps_trim, ps_map]
  have e2 : ps (trim (T.map (· * x))) = C x * ps T := by rw [ps_trim, ps_map]
  refine ⟨tr_trim _, h.tu, h.u0, tr_trim _, h.mM, h.M0, ?_, ?_, h.dM, h.dv, ?_, h.lM⟩
  · rw [e1, e2]
    have := h.cross
    have e : C x * ps t * ps M = C x * (ps t * ps M) := by grind
    rw [e, this]; grind
  · have := h.dT.scale (M := 2 ^ b) (Nat.le_of_lt hx.n) (Nat.le_of_lt hx.d) e2
    rwa [← Nat.pow_add] at this
  · refine Nat.le_trans (trim_len _) ?_
    rw [List.length_map]; exact h.lT
theorem Rq.prod {t u T M s v S V : List Rat} {al n l be m k : Nat} (p : Rq t u T M al n l) (q : Rq s v S V be m k) : Rq (prodP t s) (prodP u v) (prodP T S) (prodP M V) (al + be) (n + m) (l + k) := by
  refine ⟨tr_trim _, tr_trim _, prod0 p.u0 q.u0, tr_trim _, mo_prod p.mM q.mM, prod0 p.M0 q.M0, ?_, ?_, ?_, ?_, ?_, ?_⟩
  · rw [ps_prod, ps_prod, ps_prod, ps_prod]
    have e : ps t * ps s * (ps M * ps V) = (ps t * ps M) * (ps s * ps V) := by grind
    rw [e, p.cross, q.cross]; grind
  · rw [Nat.pow_add]; exact p.dT.prod q.dT
  · rw [Nat.mul_add, Nat.pow_add]; exact p.dM.prod q.dM
  · rw [Nat.mul_add]; exact p.dv.mul q.dv p.mM.tr (ps_prod M V)
  · have := prod_len T S
    have := p.lT
    have := q.lT
    omega
  · have := prod_lenE p.mM.tr p.mM.ne q.mM.tr q.mM.ne
    have := p.lM
    have := q.lM
    omega
theorem Rq.sum {t u T M s v S V : List Rat} {al n l be m k : Nat} (p : Rq t u T M al n l) (q : Rq s v S V be m k) : Rq (sumT t u s v) (prodP u v) (sumT T M S V) (prodP M V) (1 + ((al + 10 * m) + (be + 10 * n))) (n + m) (max (l + 2 * m) (k + 2 * n)) := by
  have pr := p.prod q
  refine ⟨tr_trim _, tr_trim _, pr.u0, tr_trim _, pr.mM, pr.M0, ?_, ?_, pr.dM, pr.dv, ?_, pr.lM⟩
  · show ps (sumT t u s v) * _ = ps (sumT T M S V) * _
    rw [ps_sumT, ps_sumT, ps_prod, ps_prod]
    have e : (ps t * ps v + ps s * ps u) * (ps M * ps V) = (ps t * ps M) * ps v * ps V + (ps s * ps V) * ps u * ps M := by grind
    rw [e, p.cross, q.cross]; grind
  · have := (p.dT.prod q.dM).sum (q.dT.prod p.dM) (r := sumT T M S V) (by rw [ps_sumT, ps_prod, ps_prod])
    refine this.mono ?_
    rw [Nat.pow_add 2 1, Nat.pow_add, Nat.pow_add, Nat.pow_add]
    exact Nat.le_refl _
  · have h1 : (sumT T M S V).length ≤ max (prodP T V).length (prodP S M).length := sumP_len _ _
    have h2 := prod_len T V
    have h3 := prod_len S M
    have := p.lT
    have := q.lT
    have := p.lM
    have := q.lM
    show (sumT T M S V).length ≤ _
    omega
/-- its plain form -/
theorem Rq.sz {t u T M x y : List Rat} {al n l : Nat} (h : Rq t u T M al n l) (pl : Pl t u x y) : SzL (al + 10 * n * l + 10 * n + 2) x ∧ SzL (20 * n + 2) y ∧ x.length ≤ l ∧ y.length ≤ 1 + 2 * n := by
  have pl2 := pl_alt h.u0 pl h.cross
  obtain ⟨lx, ly⟩ := pl_len h.tT h.mM.tr h.M0 pl2
  obtain ⟨a, b⟩ := pl_dv h.tT h.mM.tr h.M0 h.mM h.dT h.dv pl2
  have hl := h.lT
  have hm := h.lM
  refine ⟨a.mono ?_, b.mono (by omega), by omega, by omega⟩
  have := Nat.mul_le_mul_left (10 * n) (show x.length ≤ l by omega)
  omega
theorem Rq.ser {t u T M : List Rat} {al n l : Nat} (h : Rq t u T M al n l) (k : Nat) : Sz (al + 10 * n * (k + 1) + 1) ((serS t u).c k) := by
  rw [(ser_cross h.u0 h.M0).mpr h.cross]
  refine (ser_sz h.M0 h.dM h.dT ?_).1
  rw [← Nat.pow_mul, ← Nat.pow_add]
  exact (Nat.pow_lt_pow_right (by decide) (by omega))
end Tw

namespace Tw
open PS PySem PySem.Spec PyProof.Rows L2
section
variable {X : Cx} {own : List Nat} {k : Nat} {Φ : TF} {x : Str} {p pos : Pos} {fd : FuncData}
theorem pe_call0 {f : Addr} {sp : Sp} (F : FnOk X.prog X.w X.K X.mg X.base CX0 k f fd [] sp) (hr : Room k X.A) (hg : Gl X x) (hm : X.mg x = some (.ref f)) (kp : PySem.W.keepIn X.K (.ref f) = true) (bd : Binds X.K fd [] [])
    (hdb : (x == ("__debug__" : Str)) = false) : PE X (.Call (.Name x p) [] [] pos) (fun σ H Q => sp [] H Q E0) := by
  refine ⟨fun pins s σ H Q I hq => wpAny_Call_Name_kw (ld_glob I hg hm ?_ hdb)⟩
  refine PySem.W.callWith_KW0 (h₀ := X.base) I.ok.mod.kin kp rfl (thn (pk_nil.run pos pins s σ H (fun vs H1 => vs = [] ∧ sp [] H1 Q E0) I ⟨rfl, hq⟩) fun ws s2 ⟨zs, H2, I2, r2, e, q2⟩ => ⟨I2.kIn, ?_⟩) rfl
  subst e
  cases r2
  exact runK (us := []) (ws := []) (ks := []) (vs := []) (zs := []) (perm := []) F hr (bd s2 [] I2.kIn rfl) I2 .nil q2
theorem Ec0 (h : Has X.prog X.w X.K X.mg X.base x [] k Φ) (hr : Room k X.A) (hg : Gl X x := by rfl) (hdb : (x == ("__debug__" : Str)) = false := by decide) : PEt X own true true (.Call (.Name x p) [] [] pos) (rCall Φ rNil) := by
  obtain ⟨f, fd, g, kp, bd, F, _⟩ := h.ex
  refine ⟨peImp (pe_call0 F hr hg g kp bd hdb) fun σ H Q hq => ?_⟩
  obtain ⟨W, Z, env, Qt, R, hq, kk⟩ := hq
  exact ⟨W, ZZ own σ Z true, [], Qt, R.wok, R.zzx _, .nil, hq, fun u hu v H2 W2 s2 p2 => kk u hu v H2 W2 s2 (.of p2)⟩
end
end Tw

namespace Tw
open PS PySem PySem.Spec PyProof.Rows L2
theorem sumN_cut {f : Nat → Rat} {m : Nat} : ∀ n, m ≤ n → (∀ i, m ≤ i → i < n → f i = 0) → sumN f n = sumN f m
  | 0, h, _ => by rw [show m = 0 from by omega]
  | n + 1, h, z => by
    by_cases e : m = n + 1
    · rw [e]
    · show sumN f n + f n = _
      rw [z n (by omega) (by omega), Rat.add_zero, sumN_cut n (by omega) fun i a b => z i a (by omega)]
/-- the stairs of rows -/
def stepsOf (A : Mx) (n : Nat) : List Nat := (stairsE n 0 A []).2
theorem inc_ge {S : List Nat} (h : ∀ i k, i < k → k < S.length → S.getD i 0 < S.getD k 0) : ∀ k, k < S.length → k ≤ S.getD k 0
  | 0, _ => Nat.zero_le _
  | k + 1, hk => by
    have h1 := inc_ge h k (by omega)
    have h2 := h k (k + 1) (by omega) hk
    omega
theorem steps_le {A : Mx} {n k : Nat} (w : Wd n A) : (stepsOf A k).length ≤ k := by
  obtain ⟨_, _, st, _⟩ := sta_run k 0 w sta_nil
  rcases Nat.eq_zero_or_pos (stepsOf A k).length with z | z
  · omega
  · have h1 := inc_ge st.inc ((stepsOf A k).length - 1) (by show _ < (stepsOf A k).length; omega)
    have h2 := st.lt ((stepsOf A k).length - 1) (by show _ < (stepsOf A k).length; omega)
    omega
/-- as many steps as columns: nothing but nought is killed -/
theorem rank_full {A : Mx} {n : Nat} (w : Wd n A) : (stepsOf A n).length = n ↔ ∀ x, Kills A n x → ∀ k, k < n → x k = 0 := by
  obtain ⟨w2, l2, st, ki⟩ := sta_run n 0 w sta_nil
  rw [Nat.zero_add] at st
  unfold stepsOf
  generalize (stairsE n 0 A []).1 = F at *
  generalize hS : (stairsE n 0 A []).2 = S at *
  have ge := inc_ge st.inc
  have sl : S.length ≤ n := by rw [← hS]; exact steps_le w
  constructor
  · intro e x hx k hk
    have id : ∀ k, k < n → S.getD k 0 = k := fun k hk => by
      have up : ∀ j, k + j < n → S.getD k 0 + j ≤ S.getD (k + j) 0 := fun j => by
        induction j with
        | zero => intro _; exact Nat.le_refl _
        | succ j ih =>
          intro h
          have h1 := ih (by omega)
          have h2 := st.inc (k + j) (k + (j + 1)) (by omega) (by omega)
          omega
      have h1 := up (n - 1 - k) (by omega)
      have h2 := st.lt (k + (n - 1 - k)) (by omega)
      have h3 := ge k (by omega)
      omega
    have kx := (kills_iff.mp ((ki n x).mpr hx)) k (by have := st.le; omega)
    unfold dotR at kx
    rw [sumN_single (k := k) n hk fun i hi ne => ?_] at kx
    · have o := st.one k (by omega)
      rw [id k hk] at o
      unfold en at o
      rw [o, Rat.one_mul] at kx
      exact kx
    · have z := st.zero k i (by omega) (by have := st.le; omega) (fun q => ne q.symm)
      rw [id i hi] at z
      unfold en at z
      rw [z, Rat.zero_mul]
  · intro h
    rcases Nat.lt_or_ge S.length n with lt | ge2
    · exfalso
      -- the first column that is no step
      obtain ⟨c, cl, c1, c2⟩ : ∃ c, c ≤ S.length ∧ (∀ k, k < c → S.getD k 0 = k) ∧ (c < S.length → c < S.getD c 0) := by
        have key : ∀ j, j ≤ S.length → (∀ k, k < j → S.getD k 0 = k) ∨ ∃ c, c ≤ S.length ∧ (∀ k, k < c → S.getD k 0 = k) ∧ (c < S.length → c < S.getD c 0) := fun j => by
          induction j with
          | zero => intro _; exact .inl fun k hk => absurd hk (Nat.not_lt_zero k)
          | succ j ih =>
            intro hj
            rcases ih (by omega) with a | a
            · by_cases e : S.getD j 0 = j
              · refine .inl fun k hk => ?_
                rcases Nat.lt_or_ge k j with q | q
                · exact a k q
                · rw [show k = j from by omega]; exact e
              · refine .inr ⟨j, by omega, a, fun q => ?_⟩
                have := ge j q
                omega
            · exact .inr a
        rcases key S.length (Nat.le_refl _) with a | a
        · exact ⟨S.length, Nat.le_refl _, a, fun q => absurd q (Nat.lt_irrefl _)⟩
        · exact a
      obtain ⟨x, x1, x2, x3⟩ : ∃ x : Nat → Rat, (∀ k, k < c → x k = -en F k c) ∧ x c = 1 ∧ ∀ k, c < k → x k = 0 :=
        ⟨fun k => if k < c then -en F k c else if k = c then 1 else 0, fun k hk => if_pos hk, by simp, fun k hk => by
          show (if k < c then -en F k c else if k = c then (1 : Rat) else 0) = 0
          rw [if_neg (by omega), if_neg (by omega)]⟩
      have hx : Kills A n x := by
        rw [← ki n, kills_iff]
        intro i hi
        unfold dotR
        rw [sumN_cut (m := c + 1) n (by omega) fun k a b => by rw [x3 k (by omega), Rat.mul_zero]]
        show sumN _ c + cf (rw' F i) c * x c = 0
        rw [x2, Rat.mul_one]
        by_cases ic : i < c
        · rw [sumN_single (k := i) c ic fun k hk ne => ?_]
          · have o := st.one i (by omega)
            rw [c1 i ic] at o
            unfold en at o
            rw [o, x1 i ic, Rat.one_mul]
            show -cf (rw' F i) c + cf (rw' F i) c = 0
            grind
          · have z := st.zero i k (by omega) hi (fun q => ne q.symm)
            rw [c1 k hk] at z
            unfold en at z
            rw [z, Rat.zero_mul]
        · rw [sumN_zero c fun k hk => ?_]
          · have z : en F i c = 0 := by
              rcases Nat.lt_or_ge i S.length with q | q
              · refine st.ahead i c q ?_
                have h1 := c2 (by omega)
                rcases Nat.eq_or_lt_of_le (Nat.le_of_not_lt ic) with e | e
                · rw [← e]; exact h1
                · have := st.inc c i e q
                  omega
              · exact st.low i c q hi (by omega)
            unfold en at z
            rw [z, Rat.zero_add]
          · have z := st.zero i k (by omega) hi (by omega)
            rw [c1 k hk] at z
            unfold en at z
            rw [z, Rat.zero_mul]
      have := h _ hx c (by omega)
      rw [x2] at this
      exact absurd this (by decide)
    · omega
/-- a quotient in its plain form, of order r, with nought as its end -/
structure Wav (t u : List Rat) (F : Tw.PS) (r : Nat) : Prop where
  eq : ps u * F = ps t
  cop : Cop t u
  tu : Tr u
  u0 : cf u 0 ≠ 0
  lu : u.length = r + 1
  lt : t.length ≤ r
  u1 : pval u 1 ≠ 0
theorem mul_hi {f : Tw.PS} {u : List Rat} {r q : Nat} {c : Rat} (lu : u.length ≤ r + 1) (h : ∀ n, q ≤ n + r → n ≤ q → f.c n = c) (hq : r ≤ q) : (ps u * f).c q = pval u 1 * c := by
  rw [PS.mul_c, sumN_cut (m := r + 1) (q + 1) (by omega) fun i a b => by rw [ps_c, cf_out (by omega), Rat.zero_mul]]
  have o1 : ∀ k : Nat, (1 : Rat) ^ k = 1 := fun k => by
    induction k with
    | zero => exact Rat.pow_zero _
    | succ k ih => rw [Rat.pow_succ, ih, Rat.mul_one]
  rw [pval_N (N := r + 1) 1 lu, Rat.mul_comm]
  unfold ev
  rw [← sumN_mul]
  refine sumN_congr _ fun i hi => ?_
  rw [ps_c, h (q - i) (by omega) (by omega), o1]
  grind
/-- numbers all the same in a window: they are nought, and the weights are a multiple -/
theorem Wav.window {t u X : List Rat} {F : Tw.PS} {r m p q : Nat} {c : Rat} (w : Wav t u F r) (lX : X.length ≤ m + 1) (hmp : m ≤ p) (hq : p + r ≤ q) (h : ∀ n, p ≤ n → n ≤ q → (ps X * F).c n = c) :
    c = 0 ∧ ∃ Y : List Rat, Tr Y ∧ ps X = ps u * ps Y ∧ Y.length ≤ m + 1 - r := by
  have lu := w.lu
  have lt := w.lt
  have eV : ps u * (ps X * F) = ps (mulP X t) := by
    rw [ps_mul, ← w.eq]; grind
  have lP : (mulP X t).length ≤ m + r := by rw [mulP_len]; omega
  have hc : c = 0 := by
    have h1 := mul_hi (f := ps X * F) (u := u) (r := r) (q := q) (c := c) (by omega) (fun n a b => h n (by omega) b) (by omega)
    rw [eV, ps_c, cf_out (by omega)] at h1
    exact (Rat.mul_eq_zero.mp h1.symm).resolve_left w.u1
  subst hc
  refine ⟨rfl, ?_⟩
  obtain ⟨L, eL⟩ : ∃ L, L = cutL (ps X * F) p := ⟨_, rfl⟩
  have lL : L.length = p := by rw [eL, cutL_len]
  have d0 : ∀ n, n ≤ q → (ps X * F + -(ps L)).c n = 0 := fun n hn => by
    rw [PS.add_c, PS.neg_c, ps_c L]
    rcases Nat.lt_or_ge n p with z | z
    · rw [eL, cf_cutL z]; grind
    · rw [cf_out (by omega), h n z hn]; grind
  have eD : ps u * (ps X * F + -(ps L)) = ps u * 0 := PS.ext fun n => by
    rw [show ps u * 0 = (0 : Tw.PS) from by grind, PS.zero_c]
    rcases Nat.lt_or_ge n (p + r) with z | z
    · rw [PS.mul_c]
      exact sumN_zero _ fun i hi => by rw [d0 (n - i) (by omega), Rat.mul_zero]
    · have e2 : ps u * (ps X * F + -(ps L)) = ps (mulP X t) + -(ps (mulP u L)) := by rw [← eV, ps_mul]; grind
      rw [e2, PS.add_c, PS.neg_c, ps_c, ps_c, cf_out (by omega), cf_out (by rw [mulP_len]; omega)]
      grind
  have eX : ps X * F = ps L := by
    have := ps_cancel0 (u := ps u) (by rw [ps_c]; exact w.u0) eD
    have e3 : ps X * F = (ps X * F + -(ps L)) + ps L := by grind
    rw [e3, this]; grind
  have ed : ps t * ps X = ps u * ps L := by rw [← eX, ← w.eq]; grind
  obtain ⟨v, ⟨k, hv⟩, ev⟩ := w.cop.dv (Fin'.ps X) (Fin'.ps L) ed
  obtain ⟨Y, tY, _, rfl⟩ := of_bd hv
  refine ⟨Y, tY, ev, ?_⟩
  by_cases nY : Y = []
  · subst nY; exact Nat.zero_le _
  · have e4 : trim X = prodP u Y := ps_inj (tr_trim _) (tr_trim _) (by show _ = ps (prodP u Y); rw [ps_trim, ps_prod, ev])
    have l4 := prod_lenE w.tu (ne_of0 w.u0) tY nY
    rw [← e4] at l4
    have := trim_len X
    omega
/-- from a later number on -/
def shS (F : Tw.PS) (k : Nat) : Tw.PS := ⟨fun n => F.c (n + k)⟩
theorem shS_c (F : Tw.PS) (k n : Nat) : (shS F k).c n = F.c (n + k) := rfl
theorem fin_M1 : Fin' (Mn 1) := ⟨2, fun k hk => by show (if k = 1 then (1 : Rat) else 0) = 0; rw [if_neg (by omega)]⟩
theorem Wav.shift1 {t u : List Rat} {F : Tw.PS} {r : Nat} (w : Wav t u F r) : ∃ t', Wav t' u (shS F 1) r := by
  have lu := w.lu
  have lt := w.lt
  have e0 : cf t 0 = cf u 0 * F.c 0 := by
    have := congrArg (fun f => PS.c f 0) w.eq
    simp only [cf_mul0, ps_c] at this
    exact this.symm
  obtain ⟨W, eW⟩ : ∃ W, W = sumP t (trim (u.map (· * (-(F.c 0))))) := ⟨_, rfl⟩
  have pW : ps W = ps t + -(PS.C (F.c 0) * ps u) := by
    rw [eW, ps_sumP, ps_trim, ps_map]
    have cn : PS.C (-(F.c 0)) = -PS.C (F.c 0) := PS.ext fun n => by rw [PS.neg_c, PS.C_c, PS.C_c]; split <;> grind
    rw [cn]; grind
  have lW : W.length ≤ r + 1 := by
    rw [eW]
    refine Nat.le_trans (sumP_len _ _) ?_
    have := trim_len (u.map (· * (-(F.c 0))))
    rw [List.length_map] at this
    omega
  have w0 : cf W 0 = 0 := by
    have := congrArg (fun f => PS.c f 0) pW
    simp only [ps_c] at this
    rw [this, PS.add_c, PS.neg_c, PS.Cm_c, ps_c, ps_c, e0]; grind
  obtain ⟨t', l', e'⟩ : ∃ t' : List Rat, t'.length ≤ r ∧ ps W = Mn 1 * ps t' := by
    match W, lW, w0 with
    | [], _, _ => exact ⟨[], Nat.zero_le _, by rw [ps_nil]; grind⟩
    | x :: t', lW, w0 =>
      have w0 : x = 0 := w0
      subst w0
      refine ⟨t', by simpa using lW, ?_⟩
      rw [ps_cons]
      have c0 : PS.C (0 : Rat) = 0 := PS.ext fun n => by rw [PS.C_c, PS.zero_c]; split <;> rfl
      rw [c0]; grind
  have eF : F = PS.C (F.c 0) + Mn 1 * shS F 1 := PS.ext fun n => by
    rw [PS.add_c, PS.C_c]
    cases n with
    | zero => rw [Mn1_0, if_pos rfl]; grind
    | succ n => rw [Mn1_c, if_neg (by omega), shS_c]; grind
  refine ⟨t', ?_, ?_, w.tu, w.u0, w.lu, l', w.u1⟩
  · have h1 : Mn 1 * (ps u * shS F 1) = Mn 1 * ps t' := by
      rw [← e', pW, ← w.eq]
      have : ps u * F = ps u * (PS.C (F.c 0) + Mn 1 * shS F 1) := congrArg (ps u * ·) eF
      rw [this]; grind
    refine PS.ext fun n => ?_
    have := congrArg (fun f => PS.c f (n + 1)) h1
    simp only [Mn1_c] at this
    exact this
  · obtain ⟨x, y, hx, hy, e1⟩ := w.cop.bez
    refine cop_of (u := Mn 1 * x) (v := PS.C (F.c 0) * x + y) (fin_M1.mul hx) (((Fin'.C _).mul hx).add hy) ?_
    have et : ps t = Mn 1 * ps t' + PS.C (F.c 0) * ps u := by rw [← e', pW]; grind
    rw [et] at e1
    rw [e1]; grind
theorem Wav.shift {t u : List Rat} {F : Tw.PS} {r : Nat} (w : Wav t u F r) : ∀ k, ∃ t', Wav t' u (shS F k) r
  | 0 => ⟨t, w⟩
  | k + 1 => by
    obtain ⟨t', w'⟩ := w.shift k
    obtain ⟨t2, w2⟩ := w'.shift1
    refine ⟨t2, ?_⟩
    have : shS (shS F k) 1 = shS F (k + 1) := PS.ext fun n => by
      rw [shS_c, shS_c, shS_c]; congr 1; omega
    rwa [this] at w2
/-- weights on numbers in a row that tell the last one throughout, and add up to v -/
structure Eqs (S : Tw.PS) (m : Nat) (x : Nat → Rat) (v : Rat) : Prop where
  win : ∀ a, a ≤ m → sumN (fun j => S.c (a + j) * x j) (m + 1) = x (m + 1)
  tot : sumN x (m + 1) = v
def rvX (m : Nat) (x : Nat → Rat) : List Rat := (List.range (m + 1)).map fun k => x (m - k)
theorem rvX_len (m : Nat) (x : Nat → Rat) : (rvX m x).length = m + 1 := by unfold rvX; rw [List.length_map, List.length_range]
theorem cf_rvX {m k : Nat} {x : Nat → Rat} (h : k ≤ m) : cf (rvX m x) k = x (m - k) := by
  rw [cf_get (by rw [rvX_len]; omega)]
  unfold rvX
  rw [List.getElem_map, List.getElem_range]
theorem mul_win {X : List Rat} {S : Tw.PS} {m n : Nat} (l : X.length ≤ m + 1) (h : m ≤ n) : (ps X * S).c n = sumN (fun i => cf X i * S.c (n - i)) (m + 1) := by
  rw [PS.mul_c, sumN_cut (m := m + 1) (n + 1) (by omega) fun i a b => by rw [ps_c, cf_out (by omega), Rat.zero_mul]]
  rfl
theorem rvX_win (S : Tw.PS) (m a : Nat) (x : Nat → Rat) : (ps (rvX m x) * S).c (m + a) = sumN (fun j => S.c (a + j) * x j) (m + 1) := by
  rw [mul_win (m := m) (by rw [rvX_len]; omega) (by omega), sumN_rev]
  refine sumN_congr _ fun i hi => ?_
  rw [cf_rvX (by omega), Rat.mul_comm]
  congr 2 <;> omega
theorem pval_sum {X : List Rat} {m : Nat} (l : X.length ≤ m + 1) : pval X 1 = sumN (cf X) (m + 1) := by
  have o1 : ∀ k : Nat, (1 : Rat) ^ k = 1 := fun k => by
    induction k with
    | zero => exact Rat.pow_zero _
    | succ k ih => rw [Rat.pow_succ, ih, Rat.mul_one]
  rw [pval_N (N := m + 1) 1 l]
  unfold ev
  exact sumN_congr _ fun i _ => by rw [o1, Rat.mul_one]
theorem rvX_tot (m : Nat) (x : Nat → Rat) : pval (rvX m x) 1 = sumN x (m + 1) := by
  rw [pval_sum (m := m) (by rw [rvX_len]; omega), sumN_rev]
  refine sumN_congr _ fun i hi => ?_
  rw [cf_rvX (by omega)]
  congr 1; omega
theorem Eqs.congr {S U : Tw.PS} {m : Nat} {x : Nat → Rat} {v : Rat} (h : Eqs S m x v) (e : ∀ k, k ≤ 2 * m → U.c k = S.c k) : Eqs U m x v :=
  ⟨fun a ha => by rw [← h.win a ha]; exact sumN_congr _ fun j hj => by rw [e (a + j) (by omega)], h.tot⟩
/-- a number added throughout, another one to the first -/
def gS (g d : Rat) (F : Tw.PS) : Tw.PS := ⟨fun n => g + F.c n + if n = 0 then d else 0⟩
theorem gS_win {g d : Rat} {F : Tw.PS} {X : List Rat} {m n : Nat} (l : X.length ≤ m + 1) (h : m ≤ n) : (ps X * gS g d F).c n = g * pval X 1 + (ps X * F).c n + d * cf X n := by
  rw [mul_win l h, mul_win l h, pval_sum l]
  have e : sumN (fun i => cf X i * (gS g d F).c (n - i)) (m + 1) = sumN (fun i => (g * cf X i + cf X i * F.c (n - i)) + d * (if i = n then cf X n else 0)) (m + 1) := by
    refine sumN_congr _ fun i hi => ?_
    show cf X i * (g + F.c (n - i) + if n - i = 0 then d else 0) = _
    by_cases e : i = n
    · subst e
      rw [if_pos (by omega), if_pos rfl]; grind
    · rw [if_neg (by omega), if_neg e]; grind
  rw [e, sumN_add (fun i => g * cf X i + cf X i * F.c (n - i)) (fun i => d * (if i = n then cf X n else 0)), sumN_add (fun i => g * cf X i) (fun i => cf X i * F.c (n - i)), sumN_mul, sumN_mul]
  congr 2
  by_cases e2 : n ≤ m
  · rw [sumN_single (k := n) (m + 1) (by omega) fun i _ ne => if_neg ne, if_pos rfl]
  · rw [sumN_zero (m + 1) fun i hi => if_neg (by omega), cf_out (by omega)]
/-- weights made of a multiple of what is below -/
theorem Wav.eqs {t u X Y : List Rat} {F : Tw.PS} {r m : Nat} {g d v : Rat} (w : Wav t u F r) (lX : X.length ≤ m + 1) (eX : ps X = ps u * ps Y) (lY : Y.length + r ≤ m + 1) (v1 : pval X 1 = v) (hd : d * cf X m = 0) :
    Eqs (gS g d F) m (fun k => if k ≤ m then cf X (m - k) else g * v) v ∧ ∀ k, k ≤ m → (fun k => if k ≤ m then cf X (m - k) else g * v) k = cf X (m - k) := by
  obtain ⟨x, ex⟩ : ∃ x : Nat → Rat, x = fun k => if k ≤ m then cf X (m - k) else g * v := ⟨_, rfl⟩
  have x1 : ∀ k, k ≤ m → x k = cf X (m - k) := fun k hk => by rw [ex]; exact if_pos hk
  have x2 : x (m + 1) = g * v := by rw [ex]; exact if_neg (by omega)
  rw [← ex]
  have eR : ps (rvX m x) = ps X := PS.ext fun k => by
    rw [ps_c, ps_c]
    rcases Nat.lt_or_ge k (m + 1) with z | z
    · rw [cf_rvX (by omega), x1 _ (by omega)]; congr 1; omega
    · rw [cf_out (by rw [rvX_len]; exact z), cf_out (by omega)]
  have lt := w.lt
  refine ⟨⟨fun a ha => ?_, by rw [← rvX_tot, pval_congr 1 eR, v1]⟩, x1⟩
  rw [← rvX_win, eR, gS_win lX (by omega), v1, x2]
  have eV : ps X * F = ps (mulP Y t) := by rw [eX, ps_mul, ← w.eq]; grind
  rw [eV, ps_c, cf_out (by rw [mulP_len]; omega)]
  have : d * cf X (m + a) = 0 := by
    by_cases e : a = 0
    · subst e; exact hd
    · rw [cf_out (by omega), Rat.mul_zero]
  rw [this]; grind
/-- a cell of just the order -/
theorem Wav.cell {t u : List Rat} {F : Tw.PS} {r : Nat} {g v : Rat} {x : Nat → Rat} (w : Wav t u F r) (h : Eqs (gS g 0 F) r x v) : x (r + 1) = g * v ∧ (v = 0 → ∀ k, k < r + 2 → x k = 0) := by
  have lX := rvX_len r x
  have hv : pval (rvX r x) 1 = v := by rw [rvX_tot, h.tot]
  have win : ∀ n, r ≤ n → n ≤ 2 * r → (ps (rvX r x) * F).c n = x (r + 1) - g * v := fun n a b => by
    have h1 := h.win (n - r) (by omega)
    rw [← rvX_win, gS_win (m := r) (by omega) (by omega), hv, show r + (n - r) = n from by omega] at h1
    rw [← h1]; grind
  obtain ⟨c0, Y, tY, eY, lY⟩ := w.window (m := r) (p := r) (q := 2 * r) (by omega) (Nat.le_refl _) (by omega) win
  refine ⟨by grind, fun v0 k hk => ?_⟩
  have hY : ps Y = 0 := by
    match Y, lY with
    | [], _ => exact ps_nil
    | [y], _ =>
      have e1 := pval_mul (p := u) (q := [y]) 1 eY
      rw [hv, v0, pval_one] at e1
      have y0 := (Rat.mul_eq_zero.mp e1.symm).resolve_left w.u1
      subst y0
      rw [ps_one]
      exact PS.ext fun n => by rw [PS.C_c, PS.zero_c]; split <;> rfl
    | _ :: _ :: _, lY => simp at lY
  rw [hY] at eY
  rcases Nat.lt_or_ge k (r + 1) with z | z
  · have e2 := congrArg (fun f => PS.c f (r - k)) eY
    simp only [ps_c] at e2
    rw [cf_rvX (by omega), show ps u * 0 = (0 : Tw.PS) from by grind, PS.zero_c, show r - (r - k) = k from by omega] at e2
    exact e2
  · rw [show k = r + 1 from by omega, show x (r + 1) = g * v from by grind, v0, Rat.mul_zero]
theorem Wav.cell_ex {t u : List Rat} {F : Tw.PS} {r : Nat} {g : Rat} (w : Wav t u F r) : ∃ x, Eqs (gS g 0 F) r x 1 := by
  have lu := w.lu
  have e : ps (mulP u [1 / pval u 1]) = ps u * ps [1 / pval u 1] := ps_mul _ _
  exact ⟨_, (w.eqs (m := r) (g := g) (d := 0) (v := 1) (by rw [mulP_len, lu]; show r + 1 + 1 - 1 ≤ r + 1; omega) e (by show 1 + r ≤ r + 1; omega) (by
    rw [pval_mulP, pval_one]
    have := w.u1
    grind) (Rat.zero_mul _)).1⟩
/-- a cell of an order more is not there -/
theorem Wav.cell_no {t u : List Rat} {F : Tw.PS} {r : Nat} {g : Rat} (w : Wav t u F r) : ∃ y, Eqs (gS g 0 F) (r + 1) y 0 ∧ ∃ k, k < r + 3 ∧ y k ≠ 0 := by
  have lu := w.lu
  have e : ps (mulP u [1, -1]) = ps u * ps [1, -1] := ps_mul _ _
  obtain ⟨h, hx⟩ := w.eqs (m := r + 1) (g := g) (d := 0) (v := 0) (by rw [mulP_len, lu]; show r + 1 + 2 - 1 ≤ r + 1 + 1; omega) e (by show 2 + r ≤ r + 1 + 1; omega) (by
    rw [pval_mulP, show pval [1, -1] 1 = 0 from by show (1 : Rat) + 1 * (-1 + 1 * 0) = 0; grind, Rat.mul_zero]) (Rat.zero_mul _)
  refine ⟨_, h, r + 1, by omega, ?_⟩
  show (if r + 1 ≤ r + 1 then cf (mulP u [1, -1]) (r + 1 - (r + 1)) else g * 0) ≠ 0
  rw [if_pos (Nat.le_refl _), Nat.sub_self]
  have := congrArg (fun f => PS.c f 0) e
  simp only [cf_mul0, ps_c] at this
  rw [this]
  show cf u 0 * 1 ≠ 0
  rw [Rat.mul_one]
  exact w.u0
/-- with the first number moved there is a cell of an order more -/
theorem Wav.cell_mov {t u : List Rat} {F : Tw.PS} {r : Nat} {g d v : Rat} {x : Nat → Rat} (w : Wav t u F r) (d0 : d ≠ 0) (h : Eqs (gS g d F) (r + 1) x v) : x (r + 2) = g * v ∧ (v = 0 → ∀ k, k < r + 3 → x k = 0) := by
  have lX := rvX_len (r + 1) x
  have lu := w.lu
  have lt := w.lt
  have hv : pval (rvX (r + 1) x) 1 = v := by rw [rvX_tot, h.tot]
  have win0 : ∀ n, r + 1 ≤ n → n ≤ 2 * (r + 1) → (ps (rvX (r + 1) x) * F).c n + d * cf (rvX (r + 1) x) n = x (r + 2) - g * v := fun n a b => by
    have h1 := h.win (n - (r + 1)) (by omega)
    rw [← rvX_win, gS_win (m := r + 1) (by omega) (by omega), hv, show r + 1 + (n - (r + 1)) = n from by omega] at h1
    have h2 : x (r + 2) = g * v + (ps (rvX (r + 1) x) * F).c n + d * cf (rvX (r + 1) x) n := h1.symm
    rw [h2]; grind
  have win : ∀ n, r + 2 ≤ n → n ≤ 2 * (r + 1) → (ps (rvX (r + 1) x) * F).c n = x (r + 2) - g * v := fun n a b => by
    have h1 := win0 n (by omega) b
    rw [cf_out (p := rvX (r + 1) x) (by omega), Rat.mul_zero, Rat.add_zero] at h1
    exact h1
  obtain ⟨c0, Y, tY, eY, lY⟩ := w.window (m := r + 1) (p := r + 2) (q := 2 * (r + 1)) (by omega) (by omega) (by omega) win
  have hg : x (r + 2) = g * v := by grind
  have x0 : cf (rvX (r + 1) x) (r + 1) = 0 := by
    have h1 := win0 (r + 1) (Nat.le_refl _) (by omega)
    have eV : ps (rvX (r + 1) x) * F = ps (mulP Y t) := by rw [eY, ps_mul, ← w.eq]; grind
    rw [eV, ps_c, cf_out (by rw [mulP_len]; omega), hg, Rat.zero_add] at h1
    exact (Rat.mul_eq_zero.mp (h1.trans (by grind))).resolve_left d0
  refine ⟨hg, fun v0 k hk => ?_⟩
  have hY : ps Y = 0 := by
    by_cases nY : Y = []
    · rw [nY]; exact ps_nil
    · exfalso
      have e4 : prodP u Y = trim (rvX (r + 1) x) := ps_inj (tr_trim _) (tr_trim _) (by show ps (prodP u Y) = _; rw [ps_trim, ps_prod, eY])
      have l4 := prod_lenE w.tu (ne_of0 w.u0) tY nY
      have l5 : (prodP u Y).length ≤ r + 1 := by
        rcases Nat.lt_or_ge (r + 1) (prodP u Y).length with z | z
        · exfalso
          have tr : Tr (prodP u Y) := tr_trim _
          have hn : prodP u Y ≠ [] := fun q => by rw [q] at z; simp at z
          have l6 : (prodP u Y).length ≤ r + 2 := by rw [e4]; exact Nat.le_trans (trim_len _) (by omega)
          have := tr hn
          rw [show (prodP u Y).length - 1 = r + 1 from by omega, e4] at this
          have e7 := congrArg (fun f => PS.c f (r + 1)) (ps_trim (rvX (r + 1) x))
          simp only [ps_c] at e7
          exact this (e7.trans x0)
        · exact z
      have lY1 : Y.length = 1 := by have := len_pos nY; omega
      match Y, lY1 with
      | [y], _ =>
        have e1 := pval_mul (p := u) (q := [y]) 1 eY
        rw [hv, v0, pval_one] at e1
        have y0 := (Rat.mul_eq_zero.mp e1.symm).resolve_left w.u1
        subst y0
        exact tY (List.cons_ne_nil _ _) rfl
  rw [hY] at eY
  rcases Nat.lt_or_ge k (r + 2) with z | z
  · have e2 := congrArg (fun f => PS.c f (r + 1 - k)) eY
    simp only [ps_c] at e2
    rw [cf_rvX (by omega), show ps u * 0 = (0 : Tw.PS) from by grind, PS.zero_c, show r + 1 - (r + 1 - k) = k from by omega] at e2
    exact e2
  · rw [show k = r + 2 from by omega, hg, v0, Rat.mul_zero]
theorem Wav.mov_ex {t u : List Rat} {F : Tw.PS} {r : Nat} {g d : Rat} (w : Wav t u F r) : ∃ x, Eqs (gS g d F) (r + 1) x 1 := by
  have lu := w.lu
  have e : ps (mulP u [1 / pval u 1]) = ps u * ps [1 / pval u 1] := ps_mul _ _
  have l : (mulP u [1 / pval u 1]).length = r + 1 := by rw [mulP_len, lu]; show r + 1 + 1 - 1 = r + 1; omega
  exact ⟨_, (w.eqs (m := r + 1) (g := g) (d := d) (v := 1) (by omega) e (by show 1 + r ≤ r + 1 + 1; omega) (by
    rw [pval_mulP, pval_one]
    have := w.u1
    grind) (by rw [cf_out (by omega), Rat.mul_zero])).1⟩
end Tw

namespace Tw
open PySem
open PySem.Spec PyProof.Rows L2
section
variable {X : Cx} {own : List Nat} {a b c : Expr} {ra rb rc : TR} {x y z : Str} {px py pz pt pos : Pos} {kt k2 pt2}
theorem st_asgFNN (i j l : Nat) (hc : X.calm = true) (hN : X.N.Nodup) (ha : PFt X own a ra) (hb : PEt X own true true b rb) (hd : PEt X own true true c rc)
    (hi : X.N[i]? = some x := by rfl) (hj : X.N[j]? = some y := by rfl) (hl : X.N[l]? = some z := by rfl)
    (hx : Loc X.env.scope x := by first | exact Or.inl rfl | exact Or.inr rfl) (hy : Loc X.env.scope y := by first | exact Or.inl rfl | exact Or.inr rfl) (hz : Loc X.env.scope z := by first | exact Or.inl rfl | exact Or.inr rfl)
    (ho1 : own.contains i = true := by rfl) (ho2 : own.contains j = false := by rfl) (ho3 : own.contains l = false := by rfl)
    (hw : swappedStores [.Tuple [.Name x px, .Name y py, .Name z pz] kt pt] (.Tuple [a, b, c] k2 pt2) X.env = pure none := by rfl)
    (hs : swapsWithSole [.Tuple [.Name x px, .Name y py, .Name z pz] kt pt] (.Tuple [a, b, c] k2 pt2) pos.line X.env = pure false := by rfl)
    (h1 : starEach [a, b, c] X.env = (false, eval a X.env) :: starEach [b, c] X.env := by rfl) (h2 : starEach [b, c] X.env = (false, eval b X.env) :: starEach [c] X.env := by rfl) (h3 : starEach [c] X.env = (false, eval c X.env) :: starEach [] X.env := by rfl)
    (e1 : (assignEach [.Tuple [.Name x px, .Name y py, .Name z pz] kt pt] X.env).map (·.2) = [assign (.Tuple [.Name x px, .Name y py, .Name z pz] kt pt) X.env] := by rfl)
    (e2 : (assignEach [.Name x px, .Name y py, .Name z pz] X.env).length = 3 := by rfl) (e3 : (assignEach [.Name x px, .Name y py, .Name z pz] X.env).findIdx? (·.1) = none := by rfl)
    (e4 : (assignEach [.Name x px, .Name y py, .Name z pz] X.env).map (·.2) = assign (.Name x px) X.env :: (assignEach [.Name y py, .Name z pz] X.env).map (·.2) := by rfl)
    (e5 : (assignEach [.Name y py, .Name z pz] X.env).map (·.2) = assign (.Name y py) X.env :: (assignEach [.Name z pz] X.env).map (·.2) := by rfl)
    (e6 : (assignEach [.Name z pz] X.env).map (·.2) = assign (.Name z pz) X.env :: (assignEach [] X.env).map (·.2) := by rfl)
    (f1 : X.fn x = true ∨ X.env.scope.names.lookup x = some .local := by first | exact .inl rfl | exact .inr rfl) (f2 : X.fn y = true ∨ X.env.scope.names.lookup y = some .local := by first | exact .inl rfl | exact .inr rfl)
    (f3 : X.fn z = true ∨ X.env.scope.names.lookup z = some .local := by first | exact .inl rfl | exact .inr rfl) :
    PSt X own (.Assign [.Tuple [.Name x px, .Name y py, .Name z pz] kt pt] (.Tuple [a, b, c] k2 pt2) pos) (sPar3 i j l ra rb rc) := by
  refine ⟨fun F => psImp (ps_asg (pe_tup (pa_cons ha.pe (pa_cons hb.pe (pa_cons hd.pe pa_nil h3) h2) h1)) (pg_tup hc (pgs_cons (pg_name hN hi hx f1) (pgs_cons (pg_name hN hj hy f2) (pgs_cons (pg_name hN hl hz f3) pgs_nil e6) e5) e4) e2 e3) hs hw e1) fun D σ H h => ?_⟩
  obtain ⟨W, env, Dt, R, h, k⟩ := h
  refine ⟨W, F.Z0, env, _, R.e, h, fun u hu q xs ts H1 W1 e s1 hn hq hw1 p => ?_⟩
  subst e
  have R1 := R.e.addZ hn s1 ⟨_, hq⟩
  refine ⟨W1, _, env, _, R1, hu, fun u2 hu2 v2 H2 W2 s2 p2 => ⟨W2, _, env, _, R1.step s2, hu2, fun u3 hu3 v3 H3 W3 s3 p3 => ⟨by show 3 ≤ sizeLine; decide, fun r hr => ?_⟩⟩⟩
  have s4 : Step W3 H3 W3 (upd H3 r (.tup [.ref q, v2, v3])) := Step.put s3.ok hr
  have w2 : ¬ W2 q := fun z => by
    rcases s2.so.new q z with y | y
    · exact hw1 y
    · rw [hq] at y; cases y
  have hq2 := s2.keep hq hw1
  have w3 : ¬ W3 q := fun z => by
    rcases s3.so.new q z with y | y
    · exact w2 y
    · rw [hq2] at y; cases y
  obtain ⟨R3, t3⟩ := R.setOwn ((s1.trans s2).trans s3) hn ho1 (s3.keep hq2 w2) w3 ((p.step s1.ok s2).step s2.ok s3)
  have q2 := (p2.rp.step s2.ok s3).mono (ZZ.put (i := i))
  obtain ⟨R4, t4⟩ := R3.set ho2 q2
  obtain ⟨R5, t5⟩ := R4.set ho3 ((p3.rp.mono (ZZ.put (i := i))).mono (zzSet R3.e ho2 q2))
  refine ⟨r, [.ref q, v2, v3], rfl, .inl (.inl upd_same), rfl, _, _, rfl, _, _, rfl, _, _, rfl, rfl, ?_⟩
  exact k.nx _ hu3 _ _ _ (R5.step s4) (((t3.trans t4).trans t5).trans s4.so.wid)
end
end Tw

namespace Tw
open PS PySem PySem.Spec PyProof.Rows L2
theorem cop_shift {p q r : List Rat} {X : Tw.PS} (h : Cop p r) (hX : Fin' X) (e : ps q = ps p + X * ps r) : Cop q r := by
  obtain ⟨u, v, hu, hv, e1⟩ := h.bez
  obtain ⟨n, hn⟩ := hX.mul hu
  refine cop_of (u := u) (v := v + -(X * u)) hu (hv.add ⟨n, hn.neg⟩) ?_
  rw [e, e1]; grind
theorem cop_1 (r : List Rat) : Cop [1] r := Cop.const (x := 1) (by decide) (ps_one 1)
theorem Wav.add {t u D N : List Rat} {F G : Tw.PS} {r e : Nat} (w : Wav t u F r) (eG : ps D * G = ps N) (cN : Cop N D) (cu : Cop D u) (tD : Tr D) (D0 : cf D 0 ≠ 0) (lD : D.length = e + 1) (lN : N.length ≤ e) (D1 : pval D 1 ≠ 0) :
    ∃ t', Wav t' (prodP u D) (F + G) (r + e) := by
  have lu := w.lu
  have lt := w.lt
  have nu := ne_of0 w.u0
  have nD := ne_of0 D0
  have et : ps (sumP (mulP t D) (mulP N u)) = ps t * ps D + ps N * ps u := by rw [ps_sumP, ps_mul, ps_mul]
  refine ⟨sumP (mulP t D) (mulP N u), ?_, ?_, tr_trim _, ?_, ?_, ?_, ?_⟩
  · rw [ps_prod, et, ← w.eq, ← eG]; grind
  · have c1 : Cop (sumP (mulP t D) (mulP N u)) u := cop_shift (p := mulP t D) (w.cop.mul cu (ps_mul _ _)) (Fin'.ps N) (by rw [et, ps_mul])
    have c2 : Cop (sumP (mulP t D) (mulP N u)) D := cop_shift (p := mulP N u) (cN.mul cu.symm (ps_mul _ _)) (Fin'.ps t) (by rw [et, ps_mul]; grind)
    exact (c1.symm.mul c2.symm (ps_prod _ _)).symm
  · rw [cf_prod0]
    exact fun z => (Rat.mul_eq_zero.mp z).elim w.u0 D0
  · rw [prod_lenE w.tu nu tD nD]; omega
  · have := sumP_len (mulP t D) (mulP N u)
    rw [mulP_len, mulP_len] at this
    omega
  · rw [pval_prod]
    exact fun z => (Rat.mul_eq_zero.mp z).elim w.u1 D1
theorem C_sumC (x y : Rat) : C x + C y = C (x + y) := PS.ext fun n => by rw [PS.add_c, PS.C_c, PS.C_c, PS.C_c]; split <;> grind
theorem C_negC (x : Rat) : C (-x) = -C x := PS.ext fun n => by rw [PS.neg_c, PS.C_c, PS.C_c]; split <;> grind
theorem ps_li (a b : Rat) : ps [a, b] = C a + C b * Mn 1 := by rw [ps_cons, ps_one]; grind
theorem ps_sqr : ps [1, 0, 1] = 1 + Mn 1 * Mn 1 := by
  rw [ps_cons, ps_cons, ps_one, ← PS.one_eq]
  have c0 : C (0 : Rat) = 0 := PS.ext fun n => by rw [PS.C_c, PS.zero_c]; split <;> rfl
  rw [c0]; grind
theorem cop_lin {a b : Rat} (h : a ≠ b) : Cop [1, -a] [1, -b] := by
  have hn : b - a ≠ 0 := fun z => h (by grind)
  refine cop_of (u := C (b / (b - a))) (v := C (-a / (b - a))) (Fin'.C _) (Fin'.C _) ?_
  have e1 : b / (b - a) + -a / (b - a) = 1 := by grind
  have e2 : -a * (b / (b - a)) + -b * (-a / (b - a)) = 0 := by grind
  rw [ps_li, ps_li]
  have : (C 1 + C (-a) * Mn 1) * C (b / (b - a)) + (C 1 + C (-b) * Mn 1) * C (-a / (b - a)) = C 1 * (C (b / (b - a)) + C (-a / (b - a))) + (C (-a) * C (b / (b - a)) + C (-b) * C (-a / (b - a))) * Mn 1 := by grind
  rw [this, C_mulC, C_mulC, C_sumC, C_sumC, e1, e2, ← PS.one_eq]
  have c0 : C (0 : Rat) = 0 := PS.ext fun n => by rw [PS.C_c, PS.zero_c]; split <;> rfl
  rw [c0]; grind
theorem cop_sqr {a b : Rat} (h : a ≠ 0) : Cop [a, b] [1, 0, 1] := by
  have s1 := sq_nn a
  have s2 := sq_nn b
  have hn : a * a + b * b ≠ 0 := fun z => h ((fun q => q.elim id id) (Rat.mul_eq_zero.mp (show a * a = 0 by grind)))
  have fM : Fin' (C a + C (-b) * Mn 1) := by rw [← ps_li]; exact Fin'.ps _
  refine cop_of (u := C (1 / (a * a + b * b)) * (C a + C (-b) * Mn 1)) (v := C (b * b / (a * a + b * b))) ((Fin'.C _).mul fM) (Fin'.C _) ?_
  rw [ps_li, ps_sqr, C_negC]
  have : (C a + C b * Mn 1) * (C (1 / (a * a + b * b)) * (C a + -C b * Mn 1)) + (1 + Mn 1 * Mn 1) * C (b * b / (a * a + b * b)) = (C (1 / (a * a + b * b)) * (C a * C a) + C (b * b / (a * a + b * b))) + (C (b * b / (a * a + b * b)) + -(C (1 / (a * a + b * b)) * (C b * C b))) * (Mn 1 * Mn 1) := by grind
  rw [this, C_mulC, C_mulC, C_mulC, C_mulC, C_sumC, ← C_negC, C_sumC]
  have e1 : 1 / (a * a + b * b) * (a * a) + b * b / (a * a + b * b) = 1 := by grind
  have e2 : b * b / (a * a + b * b) + -(1 / (a * a + b * b) * (b * b)) = 0 := by grind
  rw [e1, e2, ← PS.one_eq]
  have c0 : C (0 : Rat) = 0 := PS.ext fun n => by rw [PS.C_c, PS.zero_c]; split <;> rfl
  rw [c0]; grind
def geo (h b : Rat) : Tw.PS := ⟨fun n => h * b ^ n⟩
def geo2 (h b : Rat) : Tw.PS := ⟨fun n => h * b ^ n * (1 + (n : Rat))⟩
def turnS (a b : Rat) : Tw.PS := ⟨fun n => if n % 4 = 0 then a else if n % 4 = 1 then b else if n % 4 = 2 then -a else -b⟩
theorem li_c0 (b : Rat) (f : Tw.PS) : (ps [1, -b] * f).c 0 = f.c 0 := by
  rw [ps_li, show (C 1 + C (-b) * Mn 1) * f = C 1 * f + C (-b) * (Mn 1 * f) from by grind, PS.add_c, PS.Cm_c, PS.Cm_c, Mn1_0]; grind
theorem li_cS (b : Rat) (f : Tw.PS) (n : Nat) : (ps [1, -b] * f).c (n + 1) = f.c (n + 1) - b * f.c n := by
  rw [ps_li, show (C 1 + C (-b) * Mn 1) * f = C 1 * f + C (-b) * (Mn 1 * f) from by grind, PS.add_c, PS.Cm_c, PS.Cm_c, Mn1_c]; grind
theorem geo_eq (h b : Rat) : ps [1, -b] * geo h b = ps [h] := PS.ext fun n => by
  rw [ps_one, PS.C_c]
  cases n with
  | zero => rw [li_c0, if_pos rfl]; show h * b ^ 0 = h; rw [Rat.pow_zero, Rat.mul_one]
  | succ n => rw [li_cS, if_neg (by omega)]; show h * b ^ (n + 1) - b * (h * b ^ n) = 0; rw [Rat.pow_succ]; grind
theorem geo2_eq (h b : Rat) : ps [1, -b] * geo2 h b = geo h b := PS.ext fun n => by
  cases n with
  | zero => rw [li_c0]; show h * b ^ 0 * (1 + ((0 : Nat) : Rat)) = h * b ^ 0; rw [show ((0 : Nat) : Rat) = 0 from rfl]; grind
  | succ n =>
    rw [li_cS]
    show h * b ^ (n + 1) * (1 + ((n + 1 : Nat) : Rat)) - b * (h * b ^ n * (1 + (n : Rat))) = h * b ^ (n + 1)
    rw [Rat.pow_succ, show ((n + 1 : Nat) : Rat) = (n : Rat) + 1 from by push_cast; rfl]; grind
theorem turn_eq (a b : Rat) : ps [1, 0, 1] * turnS a b = ps [a, b] := PS.ext fun n => by
  rw [ps_sqr, ps_li, show (1 + Mn 1 * Mn 1) * turnS a b = turnS a b + Mn 1 * (Mn 1 * turnS a b) from by grind, PS.add_c, PS.add_c, PS.C_c, PS.Cm_c]
  match n with
  | 0 => rw [Mn1_0]; show a + 0 = (if 0 = 0 then a else 0) + b * (if 0 = 1 then 1 else 0); (simp <;> grind)
  | 1 => rw [Mn1_c, Mn1_0]; show b + 0 = (if 1 = 0 then a else 0) + b * (if 1 = 1 then 1 else 0); (simp <;> grind)
  | n + 2 =>
    rw [Mn1_c, Mn1_c]
    show (if (n + 2) % 4 = 0 then a else if (n + 2) % 4 = 1 then b else if (n + 2) % 4 = 2 then -a else -b) + (if n % 4 = 0 then a else if n % 4 = 1 then b else if n % 4 = 2 then -a else -b) = (if n + 2 = 0 then a else 0) + b * (if n + 2 = 1 then 1 else 0)
    rw [if_neg (show ¬ n + 2 = 0 by omega), if_neg (show ¬ n + 2 = 1 by omega)]
    have h4 : n % 4 = 0 ∨ n % 4 = 1 ∨ n % 4 = 2 ∨ n % 4 = 3 := by omega
    rcases h4 with h | h | h | h
    · rw [show (n + 2) % 4 = 2 from by omega, h]; (simp <;> grind)
    · rw [show (n + 2) % 4 = 3 from by omega, h]; (simp <;> grind)
    · rw [show (n + 2) % 4 = 0 from by omega, h]; (simp <;> grind)
    · rw [show (n + 2) % 4 = 1 from by omega, h]; (simp <;> grind)
end Tw

namespace My
open PySem PySem.Spec PyProof.Rows L2 Tw
def topS (i : Nat) : Stmt := PySem.Challenge.pw_endtellers_k54_whole_cells_are_the_end.main.body.getD i (.Pass ⟨0, 0, 0, 0⟩)
theorem VIS {X : Cx} {x : Str} (h : Vis X.env.scope x := by first | exact Or.inl rfl | exact Or.inr (Or.inl rfl) | exact Or.inr (Or.inr rfl)) : Vis X.env.scope x := h

abbrev K_ZERO : T := (.tup [(.int 0), (.int 1)])
abbrev K_ONE : T := (.tup [(.int 1), (.int 1)])
abbrev K_LESS : T := (.tup [(.int (-1)), (.int 1)])
abbrev K_MOST_NUMBERS : T := (.int 13)
section
variable {P : Program}
variable {w : World}
variable {K : PySem.W.Frag}
variable {mg : Str → Option Value}
variable {base : Heap}
def p_is_whole : TF := fun ts Q => ∃ v, ts = [v] ∧ Q (.bl (isWhole v))
abbrev s_is_whole : Stmt := topS 6
abbrev N_is_whole : List Str := ["value"]
theorem sc_is_whole : FnScope N_is_whole ["value"] (defScope s_is_whole) := ⟨rfl, rfl, rfl, by decide +kernel, rfl, by decide +kernel, by decide +kernel⟩
theorem h_is_whole  (Se : Sees P base) (d : Def K mg "is_whole" s_is_whole ["value"]) (B : Bi mg) : Has P w K mg base "is_whole" ["value"] 41 p_is_whole := by
  have nd := sc_is_whole.nd
  refine has_T 40 (N := N_is_whole) [] Se d sc_is_whole (by decide) (fun ts Q h => ?_) rfl fun f cdv A outer s H E hr hp => ⟨_, (bs_one (st_ret (et_and (et_isi (n := "int") (by decide +kernel) (by rfl) (by exact B.n_isinstance) (by rfl) (by exact B.n_int) (by decide +kernel) (Ev 0)) (et_one (et_not (et_isi (n := "bool") (by decide +kernel) (by rfl) (by exact B.n_isinstance) (by rfl) (by exact B.n_bool) (by decide +kernel) (Ev 0))))))), fun ts Q h => ?_⟩
  · obtain ⟨v, rfl, _⟩ := h; rfl
  · obtain ⟨v, rfl, h⟩ := h
    cases v <;> simpa [Tw.sSeq, Tw.sRet, Tw.sRetN, Tw.sSet, Tw.sIf, Tw.sPut, Tw.sApp, Tw.sPop, Tw.sDrop, Tw.sAsg, Tw.sPar, Tw.sNext, Tw.sBreak, Tw.sCont, Tw.sFor, Tw.rVar, Tw.rC, Tw.rOp, Tw.rUn, Tw.rCall, Tw.rCons, Tw.rNil, Tw.rStar, Tw.rTup, Tw.rLst, Tw.rAnd, Tw.rOr, Tw.rNot, Tw.rIf, Tw.rPure, Tw.rChain, Tw.rCut, Tw.rCutF, Tw.rNoPart, Tw.rPart, Tw.rLc, Tw.bOp, Tw.bVal, Tw.bNot, Tw.bAnd, Tw.bOr, Tw.iSeq, Tw.iEnu, Tw.iRev, Tw.iZip, Tw.iRg1, Tw.iRg2, Tw.iRgD1, Tw.gN, Tw.oAdd, Tw.oSub, Tw.oLt, Tw.oLe, Tw.oGt, Tw.oGe, Tw.oMul, Tw.oFdiv, Tw.oMod, Tw.oPow, Tw.oGcd, Tw.oMax, Tw.oMin, Tw.oIx, Tw.oIs, Tw.oIsNot, Tw.isNon, Tw.uNeg, Tw.uLen, Tw.uAbs, Tw.uInt, Tw.uList, Tw.uTuple, Tw.uIsi, Tw.tyT, Tw.startT, Tw.wipeT, Tw.lim, Tw.gTups_tup, Tw.gConss_cons, Tw.gNils_nil, Tw.fMul, Tw.fAdd, Tw.fCut, Tw.sCut, Tw.oEq_int, Tw.oNe_int, Tw.oEqN_lst, Tw.oNeN_lst, Tw.oNeS_same, Tw.sPar3, Tw.rCallK, Tw.iRg3, Tw.oMulT, Tw.sSwap, Tw.sRetF, Tw.rCallF, Tw.rCutF, -Bool.exists_bool, isWhole] using h
def p_are_wholes : TF := fun ts Q => ∃ (v : T) (n : Int), ts = [v, .int n] ∧ v.sh = true ∧ Q (.bl (areWholes v n))
abbrev s_are_wholes : Stmt := topS 7
abbrev N_are_wholes : List Str := ["value", "many", "number"]
theorem sc_are_wholes : FnScope N_are_wholes ["value", "many"] (defScope s_are_wholes) := ⟨rfl, rfl, rfl, by decide +kernel, rfl, by decide +kernel, by decide +kernel⟩
theorem h_are_wholes (h_is_whole : Has P w K mg base "is_whole" ["value"] 41 p_is_whole) (Se : Sees P base) (d : Def K mg "are_wholes" s_are_wholes ["value", "many"]) (B : Bi mg) : Has P w K mg base "are_wholes" ["value", "many"] 42 p_are_wholes := by
  have nd := sc_are_wholes.nd
  refine has_T 41 (N := N_are_wholes) [] Se d sc_are_wholes (by decide) (fun ts Q h => ?_) rfl fun f cdv A outer s H E hr hp => ⟨_, (bs_one (st_ret (et_and (et_isi (n := "tuple") (by decide +kernel) (by rfl) (by exact B.n_isinstance) (by rfl) (by exact B.n_tuple) (by decide +kernel) (Ev 0)) (et_and (et_cmp (o_eq hr.units) (et_b1 b_len (by rfl) (by exact B.n_len) (by decide +kernel) (Ev 0)) (Ev 1) (nomark _)) (et_one (et_b1 (b_all rfl) (by rfl) (by exact B.n_all) (by decide +kernel) (et_lc rfl nd (ic_s (Ev 0)) (blkOk_by (own := [("number", 2)]) (N := N_are_wholes) (sc := defScope s_are_wholes) (by decide +kernel)) (fun _ _ _ _ _ => (Gn 2 nd)) (fun _ _ _ _ _ => ts_nil) (fun _ _ _ _ _ => (Ec h_is_whole (hr.mono (by decide)) (at_cons (Ev 2) at_nil)))))))))), fun ts Q h => ?_⟩
  · obtain ⟨v, n, rfl, _⟩ := h; rfl
  · obtain ⟨v, n, rfl, hs, h⟩ := h
    cases v with
    | tup ts =>
      simp only [T.sh, Bool.and_eq_true, decide_eq_true_eq] at hs
      simp [Tw.sSeq, Tw.sRet, Tw.sRetN, Tw.sSet, Tw.sIf, Tw.sPut, Tw.sApp, Tw.sPop, Tw.sDrop, Tw.sAsg, Tw.sPar, Tw.sNext, Tw.sBreak, Tw.sCont, Tw.sFor, Tw.rVar, Tw.rC, Tw.rOp, Tw.rUn, Tw.rCall, Tw.rCons, Tw.rNil, Tw.rStar, Tw.rTup, Tw.rLst, Tw.rAnd, Tw.rOr, Tw.rNot, Tw.rIf, Tw.rPure, Tw.rChain, Tw.rCut, Tw.rCutF, Tw.rNoPart, Tw.rPart, Tw.rLc, Tw.bOp, Tw.bVal, Tw.bNot, Tw.bAnd, Tw.bOr, Tw.iSeq, Tw.iEnu, Tw.iRev, Tw.iZip, Tw.iRg1, Tw.iRg2, Tw.iRgD1, Tw.gN, Tw.oAdd, Tw.oSub, Tw.oLt, Tw.oLe, Tw.oGt, Tw.oGe, Tw.oMul, Tw.oFdiv, Tw.oMod, Tw.oPow, Tw.oGcd, Tw.oMax, Tw.oMin, Tw.oIx, Tw.oIs, Tw.oIsNot, Tw.isNon, Tw.uNeg, Tw.uLen, Tw.uAbs, Tw.uInt, Tw.uList, Tw.uTuple, Tw.uIsi, Tw.tyT, Tw.startT, Tw.wipeT, Tw.lim, Tw.gTups_tup, Tw.gConss_cons, Tw.gNils_nil, Tw.fMul, Tw.fAdd, Tw.fCut, Tw.sCut, Tw.oEq_int, Tw.oNe_int, Tw.oEqN_lst, Tw.oNeN_lst, Tw.oNeS_same, Tw.sPar3, Tw.rCallK, Tw.iRg3, Tw.oMulT, Tw.sSwap, Tw.sRetF, Tw.rCallF, Tw.rCutF, -Bool.exists_bool, oEq, eqT_int, eqOk_int, uAll]
      by_cases e : (ts.length : Int) = n
      · rw [if_pos e]
        refine ⟨hs.1, wLc_map (fun t => .bl (isWhole t)) ts [] _ (fun t _ Q' hq => ?_) ?_⟩
        · exact ⟨t, by simp, t, rfl, hq⟩
        · refine ⟨ts.map isWhole, by simp [List.map_map, Function.comp_def], ?_⟩
          simpa [areWholes, e, List.all_map, Function.comp_def] using h
      · rw [if_neg e]
        simpa [areWholes, e] using h
    | _ => simpa [Tw.sSeq, Tw.sRet, Tw.sRetN, Tw.sSet, Tw.sIf, Tw.sPut, Tw.sApp, Tw.sPop, Tw.sDrop, Tw.sAsg, Tw.sPar, Tw.sNext, Tw.sBreak, Tw.sCont, Tw.sFor, Tw.rVar, Tw.rC, Tw.rOp, Tw.rUn, Tw.rCall, Tw.rCons, Tw.rNil, Tw.rStar, Tw.rTup, Tw.rLst, Tw.rAnd, Tw.rOr, Tw.rNot, Tw.rIf, Tw.rPure, Tw.rChain, Tw.rCut, Tw.rCutF, Tw.rNoPart, Tw.rPart, Tw.rLc, Tw.bOp, Tw.bVal, Tw.bNot, Tw.bAnd, Tw.bOr, Tw.iSeq, Tw.iEnu, Tw.iRev, Tw.iZip, Tw.iRg1, Tw.iRg2, Tw.iRgD1, Tw.gN, Tw.oAdd, Tw.oSub, Tw.oLt, Tw.oLe, Tw.oGt, Tw.oGe, Tw.oMul, Tw.oFdiv, Tw.oMod, Tw.oPow, Tw.oGcd, Tw.oMax, Tw.oMin, Tw.oIx, Tw.oIs, Tw.oIsNot, Tw.isNon, Tw.uNeg, Tw.uLen, Tw.uAbs, Tw.uInt, Tw.uList, Tw.uTuple, Tw.uIsi, Tw.tyT, Tw.startT, Tw.wipeT, Tw.lim, Tw.gTups_tup, Tw.gConss_cons, Tw.gNils_nil, Tw.fMul, Tw.fAdd, Tw.fCut, Tw.sCut, Tw.oEq_int, Tw.oNe_int, Tw.oEqN_lst, Tw.oNeN_lst, Tw.oNeS_same, Tw.sPar3, Tw.rCallK, Tw.iRg3, Tw.oMulT, Tw.sSwap, Tw.sRetF, Tw.rCallF, Tw.rCutF, -Bool.exists_bool, areWholes] using h
def p_is_between : TF := fun ts Q => ∃ (v : T) (lo hi : Int), ts = [v, .int lo, .int hi] ∧ Q (.bl (isBetween v lo hi))
abbrev s_is_between : Stmt := topS 8
abbrev N_is_between : List Str := ["value", "low", "high"]
theorem sc_is_between : FnScope N_is_between ["value", "low", "high"] (defScope s_is_between) := ⟨rfl, rfl, rfl, by decide +kernel, rfl, by decide +kernel, by decide +kernel⟩
theorem h_is_between (h_is_whole : Has P w K mg base "is_whole" ["value"] 41 p_is_whole) (Se : Sees P base) (d : Def K mg "is_between" s_is_between ["value", "low", "high"]) (B : Bi mg) : Has P w K mg base "is_between" ["value", "low", "high"] 42 p_is_between := by
  have nd := sc_is_between.nd
  refine has_T 41 (N := N_is_between) [] Se d sc_is_between (by decide) (fun ts Q h => ?_) rfl fun f cdv A outer s H E hr hp => ⟨_, (bs_one (st_ret (et_and (Ec h_is_whole (hr.mono (by decide)) (at_cons (Ev 0) at_nil)) (et_one (et_chain o_le o_le (Ev 1) (Ev 0) (Ev 2)))))), fun ts Q h => ?_⟩
  · obtain ⟨v, lo, hi, rfl, _⟩ := h; rfl
  · obtain ⟨v, lo, hi, rfl, h⟩ := h
    simp [Tw.sSeq, Tw.sRet, Tw.sRetN, Tw.sSet, Tw.sIf, Tw.sPut, Tw.sApp, Tw.sPop, Tw.sDrop, Tw.sAsg, Tw.sPar, Tw.sNext, Tw.sBreak, Tw.sCont, Tw.sFor, Tw.rVar, Tw.rC, Tw.rOp, Tw.rUn, Tw.rCall, Tw.rCons, Tw.rNil, Tw.rStar, Tw.rTup, Tw.rLst, Tw.rAnd, Tw.rOr, Tw.rNot, Tw.rIf, Tw.rPure, Tw.rChain, Tw.rCut, Tw.rCutF, Tw.rNoPart, Tw.rPart, Tw.rLc, Tw.bOp, Tw.bVal, Tw.bNot, Tw.bAnd, Tw.bOr, Tw.iSeq, Tw.iEnu, Tw.iRev, Tw.iZip, Tw.iRg1, Tw.iRg2, Tw.iRgD1, Tw.gN, Tw.oAdd, Tw.oSub, Tw.oLt, Tw.oLe, Tw.oGt, Tw.oGe, Tw.oMul, Tw.oFdiv, Tw.oMod, Tw.oPow, Tw.oGcd, Tw.oMax, Tw.oMin, Tw.oIx, Tw.oIs, Tw.oIsNot, Tw.isNon, Tw.uNeg, Tw.uLen, Tw.uAbs, Tw.uInt, Tw.uList, Tw.uTuple, Tw.uIsi, Tw.tyT, Tw.startT, Tw.wipeT, Tw.lim, Tw.gTups_tup, Tw.gConss_cons, Tw.gNils_nil, Tw.fMul, Tw.fAdd, Tw.fCut, Tw.sCut, Tw.oEq_int, Tw.oNe_int, Tw.oEqN_lst, Tw.oNeN_lst, Tw.oNeS_same, Tw.sPar3, Tw.rCallK, Tw.iRg3, Tw.oMulT, Tw.sSwap, Tw.sRetF, Tw.rCallF, Tw.rCutF, -Bool.exists_bool]
    cases v <;> simp [Tw.sSeq, Tw.sRet, Tw.sRetN, Tw.sSet, Tw.sIf, Tw.sPut, Tw.sApp, Tw.sPop, Tw.sDrop, Tw.sAsg, Tw.sPar, Tw.sNext, Tw.sBreak, Tw.sCont, Tw.sFor, Tw.rVar, Tw.rC, Tw.rOp, Tw.rUn, Tw.rCall, Tw.rCons, Tw.rNil, Tw.rStar, Tw.rTup, Tw.rLst, Tw.rAnd, Tw.rOr, Tw.rNot, Tw.rIf, Tw.rPure, Tw.rChain, Tw.rCut, Tw.rCutF, Tw.rNoPart, Tw.rPart, Tw.rLc, Tw.bOp, Tw.bVal, Tw.bNot, Tw.bAnd, Tw.bOr, Tw.iSeq, Tw.iEnu, Tw.iRev, Tw.iZip, Tw.iRg1, Tw.iRg2, Tw.iRgD1, Tw.gN, Tw.oAdd, Tw.oSub, Tw.oLt, Tw.oLe, Tw.oGt, Tw.oGe, Tw.oMul, Tw.oFdiv, Tw.oMod, Tw.oPow, Tw.oGcd, Tw.oMax, Tw.oMin, Tw.oIx, Tw.oIs, Tw.oIsNot, Tw.isNon, Tw.uNeg, Tw.uLen, Tw.uAbs, Tw.uInt, Tw.uList, Tw.uTuple, Tw.uIsi, Tw.tyT, Tw.startT, Tw.wipeT, Tw.lim, Tw.gTups_tup, Tw.gConss_cons, Tw.gNils_nil, Tw.fMul, Tw.fAdd, Tw.fCut, Tw.sCut, Tw.oEq_int, Tw.oNe_int, Tw.oEqN_lst, Tw.oNeN_lst, Tw.oNeS_same, Tw.sPar3, Tw.rCallK, Tw.iRg3, Tw.oMulT, Tw.sSwap, Tw.sRetF, Tw.rCallF, Tw.rCutF, -Bool.exists_bool, p_is_whole, isWhole, isBetween] at h ⊢ <;> try exact h
    rename_i i
    by_cases hl : lo ≤ i
    · simpa [hl] using h
    · simpa [hl] using h
def p_divisor_of : TF := fun ts Q => ∃ ns : List Int, ts = [.tup (ns.map .int)] ∧ Q (.int (gcdL ns 0))
theorem divisor_loop : ∀ (ns : List Int) (g : Nat) (v y : Option T) (D : EndsT), (∀ y', D.nx [v, some (.int (gcdL ns g)), y']) → wLoop (gN 2) (sSet 1 (rOp oGcd (rVar 1) (rVar 2))) D (ns.map T.int) [v, some (.int g), y]
  | [], g, v, y, D, h => h y
  | n :: ns, g, v, y, D, h => by
    have := divisor_loop ns (Nat.gcd g n.natAbs) v (some (.int n)) D h
    simpa [wLoop, Tw.sSeq, Tw.sRet, Tw.sRetN, Tw.sSet, Tw.sIf, Tw.sPut, Tw.sApp, Tw.sPop, Tw.sDrop, Tw.sAsg, Tw.sPar, Tw.sNext, Tw.sBreak, Tw.sCont, Tw.sFor, Tw.rVar, Tw.rC, Tw.rOp, Tw.rUn, Tw.rCall, Tw.rCons, Tw.rNil, Tw.rStar, Tw.rTup, Tw.rLst, Tw.rAnd, Tw.rOr, Tw.rNot, Tw.rIf, Tw.rPure, Tw.rChain, Tw.rCut, Tw.rCutF, Tw.rNoPart, Tw.rPart, Tw.rLc, Tw.bOp, Tw.bVal, Tw.bNot, Tw.bAnd, Tw.bOr, Tw.iSeq, Tw.iEnu, Tw.iRev, Tw.iZip, Tw.iRg1, Tw.iRg2, Tw.iRgD1, Tw.gN, Tw.oAdd, Tw.oSub, Tw.oLt, Tw.oLe, Tw.oGt, Tw.oGe, Tw.oMul, Tw.oFdiv, Tw.oMod, Tw.oPow, Tw.oGcd, Tw.oMax, Tw.oMin, Tw.oIx, Tw.oIs, Tw.oIsNot, Tw.isNon, Tw.uNeg, Tw.uLen, Tw.uAbs, Tw.uInt, Tw.uList, Tw.uTuple, Tw.uIsi, Tw.tyT, Tw.startT, Tw.wipeT, Tw.lim, Tw.gTups_tup, Tw.gConss_cons, Tw.gNils_nil, Tw.fMul, Tw.fAdd, Tw.fCut, Tw.sCut, Tw.oEq_int, Tw.oNe_int, Tw.oEqN_lst, Tw.oNeN_lst, Tw.oNeS_same, Tw.sPar3, Tw.rCallK, Tw.iRg3, Tw.oMulT, Tw.sSwap, Tw.sRetF, Tw.rCallF, Tw.rCutF, -Bool.exists_bool] using this
abbrev s_divisor_of : Stmt := topS 9
abbrev N_divisor_of : List Str := ["numbers", "found", "number"]
theorem sc_divisor_of : FnScope N_divisor_of ["numbers"] (defScope s_divisor_of) := ⟨rfl, rfl, rfl, by decide +kernel, rfl, by decide +kernel, by decide +kernel⟩
theorem h_divisor_of  (Se : Sees P base) (d : Def K mg "divisor_of" s_divisor_of ["numbers"]) (B : Bi mg) : Has P w K mg base "divisor_of" ["numbers"] 41 p_divisor_of := by
  have nd := sc_divisor_of.nd
  refine has_T 40 (N := N_divisor_of) [] Se d sc_divisor_of (by decide) (fun ts Q h => ?_) rfl fun f cdv A outer s H E hr hp => ⟨_, (bs_cons (Sset 1 nd et_int)
      (bs_cons (st_for PassesOwn.never rfl (it_s (Ev 0)) (Gn 2 nd)
      (bs_one (Sset 1 nd (et_g2 b_gcd (by rfl) (by exact B.n_gcd) (Ev 1) (Ev 2)))))
      (bs_one (st_ret (Ev 1))))), fun ts Q h => ?_⟩
  · obtain ⟨v, rfl, _⟩ := h; rfl
  · obtain ⟨ns, rfl, h⟩ := h
    simp [Tw.sSeq, Tw.sRet, Tw.sRetN, Tw.sSet, Tw.sIf, Tw.sPut, Tw.sApp, Tw.sPop, Tw.sDrop, Tw.sAsg, Tw.sPar, Tw.sNext, Tw.sBreak, Tw.sCont, Tw.sFor, Tw.rVar, Tw.rC, Tw.rOp, Tw.rUn, Tw.rCall, Tw.rCons, Tw.rNil, Tw.rStar, Tw.rTup, Tw.rLst, Tw.rAnd, Tw.rOr, Tw.rNot, Tw.rIf, Tw.rPure, Tw.rChain, Tw.rCut, Tw.rCutF, Tw.rNoPart, Tw.rPart, Tw.rLc, Tw.bOp, Tw.bVal, Tw.bNot, Tw.bAnd, Tw.bOr, Tw.iSeq, Tw.iEnu, Tw.iRev, Tw.iZip, Tw.iRg1, Tw.iRg2, Tw.iRgD1, Tw.gN, Tw.oAdd, Tw.oSub, Tw.oLt, Tw.oLe, Tw.oGt, Tw.oGe, Tw.oMul, Tw.oFdiv, Tw.oMod, Tw.oPow, Tw.oGcd, Tw.oMax, Tw.oMin, Tw.oIx, Tw.oIs, Tw.oIsNot, Tw.isNon, Tw.uNeg, Tw.uLen, Tw.uAbs, Tw.uInt, Tw.uList, Tw.uTuple, Tw.uIsi, Tw.tyT, Tw.startT, Tw.wipeT, Tw.lim, Tw.gTups_tup, Tw.gConss_cons, Tw.gNils_nil, Tw.fMul, Tw.fAdd, Tw.fCut, Tw.sCut, Tw.oEq_int, Tw.oNe_int, Tw.oEqN_lst, Tw.oNeN_lst, Tw.oNeS_same, Tw.sPar3, Tw.rCallK, Tw.iRg3, Tw.oMulT, Tw.sSwap, Tw.sRetF, Tw.rCallF, Tw.rCutF, -Bool.exists_bool]
    exact divisor_loop ns 0 _ _ _ fun y' => by simpa [Tw.sSeq, Tw.sRet, Tw.sRetN, Tw.sSet, Tw.sIf, Tw.sPut, Tw.sApp, Tw.sPop, Tw.sDrop, Tw.sAsg, Tw.sPar, Tw.sNext, Tw.sBreak, Tw.sCont, Tw.sFor, Tw.rVar, Tw.rC, Tw.rOp, Tw.rUn, Tw.rCall, Tw.rCons, Tw.rNil, Tw.rStar, Tw.rTup, Tw.rLst, Tw.rAnd, Tw.rOr, Tw.rNot, Tw.rIf, Tw.rPure, Tw.rChain, Tw.rCut, Tw.rCutF, Tw.rNoPart, Tw.rPart, Tw.rLc, Tw.bOp, Tw.bVal, Tw.bNot, Tw.bAnd, Tw.bOr, Tw.iSeq, Tw.iEnu, Tw.iRev, Tw.iZip, Tw.iRg1, Tw.iRg2, Tw.iRgD1, Tw.gN, Tw.oAdd, Tw.oSub, Tw.oLt, Tw.oLe, Tw.oGt, Tw.oGe, Tw.oMul, Tw.oFdiv, Tw.oMod, Tw.oPow, Tw.oGcd, Tw.oMax, Tw.oMin, Tw.oIx, Tw.oIs, Tw.oIsNot, Tw.isNon, Tw.uNeg, Tw.uLen, Tw.uAbs, Tw.uInt, Tw.uList, Tw.uTuple, Tw.uIsi, Tw.tyT, Tw.startT, Tw.wipeT, Tw.lim, Tw.gTups_tup, Tw.gConss_cons, Tw.gNils_nil, Tw.fMul, Tw.fAdd, Tw.fCut, Tw.sCut, Tw.oEq_int, Tw.oNe_int, Tw.oEqN_lst, Tw.oNeN_lst, Tw.oNeS_same, Tw.sPar3, Tw.rCallK, Tw.iRg3, Tw.oMulT, Tw.sSwap, Tw.sRetF, Tw.rCallF, Tw.rCutF, -Bool.exists_bool] using h
def p_is_reduced : TF := fun ts Q => ∃ ns : List Int, ts = [.tup (ns.map .int)] ∧ Q (.bl (decide (gcdL ns 0 = 1)))
abbrev s_is_reduced : Stmt := topS 10
abbrev N_is_reduced : List Str := ["numbers"]
theorem sc_is_reduced : FnScope N_is_reduced ["numbers"] (defScope s_is_reduced) := ⟨rfl, rfl, rfl, by decide +kernel, rfl, by decide +kernel, by decide +kernel⟩
theorem h_is_reduced (h_divisor_of : Has P w K mg base "divisor_of" ["numbers"] 41 p_divisor_of) (Se : Sees P base) (d : Def K mg "is_reduced" s_is_reduced ["numbers"]) (B : Bi mg) : Has P w K mg base "is_reduced" ["numbers"] 42 p_is_reduced := by
  have nd := sc_is_reduced.nd
  refine has_T 41 (N := N_is_reduced) [] Se d sc_is_reduced (by decide) (fun ts Q h => ?_) rfl fun f cdv A outer s H E hr hp => ⟨_, (bs_one (st_ret (et_cmp (o_eq hr.units) (Ec h_divisor_of (hr.mono (by decide)) (at_cons (Ev 0) at_nil)) et_int (nomark _)))), fun ts Q h => ?_⟩
  · obtain ⟨v, rfl, _⟩ := h; rfl
  · obtain ⟨ns, rfl, h⟩ := h
    simp [Tw.sSeq, Tw.sRet, Tw.sRetN, Tw.sSet, Tw.sIf, Tw.sPut, Tw.sApp, Tw.sPop, Tw.sDrop, Tw.sAsg, Tw.sPar, Tw.sNext, Tw.sBreak, Tw.sCont, Tw.sFor, Tw.rVar, Tw.rC, Tw.rOp, Tw.rUn, Tw.rCall, Tw.rCons, Tw.rNil, Tw.rStar, Tw.rTup, Tw.rLst, Tw.rAnd, Tw.rOr, Tw.rNot, Tw.rIf, Tw.rPure, Tw.rChain, Tw.rCut, Tw.rCutF, Tw.rNoPart, Tw.rPart, Tw.rLc, Tw.bOp, Tw.bVal, Tw.bNot, Tw.bAnd, Tw.bOr, Tw.iSeq, Tw.iEnu, Tw.iRev, Tw.iZip, Tw.iRg1, Tw.iRg2, Tw.iRgD1, Tw.gN, Tw.oAdd, Tw.oSub, Tw.oLt, Tw.oLe, Tw.oGt, Tw.oGe, Tw.oMul, Tw.oFdiv, Tw.oMod, Tw.oPow, Tw.oGcd, Tw.oMax, Tw.oMin, Tw.oIx, Tw.oIs, Tw.oIsNot, Tw.isNon, Tw.uNeg, Tw.uLen, Tw.uAbs, Tw.uInt, Tw.uList, Tw.uTuple, Tw.uIsi, Tw.tyT, Tw.startT, Tw.wipeT, Tw.lim, Tw.gTups_tup, Tw.gConss_cons, Tw.gNils_nil, Tw.fMul, Tw.fAdd, Tw.fCut, Tw.sCut, Tw.oEq_int, Tw.oNe_int, Tw.oEqN_lst, Tw.oNeN_lst, Tw.oNeS_same, Tw.sPar3, Tw.rCallK, Tw.iRg3, Tw.oMulT, Tw.sSwap, Tw.sRetF, Tw.rCallF, Tw.rCutF, -Bool.exists_bool, oEq]
    refine ⟨ns, rfl, eqOk_int _ _, ?_⟩
    rw [eqT_int]
    have e : decide (((gcdL ns 0 : Nat) : Int) = 1) = decide (gcdL ns 0 = 1) := by simp only [decide_eq_decide]; omega
    rw [e]
    exact h
def p_is_ratio : TF := fun ts Q => ∃ v : T, ts = [v] ∧ v.sh = true ∧ Q (.bl (Tw.isQ v))
theorem isQ_two {ts : List T} (h : areWholes (.tup ts) 2 = true) : ∃ n d : Int, ts = [.int n, .int d] := by
  match ts, h with
  | [.int n, .int d], _ => exact ⟨n, d, rfl⟩
  | [], h => simp [areWholes] at h
  | [a], h => simp [areWholes] at h
  | a :: b :: c :: r, h => simp [areWholes] at h; omega
  | [a, b], h =>
    cases a <;> simp [areWholes, isWhole] at h
    cases b <;> simp [areWholes, isWhole] at h
    exact ⟨_, _, rfl⟩
abbrev s_is_ratio : Stmt := topS 14
abbrev N_is_ratio : List Str := ["value"]
theorem sc_is_ratio : FnScope N_is_ratio ["value"] (defScope s_is_ratio) := ⟨rfl, rfl, rfl, by decide +kernel, rfl, by decide +kernel, by decide +kernel⟩
theorem h_is_ratio (h_is_reduced : Has P w K mg base "is_reduced" ["numbers"] 42 p_is_reduced) (h_are_wholes : Has P w K mg base "are_wholes" ["value", "many"] 42 p_are_wholes) (Se : Sees P base) (d : Def K mg "is_ratio" s_is_ratio ["value"]) (B : Bi mg) : Has P w K mg base "is_ratio" ["value"] 43 p_is_ratio := by
  have nd := sc_is_ratio.nd
  refine has_T 42 (N := N_is_ratio) [] Se d sc_is_ratio (by decide) (fun ts Q h => ?_) rfl fun f cdv A outer s H E hr hp => ⟨_, (bs_one (st_ret (et_and (Ec h_are_wholes (hr.mono (by decide)) (at_cons (Ev 0) (at_cons et_int at_nil))) (et_and (et_cmp o_gt (et_ix (Ev 0) et_int (fun _ _ => rfl)) et_int (nomark _)) (et_one (Ec h_is_reduced (hr.mono (by decide)) (at_cons (Ev 0) at_nil))))))), fun ts Q h => ?_⟩
  · obtain ⟨v, rfl, _⟩ := h; rfl
  · obtain ⟨v, rfl, hs, h⟩ := h
    simp [Tw.sSeq, Tw.sRet, Tw.sRetN, Tw.sSet, Tw.sIf, Tw.sPut, Tw.sApp, Tw.sPop, Tw.sDrop, Tw.sAsg, Tw.sPar, Tw.sNext, Tw.sBreak, Tw.sCont, Tw.sFor, Tw.rVar, Tw.rC, Tw.rOp, Tw.rUn, Tw.rCall, Tw.rCons, Tw.rNil, Tw.rStar, Tw.rTup, Tw.rLst, Tw.rAnd, Tw.rOr, Tw.rNot, Tw.rIf, Tw.rPure, Tw.rChain, Tw.rCut, Tw.rCutF, Tw.rNoPart, Tw.rPart, Tw.rLc, Tw.bOp, Tw.bVal, Tw.bNot, Tw.bAnd, Tw.bOr, Tw.iSeq, Tw.iEnu, Tw.iRev, Tw.iZip, Tw.iRg1, Tw.iRg2, Tw.iRgD1, Tw.gN, Tw.oAdd, Tw.oSub, Tw.oLt, Tw.oLe, Tw.oGt, Tw.oGe, Tw.oMul, Tw.oFdiv, Tw.oMod, Tw.oPow, Tw.oGcd, Tw.oMax, Tw.oMin, Tw.oIx, Tw.oIs, Tw.oIsNot, Tw.isNon, Tw.uNeg, Tw.uLen, Tw.uAbs, Tw.uInt, Tw.uList, Tw.uTuple, Tw.uIsi, Tw.tyT, Tw.startT, Tw.wipeT, Tw.lim, Tw.gTups_tup, Tw.gConss_cons, Tw.gNils_nil, Tw.fMul, Tw.fAdd, Tw.fCut, Tw.sCut, Tw.oEq_int, Tw.oNe_int, Tw.oEqN_lst, Tw.oNeN_lst, Tw.oNeS_same, Tw.sPar3, Tw.rCallK, Tw.iRg3, Tw.oMulT, Tw.sSwap, Tw.sRetF, Tw.rCallF, Tw.rCutF, -Bool.exists_bool]
    refine ⟨v, 2, rfl, hs, _, rfl, ?_⟩
    by_cases e : areWholes v 2 = true
    · rw [if_pos e]
      cases v with
      | tup ts =>
        obtain ⟨n, d, rfl⟩ := isQ_two e
        simp [Tw.sSeq, Tw.sRet, Tw.sRetN, Tw.sSet, Tw.sIf, Tw.sPut, Tw.sApp, Tw.sPop, Tw.sDrop, Tw.sAsg, Tw.sPar, Tw.sNext, Tw.sBreak, Tw.sCont, Tw.sFor, Tw.rVar, Tw.rC, Tw.rOp, Tw.rUn, Tw.rCall, Tw.rCons, Tw.rNil, Tw.rStar, Tw.rTup, Tw.rLst, Tw.rAnd, Tw.rOr, Tw.rNot, Tw.rIf, Tw.rPure, Tw.rChain, Tw.rCut, Tw.rCutF, Tw.rNoPart, Tw.rPart, Tw.rLc, Tw.bOp, Tw.bVal, Tw.bNot, Tw.bAnd, Tw.bOr, Tw.iSeq, Tw.iEnu, Tw.iRev, Tw.iZip, Tw.iRg1, Tw.iRg2, Tw.iRgD1, Tw.gN, Tw.oAdd, Tw.oSub, Tw.oLt, Tw.oLe, Tw.oGt, Tw.oGe, Tw.oMul, Tw.oFdiv, Tw.oMod, Tw.oPow, Tw.oGcd, Tw.oMax, Tw.oMin, Tw.oIx, Tw.oIs, Tw.oIsNot, Tw.isNon, Tw.uNeg, Tw.uLen, Tw.uAbs, Tw.uInt, Tw.uList, Tw.uTuple, Tw.uIsi, Tw.tyT, Tw.startT, Tw.wipeT, Tw.lim, Tw.gTups_tup, Tw.gConss_cons, Tw.gNils_nil, Tw.fMul, Tw.fAdd, Tw.fCut, Tw.sCut, Tw.oEq_int, Tw.oNe_int, Tw.oEqN_lst, Tw.oNeN_lst, Tw.oNeS_same, Tw.sPar3, Tw.rCallK, Tw.iRg3, Tw.oMulT, Tw.sSwap, Tw.sRetF, Tw.rCallF, Tw.rCutF, -Bool.exists_bool, atI, ixN]
        by_cases hd : 0 < d
        · rw [if_pos hd]
          refine ⟨[n, d], rfl, ?_⟩
          have e : decide (n.natAbs.gcd d.natAbs = 1) = (n.natAbs.gcd d.natAbs == 1) := by
            rw [Bool.eq_iff_iff]
            simp
          have h2 : Q (T.bl (decide (n.natAbs.gcd d.natAbs = 1))) := by
            rw [e]
            simpa [Tw.isQ, hd] using h
          simpa [gcdL] using h2
        · rw [if_neg hd]
          simpa [Tw.isQ, hd] using h
      | _ => simp [areWholes] at e
    · rw [if_neg e]
      have e2 : Tw.isQ v = false := by
        cases q : Tw.isQ v with
        | false => rfl
        | true =>
          obtain ⟨x, rfl⟩ := isQ_ex q
          exact absurd rfl e
      rw [e2] at h
      exact h
def p_ratio_with : TF := fun ts Q => ∃ n d : Int, ts = [.int n, .int d] ∧ d ≠ 0 ∧ Q (tQ (Rat.divInt n d))
abbrev s_ratio_with : Stmt := topS 15
abbrev N_ratio_with : List Str := ["number", "under", "part"]
theorem sc_ratio_with : FnScope N_ratio_with ["number", "under"] (defScope s_ratio_with) := ⟨rfl, rfl, rfl, by decide +kernel, rfl, by decide +kernel, by decide +kernel⟩
theorem h_ratio_with (h_divisor_of : Has P w K mg base "divisor_of" ["numbers"] 41 p_divisor_of) (Se : Sees P base) (d : Def K mg "ratio_with" s_ratio_with ["number", "under"]) (B : Bi mg) : Has P w K mg base "ratio_with" ["number", "under"] 42 p_ratio_with := by
  have nd := sc_ratio_with.nd
  refine has_T 41 (N := N_ratio_with) [] Se d sc_ratio_with (by decide) (fun ts Q h => ?_) rfl fun f cdv A outer s H E hr hp => ⟨_, (bs_cons (Sset 2 nd (Ec h_divisor_of (hr.mono (by decide)) (at_cons (et_tup (at_cons (Ev 0) (at_cons (Ev 1) at_nil))) at_nil)))
      (bs_cons (Sset 2 nd (et_if (bt_cmp o_gt (Ev 1) et_int (nomark _)) (Ev 2) (et_neg (Ev 2))))
      (bs_one (st_ret (et_tup (at_cons (et_op (o_fdiv hp) (Ev 0) (Ev 2)) (at_cons (et_op (o_fdiv hp) (Ev 1) (Ev 2)) at_nil))))))), fun ts Q h => ?_⟩
  · obtain ⟨v, n, rfl, _⟩ := h; rfl
  · obtain ⟨n, d, rfl, h0, h⟩ := h
    simp [Tw.sSeq, Tw.sRet, Tw.sRetN, Tw.sSet, Tw.sIf, Tw.sPut, Tw.sApp, Tw.sPop, Tw.sDrop, Tw.sAsg, Tw.sPar, Tw.sNext, Tw.sBreak, Tw.sCont, Tw.sFor, Tw.rVar, Tw.rC, Tw.rOp, Tw.rUn, Tw.rCall, Tw.rCons, Tw.rNil, Tw.rStar, Tw.rTup, Tw.rLst, Tw.rAnd, Tw.rOr, Tw.rNot, Tw.rIf, Tw.rPure, Tw.rChain, Tw.rCut, Tw.rCutF, Tw.rNoPart, Tw.rPart, Tw.rLc, Tw.bOp, Tw.bVal, Tw.bNot, Tw.bAnd, Tw.bOr, Tw.iSeq, Tw.iEnu, Tw.iRev, Tw.iZip, Tw.iRg1, Tw.iRg2, Tw.iRgD1, Tw.gN, Tw.oAdd, Tw.oSub, Tw.oLt, Tw.oLe, Tw.oGt, Tw.oGe, Tw.oMul, Tw.oFdiv, Tw.oMod, Tw.oPow, Tw.oGcd, Tw.oMax, Tw.oMin, Tw.oIx, Tw.oIs, Tw.oIsNot, Tw.isNon, Tw.uNeg, Tw.uLen, Tw.uAbs, Tw.uInt, Tw.uList, Tw.uTuple, Tw.uIsi, Tw.tyT, Tw.startT, Tw.wipeT, Tw.lim, Tw.gTups_tup, Tw.gConss_cons, Tw.gNils_nil, Tw.fMul, Tw.fAdd, Tw.fCut, Tw.sCut, Tw.oEq_int, Tw.oNe_int, Tw.oEqN_lst, Tw.oNeN_lst, Tw.oNeS_same, Tw.sPar3, Tw.rCallK, Tw.iRg3, Tw.oMulT, Tw.sSwap, Tw.sRetF, Tw.rCallF, Tw.rCutF, -Bool.exists_bool]
    have g0 : n.natAbs.gcd d.natAbs ≠ 0 := fun z => h0 (Int.natAbs_eq_zero.mp (Nat.eq_zero_of_gcd_eq_zero_right z))
    refine ⟨[n, d], rfl, ?_⟩
    rw [← parts_of n d h0] at h
    by_cases hd : 0 < d
    · rw [if_pos hd] at h
      simp [gcdL, Tw.sSeq, Tw.sRet, Tw.sRetN, Tw.sSet, Tw.sIf, Tw.sPut, Tw.sApp, Tw.sPop, Tw.sDrop, Tw.sAsg, Tw.sPar, Tw.sNext, Tw.sBreak, Tw.sCont, Tw.sFor, Tw.rVar, Tw.rC, Tw.rOp, Tw.rUn, Tw.rCall, Tw.rCons, Tw.rNil, Tw.rStar, Tw.rTup, Tw.rLst, Tw.rAnd, Tw.rOr, Tw.rNot, Tw.rIf, Tw.rPure, Tw.rChain, Tw.rCut, Tw.rCutF, Tw.rNoPart, Tw.rPart, Tw.rLc, Tw.bOp, Tw.bVal, Tw.bNot, Tw.bAnd, Tw.bOr, Tw.iSeq, Tw.iEnu, Tw.iRev, Tw.iZip, Tw.iRg1, Tw.iRg2, Tw.iRgD1, Tw.gN, Tw.oAdd, Tw.oSub, Tw.oLt, Tw.oLe, Tw.oGt, Tw.oGe, Tw.oMul, Tw.oFdiv, Tw.oMod, Tw.oPow, Tw.oGcd, Tw.oMax, Tw.oMin, Tw.oIx, Tw.oIs, Tw.oIsNot, Tw.isNon, Tw.uNeg, Tw.uLen, Tw.uAbs, Tw.uInt, Tw.uList, Tw.uTuple, Tw.uIsi, Tw.tyT, Tw.startT, Tw.wipeT, Tw.lim, Tw.gTups_tup, Tw.gConss_cons, Tw.gNils_nil, Tw.fMul, Tw.fAdd, Tw.fCut, Tw.sCut, Tw.oEq_int, Tw.oNe_int, Tw.oEqN_lst, Tw.oNeN_lst, Tw.oNeS_same, Tw.sPar3, Tw.rCallK, Tw.iRg3, Tw.oMulT, Tw.sSwap, Tw.sRetF, Tw.rCallF, Tw.rCutF, -Bool.exists_bool, hd]
      exact ⟨divOk (by omega), divOk (by omega), h⟩
    · rw [if_neg hd] at h
      simp [gcdL, Tw.sSeq, Tw.sRet, Tw.sRetN, Tw.sSet, Tw.sIf, Tw.sPut, Tw.sApp, Tw.sPop, Tw.sDrop, Tw.sAsg, Tw.sPar, Tw.sNext, Tw.sBreak, Tw.sCont, Tw.sFor, Tw.rVar, Tw.rC, Tw.rOp, Tw.rUn, Tw.rCall, Tw.rCons, Tw.rNil, Tw.rStar, Tw.rTup, Tw.rLst, Tw.rAnd, Tw.rOr, Tw.rNot, Tw.rIf, Tw.rPure, Tw.rChain, Tw.rCut, Tw.rCutF, Tw.rNoPart, Tw.rPart, Tw.rLc, Tw.bOp, Tw.bVal, Tw.bNot, Tw.bAnd, Tw.bOr, Tw.iSeq, Tw.iEnu, Tw.iRev, Tw.iZip, Tw.iRg1, Tw.iRg2, Tw.iRgD1, Tw.gN, Tw.oAdd, Tw.oSub, Tw.oLt, Tw.oLe, Tw.oGt, Tw.oGe, Tw.oMul, Tw.oFdiv, Tw.oMod, Tw.oPow, Tw.oGcd, Tw.oMax, Tw.oMin, Tw.oIx, Tw.oIs, Tw.oIsNot, Tw.isNon, Tw.uNeg, Tw.uLen, Tw.uAbs, Tw.uInt, Tw.uList, Tw.uTuple, Tw.uIsi, Tw.tyT, Tw.startT, Tw.wipeT, Tw.lim, Tw.gTups_tup, Tw.gConss_cons, Tw.gNils_nil, Tw.fMul, Tw.fAdd, Tw.fCut, Tw.sCut, Tw.oEq_int, Tw.oNe_int, Tw.oEqN_lst, Tw.oNeN_lst, Tw.oNeS_same, Tw.sPar3, Tw.rCallK, Tw.iRg3, Tw.oMulT, Tw.sSwap, Tw.sRetF, Tw.rCallF, Tw.rCutF, -Bool.exists_bool, hd]
      exact ⟨divOk (by omega), divOk (by omega), h⟩
def p_ratio_less : TF := fun ts Q => ∃ x y : Rat, ts = [tQ x, tQ y] ∧ Sz 40000000 x ∧ Sz 40000000 y ∧ Q (tQ (x - y))
abbrev s_ratio_less : Stmt := topS 16
abbrev N_ratio_less : List Str := ["one", "two"]
theorem sc_ratio_less : FnScope N_ratio_less ["one", "two"] (defScope s_ratio_less) := ⟨rfl, rfl, rfl, by decide +kernel, rfl, by decide +kernel, by decide +kernel⟩
theorem h_ratio_less (h_ratio_with : Has P w K mg base "ratio_with" ["number", "under"] 42 p_ratio_with) (Se : Sees P base) (d : Def K mg "ratio_less" s_ratio_less ["one", "two"]) (B : Bi mg) : Has P w K mg base "ratio_less" ["one", "two"] 43 p_ratio_less := by
  have nd := sc_ratio_less.nd
  refine has_T 42 (N := N_ratio_less) [] Se d sc_ratio_less (by decide) (fun ts Q h => ?_) rfl fun f cdv A outer s H E hr hp => ⟨_, (bs_one (st_ret (Ec h_ratio_with (hr.mono (by decide)) (at_cons (et_op o_sub (et_op o_mul (et_ix (Ev 0) et_int (fun _ _ => rfl)) (et_ix (Ev 1) et_int (fun _ _ => rfl))) (et_op o_mul (et_ix (Ev 1) et_int (fun _ _ => rfl)) (et_ix (Ev 0) et_int (fun _ _ => rfl)))) (at_cons (et_op o_mul (et_ix (Ev 0) et_int (fun _ _ => rfl)) (et_ix (Ev 1) et_int (fun _ _ => rfl))) at_nil))))), fun ts Q h => ?_⟩
  · obtain ⟨v, n, rfl, _⟩ := h; rfl
  · obtain ⟨x, y, rfl, hx, hy, h⟩ := h
    simp [Tw.sSeq, Tw.sRet, Tw.sRetN, Tw.sSet, Tw.sIf, Tw.sPut, Tw.sApp, Tw.sPop, Tw.sDrop, Tw.sAsg, Tw.sPar, Tw.sNext, Tw.sBreak, Tw.sCont, Tw.sFor, Tw.rVar, Tw.rC, Tw.rOp, Tw.rUn, Tw.rCall, Tw.rCons, Tw.rNil, Tw.rStar, Tw.rTup, Tw.rLst, Tw.rAnd, Tw.rOr, Tw.rNot, Tw.rIf, Tw.rPure, Tw.rChain, Tw.rCut, Tw.rCutF, Tw.rNoPart, Tw.rPart, Tw.rLc, Tw.bOp, Tw.bVal, Tw.bNot, Tw.bAnd, Tw.bOr, Tw.iSeq, Tw.iEnu, Tw.iRev, Tw.iZip, Tw.iRg1, Tw.iRg2, Tw.iRgD1, Tw.gN, Tw.oAdd, Tw.oSub, Tw.oLt, Tw.oLe, Tw.oGt, Tw.oGe, Tw.oMul, Tw.oFdiv, Tw.oMod, Tw.oPow, Tw.oGcd, Tw.oMax, Tw.oMin, Tw.oIx, Tw.oIs, Tw.oIsNot, Tw.isNon, Tw.uNeg, Tw.uLen, Tw.uAbs, Tw.uInt, Tw.uList, Tw.uTuple, Tw.uIsi, Tw.tyT, Tw.startT, Tw.wipeT, Tw.lim, Tw.gTups_tup, Tw.gConss_cons, Tw.gNils_nil, Tw.fMul, Tw.fAdd, Tw.fCut, Tw.sCut, Tw.oEq_int, Tw.oNe_int, Tw.oEqN_lst, Tw.oNeN_lst, Tw.oNeS_same, Tw.sPar3, Tw.rCallK, Tw.iRg3, Tw.oMulT, Tw.sSwap, Tw.sRetF, Tw.rCallF, Tw.rCutF, -Bool.exists_bool, tQ, atI, ixN]
    refine ⟨mulOk hx.n hy.den, mulOk hy.n hx.den, mulOk hx.den hy.den, _, _, rfl, den_ne x y, ?_⟩
    rw [sub_divInt]
    exact h
def p_ratio_product : TF := fun ts Q => ∃ x y : Rat, ts = [tQ x, tQ y] ∧ Sz 40000000 x ∧ Sz 40000000 y ∧ Q (tQ (x * y))
abbrev s_ratio_product : Stmt := topS 17
abbrev N_ratio_product : List Str := ["one", "two"]
theorem sc_ratio_product : FnScope N_ratio_product ["one", "two"] (defScope s_ratio_product) := ⟨rfl, rfl, rfl, by decide +kernel, rfl, by decide +kernel, by decide +kernel⟩
theorem h_ratio_product (h_ratio_with : Has P w K mg base "ratio_with" ["number", "under"] 42 p_ratio_with) (Se : Sees P base) (d : Def K mg "ratio_product" s_ratio_product ["one", "two"]) (B : Bi mg) : Has P w K mg base "ratio_product" ["one", "two"] 43 p_ratio_product := by
  have nd := sc_ratio_product.nd
  refine has_T 42 (N := N_ratio_product) [] Se d sc_ratio_product (by decide) (fun ts Q h => ?_) rfl fun f cdv A outer s H E hr hp => ⟨_, (bs_one (st_ret (Ec h_ratio_with (hr.mono (by decide)) (at_cons (et_op o_mul (et_ix (Ev 0) et_int (fun _ _ => rfl)) (et_ix (Ev 1) et_int (fun _ _ => rfl))) (at_cons (et_op o_mul (et_ix (Ev 0) et_int (fun _ _ => rfl)) (et_ix (Ev 1) et_int (fun _ _ => rfl))) at_nil))))), fun ts Q h => ?_⟩
  · obtain ⟨v, n, rfl, _⟩ := h; rfl
  · obtain ⟨x, y, rfl, hx, hy, h⟩ := h
    simp [Tw.sSeq, Tw.sRet, Tw.sRetN, Tw.sSet, Tw.sIf, Tw.sPut, Tw.sApp, Tw.sPop, Tw.sDrop, Tw.sAsg, Tw.sPar, Tw.sNext, Tw.sBreak, Tw.sCont, Tw.sFor, Tw.rVar, Tw.rC, Tw.rOp, Tw.rUn, Tw.rCall, Tw.rCons, Tw.rNil, Tw.rStar, Tw.rTup, Tw.rLst, Tw.rAnd, Tw.rOr, Tw.rNot, Tw.rIf, Tw.rPure, Tw.rChain, Tw.rCut, Tw.rCutF, Tw.rNoPart, Tw.rPart, Tw.rLc, Tw.bOp, Tw.bVal, Tw.bNot, Tw.bAnd, Tw.bOr, Tw.iSeq, Tw.iEnu, Tw.iRev, Tw.iZip, Tw.iRg1, Tw.iRg2, Tw.iRgD1, Tw.gN, Tw.oAdd, Tw.oSub, Tw.oLt, Tw.oLe, Tw.oGt, Tw.oGe, Tw.oMul, Tw.oFdiv, Tw.oMod, Tw.oPow, Tw.oGcd, Tw.oMax, Tw.oMin, Tw.oIx, Tw.oIs, Tw.oIsNot, Tw.isNon, Tw.uNeg, Tw.uLen, Tw.uAbs, Tw.uInt, Tw.uList, Tw.uTuple, Tw.uIsi, Tw.tyT, Tw.startT, Tw.wipeT, Tw.lim, Tw.gTups_tup, Tw.gConss_cons, Tw.gNils_nil, Tw.fMul, Tw.fAdd, Tw.fCut, Tw.sCut, Tw.oEq_int, Tw.oNe_int, Tw.oEqN_lst, Tw.oNeN_lst, Tw.oNeS_same, Tw.sPar3, Tw.rCallK, Tw.iRg3, Tw.oMulT, Tw.sSwap, Tw.sRetF, Tw.rCallF, Tw.rCutF, -Bool.exists_bool, tQ, atI, ixN]
    refine ⟨mulOk hx.n hy.n, mulOk hx.den hy.den, _, _, rfl, den_ne x y, ?_⟩
    rw [mul_divInt]
    exact h
def p_ratio_over : TF := fun ts Q => ∃ x y : Rat, ts = [tQ x, tQ y] ∧ y ≠ 0 ∧ Sz 40000000 x ∧ Sz 40000000 y ∧ Q (tQ (x / y))
abbrev s_ratio_over : Stmt := topS 18
abbrev N_ratio_over : List Str := ["one", "two"]
theorem sc_ratio_over : FnScope N_ratio_over ["one", "two"] (defScope s_ratio_over) := ⟨rfl, rfl, rfl, by decide +kernel, rfl, by decide +kernel, by decide +kernel⟩
theorem h_ratio_over (h_ratio_with : Has P w K mg base "ratio_with" ["number", "under"] 42 p_ratio_with) (Se : Sees P base) (d : Def K mg "ratio_over" s_ratio_over ["one", "two"]) (B : Bi mg) : Has P w K mg base "ratio_over" ["one", "two"] 43 p_ratio_over := by
  have nd := sc_ratio_over.nd
  refine has_T 42 (N := N_ratio_over) [] Se d sc_ratio_over (by decide) (fun ts Q h => ?_) rfl fun f cdv A outer s H E hr hp => ⟨_, (bs_one (st_ret (Ec h_ratio_with (hr.mono (by decide)) (at_cons (et_op o_mul (et_ix (Ev 0) et_int (fun _ _ => rfl)) (et_ix (Ev 1) et_int (fun _ _ => rfl))) (at_cons (et_op o_mul (et_ix (Ev 0) et_int (fun _ _ => rfl)) (et_ix (Ev 1) et_int (fun _ _ => rfl))) at_nil))))), fun ts Q h => ?_⟩
  · obtain ⟨v, n, rfl, _⟩ := h; rfl
  · obtain ⟨x, y, rfl, h0, hx, hy, h⟩ := h
    simp [Tw.sSeq, Tw.sRet, Tw.sRetN, Tw.sSet, Tw.sIf, Tw.sPut, Tw.sApp, Tw.sPop, Tw.sDrop, Tw.sAsg, Tw.sPar, Tw.sNext, Tw.sBreak, Tw.sCont, Tw.sFor, Tw.rVar, Tw.rC, Tw.rOp, Tw.rUn, Tw.rCall, Tw.rCons, Tw.rNil, Tw.rStar, Tw.rTup, Tw.rLst, Tw.rAnd, Tw.rOr, Tw.rNot, Tw.rIf, Tw.rPure, Tw.rChain, Tw.rCut, Tw.rCutF, Tw.rNoPart, Tw.rPart, Tw.rLc, Tw.bOp, Tw.bVal, Tw.bNot, Tw.bAnd, Tw.bOr, Tw.iSeq, Tw.iEnu, Tw.iRev, Tw.iZip, Tw.iRg1, Tw.iRg2, Tw.iRgD1, Tw.gN, Tw.oAdd, Tw.oSub, Tw.oLt, Tw.oLe, Tw.oGt, Tw.oGe, Tw.oMul, Tw.oFdiv, Tw.oMod, Tw.oPow, Tw.oGcd, Tw.oMax, Tw.oMin, Tw.oIx, Tw.oIs, Tw.oIsNot, Tw.isNon, Tw.uNeg, Tw.uLen, Tw.uAbs, Tw.uInt, Tw.uList, Tw.uTuple, Tw.uIsi, Tw.tyT, Tw.startT, Tw.wipeT, Tw.lim, Tw.gTups_tup, Tw.gConss_cons, Tw.gNils_nil, Tw.fMul, Tw.fAdd, Tw.fCut, Tw.sCut, Tw.oEq_int, Tw.oNe_int, Tw.oEqN_lst, Tw.oNeN_lst, Tw.oNeS_same, Tw.sPar3, Tw.rCallK, Tw.iRg3, Tw.oMulT, Tw.sSwap, Tw.sRetF, Tw.rCallF, Tw.rCutF, -Bool.exists_bool, tQ, atI, ixN]
    refine ⟨mulOk hx.n hy.den, mulOk hx.den hy.n, _, _, rfl, over_ne h0, ?_⟩
    rw [over_divInt _ h0]
    exact h
def p_row_less : TF := fun ts Q => ∃ (p q : List Rat), ts = [tP p, tP q] ∧ p.length = q.length ∧ SzL 40000000 p ∧ SzL 40000000 q ∧ p.length ≤ 1000 ∧ Q (tP (List.zipWith (fun x y => x - y) p q))
abbrev s_row_less : Stmt := topS 20
abbrev N_row_less : List Str := ["row", "other", "one", "two"]
theorem sc_row_less : FnScope N_row_less ["row", "other"] (defScope s_row_less) := ⟨rfl, rfl, rfl, by decide +kernel, rfl, by decide +kernel, by decide +kernel⟩
theorem h_row_less (h_ratio_less : Has P w K mg base "ratio_less" ["one", "two"] 43 p_ratio_less) (Se : Sees P base) (d : Def K mg "row_less" s_row_less ["row", "other"]) (B : Bi mg) : Has P w K mg base "row_less" ["row", "other"] 44 p_row_less := by
  have nd := sc_row_less.nd
  refine has_T 43 (N := N_row_less) [] Se d sc_row_less (by decide) (fun ts Q h => ?_) rfl fun f cdv A outer s H E hr hp => ⟨_, (bs_one (st_ret (et_t1 t_tuple (by rfl) (by exact B.n_tuple) (by decide +kernel) (et_lc rfl nd (ic_z (by rfl) (by exact B.n_zip) (Ev 0) (Ev 1)) (blkOk_by (own := [("one", 2), ("two", 3)]) (N := N_row_less) (sc := defScope s_row_less) (by decide +kernel)) (fun _ _ _ _ _ => (gt_tup (n := 2) rfl (gt_cons (Gn 2 nd) (gt_cons (Gn 3 nd) gt_nil)))) (fun _ _ _ _ _ => ts_nil) (fun _ _ _ _ _ => (Ec h_ratio_less (hr.mono (by decide)) (at_cons (Ev 2) (at_cons (Ev 3) at_nil)))))))), fun ts Q h => ?_⟩
  · obtain ⟨p, q, rfl, _⟩ := h; rfl
  · obtain ⟨p, q, rfl, hl, hp, hq, hl2, h⟩ := h
    simp [Tw.sSeq, Tw.sRet, Tw.sRetN, Tw.sSet, Tw.sIf, Tw.sPut, Tw.sApp, Tw.sPop, Tw.sDrop, Tw.sAsg, Tw.sPar, Tw.sNext, Tw.sBreak, Tw.sCont, Tw.sFor, Tw.rVar, Tw.rC, Tw.rOp, Tw.rUn, Tw.rCall, Tw.rCons, Tw.rNil, Tw.rStar, Tw.rTup, Tw.rLst, Tw.rAnd, Tw.rOr, Tw.rNot, Tw.rIf, Tw.rPure, Tw.rChain, Tw.rCut, Tw.rCutF, Tw.rNoPart, Tw.rPart, Tw.rLc, Tw.bOp, Tw.bVal, Tw.bNot, Tw.bAnd, Tw.bOr, Tw.iSeq, Tw.iEnu, Tw.iRev, Tw.iZip, Tw.iRg1, Tw.iRg2, Tw.iRgD1, Tw.gN, Tw.oAdd, Tw.oSub, Tw.oLt, Tw.oLe, Tw.oGt, Tw.oGe, Tw.oMul, Tw.oFdiv, Tw.oMod, Tw.oPow, Tw.oGcd, Tw.oMax, Tw.oMin, Tw.oIx, Tw.oIs, Tw.oIsNot, Tw.isNon, Tw.uNeg, Tw.uLen, Tw.uAbs, Tw.uInt, Tw.uList, Tw.uTuple, Tw.uIsi, Tw.tyT, Tw.startT, Tw.wipeT, Tw.lim, Tw.gTups_tup, Tw.gConss_cons, Tw.gNils_nil, Tw.fMul, Tw.fAdd, Tw.fCut, Tw.sCut, Tw.oEq_int, Tw.oNe_int, Tw.oEqN_lst, Tw.oNeN_lst, Tw.oNeS_same, Tw.sPar3, Tw.rCallK, Tw.iRg3, Tw.oMulT, Tw.sSwap, Tw.sRetF, Tw.rCallF, Tw.rCutF, -Bool.exists_bool, tP, tQs_len]
    refine ⟨by rw [ziT_len, tQs_len]; omega, wLc_Qs2 (fun x y => x - y) p q [] _ (fun x y m1 m2 Q' hq2 => ?_) ?_⟩
    · simp [Tw.sSeq, Tw.sRet, Tw.sRetN, Tw.sSet, Tw.sIf, Tw.sPut, Tw.sApp, Tw.sPop, Tw.sDrop, Tw.sAsg, Tw.sPar, Tw.sNext, Tw.sBreak, Tw.sCont, Tw.sFor, Tw.rVar, Tw.rC, Tw.rOp, Tw.rUn, Tw.rCall, Tw.rCons, Tw.rNil, Tw.rStar, Tw.rTup, Tw.rLst, Tw.rAnd, Tw.rOr, Tw.rNot, Tw.rIf, Tw.rPure, Tw.rChain, Tw.rCut, Tw.rCutF, Tw.rNoPart, Tw.rPart, Tw.rLc, Tw.bOp, Tw.bVal, Tw.bNot, Tw.bAnd, Tw.bOr, Tw.iSeq, Tw.iEnu, Tw.iRev, Tw.iZip, Tw.iRg1, Tw.iRg2, Tw.iRgD1, Tw.gN, Tw.oAdd, Tw.oSub, Tw.oLt, Tw.oLe, Tw.oGt, Tw.oGe, Tw.oMul, Tw.oFdiv, Tw.oMod, Tw.oPow, Tw.oGcd, Tw.oMax, Tw.oMin, Tw.oIx, Tw.oIs, Tw.oIsNot, Tw.isNon, Tw.uNeg, Tw.uLen, Tw.uAbs, Tw.uInt, Tw.uList, Tw.uTuple, Tw.uIsi, Tw.tyT, Tw.startT, Tw.wipeT, Tw.lim, Tw.gTups_tup, Tw.gConss_cons, Tw.gNils_nil, Tw.fMul, Tw.fAdd, Tw.fCut, Tw.sCut, Tw.oEq_int, Tw.oNe_int, Tw.oEqN_lst, Tw.oNeN_lst, Tw.oNeS_same, Tw.sPar3, Tw.rCallK, Tw.iRg3, Tw.oMulT, Tw.sSwap, Tw.sRetF, Tw.rCallF, Tw.rCutF, -Bool.exists_bool]
      exact ⟨x, y, rfl, hp x m1, hq y m2, hq2⟩
    · simp [Tw.sSeq, Tw.sRet, Tw.sRetN, Tw.sSet, Tw.sIf, Tw.sPut, Tw.sApp, Tw.sPop, Tw.sDrop, Tw.sAsg, Tw.sPar, Tw.sNext, Tw.sBreak, Tw.sCont, Tw.sFor, Tw.rVar, Tw.rC, Tw.rOp, Tw.rUn, Tw.rCall, Tw.rCons, Tw.rNil, Tw.rStar, Tw.rTup, Tw.rLst, Tw.rAnd, Tw.rOr, Tw.rNot, Tw.rIf, Tw.rPure, Tw.rChain, Tw.rCut, Tw.rCutF, Tw.rNoPart, Tw.rPart, Tw.rLc, Tw.bOp, Tw.bVal, Tw.bNot, Tw.bAnd, Tw.bOr, Tw.iSeq, Tw.iEnu, Tw.iRev, Tw.iZip, Tw.iRg1, Tw.iRg2, Tw.iRgD1, Tw.gN, Tw.oAdd, Tw.oSub, Tw.oLt, Tw.oLe, Tw.oGt, Tw.oGe, Tw.oMul, Tw.oFdiv, Tw.oMod, Tw.oPow, Tw.oGcd, Tw.oMax, Tw.oMin, Tw.oIx, Tw.oIs, Tw.oIsNot, Tw.isNon, Tw.uNeg, Tw.uLen, Tw.uAbs, Tw.uInt, Tw.uList, Tw.uTuple, Tw.uIsi, Tw.tyT, Tw.startT, Tw.wipeT, Tw.lim, Tw.gTups_tup, Tw.gConss_cons, Tw.gNils_nil, Tw.fMul, Tw.fAdd, Tw.fCut, Tw.sCut, Tw.oEq_int, Tw.oNe_int, Tw.oEqN_lst, Tw.oNeN_lst, Tw.oNeS_same, Tw.sPar3, Tw.rCallK, Tw.iRg3, Tw.oMulT, Tw.sSwap, Tw.sRetF, Tw.rCallF, Tw.rCutF, -Bool.exists_bool]
      exact h
def p_row_scaled : TF := fun ts Q => ∃ (p : List Rat) (x : Rat), ts = [tP p, tQ x] ∧ SzL 40000000 p ∧ Sz 40000000 x ∧ p.length ≤ 1000 ∧ Q (tP (p.map (· * x)))
abbrev s_row_scaled : Stmt := topS 21
abbrev N_row_scaled : List Str := ["row", "number", "each"]
theorem sc_row_scaled : FnScope N_row_scaled ["row", "number"] (defScope s_row_scaled) := ⟨rfl, rfl, rfl, by decide +kernel, rfl, by decide +kernel, by decide +kernel⟩
theorem h_row_scaled (h_ratio_product : Has P w K mg base "ratio_product" ["one", "two"] 43 p_ratio_product) (Se : Sees P base) (d : Def K mg "row_scaled" s_row_scaled ["row", "number"]) (B : Bi mg) : Has P w K mg base "row_scaled" ["row", "number"] 44 p_row_scaled := by
  have nd := sc_row_scaled.nd
  refine has_T 43 (N := N_row_scaled) [] Se d sc_row_scaled (by decide) (fun ts Q h => ?_) rfl fun f cdv A outer s H E hr hp => ⟨_, (bs_one (st_ret (et_t1 t_tuple (by rfl) (by exact B.n_tuple) (by decide +kernel) (et_lc rfl nd (ic_s (Ev 0)) (blkOk_by (own := [("each", 2)]) (N := N_row_scaled) (sc := defScope s_row_scaled) (by decide +kernel)) (fun _ _ _ _ _ => (Gn 2 nd)) (fun _ _ _ _ _ => ts_nil) (fun _ _ _ _ _ => (Ec h_ratio_product (hr.mono (by decide)) (at_cons (Ev 2) (at_cons (Ev 1) at_nil)))))))), fun ts Q h => ?_⟩
  · obtain ⟨p, x, rfl, _⟩ := h; rfl
  · obtain ⟨p, x, rfl, hp, hx, hl, h⟩ := h
    simp [Tw.sSeq, Tw.sRet, Tw.sRetN, Tw.sSet, Tw.sIf, Tw.sPut, Tw.sApp, Tw.sPop, Tw.sDrop, Tw.sAsg, Tw.sPar, Tw.sNext, Tw.sBreak, Tw.sCont, Tw.sFor, Tw.rVar, Tw.rC, Tw.rOp, Tw.rUn, Tw.rCall, Tw.rCons, Tw.rNil, Tw.rStar, Tw.rTup, Tw.rLst, Tw.rAnd, Tw.rOr, Tw.rNot, Tw.rIf, Tw.rPure, Tw.rChain, Tw.rCut, Tw.rCutF, Tw.rNoPart, Tw.rPart, Tw.rLc, Tw.bOp, Tw.bVal, Tw.bNot, Tw.bAnd, Tw.bOr, Tw.iSeq, Tw.iEnu, Tw.iRev, Tw.iZip, Tw.iRg1, Tw.iRg2, Tw.iRgD1, Tw.gN, Tw.oAdd, Tw.oSub, Tw.oLt, Tw.oLe, Tw.oGt, Tw.oGe, Tw.oMul, Tw.oFdiv, Tw.oMod, Tw.oPow, Tw.oGcd, Tw.oMax, Tw.oMin, Tw.oIx, Tw.oIs, Tw.oIsNot, Tw.isNon, Tw.uNeg, Tw.uLen, Tw.uAbs, Tw.uInt, Tw.uList, Tw.uTuple, Tw.uIsi, Tw.tyT, Tw.startT, Tw.wipeT, Tw.lim, Tw.gTups_tup, Tw.gConss_cons, Tw.gNils_nil, Tw.fMul, Tw.fAdd, Tw.fCut, Tw.sCut, Tw.oEq_int, Tw.oNe_int, Tw.oEqN_lst, Tw.oNeN_lst, Tw.oNeS_same, Tw.sPar3, Tw.rCallK, Tw.iRg3, Tw.oMulT, Tw.sSwap, Tw.sRetF, Tw.rCallF, Tw.rCutF, -Bool.exists_bool, tP, tQs_len]
    refine ⟨by omega, wLc_Qs (fun y => y * x) p [] _ (fun y m Q' hq => ?_) ?_⟩
    · simp [Tw.sSeq, Tw.sRet, Tw.sRetN, Tw.sSet, Tw.sIf, Tw.sPut, Tw.sApp, Tw.sPop, Tw.sDrop, Tw.sAsg, Tw.sPar, Tw.sNext, Tw.sBreak, Tw.sCont, Tw.sFor, Tw.rVar, Tw.rC, Tw.rOp, Tw.rUn, Tw.rCall, Tw.rCons, Tw.rNil, Tw.rStar, Tw.rTup, Tw.rLst, Tw.rAnd, Tw.rOr, Tw.rNot, Tw.rIf, Tw.rPure, Tw.rChain, Tw.rCut, Tw.rCutF, Tw.rNoPart, Tw.rPart, Tw.rLc, Tw.bOp, Tw.bVal, Tw.bNot, Tw.bAnd, Tw.bOr, Tw.iSeq, Tw.iEnu, Tw.iRev, Tw.iZip, Tw.iRg1, Tw.iRg2, Tw.iRgD1, Tw.gN, Tw.oAdd, Tw.oSub, Tw.oLt, Tw.oLe, Tw.oGt, Tw.oGe, Tw.oMul, Tw.oFdiv, Tw.oMod, Tw.oPow, Tw.oGcd, Tw.oMax, Tw.oMin, Tw.oIx, Tw.oIs, Tw.oIsNot, Tw.isNon, Tw.uNeg, Tw.uLen, Tw.uAbs, Tw.uInt, Tw.uList, Tw.uTuple, Tw.uIsi, Tw.tyT, Tw.startT, Tw.wipeT, Tw.lim, Tw.gTups_tup, Tw.gConss_cons, Tw.gNils_nil, Tw.fMul, Tw.fAdd, Tw.fCut, Tw.sCut, Tw.oEq_int, Tw.oNe_int, Tw.oEqN_lst, Tw.oNeN_lst, Tw.oNeS_same, Tw.sPar3, Tw.rCallK, Tw.iRg3, Tw.oMulT, Tw.sSwap, Tw.sRetF, Tw.rCallF, Tw.rCutF, -Bool.exists_bool]
      exact ⟨y, x, rfl, hp y m, hx, hq⟩
    · simp [Tw.sSeq, Tw.sRet, Tw.sRetN, Tw.sSet, Tw.sIf, Tw.sPut, Tw.sApp, Tw.sPop, Tw.sDrop, Tw.sAsg, Tw.sPar, Tw.sNext, Tw.sBreak, Tw.sCont, Tw.sFor, Tw.rVar, Tw.rC, Tw.rOp, Tw.rUn, Tw.rCall, Tw.rCons, Tw.rNil, Tw.rStar, Tw.rTup, Tw.rLst, Tw.rAnd, Tw.rOr, Tw.rNot, Tw.rIf, Tw.rPure, Tw.rChain, Tw.rCut, Tw.rCutF, Tw.rNoPart, Tw.rPart, Tw.rLc, Tw.bOp, Tw.bVal, Tw.bNot, Tw.bAnd, Tw.bOr, Tw.iSeq, Tw.iEnu, Tw.iRev, Tw.iZip, Tw.iRg1, Tw.iRg2, Tw.iRgD1, Tw.gN, Tw.oAdd, Tw.oSub, Tw.oLt, Tw.oLe, Tw.oGt, Tw.oGe, Tw.oMul, Tw.oFdiv, Tw.oMod, Tw.oPow, Tw.oGcd, Tw.oMax, Tw.oMin, Tw.oIx, Tw.oIs, Tw.oIsNot, Tw.isNon, Tw.uNeg, Tw.uLen, Tw.uAbs, Tw.uInt, Tw.uList, Tw.uTuple, Tw.uIsi, Tw.tyT, Tw.startT, Tw.wipeT, Tw.lim, Tw.gTups_tup, Tw.gConss_cons, Tw.gNils_nil, Tw.fMul, Tw.fAdd, Tw.fCut, Tw.sCut, Tw.oEq_int, Tw.oNe_int, Tw.oEqN_lst, Tw.oNeN_lst, Tw.oNeS_same, Tw.sPar3, Tw.rCallK, Tw.iRg3, Tw.oMulT, Tw.sSwap, Tw.sRetF, Tw.rCallF, Tw.rCutF, -Bool.exists_bool]
      exact h
def p_stairs : TF := fun ts Q => ∃ (F : Mx) (m n b : Nat), (ts = [lM F, .int m] ∨ ts = [tM F, .int m]) ∧ Wd n F ∧ m ≤ n ∧ n ≤ 100 ∧ F.length ≤ 100 ∧ SzM b F ∧ 4 ^ (min F.length m) * (b + 1) ≤ 10000000 ∧
  (SzM (4 ^ (min F.length m) * (b + 1)) (stairsE m 0 F []).1 → Q (.tup [lM (stairsE m 0 F []).1, .lst (tN (stairsE m 0 F []).2)]))
abbrev s_stairs : Stmt := topS 22
abbrev N_stairs : List Str := ["rows", "many", "column", "found", "steps", "here", "place", "lead", "row", "at"]
theorem sc_stairs : FnScope N_stairs ["rows", "many"] (defScope s_stairs) := ⟨rfl, rfl, rfl, by decide +kernel, rfl, by decide +kernel, by decide +kernel⟩
theorem h_stairs (h_row_scaled : Has P w K mg base "row_scaled" ["row", "number"] 44 p_row_scaled) (h_ratio_over : Has P w K mg base "ratio_over" ["one", "two"] 43 p_ratio_over) (h_row_less : Has P w K mg base "row_less" ["row", "other"] 44 p_row_less) (c_ONE : KCs K mg "ONE" K_ONE) (c_ZERO : KCs K mg "ZERO" K_ZERO) (Se : Sees P base) (d : Def K mg "stairs" s_stairs ["rows", "many"]) (B : Bi mg) : Has P w K mg base "stairs" ["rows", "many"] 45 p_stairs := by
  have nd := sc_stairs.nd
  refine has_T 44 (N := N_stairs) [3, 4] Se d sc_stairs (by decide) (fun ts Q h => ?_) rfl fun f cdv A outer s H E hr hp => ⟨_, (bs_cons (st_asgFF 3 4 rfl nd (ef_lc rfl nd (ic_s (Ev 0)) (blkOk_by (own := [("row", 8)]) (N := N_stairs) (sc := defScope s_stairs) (by decide +kernel)) (fun _ _ _ _ _ => (Gn 8 nd)) (fun _ _ _ _ _ => ts_nil) (fun _ _ _ _ _ => (et_t1 t_tuple (by rfl) (by exact B.n_tuple) (by decide +kernel) (Ev 8)))) (ef_lst at_nil))
      (bs_cons (st_for PassesOwn.never rfl (it_r1 (by rfl) (by exact B.n_range) (Ev 1)) (Gn 2 nd)
      (bs_cons (st_lc 5 rfl nd rfl rfl (sw_true rfl rfl rfl (by decide +kernel)) (ic_r2 (by rfl) (by exact B.n_range) (et_b1 b_len (by rfl) (by exact B.n_len) (by decide +kernel) (Eo 4)) (et_b1 b_len (by rfl) (by exact B.n_len) (by decide +kernel) (Eo 3))) (blkOk_by (own := [("at", 9)]) (N := N_stairs) (sc := defScope s_stairs) (by decide +kernel)) (fun _ _ _ _ _ => (Gn 9 nd)) (fun _ _ _ _ _ => (ts_one (bt_cmp (o_ne hr.units) (et_ix (et_ix (Eo 3) (Ev 9) (fun _ _ => rfl)) (Ev 2) (fun _ _ => rfl)) (Eg c_ZERO) (nomark _)))) (fun _ _ _ _ _ => (Ev 9)))
      (bs_one (st_if (bt_cmp (o_neN hr.units) (Ev 5) (et_lst at_nil) (nomark _))
      (bs_cons (Sset 6 nd (et_b1 b_len (by rfl) (by exact B.n_len) (by decide +kernel) (Eo 4)))
      (bs_cons (st_swap 3 rfl rfl VIS rfl (Ev 6) (et_ix (Ev 5) et_int (fun _ _ => rfl)) (et_ix (Eo 3) (et_ix (Ev 5) et_int (fun _ _ => rfl)) (fun _ _ => rfl)) (et_ix (Eo 3) (Ev 6) (fun _ _ => rfl)))
      (bs_cons (Sset 7 nd (Ec h_row_scaled (hr.mono (by decide)) (at_cons (et_ix (Eo 3) (Ev 6) (fun _ _ => rfl)) (at_cons (Ec h_ratio_over (hr.mono (by decide)) (at_cons (Eg c_ONE) (at_cons (et_ix (et_ix (Eo 3) (Ev 6) (fun _ _ => rfl)) (Ev 2) (fun _ _ => rfl)) at_nil))) at_nil))))
      (bs_cons (SsetF 3 nd (ef_lc rfl nd (ic_s (Eo 3)) (blkOk_by (own := [("row", 8)]) (N := N_stairs) (sc := defScope s_stairs) (by decide +kernel)) (fun _ _ _ _ _ => (Gn 8 nd)) (fun _ _ _ _ _ => ts_nil) (fun _ _ _ _ _ => (Ec h_row_less (hr.mono (by decide)) (at_cons (Ev 8) (at_cons (Ec h_row_scaled (hr.mono (by decide)) (at_cons (Ev 7) (at_cons (et_ix (Ev 8) (Ev 2) (fun _ _ => rfl)) at_nil))) at_nil))))))
      (bs_cons (st_put 3 rfl VIS rfl (Ev 6) (Ev 7))
      (bs_one (st_app 4 rfl VIS rfl (Ev 2))))))))
      bs_nil))))
      (bs_one (st_ret (et_tup (at_cons (Eo 3) (at_cons (Eo 4) at_nil))))))), fun ts Q h => ?_⟩
  · obtain ⟨F, m, n, b, rfl | rfl, _⟩ := h <;> rfl
  · obtain ⟨F, m, n, b, e, w, hm, hn, hF, hs, hb, h⟩ := h
    have h4 : 1 ≤ 4 ^ (min F.length m) := Nat.one_le_pow _ _ (by decide)
    have hb0 : b + 1 ≤ 10000000 := Nat.le_trans (Nat.le_mul_of_pos_left _ h4) hb
    have go : ∀ v : Option T, wLoop (gN 2)
              (sSeq
                (sSet 5
                  (rLc (iRg2 (rUn uLen (rVar 4)) (rUn uLen (rVar 3))) (gN 9)
                    (bOp oNe (rOp oIx (rOp oIx (rVar 3) (rVar 9)) (rVar 2)) (rC K_ZERO)) (rVar 9) [9]))
                (sIf (bOp oNeN (rVar 5) (rLst rNil))
                  (sSeq (sSet 6 (rUn uLen (rVar 4)))
                    (sSeq
                      (sSwap 3 (rVar 6) (rOp oIx (rVar 5) (rC (T.int 0)))
                        (rOp oIx (rVar 3) (rOp oIx (rVar 5) (rC (T.int 0)))) (rOp oIx (rVar 3) (rVar 6)))
                      (sSeq
                        (sSet 7
                          (rCall p_row_scaled
                            (rCons (rOp oIx (rVar 3) (rVar 6))
                              (rCons
                                (rCall p_ratio_over
                                  (rCons (rC K_ONE) (rCons (rOp oIx (rOp oIx (rVar 3) (rVar 6)) (rVar 2)) rNil)))
                                rNil))))
                        (sSeq
                          (sSet 3
                            (rLc (iSeq (rVar 3)) (gN 8) bYes
                              (rCall p_row_less
                                (rCons (rVar 8)
                                  (rCons (rCall p_row_scaled (rCons (rVar 7) (rCons (rOp oIx (rVar 8) (rVar 2)) rNil)))
                                    rNil)))
                              [8]))
                          (sSeq (sPut 3 (rVar 6) (rVar 7)) (sApp 4 (rVar 2)))))))
                  sNext))
              { nx := sRet (rTup (rCons (rVar 3) (rCons (rVar 4) rNil))) { nx := fun x => Q T.non, rt := Q }, rt := Q }
              (rgT 0 (m : Nat))
              [v, some (T.int (m : Nat)), none, some (T.lst (F.map tP)), some (T.lst []), none, none, none,
                none, none] := fun v => by
      refine wLoop_cnt (fun k env => ∃ G S v2 v5 v6 v7 v8 v9, env = [v, some (T.int (m : Nat)), v2, some (lM G), some (T.lst (tN S)), v5, v6, v7, v8, v9] ∧
        stairsE (m - k) k G S = stairsE m 0 F [] ∧ Wd n G ∧ G.length = F.length ∧ Sta G S k ∧ S.length ≤ k ∧ SzM (4 ^ S.length * (b + 1) - 1) G) _ _ 0 (fun k t hk env hI nx hnx => ?_) ⟨F, [], _, _, _, _, _, _, rfl, rfl, w, rfl, sta_nil, Nat.le_refl _, hs.mono (by simp)⟩ (fun e he => ?_)
      · have k1 := (List.getElem?_eq_some_iff.mp hk).1
        rw [rgT_len, Int.toNat_natCast] at k1
        rw [rgT_z] at hk
        have ht : t = .int (k : Nat) := by
          unfold tN at hk
          rw [List.getElem?_map, List.getElem?_range k1] at hk
          exact (Option.some.inj hk).symm
        subst ht
        rw [Nat.zero_add] at hI hnx
        obtain ⟨G, S, v2, v5, v6, v7, v8, v9, rfl, eS, wG, lG, sG, lS, zG⟩ := hI
        have hSG := sG.le
        simp [Tw.sSeq, Tw.sRet, Tw.sRetN, Tw.sSet, Tw.sIf, Tw.sPut, Tw.sApp, Tw.sPop, Tw.sDrop, Tw.sAsg, Tw.sPar, Tw.sNext, Tw.sBreak, Tw.sCont, Tw.sFor, Tw.rVar, Tw.rC, Tw.rOp, Tw.rUn, Tw.rCall, Tw.rCons, Tw.rNil, Tw.rStar, Tw.rTup, Tw.rLst, Tw.rAnd, Tw.rOr, Tw.rNot, Tw.rIf, Tw.rPure, Tw.rChain, Tw.rCut, Tw.rCutF, Tw.rNoPart, Tw.rPart, Tw.rLc, Tw.bOp, Tw.bVal, Tw.bNot, Tw.bAnd, Tw.bOr, Tw.iSeq, Tw.iEnu, Tw.iRev, Tw.iZip, Tw.iRg1, Tw.iRg2, Tw.iRgD1, Tw.gN, Tw.oAdd, Tw.oSub, Tw.oLt, Tw.oLe, Tw.oGt, Tw.oGe, Tw.oMul, Tw.oFdiv, Tw.oMod, Tw.oPow, Tw.oGcd, Tw.oMax, Tw.oMin, Tw.oIx, Tw.oIs, Tw.oIsNot, Tw.isNon, Tw.uNeg, Tw.uLen, Tw.uAbs, Tw.uInt, Tw.uList, Tw.uTuple, Tw.uIsi, Tw.tyT, Tw.startT, Tw.wipeT, Tw.lim, Tw.gTups_tup, Tw.gConss_cons, Tw.gNils_nil, Tw.fMul, Tw.fAdd, Tw.fCut, Tw.sCut, Tw.oEq_int, Tw.oNe_int, Tw.oEqN_lst, Tw.oNeN_lst, Tw.oNeS_same, Tw.sPar3, Tw.rCallK, Tw.iRg3, Tw.oMulT, Tw.sSwap, Tw.sRetF, Tw.rCallF, Tw.rCutF, -Bool.exists_bool, lM]
        rw [tN_len]
        refine ⟨⟨by omega, by omega⟩, ⟨by omega, by omega⟩, by rw [rgT_nat, tN_len, List.length_range']; omega, ?_⟩
        rw [rgT_nat]
        have hkn : ∀ i, i < G.length → k < (rw' G i).length := fun i hi => by rw [wG _ (rw_mem hi)]; omega
        have hm1 : m - k = (m - (k + 1)) + 1 := by omega
        rw [hm1, stairsE] at eS
        refine wLc_filterG (fun i : Nat => T.int i) (fun i => decide (en G i k ≠ 0)) (List.range' S.length (G.length - S.length)) [] _ (fun i hi Q1 Q' h1 h2 => ?_) ?_
        · have hi2 := (List.mem_range'_1.mp hi).2
          have hi3 : i < G.length := by omega
          simp [Tw.sSeq, Tw.sRet, Tw.sRetN, Tw.sSet, Tw.sIf, Tw.sPut, Tw.sApp, Tw.sPop, Tw.sDrop, Tw.sAsg, Tw.sPar, Tw.sNext, Tw.sBreak, Tw.sCont, Tw.sFor, Tw.rVar, Tw.rC, Tw.rOp, Tw.rUn, Tw.rCall, Tw.rCons, Tw.rNil, Tw.rStar, Tw.rTup, Tw.rLst, Tw.rAnd, Tw.rOr, Tw.rNot, Tw.rIf, Tw.rPure, Tw.rChain, Tw.rCut, Tw.rCutF, Tw.rNoPart, Tw.rPart, Tw.rLc, Tw.bOp, Tw.bVal, Tw.bNot, Tw.bAnd, Tw.bOr, Tw.iSeq, Tw.iEnu, Tw.iRev, Tw.iZip, Tw.iRg1, Tw.iRg2, Tw.iRgD1, Tw.gN, Tw.oAdd, Tw.oSub, Tw.oLt, Tw.oLe, Tw.oGt, Tw.oGe, Tw.oMul, Tw.oFdiv, Tw.oMod, Tw.oPow, Tw.oGcd, Tw.oMax, Tw.oMin, Tw.oIx, Tw.oIs, Tw.oIsNot, Tw.isNon, Tw.uNeg, Tw.uLen, Tw.uAbs, Tw.uInt, Tw.uList, Tw.uTuple, Tw.uIsi, Tw.tyT, Tw.startT, Tw.wipeT, Tw.lim, Tw.gTups_tup, Tw.gConss_cons, Tw.gNils_nil, Tw.fMul, Tw.fAdd, Tw.fCut, Tw.sCut, Tw.oEq_int, Tw.oNe_int, Tw.oEqN_lst, Tw.oNeN_lst, Tw.oNeS_same, Tw.sPar3, Tw.rCallK, Tw.iRg3, Tw.oMulT, Tw.sSwap, Tw.sRetF, Tw.rCallF, Tw.rCutF, -Bool.exists_bool, mx_at hi3, tP, Q_at (hkn i hi3), oNe]
          refine ⟨eqOk_Q _ 0, ?_⟩
          rw [show eqT (tQ (cf (rw' G i) k)) K_ZERO = decide (en G i k = 0) from eqT_Q _ 0]
          by_cases e0 : en G i k = 0
          · exact ⟨false, by simp [e0], by simpa [e0] using h2⟩
          · exact ⟨true, by simp [e0], by simpa [e0] using h1⟩
        rw [List.nil_append, show (List.range' S.length (G.length - S.length)).filter (fun i => decide (en G i k ≠ 0)) = hereL G k S.length from rfl]
        cases hh : hereL G k S.length with
        | nil =>
          have e1 : stepE k G S = (G, S) := by unfold stepE; rw [hh]
          have st := sta_step wG sG
          rw [e1] at eS st
          refine ⟨false, rfl, ?_⟩
          (simp only [Bool.false_eq_true, if_false])
          exact hnx _ ⟨G, S, _, _, _, _, _, _, rfl, eS, wG, lG, st.2.2.1, by omega, zG⟩
        | cons a r =>
          have e1 : stepE k G S = (elim G S.length a k, S ++ [k]) := by unfold stepE; rw [hh]
          have st := sta_step wG sG
          rw [e1] at eS st
          obtain ⟨a1, a2, a3⟩ := here_mem (show a ∈ hereL G k S.length by rw [hh]; exact List.mem_cons_self ..)
          have hp : S.length < G.length := by omega
          have ea : ∀ l : List T, atI (T.int (a : Nat) :: l) 0 = some (T.int (a : Nat)) := fun l => by rw [atI_nat' (by decide)]; rfl
          have i1 : ixN G.length ((S.length : Nat) : Int) = some S.length := ixN_nat hp
          have i2 : ixN G.length ((a : Nat) : Int) = some a := ixN_nat a2
          refine ⟨true, rfl, ?_⟩
          simp [Tw.sSeq, Tw.sRet, Tw.sRetN, Tw.sSet, Tw.sIf, Tw.sPut, Tw.sApp, Tw.sPop, Tw.sDrop, Tw.sAsg, Tw.sPar, Tw.sNext, Tw.sBreak, Tw.sCont, Tw.sFor, Tw.rVar, Tw.rC, Tw.rOp, Tw.rUn, Tw.rCall, Tw.rCons, Tw.rNil, Tw.rStar, Tw.rTup, Tw.rLst, Tw.rAnd, Tw.rOr, Tw.rNot, Tw.rIf, Tw.rPure, Tw.rChain, Tw.rCut, Tw.rCutF, Tw.rNoPart, Tw.rPart, Tw.rLc, Tw.bOp, Tw.bVal, Tw.bNot, Tw.bAnd, Tw.bOr, Tw.iSeq, Tw.iEnu, Tw.iRev, Tw.iZip, Tw.iRg1, Tw.iRg2, Tw.iRgD1, Tw.gN, Tw.oAdd, Tw.oSub, Tw.oLt, Tw.oLe, Tw.oGt, Tw.oGe, Tw.oMul, Tw.oFdiv, Tw.oMod, Tw.oPow, Tw.oGcd, Tw.oMax, Tw.oMin, Tw.oIx, Tw.oIs, Tw.oIsNot, Tw.isNon, Tw.uNeg, Tw.uLen, Tw.uAbs, Tw.uInt, Tw.uList, Tw.uTuple, Tw.uIsi, Tw.tyT, Tw.startT, Tw.wipeT, Tw.lim, Tw.gTups_tup, Tw.gConss_cons, Tw.gNils_nil, Tw.fMul, Tw.fAdd, Tw.fCut, Tw.sCut, Tw.oEq_int, Tw.oNe_int, Tw.oEqN_lst, Tw.oNeN_lst, Tw.oNeS_same, Tw.sPar3, Tw.rCallK, Tw.iRg3, Tw.oMulT, Tw.sSwap, Tw.sRetF, Tw.rCallF, Tw.rCutF, -Bool.exists_bool, ea, mx_at hp, mx_at a2, i1, i2]
          have es : ((List.map tP G).set S.length (tP (rw' G a))).set a (tP (rw' G S.length)) = (swapL G S.length a []).map tP := by
            unfold swapL rw'
            rw [List.map_set, List.map_set]
          rw [es]
          have lG2 : (swapL G S.length a []).length = G.length := swap_len
          have wG2 := wd_swap wG hp a2
          have hp2 : S.length < (swapL G S.length a []).length := by omega
          have ey : en (swapL G S.length a []) S.length k = en G a k := by
            unfold en
            rw [rw_swap hp a2]
            by_cases e : S.length = a
            · rw [if_pos e, e]
            · rw [if_neg e, if_pos rfl]
          have hB : 4 * (4 ^ S.length * (b + 1)) ≤ 10000000 := by
            refine Nat.le_trans ?_ hb
            rw [← Nat.mul_assoc, Nat.mul_comm 4, ← Nat.pow_succ]
            exact Nat.mul_le_mul_right _ (Nat.pow_le_pow_right (by decide) (by omega))
          have zN := zG.elim wG hp a2 a3
          have zG2 := zG.swap hp a2
          have hN : 4 * (4 ^ S.length * (b + 1) - 1) + 3 ≤ 4 ^ S.length * 4 * (b + 1) - 1 := by
            have h1 : 1 ≤ 4 ^ S.length * (b + 1) := Nat.mul_pos (Nat.pow_pos (by decide)) (by omega)
            have h2 : 4 ^ S.length * 4 * (b + 1) = 4 * (4 ^ S.length * (b + 1)) := by rw [Nat.mul_right_comm, Nat.mul_comm]
            omega
          generalize hBB : 4 ^ S.length * (b + 1) - 1 = B at *
          have hB2 : B ≤ 2500000 := by omega
          have hkn2 : ∀ q, q ∈ swapL G S.length a [] → k < q.length := fun q hq => by rw [wG2 q hq]; omega
          refine ⟨_, mx_at hp2, _, mx_at hp2, _, Q_at (hkn2 _ (rw_mem hp2)), ?_⟩
          have y0 : cf (rw' (swapL G S.length a []) S.length) k ≠ 0 := by
            have := ey
            unfold en at this
            rw [this]
            exact a3
          have ys : Sz (B + 1) (cf (rw' (swapL G S.length a []) S.length) k) := (zG2.rw hp2).cf k
          have s1 : Sz 1 (1 : Rat) := ⟨by decide, by decide⟩
          refine ⟨1, _, rfl, y0, s1.mono (by decide), ys.mono (by omega), ?_⟩
          have hr0 := wG2 _ (rw_mem hp2)
          refine ⟨_, _, rfl, (zG2.rw hp2).mono (by omega), (ys.inv y0).mono (by omega), by omega, ?_⟩
          have eL : (rw' (swapL G S.length a []) S.length).map (· * (1 / cf (rw' (swapL G S.length a []) S.length) k)) = leadOf (swapL G S.length a []) S.length k := rfl
          rw [eL]
          have lL : (leadOf (swapL G S.length a []) S.length k).length = n := lead_len wG2 hp2
          have zL : SzL (2 * B + 1) (leadOf (swapL G S.length a []) S.length k) := (SzL.map (zG2.rw hp2) (ys.inv y0)).mono (by omega)
          have eE : elim G S.length a k = ((swapL G S.length a []).map (subRow (leadOf (swapL G S.length a []) S.length k) k)).set S.length (leadOf (swapL G S.length a []) S.length k) := rfl
          generalize leadOf (swapL G S.length a []) S.length k = L at *
          generalize swapL G S.length a [] = G2 at *
          refine ⟨by omega, wLc_mapG tP (fun r => tP (subRow L k r)) G2 [] _ (fun r hr Q' hq => ?_) ?_⟩
          · have hrl := wG2 r hr
            have hs2 := zG2 r hr
            simp [Tw.sSeq, Tw.sRet, Tw.sRetN, Tw.sSet, Tw.sIf, Tw.sPut, Tw.sApp, Tw.sPop, Tw.sDrop, Tw.sAsg, Tw.sPar, Tw.sNext, Tw.sBreak, Tw.sCont, Tw.sFor, Tw.rVar, Tw.rC, Tw.rOp, Tw.rUn, Tw.rCall, Tw.rCons, Tw.rNil, Tw.rStar, Tw.rTup, Tw.rLst, Tw.rAnd, Tw.rOr, Tw.rNot, Tw.rIf, Tw.rPure, Tw.rChain, Tw.rCut, Tw.rCutF, Tw.rNoPart, Tw.rPart, Tw.rLc, Tw.bOp, Tw.bVal, Tw.bNot, Tw.bAnd, Tw.bOr, Tw.iSeq, Tw.iEnu, Tw.iRev, Tw.iZip, Tw.iRg1, Tw.iRg2, Tw.iRgD1, Tw.gN, Tw.oAdd, Tw.oSub, Tw.oLt, Tw.oLe, Tw.oGt, Tw.oGe, Tw.oMul, Tw.oFdiv, Tw.oMod, Tw.oPow, Tw.oGcd, Tw.oMax, Tw.oMin, Tw.oIx, Tw.oIs, Tw.oIsNot, Tw.isNon, Tw.uNeg, Tw.uLen, Tw.uAbs, Tw.uInt, Tw.uList, Tw.uTuple, Tw.uIsi, Tw.tyT, Tw.startT, Tw.wipeT, Tw.lim, Tw.gTups_tup, Tw.gConss_cons, Tw.gNils_nil, Tw.fMul, Tw.fAdd, Tw.fCut, Tw.sCut, Tw.oEq_int, Tw.oNe_int, Tw.oEqN_lst, Tw.oNeN_lst, Tw.oNeS_same, Tw.sPar3, Tw.rCallK, Tw.iRg3, Tw.oMulT, Tw.sSwap, Tw.sRetF, Tw.rCallF, Tw.rCutF, -Bool.exists_bool]
            have ek : ∀ Q0 : T → Prop, Q0 (tQ (cf r k)) → oIx (tP r) (T.int (k : Nat)) Q0 := fun Q0 h0 => ⟨_, Q_at (hkn2 r hr), h0⟩
            refine ek _ ?_
            refine ⟨L, _, rfl, zL.mono (by omega), (hs2.cf k).mono (by omega), by omega, ?_⟩
            refine ⟨r, _, rfl, by rw [List.length_map]; omega, hs2.mono (by omega), ((zL.map (hs2.cf k))).mono (by omega), by omega, ?_⟩
            exact hq
          · refine ⟨S.length, by rw [List.nil_append, List.length_map]; exact ixN_nat hp2, by omega, ?_⟩
            have e3 : T.lst (([] ++ List.map (fun r => tP (subRow L k r)) G2).set S.length (tP L)) = lM (elim G S.length a k) := by
              rw [eE]
              simp [lM, List.map_set, Function.comp_def]
            have e4 : T.lst (tN S ++ [T.int (k : Nat)]) = T.lst (tN (S ++ [k])) := by simp [tN]
            rw [e3, e4]
            refine hnx _ ⟨_, _, _, _, _, _, _, _, rfl, eS, st.1, by rw [elim_len, lG], st.2.2.1, by simp; omega, ?_⟩
            rw [List.length_append, List.length_singleton, Nat.pow_succ]
            exact zN.mono hN
      · obtain ⟨G, S, v2, v5, v6, v7, v8, v9, rfl, eS, wG, lG, sG, lS, zG⟩ := he
        rw [Nat.zero_add, rgT_len, Int.toNat_natCast, Nat.sub_self] at eS
        have e2 : (G, S) = stairsE m 0 F [] := eS
        have hP : 4 ^ S.length * (b + 1) ≤ 4 ^ (min F.length m) * (b + 1) := by
          have := sG.le
          rw [Nat.zero_add, rgT_len, Int.toNat_natCast] at lS
          exact Nat.mul_le_mul_right _ (Nat.pow_le_pow_right (by decide) (by omega))
        rw [← e2] at h
        simp [Tw.sSeq, Tw.sRet, Tw.sRetN, Tw.sSet, Tw.sIf, Tw.sPut, Tw.sApp, Tw.sPop, Tw.sDrop, Tw.sAsg, Tw.sPar, Tw.sNext, Tw.sBreak, Tw.sCont, Tw.sFor, Tw.rVar, Tw.rC, Tw.rOp, Tw.rUn, Tw.rCall, Tw.rCons, Tw.rNil, Tw.rStar, Tw.rTup, Tw.rLst, Tw.rAnd, Tw.rOr, Tw.rNot, Tw.rIf, Tw.rPure, Tw.rChain, Tw.rCut, Tw.rCutF, Tw.rNoPart, Tw.rPart, Tw.rLc, Tw.bOp, Tw.bVal, Tw.bNot, Tw.bAnd, Tw.bOr, Tw.iSeq, Tw.iEnu, Tw.iRev, Tw.iZip, Tw.iRg1, Tw.iRg2, Tw.iRgD1, Tw.gN, Tw.oAdd, Tw.oSub, Tw.oLt, Tw.oLe, Tw.oGt, Tw.oGe, Tw.oMul, Tw.oFdiv, Tw.oMod, Tw.oPow, Tw.oGcd, Tw.oMax, Tw.oMin, Tw.oIx, Tw.oIs, Tw.oIsNot, Tw.isNon, Tw.uNeg, Tw.uLen, Tw.uAbs, Tw.uInt, Tw.uList, Tw.uTuple, Tw.uIsi, Tw.tyT, Tw.startT, Tw.wipeT, Tw.lim, Tw.gTups_tup, Tw.gConss_cons, Tw.gNils_nil, Tw.fMul, Tw.fAdd, Tw.fCut, Tw.sCut, Tw.oEq_int, Tw.oNe_int, Tw.oEqN_lst, Tw.oNeN_lst, Tw.oNeS_same, Tw.sPar3, Tw.rCallK, Tw.iRg3, Tw.oMulT, Tw.sSwap, Tw.sRetF, Tw.rCallF, Tw.rCutF, -Bool.exists_bool, lM]
        exact h (zG.mono (by omega))
    have lf : F.length ≤ 16777216 := by omega
    have mp : ∀ (v : Option T) (Q' : List T → Prop), Q' (F.map tP) → wLc (gN 8) bYes (rUn uTuple (rVar 8)) [v, some (T.int (m : Nat)), none, none, none, none, none, none, none, none] (F.map tP) [] Q' := fun v Q' hq => by
      refine wLc_mapG tP tP F [] _ (fun r m Q' hq => ?_) (by simpa using hq)
      simp [Tw.sSeq, Tw.sRet, Tw.sRetN, Tw.sSet, Tw.sIf, Tw.sPut, Tw.sApp, Tw.sPop, Tw.sDrop, Tw.sAsg, Tw.sPar, Tw.sNext, Tw.sBreak, Tw.sCont, Tw.sFor, Tw.rVar, Tw.rC, Tw.rOp, Tw.rUn, Tw.rCall, Tw.rCons, Tw.rNil, Tw.rStar, Tw.rTup, Tw.rLst, Tw.rAnd, Tw.rOr, Tw.rNot, Tw.rIf, Tw.rPure, Tw.rChain, Tw.rCut, Tw.rCutF, Tw.rNoPart, Tw.rPart, Tw.rLc, Tw.bOp, Tw.bVal, Tw.bNot, Tw.bAnd, Tw.bOr, Tw.iSeq, Tw.iEnu, Tw.iRev, Tw.iZip, Tw.iRg1, Tw.iRg2, Tw.iRgD1, Tw.gN, Tw.oAdd, Tw.oSub, Tw.oLt, Tw.oLe, Tw.oGt, Tw.oGe, Tw.oMul, Tw.oFdiv, Tw.oMod, Tw.oPow, Tw.oGcd, Tw.oMax, Tw.oMin, Tw.oIx, Tw.oIs, Tw.oIsNot, Tw.isNon, Tw.uNeg, Tw.uLen, Tw.uAbs, Tw.uInt, Tw.uList, Tw.uTuple, Tw.uIsi, Tw.tyT, Tw.startT, Tw.wipeT, Tw.lim, Tw.gTups_tup, Tw.gConss_cons, Tw.gNils_nil, Tw.fMul, Tw.fAdd, Tw.fCut, Tw.sCut, Tw.oEq_int, Tw.oNe_int, Tw.oEqN_lst, Tw.oNeN_lst, Tw.oNeS_same, Tw.sPar3, Tw.rCallK, Tw.iRg3, Tw.oMulT, Tw.sSwap, Tw.sRetF, Tw.rCallF, Tw.rCutF, -Bool.exists_bool, tP]
      exact hq
    rcases e with rfl | rfl
    · simp [Tw.sSeq, Tw.sRet, Tw.sRetN, Tw.sSet, Tw.sIf, Tw.sPut, Tw.sApp, Tw.sPop, Tw.sDrop, Tw.sAsg, Tw.sPar, Tw.sNext, Tw.sBreak, Tw.sCont, Tw.sFor, Tw.rVar, Tw.rC, Tw.rOp, Tw.rUn, Tw.rCall, Tw.rCons, Tw.rNil, Tw.rStar, Tw.rTup, Tw.rLst, Tw.rAnd, Tw.rOr, Tw.rNot, Tw.rIf, Tw.rPure, Tw.rChain, Tw.rCut, Tw.rCutF, Tw.rNoPart, Tw.rPart, Tw.rLc, Tw.bOp, Tw.bVal, Tw.bNot, Tw.bAnd, Tw.bOr, Tw.iSeq, Tw.iEnu, Tw.iRev, Tw.iZip, Tw.iRg1, Tw.iRg2, Tw.iRgD1, Tw.gN, Tw.oAdd, Tw.oSub, Tw.oLt, Tw.oLe, Tw.oGt, Tw.oGe, Tw.oMul, Tw.oFdiv, Tw.oMod, Tw.oPow, Tw.oGcd, Tw.oMax, Tw.oMin, Tw.oIx, Tw.oIs, Tw.oIsNot, Tw.isNon, Tw.uNeg, Tw.uLen, Tw.uAbs, Tw.uInt, Tw.uList, Tw.uTuple, Tw.uIsi, Tw.tyT, Tw.startT, Tw.wipeT, Tw.lim, Tw.gTups_tup, Tw.gConss_cons, Tw.gNils_nil, Tw.fMul, Tw.fAdd, Tw.fCut, Tw.sCut, Tw.oEq_int, Tw.oNe_int, Tw.oEqN_lst, Tw.oNeN_lst, Tw.oNeS_same, Tw.sPar3, Tw.rCallK, Tw.iRg3, Tw.oMulT, Tw.sSwap, Tw.sRetF, Tw.rCallF, Tw.rCutF, -Bool.exists_bool, lM]
      exact ⟨lf, mp _ _ ⟨⟨by omega, by omega⟩, go _⟩⟩
    · simp [Tw.sSeq, Tw.sRet, Tw.sRetN, Tw.sSet, Tw.sIf, Tw.sPut, Tw.sApp, Tw.sPop, Tw.sDrop, Tw.sAsg, Tw.sPar, Tw.sNext, Tw.sBreak, Tw.sCont, Tw.sFor, Tw.rVar, Tw.rC, Tw.rOp, Tw.rUn, Tw.rCall, Tw.rCons, Tw.rNil, Tw.rStar, Tw.rTup, Tw.rLst, Tw.rAnd, Tw.rOr, Tw.rNot, Tw.rIf, Tw.rPure, Tw.rChain, Tw.rCut, Tw.rCutF, Tw.rNoPart, Tw.rPart, Tw.rLc, Tw.bOp, Tw.bVal, Tw.bNot, Tw.bAnd, Tw.bOr, Tw.iSeq, Tw.iEnu, Tw.iRev, Tw.iZip, Tw.iRg1, Tw.iRg2, Tw.iRgD1, Tw.gN, Tw.oAdd, Tw.oSub, Tw.oLt, Tw.oLe, Tw.oGt, Tw.oGe, Tw.oMul, Tw.oFdiv, Tw.oMod, Tw.oPow, Tw.oGcd, Tw.oMax, Tw.oMin, Tw.oIx, Tw.oIs, Tw.oIsNot, Tw.isNon, Tw.uNeg, Tw.uLen, Tw.uAbs, Tw.uInt, Tw.uList, Tw.uTuple, Tw.uIsi, Tw.tyT, Tw.startT, Tw.wipeT, Tw.lim, Tw.gTups_tup, Tw.gConss_cons, Tw.gNils_nil, Tw.fMul, Tw.fAdd, Tw.fCut, Tw.sCut, Tw.oEq_int, Tw.oNe_int, Tw.oEqN_lst, Tw.oNeN_lst, Tw.oNeS_same, Tw.sPar3, Tw.rCallK, Tw.iRg3, Tw.oMulT, Tw.sSwap, Tw.sRetF, Tw.rCallF, Tw.rCutF, -Bool.exists_bool, tM]
      exact ⟨lf, mp _ _ ⟨⟨by omega, by omega⟩, go _⟩⟩
def p_rank_of_rows : TF := fun ts Q => ∃ (A : Mx) (m n b : Nat), (ts = [lM A, .int m] ∨ ts = [tM A, .int m]) ∧ Wd n A ∧ m ≤ n ∧ n ≤ 100 ∧ A.length ≤ 100 ∧ SzM b A ∧ 4 ^ (min A.length m) * (b + 1) ≤ 10000000 ∧ Q (.int ((stepsOf A m).length : Nat))
abbrev s_rank_of_rows : Stmt := topS 23
abbrev N_rank_of_rows : List Str := ["rows", "many"]
theorem sc_rank_of_rows : FnScope N_rank_of_rows ["rows", "many"] (defScope s_rank_of_rows) := ⟨rfl, rfl, rfl, by decide +kernel, rfl, by decide +kernel, by decide +kernel⟩
theorem h_rank_of_rows (h_stairs : Has P w K mg base "stairs" ["rows", "many"] 45 p_stairs) (Se : Sees P base) (d : Def K mg "rank_of_rows" s_rank_of_rows ["rows", "many"]) (B : Bi mg) : Has P w K mg base "rank_of_rows" ["rows", "many"] 46 p_rank_of_rows := by
  have nd := sc_rank_of_rows.nd
  refine has_T 45 (N := N_rank_of_rows) [] Se d sc_rank_of_rows (by decide) (fun ts Q h => ?_) rfl fun f cdv A outer s H E hr hp => ⟨_, (bs_one (st_ret (et_b1 b_len (by rfl) (by exact B.n_len) (by decide +kernel) (et_ix (Ec h_stairs (hr.mono (by decide)) (at_cons (Ev 0) (at_cons (Ev 1) at_nil))) et_int (fun _ _ => rfl))))), fun ts Q h => ?_⟩
  · obtain ⟨A, m, n, b, rfl | rfl, _⟩ := h <;> rfl
  · obtain ⟨A, m, n, b, e, w, mn, n1, l1, z, hb, h⟩ := h
    rcases e with rfl | rfl
    · simp [Tw.sSeq, Tw.sRet, Tw.sRetN, Tw.sSet, Tw.sIf, Tw.sPut, Tw.sApp, Tw.sPop, Tw.sDrop, Tw.sAsg, Tw.sPar, Tw.sNext, Tw.sBreak, Tw.sCont, Tw.sFor, Tw.rVar, Tw.rC, Tw.rOp, Tw.rUn, Tw.rCall, Tw.rCons, Tw.rNil, Tw.rStar, Tw.rTup, Tw.rLst, Tw.rAnd, Tw.rOr, Tw.rNot, Tw.rIf, Tw.rPure, Tw.rChain, Tw.rCut, Tw.rCutF, Tw.rNoPart, Tw.rPart, Tw.rLc, Tw.bOp, Tw.bVal, Tw.bNot, Tw.bAnd, Tw.bOr, Tw.iSeq, Tw.iEnu, Tw.iRev, Tw.iZip, Tw.iRg1, Tw.iRg2, Tw.iRgD1, Tw.gN, Tw.oAdd, Tw.oSub, Tw.oLt, Tw.oLe, Tw.oGt, Tw.oGe, Tw.oMul, Tw.oFdiv, Tw.oMod, Tw.oPow, Tw.oGcd, Tw.oMax, Tw.oMin, Tw.oIx, Tw.oIs, Tw.oIsNot, Tw.isNon, Tw.uNeg, Tw.uLen, Tw.uAbs, Tw.uInt, Tw.uList, Tw.uTuple, Tw.uIsi, Tw.tyT, Tw.startT, Tw.wipeT, Tw.lim, Tw.gTups_tup, Tw.gConss_cons, Tw.gNils_nil, Tw.fMul, Tw.fAdd, Tw.fCut, Tw.sCut, Tw.oEq_int, Tw.oNe_int, Tw.oEqN_lst, Tw.oNeN_lst, Tw.oNeS_same, Tw.sPar3, Tw.rCallK, Tw.iRg3, Tw.oMulT, Tw.sSwap, Tw.sRetF, Tw.rCallF, Tw.rCutF, -Bool.exists_bool, at_1]
      refine ⟨A, m, n, b, .inl rfl, w, mn, n1, l1, z, hb, fun _ => ?_⟩
      simp [Tw.sSeq, Tw.sRet, Tw.sRetN, Tw.sSet, Tw.sIf, Tw.sPut, Tw.sApp, Tw.sPop, Tw.sDrop, Tw.sAsg, Tw.sPar, Tw.sNext, Tw.sBreak, Tw.sCont, Tw.sFor, Tw.rVar, Tw.rC, Tw.rOp, Tw.rUn, Tw.rCall, Tw.rCons, Tw.rNil, Tw.rStar, Tw.rTup, Tw.rLst, Tw.rAnd, Tw.rOr, Tw.rNot, Tw.rIf, Tw.rPure, Tw.rChain, Tw.rCut, Tw.rCutF, Tw.rNoPart, Tw.rPart, Tw.rLc, Tw.bOp, Tw.bVal, Tw.bNot, Tw.bAnd, Tw.bOr, Tw.iSeq, Tw.iEnu, Tw.iRev, Tw.iZip, Tw.iRg1, Tw.iRg2, Tw.iRgD1, Tw.gN, Tw.oAdd, Tw.oSub, Tw.oLt, Tw.oLe, Tw.oGt, Tw.oGe, Tw.oMul, Tw.oFdiv, Tw.oMod, Tw.oPow, Tw.oGcd, Tw.oMax, Tw.oMin, Tw.oIx, Tw.oIs, Tw.oIsNot, Tw.isNon, Tw.uNeg, Tw.uLen, Tw.uAbs, Tw.uInt, Tw.uList, Tw.uTuple, Tw.uIsi, Tw.tyT, Tw.startT, Tw.wipeT, Tw.lim, Tw.gTups_tup, Tw.gConss_cons, Tw.gNils_nil, Tw.fMul, Tw.fAdd, Tw.fCut, Tw.sCut, Tw.oEq_int, Tw.oNe_int, Tw.oEqN_lst, Tw.oNeN_lst, Tw.oNeS_same, Tw.sPar3, Tw.rCallK, Tw.iRg3, Tw.oMulT, Tw.sSwap, Tw.sRetF, Tw.rCallF, Tw.rCutF, -Bool.exists_bool, at_1, tN]
      exact h
    · simp [Tw.sSeq, Tw.sRet, Tw.sRetN, Tw.sSet, Tw.sIf, Tw.sPut, Tw.sApp, Tw.sPop, Tw.sDrop, Tw.sAsg, Tw.sPar, Tw.sNext, Tw.sBreak, Tw.sCont, Tw.sFor, Tw.rVar, Tw.rC, Tw.rOp, Tw.rUn, Tw.rCall, Tw.rCons, Tw.rNil, Tw.rStar, Tw.rTup, Tw.rLst, Tw.rAnd, Tw.rOr, Tw.rNot, Tw.rIf, Tw.rPure, Tw.rChain, Tw.rCut, Tw.rCutF, Tw.rNoPart, Tw.rPart, Tw.rLc, Tw.bOp, Tw.bVal, Tw.bNot, Tw.bAnd, Tw.bOr, Tw.iSeq, Tw.iEnu, Tw.iRev, Tw.iZip, Tw.iRg1, Tw.iRg2, Tw.iRgD1, Tw.gN, Tw.oAdd, Tw.oSub, Tw.oLt, Tw.oLe, Tw.oGt, Tw.oGe, Tw.oMul, Tw.oFdiv, Tw.oMod, Tw.oPow, Tw.oGcd, Tw.oMax, Tw.oMin, Tw.oIx, Tw.oIs, Tw.oIsNot, Tw.isNon, Tw.uNeg, Tw.uLen, Tw.uAbs, Tw.uInt, Tw.uList, Tw.uTuple, Tw.uIsi, Tw.tyT, Tw.startT, Tw.wipeT, Tw.lim, Tw.gTups_tup, Tw.gConss_cons, Tw.gNils_nil, Tw.fMul, Tw.fAdd, Tw.fCut, Tw.sCut, Tw.oEq_int, Tw.oNe_int, Tw.oEqN_lst, Tw.oNeN_lst, Tw.oNeS_same, Tw.sPar3, Tw.rCallK, Tw.iRg3, Tw.oMulT, Tw.sSwap, Tw.sRetF, Tw.rCallF, Tw.rCutF, -Bool.exists_bool, at_1]
      refine ⟨A, m, n, b, .inr rfl, w, mn, n1, l1, z, hb, fun _ => ?_⟩
      simp [Tw.sSeq, Tw.sRet, Tw.sRetN, Tw.sSet, Tw.sIf, Tw.sPut, Tw.sApp, Tw.sPop, Tw.sDrop, Tw.sAsg, Tw.sPar, Tw.sNext, Tw.sBreak, Tw.sCont, Tw.sFor, Tw.rVar, Tw.rC, Tw.rOp, Tw.rUn, Tw.rCall, Tw.rCons, Tw.rNil, Tw.rStar, Tw.rTup, Tw.rLst, Tw.rAnd, Tw.rOr, Tw.rNot, Tw.rIf, Tw.rPure, Tw.rChain, Tw.rCut, Tw.rCutF, Tw.rNoPart, Tw.rPart, Tw.rLc, Tw.bOp, Tw.bVal, Tw.bNot, Tw.bAnd, Tw.bOr, Tw.iSeq, Tw.iEnu, Tw.iRev, Tw.iZip, Tw.iRg1, Tw.iRg2, Tw.iRgD1, Tw.gN, Tw.oAdd, Tw.oSub, Tw.oLt, Tw.oLe, Tw.oGt, Tw.oGe, Tw.oMul, Tw.oFdiv, Tw.oMod, Tw.oPow, Tw.oGcd, Tw.oMax, Tw.oMin, Tw.oIx, Tw.oIs, Tw.oIsNot, Tw.isNon, Tw.uNeg, Tw.uLen, Tw.uAbs, Tw.uInt, Tw.uList, Tw.uTuple, Tw.uIsi, Tw.tyT, Tw.startT, Tw.wipeT, Tw.lim, Tw.gTups_tup, Tw.gConss_cons, Tw.gNils_nil, Tw.fMul, Tw.fAdd, Tw.fCut, Tw.sCut, Tw.oEq_int, Tw.oNe_int, Tw.oEqN_lst, Tw.oNeN_lst, Tw.oNeS_same, Tw.sPar3, Tw.rCallK, Tw.iRg3, Tw.oMulT, Tw.sSwap, Tw.sRetF, Tw.rCallF, Tw.rCutF, -Bool.exists_bool, at_1, tN]
      exact h
def p_any_solution : TF := fun ts Q => ∃ (A : Mx) (r : List Rat) (n b : Nat), (ts = [lM A, tP r, .int n] ∨ ts = [tM A, tP r, .int n]) ∧ Wd n A ∧ A.length = r.length ∧ A.length ≤ 90 ∧ n ≤ 90 ∧ SzM b A ∧ SzL b r ∧ 4 ^ (min A.length n) * (b + 1) ≤ 10000000 ∧ AnyQ (4 ^ (min A.length n) * (b + 1) + 1) Q n (Sol A r n)
theorem put_loop (n : Nat) (v0 v1 v4 v5 : Option T) (D : EndsT) : ∀ (F : Mx) (S : List Nat) (l : List Rat) (v6 v7 : Option T), Wd (n + 1) F → (∀ k, k < S.length → S.getD k 0 < l.length) →
    (∀ v6 v7, D.nx [v0, v1, some (T.int (n : Nat)), some (tLQ (putAll F S n l)), v4, v5, v6, v7, none]) →
    wLoop (gTups 2 (gConss (gN 6) (gConss (gN 7) gNils))) (sPut 3 (rVar 7) (rOp oIx (rVar 6) (rVar 2))) D (ziT (F.map tP) (tN S)) [v0, v1, some (T.int (n : Nat)), some (tLQ l), v4, v5, v6, v7, none]
  | [], S, l, v6, v7, _, _, h => by
    have := h v6 v7
    cases S <;> exact this
  | _ :: _, [], l, v6, v7, _, _, h => h v6 v7
  | r :: F, c :: S, l, v6, v7, w, hs, h => by
    have hc : c < l.length := by have := hs 0 (by simp); simpa using this
    have hr := w r (List.mem_cons_self ..)
    have i1 : ixN l.length ((c : Nat) : Int) = some c := ixN_nat hc
    simp [wLoop, Tw.sSeq, Tw.sRet, Tw.sRetN, Tw.sSet, Tw.sIf, Tw.sPut, Tw.sApp, Tw.sPop, Tw.sDrop, Tw.sAsg, Tw.sPar, Tw.sNext, Tw.sBreak, Tw.sCont, Tw.sFor, Tw.rVar, Tw.rC, Tw.rOp, Tw.rUn, Tw.rCall, Tw.rCons, Tw.rNil, Tw.rStar, Tw.rTup, Tw.rLst, Tw.rAnd, Tw.rOr, Tw.rNot, Tw.rIf, Tw.rPure, Tw.rChain, Tw.rCut, Tw.rCutF, Tw.rNoPart, Tw.rPart, Tw.rLc, Tw.bOp, Tw.bVal, Tw.bNot, Tw.bAnd, Tw.bOr, Tw.iSeq, Tw.iEnu, Tw.iRev, Tw.iZip, Tw.iRg1, Tw.iRg2, Tw.iRgD1, Tw.gN, Tw.oAdd, Tw.oSub, Tw.oLt, Tw.oLe, Tw.oGt, Tw.oGe, Tw.oMul, Tw.oFdiv, Tw.oMod, Tw.oPow, Tw.oGcd, Tw.oMax, Tw.oMin, Tw.oIx, Tw.oIs, Tw.oIsNot, Tw.isNon, Tw.uNeg, Tw.uLen, Tw.uAbs, Tw.uInt, Tw.uList, Tw.uTuple, Tw.uIsi, Tw.tyT, Tw.startT, Tw.wipeT, Tw.lim, Tw.gTups_tup, Tw.gConss_cons, Tw.gNils_nil, Tw.fMul, Tw.fAdd, Tw.fCut, Tw.sCut, Tw.oEq_int, Tw.oNe_int, Tw.oEqN_lst, Tw.oNeN_lst, Tw.oNeS_same, Tw.sPar3, Tw.rCallK, Tw.iRg3, Tw.oMulT, Tw.sSwap, Tw.sRetF, Tw.rCallF, Tw.rCutF, -Bool.exists_bool, tN, ziT, tP, tLQ, Q_at (show n < r.length by omega), tQs_len, i1]
    rw [tQs_set]
    exact put_loop n v0 v1 v4 v5 D F S (l.set c (cf r n)) _ _ (fun q m => w q (List.mem_cons_of_mem _ m)) (fun k hk => by rw [List.length_set]; have := hs (k + 1) (by simpa using hk); simpa using this) h
abbrev s_any_solution : Stmt := topS 24
abbrev N_any_solution : List Str := ["rows", "right", "many", "made", "found", "steps", "row", "column", "number"]
theorem sc_any_solution : FnScope N_any_solution ["rows", "right", "many"] (defScope s_any_solution) := ⟨rfl, rfl, rfl, by decide +kernel, rfl, by decide +kernel, by decide +kernel⟩
theorem h_any_solution (h_stairs : Has P w K mg base "stairs" ["rows", "many"] 45 p_stairs) (c_ZERO : KCs K mg "ZERO" K_ZERO) (Se : Sees P base) (d : Def K mg "any_solution" s_any_solution ["rows", "right", "many"]) (B : Bi mg) : Has P w K mg base "any_solution" ["rows", "right", "many"] 46 p_any_solution := by
  have nd := sc_any_solution.nd
  refine has_T 45 (N := N_any_solution) [3] Se d sc_any_solution (by decide) (fun ts Q h => ?_) rfl fun f cdv A outer s H E hr hp => ⟨_, (bs_cons (st_asg (gt_tup (n := 2) rfl (gt_cons (Gn 4 nd) (gt_cons (Gn 5 nd) gt_nil))) (Ec h_stairs (hr.mono (by decide)) (at_cons (et_lc rfl nd (ic_z (by rfl) (by exact B.n_zip) (Ev 0) (Ev 1)) (blkOk_by (own := [("row", 6), ("number", 8)]) (N := N_any_solution) (sc := defScope s_any_solution) (by decide +kernel)) (fun _ _ _ _ _ => (gt_tup (n := 2) rfl (gt_cons (Gn 6 nd) (gt_cons (Gn 8 nd) gt_nil)))) (fun _ _ _ _ _ => ts_nil) (fun _ _ _ _ _ => (et_tup (at_star (Ev 6) (at_cons (Ev 8) at_nil))))) (at_cons (Ev 2) at_nil))))
      (bs_cons (st_if (bt_cmp (o_neN hr.units) (et_lc rfl nd (ic_s (et_cut (Ev 4) (ot_some (et_b1 b_len (by rfl) (by exact B.n_len) (by decide +kernel) (Ev 5))) ot_none)) (blkOk_by (own := [("row", 6)]) (N := N_any_solution) (sc := defScope s_any_solution) (by decide +kernel)) (fun _ _ _ _ _ => (Gn 6 nd)) (fun _ _ _ _ _ => (ts_one (bt_cmp (o_ne hr.units) (et_ix (Ev 6) (Ev 2) (fun _ _ => rfl)) (Eg c_ZERO) (nomark _)))) (fun _ _ _ _ _ => (Ev 6))) (et_lst at_nil) (nomark _))
      (bs_one (st_ret et_non))
      bs_nil)
      (bs_cons (SsetF 3 nd (ef_mul (et_lst (at_cons (Eg c_ZERO) at_nil)) (Ev 2)))
      (bs_cons (st_for PassesOwn.never rfl (it_z (by rfl) (by exact B.n_zip) (Ev 4) (Ev 5)) (gt_tup (n := 2) rfl (gt_cons (Gn 6 nd) (gt_cons (Gn 7 nd) gt_nil)))
      (bs_one (st_put 3 rfl VIS rfl (Ev 7) (et_ix (Ev 6) (Ev 2) (fun _ _ => rfl)))))
      (bs_one (st_ret (et_t1 t_tuple (by rfl) (by exact B.n_tuple) (by decide +kernel) (Eo 3)))))))), fun ts Q h => ?_⟩
  · obtain ⟨A, r, n, b, rfl | rfl, _⟩ := h <;> rfl
  · obtain ⟨A, r, n, b, e, w, hl, hA, hn, hs, hr, hb, h⟩ := h
    have lz : (ziT (A.map tP) (tQs r)).length ≤ 16777216 := by rw [ziT_len, List.length_map, tQs_len]; omega
    have ext : ∀ (v0 v1 v2 v3 v4 v5 v7 : Option T) (Q' : List T → Prop), Q' ((extE A r).map tP) → wLc (gTups 2 (gConss (gN 6) (gConss (gN 8) gNils))) bYes (rTup (rStar (rVar 6) (rCons (rVar 8) rNil))) [v0, v1, v2, v3, v4, v5, none, v7, none] (ziT (A.map tP) (tQs r)) [] Q' := by
      intro v0 v1 v2 v3 v4 v5 v7 Q' hq
      have key : ∀ (A : Mx) (r : List Rat) (acc : List T) (Q' : List T → Prop), Wd n A → A.length = r.length → Q' (acc ++ (extE A r).map tP) → wLc (gTups 2 (gConss (gN 6) (gConss (gN 8) gNils))) bYes (rTup (rStar (rVar 6) (rCons (rVar 8) rNil))) [v0, v1, v2, v3, v4, v5, none, v7, none] (ziT (A.map tP) (tQs r)) acc Q' := by
        intro A
        induction A with
        | nil => intro r acc Q' _ _ hq; cases r <;> simpa [wLc, tQs, ziT, extE] using hq
        | cons a A ih =>
          intro r acc Q' w hl hq
          cases r with
          | nil => simp at hl
          | cons x r =>
            have ha := w a (List.mem_cons_self ..)
            simp [wLc, Tw.sSeq, Tw.sRet, Tw.sRetN, Tw.sSet, Tw.sIf, Tw.sPut, Tw.sApp, Tw.sPop, Tw.sDrop, Tw.sAsg, Tw.sPar, Tw.sNext, Tw.sBreak, Tw.sCont, Tw.sFor, Tw.rVar, Tw.rC, Tw.rOp, Tw.rUn, Tw.rCall, Tw.rCons, Tw.rNil, Tw.rStar, Tw.rTup, Tw.rLst, Tw.rAnd, Tw.rOr, Tw.rNot, Tw.rIf, Tw.rPure, Tw.rChain, Tw.rCut, Tw.rCutF, Tw.rNoPart, Tw.rPart, Tw.rLc, Tw.bOp, Tw.bVal, Tw.bNot, Tw.bAnd, Tw.bOr, Tw.iSeq, Tw.iEnu, Tw.iRev, Tw.iZip, Tw.iRg1, Tw.iRg2, Tw.iRgD1, Tw.gN, Tw.oAdd, Tw.oSub, Tw.oLt, Tw.oLe, Tw.oGt, Tw.oGe, Tw.oMul, Tw.oFdiv, Tw.oMod, Tw.oPow, Tw.oGcd, Tw.oMax, Tw.oMin, Tw.oIx, Tw.oIs, Tw.oIsNot, Tw.isNon, Tw.uNeg, Tw.uLen, Tw.uAbs, Tw.uInt, Tw.uList, Tw.uTuple, Tw.uIsi, Tw.tyT, Tw.startT, Tw.wipeT, Tw.lim, Tw.gTups_tup, Tw.gConss_cons, Tw.gNils_nil, Tw.fMul, Tw.fAdd, Tw.fCut, Tw.sCut, Tw.oEq_int, Tw.oNe_int, Tw.oEqN_lst, Tw.oNeN_lst, Tw.oNeS_same, Tw.sPar3, Tw.rCallK, Tw.iRg3, Tw.oMulT, Tw.sSwap, Tw.sRetF, Tw.rCallF, Tw.rCutF, -Bool.exists_bool, bYes, tQs, ziT, tP]
            refine ⟨by omega, ?_⟩
            rw [show T.tup (List.map tQ a ++ [tQ x]) = tP (a ++ [x]) from by simp [tP, tQs]]
            exact ih r _ Q' (fun q m => w q (List.mem_cons_of_mem _ m)) (by simpa using hl) (by simpa [extE] using hq)
      exact key A r [] Q' w hl (by simpa using hq)
    have fin : ∀ v0 v1 : Option T, (p_stairs [lM (extE A r), .int (n : Nat)] fun u =>
            gTups 2 (gConss (gN 4) (gConss (gN 5) gNils)) u
              [v0, v1, some (T.int (n : Nat)), none, none, none, none, none, none]
              (sSeq
                (sIf
                  (bOp oNeN
                    (rLc (iSeq (rCut (rVar 4) (rPart (rUn uLen (rVar 5))) rNoPart)) (gN 6)
                      (bOp oNe (rOp oIx (rVar 6) (rVar 2)) (rC K_ZERO)) (rVar 6) [6])
                    (rLst rNil))
                  (sRet (rC T.non)) sNext)
                (sSeq (sSet 3 (rOp fMul (rLst (rCons (rC K_ZERO) rNil)) (rVar 2)))
                  (sSeq
                    (sFor (Tw.iZip (rVar 4) (rVar 5)) (gTups 2 (gConss (gN 6) (gConss (gN 7) gNils)))
                      (sPut 3 (rVar 7) (rOp oIx (rVar 6) (rVar 2))))
                    (sRet (rUn uTuple (rVar 3)))))
                { nx := fun x => Q T.non, rt := Q })) := fun v0 v1 => by
      have wE := wd_ext hl w
      have lE := ext_len hl
      obtain ⟨s1, s2, s3, s4⟩ := sta_run n 0 wE (sta_nil (F := extE A r))
      rw [Nat.zero_add] at s3
      have hsE : SzM b (extE A r) := fun q m => by
        obtain ⟨i, hi, rfl⟩ := mem_rw m
        rw [lE] at hi
        rw [rw_ext hl hi]
        intro x hx
        rcases List.mem_append.mp hx with z | z
        · exact hs _ (rw_mem hi) x z
        · rw [List.mem_singleton.mp z, cf_get (by omega)]
          exact hr _ (List.getElem_mem _)
      refine ⟨extE A r, n, n + 1, b, .inl rfl, wE, by omega, by omega, by omega, hsE, by rw [lE]; exact hb, fun zF => ?_⟩
      rw [lE] at zF
      have hN := any_none hl w
      have hS := fun x => any_some (x := x) hl w
      unfold anyE at hN hS
      generalize (stairsE n 0 (extE A r) []).1 = F at *
      generalize (stairsE n 0 (extE A r) []).2 = S at *
      have hSF := s3.le
      simp [Tw.sSeq, Tw.sRet, Tw.sRetN, Tw.sSet, Tw.sIf, Tw.sPut, Tw.sApp, Tw.sPop, Tw.sDrop, Tw.sAsg, Tw.sPar, Tw.sNext, Tw.sBreak, Tw.sCont, Tw.sFor, Tw.rVar, Tw.rC, Tw.rOp, Tw.rUn, Tw.rCall, Tw.rCons, Tw.rNil, Tw.rStar, Tw.rTup, Tw.rLst, Tw.rAnd, Tw.rOr, Tw.rNot, Tw.rIf, Tw.rPure, Tw.rChain, Tw.rCut, Tw.rCutF, Tw.rNoPart, Tw.rPart, Tw.rLc, Tw.bOp, Tw.bVal, Tw.bNot, Tw.bAnd, Tw.bOr, Tw.iSeq, Tw.iEnu, Tw.iRev, Tw.iZip, Tw.iRg1, Tw.iRg2, Tw.iRgD1, Tw.gN, Tw.oAdd, Tw.oSub, Tw.oLt, Tw.oLe, Tw.oGt, Tw.oGe, Tw.oMul, Tw.oFdiv, Tw.oMod, Tw.oPow, Tw.oGcd, Tw.oMax, Tw.oMin, Tw.oIx, Tw.oIs, Tw.oIsNot, Tw.isNon, Tw.uNeg, Tw.uLen, Tw.uAbs, Tw.uInt, Tw.uList, Tw.uTuple, Tw.uIsi, Tw.tyT, Tw.startT, Tw.wipeT, Tw.lim, Tw.gTups_tup, Tw.gConss_cons, Tw.gNils_nil, Tw.fMul, Tw.fAdd, Tw.fCut, Tw.sCut, Tw.oEq_int, Tw.oNe_int, Tw.oEqN_lst, Tw.oNeN_lst, Tw.oNeS_same, Tw.sPar3, Tw.rCallK, Tw.iRg3, Tw.oMulT, Tw.sSwap, Tw.sRetF, Tw.rCallF, Tw.rCutF, -Bool.exists_bool, lM]
      have ecut : cutT (F.map tP) (some ((tN S).length : Nat)) none = (F.drop S.length).map tP := by
        rw [cutT_from (by omega), Int.toNat_natCast, tN_len, List.map_drop]
      rw [ecut]
      have hFl : F.length ≤ 90 := by omega
      refine ⟨by rw [List.length_map, List.length_drop]; omega, wLc_filterG tP (fun q => decide (cf q n ≠ 0)) (F.drop S.length) [] _ (fun q hq Q1 Q' h1 h2 => ?_) ?_⟩
      · have hq1 := s1 q (List.mem_of_mem_drop hq)
        simp [Tw.sSeq, Tw.sRet, Tw.sRetN, Tw.sSet, Tw.sIf, Tw.sPut, Tw.sApp, Tw.sPop, Tw.sDrop, Tw.sAsg, Tw.sPar, Tw.sNext, Tw.sBreak, Tw.sCont, Tw.sFor, Tw.rVar, Tw.rC, Tw.rOp, Tw.rUn, Tw.rCall, Tw.rCons, Tw.rNil, Tw.rStar, Tw.rTup, Tw.rLst, Tw.rAnd, Tw.rOr, Tw.rNot, Tw.rIf, Tw.rPure, Tw.rChain, Tw.rCut, Tw.rCutF, Tw.rNoPart, Tw.rPart, Tw.rLc, Tw.bOp, Tw.bVal, Tw.bNot, Tw.bAnd, Tw.bOr, Tw.iSeq, Tw.iEnu, Tw.iRev, Tw.iZip, Tw.iRg1, Tw.iRg2, Tw.iRgD1, Tw.gN, Tw.oAdd, Tw.oSub, Tw.oLt, Tw.oLe, Tw.oGt, Tw.oGe, Tw.oMul, Tw.oFdiv, Tw.oMod, Tw.oPow, Tw.oGcd, Tw.oMax, Tw.oMin, Tw.oIx, Tw.oIs, Tw.oIsNot, Tw.isNon, Tw.uNeg, Tw.uLen, Tw.uAbs, Tw.uInt, Tw.uList, Tw.uTuple, Tw.uIsi, Tw.tyT, Tw.startT, Tw.wipeT, Tw.lim, Tw.gTups_tup, Tw.gConss_cons, Tw.gNils_nil, Tw.fMul, Tw.fAdd, Tw.fCut, Tw.sCut, Tw.oEq_int, Tw.oNe_int, Tw.oEqN_lst, Tw.oNeN_lst, Tw.oNeS_same, Tw.sPar3, Tw.rCallK, Tw.iRg3, Tw.oMulT, Tw.sSwap, Tw.sRetF, Tw.rCallF, Tw.rCutF, -Bool.exists_bool, tP, Q_at (show n < q.length by omega), oNe]
        refine ⟨eqOk_Q _ 0, ?_⟩
        rw [show eqT (tQ (cf q n)) K_ZERO = decide (cf q n = 0) from eqT_Q _ 0]
        by_cases e0 : cf q n = 0
        · exact ⟨false, by simp [e0], by simpa [e0] using h2⟩
        · exact ⟨true, by simp [e0], by simpa [e0, tP] using h1⟩
      rw [List.nil_append, show (F.drop S.length).filter (fun q => decide (cf q n ≠ 0)) = badE F S n from rfl]
      cases hbad : badE F S n with
      | cons q r =>
        rw [hbad] at hN
        exact ⟨true, rfl, h.2 (hN rfl)⟩
      | nil =>
        rw [hbad] at hS
        obtain ⟨hx1, hx2⟩ := hS _ rfl
        refine ⟨false, rfl, ?_⟩
        (simp only [Bool.false_eq_true, if_false])
        refine (⟨by omega, by omega, ?_⟩)
        rw [show List.replicate n K_ZERO = tQs (List.replicate n 0) from rep_Q 0 n]
        refine put_loop n v0 v1 _ _ _ F S _ _ _ s1 (fun k hk => by rw [List.length_replicate]; exact s3.lt k hk) fun v6 v7 => ?_
        simp [Tw.sSeq, Tw.sRet, Tw.sRetN, Tw.sSet, Tw.sIf, Tw.sPut, Tw.sApp, Tw.sPop, Tw.sDrop, Tw.sAsg, Tw.sPar, Tw.sNext, Tw.sBreak, Tw.sCont, Tw.sFor, Tw.rVar, Tw.rC, Tw.rOp, Tw.rUn, Tw.rCall, Tw.rCons, Tw.rNil, Tw.rStar, Tw.rTup, Tw.rLst, Tw.rAnd, Tw.rOr, Tw.rNot, Tw.rIf, Tw.rPure, Tw.rChain, Tw.rCut, Tw.rCutF, Tw.rNoPart, Tw.rPart, Tw.rLc, Tw.bOp, Tw.bVal, Tw.bNot, Tw.bAnd, Tw.bOr, Tw.iSeq, Tw.iEnu, Tw.iRev, Tw.iZip, Tw.iRg1, Tw.iRg2, Tw.iRgD1, Tw.gN, Tw.oAdd, Tw.oSub, Tw.oLt, Tw.oLe, Tw.oGt, Tw.oGe, Tw.oMul, Tw.oFdiv, Tw.oMod, Tw.oPow, Tw.oGcd, Tw.oMax, Tw.oMin, Tw.oIx, Tw.oIs, Tw.oIsNot, Tw.isNon, Tw.uNeg, Tw.uLen, Tw.uAbs, Tw.uInt, Tw.uList, Tw.uTuple, Tw.uIsi, Tw.tyT, Tw.startT, Tw.wipeT, Tw.lim, Tw.gTups_tup, Tw.gConss_cons, Tw.gNils_nil, Tw.fMul, Tw.fAdd, Tw.fCut, Tw.sCut, Tw.oEq_int, Tw.oNe_int, Tw.oEqN_lst, Tw.oNeN_lst, Tw.oNeS_same, Tw.sPar3, Tw.rCallK, Tw.iRg3, Tw.oMulT, Tw.sSwap, Tw.sRetF, Tw.rCallF, Tw.rCutF, -Bool.exists_bool, tLQ]
        exact h.1 _ hx1 (putAll_sz F S n _ zF (SzL.rep (Sz.zero (by omega)))) hx2
    rcases e with rfl | rfl
    · simp [Tw.sSeq, Tw.sRet, Tw.sRetN, Tw.sSet, Tw.sIf, Tw.sPut, Tw.sApp, Tw.sPop, Tw.sDrop, Tw.sAsg, Tw.sPar, Tw.sNext, Tw.sBreak, Tw.sCont, Tw.sFor, Tw.rVar, Tw.rC, Tw.rOp, Tw.rUn, Tw.rCall, Tw.rCons, Tw.rNil, Tw.rStar, Tw.rTup, Tw.rLst, Tw.rAnd, Tw.rOr, Tw.rNot, Tw.rIf, Tw.rPure, Tw.rChain, Tw.rCut, Tw.rCutF, Tw.rNoPart, Tw.rPart, Tw.rLc, Tw.bOp, Tw.bVal, Tw.bNot, Tw.bAnd, Tw.bOr, Tw.iSeq, Tw.iEnu, Tw.iRev, Tw.iZip, Tw.iRg1, Tw.iRg2, Tw.iRgD1, Tw.gN, Tw.oAdd, Tw.oSub, Tw.oLt, Tw.oLe, Tw.oGt, Tw.oGe, Tw.oMul, Tw.oFdiv, Tw.oMod, Tw.oPow, Tw.oGcd, Tw.oMax, Tw.oMin, Tw.oIx, Tw.oIs, Tw.oIsNot, Tw.isNon, Tw.uNeg, Tw.uLen, Tw.uAbs, Tw.uInt, Tw.uList, Tw.uTuple, Tw.uIsi, Tw.tyT, Tw.startT, Tw.wipeT, Tw.lim, Tw.gTups_tup, Tw.gConss_cons, Tw.gNils_nil, Tw.fMul, Tw.fAdd, Tw.fCut, Tw.sCut, Tw.oEq_int, Tw.oNe_int, Tw.oEqN_lst, Tw.oNeN_lst, Tw.oNeS_same, Tw.sPar3, Tw.rCallK, Tw.iRg3, Tw.oMulT, Tw.sSwap, Tw.sRetF, Tw.rCallF, Tw.rCutF, -Bool.exists_bool, lM, tP]
      exact ⟨lz, ext _ _ _ _ _ _ _ _ (fin _ _)⟩
    · simp [Tw.sSeq, Tw.sRet, Tw.sRetN, Tw.sSet, Tw.sIf, Tw.sPut, Tw.sApp, Tw.sPop, Tw.sDrop, Tw.sAsg, Tw.sPar, Tw.sNext, Tw.sBreak, Tw.sCont, Tw.sFor, Tw.rVar, Tw.rC, Tw.rOp, Tw.rUn, Tw.rCall, Tw.rCons, Tw.rNil, Tw.rStar, Tw.rTup, Tw.rLst, Tw.rAnd, Tw.rOr, Tw.rNot, Tw.rIf, Tw.rPure, Tw.rChain, Tw.rCut, Tw.rCutF, Tw.rNoPart, Tw.rPart, Tw.rLc, Tw.bOp, Tw.bVal, Tw.bNot, Tw.bAnd, Tw.bOr, Tw.iSeq, Tw.iEnu, Tw.iRev, Tw.iZip, Tw.iRg1, Tw.iRg2, Tw.iRgD1, Tw.gN, Tw.oAdd, Tw.oSub, Tw.oLt, Tw.oLe, Tw.oGt, Tw.oGe, Tw.oMul, Tw.oFdiv, Tw.oMod, Tw.oPow, Tw.oGcd, Tw.oMax, Tw.oMin, Tw.oIx, Tw.oIs, Tw.oIsNot, Tw.isNon, Tw.uNeg, Tw.uLen, Tw.uAbs, Tw.uInt, Tw.uList, Tw.uTuple, Tw.uIsi, Tw.tyT, Tw.startT, Tw.wipeT, Tw.lim, Tw.gTups_tup, Tw.gConss_cons, Tw.gNils_nil, Tw.fMul, Tw.fAdd, Tw.fCut, Tw.sCut, Tw.oEq_int, Tw.oNe_int, Tw.oEqN_lst, Tw.oNeN_lst, Tw.oNeS_same, Tw.sPar3, Tw.rCallK, Tw.iRg3, Tw.oMulT, Tw.sSwap, Tw.sRetF, Tw.rCallF, Tw.rCutF, -Bool.exists_bool, tM, tP]
      exact ⟨lz, ext _ _ _ _ _ _ _ _ (fin _ _)⟩
def p_one_solution : TF := fun ts Q => ∃ (A : Mx) (r : List Rat) (n b : Nat), ts = [lM A, tP r, .int n] ∧ Wd n A ∧ A.length = r.length ∧ A.length ≤ 90 ∧ n ≤ 90 ∧ SzM b A ∧ SzL b r ∧ 4 ^ (min A.length n) * (b + 1) ≤ 10000000 ∧
  ((∃ y, Kills A n y ∧ ∃ k, k < n ∧ y k ≠ 0) → Q .non) ∧ ((∀ y, Kills A n y → ∀ k, k < n → y k = 0) → AnyQ (4 ^ (min A.length n) * (b + 1) + 1) Q n (Sol A r n))
abbrev s_one_solution : Stmt := topS 25
abbrev N_one_solution : List Str := ["rows", "right", "many"]
theorem sc_one_solution : FnScope N_one_solution ["rows", "right", "many"] (defScope s_one_solution) := ⟨rfl, rfl, rfl, by decide +kernel, rfl, by decide +kernel, by decide +kernel⟩
theorem h_one_solution (h_any_solution : Has P w K mg base "any_solution" ["rows", "right", "many"] 46 p_any_solution) (h_rank_of_rows : Has P w K mg base "rank_of_rows" ["rows", "many"] 46 p_rank_of_rows) (Se : Sees P base) (d : Def K mg "one_solution" s_one_solution ["rows", "right", "many"]) (B : Bi mg) : Has P w K mg base "one_solution" ["rows", "right", "many"] 47 p_one_solution := by
  have nd := sc_one_solution.nd
  refine has_T 46 (N := N_one_solution) [] Se d sc_one_solution (by decide) (fun ts Q h => ?_) rfl fun f cdv A outer s H E hr hp => ⟨_, (bs_one (st_ret (et_if (bt_cmp (o_eq hr.units) (Ec h_rank_of_rows (hr.mono (by decide)) (at_cons (Ev 0) (at_cons (Ev 2) at_nil))) (Ev 2) (nomark _)) (Ec h_any_solution (hr.mono (by decide)) (at_cons (Ev 0) (at_cons (Ev 1) (at_cons (Ev 2) at_nil)))) et_non))), fun ts Q h => ?_⟩
  · obtain ⟨A, r, n, b, rfl, _⟩ := h; rfl
  · obtain ⟨A, r, n, b, rfl, w, l1, l2, n1, z1, z2, hb, hN, hA⟩ := h
    simp [Tw.sSeq, Tw.sRet, Tw.sRetN, Tw.sSet, Tw.sIf, Tw.sPut, Tw.sApp, Tw.sPop, Tw.sDrop, Tw.sAsg, Tw.sPar, Tw.sNext, Tw.sBreak, Tw.sCont, Tw.sFor, Tw.rVar, Tw.rC, Tw.rOp, Tw.rUn, Tw.rCall, Tw.rCons, Tw.rNil, Tw.rStar, Tw.rTup, Tw.rLst, Tw.rAnd, Tw.rOr, Tw.rNot, Tw.rIf, Tw.rPure, Tw.rChain, Tw.rCut, Tw.rCutF, Tw.rNoPart, Tw.rPart, Tw.rLc, Tw.bOp, Tw.bVal, Tw.bNot, Tw.bAnd, Tw.bOr, Tw.iSeq, Tw.iEnu, Tw.iRev, Tw.iZip, Tw.iRg1, Tw.iRg2, Tw.iRgD1, Tw.gN, Tw.oAdd, Tw.oSub, Tw.oLt, Tw.oLe, Tw.oGt, Tw.oGe, Tw.oMul, Tw.oFdiv, Tw.oMod, Tw.oPow, Tw.oGcd, Tw.oMax, Tw.oMin, Tw.oIx, Tw.oIs, Tw.oIsNot, Tw.isNon, Tw.uNeg, Tw.uLen, Tw.uAbs, Tw.uInt, Tw.uList, Tw.uTuple, Tw.uIsi, Tw.tyT, Tw.startT, Tw.wipeT, Tw.lim, Tw.gTups_tup, Tw.gConss_cons, Tw.gNils_nil, Tw.fMul, Tw.fAdd, Tw.fCut, Tw.sCut, Tw.oEq_int, Tw.oNe_int, Tw.oEqN_lst, Tw.oNeN_lst, Tw.oNeS_same, Tw.sPar3, Tw.rCallK, Tw.iRg3, Tw.oMulT, Tw.sSwap, Tw.sRetF, Tw.rCallF, Tw.rCutF, -Bool.exists_bool]
    refine ⟨A, n, n, b, .inl rfl, w, Nat.le_refl _, by omega, by omega, z1, hb, ?_⟩
    dsimp only
    rw [oEq_int]
    refine ⟨_, rfl, ?_⟩
    by_cases c : (stepsOf A n).length = n
    · rw [decide_eq_true (by omega), if_pos rfl]
      exact ⟨A, r, n, b, .inl rfl, w, l1, l2, n1, z1, z2, hb, hA ((rank_full w).mp c)⟩
    · rw [decide_eq_false (by omega), if_neg (by decide)]
      refine hN ?_
      refine Classical.byContradiction fun q => c ((rank_full w).mpr fun y hy k hk => Classical.byContradiction fun z => q ⟨y, hy, k, hk, z⟩)
def eqA (s : List Rat) (m n : Nat) : Mx := ((List.range n).map fun a => ((s.drop a).take (m + 1)) ++ [-1]) ++ [List.replicate (m + 1) 1 ++ [0]]
def eqR (n : Nat) : List Rat := List.replicate n 0 ++ [1]
theorem cutT_mid {ts : List T} {a m : Nat} : cutT ts (some ((a : Nat) : Int)) (some ((a : Int) + m + 1)) = (ts.drop a).take (m + 1) := by
  unfold cutT
  rw [show (a : Int) + m + 1 = ((a + m + 1 : Nat) : Int) from by omega, HT.sIx_nat, HT.sIx_nat]
  rcases Nat.le_total a ts.length with q | q
  · rw [Nat.min_eq_left q]
    rcases Nat.le_total (a + m + 1) ts.length with p | p
    · rw [Nat.min_eq_left p]; congr 1; omega
    · rw [Nat.min_eq_right p, List.take_of_length_le (by rw [List.length_drop]; omega), List.take_of_length_le (by rw [List.length_drop]; omega)]
  · rw [Nat.min_eq_right q, List.drop_length, List.drop_of_length_le q, List.take_nil, List.take_nil]
def p_equations_for : TF := fun ts Q => ∃ (s : List Rat) (m n : Nat), ts = [tP s, .int m, .int n] ∧ s.length ≤ 900 ∧ m ≤ 900 ∧ n ≤ 900 ∧ Q (.tup [lM (eqA s m n), tP (eqR n)])
abbrev s_equations_for : Stmt := topS 28
abbrev N_equations_for : List Str := ["numbers", "length", "many", "rows", "at"]
theorem sc_equations_for : FnScope N_equations_for ["numbers", "length", "many"] (defScope s_equations_for) := ⟨rfl, rfl, rfl, by decide +kernel, rfl, by decide +kernel, by decide +kernel⟩
theorem h_equations_for (c_LESS : KCs K mg "LESS" K_LESS) (c_ONE : KCs K mg "ONE" K_ONE) (c_ZERO : KCs K mg "ZERO" K_ZERO) (Se : Sees P base) (d : Def K mg "equations_for" s_equations_for ["numbers", "length", "many"]) (B : Bi mg) : Has P w K mg base "equations_for" ["numbers", "length", "many"] 41 p_equations_for := by
  have nd := sc_equations_for.nd
  refine has_T 40 (N := N_equations_for) [] Se d sc_equations_for (by decide) (fun ts Q h => ?_) rfl fun f cdv A outer s H E hr hp => ⟨_, (bs_cons (st_lc 3 rfl nd rfl rfl (sw_true rfl rfl rfl (by decide +kernel)) (ic_r1 (by rfl) (by exact B.n_range) (Ev 2)) (blkOk_by (own := [("at", 4)]) (N := N_equations_for) (sc := defScope s_equations_for) (by decide +kernel)) (fun _ _ _ _ _ => (Gn 4 nd)) (fun _ _ _ _ _ => ts_nil) (fun _ _ _ _ _ => (et_tup (at_star (et_cut (Ev 0) (ot_some (Ev 4)) (ot_some (et_op o_add (et_op o_add (Ev 4) (Ev 1)) et_int))) (at_cons (Eg c_LESS) at_nil)))))
      (bs_one (st_ret (et_tup (at_cons (et_op o_add (Ev 3) (et_lst (at_cons (et_tup (at_star (et_op o_mulT (et_tup (at_cons (Eg c_ONE) at_nil)) (et_op o_add (Ev 1) et_int)) (at_cons (Eg c_ZERO) at_nil))) at_nil))) (at_cons (et_op o_add (et_op o_mulT (et_tup (at_cons (Eg c_ZERO) at_nil)) (Ev 2)) (et_tup (at_cons (Eg c_ONE) at_nil))) at_nil)))))), fun ts Q h => ?_⟩
  · obtain ⟨s, m, n, rfl, _⟩ := h; rfl
  · obtain ⟨s, m, n, rfl, ls, lm, ln, h⟩ := h
    simp [Tw.sSeq, Tw.sRet, Tw.sRetN, Tw.sSet, Tw.sIf, Tw.sPut, Tw.sApp, Tw.sPop, Tw.sDrop, Tw.sAsg, Tw.sPar, Tw.sNext, Tw.sBreak, Tw.sCont, Tw.sFor, Tw.rVar, Tw.rC, Tw.rOp, Tw.rUn, Tw.rCall, Tw.rCons, Tw.rNil, Tw.rStar, Tw.rTup, Tw.rLst, Tw.rAnd, Tw.rOr, Tw.rNot, Tw.rIf, Tw.rPure, Tw.rChain, Tw.rCut, Tw.rCutF, Tw.rNoPart, Tw.rPart, Tw.rLc, Tw.bOp, Tw.bVal, Tw.bNot, Tw.bAnd, Tw.bOr, Tw.iSeq, Tw.iEnu, Tw.iRev, Tw.iZip, Tw.iRg1, Tw.iRg2, Tw.iRgD1, Tw.gN, Tw.oAdd, Tw.oSub, Tw.oLt, Tw.oLe, Tw.oGt, Tw.oGe, Tw.oMul, Tw.oFdiv, Tw.oMod, Tw.oPow, Tw.oGcd, Tw.oMax, Tw.oMin, Tw.oIx, Tw.oIs, Tw.oIsNot, Tw.isNon, Tw.uNeg, Tw.uLen, Tw.uAbs, Tw.uInt, Tw.uList, Tw.uTuple, Tw.uIsi, Tw.tyT, Tw.startT, Tw.wipeT, Tw.lim, Tw.gTups_tup, Tw.gConss_cons, Tw.gNils_nil, Tw.fMul, Tw.fAdd, Tw.fCut, Tw.sCut, Tw.oEq_int, Tw.oNe_int, Tw.oEqN_lst, Tw.oNeN_lst, Tw.oNeS_same, Tw.sPar3, Tw.rCallK, Tw.iRg3, Tw.oMulT, Tw.sSwap, Tw.sRetF, Tw.rCallF, Tw.rCutF, -Bool.exists_bool]
    refine ⟨⟨by omega, by omega⟩, by rw [rgT_len]; omega, ?_⟩
    rw [rgT_z]
    refine wLc_mapG (fun a : Nat => T.int (a : Nat)) (fun a => tP ((s.drop a).take (m + 1) ++ [-1])) (List.range n) [] _ (fun a ma Q' hq => ?_) ?_
    · simp [Tw.sSeq, Tw.sRet, Tw.sRetN, Tw.sSet, Tw.sIf, Tw.sPut, Tw.sApp, Tw.sPop, Tw.sDrop, Tw.sAsg, Tw.sPar, Tw.sNext, Tw.sBreak, Tw.sCont, Tw.sFor, Tw.rVar, Tw.rC, Tw.rOp, Tw.rUn, Tw.rCall, Tw.rCons, Tw.rNil, Tw.rStar, Tw.rTup, Tw.rLst, Tw.rAnd, Tw.rOr, Tw.rNot, Tw.rIf, Tw.rPure, Tw.rChain, Tw.rCut, Tw.rCutF, Tw.rNoPart, Tw.rPart, Tw.rLc, Tw.bOp, Tw.bVal, Tw.bNot, Tw.bAnd, Tw.bOr, Tw.iSeq, Tw.iEnu, Tw.iRev, Tw.iZip, Tw.iRg1, Tw.iRg2, Tw.iRgD1, Tw.gN, Tw.oAdd, Tw.oSub, Tw.oLt, Tw.oLe, Tw.oGt, Tw.oGe, Tw.oMul, Tw.oFdiv, Tw.oMod, Tw.oPow, Tw.oGcd, Tw.oMax, Tw.oMin, Tw.oIx, Tw.oIs, Tw.oIsNot, Tw.isNon, Tw.uNeg, Tw.uLen, Tw.uAbs, Tw.uInt, Tw.uList, Tw.uTuple, Tw.uIsi, Tw.tyT, Tw.startT, Tw.wipeT, Tw.lim, Tw.gTups_tup, Tw.gConss_cons, Tw.gNils_nil, Tw.fMul, Tw.fAdd, Tw.fCut, Tw.sCut, Tw.oEq_int, Tw.oNe_int, Tw.oEqN_lst, Tw.oNeN_lst, Tw.oNeS_same, Tw.sPar3, Tw.rCallK, Tw.iRg3, Tw.oMulT, Tw.sSwap, Tw.sRetF, Tw.rCallF, Tw.rCutF, -Bool.exists_bool, tP]
      rw [cutT_mid]
      have e : (tQs s).drop a = tQs (s.drop a) := by unfold tQs; rw [List.map_drop]
      have e2 : (tQs (s.drop a)).take (m + 1) = tQs ((s.drop a).take (m + 1)) := by unfold tQs; rw [List.map_take]
      rw [e, e2]
      refine ⟨by rw [tQs_len, List.length_take]; omega, ?_⟩
      rw [show [K_LESS] = tQs [-1] from rfl, tQs_app]
      exact hq
    rw [List.nil_append]
    refine ⟨by omega, by omega, by omega, by rw [List.length_map, List.length_range]; omega, by omega, by omega, ?_⟩
    have e1 : T.tup (List.replicate (m + 1) K_ONE ++ [K_ZERO]) = tP (List.replicate (m + 1) 1 ++ [0]) := by
      rw [show K_ONE = tQ 1 from rfl, show K_ZERO = tQ 0 from rfl, rep_Q, show [tQ 0] = tQs [0] from rfl, tQs_app]; rfl
    have e2 : T.tup (List.replicate n K_ZERO ++ [K_ONE]) = tP (eqR n) := by
      unfold eqR
      rw [show K_ONE = tQ 1 from rfl, show K_ZERO = tQ 0 from rfl, rep_Q, show [tQ 1] = tQs [1] from rfl, tQs_app]; rfl
    rw [e1, e2]
    have e3 : T.lst ((List.range n).map (fun a => tP ((s.drop a).take (m + 1) ++ [-1])) ++ [tP (List.replicate (m + 1) 1 ++ [0])]) = lM (eqA s m n) := by
      unfold lM eqA
      rw [List.map_append, List.map_map]; rfl
    rw [e3]
    exact h
/-- the equations of a cell, in plain terms -/
theorem eqA_len (s : List Rat) (m n : Nat) : (eqA s m n).length = n + 1 := by unfold eqA; simp
theorem eqA_row {s : List Rat} {m n a : Nat} (h : a < n) : rw' (eqA s m n) a = (s.drop a).take (m + 1) ++ [-1] := by
  rw [rw_get (by rw [eqA_len]; omega)]
  unfold eqA
  rw [List.getElem_append_left (by simp; exact h), List.getElem_map, List.getElem_range]
theorem eqA_last {s : List Rat} {m n : Nat} : rw' (eqA s m n) n = List.replicate (m + 1) 1 ++ [0] := by
  rw [rw_get (by rw [eqA_len]; omega)]
  unfold eqA
  rw [List.getElem_append_right (by simp)]
  simp
theorem cf_take {p : List Rat} {n k : Nat} (h : k < n) : cf (p.take n) k = cf p k := by
  unfold cf
  rw [List.getD_eq_getElem?_getD, List.getD_eq_getElem?_getD, List.getElem?_take, if_pos h]
theorem cf_drop (p : List Rat) (n k : Nat) : cf (p.drop n) k = cf p (n + k) := by
  unfold cf
  rw [List.getD_eq_getElem?_getD, List.getD_eq_getElem?_getD, List.getElem?_drop]
theorem dot_row {s : List Rat} {m a : Nat} (x : Nat → Rat) (h : a + m < s.length) : dotR ((s.drop a).take (m + 1) ++ [-1]) x (m + 2) = sumN (fun j => cf s (a + j) * x j) (m + 1) + -x (m + 1) := by
  have l : ((s.drop a).take (m + 1)).length = m + 1 := by rw [List.length_take, List.length_drop]; omega
  unfold dotR
  show sumN _ (m + 1) + cf _ (m + 1) * x (m + 1) = _
  congr 1
  · refine sumN_congr _ fun j hj => ?_
    rw [cf_app, if_pos (by omega), cf_take hj, cf_drop]
  · rw [cf_app, if_neg (by omega), l, Nat.sub_self]
    show (-1 : Rat) * _ = _
    grind
theorem dot_last (m : Nat) (x : Nat → Rat) : dotR (List.replicate (m + 1) 1 ++ [0]) x (m + 2) = sumN x (m + 1) := by
  unfold dotR
  show sumN _ (m + 1) + cf _ (m + 1) * x (m + 1) = _
  have e : cf (List.replicate (m + 1) (1 : Rat) ++ [0]) (m + 1) = 0 := by
    rw [cf_app, List.length_replicate, if_neg (by omega), Nat.sub_self]; rfl
  rw [e, Rat.zero_mul, Rat.add_zero]
  refine sumN_congr _ fun j hj => ?_
  rw [cf_app, List.length_replicate, if_pos hj, cf_get (by rw [List.length_replicate]; exact hj), List.getElem_replicate, Rat.one_mul]
theorem eqs_dot {s : List Rat} {m : Nat} {x : Nat → Rat} {v : Rat} (h : 2 * m < s.length) : Eqs (ps s) m x v ↔ (∀ a, a < m + 1 → dotR (rw' (eqA s m (m + 1)) a) x (m + 2) = 0) ∧ dotR (rw' (eqA s m (m + 1)) (m + 1)) x (m + 2) = v := by
  rw [eqA_last, dot_last]
  constructor
  · intro e
    refine ⟨fun a ha => ?_, e.tot⟩
    rw [eqA_row ha, dot_row x (by omega)]
    have := e.win a (by omega)
    rw [show (fun j => cf s (a + j) * x j) = fun j => (ps s).c (a + j) * x j from rfl, this]; grind
  · intro ⟨a1, a2⟩
    refine ⟨fun a ha => ?_, a2⟩
    have := a1 a (by omega)
    rw [eqA_row (by omega), dot_row x (by omega)] at this
    show sumN (fun j => cf s (a + j) * x j) (m + 1) = x (m + 1)
    grind
theorem eqs_kill {s : List Rat} {m : Nat} {x : Nat → Rat} (h : 2 * m < s.length) : Kills (eqA s m (m + 1)) (m + 2) x ↔ Eqs (ps s) m x 0 := by
  rw [eqs_dot h, kills_iff, eqA_len]
  constructor
  · exact fun k => ⟨fun a ha => k a (by omega), k (m + 1) (by omega)⟩
  · intro ⟨a1, a2⟩ i hi
    rcases Nat.lt_or_ge i (m + 1) with z | z
    · exact a1 i z
    · rw [show i = m + 1 from by omega]; exact a2
theorem eqs_sol {s : List Rat} {m : Nat} {x : Nat → Rat} (h : 2 * m < s.length) : Sol (eqA s m (m + 1)) (eqR (m + 1)) (m + 2) x ↔ Eqs (ps s) m x 1 := by
  have e1 : ∀ i, i < m + 1 → cf (eqR (m + 1)) i = 0 := fun i hi => by
    unfold eqR
    rw [cf_app, List.length_replicate, if_pos hi, cf_get (by rw [List.length_replicate]; exact hi), List.getElem_replicate]
  have e2 : cf (eqR (m + 1)) (m + 1) = 1 := by
    unfold eqR
    rw [cf_app, List.length_replicate, if_neg (by omega), Nat.sub_self]; rfl
  rw [eqs_dot h]
  unfold Sol
  rw [eqA_len]
  constructor
  · exact fun k => ⟨fun a ha => (k a (by omega)).trans (e1 a ha), (k (m + 1) (by omega)).trans e2⟩
  · intro ⟨a1, a2⟩ i hi
    rcases Nat.lt_or_ge i (m + 1) with z | z
    · rw [a1 i z, e1 i z]
    · rw [show i = m + 1 from by omega, a2, e2]
/-- what a cell tells -/
def CellT (S : Tw.PS) (m : Nat) (t : T) : Prop := (∃ x, Eqs S m x 1 ∧ (∀ y, Eqs S m y 0 → ∀ k, k < m + 2 → y k = 0) ∧ t = tQ (x (m + 1))) ∨ (t = .non ∧ ((∃ y, Eqs S m y 0 ∧ ∃ k, k < m + 2 ∧ y k ≠ 0) ∨ ∀ x, ¬ Eqs S m x 1))
def p_cell_by : TF := fun ts Q => ∃ (s : List Rat) (m i : Nat), ts = [tP s, .int m, .int i] ∧ i + 2 * m < s.length ∧ s.length ≤ 13 ∧ SzL 150 s ∧ ∀ t, CellT (shS (ps s) i) m t → Q t
abbrev s_cell_by : Stmt := topS 29
abbrev N_cell_by : List Str := ["numbers", "order", "index", "found", "rows", "right"]
theorem sc_cell_by : FnScope N_cell_by ["numbers", "order", "index"] (defScope s_cell_by) := ⟨rfl, rfl, rfl, by decide +kernel, rfl, by decide +kernel, by decide +kernel⟩
theorem h_cell_by (h_equations_for : Has P w K mg base "equations_for" ["numbers", "length", "many"] 41 p_equations_for) (h_one_solution : Has P w K mg base "one_solution" ["rows", "right", "many"] 47 p_one_solution) (Se : Sees P base) (d : Def K mg "cell_by" s_cell_by ["numbers", "order", "index"]) (B : Bi mg) : Has P w K mg base "cell_by" ["numbers", "order", "index"] 48 p_cell_by := by
  have nd := sc_cell_by.nd
  refine has_T 47 (N := N_cell_by) [] Se d sc_cell_by (by decide) (fun ts Q h => ?_) rfl fun f cdv A outer s H E hr hp => ⟨_, (bs_cons (st_asg (gt_tup (n := 2) rfl (gt_cons (Gn 4 nd) (gt_cons (Gn 5 nd) gt_nil))) (Ec h_equations_for (hr.mono (by decide)) (at_cons (et_cut (Ev 0) (ot_some (Ev 2)) ot_none) (at_cons (Ev 1) (at_cons (et_op o_add (Ev 1) et_int) at_nil)))))
      (bs_cons (Sset 3 nd (Ec h_one_solution (hr.mono (by decide)) (at_cons (Ev 4) (at_cons (Ev 5) (at_cons (et_op o_add (Ev 1) et_int) at_nil)))))
      (bs_one (st_ret (et_if (bt_cmp o_is (Ev 3) et_non (nomark _)) et_non (et_ix (Ev 3) (et_neg et_int) (fun _ _ => rfl))))))), fun ts Q h => ?_⟩
  · obtain ⟨s, m, i, rfl, _⟩ := h; rfl
  · obtain ⟨s, m, i, rfl, hl, ls, sz, h⟩ := h
    have eS : ps (s.drop i) = shS (ps s) i := PS.ext fun n => by
      rw [ps_c, cf_drop, shS_c, ps_c, Nat.add_comm]
    have ld : (s.drop i).length = s.length - i := List.length_drop
    have hm : m ≤ 6 := by omega
    simp [Tw.sSeq, Tw.sRet, Tw.sRetN, Tw.sSet, Tw.sIf, Tw.sPut, Tw.sApp, Tw.sPop, Tw.sDrop, Tw.sAsg, Tw.sPar, Tw.sNext, Tw.sBreak, Tw.sCont, Tw.sFor, Tw.rVar, Tw.rC, Tw.rOp, Tw.rUn, Tw.rCall, Tw.rCons, Tw.rNil, Tw.rStar, Tw.rTup, Tw.rLst, Tw.rAnd, Tw.rOr, Tw.rNot, Tw.rIf, Tw.rPure, Tw.rChain, Tw.rCut, Tw.rCutF, Tw.rNoPart, Tw.rPart, Tw.rLc, Tw.bOp, Tw.bVal, Tw.bNot, Tw.bAnd, Tw.bOr, Tw.iSeq, Tw.iEnu, Tw.iRev, Tw.iZip, Tw.iRg1, Tw.iRg2, Tw.iRgD1, Tw.gN, Tw.oAdd, Tw.oSub, Tw.oLt, Tw.oLe, Tw.oGt, Tw.oGe, Tw.oMul, Tw.oFdiv, Tw.oMod, Tw.oPow, Tw.oGcd, Tw.oMax, Tw.oMin, Tw.oIx, Tw.oIs, Tw.oIsNot, Tw.isNon, Tw.uNeg, Tw.uLen, Tw.uAbs, Tw.uInt, Tw.uList, Tw.uTuple, Tw.uIsi, Tw.tyT, Tw.startT, Tw.wipeT, Tw.lim, Tw.gTups_tup, Tw.gConss_cons, Tw.gNils_nil, Tw.fMul, Tw.fAdd, Tw.fCut, Tw.sCut, Tw.oEq_int, Tw.oNe_int, Tw.oEqN_lst, Tw.oNeN_lst, Tw.oNeS_same, Tw.sPar3, Tw.rCallK, Tw.iRg3, Tw.oMulT, Tw.sSwap, Tw.sRetF, Tw.rCallF, Tw.rCutF, -Bool.exists_bool, tP]
    rw [cutT_from (by omega), Int.toNat_natCast, show (tQs s).drop i = tQs (s.drop i) from by unfold tQs; rw [List.map_drop]]
    refine ⟨s.drop i, m, m + 1, rfl, by omega, by omega, by omega, ?_⟩
    simp [Tw.sSeq, Tw.sRet, Tw.sRetN, Tw.sSet, Tw.sIf, Tw.sPut, Tw.sApp, Tw.sPop, Tw.sDrop, Tw.sAsg, Tw.sPar, Tw.sNext, Tw.sBreak, Tw.sCont, Tw.sFor, Tw.rVar, Tw.rC, Tw.rOp, Tw.rUn, Tw.rCall, Tw.rCons, Tw.rNil, Tw.rStar, Tw.rTup, Tw.rLst, Tw.rAnd, Tw.rOr, Tw.rNot, Tw.rIf, Tw.rPure, Tw.rChain, Tw.rCut, Tw.rCutF, Tw.rNoPart, Tw.rPart, Tw.rLc, Tw.bOp, Tw.bVal, Tw.bNot, Tw.bAnd, Tw.bOr, Tw.iSeq, Tw.iEnu, Tw.iRev, Tw.iZip, Tw.iRg1, Tw.iRg2, Tw.iRgD1, Tw.gN, Tw.oAdd, Tw.oSub, Tw.oLt, Tw.oLe, Tw.oGt, Tw.oGe, Tw.oMul, Tw.oFdiv, Tw.oMod, Tw.oPow, Tw.oGcd, Tw.oMax, Tw.oMin, Tw.oIx, Tw.oIs, Tw.oIsNot, Tw.isNon, Tw.uNeg, Tw.uLen, Tw.uAbs, Tw.uInt, Tw.uList, Tw.uTuple, Tw.uIsi, Tw.tyT, Tw.startT, Tw.wipeT, Tw.lim, Tw.gTups_tup, Tw.gConss_cons, Tw.gNils_nil, Tw.fMul, Tw.fAdd, Tw.fCut, Tw.sCut, Tw.oEq_int, Tw.oNe_int, Tw.oEqN_lst, Tw.oNeN_lst, Tw.oNeS_same, Tw.sPar3, Tw.rCallK, Tw.iRg3, Tw.oMulT, Tw.sSwap, Tw.sRetF, Tw.rCallF, Tw.rCutF, -Bool.exists_bool]
    have sz2 : SzM 150 (eqA (s.drop i) m (m + 1)) := fun r mr => by
      unfold eqA at mr
      rcases List.mem_append.mp mr with mr | mr
      · obtain ⟨a, _, rfl⟩ := List.mem_map.mp mr
        intro y my
        rcases List.mem_append.mp my with my | my
        · exact sz y (List.mem_of_mem_drop (List.mem_of_mem_drop (List.mem_of_mem_take my)))
        · rw [List.mem_singleton.mp my]; exact ⟨by decide +kernel, by decide +kernel⟩
      · rw [List.mem_singleton.mp mr]
        intro y my
        rcases List.mem_append.mp my with my | my
        · rw [List.eq_of_mem_replicate my]; exact ⟨by decide +kernel, by decide +kernel⟩
        · rw [List.mem_singleton.mp my]; exact Sz.zero (by decide)
    have sz3 : SzL 150 (eqR (m + 1)) := fun y my => by
      unfold eqR at my
      rcases List.mem_append.mp my with my | my
      · rw [List.eq_of_mem_replicate my]; exact Sz.zero (by decide)
      · rw [List.mem_singleton.mp my]; exact ⟨by decide +kernel, by decide +kernel⟩
    have wd : Wd (m + 2) (eqA (s.drop i) m (m + 1)) := fun r mr => by
      unfold eqA at mr
      rcases List.mem_append.mp mr with mr | mr
      · obtain ⟨a, ha, rfl⟩ := List.mem_map.mp mr
        have := List.mem_range.mp ha
        rw [List.length_append, List.length_take, List.length_drop, ld]
        show min (m + 1) _ + 1 = _
        omega
      · rw [List.mem_singleton.mp mr]; simp
    have lA := eqA_len (s.drop i) m (m + 1)
    have p8 : 4 ^ (min (eqA (s.drop i) m (m + 1)).length (m + 2)) * (150 + 1) ≤ 10000000 := by
      rw [lA, Nat.min_self]
      exact Nat.le_trans (Nat.mul_le_mul_right _ (Nat.pow_le_pow_right (by decide) (show m + 1 + 1 ≤ 8 by omega))) (by decide)
    have h2 : 2 * m < (s.drop i).length := by omega
    refine ⟨eqA (s.drop i) m (m + 1), eqR (m + 1), m + 2, 150, rfl, wd, by rw [lA]; unfold eqR; simp, by omega, by omega, sz2, sz3, p8, ?_, fun ker => AnyQ.mk (fun x lx _ sol => ?_) (fun no => ?_)⟩
    · intro ⟨y, hy, k, hk, hn⟩
      simp [Tw.sSeq, Tw.sRet, Tw.sRetN, Tw.sSet, Tw.sIf, Tw.sPut, Tw.sApp, Tw.sPop, Tw.sDrop, Tw.sAsg, Tw.sPar, Tw.sNext, Tw.sBreak, Tw.sCont, Tw.sFor, Tw.rVar, Tw.rC, Tw.rOp, Tw.rUn, Tw.rCall, Tw.rCons, Tw.rNil, Tw.rStar, Tw.rTup, Tw.rLst, Tw.rAnd, Tw.rOr, Tw.rNot, Tw.rIf, Tw.rPure, Tw.rChain, Tw.rCut, Tw.rCutF, Tw.rNoPart, Tw.rPart, Tw.rLc, Tw.bOp, Tw.bVal, Tw.bNot, Tw.bAnd, Tw.bOr, Tw.iSeq, Tw.iEnu, Tw.iRev, Tw.iZip, Tw.iRg1, Tw.iRg2, Tw.iRgD1, Tw.gN, Tw.oAdd, Tw.oSub, Tw.oLt, Tw.oLe, Tw.oGt, Tw.oGe, Tw.oMul, Tw.oFdiv, Tw.oMod, Tw.oPow, Tw.oGcd, Tw.oMax, Tw.oMin, Tw.oIx, Tw.oIs, Tw.oIsNot, Tw.isNon, Tw.uNeg, Tw.uLen, Tw.uAbs, Tw.uInt, Tw.uList, Tw.uTuple, Tw.uIsi, Tw.tyT, Tw.startT, Tw.wipeT, Tw.lim, Tw.gTups_tup, Tw.gConss_cons, Tw.gNils_nil, Tw.fMul, Tw.fAdd, Tw.fCut, Tw.sCut, Tw.oEq_int, Tw.oNe_int, Tw.oEqN_lst, Tw.oNeN_lst, Tw.oNeS_same, Tw.sPar3, Tw.rCallK, Tw.iRg3, Tw.oMulT, Tw.sSwap, Tw.sRetF, Tw.rCallF, Tw.rCutF, -Bool.exists_bool]
      refine h _ (.inr ⟨rfl, .inl ⟨y, ?_, k, hk, hn⟩⟩)
      rw [← eS]; exact (eqs_kill h2).mp hy
    · simp [Tw.sSeq, Tw.sRet, Tw.sRetN, Tw.sSet, Tw.sIf, Tw.sPut, Tw.sApp, Tw.sPop, Tw.sDrop, Tw.sAsg, Tw.sPar, Tw.sNext, Tw.sBreak, Tw.sCont, Tw.sFor, Tw.rVar, Tw.rC, Tw.rOp, Tw.rUn, Tw.rCall, Tw.rCons, Tw.rNil, Tw.rStar, Tw.rTup, Tw.rLst, Tw.rAnd, Tw.rOr, Tw.rNot, Tw.rIf, Tw.rPure, Tw.rChain, Tw.rCut, Tw.rCutF, Tw.rNoPart, Tw.rPart, Tw.rLc, Tw.bOp, Tw.bVal, Tw.bNot, Tw.bAnd, Tw.bOr, Tw.iSeq, Tw.iEnu, Tw.iRev, Tw.iZip, Tw.iRg1, Tw.iRg2, Tw.iRgD1, Tw.gN, Tw.oAdd, Tw.oSub, Tw.oLt, Tw.oLe, Tw.oGt, Tw.oGe, Tw.oMul, Tw.oFdiv, Tw.oMod, Tw.oPow, Tw.oGcd, Tw.oMax, Tw.oMin, Tw.oIx, Tw.oIs, Tw.oIsNot, Tw.isNon, Tw.uNeg, Tw.uLen, Tw.uAbs, Tw.uInt, Tw.uList, Tw.uTuple, Tw.uIsi, Tw.tyT, Tw.startT, Tw.wipeT, Tw.lim, Tw.gTups_tup, Tw.gConss_cons, Tw.gNils_nil, Tw.fMul, Tw.fAdd, Tw.fCut, Tw.sCut, Tw.oEq_int, Tw.oNe_int, Tw.oEqN_lst, Tw.oNeN_lst, Tw.oNeS_same, Tw.sPar3, Tw.rCallK, Tw.iRg3, Tw.oMulT, Tw.sSwap, Tw.sRetF, Tw.rCallF, Tw.rCutF, -Bool.exists_bool, tP]
      refine ⟨tQ (cf x (m + 1)), ?_, h _ (.inl ⟨cf x, ?_, fun y hy => ker y ((eqs_kill h2).mpr (by rw [eS]; exact hy)), rfl⟩)⟩
      · have nx : tQs x ≠ [] := fun z => by
          have := congrArg List.length z
          rw [tQs_len, lx] at this
          simp at this
        rw [atI_neg nx, List.getLast_eq_getElem]
        have e2 : (tQs x)[m + 1]? = some (tQ (cf x (m + 1))) := by
          rw [tQs_get, List.getElem?_eq_getElem (by omega), cf_get (by omega)]; rfl
        have l2 := tQs_len (p := x)
        rw [← e2, List.getElem?_eq_getElem (by omega)]
        congr 2
        omega
      · rw [← eS]; exact (eqs_sol h2).mp sol
    · simp [Tw.sSeq, Tw.sRet, Tw.sRetN, Tw.sSet, Tw.sIf, Tw.sPut, Tw.sApp, Tw.sPop, Tw.sDrop, Tw.sAsg, Tw.sPar, Tw.sNext, Tw.sBreak, Tw.sCont, Tw.sFor, Tw.rVar, Tw.rC, Tw.rOp, Tw.rUn, Tw.rCall, Tw.rCons, Tw.rNil, Tw.rStar, Tw.rTup, Tw.rLst, Tw.rAnd, Tw.rOr, Tw.rNot, Tw.rIf, Tw.rPure, Tw.rChain, Tw.rCut, Tw.rCutF, Tw.rNoPart, Tw.rPart, Tw.rLc, Tw.bOp, Tw.bVal, Tw.bNot, Tw.bAnd, Tw.bOr, Tw.iSeq, Tw.iEnu, Tw.iRev, Tw.iZip, Tw.iRg1, Tw.iRg2, Tw.iRgD1, Tw.gN, Tw.oAdd, Tw.oSub, Tw.oLt, Tw.oLe, Tw.oGt, Tw.oGe, Tw.oMul, Tw.oFdiv, Tw.oMod, Tw.oPow, Tw.oGcd, Tw.oMax, Tw.oMin, Tw.oIx, Tw.oIs, Tw.oIsNot, Tw.isNon, Tw.uNeg, Tw.uLen, Tw.uAbs, Tw.uInt, Tw.uList, Tw.uTuple, Tw.uIsi, Tw.tyT, Tw.startT, Tw.wipeT, Tw.lim, Tw.gTups_tup, Tw.gConss_cons, Tw.gNils_nil, Tw.fMul, Tw.fAdd, Tw.fCut, Tw.sCut, Tw.oEq_int, Tw.oNe_int, Tw.oEqN_lst, Tw.oNeN_lst, Tw.oNeS_same, Tw.sPar3, Tw.rCallK, Tw.iRg3, Tw.oMulT, Tw.sSwap, Tw.sRetF, Tw.rCallF, Tw.rCutF, -Bool.exists_bool]
      refine h _ (.inr ⟨rfl, .inr fun x hx => no x ((eqs_sol h2).mpr ?_)⟩)
      rw [eS]; exact hx
/-- a table of cells -/
structure TabT (s : List Rat) (R : List (List T)) : Prop where
  len : R.length = (s.length + 1) / 2
  row : ∀ m r, R[m]? = some r → r.length = s.length - 2 * m ∧ ∀ i t, r[i]? = some t → CellT (shS (ps s) i) m t
theorem tab_lc (s : List Rat) (m : Nat) (v : Option T) (ls : s.length ≤ 13) (sz : SzL 150 s) : ∀ (n k : Nat) (acc : List T) (Q : List T → Prop) (v3 : Option T), k + n + 2 * m ≤ s.length → (∀ r : List T, r.length = n → (∀ i t, r[i]? = some t → CellT (shS (ps s) (k + i)) m t) → Q (acc ++ r)) →
    wLc (gN 3) bYes (rCall p_cell_by (rCons (rVar 0) (rCons (rVar 2) (rCons (rVar 3) rNil)))) [some (T.tup (tQs s)), v, some (T.int (m : Nat)), v3] ((List.range' k n).map fun i => T.int (i : Nat)) acc Q
  | 0, k, acc, Q, v3, _, h => by
    have := h [] rfl (fun i t e => by simp at e)
    simpa [wLc] using this
  | n + 1, k, acc, Q, v3, hk, h => by
    simp [wLc, Tw.sSeq, Tw.sRet, Tw.sRetN, Tw.sSet, Tw.sIf, Tw.sPut, Tw.sApp, Tw.sPop, Tw.sDrop, Tw.sAsg, Tw.sPar, Tw.sNext, Tw.sBreak, Tw.sCont, Tw.sFor, Tw.rVar, Tw.rC, Tw.rOp, Tw.rUn, Tw.rCall, Tw.rCons, Tw.rNil, Tw.rStar, Tw.rTup, Tw.rLst, Tw.rAnd, Tw.rOr, Tw.rNot, Tw.rIf, Tw.rPure, Tw.rChain, Tw.rCut, Tw.rCutF, Tw.rNoPart, Tw.rPart, Tw.rLc, Tw.bOp, Tw.bVal, Tw.bNot, Tw.bAnd, Tw.bOr, Tw.iSeq, Tw.iEnu, Tw.iRev, Tw.iZip, Tw.iRg1, Tw.iRg2, Tw.iRgD1, Tw.gN, Tw.oAdd, Tw.oSub, Tw.oLt, Tw.oLe, Tw.oGt, Tw.oGe, Tw.oMul, Tw.oFdiv, Tw.oMod, Tw.oPow, Tw.oGcd, Tw.oMax, Tw.oMin, Tw.oIx, Tw.oIs, Tw.oIsNot, Tw.isNon, Tw.uNeg, Tw.uLen, Tw.uAbs, Tw.uInt, Tw.uList, Tw.uTuple, Tw.uIsi, Tw.tyT, Tw.startT, Tw.wipeT, Tw.lim, Tw.gTups_tup, Tw.gConss_cons, Tw.gNils_nil, Tw.fMul, Tw.fAdd, Tw.fCut, Tw.sCut, Tw.oEq_int, Tw.oNe_int, Tw.oEqN_lst, Tw.oNeN_lst, Tw.oNeS_same, Tw.sPar3, Tw.rCallK, Tw.iRg3, Tw.oMulT, Tw.sSwap, Tw.sRetF, Tw.rCallF, Tw.rCutF, -Bool.exists_bool, bYes, List.range'_succ]
    refine ⟨s, m, k, rfl, by omega, ls, sz, fun t ht => ?_⟩
    refine tab_lc s m v ls sz n (k + 1) (acc ++ [t]) Q v3 (by omega) fun r lr hr => ?_
    have := h (t :: r) (by simp [lr]) fun i t2 e => ?_
    · simpa using this
    · cases i with
      | zero =>
        have e : some t = some t2 := e
        cases e
        exact ht
      | succ i =>
        have e : r[i]? = some t2 := e
        have := hr i t2 e
        rw [show k + (i + 1) = k + 1 + i from by omega]
        exact this
def p_table_by : TF := fun ts Q => ∃ s : List Rat, ts = [tP s] ∧ s ≠ [] ∧ s.length ≤ 13 ∧ SzL 150 s ∧ ∀ R, TabT s R → Q (.tup (R.map .tup))
abbrev s_table_by : Stmt := topS 30
abbrev N_table_by : List Str := ["numbers", "found", "order", "index"]
theorem sc_table_by : FnScope N_table_by ["numbers"] (defScope s_table_by) := ⟨rfl, rfl, rfl, by decide +kernel, rfl, by decide +kernel, by decide +kernel⟩
theorem h_table_by (h_cell_by : Has P w K mg base "cell_by" ["numbers", "order", "index"] 48 p_cell_by) (Se : Sees P base) (d : Def K mg "table_by" s_table_by ["numbers"]) (B : Bi mg) : Has P w K mg base "table_by" ["numbers"] 49 p_table_by := by
  have nd := sc_table_by.nd
  refine has_T 48 (N := N_table_by) [1] Se d sc_table_by (by decide) (fun ts Q h => ?_) rfl fun f cdv A outer s H E hr hp => ⟨_, (bs_cons (SsetF 1 nd (ef_lst at_nil))
      (bs_cons (st_for PassesOwn.never rfl (it_r1 (by rfl) (by exact B.n_range) (et_op (o_fdiv hp) (et_op o_add (et_b1 b_len (by rfl) (by exact B.n_len) (by decide +kernel) (Ev 0)) et_int) et_int)) (Gn 2 nd)
      (bs_one (st_app 1 rfl VIS rfl (et_t1 t_tuple (by rfl) (by exact B.n_tuple) (by decide +kernel) (et_lc rfl nd (ic_r1 (by rfl) (by exact B.n_range) (et_op o_sub (et_b1 b_len (by rfl) (by exact B.n_len) (by decide +kernel) (Ev 0)) (et_op o_mul et_int (Ev 2)))) (blkOk_by (own := [("index", 3)]) (N := N_table_by) (sc := defScope s_table_by) (by decide +kernel)) (fun _ _ _ _ _ => (Gn 3 nd)) (fun _ _ _ _ _ => ts_nil) (fun _ _ _ _ _ => (Ec h_cell_by (hr.mono (by decide)) (at_cons (Ev 0) (at_cons (Ev 2) (at_cons (Ev 3) at_nil))))))))))
      (bs_one (st_ret (et_t1 t_tuple (by rfl) (by exact B.n_tuple) (by decide +kernel) (Eo 1)))))), fun ts Q h => ?_⟩
  · obtain ⟨s, rfl, _⟩ := h; rfl
  · obtain ⟨s, rfl, ns, ls, sz, h⟩ := h
    have l0 := len_pos ns
    simp [Tw.sSeq, Tw.sRet, Tw.sRetN, Tw.sSet, Tw.sIf, Tw.sPut, Tw.sApp, Tw.sPop, Tw.sDrop, Tw.sAsg, Tw.sPar, Tw.sNext, Tw.sBreak, Tw.sCont, Tw.sFor, Tw.rVar, Tw.rC, Tw.rOp, Tw.rUn, Tw.rCall, Tw.rCons, Tw.rNil, Tw.rStar, Tw.rTup, Tw.rLst, Tw.rAnd, Tw.rOr, Tw.rNot, Tw.rIf, Tw.rPure, Tw.rChain, Tw.rCut, Tw.rCutF, Tw.rNoPart, Tw.rPart, Tw.rLc, Tw.bOp, Tw.bVal, Tw.bNot, Tw.bAnd, Tw.bOr, Tw.iSeq, Tw.iEnu, Tw.iRev, Tw.iZip, Tw.iRg1, Tw.iRg2, Tw.iRgD1, Tw.gN, Tw.oAdd, Tw.oSub, Tw.oLt, Tw.oLe, Tw.oGt, Tw.oGe, Tw.oMul, Tw.oFdiv, Tw.oMod, Tw.oPow, Tw.oGcd, Tw.oMax, Tw.oMin, Tw.oIx, Tw.oIs, Tw.oIsNot, Tw.isNon, Tw.uNeg, Tw.uLen, Tw.uAbs, Tw.uInt, Tw.uList, Tw.uTuple, Tw.uIsi, Tw.tyT, Tw.startT, Tw.wipeT, Tw.lim, Tw.gTups_tup, Tw.gConss_cons, Tw.gNils_nil, Tw.fMul, Tw.fAdd, Tw.fCut, Tw.sCut, Tw.oEq_int, Tw.oNe_int, Tw.oEqN_lst, Tw.oNeN_lst, Tw.oNeS_same, Tw.sPar3, Tw.rCallK, Tw.iRg3, Tw.oMulT, Tw.sSwap, Tw.sRetF, Tw.rCallF, Tw.rCutF, -Bool.exists_bool, tP, tQs_len]
    have e1 : ((s.length : Int) + 1).fdiv 2 = (((s.length + 1) / 2 : Nat) : Int) := by
      rw [Int.fdiv_eq_ediv_of_nonneg _ (by decide)]; omega
    rw [e1]
    refine ⟨divOk (by decide), ⟨by omega, by omega⟩, ?_⟩
    refine wLoop_cnt (fun k env => ∃ (R : List (List T)) (v2 v3 : Option T), env = [some (T.tup (tQs s)), some (T.lst (R.map .tup)), v2, v3] ∧ R.length = k ∧ ∀ m r, R[m]? = some r → r.length = s.length - 2 * m ∧ ∀ i t, r[i]? = some t → CellT (shS (ps s) i) m t) _ _ 0 (fun m t hi env hI nx hnx => ?_) ⟨[], _, _, rfl, rfl, fun m r e => by simp at e⟩ (fun e he => ?_)
    · have i1 := (List.getElem?_eq_some_iff.mp hi).1
      rw [rgT_len, Int.toNat_natCast] at i1
      rw [rgT_z] at hi
      have ht2 : t = .int (m : Nat) := by
        unfold tN at hi
        rw [List.getElem?_map, List.getElem?_range i1] at hi
        exact (Option.some.inj hi).symm
      subst ht2
      rw [Nat.zero_add] at hI hnx
      obtain ⟨R, v2, v3, rfl, lR, hR⟩ := hI
      simp [Tw.sSeq, Tw.sRet, Tw.sRetN, Tw.sSet, Tw.sIf, Tw.sPut, Tw.sApp, Tw.sPop, Tw.sDrop, Tw.sAsg, Tw.sPar, Tw.sNext, Tw.sBreak, Tw.sCont, Tw.sFor, Tw.rVar, Tw.rC, Tw.rOp, Tw.rUn, Tw.rCall, Tw.rCons, Tw.rNil, Tw.rStar, Tw.rTup, Tw.rLst, Tw.rAnd, Tw.rOr, Tw.rNot, Tw.rIf, Tw.rPure, Tw.rChain, Tw.rCut, Tw.rCutF, Tw.rNoPart, Tw.rPart, Tw.rLc, Tw.bOp, Tw.bVal, Tw.bNot, Tw.bAnd, Tw.bOr, Tw.iSeq, Tw.iEnu, Tw.iRev, Tw.iZip, Tw.iRg1, Tw.iRg2, Tw.iRgD1, Tw.gN, Tw.oAdd, Tw.oSub, Tw.oLt, Tw.oLe, Tw.oGt, Tw.oGe, Tw.oMul, Tw.oFdiv, Tw.oMod, Tw.oPow, Tw.oGcd, Tw.oMax, Tw.oMin, Tw.oIx, Tw.oIs, Tw.oIsNot, Tw.isNon, Tw.uNeg, Tw.uLen, Tw.uAbs, Tw.uInt, Tw.uList, Tw.uTuple, Tw.uIsi, Tw.tyT, Tw.startT, Tw.wipeT, Tw.lim, Tw.gTups_tup, Tw.gConss_cons, Tw.gNils_nil, Tw.fMul, Tw.fAdd, Tw.fCut, Tw.sCut, Tw.oEq_int, Tw.oNe_int, Tw.oEqN_lst, Tw.oNeN_lst, Tw.oNeS_same, Tw.sPar3, Tw.rCallK, Tw.iRg3, Tw.oMulT, Tw.sSwap, Tw.sRetF, Tw.rCallF, Tw.rCutF, -Bool.exists_bool, tQs_len]
      have e2 : (s.length : Int) - 2 * m = ((s.length - 2 * m : Nat) : Int) := by omega
      rw [e2]
      refine ⟨mulOk_l (by decide) (by decide), ⟨by omega, by omega⟩, by rw [rgT_len]; omega, ?_⟩
      rw [rgT0]
      refine tab_lc s m _ ls sz (s.length - 2 * m) 0 [] _ none (by omega) fun r lr hr => ?_
      rw [List.nil_append]
      refine ⟨by omega, ?_⟩
      have e3 : T.lst (R.map .tup ++ [T.tup r]) = T.lst ((R ++ [r]).map .tup) := by rw [List.map_append]; rfl
      rw [e3]
      refine hnx _ ⟨R ++ [r], _, _, rfl, by simp [lR], fun m2 r2 e => ?_⟩
      rw [List.getElem?_append] at e
      split at e
      · exact hR m2 r2 e
      · rename_i z
        have : m2 = m := by
          rcases Nat.lt_or_ge m2 (R.length + 1) with q | q
          · omega
          · rw [List.getElem?_eq_none (by simp; omega)] at e; cases e
        subst this
        rw [lR, Nat.sub_self] at e
        have e : some r = some r2 := e
        cases e
        refine ⟨lr, fun i t ht => ?_⟩
        have := hr i t ht
        rwa [Nat.zero_add] at this
    · obtain ⟨R, v2, v3, rfl, lR, hR⟩ := he
      rw [rgT_len, Int.toNat_natCast, Nat.zero_add] at lR
      simp [Tw.sSeq, Tw.sRet, Tw.sRetN, Tw.sSet, Tw.sIf, Tw.sPut, Tw.sApp, Tw.sPop, Tw.sDrop, Tw.sAsg, Tw.sPar, Tw.sNext, Tw.sBreak, Tw.sCont, Tw.sFor, Tw.rVar, Tw.rC, Tw.rOp, Tw.rUn, Tw.rCall, Tw.rCons, Tw.rNil, Tw.rStar, Tw.rTup, Tw.rLst, Tw.rAnd, Tw.rOr, Tw.rNot, Tw.rIf, Tw.rPure, Tw.rChain, Tw.rCut, Tw.rCutF, Tw.rNoPart, Tw.rPart, Tw.rLc, Tw.bOp, Tw.bVal, Tw.bNot, Tw.bAnd, Tw.bOr, Tw.iSeq, Tw.iEnu, Tw.iRev, Tw.iZip, Tw.iRg1, Tw.iRg2, Tw.iRgD1, Tw.gN, Tw.oAdd, Tw.oSub, Tw.oLt, Tw.oLe, Tw.oGt, Tw.oGe, Tw.oMul, Tw.oFdiv, Tw.oMod, Tw.oPow, Tw.oGcd, Tw.oMax, Tw.oMin, Tw.oIx, Tw.oIs, Tw.oIsNot, Tw.isNon, Tw.uNeg, Tw.uLen, Tw.uAbs, Tw.uInt, Tw.uList, Tw.uTuple, Tw.uIsi, Tw.tyT, Tw.startT, Tw.wipeT, Tw.lim, Tw.gTups_tup, Tw.gConss_cons, Tw.gNils_nil, Tw.fMul, Tw.fAdd, Tw.fCut, Tw.sCut, Tw.oEq_int, Tw.oNe_int, Tw.oEqN_lst, Tw.oNeN_lst, Tw.oNeS_same, Tw.sPar3, Tw.rCallK, Tw.iRg3, Tw.oMulT, Tw.sSwap, Tw.sRetF, Tw.rCallF, Tw.rCutF, -Bool.exists_bool]
      exact h R ⟨lR, hR⟩
def p_check_numbers : TF := fun ts Q => ∃ p : List Rat, ts = [tP p] ∧ p ≠ [] ∧ p.length ≤ 13 ∧ Q .non
abbrev s_check_numbers : Stmt := topS 33
abbrev N_check_numbers : List Str := ["value", "index", "number"]
theorem sc_check_numbers : FnScope N_check_numbers ["value"] (defScope s_check_numbers) := ⟨rfl, rfl, rfl, by decide +kernel, rfl, by decide +kernel, by decide +kernel⟩
theorem h_check_numbers (h_is_ratio : Has P w K mg base "is_ratio" ["value"] 43 p_is_ratio) (c_MOST_NUMBERS : KCs K mg "MOST_NUMBERS" K_MOST_NUMBERS) (Se : Sees P base) (d : Def K mg "check_numbers" s_check_numbers ["value"]) (B : Bi mg) : Has P w K mg base "check_numbers" ["value"] 44 p_check_numbers := by
  have nd := sc_check_numbers.nd
  refine has_T 43 (N := N_check_numbers) [] Se d sc_check_numbers (by decide) (fun ts Q h => ?_) rfl fun f cdv A outer s H E hr hp => ⟨_, (bs_cons (st_if (bt_w (bw_or (bt_not (bt_val (et_isi (n := "tuple") (by decide +kernel) (by rfl) (by exact B.n_isinstance) (by rfl) (by exact B.n_tuple) (by decide +kernel) (Ev 0)))) (bw_or1 (bt_cmp (o_eq hr.units) (Ev 0) (et_tup at_nil) (nomark _)))))
      (bs_one st_never)
      bs_nil)
      (bs_one (st_for PassesOwn.never rfl (it_e (by rfl) (by exact B.n_enumerate) (Ev 0)) (gt_tup (n := 2) rfl (gt_cons (Gn 1 nd) (gt_cons (Gn 2 nd) gt_nil)))
      (bs_one (st_if (bt_w (bw_or (bt_cmp (o_eq hr.units) (Ev 1) (Eg c_MOST_NUMBERS) (nomark _)) (bw_or1 (bt_not (bt_val (Ec h_is_ratio (hr.mono (by decide)) (at_cons (Ev 2) at_nil)))))))
      (bs_one st_never)
      bs_nil))))), fun ts Q h => ?_⟩
  · obtain ⟨p, rfl, _⟩ := h; rfl
  · obtain ⟨p, rfl, np, lp, h⟩ := h
    simp [Tw.sSeq, Tw.sRet, Tw.sRetN, Tw.sSet, Tw.sIf, Tw.sPut, Tw.sApp, Tw.sPop, Tw.sDrop, Tw.sAsg, Tw.sPar, Tw.sNext, Tw.sBreak, Tw.sCont, Tw.sFor, Tw.rVar, Tw.rC, Tw.rOp, Tw.rUn, Tw.rCall, Tw.rCons, Tw.rNil, Tw.rStar, Tw.rTup, Tw.rLst, Tw.rAnd, Tw.rOr, Tw.rNot, Tw.rIf, Tw.rPure, Tw.rChain, Tw.rCut, Tw.rCutF, Tw.rNoPart, Tw.rPart, Tw.rLc, Tw.bOp, Tw.bVal, Tw.bNot, Tw.bAnd, Tw.bOr, Tw.iSeq, Tw.iEnu, Tw.iRev, Tw.iZip, Tw.iRg1, Tw.iRg2, Tw.iRgD1, Tw.gN, Tw.oAdd, Tw.oSub, Tw.oLt, Tw.oLe, Tw.oGt, Tw.oGe, Tw.oMul, Tw.oFdiv, Tw.oMod, Tw.oPow, Tw.oGcd, Tw.oMax, Tw.oMin, Tw.oIx, Tw.oIs, Tw.oIsNot, Tw.isNon, Tw.uNeg, Tw.uLen, Tw.uAbs, Tw.uInt, Tw.uList, Tw.uTuple, Tw.uIsi, Tw.tyT, Tw.startT, Tw.wipeT, Tw.lim, Tw.gTups_tup, Tw.gConss_cons, Tw.gNils_nil, Tw.fMul, Tw.fAdd, Tw.fCut, Tw.sCut, Tw.oEq_int, Tw.oNe_int, Tw.oEqN_lst, Tw.oNeN_lst, Tw.oNeS_same, Tw.sPar3, Tw.rCallK, Tw.iRg3, Tw.oMulT, Tw.sSwap, Tw.sRetF, Tw.rCallF, Tw.rCutF, -Bool.exists_bool, tP, oEq]
    rw [show T.tup (tQs p) = tP p from rfl]
    refine ⟨eqOk_P p [], ?_⟩
    rw [show Tw.eqT (tP p) (T.tup []) = false from (eqT_P p []).trans (decide_eq_false np)]
    (simp only [Bool.false_eq_true, if_false])
    refine wLoop_inv (fun env => ∃ v1 v2, env = [some (tP p), v1, v2]) _ _ (fun t ht env hI nx hnx => ?_) ⟨_, _, rfl⟩ (fun e ⟨v1, v2, he⟩ => ?_)
    · obtain ⟨v1, v2, rfl⟩ := hI
      obtain ⟨k, hk⟩ := List.getElem?_of_mem ht
      obtain ⟨u, hu, rfl⟩ := enT_at hk
      rw [tQs_get] at hu
      have k1 : k < p.length := by
        rcases Nat.lt_or_ge k p.length with z | z
        · exact z
        · rw [List.getElem?_eq_none z] at hu; cases hu
      rw [List.getElem?_eq_getElem k1] at hu
      obtain rfl := Option.some.inj hu
      simp [Tw.sSeq, Tw.sRet, Tw.sRetN, Tw.sSet, Tw.sIf, Tw.sPut, Tw.sApp, Tw.sPop, Tw.sDrop, Tw.sAsg, Tw.sPar, Tw.sNext, Tw.sBreak, Tw.sCont, Tw.sFor, Tw.rVar, Tw.rC, Tw.rOp, Tw.rUn, Tw.rCall, Tw.rCons, Tw.rNil, Tw.rStar, Tw.rTup, Tw.rLst, Tw.rAnd, Tw.rOr, Tw.rNot, Tw.rIf, Tw.rPure, Tw.rChain, Tw.rCut, Tw.rCutF, Tw.rNoPart, Tw.rPart, Tw.rLc, Tw.bOp, Tw.bVal, Tw.bNot, Tw.bAnd, Tw.bOr, Tw.iSeq, Tw.iEnu, Tw.iRev, Tw.iZip, Tw.iRg1, Tw.iRg2, Tw.iRgD1, Tw.gN, Tw.oAdd, Tw.oSub, Tw.oLt, Tw.oLe, Tw.oGt, Tw.oGe, Tw.oMul, Tw.oFdiv, Tw.oMod, Tw.oPow, Tw.oGcd, Tw.oMax, Tw.oMin, Tw.oIx, Tw.oIs, Tw.oIsNot, Tw.isNon, Tw.uNeg, Tw.uLen, Tw.uAbs, Tw.uInt, Tw.uList, Tw.uTuple, Tw.uIsi, Tw.tyT, Tw.startT, Tw.wipeT, Tw.lim, Tw.gTups_tup, Tw.gConss_cons, Tw.gNils_nil, Tw.fMul, Tw.fAdd, Tw.fCut, Tw.sCut, Tw.oEq_int, Tw.oNe_int, Tw.oEqN_lst, Tw.oNeN_lst, Tw.oNeS_same, Tw.sPar3, Tw.rCallK, Tw.iRg3, Tw.oMulT, Tw.sSwap, Tw.sRetF, Tw.rCallF, Tw.rCutF, -Bool.exists_bool, oEq_int]
      rw [if_neg (by omega)]
      refine ⟨tQ p[k], rfl, rfl, _, rfl, ?_⟩
      rw [isQ_Q]
      simp only [if_true]
      exact hnx _ ⟨_, _, rfl⟩
    · subst he
      simp [Tw.sSeq, Tw.sRet, Tw.sRetN, Tw.sSet, Tw.sIf, Tw.sPut, Tw.sApp, Tw.sPop, Tw.sDrop, Tw.sAsg, Tw.sPar, Tw.sNext, Tw.sBreak, Tw.sCont, Tw.sFor, Tw.rVar, Tw.rC, Tw.rOp, Tw.rUn, Tw.rCall, Tw.rCons, Tw.rNil, Tw.rStar, Tw.rTup, Tw.rLst, Tw.rAnd, Tw.rOr, Tw.rNot, Tw.rIf, Tw.rPure, Tw.rChain, Tw.rCut, Tw.rCutF, Tw.rNoPart, Tw.rPart, Tw.rLc, Tw.bOp, Tw.bVal, Tw.bNot, Tw.bAnd, Tw.bOr, Tw.iSeq, Tw.iEnu, Tw.iRev, Tw.iZip, Tw.iRg1, Tw.iRg2, Tw.iRgD1, Tw.gN, Tw.oAdd, Tw.oSub, Tw.oLt, Tw.oLe, Tw.oGt, Tw.oGe, Tw.oMul, Tw.oFdiv, Tw.oMod, Tw.oPow, Tw.oGcd, Tw.oMax, Tw.oMin, Tw.oIx, Tw.oIs, Tw.oIsNot, Tw.isNon, Tw.uNeg, Tw.uLen, Tw.uAbs, Tw.uInt, Tw.uList, Tw.uTuple, Tw.uIsi, Tw.tyT, Tw.startT, Tw.wipeT, Tw.lim, Tw.gTups_tup, Tw.gConss_cons, Tw.gNils_nil, Tw.fMul, Tw.fAdd, Tw.fCut, Tw.sCut, Tw.oEq_int, Tw.oNe_int, Tw.oEqN_lst, Tw.oNeN_lst, Tw.oNeS_same, Tw.sPar3, Tw.rCallK, Tw.iRg3, Tw.oMulT, Tw.sSwap, Tw.sRetF, Tw.rCallF, Tw.rCutF, -Bool.exists_bool]
      exact h
def p_check_from_nought : TF := fun ts Q => ∃ (v : T) (hi : Int), ts = [v, .int hi] ∧ isBetween v 0 hi = true ∧ Q .non
abbrev s_check_from_nought : Stmt := topS 34
abbrev N_check_from_nought : List Str := ["value", "high"]
theorem sc_check_from_nought : FnScope N_check_from_nought ["value", "high"] (defScope s_check_from_nought) := ⟨rfl, rfl, rfl, by decide +kernel, rfl, by decide +kernel, by decide +kernel⟩
theorem h_check_from_nought (h_is_between : Has P w K mg base "is_between" ["value", "low", "high"] 42 p_is_between) (Se : Sees P base) (d : Def K mg "check_from_nought" s_check_from_nought ["value", "high"]) (B : Bi mg) : Has P w K mg base "check_from_nought" ["value", "high"] 43 p_check_from_nought := by
  have nd := sc_check_from_nought.nd
  refine has_T 42 (N := N_check_from_nought) [] Se d sc_check_from_nought (by decide) (fun ts Q h => ?_) rfl fun f cdv A outer s H E hr hp => ⟨_, (bs_one (st_if (bt_not (bt_val (Ec h_is_between (hr.mono (by decide)) (at_cons (Ev 0) (at_cons et_int (at_cons (Ev 1) at_nil))))))
      (bs_one st_never)
      bs_nil)), fun ts Q h => ?_⟩
  · obtain ⟨v, hi, rfl, _⟩ := h; rfl
  · obtain ⟨v, hi, rfl, hv, h⟩ := h
    simp [Tw.sSeq, Tw.sRet, Tw.sRetN, Tw.sSet, Tw.sIf, Tw.sPut, Tw.sApp, Tw.sPop, Tw.sDrop, Tw.sAsg, Tw.sPar, Tw.sNext, Tw.sBreak, Tw.sCont, Tw.sFor, Tw.rVar, Tw.rC, Tw.rOp, Tw.rUn, Tw.rCall, Tw.rCons, Tw.rNil, Tw.rStar, Tw.rTup, Tw.rLst, Tw.rAnd, Tw.rOr, Tw.rNot, Tw.rIf, Tw.rPure, Tw.rChain, Tw.rCut, Tw.rCutF, Tw.rNoPart, Tw.rPart, Tw.rLc, Tw.bOp, Tw.bVal, Tw.bNot, Tw.bAnd, Tw.bOr, Tw.iSeq, Tw.iEnu, Tw.iRev, Tw.iZip, Tw.iRg1, Tw.iRg2, Tw.iRgD1, Tw.gN, Tw.oAdd, Tw.oSub, Tw.oLt, Tw.oLe, Tw.oGt, Tw.oGe, Tw.oMul, Tw.oFdiv, Tw.oMod, Tw.oPow, Tw.oGcd, Tw.oMax, Tw.oMin, Tw.oIx, Tw.oIs, Tw.oIsNot, Tw.isNon, Tw.uNeg, Tw.uLen, Tw.uAbs, Tw.uInt, Tw.uList, Tw.uTuple, Tw.uIsi, Tw.tyT, Tw.startT, Tw.wipeT, Tw.lim, Tw.gTups_tup, Tw.gConss_cons, Tw.gNils_nil, Tw.fMul, Tw.fAdd, Tw.fCut, Tw.sCut, Tw.oEq_int, Tw.oNe_int, Tw.oEqN_lst, Tw.oNeN_lst, Tw.oNeS_same, Tw.sPar3, Tw.rCallK, Tw.iRg3, Tw.oMulT, Tw.sSwap, Tw.sRetF, Tw.rCallF, Tw.rCutF, -Bool.exists_bool]
    exact ⟨v, 0, hi, rfl, by simpa [hv] using h⟩
def p_cell : TF := fun ts Q => ∃ (s : List Rat) (m i : Nat), ts = [tP s, .int m, .int i] ∧ i + 2 * m < s.length ∧ s.length ≤ 13 ∧ SzL 150 s ∧ ∀ t, CellT (shS (ps s) i) m t → Q t
abbrev s_cell : Stmt := topS 35
abbrev N_cell : List Str := ["numbers", "order", "index"]
theorem sc_cell : FnScope N_cell ["numbers", "order", "index"] (defScope s_cell) := ⟨rfl, rfl, rfl, by decide +kernel, rfl, by decide +kernel, by decide +kernel⟩
theorem h_cell (h_check_numbers : Has P w K mg base "check_numbers" ["value"] 44 p_check_numbers) (h_check_from_nought : Has P w K mg base "check_from_nought" ["value", "high"] 43 p_check_from_nought) (h_cell_by : Has P w K mg base "cell_by" ["numbers", "order", "index"] 48 p_cell_by) (Se : Sees P base) (d : Def K mg "cell" s_cell ["numbers", "order", "index"]) (B : Bi mg) : Has P w K mg base "cell" ["numbers", "order", "index"] 49 p_cell := by
  have nd := sc_cell.nd
  refine has_T 48 (N := N_cell) [] Se d sc_cell (by decide) (fun ts Q h => ?_) rfl fun f cdv A outer s H E hr hp => ⟨_, (bs_cons (st_expr (Ec h_check_numbers (hr.mono (by decide)) (at_cons (Ev 0) at_nil)))
      (bs_cons (st_expr (Ec h_check_from_nought (hr.mono (by decide)) (at_cons (Ev 1) (at_cons (et_op (o_fdiv hp) (et_op o_sub (et_b1 b_len (by rfl) (by exact B.n_len) (by decide +kernel) (Ev 0)) et_int) et_int) at_nil))))
      (bs_cons (st_expr (Ec h_check_from_nought (hr.mono (by decide)) (at_cons (Ev 2) (at_cons (et_op o_sub (et_op o_sub (et_b1 b_len (by rfl) (by exact B.n_len) (by decide +kernel) (Ev 0)) (et_op o_mul et_int (Ev 1))) et_int) at_nil))))
      (bs_one (st_ret (Ec h_cell_by (hr.mono (by decide)) (at_cons (Ev 0) (at_cons (Ev 1) (at_cons (Ev 2) at_nil))))))))), fun ts Q h => ?_⟩
  · obtain ⟨s, m, i, rfl, _⟩ := h; rfl
  · obtain ⟨s, m, i, rfl, hl, ls, sz, h⟩ := h
    have ns : s ≠ [] := fun z => by rw [z] at hl; simp at hl
    simp [Tw.sSeq, Tw.sRet, Tw.sRetN, Tw.sSet, Tw.sIf, Tw.sPut, Tw.sApp, Tw.sPop, Tw.sDrop, Tw.sAsg, Tw.sPar, Tw.sNext, Tw.sBreak, Tw.sCont, Tw.sFor, Tw.rVar, Tw.rC, Tw.rOp, Tw.rUn, Tw.rCall, Tw.rCons, Tw.rNil, Tw.rStar, Tw.rTup, Tw.rLst, Tw.rAnd, Tw.rOr, Tw.rNot, Tw.rIf, Tw.rPure, Tw.rChain, Tw.rCut, Tw.rCutF, Tw.rNoPart, Tw.rPart, Tw.rLc, Tw.bOp, Tw.bVal, Tw.bNot, Tw.bAnd, Tw.bOr, Tw.iSeq, Tw.iEnu, Tw.iRev, Tw.iZip, Tw.iRg1, Tw.iRg2, Tw.iRgD1, Tw.gN, Tw.oAdd, Tw.oSub, Tw.oLt, Tw.oLe, Tw.oGt, Tw.oGe, Tw.oMul, Tw.oFdiv, Tw.oMod, Tw.oPow, Tw.oGcd, Tw.oMax, Tw.oMin, Tw.oIx, Tw.oIs, Tw.oIsNot, Tw.isNon, Tw.uNeg, Tw.uLen, Tw.uAbs, Tw.uInt, Tw.uList, Tw.uTuple, Tw.uIsi, Tw.tyT, Tw.startT, Tw.wipeT, Tw.lim, Tw.gTups_tup, Tw.gConss_cons, Tw.gNils_nil, Tw.fMul, Tw.fAdd, Tw.fCut, Tw.sCut, Tw.oEq_int, Tw.oNe_int, Tw.oEqN_lst, Tw.oNeN_lst, Tw.oNeS_same, Tw.sPar3, Tw.rCallK, Tw.iRg3, Tw.oMulT, Tw.sSwap, Tw.sRetF, Tw.rCallF, Tw.rCutF, -Bool.exists_bool]
    refine ⟨s, rfl, ns, ls, ?_⟩
    simp [Tw.sSeq, Tw.sRet, Tw.sRetN, Tw.sSet, Tw.sIf, Tw.sPut, Tw.sApp, Tw.sPop, Tw.sDrop, Tw.sAsg, Tw.sPar, Tw.sNext, Tw.sBreak, Tw.sCont, Tw.sFor, Tw.rVar, Tw.rC, Tw.rOp, Tw.rUn, Tw.rCall, Tw.rCons, Tw.rNil, Tw.rStar, Tw.rTup, Tw.rLst, Tw.rAnd, Tw.rOr, Tw.rNot, Tw.rIf, Tw.rPure, Tw.rChain, Tw.rCut, Tw.rCutF, Tw.rNoPart, Tw.rPart, Tw.rLc, Tw.bOp, Tw.bVal, Tw.bNot, Tw.bAnd, Tw.bOr, Tw.iSeq, Tw.iEnu, Tw.iRev, Tw.iZip, Tw.iRg1, Tw.iRg2, Tw.iRgD1, Tw.gN, Tw.oAdd, Tw.oSub, Tw.oLt, Tw.oLe, Tw.oGt, Tw.oGe, Tw.oMul, Tw.oFdiv, Tw.oMod, Tw.oPow, Tw.oGcd, Tw.oMax, Tw.oMin, Tw.oIx, Tw.oIs, Tw.oIsNot, Tw.isNon, Tw.uNeg, Tw.uLen, Tw.uAbs, Tw.uInt, Tw.uList, Tw.uTuple, Tw.uIsi, Tw.tyT, Tw.startT, Tw.wipeT, Tw.lim, Tw.gTups_tup, Tw.gConss_cons, Tw.gNils_nil, Tw.fMul, Tw.fAdd, Tw.fCut, Tw.sCut, Tw.oEq_int, Tw.oNe_int, Tw.oEqN_lst, Tw.oNeN_lst, Tw.oNeS_same, Tw.sPar3, Tw.rCallK, Tw.iRg3, Tw.oMulT, Tw.sSwap, Tw.sRetF, Tw.rCallF, Tw.rCutF, -Bool.exists_bool, tP, tQs_len]
    have e1 : ((s.length : Int) - 1).fdiv 2 = (((s.length - 1) / 2 : Nat) : Int) := by
      rw [Int.fdiv_eq_ediv_of_nonneg _ (by decide)]; omega
    rw [e1]
    refine ⟨divOk (by decide), _, _, rfl, ?_, mulOk_l (by decide) (by decide), _, _, rfl, ?_, s, m, i, rfl, hl, ls, sz, h⟩
    · simp [isBetween]; omega
    · simp [isBetween]; omega
def p_shanks_table : TF := fun ts Q => ∃ s : List Rat, ts = [tP s] ∧ s ≠ [] ∧ s.length ≤ 13 ∧ SzL 150 s ∧ ∀ R, TabT s R → Q (.tup (R.map .tup))
abbrev s_shanks_table : Stmt := topS 36
abbrev N_shanks_table : List Str := ["numbers"]
theorem sc_shanks_table : FnScope N_shanks_table ["numbers"] (defScope s_shanks_table) := ⟨rfl, rfl, rfl, by decide +kernel, rfl, by decide +kernel, by decide +kernel⟩
theorem h_shanks_table (h_check_numbers : Has P w K mg base "check_numbers" ["value"] 44 p_check_numbers) (h_table_by : Has P w K mg base "table_by" ["numbers"] 49 p_table_by) (Se : Sees P base) (d : Def K mg "shanks_table" s_shanks_table ["numbers"]) (B : Bi mg) : Has P w K mg base "shanks_table" ["numbers"] 50 p_shanks_table := by
  have nd := sc_shanks_table.nd
  refine has_T 49 (N := N_shanks_table) [] Se d sc_shanks_table (by decide) (fun ts Q h => ?_) rfl fun f cdv A outer s H E hr hp => ⟨_, (bs_cons (st_expr (Ec h_check_numbers (hr.mono (by decide)) (at_cons (Ev 0) at_nil)))
      (bs_one (st_ret (Ec h_table_by (hr.mono (by decide)) (at_cons (Ev 0) at_nil))))), fun ts Q h => ?_⟩
  · obtain ⟨s, rfl, _⟩ := h; rfl
  · obtain ⟨s, rfl, ns, ls, sz, h⟩ := h
    simp [Tw.sSeq, Tw.sRet, Tw.sRetN, Tw.sSet, Tw.sIf, Tw.sPut, Tw.sApp, Tw.sPop, Tw.sDrop, Tw.sAsg, Tw.sPar, Tw.sNext, Tw.sBreak, Tw.sCont, Tw.sFor, Tw.rVar, Tw.rC, Tw.rOp, Tw.rUn, Tw.rCall, Tw.rCons, Tw.rNil, Tw.rStar, Tw.rTup, Tw.rLst, Tw.rAnd, Tw.rOr, Tw.rNot, Tw.rIf, Tw.rPure, Tw.rChain, Tw.rCut, Tw.rCutF, Tw.rNoPart, Tw.rPart, Tw.rLc, Tw.bOp, Tw.bVal, Tw.bNot, Tw.bAnd, Tw.bOr, Tw.iSeq, Tw.iEnu, Tw.iRev, Tw.iZip, Tw.iRg1, Tw.iRg2, Tw.iRgD1, Tw.gN, Tw.oAdd, Tw.oSub, Tw.oLt, Tw.oLe, Tw.oGt, Tw.oGe, Tw.oMul, Tw.oFdiv, Tw.oMod, Tw.oPow, Tw.oGcd, Tw.oMax, Tw.oMin, Tw.oIx, Tw.oIs, Tw.oIsNot, Tw.isNon, Tw.uNeg, Tw.uLen, Tw.uAbs, Tw.uInt, Tw.uList, Tw.uTuple, Tw.uIsi, Tw.tyT, Tw.startT, Tw.wipeT, Tw.lim, Tw.gTups_tup, Tw.gConss_cons, Tw.gNils_nil, Tw.fMul, Tw.fAdd, Tw.fCut, Tw.sCut, Tw.oEq_int, Tw.oNe_int, Tw.oEqN_lst, Tw.oNeN_lst, Tw.oNeS_same, Tw.sPar3, Tw.rCallK, Tw.iRg3, Tw.oMulT, Tw.sSwap, Tw.sRetF, Tw.rCallF, Tw.rCutF, -Bool.exists_bool]
    refine ⟨s, rfl, ns, ls, ?_⟩
    simp [Tw.sSeq, Tw.sRet, Tw.sRetN, Tw.sSet, Tw.sIf, Tw.sPut, Tw.sApp, Tw.sPop, Tw.sDrop, Tw.sAsg, Tw.sPar, Tw.sNext, Tw.sBreak, Tw.sCont, Tw.sFor, Tw.rVar, Tw.rC, Tw.rOp, Tw.rUn, Tw.rCall, Tw.rCons, Tw.rNil, Tw.rStar, Tw.rTup, Tw.rLst, Tw.rAnd, Tw.rOr, Tw.rNot, Tw.rIf, Tw.rPure, Tw.rChain, Tw.rCut, Tw.rCutF, Tw.rNoPart, Tw.rPart, Tw.rLc, Tw.bOp, Tw.bVal, Tw.bNot, Tw.bAnd, Tw.bOr, Tw.iSeq, Tw.iEnu, Tw.iRev, Tw.iZip, Tw.iRg1, Tw.iRg2, Tw.iRgD1, Tw.gN, Tw.oAdd, Tw.oSub, Tw.oLt, Tw.oLe, Tw.oGt, Tw.oGe, Tw.oMul, Tw.oFdiv, Tw.oMod, Tw.oPow, Tw.oGcd, Tw.oMax, Tw.oMin, Tw.oIx, Tw.oIs, Tw.oIsNot, Tw.isNon, Tw.uNeg, Tw.uLen, Tw.uAbs, Tw.uInt, Tw.uList, Tw.uTuple, Tw.uIsi, Tw.tyT, Tw.startT, Tw.wipeT, Tw.lim, Tw.gTups_tup, Tw.gConss_cons, Tw.gNils_nil, Tw.fMul, Tw.fAdd, Tw.fCut, Tw.sCut, Tw.oEq_int, Tw.oNe_int, Tw.oEqN_lst, Tw.oNeN_lst, Tw.oNeS_same, Tw.sPar3, Tw.rCallK, Tw.iRg3, Tw.oMulT, Tw.sSwap, Tw.sRetF, Tw.rCallF, Tw.rCutF, -Bool.exists_bool]
    exact ⟨s, rfl, ns, ls, sz, h⟩
abbrev p_law_deck : TF := pWell
abbrev s_law_deck : Stmt := topS 38
abbrev N_law_deck : List Str := ["script", "turn", "salt", "stirred", "each", "great"]
theorem sc_law_deck : FnScope N_law_deck ["script", "turn", "salt"] (defScope s_law_deck) := ⟨rfl, rfl, rfl, by decide +kernel, rfl, by decide +kernel, by decide +kernel⟩
theorem h_law_deck (Se : Sees P base) (d : Def K mg "_law_deck" s_law_deck ["script", "turn", "salt"]) (B : Bi mg) : Has P w K mg base "_law_deck" ["script", "turn", "salt"] 41 p_law_deck := by
  have mi := B.n_int
  have ma := B.n_abs
  have ml := B.n_len
  obtain ⟨f, fd, F, b, g⟩ := d.ex
  refine ⟨f, fd, g, F.kp, b, ?_, fun_lk F⟩
  refine F.ok sc_law_deck (fun vs H Q E h => ?_) fun cdv A outer s H vs Q E hr h => ?_
  · obtain ⟨W, Z, ts, Qt, _, _, r, ⟨ns, i, j, e, _⟩, _⟩ := h
    rw [r.length, e]; rfl
  · obtain ⟨W, Z, ts, Qt, wk, zx, rr, ⟨ns, i, j, rfl, hn, i0, i1, j0, j1, hq⟩, kk⟩ := h
    cases rr with
    | cons r1 rr =>
    cases rr with
    | cons r2 rr =>
    cases rr with
    | cons r3 rr =>
    cases rr
    cases r1 with
    | @scr a _ hS =>
    cases r2
    cases r3
    have hS' : ∀ {W' : Addr → Prop} {H' : Hp}, Step W H W' H' → SqL K H' a (ns.map V.int) := fun s => by
      cases (Rp.scr (K := K) (W := W) (Z := Z) hS).step wk s with
      | scr q =>
        rcases q with ⟨o, q⟩ | q
        · exact .inl (.inr ⟨o, q⟩)
        · exact q _
    refine ⟨_, pss_cons (ps_set (i := 3) sc_law_deck.nd rfl (.inl rfl) (pe_op op_add (pv 2) (pe_op op_mul pe_int (pv 1))))
      (pss_cons (ps_for PassesOwn.never rfl (pi_list (pe_slice sl_list (pv 0) po_none (po_some pe_int))) (pg_name (i := 4) sc_law_deck.nd rfl (.inl rfl))
        (pss_one (ps_set (i := 3) sc_law_deck.nd rfl (.inl rfl) (pe_op op_mod (pe_callTy call_int1 (by rfl) mi (by decide +kernel)
          (pa_cons (pe_op op_add (pe_op op_add (pe_op op_mul (pv 3) pe_int) (pe_op op_mul (pe_op op_mod (pe_callTy call_int1 (by rfl) mi (by decide +kernel) (pa_cons (pv 4) pa_nil)) pe_int) pe_int)) pe_int) pa_nil)) pe_int))))
      (pss_cons (ps_set (i := 5) sc_law_deck.nd rfl (.inl rfl) (pe_ifExp (pt_cmpR op_lt (pv 1) (pe_callB call_len_seq (by rfl) ml PySem.boot_len (pa_cons (pv 0) pa_nil)) (nomark _))
        (pe_callB call_abs (by rfl) ma (by decide +kernel) (pa_cons (pe_callTy call_int1 (by rfl) mi (by decide +kernel) (pa_cons (pe_ix ix_list (pv 0) (pv 1) (fun _ _ => rfl)) pa_nil)) pa_nil)) pe_int))
      (pss_one (ps_ret (pe_lst (pa_cons (pe_ifExp (pt_cmpR op_ge (pv 5) (pe_op op_pow pe_int pe_int) (nomark _)) (pv 5) pe_int) (pa_cons (pv 3) (pa_cons (pv 2) pa_nil)))))))), ?_⟩
    refine ⟨_, rfl, _, rfl, 104651, _, rfl, rfl, .inl ⟨by decide, by decide⟩, _, _, rfl, rfl, ?_⟩
    refine ⟨_, rfl, 12, rfl, a, _, rfl, hS' (Step.refl wk), fun c hc => ?_⟩
    have s1 : Step W H W (upd H c (.lst (cutV (ns.map V.int) none (some 12)))) := Step.put wk hc
    have ec : cutV (ns.map V.int) none (some 12) = (ns.take 12).map V.int := by
      unfold cutV
      rw [HT.sIx_none, List.drop_zero, Nat.sub_zero, List.map_take]
      show List.take (HT.sIx (ns.map V.int).length (ns.map V.int).length (some ((12 : Nat) : Int))) _ = _
      rw [HT.sIx_nat]
      rcases Nat.le_total 12 (ns.map V.int).length with q | q
      · rw [Nat.min_eq_left q]
      · rw [Nat.min_eq_right q, List.take_length, List.take_of_length_le q]
    rw [ec] at s1 ⊢
    have hC : (upd H c (.lst ((ns.take 12).map V.int))) c = some (.lst ((ns.take 12).map V.int)) := upd_same
    refine ⟨c, rfl, ⟨_, .of hC⟩, for_list (xs := (ns.take 12).map V.int) (fun _ σ H' => H' = upd H c (.lst ((ns.take 12).map V.int)) ∧ ∃ z y, σ = [some (.ref a), some (.int i), some (.int j), some (.int z), y, none])
      ⟨rfl, _, none, rfl⟩ (fun _ σ H' _ ⟨e, _⟩ => by rw [e]; exact .of hC) (fun n x σ H' hx hP => ?_) fun σ H' hP => ?_⟩
    · obtain ⟨rfl, z, y, rfl⟩ := hP
      obtain ⟨m, hm⟩ : ∃ m, x = V.int m := by
        rw [List.getElem?_map] at hx
        cases e : (ns.take 12)[n]? with
        | none => rw [e] at hx; cases hx
        | some m => rw [e] at hx; exact ⟨m, (Option.some.inj hx).symm⟩
      subst hm
      have hb : 0 ≤ m % 1000000093 ∧ m % 1000000093 < 1000000093 := ⟨Int.emod_nonneg _ (by decide), Int.emod_lt_of_pos _ (by decide)⟩
      exact ⟨_, rfl, z, 48073, rfl, rfl, .inr ⟨by decide, by decide⟩, _, rfl, .inl ⟨m, rfl, m, 1000000093, rfl, rfl, (by show (0 : Int) < _; decide), _, 3, rfl, rfl, .inr ⟨by decide, by decide⟩, _, _, rfl, rfl, _, 77, rfl, rfl,
        .inl ⟨_, rfl, _, 2147483629, rfl, rfl, (by show (0 : Int) < _; decide), rfl, _, _, rfl⟩⟩⟩
    · obtain ⟨rfl, z, y, rfl⟩ := hP
      have fin : ∀ g : Int, 0 ≤ g → tRet (tLst (tCons (tIf (tTest (tOp (rI0 fun i j => V.bl (decide (j ≤ i))) (tVar 5) (tOp (rI CPow fun i j => V.int (i ^ j.toNat)) (tC (.int 10)) (tC (.int 18))))) (tVar 5) (tC (.int 0))) (tCons (tVar 3) (tCons (tVar 2) tNil))))
          { nx := fun _ H' => Q .non H', rt := Q } [some (.ref a), some (.int i), some (.int j), some (.int z), y, some (.int g)] (upd H c (.lst ((ns.take 12).map V.int))) := fun g g0 => by
        refine ⟨_, rfl, 10, 18, rfl, rfl, ⟨by decide, by decide, by decide⟩, g, _, rfl, rfl, _, rfl, ?_⟩
        have last : ∀ g' : Int, [V.int g', V.int z, V.int j].length ≤ sizeLine ∧ ∀ p, (upd H c (.lst ((ns.take 12).map V.int))) p = none → Q (.ref p) (upd (upd H c (.lst ((ns.take 12).map V.int))) p (.lst [V.int g', V.int z, V.int j])) := fun g' => by
          refine ⟨by show 3 ≤ sizeLine; decide, fun p hp => ?_⟩
          have s2 := Step.put (o := .lst [V.int g', V.int z, V.int j]) s1.ok hp
          have s3 : Step W H (fun b => W b ∨ b = p) (upd (upd H c (.lst ((ns.take 12).map V.int))) p (.lst [V.int g', V.int z, V.int j])) := by
            have s12 := s1.trans s2
            refine ⟨⟨s12.so.keep, fun b q => .inl q, fun b q => ?_, fun _ q => q.elim, s12.so.dom⟩, fun b q => ?_⟩
            · rcases q with q | q
              · exact .inl q
              · subst q; exact .inr (s1.so.none_of hp)
            · rcases q with q | q
              · exact s12.ok b q
              · subst q; exact ⟨_, _, _, upd_same⟩
          exact kk _ hq _ _ _ s3 (.wel (.inr rfl))
        refine (ite2 (fun _ => ?_) (fun _ => ?_))
        · exact ⟨_, rfl, _, rfl, _, rfl, last g⟩
        · exact ⟨_, rfl, _, rfl, last 0⟩
      refine ⟨_, rfl, _, rfl, a, _, rfl, .inl (hS' s1), i, _, rfl, rfl, _, rfl, ite2 (fun hc => ?_) (fun hc => ?_)⟩
      · have hc : i < ((ns.map V.int).length : Int) := of_decide_eq_true hc
        rw [List.length_map] at hc
        have hlt : i.toNat < ns.length := by omega
        have e1 : atI (ns.map V.int) i = some (.int ns[i.toNat]) := by
          have := atI_nat (xs := ns.map V.int) (j := i.toNat) (v := .int ns[i.toNat]) (by rw [List.getElem?_map, List.getElem?_eq_getElem hlt]; rfl)
          rw [Int.toNat_of_nonneg i0] at this
          exact this
        refine ⟨_, rfl, _, rfl, a, _, i, _, rfl, rfl, hS' s1, e1, .inl ⟨_, rfl, _, rfl, fin _ ?_⟩⟩
        split <;> omega
      · exact fin 0 (Int.le_refl 0)
abbrev p_law_roll : TF := pDrop
abbrev s_law_roll : Stmt := topS 39
abbrev N_law_roll : List Str := ["deck", "width", "figure"]
theorem sc_law_roll : FnScope N_law_roll ["deck", "width"] (defScope s_law_roll) := ⟨rfl, rfl, rfl, by decide +kernel, rfl, by decide +kernel, by decide +kernel⟩
theorem at3r {α : Type} (x y z : α) : atI [x, y, z] 0 = some x ∧ atI [x, y, z] 1 = some y ∧ atI [x, y, z] 2 = some z := ⟨rfl, rfl, rfl⟩
theorem h_law_roll (Se : Sees P base) (d : Def K mg "_law_roll" s_law_roll ["deck", "width"]) (B : Bi mg) : Has P w K mg base "_law_roll" ["deck", "width"] 41 p_law_roll := by
  have mi := B.n_int
  obtain ⟨f, fd, F, b, g⟩ := d.ex
  refine ⟨f, fd, g, F.kp, b, ?_, fun_lk F⟩
  refine F.ok sc_law_roll (fun vs H Q E h => ?_) fun cdv A outer s H vs Q E hr h => ?_
  · obtain ⟨W, Z, ts, Qt, _, _, r, ⟨n, e, _⟩, _⟩ := h
    rw [r.length, e]; rfl
  · obtain ⟨W, Z, ts, Qt, wk, zx, rr, ⟨n, rfl, h0, h1, hq⟩, kk⟩ := h
    cases rr with
    | cons r1 rr =>
    cases rr with
    | cons r2 rr =>
    cases rr
    cases r1 with
    | @wel a hW =>
    cases r2
    obtain ⟨gg, bb, ss, e0⟩ := wk a hW
    have ix : ∀ {X : Cx} {own : List Nat}, True := fun {_ _} => trivial
    refine ⟨_, pss_cons (ps_if (pt_cmpR op_gt (pe_ix ix_list (pv 0) pe_int (fun _ _ => rfl)) pe_int (nomark _))
        (pss_cons (ps_set (i := 2) sc_law_roll.nd rfl (.inl rfl) (pe_op op_mod (pe_callTy call_int1 (by rfl) mi (by decide +kernel) (pa_cons (pe_ix ix_list (pv 0) pe_int (fun _ _ => rfl)) pa_nil)) (pv 1)))
        (pss_cons (ps_asg (pe_op op_fdiv (pe_ix ix_list (pv 0) pe_int (fun _ _ => rfl)) (pv 1)) (pg_sub (pv 0) pe_int set_list))
        (pss_one (ps_ret (pv 2))))) pss_nil)
      (pss_cons (ps_asg (pe_op op_mod (pe_callTy call_int1 (by rfl) mi (by decide +kernel) (pa_cons (pe_op op_add (pe_op op_mul (pe_ix ix_list (pv 0) pe_int (fun _ _ => rfl)) pe_int) pe_int) pa_nil)) pe_int) (pg_sub (pv 0) pe_int set_list))
      (pss_cons (ps_asg (pe_op op_mod (pe_callTy call_int1 (by rfl) mi (by decide +kernel) (pa_cons (pe_op op_add (pe_op op_add (pe_op op_mul (pe_ix ix_list (pv 0) pe_int (fun _ _ => rfl)) pe_int) (pe_ix ix_list (pv 0) pe_int (fun _ _ => rfl))) pe_int) pa_nil)) pe_int) (pg_sub (pv 0) pe_int set_list))
      (pss_one (ps_ret (pe_op op_mod (pe_callTy call_int1 (by rfl) mi (by decide +kernel) (pa_cons (pe_op op_fdiv (pe_ix ix_list (pv 0) pe_int (fun _ _ => rfl)) pe_int) pa_nil)) (pv 1)))))), ?_⟩
    have hmod : ∀ z : Int, 0 ≤ z % n ∧ z % n < n := fun z => ⟨Int.emod_nonneg _ (by omega), Int.emod_lt_of_pos _ h0⟩
    have fin : ∀ (H' : Hp) (z : Int), Step W H W H' → Q (.int (z % n)) H' := fun H' z s => kk _ (hq _ (hmod z).1 (hmod z).2) _ H' W s (.int _)
    have upd_get : ∀ (H : Hp) (o : HO), (upd H a o) a = some o := fun H o => upd_same
    refine ⟨_, rfl, a, _, 0, .int gg, rfl, rfl, .of e0, rfl, gg, 0, rfl, rfl, _, rfl, ?_⟩
    refine ite2 (fun hc => ?_) (fun hc => ?_)
    · refine ⟨_, rfl, a, _, 0, .int gg, rfl, rfl, .of e0, rfl, .inl ⟨gg, rfl, _, rfl, gg, n, rfl, rfl, h0, ?_⟩⟩
      refine ⟨_, rfl, a, _, 0, .int gg, rfl, rfl, .of e0, rfl, _, rfl, gg, n, rfl, rfl, ⟨h0, h1⟩, ?_⟩
      refine ⟨_, rfl, a, _, 0, 0, rfl, rfl, e0, rfl, ?_⟩
      exact ⟨_, rfl, fin _ gg (step_well wk hW)⟩
    · refine ⟨_, rfl, a, _, 2, .int ss, rfl, rfl, .of e0, rfl, ss, 5, rfl, rfl, .inr ⟨by decide, by decide⟩, ss * 5, 4021, rfl, rfl, .inl ⟨_, rfl, _, 65536, rfl, rfl, (by show (0 : Int) < _; decide), ?_⟩⟩
      refine ⟨_, rfl, a, _, 2, 2, rfl, rfl, e0, rfl, ?_⟩
      have s1 : Step W H W (upd H a (.lst [.int gg, .int bb, .int ((ss * 5 + 4021) % 65536)])) := step_well wk hW
      refine ⟨_, rfl, a, [.int gg, .int bb, .int ((ss * 5 + 4021) % 65536)], 1, .int bb, rfl, rfl, .of upd_same, rfl, ?_⟩
      refine ⟨bb, 39373, rfl, rfl, .inr ⟨by decide, by decide⟩, ?_⟩
      refine ⟨_, rfl, a, [.int gg, .int bb, .int ((ss * 5 + 4021) % 65536)], 2, .int ((ss * 5 + 4021) % 65536), rfl, rfl, .of upd_same, rfl, _, _, rfl, rfl, _, 1, rfl, rfl, .inl ⟨_, rfl, _, 2147483629, rfl, rfl, (by show (0 : Int) < _; decide), ?_⟩⟩
      refine ⟨_, rfl, a, [.int gg, .int bb, .int ((ss * 5 + 4021) % 65536)], 1, 1, rfl, rfl, upd_same, rfl, ?_⟩
      refine ⟨_, rfl, a, [.int gg, .int ((bb * 39373 + (ss * 5 + 4021) % 65536 + 1) % 2147483629), .int ((ss * 5 + 4021) % 65536)], 1, _, rfl, rfl, .of upd_same, rfl, _, 1013, rfl, rfl, ⟨by decide, by decide⟩, .inl ⟨_, rfl, _, rfl, _, n, rfl, rfl, h0, ?_⟩⟩
      exact fin _ _ (s1.trans (step_well s1.ok hW))
def p_law_pick : TF := fun ts Q => ∃ L : List T, ts = [.wel, .lst L] ∧ 0 < L.length ∧ L.length < 1000000 ∧ ∀ t, t ∈ L → Q t
abbrev s_law_pick : Stmt := topS 40
abbrev N_law_pick : List Str := ["deck", "some"]
theorem sc_law_pick : FnScope N_law_pick ["deck", "some"] (defScope s_law_pick) := ⟨rfl, rfl, rfl, by decide +kernel, rfl, by decide +kernel, by decide +kernel⟩
theorem h_law_pick (h_law_roll : Has P w K mg base "_law_roll" ["deck", "width"] 41 p_law_roll) (Se : Sees P base) (d : Def K mg "_law_pick" s_law_pick ["deck", "some"]) (B : Bi mg) : Has P w K mg base "_law_pick" ["deck", "some"] 42 p_law_pick := by
  have nd := sc_law_pick.nd
  refine has_T 41 (N := N_law_pick) [] Se d sc_law_pick (by decide) (fun ts Q h => ?_) rfl fun f cdv A outer s H E hr hp => ⟨_, (bs_one (st_ret (et_ix (Ev 1) (Ec h_law_roll (hr.mono (by decide)) (at_cons (Ev 0) (at_cons (et_b1 b_len (by rfl) (by exact B.n_len) (by decide +kernel) (Ev 1)) at_nil))) (fun _ _ => rfl)))), fun ts Q h => ?_⟩
  · obtain ⟨L, rfl, _⟩ := h; rfl
  · obtain ⟨L, rfl, h0, h1, h⟩ := h
    simp [Tw.sSeq, Tw.sRet, Tw.sRetN, Tw.sSet, Tw.sIf, Tw.sPut, Tw.sApp, Tw.sPop, Tw.sDrop, Tw.sAsg, Tw.sPar, Tw.sNext, Tw.sBreak, Tw.sCont, Tw.sFor, Tw.rVar, Tw.rC, Tw.rOp, Tw.rUn, Tw.rCall, Tw.rCons, Tw.rNil, Tw.rStar, Tw.rTup, Tw.rLst, Tw.rAnd, Tw.rOr, Tw.rNot, Tw.rIf, Tw.rPure, Tw.rChain, Tw.rCut, Tw.rCutF, Tw.rNoPart, Tw.rPart, Tw.rLc, Tw.bOp, Tw.bVal, Tw.bNot, Tw.bAnd, Tw.bOr, Tw.iSeq, Tw.iEnu, Tw.iRev, Tw.iZip, Tw.iRg1, Tw.iRg2, Tw.iRgD1, Tw.gN, Tw.oAdd, Tw.oSub, Tw.oLt, Tw.oLe, Tw.oGt, Tw.oGe, Tw.oMul, Tw.oFdiv, Tw.oMod, Tw.oPow, Tw.oGcd, Tw.oMax, Tw.oMin, Tw.oIx, Tw.oIs, Tw.oIsNot, Tw.isNon, Tw.uNeg, Tw.uLen, Tw.uAbs, Tw.uInt, Tw.uList, Tw.uTuple, Tw.uIsi, Tw.tyT, Tw.startT, Tw.wipeT, Tw.lim, Tw.gTups_tup, Tw.gConss_cons, Tw.gNils_nil, Tw.fMul, Tw.fAdd, Tw.fCut, Tw.sCut, Tw.oEq_int, Tw.oNe_int, Tw.oEqN_lst, Tw.oNeN_lst, Tw.oNeS_same, Tw.sPar3, Tw.rCallK, Tw.iRg3, Tw.oMulT, Tw.sSwap, Tw.sRetF, Tw.rCallF, Tw.rCutF, -Bool.exists_bool]
    refine ⟨_, rfl, by omega, by omega, fun r r0 r1 => ?_⟩
    have hr : r.toNat < L.length := by omega
    exact ⟨L[r.toNat], by rw [atI_nat' r0, List.getElem?_eq_getElem hr], h _ (List.getElem_mem hr)⟩
def p_law_gcd : TF := fun ts Q => ∃ a b : Nat, ts = [.int a, .int b] ∧ Q (.int (Nat.gcd a b : Nat))
theorem lgcd_loop (D : EndsT) : ∀ (n a b : Nat), b < n → D.nx [some (.int (Nat.gcd a b : Nat)), some (.int 0)] → ∃ m, wIter (bOp oGt (rVar 1) (rC (.int 0))) (sPar 0 1 (rVar 1) (rOp oMod (rUn uInt (rVar 0)) (rVar 1))) D m [some (.int (a : Nat)), some (.int (b : Nat))]
  | n + 1, a, b, hb, h => by
    by_cases h0 : b = 0
    · subst h0
      refine ⟨1, ?_⟩
      simpa [wIter, Tw.sSeq, Tw.sRet, Tw.sRetN, Tw.sSet, Tw.sIf, Tw.sPut, Tw.sApp, Tw.sPop, Tw.sDrop, Tw.sAsg, Tw.sPar, Tw.sNext, Tw.sBreak, Tw.sCont, Tw.sFor, Tw.rVar, Tw.rC, Tw.rOp, Tw.rUn, Tw.rCall, Tw.rCons, Tw.rNil, Tw.rStar, Tw.rTup, Tw.rLst, Tw.rAnd, Tw.rOr, Tw.rNot, Tw.rIf, Tw.rPure, Tw.rChain, Tw.rCut, Tw.rCutF, Tw.rNoPart, Tw.rPart, Tw.rLc, Tw.bOp, Tw.bVal, Tw.bNot, Tw.bAnd, Tw.bOr, Tw.iSeq, Tw.iEnu, Tw.iRev, Tw.iZip, Tw.iRg1, Tw.iRg2, Tw.iRgD1, Tw.gN, Tw.oAdd, Tw.oSub, Tw.oLt, Tw.oLe, Tw.oGt, Tw.oGe, Tw.oMul, Tw.oFdiv, Tw.oMod, Tw.oPow, Tw.oGcd, Tw.oMax, Tw.oMin, Tw.oIx, Tw.oIs, Tw.oIsNot, Tw.isNon, Tw.uNeg, Tw.uLen, Tw.uAbs, Tw.uInt, Tw.uList, Tw.uTuple, Tw.uIsi, Tw.tyT, Tw.startT, Tw.wipeT, Tw.lim, Tw.gTups_tup, Tw.gConss_cons, Tw.gNils_nil, Tw.fMul, Tw.fAdd, Tw.fCut, Tw.sCut, Tw.oEq_int, Tw.oNe_int, Tw.oEqN_lst, Tw.oNeN_lst, Tw.oNeS_same, Tw.sPar3, Tw.rCallK, Tw.iRg3, Tw.oMulT, Tw.sSwap, Tw.sRetF, Tw.rCallF, Tw.rCutF, -Bool.exists_bool] using h
    · have hm : a % b < n := by have := Nat.mod_lt a (Nat.pos_of_ne_zero h0); omega
      obtain ⟨m, hm⟩ := lgcd_loop D n b (a % b) hm (by rw [Nat.gcd_comm, ← Nat.gcd_rec, Nat.gcd_comm]; exact h)
      refine ⟨m + 1, ?_⟩
      have e : ((a : Nat) : Int).fmod ((b : Nat) : Int) = ((a % b : Nat) : Int) := by
        rw [Int.fmod_eq_emod_of_nonneg _ (by omega)]; rfl
      simp [wIter, Tw.sSeq, Tw.sRet, Tw.sRetN, Tw.sSet, Tw.sIf, Tw.sPut, Tw.sApp, Tw.sPop, Tw.sDrop, Tw.sAsg, Tw.sPar, Tw.sNext, Tw.sBreak, Tw.sCont, Tw.sFor, Tw.rVar, Tw.rC, Tw.rOp, Tw.rUn, Tw.rCall, Tw.rCons, Tw.rNil, Tw.rStar, Tw.rTup, Tw.rLst, Tw.rAnd, Tw.rOr, Tw.rNot, Tw.rIf, Tw.rPure, Tw.rChain, Tw.rCut, Tw.rCutF, Tw.rNoPart, Tw.rPart, Tw.rLc, Tw.bOp, Tw.bVal, Tw.bNot, Tw.bAnd, Tw.bOr, Tw.iSeq, Tw.iEnu, Tw.iRev, Tw.iZip, Tw.iRg1, Tw.iRg2, Tw.iRgD1, Tw.gN, Tw.oAdd, Tw.oSub, Tw.oLt, Tw.oLe, Tw.oGt, Tw.oGe, Tw.oMul, Tw.oFdiv, Tw.oMod, Tw.oPow, Tw.oGcd, Tw.oMax, Tw.oMin, Tw.oIx, Tw.oIs, Tw.oIsNot, Tw.isNon, Tw.uNeg, Tw.uLen, Tw.uAbs, Tw.uInt, Tw.uList, Tw.uTuple, Tw.uIsi, Tw.tyT, Tw.startT, Tw.wipeT, Tw.lim, Tw.gTups_tup, Tw.gConss_cons, Tw.gNils_nil, Tw.fMul, Tw.fAdd, Tw.fCut, Tw.sCut, Tw.oEq_int, Tw.oNe_int, Tw.oEqN_lst, Tw.oNeN_lst, Tw.oNeS_same, Tw.sPar3, Tw.rCallK, Tw.iRg3, Tw.oMulT, Tw.sSwap, Tw.sRetF, Tw.rCallF, Tw.rCutF, -Bool.exists_bool, Nat.pos_of_ne_zero h0, h0]
      rw [e]
      exact hm
abbrev s_law_gcd : Stmt := topS 41
abbrev N_law_gcd : List Str := ["one", "two"]
theorem sc_law_gcd : FnScope N_law_gcd ["one", "two"] (defScope s_law_gcd) := ⟨rfl, rfl, rfl, by decide +kernel, rfl, by decide +kernel, by decide +kernel⟩
theorem h_law_gcd  (Se : Sees P base) (d : Def K mg "_law_gcd" s_law_gcd ["one", "two"]) (B : Bi mg) : Has P w K mg base "_law_gcd" ["one", "two"] 41 p_law_gcd := by
  have nd := sc_law_gcd.nd
  refine has_T 40 (N := N_law_gcd) [] Se d sc_law_gcd (by decide) (fun ts Q h => ?_) rfl fun f cdv A outer s H E hr hp => ⟨_, (bs_cons (st_while PassesOwn.never (bt_cmp o_gt (Ev 1) et_int (nomark _))
      (bs_one (st_parNN 0 1 rfl nd (Ev 1) (et_op o_mod (et_t1 t_int (by rfl) (by exact B.n_int) (by decide +kernel) (Ev 0)) (Ev 1)))))
      (bs_one (st_ret (Ev 0)))), fun ts Q h => ?_⟩
  · obtain ⟨a, b, rfl, _⟩ := h; rfl
  · obtain ⟨a, b, rfl, h⟩ := h
    simp [Tw.sSeq, Tw.sRet, Tw.sRetN, Tw.sSet, Tw.sIf, Tw.sPut, Tw.sApp, Tw.sPop, Tw.sDrop, Tw.sAsg, Tw.sPar, Tw.sNext, Tw.sBreak, Tw.sCont, Tw.sFor, Tw.rVar, Tw.rC, Tw.rOp, Tw.rUn, Tw.rCall, Tw.rCons, Tw.rNil, Tw.rStar, Tw.rTup, Tw.rLst, Tw.rAnd, Tw.rOr, Tw.rNot, Tw.rIf, Tw.rPure, Tw.rChain, Tw.rCut, Tw.rCutF, Tw.rNoPart, Tw.rPart, Tw.rLc, Tw.bOp, Tw.bVal, Tw.bNot, Tw.bAnd, Tw.bOr, Tw.iSeq, Tw.iEnu, Tw.iRev, Tw.iZip, Tw.iRg1, Tw.iRg2, Tw.iRgD1, Tw.gN, Tw.oAdd, Tw.oSub, Tw.oLt, Tw.oLe, Tw.oGt, Tw.oGe, Tw.oMul, Tw.oFdiv, Tw.oMod, Tw.oPow, Tw.oGcd, Tw.oMax, Tw.oMin, Tw.oIx, Tw.oIs, Tw.oIsNot, Tw.isNon, Tw.uNeg, Tw.uLen, Tw.uAbs, Tw.uInt, Tw.uList, Tw.uTuple, Tw.uIsi, Tw.tyT, Tw.startT, Tw.wipeT, Tw.lim, Tw.gTups_tup, Tw.gConss_cons, Tw.gNils_nil, Tw.fMul, Tw.fAdd, Tw.fCut, Tw.sCut, Tw.oEq_int, Tw.oNe_int, Tw.oEqN_lst, Tw.oNeN_lst, Tw.oNeS_same, Tw.sPar3, Tw.rCallK, Tw.iRg3, Tw.oMulT, Tw.sSwap, Tw.sRetF, Tw.rCallF, Tw.rCutF, -Bool.exists_bool, sWhile]
    refine lgcd_loop _ (b + 1) a b (Nat.lt_succ_self _) ?_
    simpa [Tw.sSeq, Tw.sRet, Tw.sRetN, Tw.sSet, Tw.sIf, Tw.sPut, Tw.sApp, Tw.sPop, Tw.sDrop, Tw.sAsg, Tw.sPar, Tw.sNext, Tw.sBreak, Tw.sCont, Tw.sFor, Tw.rVar, Tw.rC, Tw.rOp, Tw.rUn, Tw.rCall, Tw.rCons, Tw.rNil, Tw.rStar, Tw.rTup, Tw.rLst, Tw.rAnd, Tw.rOr, Tw.rNot, Tw.rIf, Tw.rPure, Tw.rChain, Tw.rCut, Tw.rCutF, Tw.rNoPart, Tw.rPart, Tw.rLc, Tw.bOp, Tw.bVal, Tw.bNot, Tw.bAnd, Tw.bOr, Tw.iSeq, Tw.iEnu, Tw.iRev, Tw.iZip, Tw.iRg1, Tw.iRg2, Tw.iRgD1, Tw.gN, Tw.oAdd, Tw.oSub, Tw.oLt, Tw.oLe, Tw.oGt, Tw.oGe, Tw.oMul, Tw.oFdiv, Tw.oMod, Tw.oPow, Tw.oGcd, Tw.oMax, Tw.oMin, Tw.oIx, Tw.oIs, Tw.oIsNot, Tw.isNon, Tw.uNeg, Tw.uLen, Tw.uAbs, Tw.uInt, Tw.uList, Tw.uTuple, Tw.uIsi, Tw.tyT, Tw.startT, Tw.wipeT, Tw.lim, Tw.gTups_tup, Tw.gConss_cons, Tw.gNils_nil, Tw.fMul, Tw.fAdd, Tw.fCut, Tw.sCut, Tw.oEq_int, Tw.oNe_int, Tw.oEqN_lst, Tw.oNeN_lst, Tw.oNeS_same, Tw.sPar3, Tw.rCallK, Tw.iRg3, Tw.oMulT, Tw.sSwap, Tw.sRetF, Tw.rCallF, Tw.rCutF, -Bool.exists_bool] using h
def p_law_frac : TF := fun ts Q => ∃ n d : Int, ts = [.int n, .int d] ∧ d ≠ 0 ∧ Q (tQ (Rat.divInt n d))
abbrev s_law_frac : Stmt := topS 42
abbrev N_law_frac : List Str := ["up", "down", "sign", "common"]
theorem sc_law_frac : FnScope N_law_frac ["up", "down"] (defScope s_law_frac) := ⟨rfl, rfl, rfl, by decide +kernel, rfl, by decide +kernel, by decide +kernel⟩
theorem h_law_frac (h_law_gcd : Has P w K mg base "_law_gcd" ["one", "two"] 41 p_law_gcd) (Se : Sees P base) (d : Def K mg "_law_frac" s_law_frac ["up", "down"]) (B : Bi mg) : Has P w K mg base "_law_frac" ["up", "down"] 42 p_law_frac := by
  have nd := sc_law_frac.nd
  refine has_T 41 (N := N_law_frac) [] Se d sc_law_frac (by decide) (fun ts Q h => ?_) rfl fun f cdv A outer s H E hr hp => ⟨_, (bs_cons (Sset 2 nd (et_if (bt_cmp o_lt (Ev 1) et_int (nomark _)) (et_neg et_int) et_int))
      (bs_cons (Sset 3 nd (Ec h_law_gcd (hr.mono (by decide)) (at_cons (et_b1 b_abs (by rfl) (by exact B.n_abs) (by decide +kernel) (Ev 1)) (at_cons (et_b1 b_abs (by rfl) (by exact B.n_abs) (by decide +kernel) (Ev 0)) at_nil))))
      (bs_one (st_ret (et_tup (at_cons (et_op (o_fdiv hp) (et_op o_mul (Ev 2) (Ev 0)) (Ev 3)) (at_cons (et_op (o_fdiv hp) (et_op o_mul (Ev 2) (Ev 1)) (Ev 3)) at_nil))))))), fun ts Q h => ?_⟩
  · obtain ⟨v, n, rfl, _⟩ := h; rfl
  · obtain ⟨n, d, rfl, h0, h⟩ := h
    simp [Tw.sSeq, Tw.sRet, Tw.sRetN, Tw.sSet, Tw.sIf, Tw.sPut, Tw.sApp, Tw.sPop, Tw.sDrop, Tw.sAsg, Tw.sPar, Tw.sNext, Tw.sBreak, Tw.sCont, Tw.sFor, Tw.rVar, Tw.rC, Tw.rOp, Tw.rUn, Tw.rCall, Tw.rCons, Tw.rNil, Tw.rStar, Tw.rTup, Tw.rLst, Tw.rAnd, Tw.rOr, Tw.rNot, Tw.rIf, Tw.rPure, Tw.rChain, Tw.rCut, Tw.rCutF, Tw.rNoPart, Tw.rPart, Tw.rLc, Tw.bOp, Tw.bVal, Tw.bNot, Tw.bAnd, Tw.bOr, Tw.iSeq, Tw.iEnu, Tw.iRev, Tw.iZip, Tw.iRg1, Tw.iRg2, Tw.iRgD1, Tw.gN, Tw.oAdd, Tw.oSub, Tw.oLt, Tw.oLe, Tw.oGt, Tw.oGe, Tw.oMul, Tw.oFdiv, Tw.oMod, Tw.oPow, Tw.oGcd, Tw.oMax, Tw.oMin, Tw.oIx, Tw.oIs, Tw.oIsNot, Tw.isNon, Tw.uNeg, Tw.uLen, Tw.uAbs, Tw.uInt, Tw.uList, Tw.uTuple, Tw.uIsi, Tw.tyT, Tw.startT, Tw.wipeT, Tw.lim, Tw.gTups_tup, Tw.gConss_cons, Tw.gNils_nil, Tw.fMul, Tw.fAdd, Tw.fCut, Tw.sCut, Tw.oEq_int, Tw.oNe_int, Tw.oEqN_lst, Tw.oNeN_lst, Tw.oNeS_same, Tw.sPar3, Tw.rCallK, Tw.iRg3, Tw.oMulT, Tw.sSwap, Tw.sRetF, Tw.rCallF, Tw.rCutF, -Bool.exists_bool]
    rw [← parts_of n d h0] at h
    have g0 : n.natAbs.gcd d.natAbs ≠ 0 := fun z => h0 (Int.natAbs_eq_zero.mp (Nat.eq_zero_of_gcd_eq_zero_right z))
    by_cases hd : 0 < d
    · rw [if_pos hd] at h
      simp [Tw.sSeq, Tw.sRet, Tw.sRetN, Tw.sSet, Tw.sIf, Tw.sPut, Tw.sApp, Tw.sPop, Tw.sDrop, Tw.sAsg, Tw.sPar, Tw.sNext, Tw.sBreak, Tw.sCont, Tw.sFor, Tw.rVar, Tw.rC, Tw.rOp, Tw.rUn, Tw.rCall, Tw.rCons, Tw.rNil, Tw.rStar, Tw.rTup, Tw.rLst, Tw.rAnd, Tw.rOr, Tw.rNot, Tw.rIf, Tw.rPure, Tw.rChain, Tw.rCut, Tw.rCutF, Tw.rNoPart, Tw.rPart, Tw.rLc, Tw.bOp, Tw.bVal, Tw.bNot, Tw.bAnd, Tw.bOr, Tw.iSeq, Tw.iEnu, Tw.iRev, Tw.iZip, Tw.iRg1, Tw.iRg2, Tw.iRgD1, Tw.gN, Tw.oAdd, Tw.oSub, Tw.oLt, Tw.oLe, Tw.oGt, Tw.oGe, Tw.oMul, Tw.oFdiv, Tw.oMod, Tw.oPow, Tw.oGcd, Tw.oMax, Tw.oMin, Tw.oIx, Tw.oIs, Tw.oIsNot, Tw.isNon, Tw.uNeg, Tw.uLen, Tw.uAbs, Tw.uInt, Tw.uList, Tw.uTuple, Tw.uIsi, Tw.tyT, Tw.startT, Tw.wipeT, Tw.lim, Tw.gTups_tup, Tw.gConss_cons, Tw.gNils_nil, Tw.fMul, Tw.fAdd, Tw.fCut, Tw.sCut, Tw.oEq_int, Tw.oNe_int, Tw.oEqN_lst, Tw.oNeN_lst, Tw.oNeS_same, Tw.sPar3, Tw.rCallK, Tw.iRg3, Tw.oMulT, Tw.sSwap, Tw.sRetF, Tw.rCallF, Tw.rCutF, -Bool.exists_bool, show ¬ d < 0 from by omega]
      refine ⟨d.natAbs, n.natAbs, by rw [absI n, show ((d.natAbs : Nat) : Int) = d from by omega], ?_⟩
      rw [Nat.gcd_comm]
      simp [Tw.sSeq, Tw.sRet, Tw.sRetN, Tw.sSet, Tw.sIf, Tw.sPut, Tw.sApp, Tw.sPop, Tw.sDrop, Tw.sAsg, Tw.sPar, Tw.sNext, Tw.sBreak, Tw.sCont, Tw.sFor, Tw.rVar, Tw.rC, Tw.rOp, Tw.rUn, Tw.rCall, Tw.rCons, Tw.rNil, Tw.rStar, Tw.rTup, Tw.rLst, Tw.rAnd, Tw.rOr, Tw.rNot, Tw.rIf, Tw.rPure, Tw.rChain, Tw.rCut, Tw.rCutF, Tw.rNoPart, Tw.rPart, Tw.rLc, Tw.bOp, Tw.bVal, Tw.bNot, Tw.bAnd, Tw.bOr, Tw.iSeq, Tw.iEnu, Tw.iRev, Tw.iZip, Tw.iRg1, Tw.iRg2, Tw.iRgD1, Tw.gN, Tw.oAdd, Tw.oSub, Tw.oLt, Tw.oLe, Tw.oGt, Tw.oGe, Tw.oMul, Tw.oFdiv, Tw.oMod, Tw.oPow, Tw.oGcd, Tw.oMax, Tw.oMin, Tw.oIx, Tw.oIs, Tw.oIsNot, Tw.isNon, Tw.uNeg, Tw.uLen, Tw.uAbs, Tw.uInt, Tw.uList, Tw.uTuple, Tw.uIsi, Tw.tyT, Tw.startT, Tw.wipeT, Tw.lim, Tw.gTups_tup, Tw.gConss_cons, Tw.gNils_nil, Tw.fMul, Tw.fAdd, Tw.fCut, Tw.sCut, Tw.oEq_int, Tw.oNe_int, Tw.oEqN_lst, Tw.oNeN_lst, Tw.oNeS_same, Tw.sPar3, Tw.rCallK, Tw.iRg3, Tw.oMulT, Tw.sSwap, Tw.sRetF, Tw.rCallF, Tw.rCutF, -Bool.exists_bool]
      exact ⟨mulOk_l (by decide) (by decide), divOk (by omega), mulOk_l (by decide) (by decide), divOk (by omega), h⟩
    · rw [if_neg hd] at h
      simp [Tw.sSeq, Tw.sRet, Tw.sRetN, Tw.sSet, Tw.sIf, Tw.sPut, Tw.sApp, Tw.sPop, Tw.sDrop, Tw.sAsg, Tw.sPar, Tw.sNext, Tw.sBreak, Tw.sCont, Tw.sFor, Tw.rVar, Tw.rC, Tw.rOp, Tw.rUn, Tw.rCall, Tw.rCons, Tw.rNil, Tw.rStar, Tw.rTup, Tw.rLst, Tw.rAnd, Tw.rOr, Tw.rNot, Tw.rIf, Tw.rPure, Tw.rChain, Tw.rCut, Tw.rCutF, Tw.rNoPart, Tw.rPart, Tw.rLc, Tw.bOp, Tw.bVal, Tw.bNot, Tw.bAnd, Tw.bOr, Tw.iSeq, Tw.iEnu, Tw.iRev, Tw.iZip, Tw.iRg1, Tw.iRg2, Tw.iRgD1, Tw.gN, Tw.oAdd, Tw.oSub, Tw.oLt, Tw.oLe, Tw.oGt, Tw.oGe, Tw.oMul, Tw.oFdiv, Tw.oMod, Tw.oPow, Tw.oGcd, Tw.oMax, Tw.oMin, Tw.oIx, Tw.oIs, Tw.oIsNot, Tw.isNon, Tw.uNeg, Tw.uLen, Tw.uAbs, Tw.uInt, Tw.uList, Tw.uTuple, Tw.uIsi, Tw.tyT, Tw.startT, Tw.wipeT, Tw.lim, Tw.gTups_tup, Tw.gConss_cons, Tw.gNils_nil, Tw.fMul, Tw.fAdd, Tw.fCut, Tw.sCut, Tw.oEq_int, Tw.oNe_int, Tw.oEqN_lst, Tw.oNeN_lst, Tw.oNeS_same, Tw.sPar3, Tw.rCallK, Tw.iRg3, Tw.oMulT, Tw.sSwap, Tw.sRetF, Tw.rCallF, Tw.rCutF, -Bool.exists_bool, show d < 0 from by omega]
      refine ⟨d.natAbs, n.natAbs, by rw [absI n, show ((d.natAbs : Nat) : Int) = -d from by omega], ?_⟩
      rw [Nat.gcd_comm]
      simp [Tw.sSeq, Tw.sRet, Tw.sRetN, Tw.sSet, Tw.sIf, Tw.sPut, Tw.sApp, Tw.sPop, Tw.sDrop, Tw.sAsg, Tw.sPar, Tw.sNext, Tw.sBreak, Tw.sCont, Tw.sFor, Tw.rVar, Tw.rC, Tw.rOp, Tw.rUn, Tw.rCall, Tw.rCons, Tw.rNil, Tw.rStar, Tw.rTup, Tw.rLst, Tw.rAnd, Tw.rOr, Tw.rNot, Tw.rIf, Tw.rPure, Tw.rChain, Tw.rCut, Tw.rCutF, Tw.rNoPart, Tw.rPart, Tw.rLc, Tw.bOp, Tw.bVal, Tw.bNot, Tw.bAnd, Tw.bOr, Tw.iSeq, Tw.iEnu, Tw.iRev, Tw.iZip, Tw.iRg1, Tw.iRg2, Tw.iRgD1, Tw.gN, Tw.oAdd, Tw.oSub, Tw.oLt, Tw.oLe, Tw.oGt, Tw.oGe, Tw.oMul, Tw.oFdiv, Tw.oMod, Tw.oPow, Tw.oGcd, Tw.oMax, Tw.oMin, Tw.oIx, Tw.oIs, Tw.oIsNot, Tw.isNon, Tw.uNeg, Tw.uLen, Tw.uAbs, Tw.uInt, Tw.uList, Tw.uTuple, Tw.uIsi, Tw.tyT, Tw.startT, Tw.wipeT, Tw.lim, Tw.gTups_tup, Tw.gConss_cons, Tw.gNils_nil, Tw.fMul, Tw.fAdd, Tw.fCut, Tw.sCut, Tw.oEq_int, Tw.oNe_int, Tw.oEqN_lst, Tw.oNeN_lst, Tw.oNeS_same, Tw.sPar3, Tw.rCallK, Tw.iRg3, Tw.oMulT, Tw.sSwap, Tw.sRetF, Tw.rCallF, Tw.rCutF, -Bool.exists_bool]
      refine ⟨mulOk_l (by decide) (by decide), divOk (by omega), mulOk_l (by decide) (by decide), divOk (by omega), ?_⟩
      rw [← Int.neg_fdiv_neg n, ← Int.neg_fdiv_neg d, Int.neg_neg] at h
      exact h
def p_law_plus : TF := fun ts Q => ∃ x y : Rat, ts = [tQ x, tQ y] ∧ Sz 40000000 x ∧ Sz 40000000 y ∧ Q (tQ (x + y))
abbrev s_law_plus : Stmt := topS 43
abbrev N_law_plus : List Str := ["one", "two"]
theorem sc_law_plus : FnScope N_law_plus ["one", "two"] (defScope s_law_plus) := ⟨rfl, rfl, rfl, by decide +kernel, rfl, by decide +kernel, by decide +kernel⟩
theorem h_law_plus (h_law_frac : Has P w K mg base "_law_frac" ["up", "down"] 42 p_law_frac) (Se : Sees P base) (d : Def K mg "_law_plus" s_law_plus ["one", "two"]) (B : Bi mg) : Has P w K mg base "_law_plus" ["one", "two"] 43 p_law_plus := by
  have nd := sc_law_plus.nd
  refine has_T 42 (N := N_law_plus) [] Se d sc_law_plus (by decide) (fun ts Q h => ?_) rfl fun f cdv A outer s H E hr hp => ⟨_, (bs_one (st_ret (Ec h_law_frac (hr.mono (by decide)) (at_cons (et_op o_add (et_op o_mul (et_ix (Ev 0) et_int (fun _ _ => rfl)) (et_ix (Ev 1) et_int (fun _ _ => rfl))) (et_op o_mul (et_ix (Ev 1) et_int (fun _ _ => rfl)) (et_ix (Ev 0) et_int (fun _ _ => rfl)))) (at_cons (et_op o_mul (et_ix (Ev 0) et_int (fun _ _ => rfl)) (et_ix (Ev 1) et_int (fun _ _ => rfl))) at_nil))))), fun ts Q h => ?_⟩
  · obtain ⟨v, n, rfl, _⟩ := h; rfl
  · obtain ⟨x, y, rfl, hx, hy, h⟩ := h
    simp [Tw.sSeq, Tw.sRet, Tw.sRetN, Tw.sSet, Tw.sIf, Tw.sPut, Tw.sApp, Tw.sPop, Tw.sDrop, Tw.sAsg, Tw.sPar, Tw.sNext, Tw.sBreak, Tw.sCont, Tw.sFor, Tw.rVar, Tw.rC, Tw.rOp, Tw.rUn, Tw.rCall, Tw.rCons, Tw.rNil, Tw.rStar, Tw.rTup, Tw.rLst, Tw.rAnd, Tw.rOr, Tw.rNot, Tw.rIf, Tw.rPure, Tw.rChain, Tw.rCut, Tw.rCutF, Tw.rNoPart, Tw.rPart, Tw.rLc, Tw.bOp, Tw.bVal, Tw.bNot, Tw.bAnd, Tw.bOr, Tw.iSeq, Tw.iEnu, Tw.iRev, Tw.iZip, Tw.iRg1, Tw.iRg2, Tw.iRgD1, Tw.gN, Tw.oAdd, Tw.oSub, Tw.oLt, Tw.oLe, Tw.oGt, Tw.oGe, Tw.oMul, Tw.oFdiv, Tw.oMod, Tw.oPow, Tw.oGcd, Tw.oMax, Tw.oMin, Tw.oIx, Tw.oIs, Tw.oIsNot, Tw.isNon, Tw.uNeg, Tw.uLen, Tw.uAbs, Tw.uInt, Tw.uList, Tw.uTuple, Tw.uIsi, Tw.tyT, Tw.startT, Tw.wipeT, Tw.lim, Tw.gTups_tup, Tw.gConss_cons, Tw.gNils_nil, Tw.fMul, Tw.fAdd, Tw.fCut, Tw.sCut, Tw.oEq_int, Tw.oNe_int, Tw.oEqN_lst, Tw.oNeN_lst, Tw.oNeS_same, Tw.sPar3, Tw.rCallK, Tw.iRg3, Tw.oMulT, Tw.sSwap, Tw.sRetF, Tw.rCallF, Tw.rCutF, -Bool.exists_bool, tQ, atI, ixN]
    refine ⟨mulOk hx.n hy.den, mulOk hy.n hx.den, mulOk hx.den hy.den, _, _, rfl, den_ne x y, ?_⟩
    rw [add_divInt]
    exact h
def p_law_times : TF := fun ts Q => ∃ x y : Rat, ts = [tQ x, tQ y] ∧ Sz 40000000 x ∧ Sz 40000000 y ∧ Q (tQ (x * y))
abbrev s_law_times : Stmt := topS 44
abbrev N_law_times : List Str := ["one", "two"]
theorem sc_law_times : FnScope N_law_times ["one", "two"] (defScope s_law_times) := ⟨rfl, rfl, rfl, by decide +kernel, rfl, by decide +kernel, by decide +kernel⟩
theorem h_law_times (h_law_frac : Has P w K mg base "_law_frac" ["up", "down"] 42 p_law_frac) (Se : Sees P base) (d : Def K mg "_law_times" s_law_times ["one", "two"]) (B : Bi mg) : Has P w K mg base "_law_times" ["one", "two"] 43 p_law_times := by
  have nd := sc_law_times.nd
  refine has_T 42 (N := N_law_times) [] Se d sc_law_times (by decide) (fun ts Q h => ?_) rfl fun f cdv A outer s H E hr hp => ⟨_, (bs_one (st_ret (Ec h_law_frac (hr.mono (by decide)) (at_cons (et_op o_mul (et_ix (Ev 0) et_int (fun _ _ => rfl)) (et_ix (Ev 1) et_int (fun _ _ => rfl))) (at_cons (et_op o_mul (et_ix (Ev 0) et_int (fun _ _ => rfl)) (et_ix (Ev 1) et_int (fun _ _ => rfl))) at_nil))))), fun ts Q h => ?_⟩
  · obtain ⟨v, n, rfl, _⟩ := h; rfl
  · obtain ⟨x, y, rfl, hx, hy, h⟩ := h
    simp [Tw.sSeq, Tw.sRet, Tw.sRetN, Tw.sSet, Tw.sIf, Tw.sPut, Tw.sApp, Tw.sPop, Tw.sDrop, Tw.sAsg, Tw.sPar, Tw.sNext, Tw.sBreak, Tw.sCont, Tw.sFor, Tw.rVar, Tw.rC, Tw.rOp, Tw.rUn, Tw.rCall, Tw.rCons, Tw.rNil, Tw.rStar, Tw.rTup, Tw.rLst, Tw.rAnd, Tw.rOr, Tw.rNot, Tw.rIf, Tw.rPure, Tw.rChain, Tw.rCut, Tw.rCutF, Tw.rNoPart, Tw.rPart, Tw.rLc, Tw.bOp, Tw.bVal, Tw.bNot, Tw.bAnd, Tw.bOr, Tw.iSeq, Tw.iEnu, Tw.iRev, Tw.iZip, Tw.iRg1, Tw.iRg2, Tw.iRgD1, Tw.gN, Tw.oAdd, Tw.oSub, Tw.oLt, Tw.oLe, Tw.oGt, Tw.oGe, Tw.oMul, Tw.oFdiv, Tw.oMod, Tw.oPow, Tw.oGcd, Tw.oMax, Tw.oMin, Tw.oIx, Tw.oIs, Tw.oIsNot, Tw.isNon, Tw.uNeg, Tw.uLen, Tw.uAbs, Tw.uInt, Tw.uList, Tw.uTuple, Tw.uIsi, Tw.tyT, Tw.startT, Tw.wipeT, Tw.lim, Tw.gTups_tup, Tw.gConss_cons, Tw.gNils_nil, Tw.fMul, Tw.fAdd, Tw.fCut, Tw.sCut, Tw.oEq_int, Tw.oNe_int, Tw.oEqN_lst, Tw.oNeN_lst, Tw.oNeS_same, Tw.sPar3, Tw.rCallK, Tw.iRg3, Tw.oMulT, Tw.sSwap, Tw.sRetF, Tw.rCallF, Tw.rCutF, -Bool.exists_bool, tQ, atI, ixN]
    refine ⟨mulOk hx.n hy.n, mulOk hx.den hy.den, _, _, rfl, den_ne x y, ?_⟩
    rw [mul_divInt]
    exact h
def p_law_small : TF := fun ts Q => ts = [.wel] ∧ ∀ x : Rat, Sz 3 x → Ov 5 6 x → Q (tQ x)
abbrev s_law_small : Stmt := topS 45
abbrev N_law_small : List Str := ["deck"]
theorem sc_law_small : FnScope N_law_small ["deck"] (defScope s_law_small) := ⟨rfl, rfl, rfl, by decide +kernel, rfl, by decide +kernel, by decide +kernel⟩
theorem h_law_small (h_law_frac : Has P w K mg base "_law_frac" ["up", "down"] 42 p_law_frac) (h_law_roll : Has P w K mg base "_law_roll" ["deck", "width"] 41 p_law_roll) (h_law_pick : Has P w K mg base "_law_pick" ["deck", "some"] 42 p_law_pick) (Se : Sees P base) (d : Def K mg "_law_small" s_law_small ["deck"]) (B : Bi mg) : Has P w K mg base "_law_small" ["deck"] 43 p_law_small := by
  have nd := sc_law_small.nd
  refine has_T 42 (N := N_law_small) [] Se d sc_law_small (by decide) (fun ts Q h => ?_) rfl fun f cdv A outer s H E hr hp => ⟨_, (bs_one (st_ret (Ec h_law_frac (hr.mono (by decide)) (at_cons (et_op o_sub (Ec h_law_roll (hr.mono (by decide)) (at_cons (Ev 0) (at_cons et_int at_nil))) et_int) (at_cons (Ec h_law_pick (hr.mono (by decide)) (at_cons (Ev 0) (at_cons (et_lst (at_cons et_int (at_cons et_int (at_cons et_int (at_cons et_int (at_cons et_int at_nil)))))) at_nil))) at_nil))))), fun ts Q h => ?_⟩
  · obtain ⟨rfl, _⟩ := h; rfl
  · obtain ⟨rfl, h⟩ := h
    simp [Tw.sSeq, Tw.sRet, Tw.sRetN, Tw.sSet, Tw.sIf, Tw.sPut, Tw.sApp, Tw.sPop, Tw.sDrop, Tw.sAsg, Tw.sPar, Tw.sNext, Tw.sBreak, Tw.sCont, Tw.sFor, Tw.rVar, Tw.rC, Tw.rOp, Tw.rUn, Tw.rCall, Tw.rCons, Tw.rNil, Tw.rStar, Tw.rTup, Tw.rLst, Tw.rAnd, Tw.rOr, Tw.rNot, Tw.rIf, Tw.rPure, Tw.rChain, Tw.rCut, Tw.rCutF, Tw.rNoPart, Tw.rPart, Tw.rLc, Tw.bOp, Tw.bVal, Tw.bNot, Tw.bAnd, Tw.bOr, Tw.iSeq, Tw.iEnu, Tw.iRev, Tw.iZip, Tw.iRg1, Tw.iRg2, Tw.iRgD1, Tw.gN, Tw.oAdd, Tw.oSub, Tw.oLt, Tw.oLe, Tw.oGt, Tw.oGe, Tw.oMul, Tw.oFdiv, Tw.oMod, Tw.oPow, Tw.oGcd, Tw.oMax, Tw.oMin, Tw.oIx, Tw.oIs, Tw.oIsNot, Tw.isNon, Tw.uNeg, Tw.uLen, Tw.uAbs, Tw.uInt, Tw.uList, Tw.uTuple, Tw.uIsi, Tw.tyT, Tw.startT, Tw.wipeT, Tw.lim, Tw.gTups_tup, Tw.gConss_cons, Tw.gNils_nil, Tw.fMul, Tw.fAdd, Tw.fCut, Tw.sCut, Tw.oEq_int, Tw.oNe_int, Tw.oEqN_lst, Tw.oNeN_lst, Tw.oNeS_same, Tw.sPar3, Tw.rCallK, Tw.iRg3, Tw.oMulT, Tw.sSwap, Tw.sRetF, Tw.rCallF, Tw.rCutF, -Bool.exists_bool]
    refine ⟨9, rfl, by decide, by decide, fun i i0 i1 => ?_⟩
    simp [Tw.sSeq, Tw.sRet, Tw.sRetN, Tw.sSet, Tw.sIf, Tw.sPut, Tw.sApp, Tw.sPop, Tw.sDrop, Tw.sAsg, Tw.sPar, Tw.sNext, Tw.sBreak, Tw.sCont, Tw.sFor, Tw.rVar, Tw.rC, Tw.rOp, Tw.rUn, Tw.rCall, Tw.rCons, Tw.rNil, Tw.rStar, Tw.rTup, Tw.rLst, Tw.rAnd, Tw.rOr, Tw.rNot, Tw.rIf, Tw.rPure, Tw.rChain, Tw.rCut, Tw.rCutF, Tw.rNoPart, Tw.rPart, Tw.rLc, Tw.bOp, Tw.bVal, Tw.bNot, Tw.bAnd, Tw.bOr, Tw.iSeq, Tw.iEnu, Tw.iRev, Tw.iZip, Tw.iRg1, Tw.iRg2, Tw.iRgD1, Tw.gN, Tw.oAdd, Tw.oSub, Tw.oLt, Tw.oLe, Tw.oGt, Tw.oGe, Tw.oMul, Tw.oFdiv, Tw.oMod, Tw.oPow, Tw.oGcd, Tw.oMax, Tw.oMin, Tw.oIx, Tw.oIs, Tw.oIsNot, Tw.isNon, Tw.uNeg, Tw.uLen, Tw.uAbs, Tw.uInt, Tw.uList, Tw.uTuple, Tw.uIsi, Tw.tyT, Tw.startT, Tw.wipeT, Tw.lim, Tw.gTups_tup, Tw.gConss_cons, Tw.gNils_nil, Tw.fMul, Tw.fAdd, Tw.fCut, Tw.sCut, Tw.oEq_int, Tw.oNe_int, Tw.oEqN_lst, Tw.oNeN_lst, Tw.oNeS_same, Tw.sPar3, Tw.rCallK, Tw.iRg3, Tw.oMulT, Tw.sSwap, Tw.sRetF, Tw.rCallF, Tw.rCutF, -Bool.exists_bool]
    refine ⟨_, rfl, by simp, by simp, fun t ht => ?_⟩
    have hd : ∃ d : Int, t = .int d ∧ d ≠ 0 ∧ d.natAbs < 2 ^ 3 ∧ ∃ e : Int, d * e = 6 ∧ e.natAbs ≤ 6 := by
      simp at ht
      rcases ht with rfl | rfl | rfl
      · exact ⟨_, rfl, by decide, by decide, 6, by decide, by decide⟩
      · exact ⟨_, rfl, by decide, by decide, 3, by decide, by decide⟩
      · exact ⟨_, rfl, by decide, by decide, 2, by decide, by decide⟩
    obtain ⟨d, rfl, d0, d1, e, de, e6⟩ := hd
    refine ⟨_, d, rfl, d0, h _ (sz_divInt d0 (by omega) d1) ⟨(i - 4) * e, ?_, ?_⟩⟩
    · rw [Int.natAbs_mul]
      exact Nat.lt_of_le_of_lt (Nat.mul_le_mul (show (i - 4).natAbs ≤ 4 by omega) e6) (by decide)
    · have hv := castI_ne d0
      rw [Rat.divInt_eq_div, ← de]
      simp only [Rat.intCast_mul]
      grind
def p_law_put : TF := fun ts Q => ∃ (l : List T) (k : Nat) (t : T), ts = [.tup l, .int k, t] ∧ k < l.length ∧ l.length ≤ 1000 ∧ Q (.tup (l.set k t))
abbrev s_law_put : Stmt := topS 46
abbrev N_law_put : List Str := ["line", "at", "thing"]
theorem sc_law_put : FnScope N_law_put ["line", "at", "thing"] (defScope s_law_put) := ⟨rfl, rfl, rfl, by decide +kernel, rfl, by decide +kernel, by decide +kernel⟩
theorem h_law_put  (Se : Sees P base) (d : Def K mg "_law_put" s_law_put ["line", "at", "thing"]) (B : Bi mg) : Has P w K mg base "_law_put" ["line", "at", "thing"] 41 p_law_put := by
  have nd := sc_law_put.nd
  refine has_T 40 (N := N_law_put) [] Se d sc_law_put (by decide) (fun ts Q h => ?_) rfl fun f cdv A outer s H E hr hp => ⟨_, (bs_one (st_ret (et_op o_add (et_op o_add (et_cut (Ev 0) ot_none (ot_some (Ev 1))) (et_tup (at_cons (Ev 2) at_nil))) (et_cut (Ev 0) (ot_some (et_op o_add (Ev 1) et_int)) ot_none)))), fun ts Q h => ?_⟩
  · obtain ⟨l, k, t, rfl, _⟩ := h; rfl
  · obtain ⟨l, k, t, rfl, hk, hl, h⟩ := h
    simp [Tw.sSeq, Tw.sRet, Tw.sRetN, Tw.sSet, Tw.sIf, Tw.sPut, Tw.sApp, Tw.sPop, Tw.sDrop, Tw.sAsg, Tw.sPar, Tw.sNext, Tw.sBreak, Tw.sCont, Tw.sFor, Tw.rVar, Tw.rC, Tw.rOp, Tw.rUn, Tw.rCall, Tw.rCons, Tw.rNil, Tw.rStar, Tw.rTup, Tw.rLst, Tw.rAnd, Tw.rOr, Tw.rNot, Tw.rIf, Tw.rPure, Tw.rChain, Tw.rCut, Tw.rCutF, Tw.rNoPart, Tw.rPart, Tw.rLc, Tw.bOp, Tw.bVal, Tw.bNot, Tw.bAnd, Tw.bOr, Tw.iSeq, Tw.iEnu, Tw.iRev, Tw.iZip, Tw.iRg1, Tw.iRg2, Tw.iRgD1, Tw.gN, Tw.oAdd, Tw.oSub, Tw.oLt, Tw.oLe, Tw.oGt, Tw.oGe, Tw.oMul, Tw.oFdiv, Tw.oMod, Tw.oPow, Tw.oGcd, Tw.oMax, Tw.oMin, Tw.oIx, Tw.oIs, Tw.oIsNot, Tw.isNon, Tw.uNeg, Tw.uLen, Tw.uAbs, Tw.uInt, Tw.uList, Tw.uTuple, Tw.uIsi, Tw.tyT, Tw.startT, Tw.wipeT, Tw.lim, Tw.gTups_tup, Tw.gConss_cons, Tw.gNils_nil, Tw.fMul, Tw.fAdd, Tw.fCut, Tw.sCut, Tw.oEq_int, Tw.oNe_int, Tw.oEqN_lst, Tw.oNeN_lst, Tw.oNeS_same, Tw.sPar3, Tw.rCallK, Tw.iRg3, Tw.oMulT, Tw.sSwap, Tw.sRetF, Tw.rCallF, Tw.rCutF, -Bool.exists_bool]
    rw [cutT_to (by omega), cutT_from (by omega)]
    have e1 : (((k : Int)).toNat = k) := by omega
    have e2 : ((k : Int) + 1).toNat = k + 1 := by omega
    rw [e1, e2]
    refine ⟨by rw [List.length_take]; omega, by rw [List.length_take, List.length_drop]; omega, ?_⟩
    rw [← List.set_eq_take_append_cons_drop_of hk]
    exact h
def wvB : List Rat := [2, -1, Rat.divInt 1 2, Rat.divInt (-1) 2, 3, -2, Rat.divInt 1 3]
def ln (f : Nat → Rat) : List Rat := (List.range 13).map f
theorem ln_len (f : Nat → Rat) : (ln f).length = 13 := by unfold ln; rw [List.length_map, List.length_range]
theorem ln_get {f : Nat → Rat} {k : Nat} (h : k < 13) : (ln f)[k]? = some (f k) := by
  unfold ln
  rw [List.getElem?_map, List.getElem?_range h]; rfl
theorem ln_getE {f : Nat → Rat} {i : Nat} (h : i < (ln f).length) : (ln f)[i] = f i := by
  have h2 : i < 13 := by rw [ln_len] at h; exact h
  have e := ln_get (f := f) h2
  rw [List.getElem?_eq_getElem h] at e
  exact Option.some.inj e
theorem ln_set (f : Nat → Rat) (k : Nat) (v : Rat) : (ln f).set k v = ln fun n => if n = k then v else f n := by
  refine List.ext_getElem (by rw [List.length_set, ln_len, ln_len]) fun i h1 h2 => ?_
  rw [List.getElem_set, ln_getE, ln_getE]
  by_cases e : i = k
  · subst e; simp
  · rw [if_neg (fun z => e z.symm), if_neg e]
theorem ln_congr {f g : Nat → Rat} (h : ∀ k, k < 13 → f k = g k) : ln f = ln g := by
  unfold ln
  exact List.map_congr_left fun k m => h k (List.mem_range.mp m)
/-- a row of an order that waves about its end -/
structure Wvg (k a r : Nat) (t u : List Rat) (F : Tw.PS) : Prop where
  w : Wav t u F r
  rest : ∀ j, k ≤ j → j < 3 → Cop [1, -(wvB.getD ((a + j) % 7) 0)] u
  sq : k ≤ 1 → Cop [1, 0, 1] u
  le : r ≤ 4
  lo : k ≤ r
theorem wvB_ne : ∀ i, i < 7 → wvB.getD i 0 ≠ 1 ∧ wvB.getD i 0 ≠ 0 ∧ Sz 2 (wvB.getD i 0) := by
  have key : ∀ i, i < 7 → wvB.getD i 0 ≠ 1 ∧ wvB.getD i 0 ≠ 0 ∧ (wvB.getD i 0).num.natAbs < 2 ^ 2 ∧ (wvB.getD i 0).den < 2 ^ 2 := by decide +kernel
  exact fun i hi => ⟨(key i hi).1, (key i hi).2.1, (key i hi).2.2.1, (key i hi).2.2.2⟩
theorem wvB_inj : ∀ i, i < 7 → ∀ j, j < 7 → i ≠ j → wvB.getD i 0 ≠ wvB.getD j 0 := by decide +kernel
theorem li_ok {b : Rat} (h1 : b ≠ 1) : Tr [1, -b] ∨ b = 0 := by
  by_cases c : b = 0
  · exact .inr c
  · exact .inl (tr_last (x := -b) rfl (by grind))
theorem pval_li (b : Rat) : pval [1, -b] 1 = 1 - b := by show (1 : Rat) + 1 * (-b + 1 * 0) = _; grind
theorem Wvg.step1 {k a r : Nat} {t u : List Rat} {F : Tw.PS} {h : Rat} (v : Wvg k a r t u F) (k3 : k < 3) (h0 : h ≠ 0) (hr : r < 3) : ∃ t' u', Wvg (k + 1) a (r + 1) t' u' (F + geo h (wvB.getD ((a + k) % 7) 0)) := by
  obtain ⟨b1, b0, _⟩ := wvB_ne ((a + k) % 7) (Nat.mod_lt _ (by decide))
  generalize hb : wvB.getD ((a + k) % 7) 0 = b at *
  have tD : Tr [1, -b] := (li_ok b1).resolve_right b0
  have cu := v.rest k (Nat.le_refl _) k3
  rw [hb] at cu
  obtain ⟨t', w'⟩ := v.w.add (e := 1) (geo_eq h b) (Cop.const h0 (ps_one h)) cu tD (show (1 : Rat) ≠ 0 by decide) rfl (Nat.le_refl 1) (by rw [pval_li]; grind)
  refine ⟨t', _, w', fun j hj j3 => ?_, fun k1 => ?_, by have := v.le; omega, by have := v.lo; omega⟩
  · refine ((v.rest j (by omega) j3).symm.mul ?_ (ps_prod _ _)).symm
    refine (cop_lin fun z => ?_).symm
    rw [← hb] at z
    exact wvB_inj _ (Nat.mod_lt _ (by decide)) _ (Nat.mod_lt _ (by decide)) (by omega) z
  · refine ((v.sq (by omega)).symm.mul ?_ (ps_prod _ _)).symm
    exact cop_sqr (by decide)
theorem Wvg.step2 {k a r : Nat} {t u : List Rat} {F : Tw.PS} {h : Rat} (v : Wvg k a r t u F) (k3 : k < 3) (h0 : h ≠ 0) (hr : r < 3) : ∃ t' u', Wvg (k + 1) a (r + 2) t' u' (F + geo2 h (wvB.getD ((a + k) % 7) 0)) := by
  obtain ⟨b1, b0, _⟩ := wvB_ne ((a + k) % 7) (Nat.mod_lt _ (by decide))
  generalize hb : wvB.getD ((a + k) % 7) 0 = b at *
  have tD : Tr [1, -b] := (li_ok b1).resolve_right b0
  have nD : ([1, -b] : List Rat) ≠ [] := List.cons_ne_nil _ _
  have cu := v.rest k (Nat.le_refl _) k3
  rw [hb] at cu
  have e2 : ps (prodP [1, -b] [1, -b]) * geo2 h b = ps [h] := by
    rw [ps_prod, show ps [1, -b] * ps [1, -b] * geo2 h b = ps [1, -b] * (ps [1, -b] * geo2 h b) from by grind, geo2_eq, geo_eq]
  obtain ⟨t', w'⟩ := v.w.add (e := 2) e2 (Cop.const h0 (ps_one h)) (cu.mul cu (ps_prod _ _)) (tr_trim _) (by rw [cf_prod0]; show (1 : Rat) * 1 ≠ 0; rw [Rat.mul_one]; decide) (by rw [prod_lenE tD nD tD nD]; rfl) (by show 1 ≤ 2; decide) (by
    rw [pval_prod, pval_li]
    intro z
    rcases Rat.mul_eq_zero.mp z with z | z <;> exact b1 (by grind))
  refine ⟨t', _, w', fun j hj j3 => ?_, fun k1 => ?_, by have := v.le; omega, by have := v.lo; omega⟩
  · have c1 : Cop [1, -(wvB.getD ((a + j) % 7) 0)] [1, -b] := cop_lin fun z => by
      rw [← hb] at z
      exact wvB_inj _ (Nat.mod_lt _ (by decide)) _ (Nat.mod_lt _ (by decide)) (by omega) z
    refine ((v.rest j (by omega) j3).symm.mul (c1.symm.mul c1.symm (ps_prod _ _)) (ps_prod _ _)).symm
  · have c1 : Cop [1, -b] [1, 0, 1] := cop_sqr (by decide)
    exact ((v.sq (by omega)).symm.mul (c1.mul c1 (ps_prod _ _)) (ps_prod _ _)).symm
theorem Wvg.stepT {a r : Nat} {t u : List Rat} {F : Tw.PS} {x y : Rat} (v : Wvg 1 a r t u F) (x0 : x ≠ 0) (hr : r < 3) : ∃ t' u', Wvg 2 a (r + 2) t' u' (F + turnS x y) := by
  obtain ⟨t', w'⟩ := v.w.add (e := 2) (turn_eq x y) (cop_sqr x0) (v.sq (Nat.le_refl _)) (tr_last (x := 1) rfl (by decide)) (by decide) rfl (Nat.le_refl 2) (by decide +kernel)
  refine ⟨t', _, w', fun j hj j3 => ?_, fun k1 => absurd k1 (by decide), by have := v.le; omega, by have := v.lo; omega⟩
  exact ((v.rest j (by omega) j3).symm.mul (cop_sqr (by decide)).symm (ps_prod _ _)).symm
theorem wvg_0 (a : Nat) : Wvg 0 a 0 [] [1] 0 := by
  refine ⟨⟨by rw [ps_nil]; grind, (cop_1 _).symm, tr_one (by decide), by decide, rfl, Nat.le_refl 0, by decide +kernel⟩, fun _ _ _ => (cop_1 _).symm, fun _ => (cop_1 _).symm, by decide, by decide⟩
theorem split_mode {c : Prop} [Decidable c] {TURN MODE : Prop} (m : MODE) (h : c → TURN) : if c then p_law_roll [T.wel, T.int 3] (fun x => oEq x (T.int 0) fun u_1 => ∃ b, u_1 = T.bl b ∧ if b = true then TURN else MODE) else MODE := by
  by_cases hc : c
  · rw [if_pos hc]
    refine ⟨3, rfl, by decide, by decide, fun i _ _ => ?_⟩
    dsimp only
    rw [oEq_int]
    refine ⟨_, rfl, ?_⟩
    split
    · exact h hc
    · exact m
  · rw [if_neg hc]; exact m
theorem tQ_int (i : Int) : T.tup [T.int i, T.int 1] = tQ (i : Rat) := by unfold tQ; rw [Rat.num_intCast, Rat.den_intCast]; rfl
theorem tQ_nat (n : Nat) : T.tup [T.int (n : Nat), T.int 1] = tQ (n : Rat) := by unfold tQ; rw [Rat.num_natCast, Rat.den_natCast]; rfl
def p_law_waving : TF := fun ts Q => ts = [.wel] ∧ ∀ (t u : List Rat) (F : Tw.PS) (r : Nat) (g : Rat), Wav t u F r → r ≤ 4 → Sz 3 g → SzL 130 (ln fun n => g + F.c n) → Q (.tup [tLQ (ln fun n => g + F.c n), tQ g, .int (r : Nat)])
abbrev s_law_waving : Stmt := topS 47
abbrev N_law_waving : List Str := ["deck", "some", "again", "goal", "often", "line", "rank", "first", "height", "turns", "power", "at", "own", "base", "slope"]
theorem sc_law_waving : FnScope N_law_waving ["deck"] (defScope s_law_waving) := ⟨rfl, rfl, rfl, by decide +kernel, rfl, by decide +kernel, by decide +kernel⟩
theorem h_law_waving (h_law_small : Has P w K mg base "_law_small" ["deck"] 43 p_law_small) (h_law_pick : Has P w K mg base "_law_pick" ["deck", "some"] 42 p_law_pick) (h_law_roll : Has P w K mg base "_law_roll" ["deck", "width"] 41 p_law_roll) (h_law_plus : Has P w K mg base "_law_plus" ["one", "two"] 43 p_law_plus) (h_law_times : Has P w K mg base "_law_times" ["one", "two"] 43 p_law_times) (Se : Sees P base) (d : Def K mg "_law_waving" s_law_waving ["deck"]) (B : Bi mg) : Has P w K mg base "_law_waving" ["deck"] 44 p_law_waving := by
  have nd := sc_law_waving.nd
  refine has_T 43 (N := N_law_waving) [5] Se d sc_law_waving (by decide) (fun ts Q h => ?_) rfl fun f cdv A outer s H E hr hp => ⟨_, (bs_cons (st_parNN 3 4 rfl nd (Ec h_law_small (hr.mono (by decide)) (at_cons (Ev 0) at_nil)) (Ec h_law_pick (hr.mono (by decide)) (at_cons (Ev 0) (at_cons (et_lst (at_cons et_int (at_cons et_int (at_cons et_int (at_cons et_int (at_cons et_int (at_cons et_int (at_cons et_int at_nil)))))))) at_nil))))
      (bs_cons (Sset 1 nd (et_lst (at_cons (et_tup (at_cons et_int (at_cons et_int at_nil))) (at_cons (et_tup (at_cons (et_neg et_int) (at_cons et_int at_nil))) (at_cons (et_tup (at_cons et_int (at_cons et_int at_nil))) (at_cons (et_tup (at_cons (et_neg et_int) (at_cons et_int at_nil))) (at_cons (et_tup (at_cons et_int (at_cons et_int at_nil))) (at_cons (et_tup (at_cons (et_neg et_int) (at_cons et_int at_nil))) (at_cons (et_tup (at_cons et_int (at_cons et_int at_nil))) at_nil)))))))))
      (bs_cons (st_asgFNN 5 6 7 rfl nd (ef_mul (et_lst (at_cons (Ev 3) at_nil)) et_int) et_int (Ec h_law_roll (hr.mono (by decide)) (at_cons (Ev 0) (at_cons et_int at_nil))))
      (bs_cons (st_for PassesOwn.never rfl (it_r1 (by rfl) (by exact B.n_range) (Ev 4)) (Gn 2 nd)
      (bs_cons (st_if (bt_cmp o_ge (Ev 6) et_int (nomark _))
      (bs_one st_break)
      bs_nil)
      (bs_cons (Sset 8 nd (et_tup (at_cons (Ec h_law_pick (hr.mono (by decide)) (at_cons (Ev 0) (at_cons (et_lst (at_cons et_int (at_cons (et_neg et_int) (at_cons et_int (at_cons et_int at_nil))))) at_nil))) (at_cons et_int at_nil))))
      (bs_one (st_if (bt_w (bw_and (bt_cmp (o_eq hr.units) (Ev 2) et_int (nomark _)) (bw_and1 (bt_cmp (o_eq hr.units) (Ec h_law_roll (hr.mono (by decide)) (at_cons (Ev 0) (at_cons et_int at_nil))) et_int (nomark _)))))
      (bs_cons (st_parNN 12 6 rfl nd (et_lst (at_cons (Ev 8) (at_cons (Ec h_law_small (hr.mono (by decide)) (at_cons (Ev 0) at_nil)) at_nil))) (et_op o_add (Ev 6) et_int))
      (bs_cons (Sset 9 nd (et_lst (at_cons (et_ix (Ev 12) et_int (fun _ _ => rfl)) (at_cons (et_ix (Ev 12) et_int (fun _ _ => rfl)) (at_cons (et_tup (at_cons (et_neg (et_ix (et_ix (Ev 12) et_int (fun _ _ => rfl)) et_int (fun _ _ => rfl))) (at_cons (et_ix (et_ix (Ev 12) et_int (fun _ _ => rfl)) et_int (fun _ _ => rfl)) at_nil))) (at_cons (et_tup (at_cons (et_neg (et_ix (et_ix (Ev 12) et_int (fun _ _ => rfl)) et_int (fun _ _ => rfl))) (at_cons (et_ix (et_ix (Ev 12) et_int (fun _ _ => rfl)) et_int (fun _ _ => rfl)) at_nil))) at_nil))))))
      (bs_one (SsetF 5 nd (ef_lc rfl nd (ic_r1 (by rfl) (by exact B.n_range) et_int) (blkOk_by (own := [("at", 11)]) (N := N_law_waving) (sc := defScope s_law_waving) (by decide +kernel)) (fun _ _ _ _ _ => (Gn 11 nd)) (fun _ _ _ _ _ => ts_nil) (fun _ _ _ _ _ => (Ec h_law_plus (hr.mono (by decide)) (at_cons (et_ix (Eo 5) (Ev 11) (fun _ _ => rfl)) (at_cons (et_ix (Ev 9) (et_op o_sub (Ev 11) (et_op o_mul (et_op (o_fdiv hp) (Ev 11) et_int) et_int)) (fun _ _ => rfl)) at_nil)))))))))
      (bs_cons (st_parNN 13 14 rfl nd (et_ix (Ev 1) (et_op o_mod (et_t1 t_int (by rfl) (by exact B.n_int) (by decide +kernel) (et_op o_add (Ev 7) (Ev 2))) et_int) (fun _ _ => rfl)) (et_tup (at_cons (et_op (o_fdiv hp) (Ec h_law_roll (hr.mono (by decide)) (at_cons (Ev 0) (at_cons et_int at_nil))) et_int) (at_cons et_int at_nil))))
      (bs_cons (Sset 6 nd (et_op o_add (et_op o_add (Ev 6) et_int) (et_ix (Ev 14) et_int (fun _ _ => rfl))))
      (bs_cons (Sset 10 nd (Ev 8))
      (bs_one (st_for PassesOwn.never rfl (it_r1 (by rfl) (by exact B.n_range) et_int) (Gn 11 nd)
      (bs_cons (st_put 5 rfl VIS rfl (Ev 11) (Ec h_law_plus (hr.mono (by decide)) (at_cons (et_ix (Eo 5) (Ev 11) (fun _ _ => rfl)) (at_cons (Ec h_law_times (hr.mono (by decide)) (at_cons (Ev 10) (at_cons (Ec h_law_plus (hr.mono (by decide)) (at_cons (et_tup (at_cons et_int (at_cons et_int at_nil))) (at_cons (Ec h_law_times (hr.mono (by decide)) (at_cons (Ev 14) (at_cons (et_tup (at_cons (Ev 11) (at_cons et_int at_nil))) at_nil))) at_nil))) at_nil))) at_nil))))
      (bs_one (Sset 10 nd (Ec h_law_times (hr.mono (by decide)) (at_cons (Ev 10) (at_cons (Ev 13) at_nil))))))))))))))))
      (bs_one (st_ret (et_tup (at_cons (Eo 5) (at_cons (Ev 3) (at_cons (Ev 6) at_nil)))))))))), fun ts Q h => ?_⟩
  · obtain ⟨rfl, _⟩ := h; rfl
  · obtain ⟨rfl, h⟩ := h
    simp [Tw.sSeq, Tw.sRet, Tw.sRetN, Tw.sSet, Tw.sIf, Tw.sPut, Tw.sApp, Tw.sPop, Tw.sDrop, Tw.sAsg, Tw.sPar, Tw.sNext, Tw.sBreak, Tw.sCont, Tw.sFor, Tw.rVar, Tw.rC, Tw.rOp, Tw.rUn, Tw.rCall, Tw.rCons, Tw.rNil, Tw.rStar, Tw.rTup, Tw.rLst, Tw.rAnd, Tw.rOr, Tw.rNot, Tw.rIf, Tw.rPure, Tw.rChain, Tw.rCut, Tw.rCutF, Tw.rNoPart, Tw.rPart, Tw.rLc, Tw.bOp, Tw.bVal, Tw.bNot, Tw.bAnd, Tw.bOr, Tw.iSeq, Tw.iEnu, Tw.iRev, Tw.iZip, Tw.iRg1, Tw.iRg2, Tw.iRgD1, Tw.gN, Tw.oAdd, Tw.oSub, Tw.oLt, Tw.oLe, Tw.oGt, Tw.oGe, Tw.oMul, Tw.oFdiv, Tw.oMod, Tw.oPow, Tw.oGcd, Tw.oMax, Tw.oMin, Tw.oIx, Tw.oIs, Tw.oIsNot, Tw.isNon, Tw.uNeg, Tw.uLen, Tw.uAbs, Tw.uInt, Tw.uList, Tw.uTuple, Tw.uIsi, Tw.tyT, Tw.startT, Tw.wipeT, Tw.lim, Tw.gTups_tup, Tw.gConss_cons, Tw.gNils_nil, Tw.fMul, Tw.fAdd, Tw.fCut, Tw.sCut, Tw.oEq_int, Tw.oNe_int, Tw.oEqN_lst, Tw.oNeN_lst, Tw.oNeS_same, Tw.sPar3, Tw.rCallK, Tw.iRg3, Tw.oMulT, Tw.sSwap, Tw.sRetF, Tw.rCallF, Tw.rCutF, -Bool.exists_bool]
    refine ⟨rfl, fun g sg _ => ?_⟩
    refine ⟨_, rfl, by simp, by simp, fun t0 h0 => ?_⟩
    have hn : ∃ n : Nat, t0 = .int (n : Nat) ∧ n ≤ 3 := by
      simp at h0
      rcases h0 with rfl | rfl | rfl | rfl | rfl <;> first | exact ⟨0, rfl, by decide⟩ | exact ⟨1, rfl, by decide⟩ | exact ⟨2, rfl, by decide⟩ | exact ⟨3, rfl, by decide⟩
    obtain ⟨n, rfl, hn⟩ := hn
    refine ⟨7, rfl, by decide, by decide, fun q q0 q7 => ?_⟩
    obtain ⟨a, rfl⟩ : ∃ a : Nat, q = (a : Nat) := ⟨q.toNat, by omega⟩
    refine ⟨_, rfl, ⟨by omega, by omega⟩, ?_⟩
    have eB : T.lst [T.tup [T.int 2, T.int 1], T.tup [T.int (-1), T.int 1], T.tup [T.int 1, T.int 2], T.tup [T.int (-1), T.int 2], T.tup [T.int 3, T.int 1], T.tup [T.int (-2), T.int 1], T.tup [T.int 1, T.int 3]] = tLQ wvB := rfl
    have e0 : T.lst [tQ g, tQ g, tQ g, tQ g, tQ g, tQ g, tQ g, tQ g, tQ g, tQ g, tQ g, tQ g, tQ g] = tLQ (ln fun _ => g) := rfl
    have e1 : (ln fun _ => g) = ln fun n => g + (0 : Tw.PS).c n := ln_congr fun k _ => by rw [PS.zero_c, Rat.add_zero]
    rw [eB, e0, e1]
    have fin : ∀ (env : TEnv) (k r : Nat) (t u : List Rat) (F : Tw.PS) (l : List Rat), Wvg k a r t u F → l = (ln fun n => g + F.c n) → SzL 130 l → env[5]? = some (some (tLQ l)) → env[3]? = some (some (tQ g)) → env[6]? = some (some (T.int (r : Nat))) → sRet (rTup (rCons (rVar 5) (rCons (rVar 3) (rCons (rVar 6) rNil)))) { nx := fun x => Q T.non, rt := Q } env := fun env k r t u F l v el sl h5 h3 h6 => by
      simp [Tw.sSeq, Tw.sRet, Tw.sRetN, Tw.sSet, Tw.sIf, Tw.sPut, Tw.sApp, Tw.sPop, Tw.sDrop, Tw.sAsg, Tw.sPar, Tw.sNext, Tw.sBreak, Tw.sCont, Tw.sFor, Tw.rVar, Tw.rC, Tw.rOp, Tw.rUn, Tw.rCall, Tw.rCons, Tw.rNil, Tw.rStar, Tw.rTup, Tw.rLst, Tw.rAnd, Tw.rOr, Tw.rNot, Tw.rIf, Tw.rPure, Tw.rChain, Tw.rCut, Tw.rCutF, Tw.rNoPart, Tw.rPart, Tw.rLc, Tw.bOp, Tw.bVal, Tw.bNot, Tw.bAnd, Tw.bOr, Tw.iSeq, Tw.iEnu, Tw.iRev, Tw.iZip, Tw.iRg1, Tw.iRg2, Tw.iRgD1, Tw.gN, Tw.oAdd, Tw.oSub, Tw.oLt, Tw.oLe, Tw.oGt, Tw.oGe, Tw.oMul, Tw.oFdiv, Tw.oMod, Tw.oPow, Tw.oGcd, Tw.oMax, Tw.oMin, Tw.oIx, Tw.oIs, Tw.oIsNot, Tw.isNon, Tw.uNeg, Tw.uLen, Tw.uAbs, Tw.uInt, Tw.uList, Tw.uTuple, Tw.uIsi, Tw.tyT, Tw.startT, Tw.wipeT, Tw.lim, Tw.gTups_tup, Tw.gConss_cons, Tw.gNils_nil, Tw.fMul, Tw.fAdd, Tw.fCut, Tw.sCut, Tw.oEq_int, Tw.oNe_int, Tw.oEqN_lst, Tw.oNeN_lst, Tw.oNeS_same, Tw.sPar3, Tw.rCallK, Tw.iRg3, Tw.oMulT, Tw.sSwap, Tw.sRetF, Tw.rCallF, Tw.rCutF, -Bool.exists_bool, h5, h3, h6]
      rw [el] at sl ⊢
      exact h t u F r g v.w v.le sg sl
    refine wLoop_cnt (fun k env => ∃ (t u : List Rat) (F : Tw.PS) (r : Nat) (v2 v8 v9 v10 v11 v12 v13 v14 : Option T), env = [some .wel, some (tLQ wvB), v2, some (tQ g), some (.int n), some (tLQ (ln fun n => g + F.c n)), some (.int (r : Nat)), some (.int (a : Nat)), v8, v9, v10, v11, v12, v13, v14] ∧ Wvg k a r t u F ∧ SzL (3 + 40 * k) (ln fun n => g + F.c n)) _ _ 0 (fun k t hk env hI nx hnx => ?_) ⟨[], [1], 0, 0, _, _, _, _, _, _, _, _, rfl, wvg_0 a, fun x mx => by
        obtain ⟨k, _, rfl⟩ := List.mem_map.mp mx
        rw [PS.zero_c, Rat.add_zero]
        exact sg⟩ (fun e he => ?_)
    · have k1 := (List.getElem?_eq_some_iff.mp hk).1
      rw [rgT_len, Int.toNat_natCast] at k1
      rw [rgT_z] at hk
      have ht2 : t = .int (k : Nat) := by
        unfold tN at hk
        rw [List.getElem?_map, List.getElem?_range k1] at hk
        exact (Option.some.inj hk).symm
      subst ht2
      rw [Nat.zero_add] at hI hnx
      obtain ⟨t, u, F, r, v2, v8, v9, v10, v11, v12, v13, v14, rfl, v, sl⟩ := hI
      have done : 3 ≤ r → Q (T.tup [tLQ (ln fun n => g + F.c n), tQ g, T.int (r : Nat)]) := fun _ => h t u F r g v.w v.le sg (sl.mono (by omega))
      simp [Tw.sSeq, Tw.sRet, Tw.sRetN, Tw.sSet, Tw.sIf, Tw.sPut, Tw.sApp, Tw.sPop, Tw.sDrop, Tw.sAsg, Tw.sPar, Tw.sNext, Tw.sBreak, Tw.sCont, Tw.sFor, Tw.rVar, Tw.rC, Tw.rOp, Tw.rUn, Tw.rCall, Tw.rCons, Tw.rNil, Tw.rStar, Tw.rTup, Tw.rLst, Tw.rAnd, Tw.rOr, Tw.rNot, Tw.rIf, Tw.rPure, Tw.rChain, Tw.rCut, Tw.rCutF, Tw.rNoPart, Tw.rPart, Tw.rLc, Tw.bOp, Tw.bVal, Tw.bNot, Tw.bAnd, Tw.bOr, Tw.iSeq, Tw.iEnu, Tw.iRev, Tw.iZip, Tw.iRg1, Tw.iRg2, Tw.iRgD1, Tw.gN, Tw.oAdd, Tw.oSub, Tw.oLt, Tw.oLe, Tw.oGt, Tw.oGe, Tw.oMul, Tw.oFdiv, Tw.oMod, Tw.oPow, Tw.oGcd, Tw.oMax, Tw.oMin, Tw.oIx, Tw.oIs, Tw.oIsNot, Tw.isNon, Tw.uNeg, Tw.uLen, Tw.uAbs, Tw.uInt, Tw.uList, Tw.uTuple, Tw.uIsi, Tw.tyT, Tw.startT, Tw.wipeT, Tw.lim, Tw.gTups_tup, Tw.gConss_cons, Tw.gNils_nil, Tw.fMul, Tw.fAdd, Tw.fCut, Tw.sCut, Tw.oEq_int, Tw.oNe_int, Tw.oEqN_lst, Tw.oNeN_lst, Tw.oNeS_same, Tw.sPar3, Tw.rCallK, Tw.iRg3, Tw.oMulT, Tw.sSwap, Tw.sRetF, Tw.rCallF, Tw.rCutF, -Bool.exists_bool]
      by_cases hr : 3 ≤ r
      · rw [if_pos (by omega)]
        exact done hr
      rw [if_neg (by omega)]
      refine ⟨_, rfl, by simp, by simp, fun t1 h1 => ?_⟩
      have hx : ∃ x : Int, t1 = .int x ∧ x ≠ 0 ∧ x.natAbs ≤ 3 := by
        simp at h1
        rcases h1 with rfl | rfl | rfl | rfl <;> first | exact ⟨1, rfl, by decide, by decide⟩ | exact ⟨-1, rfl, by decide, by decide⟩ | exact ⟨2, rfl, by decide, by decide⟩ | exact ⟨3, rfl, by decide, by decide⟩
      obtain ⟨x, rfl, x0, hx⟩ := hx
      have hx0 := castI_ne x0
      have sx : Sz 2 (x : Rat) := ⟨by rw [Rat.num_intCast]; omega, by rw [Rat.den_intCast]; decide⟩
      have old : ∀ i, i < 13 → Sz (3 + 40 * k) (g + F.c i) := fun i hi => sl _ (by
        unfold ln
        exact List.mem_map.mpr ⟨i, List.mem_range.mpr hi, rfl⟩)
      have new : ∀ G : Tw.PS, (∀ i, i < 13 → Sz 39 (G.c i)) → SzL (3 + 40 * (k + 1)) (ln fun n => g + (F + G).c n) := fun G hG y my => by
        obtain ⟨i, hi, rfl⟩ := List.mem_map.mp my
        have hi := List.mem_range.mp hi
        show Sz _ (g + (F + G).c i)
        rw [PS.add_c, ← Rat.add_assoc]
        exact ((old i hi).add (hG i hi)).mono (by omega)
      refine split_mode ?_ fun hk1 => ?_
      · have ei : ((a : Int) + k).fmod 7 = (((a + k) % 7 : Nat) : Int) := by
          rw [Int.fmod_eq_emod_of_nonneg _ (by decide)]; omega
        have l7 : (a + k) % 7 < wvB.length := Nat.mod_lt _ (by decide)
        rw [ei]
        dsimp only [tLQ]
        refine ⟨_, Q_at l7, ?_⟩
        refine ⟨4, rfl, by decide, by decide, fun i i0 i4 => ?_⟩
        simp [Tw.sSeq, Tw.sRet, Tw.sRetN, Tw.sSet, Tw.sIf, Tw.sPut, Tw.sApp, Tw.sPop, Tw.sDrop, Tw.sAsg, Tw.sPar, Tw.sNext, Tw.sBreak, Tw.sCont, Tw.sFor, Tw.rVar, Tw.rC, Tw.rOp, Tw.rUn, Tw.rCall, Tw.rCons, Tw.rNil, Tw.rStar, Tw.rTup, Tw.rLst, Tw.rAnd, Tw.rOr, Tw.rNot, Tw.rIf, Tw.rPure, Tw.rChain, Tw.rCut, Tw.rCutF, Tw.rNoPart, Tw.rPart, Tw.rLc, Tw.bOp, Tw.bVal, Tw.bNot, Tw.bAnd, Tw.bOr, Tw.iSeq, Tw.iEnu, Tw.iRev, Tw.iZip, Tw.iRg1, Tw.iRg2, Tw.iRgD1, Tw.gN, Tw.oAdd, Tw.oSub, Tw.oLt, Tw.oLe, Tw.oGt, Tw.oGe, Tw.oMul, Tw.oFdiv, Tw.oMod, Tw.oPow, Tw.oGcd, Tw.oMax, Tw.oMin, Tw.oIx, Tw.oIs, Tw.oIsNot, Tw.isNon, Tw.uNeg, Tw.uLen, Tw.uAbs, Tw.uInt, Tw.uList, Tw.uTuple, Tw.uIsi, Tw.tyT, Tw.startT, Tw.wipeT, Tw.lim, Tw.gTups_tup, Tw.gConss_cons, Tw.gNils_nil, Tw.fMul, Tw.fAdd, Tw.fCut, Tw.sCut, Tw.oEq_int, Tw.oNe_int, Tw.oEqN_lst, Tw.oNeN_lst, Tw.oNeS_same, Tw.sPar3, Tw.rCallK, Tw.iRg3, Tw.oMulT, Tw.sSwap, Tw.sRetF, Tw.rCallF, Tw.rCutF, -Bool.exists_bool, at_0]
        obtain ⟨s, es, hs⟩ : ∃ s : Nat, i.fdiv 3 = (s : Int) ∧ s ≤ 1 := by
          (rw [Int.fdiv_eq_ediv_of_nonneg _ (by decide)])
          exact ⟨(i / 3).toNat, by omega, by omega⟩
        rw [es]
        refine ⟨divOk (by decide), ⟨by decide, by decide⟩, ?_⟩
        obtain ⟨_, _, sb⟩ := wvB_ne ((a + k) % 7) l7
        obtain ⟨t', u', G, v', hG⟩ : ∃ t' u' G, Wvg (k + 1) a (r + 1 + s) t' u' (F + G) ∧ ∀ i : Nat, G.c i = (x : Rat) * cf wvB ((a + k) % 7) ^ i * (1 + (s : Rat) * (i : Rat)) := by
          match s, hs with
          | 0, _ =>
            obtain ⟨t', u', v'⟩ := v.step1 (by omega) hx0 (by omega)
            refine ⟨t', u', _, v', fun i => ?_⟩
            show (x : Rat) * cf wvB ((a + k) % 7) ^ i = _
            rw [show ((0 : Nat) : Rat) = 0 from rfl]; grind
          | 1, _ =>
            obtain ⟨t', u', v'⟩ := v.step2 (by omega) hx0 (by omega)
            refine ⟨t', u', _, v', fun i => ?_⟩
            show (x : Rat) * cf wvB ((a + k) % 7) ^ i * (1 + (i : Rat)) = _
            rw [show ((1 : Nat) : Rat) = 1 from rfl]; grind
        have sb : Sz 2 (cf wvB ((a + k) % 7)) := sb
        generalize cf wvB ((a + k) % 7) = b at *
        have ss : Sz 1 (s : Rat) := ⟨by rw [show ((s : Nat) : Rat).num = (s : Int) from Rat.num_natCast s]; omega, by rw [Rat.den_natCast]; decide⟩
        have si : ∀ i : Nat, i < 13 → Sz 4 (i : Rat) := fun i hi => ⟨by rw [show ((i : Nat) : Rat).num = (i : Int) from Rat.num_natCast i]; omega, by rw [Rat.den_natCast]; decide⟩
        have s1 : Sz 1 1 := ⟨by decide, by decide⟩
        have sp : ∀ i, i < 13 → Sz 27 ((x : Rat) * b ^ i) := fun i hi => (sx.mul (sb.pow i)).mono (by omega)
        have sG : ∀ i, i < 13 → Sz 39 (G.c i) := fun i hi => by
          rw [hG]
          exact ((sp i hi).mul (s1.add (ss.mul (si i hi)))).mono (by decide)
        refine wLoop_cnt (fun c env => ∃ (v11 : Option T), env = [some .wel, some (.lst (tQs wvB)), some (.int (k : Nat)), some (tQ g), some (.int n), some (tLQ (ln fun i => (g + F.c i) + if i < c then G.c i else 0)), some (.int ((r : Int) + 1 + s)), some (.int (a : Nat)), some (.tup [.int x, .int 1]), v9, some (tQ ((x : Rat) * b ^ c)), v11, v12, some (tQ b), some (.tup [.int s, .int 1])]) _ _ 0 (fun c t2 hc env hI nx2 hnx2 => ?_) ⟨v11, ?_⟩ (fun e he2 => ?_)
        · have c1 := (List.getElem?_eq_some_iff.mp hc).1
          rw [rgT_len] at c1
          have c1 : c < 13 := c1
          rw [show rgT 0 13 = rgT 0 ((13 : Nat) : Int) from rfl, rgT_z] at hc
          have ht3 : t2 = .int (c : Nat) := by
            unfold tN at hc
            rw [List.getElem?_map, List.getElem?_range c1] at hc
            exact (Option.some.inj hc).symm
          subst ht3
          rw [Nat.zero_add] at hI hnx2
          obtain ⟨v11, rfl⟩ := hI
          have g1 : atI (tQs (ln fun i => (g + F.c i) + if i < c then G.c i else 0)) (c : Int) = some (tQ (g + F.c c)) := by
            rw [atI_k, tQs_get, ln_get c1, if_neg (Nat.lt_irrefl c), Rat.add_zero]; rfl
          have g2 : ixN (ln fun i => (g + F.c i) + if i < c then G.c i else 0).length ((c : Nat) : Int) = some c := ixN_nat (by rw [ln_len]; exact c1)
          simp [Tw.sSeq, Tw.sRet, Tw.sRetN, Tw.sSet, Tw.sIf, Tw.sPut, Tw.sApp, Tw.sPop, Tw.sDrop, Tw.sAsg, Tw.sPar, Tw.sNext, Tw.sBreak, Tw.sCont, Tw.sFor, Tw.rVar, Tw.rC, Tw.rOp, Tw.rUn, Tw.rCall, Tw.rCons, Tw.rNil, Tw.rStar, Tw.rTup, Tw.rLst, Tw.rAnd, Tw.rOr, Tw.rNot, Tw.rIf, Tw.rPure, Tw.rChain, Tw.rCut, Tw.rCutF, Tw.rNoPart, Tw.rPart, Tw.rLc, Tw.bOp, Tw.bVal, Tw.bNot, Tw.bAnd, Tw.bOr, Tw.iSeq, Tw.iEnu, Tw.iRev, Tw.iZip, Tw.iRg1, Tw.iRg2, Tw.iRgD1, Tw.gN, Tw.oAdd, Tw.oSub, Tw.oLt, Tw.oLe, Tw.oGt, Tw.oGe, Tw.oMul, Tw.oFdiv, Tw.oMod, Tw.oPow, Tw.oGcd, Tw.oMax, Tw.oMin, Tw.oIx, Tw.oIs, Tw.oIsNot, Tw.isNon, Tw.uNeg, Tw.uLen, Tw.uAbs, Tw.uInt, Tw.uList, Tw.uTuple, Tw.uIsi, Tw.tyT, Tw.startT, Tw.wipeT, Tw.lim, Tw.gTups_tup, Tw.gConss_cons, Tw.gNils_nil, Tw.fMul, Tw.fAdd, Tw.fCut, Tw.sCut, Tw.oEq_int, Tw.oNe_int, Tw.oEqN_lst, Tw.oNeN_lst, Tw.oNeS_same, Tw.sPar3, Tw.rCallK, Tw.iRg3, Tw.oMulT, Tw.sSwap, Tw.sRetF, Tw.rCallF, Tw.rCutF, -Bool.exists_bool, tLQ, g1, g2, tQs_len]
          rw [tQ_nat, tQ_nat, show T.tup [T.int 1, T.int 1] = tQ 1 from rfl]
          have sc := si c c1
          have sm := ss.mul sc
          have sa := s1.add sm
          refine ⟨_, _, rfl, ss.mono (by decide), sc.mono (by decide), ?_⟩
          refine ⟨_, _, rfl, s1.mono (by decide), sm.mono (by decide), ?_⟩
          refine ⟨_, _, rfl, (sp c c1).mono (by decide), sa.mono (by decide), ?_⟩
          refine ⟨_, _, rfl, (old c c1).mono (by omega), ((sp c c1).mul sa).mono (by decide), ?_⟩
          refine ⟨_, _, rfl, (sp c c1).mono (by decide), sb.mono (by decide), ?_⟩
          rw [tQs_set, ln_set]
          have el : (ln fun i => if i = c then (g + F.c c) + (x : Rat) * b ^ c * (1 + (s : Rat) * (c : Rat)) else (g + F.c i) + if i < c then G.c i else 0) = ln fun i => (g + F.c i) + if i < c + 1 then G.c i else 0 := ln_congr fun i hi => by
            by_cases e : i = c
            · subst e
              rw [if_pos rfl, if_pos (Nat.lt_succ_self _), hG]
            · rw [if_neg e]
              by_cases e2 : i < c
              · rw [if_pos e2, if_pos (by omega)]
              · rw [if_neg e2, if_neg (by omega)]
          have ep : (x : Rat) * b ^ c * b = (x : Rat) * b ^ (c + 1) := by rw [Rat.pow_succ, Rat.mul_assoc]
          rw [el, ep, ← tQ_nat]
          exact hnx2 _ ⟨_, rfl⟩
        · rw [tQ_int]
          simp only [Nat.not_lt_zero, if_false, Rat.add_zero, Rat.pow_zero, Rat.mul_one]
          rfl
        · obtain ⟨v11, rfl⟩ := he2
          rw [rgT_len]
          have e9 : (ln fun i => (g + F.c i) + if i < 0 + (13 : Int).toNat then G.c i else 0) = ln fun i => g + (F + G).c i := ln_congr fun i hi => by
            rw [if_pos (by simpa using hi), PS.add_c, Rat.add_assoc]
          have e10 : (r : Int) + 1 + s = ((r + 1 + s : Nat) : Int) := by omega
          rw [e9, e10]
          exact hnx _ ⟨t', u', F + G, r + 1 + s, _, _, _, _, _, _, _, _, rfl, v', new G sG⟩
      · refine ⟨rfl, fun y sy _ => ?_⟩
        have k1 : k = 1 := by omega
        subst k1
        obtain ⟨t', u', v'⟩ := v.stepT (y := y) hx0 (by omega)
        rw [tQ_int]
        simp [Tw.sSeq, Tw.sRet, Tw.sRetN, Tw.sSet, Tw.sIf, Tw.sPut, Tw.sApp, Tw.sPop, Tw.sDrop, Tw.sAsg, Tw.sPar, Tw.sNext, Tw.sBreak, Tw.sCont, Tw.sFor, Tw.rVar, Tw.rC, Tw.rOp, Tw.rUn, Tw.rCall, Tw.rCons, Tw.rNil, Tw.rStar, Tw.rTup, Tw.rLst, Tw.rAnd, Tw.rOr, Tw.rNot, Tw.rIf, Tw.rPure, Tw.rChain, Tw.rCut, Tw.rCutF, Tw.rNoPart, Tw.rPart, Tw.rLc, Tw.bOp, Tw.bVal, Tw.bNot, Tw.bAnd, Tw.bOr, Tw.iSeq, Tw.iEnu, Tw.iRev, Tw.iZip, Tw.iRg1, Tw.iRg2, Tw.iRgD1, Tw.gN, Tw.oAdd, Tw.oSub, Tw.oLt, Tw.oLe, Tw.oGt, Tw.oGe, Tw.oMul, Tw.oFdiv, Tw.oMod, Tw.oPow, Tw.oGcd, Tw.oMax, Tw.oMin, Tw.oIx, Tw.oIs, Tw.oIsNot, Tw.isNon, Tw.uNeg, Tw.uLen, Tw.uAbs, Tw.uInt, Tw.uList, Tw.uTuple, Tw.uIsi, Tw.tyT, Tw.startT, Tw.wipeT, Tw.lim, Tw.gTups_tup, Tw.gConss_cons, Tw.gNils_nil, Tw.fMul, Tw.fAdd, Tw.fCut, Tw.sCut, Tw.oEq_int, Tw.oNe_int, Tw.oEqN_lst, Tw.oNeN_lst, Tw.oNeS_same, Tw.sPar3, Tw.rCallK, Tw.iRg3, Tw.oMulT, Tw.sSwap, Tw.sRetF, Tw.rCallF, Tw.rCutF, -Bool.exists_bool, at_0, at_1, tQ]
        have en : T.tup [T.int (-y.num), T.int (y.den : Nat)] = tQ (-y) := by unfold tQ; rw [Rat.neg_num, Rat.neg_den]
        have en2 : T.tup [T.int (-x), T.int 1] = tQ (-(x : Rat)) := by rw [tQ_int, Rat.intCast_neg]
        rw [show T.tup [T.int g.num, T.int (g.den : Nat)] = tQ g from rfl, show T.tup [T.int y.num, T.int (y.den : Nat)] = tQ y from rfl, en, en2, tQ_int]
        have stn : ∀ i, Sz 3 ((turnS (x : Rat) y).c i) := fun i => by
          show Sz 3 (if i % 4 = 0 then (x : Rat) else if i % 4 = 1 then y else if i % 4 = 2 then -(x : Rat) else -y)
          split
          · exact sx.mono (by decide)
          · split
            · exact sy
            · split
              · exact sx.neg.mono (by decide)
              · exact sy.neg
        refine ⟨⟨by decide, by decide⟩, by decide, ?_⟩
        rw [show rgT 0 13 = rgT 0 ((13 : Nat) : Int) from rfl, rgT_z]
        refine wLc_mapG (fun i : Nat => T.int (i : Nat)) (fun i => tQ ((g + F.c i) + (turnS (x : Rat) y).c i)) (List.range 13) [] _ (fun i mi Q' hq => ?_) ?_
        · have hi := List.mem_range.mp mi
          have g1 : atI (tQs (ln fun i => g + F.c i)) (i : Int) = some (tQ (g + F.c i)) := by
            rw [atI_k, tQs_get, ln_get hi]; rfl
          have g2 : (i : Int) - (i : Int).fdiv 4 * 4 = ((i % 4 : Nat) : Int) := by
            rw [Int.fdiv_eq_ediv_of_nonneg _ (by decide)]; omega
          have g3 : atI [tQ (x : Rat), tQ y, tQ (-(x : Rat)), tQ (-y)] ((i % 4 : Nat) : Int) = some (tQ ((turnS (x : Rat) y).c i)) := by
            rw [atI_k]
            show _ = some (tQ (if i % 4 = 0 then (x : Rat) else if i % 4 = 1 then y else if i % 4 = 2 then -(x : Rat) else -y))
            have h4 : i % 4 = 0 ∨ i % 4 = 1 ∨ i % 4 = 2 ∨ i % 4 = 3 := by omega
            rcases h4 with h | h | h | h <;> rw [h] <;> rfl
          simp [Tw.sSeq, Tw.sRet, Tw.sRetN, Tw.sSet, Tw.sIf, Tw.sPut, Tw.sApp, Tw.sPop, Tw.sDrop, Tw.sAsg, Tw.sPar, Tw.sNext, Tw.sBreak, Tw.sCont, Tw.sFor, Tw.rVar, Tw.rC, Tw.rOp, Tw.rUn, Tw.rCall, Tw.rCons, Tw.rNil, Tw.rStar, Tw.rTup, Tw.rLst, Tw.rAnd, Tw.rOr, Tw.rNot, Tw.rIf, Tw.rPure, Tw.rChain, Tw.rCut, Tw.rCutF, Tw.rNoPart, Tw.rPart, Tw.rLc, Tw.bOp, Tw.bVal, Tw.bNot, Tw.bAnd, Tw.bOr, Tw.iSeq, Tw.iEnu, Tw.iRev, Tw.iZip, Tw.iRg1, Tw.iRg2, Tw.iRgD1, Tw.gN, Tw.oAdd, Tw.oSub, Tw.oLt, Tw.oLe, Tw.oGt, Tw.oGe, Tw.oMul, Tw.oFdiv, Tw.oMod, Tw.oPow, Tw.oGcd, Tw.oMax, Tw.oMin, Tw.oIx, Tw.oIs, Tw.oIsNot, Tw.isNon, Tw.uNeg, Tw.uLen, Tw.uAbs, Tw.uInt, Tw.uList, Tw.uTuple, Tw.uIsi, Tw.tyT, Tw.startT, Tw.wipeT, Tw.lim, Tw.gTups_tup, Tw.gConss_cons, Tw.gNils_nil, Tw.fMul, Tw.fAdd, Tw.fCut, Tw.sCut, Tw.oEq_int, Tw.oNe_int, Tw.oEqN_lst, Tw.oNeN_lst, Tw.oNeS_same, Tw.sPar3, Tw.rCallK, Tw.iRg3, Tw.oMulT, Tw.sSwap, Tw.sRetF, Tw.rCallF, Tw.rCutF, -Bool.exists_bool, tLQ, g1, g2, g3]
          have g4 : ((i : Int) % 4) = ((i % 4 : Nat) : Int) := by omega
          rw [g4]
          refine ⟨divOk (by decide), mulOk (a := 4) (b := 3) (by rw [Int.fdiv_eq_ediv_of_nonneg _ (by decide)]; omega) (by decide), _, g3, ?_⟩
          exact ⟨_, _, rfl, (old i hi).mono (by omega), (stn i).mono (by decide), hq⟩
        · rw [List.nil_append]
          have el : T.lst ((List.range 13).map fun i => tQ ((g + F.c i) + (turnS (x : Rat) y).c i)) = tLQ (ln fun i => g + (F + turnS (x : Rat) y).c i) := by
            unfold tLQ tQs ln
            rw [List.map_map]
            congr 1
            refine (List.map_congr_left fun i _ => ?_)
            show _ = tQ (g + (F + turnS (x : Rat) y).c i)
            rw [PS.add_c, Rat.add_assoc]
          have e10 : (r : Int) + 2 = ((r + 2 : Nat) : Int) := by omega
          rw [el, e10]
          exact hnx _ ⟨t', u', F + turnS (x : Rat) y, r + 2, _, _, _, _, _, _, _, _, rfl, v', new _ fun i _ => (stn i).mono (by decide)⟩
    · obtain ⟨t, u, F, r, v2, v8, v9, v10, v11, v12, v13, v14, rfl, v, sl⟩ := he
      rw [rgT_len, Int.toNat_natCast, Nat.zero_add] at v sl
      exact fin _ _ _ _ _ _ _ v rfl (sl.mono (by omega)) rfl rfl rfl
theorem cell_eq {S U : Tw.PS} {m : Nat} {g : Rat} {t : T} (h : CellT S m t) (e : ∀ k, k ≤ 2 * m → S.c k = U.c k) (ex : ∃ x, Eqs U m x 1) (un : ∀ x v, Eqs U m x v → x (m + 1) = g * v ∧ (v = 0 → ∀ k, k < m + 2 → x k = 0)) : t = tQ g := by
  rcases h with ⟨x, hx, _, rfl⟩ | ⟨rfl, ⟨y, hy, k, hk, hn⟩ | no⟩
  · rw [(un x 1 (hx.congr fun k hk => (e k hk).symm)).1, Rat.mul_one]
  · exact absurd ((un y 0 (hy.congr fun k hk => (e k hk).symm)).2 rfl k hk) hn
  · obtain ⟨x, hx⟩ := ex
    exact absurd (hx.congr e) (no x)
theorem cell_non {S U : Tw.PS} {m : Nat} {t : T} (h : CellT S m t) (e : ∀ k, k ≤ 2 * m → S.c k = U.c k) (ex : ∃ y, Eqs U m y 0 ∧ ∃ k, k < m + 2 ∧ y k ≠ 0) : t = .non := by
  rcases h with ⟨x, hx, ker, rfl⟩ | ⟨rfl, _⟩
  · obtain ⟨y, hy, k, hk, hn⟩ := ex
    exact absurd (ker y (hy.congr e) k hk) hn
  · rfl
def lnN (g : Rat) (F : Tw.PS) (N : Nat) : List Rat := (List.range N).map fun n => g + F.c n
theorem lnN_len (g : Rat) (F : Tw.PS) (N : Nat) : (lnN g F N).length = N := by unfold lnN; rw [List.length_map, List.length_range]
theorem cf_lnN {g : Rat} {F : Tw.PS} {N k : Nat} (h : k < N) : cf (lnN g F N) k = g + F.c k := by
  rw [cf_get (by rw [lnN_len]; exact h)]
  unfold lnN
  rw [List.getElem_map, List.getElem_range]
theorem ln_take {g : Rat} {F : Tw.PS} {N : Nat} (h : N ≤ 13) : (ln fun n => g + F.c n).take N = lnN g F N := by
  unfold ln lnN
  rw [← List.map_take, List.take_range, Nat.min_eq_left h]
/-- first numbers of a row of an order -/
structure Fst (t u : List Rat) (F : Tw.PS) (r N : Nat) (g : Rat) : Prop where
  w : Wav t u F r
  r4 : r ≤ 4
  lo : 2 * r < N
  hi : N ≤ 2 * r + 5
  n13 : N ≤ 13
  sg : Sz 3 g
  sz : SzL 130 (lnN g F N)
theorem Fst.at {t u : List Rat} {F : Tw.PS} {r N : Nat} {g : Rat} (f : Fst t u F r N g) {i : Nat} {s : List Rat} {c : T} (hs : ∀ k, i ≤ k → k < N → cf s k = g + F.c k) (hi : i + 2 * r < N) (h : CellT (shS (ps s) i) r c) : c = tQ g := by
  obtain ⟨t', w'⟩ := f.w.shift i
  refine cell_eq (U := gS g 0 (shS F i)) h (fun k hk => ?_) w'.cell_ex fun x v e => w'.cell e
  show cf s (k + i) = g + F.c (k + i) + if k = 0 then 0 else 0
  rw [hs _ (by omega) (by omega)]
  split <;> rw [Rat.add_zero]
theorem Fst.no {t u : List Rat} {F : Tw.PS} {r N : Nat} {g : Rat} (f : Fst t u F r N g) {i : Nat} {c : T} (hi : i + 2 * (r + 1) < N) (h : CellT (shS (ps (lnN g F N)) i) (r + 1) c) : c = .non := by
  obtain ⟨t', w'⟩ := f.w.shift i
  refine cell_non (U := gS g 0 (shS F i)) h (fun k hk => ?_) w'.cell_no
  show cf (lnN g F N) (k + i) = g + F.c (k + i) + if k = 0 then 0 else 0
  rw [cf_lnN (by omega)]
  split <;> rw [Rat.add_zero]
theorem Fst.mov {t u : List Rat} {F : Tw.PS} {r N : Nat} {g d : Rat} (f : Fst t u F r N g) (d0 : d ≠ 0) {s : List Rat} {c : T} (h0 : cf s 0 = g + F.c 0 + d) (hs : ∀ k, 1 ≤ k → k < N → cf s k = g + F.c k) (hi : 2 * (r + 1) < N) (h : CellT (shS (ps s) 0) (r + 1) c) : c = tQ g := by
  refine cell_eq (U := gS g d F) h (fun k hk => ?_) f.w.mov_ex fun x v e => f.w.cell_mov d0 e
  show cf s (k + 0) = g + F.c k + if k = 0 then d else 0
  rw [Nat.add_zero]
  by_cases k0 : k = 0
  · subst k0; rw [if_pos rfl]; exact h0
  · rw [if_neg k0, hs k (by omega) (by omega), Rat.add_zero]
theorem split_tail {c : Prop} [Decidable c] {A REST : Prop} (m : REST) (h : c → REST → A) : if c then A else REST := by
  by_cases hc : c
  · rw [if_pos hc]; exact h hc m
  · rw [if_neg hc]; exact m
theorem all_rep {l : List T} {c : T} (h : ∀ (i : Nat) (t : T), l[i]? = some t → t = c) : l = List.replicate l.length c := by
  refine List.ext_getElem (by rw [List.length_replicate]) fun i h1 h2 => ?_
  rw [List.getElem_replicate]
  exact h i _ (List.getElem?_eq_getElem h1)
def p_law : TF := fun ts Q => ∃ ns : List Int, ts = [.scr ns] ∧ ns.length ≤ 63 ∧ Q (.bl true)
abbrev s_law : Stmt := topS 48
abbrev N_law : List Str := ["script", "turn", "deck", "size", "first", "at", "moved", "line", "goal", "rank", "due"]
theorem sc_law : FnScope N_law ["script"] (defScope s_law) := ⟨rfl, rfl, rfl, by decide +kernel, rfl, by decide +kernel, by decide +kernel⟩
theorem run_law (h_law_deck : Has P w K mg base "_law_deck" ["script", "turn", "salt"] 41 p_law_deck) (h_law_waving : Has P w K mg base "_law_waving" ["deck"] 44 p_law_waving) (h_law_pick : Has P w K mg base "_law_pick" ["deck", "some"] 42 p_law_pick) (h_cell : Has P w K mg base "cell" ["numbers", "order", "index"] 49 p_cell) (h_law_put : Has P w K mg base "_law_put" ["line", "at", "thing"] 41 p_law_put) (h_law_plus : Has P w K mg base "_law_plus" ["one", "two"] 43 p_law_plus) (h_shanks_table : Has P w K mg base "shanks_table" ["numbers"] 50 p_shanks_table) (k_cell_0_index_order_numbers : KBd K mg "cell" 0 ["index", "order", "numbers"] ["numbers", "order", "index"] [2, 1, 0]) {f : Addr} {fd : FuncData} (Se : Sees P base) (F : Fun K "law" "law" s_law f fd) (B : Bi mg) : FnG P w K mg base f fd ["script"] (spT K pLaw) := by
  have nd := sc_law.nd
  refine fn_G (k := 50) (N := N_law) [] F sc_law (fun ts Q h => ?_) rfl Se (by decide) (by decide) fun cdv s H E hr hp => ⟨_, (bs_cons (st_for PassesOwn.never rfl (it_r1 (by rfl) (by exact B.n_range) (et_b2 (b_max2 rfl) (by rfl) (by exact B.n_max) (by decide +kernel) et_int (et_b2 (b_min2 rfl) (by rfl) (by exact B.n_min) (by decide +kernel) (et_b1 b_len (by rfl) (by exact B.n_len) (by decide +kernel) (Ev 0)) et_int))) (Gn 1 nd)
      (bs_cons (Sset 2 nd (Ec h_law_deck (hr.mono (by decide)) (at_cons (Ev 0) (at_cons (Ev 1) (at_cons et_int at_nil)))))
      (bs_cons (st_asg (gt_tup (n := 3) rfl (gt_cons (Gn 7 nd) (gt_cons (Gn 8 nd) (gt_cons (Gn 9 nd) gt_nil)))) (Ec h_law_waving (hr.mono (by decide)) (at_cons (Ev 2) at_nil)))
      (bs_cons (Sset 3 nd (et_b2 (b_min2 rfl) (by rfl) (by exact B.n_min) (by decide +kernel) et_int (et_op o_add (et_op o_mul et_int (Ev 9)) (Ec h_law_pick (hr.mono (by decide)) (at_cons (Ev 2) (at_cons (et_lst (at_cons et_int (at_cons et_int (at_cons et_int (at_cons et_int (at_cons et_int (at_cons et_int at_nil))))))) at_nil))))))
      (bs_cons (Sset 4 nd (et_t1 t_tuple (by rfl) (by exact B.n_tuple) (by decide +kernel) (et_cut (Ev 7) ot_none (ot_some (Ev 3)))))
      (bs_cons (st_for PassesOwn.never rfl (it_r1 (by rfl) (by exact B.n_range) (et_op o_sub (Ev 3) (et_op o_mul et_int (Ev 9)))) (Gn 5 nd)
      (bs_one (st_if (bt_cmp o_neS (et_rep (by rfl) hr (by rfl) (by exact B.n_repr) (by decide +kernel) (Ec h_cell (hr.mono (by decide)) (at_cons (Ev 4) (at_cons (Ev 9) (at_cons (Ev 5) at_nil))))) (et_rep (by rfl) hr (by rfl) (by exact B.n_repr) (by decide +kernel) (Ev 8)) (nomark _))
      (bs_one (st_ret et_bl))
      bs_nil)))
      (bs_cons (st_for PassesOwn.never rfl (it_r1 (by rfl) (by exact B.n_range) (et_op o_sub (et_op o_sub (Ev 3) (et_op o_mul et_int (Ev 9))) et_int)) (Gn 5 nd)
      (bs_one (st_if (bt_cmp o_isNot (Eck0 h_cell k_cell_0_index_order_numbers (hr.mono (by decide)) (kt_cons (Ev 5) (kt_cons (et_op o_add (Ev 9) et_int) (kt_cons (Ev 4) kt_nil)))) et_non (nomark _))
      (bs_one (st_ret et_bl))
      bs_nil)))
      (bs_cons (Sset 6 nd (Ec h_law_put (hr.mono (by decide)) (at_cons (Ev 4) (at_cons et_int (at_cons (Ec h_law_plus (hr.mono (by decide)) (at_cons (et_ix (Ev 4) et_int (fun _ _ => rfl)) (at_cons (Ec h_law_pick (hr.mono (by decide)) (at_cons (Ev 2) (at_cons (et_lst (at_cons (et_tup (at_cons et_int (at_cons et_int at_nil))) (at_cons (et_tup (at_cons (et_neg et_int) (at_cons et_int at_nil))) (at_cons (et_tup (at_cons et_int (at_cons et_int at_nil))) (at_cons (et_tup (at_cons et_int (at_cons et_int at_nil))) at_nil))))) at_nil))) at_nil))) at_nil)))))
      (bs_cons (st_for PassesOwn.never rfl (it_r2 (by rfl) (by exact B.n_range) et_int (et_op o_sub (Ev 3) (et_op o_mul et_int (Ev 9)))) (Gn 5 nd)
      (bs_one (st_if (bt_cmp o_neS (et_rep (by rfl) hr (by rfl) (by exact B.n_repr) (by decide +kernel) (Ec h_cell (hr.mono (by decide)) (at_cons (Ev 6) (at_cons (Ev 9) (at_cons (Ev 5) at_nil))))) (et_rep (by rfl) hr (by rfl) (by exact B.n_repr) (by decide +kernel) (Ev 8)) (nomark _))
      (bs_one (st_ret et_bl))
      bs_nil)))
      (bs_cons (st_if (bt_w (bw_and (bt_cmp o_gt (Ev 3) (et_op o_add (et_op o_mul et_int (Ev 9)) et_int) (nomark _)) (bw_and1 (bt_cmp o_neS (et_rep (by rfl) hr (by rfl) (by exact B.n_repr) (by decide +kernel) (Ec h_cell (hr.mono (by decide)) (at_cons (Ev 6) (at_cons (et_op o_add (Ev 9) et_int) (at_cons et_int at_nil))))) (et_rep (by rfl) hr (by rfl) (by exact B.n_repr) (by decide +kernel) (Ev 8)) (nomark _)))))
      (bs_one (st_ret et_bl))
      bs_nil)
      (bs_one (st_if (bt_cmp o_lt (Ev 3) et_int (nomark _))
      (bs_cons (Sset 10 nd (Ec h_shanks_table (hr.mono (by decide)) (at_cons (Ev 4) at_nil)))
      (bs_cons (st_if (bt_w (bw_or (bt_not (bt_val (et_isi (n := "tuple") (by decide +kernel) (by rfl) (by exact B.n_isinstance) (by rfl) (by exact B.n_tuple) (by decide +kernel) (Ev 10)))) (bw_or1 (bt_cmp (o_ne hr.units) (et_b1 b_len (by rfl) (by exact B.n_len) (by decide +kernel) (Ev 10)) (et_op (o_fdiv hp) (et_op o_add (Ev 3) et_int) et_int) (nomark _)))))
      (bs_one (st_ret et_bl))
      bs_nil)
      (bs_one (st_if (bt_cmp o_neS (et_rep (by rfl) hr (by rfl) (by exact B.n_repr) (by decide +kernel) (et_ix (Ev 10) (Ev 9) (fun _ _ => rfl))) (et_rep (by rfl) hr (by rfl) (by exact B.n_repr) (by decide +kernel) (et_op o_mulT (et_tup (at_cons (Ev 8) at_nil)) (et_op o_sub (Ev 3) (et_op o_mul et_int (Ev 9))))) (nomark _))
      (bs_one (st_ret et_bl))
      bs_nil))))
      bs_nil))))))))))))
      (bs_one (st_ret et_bl))), fun ts Q h => ?_⟩
  · obtain ⟨ns, rfl, _⟩ := h; rfl
  · obtain ⟨ns, rfl, hn, h⟩ := h
    simp [Tw.sSeq, Tw.sRet, Tw.sRetN, Tw.sSet, Tw.sIf, Tw.sPut, Tw.sApp, Tw.sPop, Tw.sDrop, Tw.sAsg, Tw.sPar, Tw.sNext, Tw.sBreak, Tw.sCont, Tw.sFor, Tw.rVar, Tw.rC, Tw.rOp, Tw.rUn, Tw.rCall, Tw.rCons, Tw.rNil, Tw.rStar, Tw.rTup, Tw.rLst, Tw.rAnd, Tw.rOr, Tw.rNot, Tw.rIf, Tw.rPure, Tw.rChain, Tw.rCut, Tw.rCutF, Tw.rNoPart, Tw.rPart, Tw.rLc, Tw.bOp, Tw.bVal, Tw.bNot, Tw.bAnd, Tw.bOr, Tw.iSeq, Tw.iEnu, Tw.iRev, Tw.iZip, Tw.iRg1, Tw.iRg2, Tw.iRgD1, Tw.gN, Tw.oAdd, Tw.oSub, Tw.oLt, Tw.oLe, Tw.oGt, Tw.oGe, Tw.oMul, Tw.oFdiv, Tw.oMod, Tw.oPow, Tw.oGcd, Tw.oMax, Tw.oMin, Tw.oIx, Tw.oIs, Tw.oIsNot, Tw.isNon, Tw.uNeg, Tw.uLen, Tw.uAbs, Tw.uInt, Tw.uList, Tw.uTuple, Tw.uIsi, Tw.tyT, Tw.startT, Tw.wipeT, Tw.lim, Tw.gTups_tup, Tw.gConss_cons, Tw.gNils_nil, Tw.fMul, Tw.fAdd, Tw.fCut, Tw.sCut, Tw.oEq_int, Tw.oNe_int, Tw.oEqN_lst, Tw.oNeN_lst, Tw.oNeS_same, Tw.sPar3, Tw.rCallK, Tw.iRg3, Tw.oMulT, Tw.sSwap, Tw.sRetF, Tw.rCallF, Tw.rCutF, -Bool.exists_bool, at_0, at_1]
    refine ⟨⟨by split <;> omega, by split <;> omega⟩, ?_⟩
    refine wLoop_inv (fun env => ∃ v1 v2 v3 v4 v5 v6 v7 v8 v9 v10, env = [some (T.scr ns), v1, v2, v3, v4, v5, v6, v7, v8, v9, v10]) _ _ (fun t ht env hI nx hnx => ?_) ⟨_, _, _, _, _, _, _, _, _, _, rfl⟩ (fun e he => ?_)
    · obtain ⟨i, rfl, i0, i1⟩ := mem_rgT ht
      obtain ⟨v1, v2, v3, v4, v5, v6, v7, v8, v9, v10, rfl⟩ := hI
      have i2 : i < 100 := by
        revert i1
        split
        · split <;> omega
        · omega
      refine cut4 (fun e => ∃ (t u : List Rat) (F : Tw.PS) (r N : Nat) (g : Rat) (v5 v6 v7 v10 : Option T), e = [some (T.scr ns), some (.int i), some .wel, some (.int N), some (tP (lnN g F N)), v5, v6, v7, some (tQ g), some (.int r), v10] ∧ Fst t u F r N g) (fun e he => ?_) fun KK hKK => ?_
      · obtain ⟨t, u, F, r, N, g, v5, v6, v7, v10, rfl, f⟩ := he
        have lo := f.lo
        have hi := f.hi
        have n13 := f.n13
        have r4 := f.r4
        have kg : Rk 8000 60 (tQ g) := (Rk.tQ (d := 0) (f.sg.mono (by decide))).mono (by decide) (by decide)
        have s150 : SzL 150 (lnN g F N) := f.sz.mono (by decide)
        have lN := lnN_len g F N
        simp [Tw.sSeq, Tw.sRet, Tw.sRetN, Tw.sSet, Tw.sIf, Tw.sPut, Tw.sApp, Tw.sPop, Tw.sDrop, Tw.sAsg, Tw.sPar, Tw.sNext, Tw.sBreak, Tw.sCont, Tw.sFor, Tw.rVar, Tw.rC, Tw.rOp, Tw.rUn, Tw.rCall, Tw.rCons, Tw.rNil, Tw.rStar, Tw.rTup, Tw.rLst, Tw.rAnd, Tw.rOr, Tw.rNot, Tw.rIf, Tw.rPure, Tw.rChain, Tw.rCut, Tw.rCutF, Tw.rNoPart, Tw.rPart, Tw.rLc, Tw.bOp, Tw.bVal, Tw.bNot, Tw.bAnd, Tw.bOr, Tw.iSeq, Tw.iEnu, Tw.iRev, Tw.iZip, Tw.iRg1, Tw.iRg2, Tw.iRgD1, Tw.gN, Tw.oAdd, Tw.oSub, Tw.oLt, Tw.oLe, Tw.oGt, Tw.oGe, Tw.oMul, Tw.oFdiv, Tw.oMod, Tw.oPow, Tw.oGcd, Tw.oMax, Tw.oMin, Tw.oIx, Tw.oIs, Tw.oIsNot, Tw.isNon, Tw.uNeg, Tw.uLen, Tw.uAbs, Tw.uInt, Tw.uList, Tw.uTuple, Tw.uIsi, Tw.tyT, Tw.startT, Tw.wipeT, Tw.lim, Tw.gTups_tup, Tw.gConss_cons, Tw.gNils_nil, Tw.fMul, Tw.fAdd, Tw.fCut, Tw.sCut, Tw.oEq_int, Tw.oNe_int, Tw.oEqN_lst, Tw.oNeN_lst, Tw.oNeS_same, Tw.sPar3, Tw.rCallK, Tw.iRg3, Tw.oMulT, Tw.sSwap, Tw.sRetF, Tw.rCallF, Tw.rCutF, -Bool.exists_bool]
        refine ⟨mulOk_l (by decide) (by decide), ⟨by omega, by omega⟩, ?_⟩
        refine wLoop_inv (fun e => ∃ v5, e = [some (T.scr ns), some (.int i), some .wel, some (.int N), some (tP (lnN g F N)), v5, v6, v7, some (tQ g), some (.int r), v10]) _ _ (fun t1 ht1 env hI nx1 hnx1 => ?_) ⟨_, rfl⟩ (fun e he => ?_)
        · obtain ⟨j, rfl, j0, j1⟩ := mem_rgT ht1
          obtain ⟨v5, rfl⟩ := hI
          obtain ⟨j, rfl⟩ : ∃ a : Nat, j = (a : Nat) := ⟨j.toNat, by omega⟩
          simp [Tw.sSeq, Tw.sRet, Tw.sRetN, Tw.sSet, Tw.sIf, Tw.sPut, Tw.sApp, Tw.sPop, Tw.sDrop, Tw.sAsg, Tw.sPar, Tw.sNext, Tw.sBreak, Tw.sCont, Tw.sFor, Tw.rVar, Tw.rC, Tw.rOp, Tw.rUn, Tw.rCall, Tw.rCons, Tw.rNil, Tw.rStar, Tw.rTup, Tw.rLst, Tw.rAnd, Tw.rOr, Tw.rNot, Tw.rIf, Tw.rPure, Tw.rChain, Tw.rCut, Tw.rCutF, Tw.rNoPart, Tw.rPart, Tw.rLc, Tw.bOp, Tw.bVal, Tw.bNot, Tw.bAnd, Tw.bOr, Tw.iSeq, Tw.iEnu, Tw.iRev, Tw.iZip, Tw.iRg1, Tw.iRg2, Tw.iRgD1, Tw.gN, Tw.oAdd, Tw.oSub, Tw.oLt, Tw.oLe, Tw.oGt, Tw.oGe, Tw.oMul, Tw.oFdiv, Tw.oMod, Tw.oPow, Tw.oGcd, Tw.oMax, Tw.oMin, Tw.oIx, Tw.oIs, Tw.oIsNot, Tw.isNon, Tw.uNeg, Tw.uLen, Tw.uAbs, Tw.uInt, Tw.uList, Tw.uTuple, Tw.uIsi, Tw.tyT, Tw.startT, Tw.wipeT, Tw.lim, Tw.gTups_tup, Tw.gConss_cons, Tw.gNils_nil, Tw.fMul, Tw.fAdd, Tw.fCut, Tw.sCut, Tw.oEq_int, Tw.oNe_int, Tw.oEqN_lst, Tw.oNeN_lst, Tw.oNeS_same, Tw.sPar3, Tw.rCallK, Tw.iRg3, Tw.oMulT, Tw.sSwap, Tw.sRetF, Tw.rCallF, Tw.rCutF, -Bool.exists_bool]
          refine ⟨lnN g F N, r, j, rfl, by omega, by omega, s150, fun c hc => ?_⟩
          obtain rfl := f.at (fun k _ hk => cf_lnN hk) (by omega) hc
          refine ⟨kg, kg, ?_⟩
          dsimp only
          rw [oNeS_same]
          refine ⟨_, rfl, ?_⟩
          rw [if_neg (by decide)]
          exact hnx1 _ ⟨_, rfl⟩
        obtain ⟨v5, rfl⟩ := he
        simp [Tw.sSeq, Tw.sRet, Tw.sRetN, Tw.sSet, Tw.sIf, Tw.sPut, Tw.sApp, Tw.sPop, Tw.sDrop, Tw.sAsg, Tw.sPar, Tw.sNext, Tw.sBreak, Tw.sCont, Tw.sFor, Tw.rVar, Tw.rC, Tw.rOp, Tw.rUn, Tw.rCall, Tw.rCons, Tw.rNil, Tw.rStar, Tw.rTup, Tw.rLst, Tw.rAnd, Tw.rOr, Tw.rNot, Tw.rIf, Tw.rPure, Tw.rChain, Tw.rCut, Tw.rCutF, Tw.rNoPart, Tw.rPart, Tw.rLc, Tw.bOp, Tw.bVal, Tw.bNot, Tw.bAnd, Tw.bOr, Tw.iSeq, Tw.iEnu, Tw.iRev, Tw.iZip, Tw.iRg1, Tw.iRg2, Tw.iRgD1, Tw.gN, Tw.oAdd, Tw.oSub, Tw.oLt, Tw.oLe, Tw.oGt, Tw.oGe, Tw.oMul, Tw.oFdiv, Tw.oMod, Tw.oPow, Tw.oGcd, Tw.oMax, Tw.oMin, Tw.oIx, Tw.oIs, Tw.oIsNot, Tw.isNon, Tw.uNeg, Tw.uLen, Tw.uAbs, Tw.uInt, Tw.uList, Tw.uTuple, Tw.uIsi, Tw.tyT, Tw.startT, Tw.wipeT, Tw.lim, Tw.gTups_tup, Tw.gConss_cons, Tw.gNils_nil, Tw.fMul, Tw.fAdd, Tw.fCut, Tw.sCut, Tw.oEq_int, Tw.oNe_int, Tw.oEqN_lst, Tw.oNeN_lst, Tw.oNeS_same, Tw.sPar3, Tw.rCallK, Tw.iRg3, Tw.oMulT, Tw.sSwap, Tw.sRetF, Tw.rCallF, Tw.rCutF, -Bool.exists_bool]
        refine ⟨mulOk_l (by decide) (by decide), ⟨by omega, by omega⟩, ?_⟩
        refine wLoop_inv (fun e => ∃ v5, e = [some (T.scr ns), some (.int i), some .wel, some (.int N), some (tP (lnN g F N)), v5, v6, v7, some (tQ g), some (.int r), v10]) _ _ (fun t1 ht1 env hI nx1 hnx1 => ?_) ⟨_, rfl⟩ (fun e he => ?_)
        · obtain ⟨j, rfl, j0, j1⟩ := mem_rgT ht1
          obtain ⟨v5, rfl⟩ := hI
          obtain ⟨j, rfl⟩ : ∃ a : Nat, j = (a : Nat) := ⟨j.toNat, by omega⟩
          simp [Tw.sSeq, Tw.sRet, Tw.sRetN, Tw.sSet, Tw.sIf, Tw.sPut, Tw.sApp, Tw.sPop, Tw.sDrop, Tw.sAsg, Tw.sPar, Tw.sNext, Tw.sBreak, Tw.sCont, Tw.sFor, Tw.rVar, Tw.rC, Tw.rOp, Tw.rUn, Tw.rCall, Tw.rCons, Tw.rNil, Tw.rStar, Tw.rTup, Tw.rLst, Tw.rAnd, Tw.rOr, Tw.rNot, Tw.rIf, Tw.rPure, Tw.rChain, Tw.rCut, Tw.rCutF, Tw.rNoPart, Tw.rPart, Tw.rLc, Tw.bOp, Tw.bVal, Tw.bNot, Tw.bAnd, Tw.bOr, Tw.iSeq, Tw.iEnu, Tw.iRev, Tw.iZip, Tw.iRg1, Tw.iRg2, Tw.iRgD1, Tw.gN, Tw.oAdd, Tw.oSub, Tw.oLt, Tw.oLe, Tw.oGt, Tw.oGe, Tw.oMul, Tw.oFdiv, Tw.oMod, Tw.oPow, Tw.oGcd, Tw.oMax, Tw.oMin, Tw.oIx, Tw.oIs, Tw.oIsNot, Tw.isNon, Tw.uNeg, Tw.uLen, Tw.uAbs, Tw.uInt, Tw.uList, Tw.uTuple, Tw.uIsi, Tw.tyT, Tw.startT, Tw.wipeT, Tw.lim, Tw.gTups_tup, Tw.gConss_cons, Tw.gNils_nil, Tw.fMul, Tw.fAdd, Tw.fCut, Tw.sCut, Tw.oEq_int, Tw.oNe_int, Tw.oEqN_lst, Tw.oNeN_lst, Tw.oNeS_same, Tw.sPar3, Tw.rCallK, Tw.iRg3, Tw.oMulT, Tw.sSwap, Tw.sRetF, Tw.rCallF, Tw.rCutF, -Bool.exists_bool]
          show p_cell [tP (lnN g F N), T.int ((r : Int) + 1), T.int (j : Nat)] _
          refine ⟨lnN g F N, r + 1, j, rfl, by omega, by omega, s150, fun c hc => ?_⟩
          obtain rfl := f.no (by omega) hc
          simp [Tw.sSeq, Tw.sRet, Tw.sRetN, Tw.sSet, Tw.sIf, Tw.sPut, Tw.sApp, Tw.sPop, Tw.sDrop, Tw.sAsg, Tw.sPar, Tw.sNext, Tw.sBreak, Tw.sCont, Tw.sFor, Tw.rVar, Tw.rC, Tw.rOp, Tw.rUn, Tw.rCall, Tw.rCons, Tw.rNil, Tw.rStar, Tw.rTup, Tw.rLst, Tw.rAnd, Tw.rOr, Tw.rNot, Tw.rIf, Tw.rPure, Tw.rChain, Tw.rCut, Tw.rCutF, Tw.rNoPart, Tw.rPart, Tw.rLc, Tw.bOp, Tw.bVal, Tw.bNot, Tw.bAnd, Tw.bOr, Tw.iSeq, Tw.iEnu, Tw.iRev, Tw.iZip, Tw.iRg1, Tw.iRg2, Tw.iRgD1, Tw.gN, Tw.oAdd, Tw.oSub, Tw.oLt, Tw.oLe, Tw.oGt, Tw.oGe, Tw.oMul, Tw.oFdiv, Tw.oMod, Tw.oPow, Tw.oGcd, Tw.oMax, Tw.oMin, Tw.oIx, Tw.oIs, Tw.oIsNot, Tw.isNon, Tw.uNeg, Tw.uLen, Tw.uAbs, Tw.uInt, Tw.uList, Tw.uTuple, Tw.uIsi, Tw.tyT, Tw.startT, Tw.wipeT, Tw.lim, Tw.gTups_tup, Tw.gConss_cons, Tw.gNils_nil, Tw.fMul, Tw.fAdd, Tw.fCut, Tw.sCut, Tw.oEq_int, Tw.oNe_int, Tw.oEqN_lst, Tw.oNeN_lst, Tw.oNeS_same, Tw.sPar3, Tw.rCallK, Tw.iRg3, Tw.oMulT, Tw.sSwap, Tw.sRetF, Tw.rCallF, Tw.rCutF, -Bool.exists_bool]
          exact hnx1 _ ⟨_, rfl⟩
        obtain ⟨v5, rfl⟩ := he
        simp [Tw.sSeq, Tw.sRet, Tw.sRetN, Tw.sSet, Tw.sIf, Tw.sPut, Tw.sApp, Tw.sPop, Tw.sDrop, Tw.sAsg, Tw.sPar, Tw.sNext, Tw.sBreak, Tw.sCont, Tw.sFor, Tw.rVar, Tw.rC, Tw.rOp, Tw.rUn, Tw.rCall, Tw.rCons, Tw.rNil, Tw.rStar, Tw.rTup, Tw.rLst, Tw.rAnd, Tw.rOr, Tw.rNot, Tw.rIf, Tw.rPure, Tw.rChain, Tw.rCut, Tw.rCutF, Tw.rNoPart, Tw.rPart, Tw.rLc, Tw.bOp, Tw.bVal, Tw.bNot, Tw.bAnd, Tw.bOr, Tw.iSeq, Tw.iEnu, Tw.iRev, Tw.iZip, Tw.iRg1, Tw.iRg2, Tw.iRgD1, Tw.gN, Tw.oAdd, Tw.oSub, Tw.oLt, Tw.oLe, Tw.oGt, Tw.oGe, Tw.oMul, Tw.oFdiv, Tw.oMod, Tw.oPow, Tw.oGcd, Tw.oMax, Tw.oMin, Tw.oIx, Tw.oIs, Tw.oIsNot, Tw.isNon, Tw.uNeg, Tw.uLen, Tw.uAbs, Tw.uInt, Tw.uList, Tw.uTuple, Tw.uIsi, Tw.tyT, Tw.startT, Tw.wipeT, Tw.lim, Tw.gTups_tup, Tw.gConss_cons, Tw.gNils_nil, Tw.fMul, Tw.fAdd, Tw.fCut, Tw.sCut, Tw.oEq_int, Tw.oNe_int, Tw.oEqN_lst, Tw.oNeN_lst, Tw.oNeS_same, Tw.sPar3, Tw.rCallK, Tw.iRg3, Tw.oMulT, Tw.sSwap, Tw.sRetF, Tw.rCallF, Tw.rCutF, -Bool.exists_bool, tP]
        refine ⟨tQ (cf (lnN g F N) 0), Q_at (k := 0) (by omega), ?_⟩
        refine ⟨_, rfl, by simp, by simp, fun t2 h2 => ?_⟩
        have hd : ∃ d : Rat, t2 = tQ d ∧ d ≠ 0 ∧ Sz 2 d := by
          simp at h2
          rcases h2 with rfl | rfl | rfl | rfl
          · exact ⟨1, rfl, by decide, ⟨by decide, by decide⟩⟩
          · exact ⟨-1, rfl, by decide, ⟨by decide, by decide⟩⟩
          · exact ⟨Rat.divInt 1 2, rfl, by decide +kernel, ⟨by decide, by decide⟩⟩
          · exact ⟨3, rfl, by decide, ⟨by decide, by decide⟩⟩
        obtain ⟨d, rfl, d0, sd⟩ := hd
        have s0 : Sz 131 (cf (lnN g F N) 0) := f.sz.cf 0
        refine ⟨_, _, rfl, s0.mono (by decide), sd.mono (by decide), ?_⟩
        refine ⟨_, 0, _, rfl, by rw [tQs_len]; omega, by rw [tQs_len]; omega, ?_⟩
        rw [tQs_set]
        obtain ⟨s2, e2⟩ : ∃ s2, s2 = (lnN g F N).set 0 (cf (lnN g F N) 0 + d) := ⟨_, rfl⟩
        rw [← e2]
        have l2 : s2.length = N := by rw [e2, List.length_set, lN]
        have z2 : SzL 150 s2 := fun y my => by
          rw [e2] at my
          rcases List.mem_or_eq_of_mem_set my with my | my
          · exact s150 y my
          · rw [my]; exact (s0.add sd).mono (by decide)
        have c2 : ∀ k, 1 ≤ k → k < N → cf s2 k = g + F.c k := fun k k1 k2 => by
          rw [← cf_lnN (g := g) (F := F) k2, e2]
          show ((lnN g F N).set 0 (cf (lnN g F N) 0 + d)).getD k 0 = (lnN g F N).getD k 0
          rw [List.getD_eq_getElem?_getD, List.getElem?_set, if_neg (by omega), ← List.getD_eq_getElem?_getD]
        have c0 : cf s2 0 = g + F.c 0 + d := by
          rw [← cf_lnN (g := g) (F := F) (k := 0) (N := N) (by omega), e2]
          show ((lnN g F N).set 0 (cf (lnN g F N) 0 + d)).getD 0 0 = _
          rw [List.getD_eq_getElem?_getD, List.getElem?_set, if_pos rfl, if_pos (by omega)]; rfl
        refine ⟨mulOk_l (by decide) (by decide), ⟨by decide, by decide⟩, ⟨by omega, by omega⟩, ?_⟩
        refine wLoop_inv (fun e => ∃ v5, e = [some (T.scr ns), some (.int i), some .wel, some (.int N), some (.tup (tQs (lnN g F N))), v5, some (.tup (tQs s2)), v7, some (tQ g), some (.int r), v10]) _ _ (fun t1 ht1 env hI nx1 hnx1 => ?_) ⟨_, rfl⟩ (fun e he => ?_)
        · obtain ⟨j, rfl, j0, j1⟩ := mem_rgT ht1
          obtain ⟨v5, rfl⟩ := hI
          obtain ⟨j, rfl⟩ : ∃ a : Nat, j = (a : Nat) := ⟨j.toNat, by omega⟩
          simp [Tw.sSeq, Tw.sRet, Tw.sRetN, Tw.sSet, Tw.sIf, Tw.sPut, Tw.sApp, Tw.sPop, Tw.sDrop, Tw.sAsg, Tw.sPar, Tw.sNext, Tw.sBreak, Tw.sCont, Tw.sFor, Tw.rVar, Tw.rC, Tw.rOp, Tw.rUn, Tw.rCall, Tw.rCons, Tw.rNil, Tw.rStar, Tw.rTup, Tw.rLst, Tw.rAnd, Tw.rOr, Tw.rNot, Tw.rIf, Tw.rPure, Tw.rChain, Tw.rCut, Tw.rCutF, Tw.rNoPart, Tw.rPart, Tw.rLc, Tw.bOp, Tw.bVal, Tw.bNot, Tw.bAnd, Tw.bOr, Tw.iSeq, Tw.iEnu, Tw.iRev, Tw.iZip, Tw.iRg1, Tw.iRg2, Tw.iRgD1, Tw.gN, Tw.oAdd, Tw.oSub, Tw.oLt, Tw.oLe, Tw.oGt, Tw.oGe, Tw.oMul, Tw.oFdiv, Tw.oMod, Tw.oPow, Tw.oGcd, Tw.oMax, Tw.oMin, Tw.oIx, Tw.oIs, Tw.oIsNot, Tw.isNon, Tw.uNeg, Tw.uLen, Tw.uAbs, Tw.uInt, Tw.uList, Tw.uTuple, Tw.uIsi, Tw.tyT, Tw.startT, Tw.wipeT, Tw.lim, Tw.gTups_tup, Tw.gConss_cons, Tw.gNils_nil, Tw.fMul, Tw.fAdd, Tw.fCut, Tw.sCut, Tw.oEq_int, Tw.oNe_int, Tw.oEqN_lst, Tw.oNeN_lst, Tw.oNeS_same, Tw.sPar3, Tw.rCallK, Tw.iRg3, Tw.oMulT, Tw.sSwap, Tw.sRetF, Tw.rCallF, Tw.rCutF, -Bool.exists_bool]
          refine ⟨s2, r, j, rfl, by omega, by omega, z2, fun c hc => ?_⟩
          obtain rfl := f.at (fun k hk hk2 => c2 k (by omega) hk2) (by omega) hc
          refine ⟨kg, kg, ?_⟩
          dsimp only
          rw [oNeS_same]
          refine ⟨_, rfl, ?_⟩
          rw [if_neg (by decide)]
          exact hnx1 _ ⟨_, rfl⟩
        obtain ⟨v5, rfl⟩ := he
        have fin : ∀ v10 : Option T, nx [some (T.scr ns), some (.int i), some .wel, some (.int N), some (.tup (tQs (lnN g F N))), v5, some (.tup (tQs s2)), v7, some (tQ g), some (.int r), v10] := fun v10 => hnx _ ⟨_, _, _, _, _, _, _, _, _, _, rfl⟩
        simp [Tw.sSeq, Tw.sRet, Tw.sRetN, Tw.sSet, Tw.sIf, Tw.sPut, Tw.sApp, Tw.sPop, Tw.sDrop, Tw.sAsg, Tw.sPar, Tw.sNext, Tw.sBreak, Tw.sCont, Tw.sFor, Tw.rVar, Tw.rC, Tw.rOp, Tw.rUn, Tw.rCall, Tw.rCons, Tw.rNil, Tw.rStar, Tw.rTup, Tw.rLst, Tw.rAnd, Tw.rOr, Tw.rNot, Tw.rIf, Tw.rPure, Tw.rChain, Tw.rCut, Tw.rCutF, Tw.rNoPart, Tw.rPart, Tw.rLc, Tw.bOp, Tw.bVal, Tw.bNot, Tw.bAnd, Tw.bOr, Tw.iSeq, Tw.iEnu, Tw.iRev, Tw.iZip, Tw.iRg1, Tw.iRg2, Tw.iRgD1, Tw.gN, Tw.oAdd, Tw.oSub, Tw.oLt, Tw.oLe, Tw.oGt, Tw.oGe, Tw.oMul, Tw.oFdiv, Tw.oMod, Tw.oPow, Tw.oGcd, Tw.oMax, Tw.oMin, Tw.oIx, Tw.oIs, Tw.oIsNot, Tw.isNon, Tw.uNeg, Tw.uLen, Tw.uAbs, Tw.uInt, Tw.uList, Tw.uTuple, Tw.uIsi, Tw.tyT, Tw.startT, Tw.wipeT, Tw.lim, Tw.gTups_tup, Tw.gConss_cons, Tw.gNils_nil, Tw.fMul, Tw.fAdd, Tw.fCut, Tw.sCut, Tw.oEq_int, Tw.oNe_int, Tw.oEqN_lst, Tw.oNeN_lst, Tw.oNeS_same, Tw.sPar3, Tw.rCallK, Tw.iRg3, Tw.oMulT, Tw.sSwap, Tw.sRetF, Tw.rCallF, Tw.rCutF, -Bool.exists_bool]
        refine ⟨mulOk_l (by decide) (by decide), ?_⟩
        refine split_tail ?_ fun hc rest => ?_
        · by_cases n8 : (N : Int) < 8
          · rw [if_pos n8]
            have nn : lnN g F N ≠ [] := fun z => by rw [z] at lN; simp at lN; omega
            refine ⟨lnN g F N, rfl, nn, by omega, s150, fun R hR => ?_⟩
            dsimp only
            rw [if_pos rfl]
            have e1 : ((N : Int) + 1).fdiv 2 = (((N + 1) / 2 : Nat) : Int) := by
              rw [Int.fdiv_eq_ediv_of_nonneg _ (by decide)]; omega
            have lR := hR.len
            rw [lN] at lR
            rw [e1, List.length_map, lR]
            refine ⟨divOk (by decide), ?_⟩
            rw [oNe_int]
            refine ⟨_, rfl, ?_⟩
            rw [decide_eq_true rfl, if_neg (by decide)]
            have hr : r < R.length := by omega
            obtain ⟨l1, l3⟩ := hR.row r R[r] (List.getElem?_eq_getElem hr)
            rw [lN] at l1
            have er : R[r] = List.replicate (N - 2 * r) (tQ g) := by
              rw [← l1]
              refine all_rep fun j c hc => ?_
              have hj := (List.getElem?_eq_some_iff.mp hc).1
              exact f.at (fun k _ hk => cf_lnN hk) (by omega) (l3 j c hc)
            refine ⟨.tup (List.replicate (N - 2 * r) (tQ g)), ?_, ?_⟩
            · rw [atI_k, List.getElem?_map, List.getElem?_eq_getElem hr, er]; rfl
            have kr : Rk 8000 60 (T.tup (List.replicate (N - 2 * r) (tQ g))) := by
              rw [rep_Q]
              exact (Rk.tP (d := 0) (SzL.rep (f.sg.mono (by decide)))).mono (by rw [List.length_replicate]; omega) (by decide)
            have e2 : ((N : Int) - 2 * r).toNat = N - 2 * r := by omega
            rw [e2]
            refine ⟨kr, mulOk_l (by decide) (by decide), by omega, by omega, kr, ?_⟩
            dsimp only
            rw [oNeS_same]
            refine ⟨_, rfl, ?_⟩
            rw [if_neg (by decide)]
            exact fin _
          · rw [if_neg n8]
            exact fin _
        · show p_cell [T.tup (tQs s2), T.int ((r : Int) + 1), T.int ((0 : Nat) : Int)] _
          refine ⟨s2, r + 1, 0, rfl, by omega, by omega, z2, fun c hc2 => ?_⟩
          obtain rfl := f.mov d0 c0 c2 (by omega) hc2
          refine ⟨kg, kg, ?_⟩
          dsimp only
          rw [oNeS_same]
          refine ⟨_, rfl, ?_⟩
          rw [if_neg (by decide)]
          exact rest
      · simp [Tw.sSeq, Tw.sRet, Tw.sRetN, Tw.sSet, Tw.sIf, Tw.sPut, Tw.sApp, Tw.sPop, Tw.sDrop, Tw.sAsg, Tw.sPar, Tw.sNext, Tw.sBreak, Tw.sCont, Tw.sFor, Tw.rVar, Tw.rC, Tw.rOp, Tw.rUn, Tw.rCall, Tw.rCons, Tw.rNil, Tw.rStar, Tw.rTup, Tw.rLst, Tw.rAnd, Tw.rOr, Tw.rNot, Tw.rIf, Tw.rPure, Tw.rChain, Tw.rCut, Tw.rCutF, Tw.rNoPart, Tw.rPart, Tw.rLc, Tw.bOp, Tw.bVal, Tw.bNot, Tw.bAnd, Tw.bOr, Tw.iSeq, Tw.iEnu, Tw.iRev, Tw.iZip, Tw.iRg1, Tw.iRg2, Tw.iRgD1, Tw.gN, Tw.oAdd, Tw.oSub, Tw.oLt, Tw.oLe, Tw.oGt, Tw.oGe, Tw.oMul, Tw.oFdiv, Tw.oMod, Tw.oPow, Tw.oGcd, Tw.oMax, Tw.oMin, Tw.oIx, Tw.oIs, Tw.oIsNot, Tw.isNon, Tw.uNeg, Tw.uLen, Tw.uAbs, Tw.uInt, Tw.uList, Tw.uTuple, Tw.uIsi, Tw.tyT, Tw.startT, Tw.wipeT, Tw.lim, Tw.gTups_tup, Tw.gConss_cons, Tw.gNils_nil, Tw.fMul, Tw.fAdd, Tw.fCut, Tw.sCut, Tw.oEq_int, Tw.oNe_int, Tw.oEqN_lst, Tw.oNeN_lst, Tw.oNeS_same, Tw.sPar3, Tw.rCallK, Tw.iRg3, Tw.oMulT, Tw.sSwap, Tw.sRetF, Tw.rCallF, Tw.rCutF, -Bool.exists_bool, at_0, at_1]
        refine ⟨ns, i, 54013, rfl, hn, i0, i2, by decide, by decide, ?_⟩
        refine ⟨rfl, fun t u F r g w r4 sg sl => ?_⟩
        simp [Tw.sSeq, Tw.sRet, Tw.sRetN, Tw.sSet, Tw.sIf, Tw.sPut, Tw.sApp, Tw.sPop, Tw.sDrop, Tw.sAsg, Tw.sPar, Tw.sNext, Tw.sBreak, Tw.sCont, Tw.sFor, Tw.rVar, Tw.rC, Tw.rOp, Tw.rUn, Tw.rCall, Tw.rCons, Tw.rNil, Tw.rStar, Tw.rTup, Tw.rLst, Tw.rAnd, Tw.rOr, Tw.rNot, Tw.rIf, Tw.rPure, Tw.rChain, Tw.rCut, Tw.rCutF, Tw.rNoPart, Tw.rPart, Tw.rLc, Tw.bOp, Tw.bVal, Tw.bNot, Tw.bAnd, Tw.bOr, Tw.iSeq, Tw.iEnu, Tw.iRev, Tw.iZip, Tw.iRg1, Tw.iRg2, Tw.iRgD1, Tw.gN, Tw.oAdd, Tw.oSub, Tw.oLt, Tw.oLe, Tw.oGt, Tw.oGe, Tw.oMul, Tw.oFdiv, Tw.oMod, Tw.oPow, Tw.oGcd, Tw.oMax, Tw.oMin, Tw.oIx, Tw.oIs, Tw.oIsNot, Tw.isNon, Tw.uNeg, Tw.uLen, Tw.uAbs, Tw.uInt, Tw.uList, Tw.uTuple, Tw.uIsi, Tw.tyT, Tw.startT, Tw.wipeT, Tw.lim, Tw.gTups_tup, Tw.gConss_cons, Tw.gNils_nil, Tw.fMul, Tw.fAdd, Tw.fCut, Tw.sCut, Tw.oEq_int, Tw.oNe_int, Tw.oEqN_lst, Tw.oNeN_lst, Tw.oNeS_same, Tw.sPar3, Tw.rCallK, Tw.iRg3, Tw.oMulT, Tw.sSwap, Tw.sRetF, Tw.rCallF, Tw.rCutF, -Bool.exists_bool]
        refine ⟨mulOk_l (by decide) (by decide), ?_⟩
        refine ⟨_, rfl, by simp, by simp, fun t0 h0 => ?_⟩
        have hm : ∃ n : Nat, t0 = .int (n : Nat) ∧ 1 ≤ n ∧ n ≤ 5 := by
          simp at h0
          rcases h0 with rfl | rfl | rfl | rfl | rfl <;> first | exact ⟨1, rfl, by decide, by decide⟩ | exact ⟨2, rfl, by decide, by decide⟩ | exact ⟨3, rfl, by decide, by decide⟩ | exact ⟨4, rfl, by decide, by decide⟩ | exact ⟨5, rfl, by decide, by decide⟩
        obtain ⟨n, rfl, n1, n5⟩ := hm
        simp [Tw.sSeq, Tw.sRet, Tw.sRetN, Tw.sSet, Tw.sIf, Tw.sPut, Tw.sApp, Tw.sPop, Tw.sDrop, Tw.sAsg, Tw.sPar, Tw.sNext, Tw.sBreak, Tw.sCont, Tw.sFor, Tw.rVar, Tw.rC, Tw.rOp, Tw.rUn, Tw.rCall, Tw.rCons, Tw.rNil, Tw.rStar, Tw.rTup, Tw.rLst, Tw.rAnd, Tw.rOr, Tw.rNot, Tw.rIf, Tw.rPure, Tw.rChain, Tw.rCut, Tw.rCutF, Tw.rNoPart, Tw.rPart, Tw.rLc, Tw.bOp, Tw.bVal, Tw.bNot, Tw.bAnd, Tw.bOr, Tw.iSeq, Tw.iEnu, Tw.iRev, Tw.iZip, Tw.iRg1, Tw.iRg2, Tw.iRgD1, Tw.gN, Tw.oAdd, Tw.oSub, Tw.oLt, Tw.oLe, Tw.oGt, Tw.oGe, Tw.oMul, Tw.oFdiv, Tw.oMod, Tw.oPow, Tw.oGcd, Tw.oMax, Tw.oMin, Tw.oIx, Tw.oIs, Tw.oIsNot, Tw.isNon, Tw.uNeg, Tw.uLen, Tw.uAbs, Tw.uInt, Tw.uList, Tw.uTuple, Tw.uIsi, Tw.tyT, Tw.startT, Tw.wipeT, Tw.lim, Tw.gTups_tup, Tw.gConss_cons, Tw.gNils_nil, Tw.fMul, Tw.fAdd, Tw.fCut, Tw.sCut, Tw.oEq_int, Tw.oNe_int, Tw.oEqN_lst, Tw.oNeN_lst, Tw.oNeS_same, Tw.sPar3, Tw.rCallK, Tw.iRg3, Tw.oMulT, Tw.sSwap, Tw.sRetF, Tw.rCallF, Tw.rCutF, -Bool.exists_bool, tLQ]
        have eN : (if 2 * (r : Int) + n < 13 then 2 * (r : Int) + n else 13) = ((min 13 (2 * r + n) : Nat) : Int) := by split <;> omega
        rw [eN, cutT_to (by omega), Int.toNat_natCast]
        have et : (tQs (ln fun n => g + F.c n)).take (min 13 (2 * r + n)) = tQs (lnN g F (min 13 (2 * r + n))) := by
          rw [← ln_take (by omega)]
          unfold tQs
          rw [List.map_take]
        rw [et]
        refine hKK _ ⟨t, u, F, r, min 13 (2 * r + n), g, _, _, _, _, rfl, w, r4, by omega, by omega, by omega, sg, fun y my => ?_⟩
        rw [← ln_take (by omega)] at my
        exact sl y (List.mem_of_mem_take my)
    · obtain ⟨v1, v2, v3, v4, v5, v6, v7, v8, v9, v10, rfl⟩ := he
      simp [Tw.sSeq, Tw.sRet, Tw.sRetN, Tw.sSet, Tw.sIf, Tw.sPut, Tw.sApp, Tw.sPop, Tw.sDrop, Tw.sAsg, Tw.sPar, Tw.sNext, Tw.sBreak, Tw.sCont, Tw.sFor, Tw.rVar, Tw.rC, Tw.rOp, Tw.rUn, Tw.rCall, Tw.rCons, Tw.rNil, Tw.rStar, Tw.rTup, Tw.rLst, Tw.rAnd, Tw.rOr, Tw.rNot, Tw.rIf, Tw.rPure, Tw.rChain, Tw.rCut, Tw.rCutF, Tw.rNoPart, Tw.rPart, Tw.rLc, Tw.bOp, Tw.bVal, Tw.bNot, Tw.bAnd, Tw.bOr, Tw.iSeq, Tw.iEnu, Tw.iRev, Tw.iZip, Tw.iRg1, Tw.iRg2, Tw.iRgD1, Tw.gN, Tw.oAdd, Tw.oSub, Tw.oLt, Tw.oLe, Tw.oGt, Tw.oGe, Tw.oMul, Tw.oFdiv, Tw.oMod, Tw.oPow, Tw.oGcd, Tw.oMax, Tw.oMin, Tw.oIx, Tw.oIs, Tw.oIsNot, Tw.isNon, Tw.uNeg, Tw.uLen, Tw.uAbs, Tw.uInt, Tw.uList, Tw.uTuple, Tw.uIsi, Tw.tyT, Tw.startT, Tw.wipeT, Tw.lim, Tw.gTups_tup, Tw.gConss_cons, Tw.gNils_nil, Tw.fMul, Tw.fAdd, Tw.fCut, Tw.sCut, Tw.oEq_int, Tw.oNe_int, Tw.oEqN_lst, Tw.oNeN_lst, Tw.oNeS_same, Tw.sPar3, Tw.rCallK, Tw.iRg3, Tw.oMulT, Tw.sSwap, Tw.sRetF, Tw.rCallF, Tw.rCutF, -Bool.exists_bool]
      exact h
theorem all_law {P : Program} {w : World} {K : PySem.W.Frag} {mg : Str → Option Value} {fa : Addr} (d_law_deck : Def K mg "_law_deck" s_law_deck ["script", "turn", "salt"]) (d_law_gcd : Def K mg "_law_gcd" s_law_gcd ["one", "two"]) (d_law_frac : Def K mg "_law_frac" s_law_frac ["up", "down"]) (d_law_roll : Def K mg "_law_roll" s_law_roll ["deck", "width"]) (d_law_pick : Def K mg "_law_pick" s_law_pick ["deck", "some"]) (d_law_small : Def K mg "_law_small" s_law_small ["deck"]) (d_law_plus : Def K mg "_law_plus" s_law_plus ["one", "two"]) (d_law_times : Def K mg "_law_times" s_law_times ["one", "two"]) (d_law_waving : Def K mg "_law_waving" s_law_waving ["deck"]) (d_divisor_of : Def K mg "divisor_of" s_divisor_of ["numbers"]) (d_is_reduced : Def K mg "is_reduced" s_is_reduced ["numbers"]) (d_is_whole : Def K mg "is_whole" s_is_whole ["value"]) (d_are_wholes : Def K mg "are_wholes" s_are_wholes ["value", "many"]) (d_is_ratio : Def K mg "is_ratio" s_is_ratio ["value"]) (d_check_numbers : Def K mg "check_numbers" s_check_numbers ["value"]) (d_is_between : Def K mg "is_between" s_is_between ["value", "low", "high"]) (d_check_from_nought : Def K mg "check_from_nought" s_check_from_nought ["value", "high"]) (d_equations_for : Def K mg "equations_for" s_equations_for ["numbers", "length", "many"]) (d_ratio_with : Def K mg "ratio_with" s_ratio_with ["number", "under"]) (d_ratio_product : Def K mg "ratio_product" s_ratio_product ["one", "two"]) (d_row_scaled : Def K mg "row_scaled" s_row_scaled ["row", "number"]) (d_ratio_over : Def K mg "ratio_over" s_ratio_over ["one", "two"]) (d_ratio_less : Def K mg "ratio_less" s_ratio_less ["one", "two"]) (d_row_less : Def K mg "row_less" s_row_less ["row", "other"]) (d_stairs : Def K mg "stairs" s_stairs ["rows", "many"]) (d_any_solution : Def K mg "any_solution" s_any_solution ["rows", "right", "many"]) (d_rank_of_rows : Def K mg "rank_of_rows" s_rank_of_rows ["rows", "many"]) (d_one_solution : Def K mg "one_solution" s_one_solution ["rows", "right", "many"]) (d_cell_by : Def K mg "cell_by" s_cell_by ["numbers", "order", "index"]) (d_cell : Def K mg "cell" s_cell ["numbers", "order", "index"]) (d_law_put : Def K mg "_law_put" s_law_put ["line", "at", "thing"]) (d_table_by : Def K mg "table_by" s_table_by ["numbers"]) (d_shanks_table : Def K mg "shanks_table" s_shanks_table ["numbers"]) (d_law : Def K mg "law" s_law ["script"]) (c_LESS : KCs K mg "LESS" K_LESS) (c_MOST_NUMBERS : KCs K mg "MOST_NUMBERS" K_MOST_NUMBERS) (c_ONE : KCs K mg "ONE" K_ONE) (c_ZERO : KCs K mg "ZERO" K_ZERO) (B : Bi mg) (hfa : mg "law" = some (.ref fa)) :
    ∃ fd : FuncData, (∀ (s : Shared) (u : Value), BindsTo s fd ⟨[u], []⟩ [("script", u)]) ∧ ∀ base : Heap, K.In base → base.Ns mainGlobals mg → Sees P base → FnG P w K mg base fa fd ["script"] (spT K pLaw) := by
  refine law_mk d_law hfa (fun _ _ _ _ _ _ _ => rfl) fun fd F base _ _ Se => ?_
  have k_cell_0_index_order_numbers : KBd K mg "cell" 0 ["index", "order", "numbers"] ["numbers", "order", "index"] [2, 1, 0] := kbd_of d_cell fun _ _ _ _ _ _ us ws h1 h2 => match us, ws, h1, h2 with | [], [_, _, _], _, _ => rfl
  have h_law_deck : Has P w K mg base "_law_deck" ["script", "turn", "salt"] 41 p_law_deck := h_law_deck  Se d_law_deck B
  have h_law_gcd : Has P w K mg base "_law_gcd" ["one", "two"] 41 p_law_gcd := h_law_gcd  Se d_law_gcd B
  have h_law_frac : Has P w K mg base "_law_frac" ["up", "down"] 42 p_law_frac := h_law_frac h_law_gcd Se d_law_frac B
  have h_law_roll : Has P w K mg base "_law_roll" ["deck", "width"] 41 p_law_roll := h_law_roll  Se d_law_roll B
  have h_law_pick : Has P w K mg base "_law_pick" ["deck", "some"] 42 p_law_pick := h_law_pick h_law_roll Se d_law_pick B
  have h_law_small : Has P w K mg base "_law_small" ["deck"] 43 p_law_small := h_law_small h_law_frac h_law_roll h_law_pick Se d_law_small B
  have h_law_plus : Has P w K mg base "_law_plus" ["one", "two"] 43 p_law_plus := h_law_plus h_law_frac Se d_law_plus B
  have h_law_times : Has P w K mg base "_law_times" ["one", "two"] 43 p_law_times := h_law_times h_law_frac Se d_law_times B
  have h_law_waving : Has P w K mg base "_law_waving" ["deck"] 44 p_law_waving := h_law_waving h_law_small h_law_pick h_law_roll h_law_plus h_law_times Se d_law_waving B
  have h_divisor_of : Has P w K mg base "divisor_of" ["numbers"] 41 p_divisor_of := h_divisor_of  Se d_divisor_of B
  have h_is_reduced : Has P w K mg base "is_reduced" ["numbers"] 42 p_is_reduced := h_is_reduced h_divisor_of Se d_is_reduced B
  have h_is_whole : Has P w K mg base "is_whole" ["value"] 41 p_is_whole := h_is_whole  Se d_is_whole B
  have h_are_wholes : Has P w K mg base "are_wholes" ["value", "many"] 42 p_are_wholes := h_are_wholes h_is_whole Se d_are_wholes B
  have h_is_ratio : Has P w K mg base "is_ratio" ["value"] 43 p_is_ratio := h_is_ratio h_is_reduced h_are_wholes Se d_is_ratio B
  have h_check_numbers : Has P w K mg base "check_numbers" ["value"] 44 p_check_numbers := h_check_numbers h_is_ratio c_MOST_NUMBERS Se d_check_numbers B
  have h_is_between : Has P w K mg base "is_between" ["value", "low", "high"] 42 p_is_between := h_is_between h_is_whole Se d_is_between B
  have h_check_from_nought : Has P w K mg base "check_from_nought" ["value", "high"] 43 p_check_from_nought := h_check_from_nought h_is_between Se d_check_from_nought B
  have h_equations_for : Has P w K mg base "equations_for" ["numbers", "length", "many"] 41 p_equations_for := h_equations_for c_LESS c_ONE c_ZERO Se d_equations_for B
  have h_ratio_with : Has P w K mg base "ratio_with" ["number", "under"] 42 p_ratio_with := h_ratio_with h_divisor_of Se d_ratio_with B
  have h_ratio_product : Has P w K mg base "ratio_product" ["one", "two"] 43 p_ratio_product := h_ratio_product h_ratio_with Se d_ratio_product B
  have h_row_scaled : Has P w K mg base "row_scaled" ["row", "number"] 44 p_row_scaled := h_row_scaled h_ratio_product Se d_row_scaled B
  have h_ratio_over : Has P w K mg base "ratio_over" ["one", "two"] 43 p_ratio_over := h_ratio_over h_ratio_with Se d_ratio_over B
  have h_ratio_less : Has P w K mg base "ratio_less" ["one", "two"] 43 p_ratio_less := h_ratio_less h_ratio_with Se d_ratio_less B
  have h_row_less : Has P w K mg base "row_less" ["row", "other"] 44 p_row_less := h_row_less h_ratio_less Se d_row_less B
  have h_stairs : Has P w K mg base "stairs" ["rows", "many"] 45 p_stairs := h_stairs h_row_scaled h_ratio_over h_row_less c_ONE c_ZERO Se d_stairs B
  have h_any_solution : Has P w K mg base "any_solution" ["rows", "right", "many"] 46 p_any_solution := h_any_solution h_stairs c_ZERO Se d_any_solution B
  have h_rank_of_rows : Has P w K mg base "rank_of_rows" ["rows", "many"] 46 p_rank_of_rows := h_rank_of_rows h_stairs Se d_rank_of_rows B
  have h_one_solution : Has P w K mg base "one_solution" ["rows", "right", "many"] 47 p_one_solution := h_one_solution h_any_solution h_rank_of_rows Se d_one_solution B
  have h_cell_by : Has P w K mg base "cell_by" ["numbers", "order", "index"] 48 p_cell_by := h_cell_by h_equations_for h_one_solution Se d_cell_by B
  have h_cell : Has P w K mg base "cell" ["numbers", "order", "index"] 49 p_cell := h_cell h_check_numbers h_check_from_nought h_cell_by Se d_cell B
  have h_law_put : Has P w K mg base "_law_put" ["line", "at", "thing"] 41 p_law_put := h_law_put  Se d_law_put B
  have h_table_by : Has P w K mg base "table_by" ["numbers"] 49 p_table_by := h_table_by h_cell_by Se d_table_by B
  have h_shanks_table : Has P w K mg base "shanks_table" ["numbers"] 50 p_shanks_table := h_shanks_table h_check_numbers h_table_by Se d_shanks_table B
  exact run_law h_law_deck h_law_waving h_law_pick h_cell h_law_put h_law_plus h_shanks_table k_cell_0_index_order_numbers Se F B
end
end My
open PySem
open PySem.W PyProof.Rows
set_option maxHeartbeats 0 in
theorem PySem.Challenge.cw_endtellers_k54_whole_cells_are_the_end_holds : PySem.Challenge.rw_endtellers_k54_whole_cells_are_the_end.Holds := by
  w_on
  o_law
  k_head
  (case hw => w_witness2)
  k_fill
  refine Tw.walk_G (l := PySem.Challenge.rw_endtellers_k54_whole_cells_are_the_end) (n := 63) (x := "script") (sp := fun w => Tw.spT _ Tw.pLaw) rfl (by decide) rfl (by decide +kernel) rfl (fun w h Y => PySem.W.kIn_of Y) ?F (fun _ _ a ns hl only sq => Tw.sp_law hl only sq)
  case F =>
    intro w mg fa h KX G hmg
    refine' My.all_law ?d0 ?d1 ?d2 ?d3 ?d4 ?d5 ?d6 ?d7 ?d8 ?d9 ?d10 ?d11 ?d12 ?d13 ?d14 ?d15 ?d16 ?d17 ?d18 ?d19 ?d20 ?d21 ?d22 ?d23 ?d24 ?d25 ?d26 ?d27 ?d28 ?d29 ?d30 ?d31 ?d32 ?d33 ?c0 ?c1 ?c2 ?c3 ?B hmg
    (case d0 => refine' Tw.def_mk KX G ?a ?l ?c ?k (fun _ _ _ _ _ _ us hl => match us, hl with | [_, _, _], _ => rfl); (case a => k_is); (case l => k_is); (case c => k_is); (case k => k_is))
    (case d1 => refine' Tw.def_mk KX G ?a ?l ?c ?k (fun _ _ _ _ _ _ us hl => match us, hl with | [_, _], _ => rfl); (case a => k_is); (case l => k_is); (case c => k_is); (case k => k_is))
    (case d2 => refine' Tw.def_mk KX G ?a ?l ?c ?k (fun _ _ _ _ _ _ us hl => match us, hl with | [_, _], _ => rfl); (case a => k_is); (case l => k_is); (case c => k_is); (case k => k_is))
    (case d3 => refine' Tw.def_mk KX G ?a ?l ?c ?k (fun _ _ _ _ _ _ us hl => match us, hl with | [_, _], _ => rfl); (case a => k_is); (case l => k_is); (case c => k_is); (case k => k_is))
    (case d4 => refine' Tw.def_mk KX G ?a ?l ?c ?k (fun _ _ _ _ _ _ us hl => match us, hl with | [_, _], _ => rfl); (case a => k_is); (case l => k_is); (case c => k_is); (case k => k_is))
    (case d5 => refine' Tw.def_mk KX G ?a ?l ?c ?k (fun _ _ _ _ _ _ us hl => match us, hl with | [_], _ => rfl); (case a => k_is); (case l => k_is); (case c => k_is); (case k => k_is))
    (case d6 => refine' Tw.def_mk KX G ?a ?l ?c ?k (fun _ _ _ _ _ _ us hl => match us, hl with | [_, _], _ => rfl); (case a => k_is); (case l => k_is); (case c => k_is); (case k => k_is))
    (case d7 => refine' Tw.def_mk KX G ?a ?l ?c ?k (fun _ _ _ _ _ _ us hl => match us, hl with | [_, _], _ => rfl); (case a => k_is); (case l => k_is); (case c => k_is); (case k => k_is))
    (case d8 => refine' Tw.def_mk KX G ?a ?l ?c ?k (fun _ _ _ _ _ _ us hl => match us, hl with | [_], _ => rfl); (case a => k_is); (case l => k_is); (case c => k_is); (case k => k_is))
    (case d9 => refine' Tw.def_mk KX G ?a ?l ?c ?k (fun _ _ _ _ _ _ us hl => match us, hl with | [_], _ => rfl); (case a => k_is); (case l => k_is); (case c => k_is); (case k => k_is))
    (case d10 => refine' Tw.def_mk KX G ?a ?l ?c ?k (fun _ _ _ _ _ _ us hl => match us, hl with | [_], _ => rfl); (case a => k_is); (case l => k_is); (case c => k_is); (case k => k_is))
    (case d11 => refine' Tw.def_mk KX G ?a ?l ?c ?k (fun _ _ _ _ _ _ us hl => match us, hl with | [_], _ => rfl); (case a => k_is); (case l => k_is); (case c => k_is); (case k => k_is))
    (case d12 => refine' Tw.def_mk KX G ?a ?l ?c ?k (fun _ _ _ _ _ _ us hl => match us, hl with | [_, _], _ => rfl); (case a => k_is); (case l => k_is); (case c => k_is); (case k => k_is))
    (case d13 => refine' Tw.def_mk KX G ?a ?l ?c ?k (fun _ _ _ _ _ _ us hl => match us, hl with | [_], _ => rfl); (case a => k_is); (case l => k_is); (case c => k_is); (case k => k_is))
    (case d14 => refine' Tw.def_mk KX G ?a ?l ?c ?k (fun _ _ _ _ _ _ us hl => match us, hl with | [_], _ => rfl); (case a => k_is); (case l => k_is); (case c => k_is); (case k => k_is))
    (case d15 => refine' Tw.def_mk KX G ?a ?l ?c ?k (fun _ _ _ _ _ _ us hl => match us, hl with | [_, _, _], _ => rfl); (case a => k_is); (case l => k_is); (case c => k_is); (case k => k_is))
    (case d16 => refine' Tw.def_mk KX G ?a ?l ?c ?k (fun _ _ _ _ _ _ us hl => match us, hl with | [_, _], _ => rfl); (case a => k_is); (case l => k_is); (case c => k_is); (case k => k_is))
    (case d17 => refine' Tw.def_mk KX G ?a ?l ?c ?k (fun _ _ _ _ _ _ us hl => match us, hl with | [_, _, _], _ => rfl); (case a => k_is); (case l => k_is); (case c => k_is); (case k => k_is))
    (case d18 => refine' Tw.def_mk KX G ?a ?l ?c ?k (fun _ _ _ _ _ _ us hl => match us, hl with | [_, _], _ => rfl); (case a => k_is); (case l => k_is); (case c => k_is); (case k => k_is))
    (case d19 => refine' Tw.def_mk KX G ?a ?l ?c ?k (fun _ _ _ _ _ _ us hl => match us, hl with | [_, _], _ => rfl); (case a => k_is); (case l => k_is); (case c => k_is); (case k => k_is))
    (case d20 => refine' Tw.def_mk KX G ?a ?l ?c ?k (fun _ _ _ _ _ _ us hl => match us, hl with | [_, _], _ => rfl); (case a => k_is); (case l => k_is); (case c => k_is); (case k => k_is))
    (case d21 => refine' Tw.def_mk KX G ?a ?l ?c ?k (fun _ _ _ _ _ _ us hl => match us, hl with | [_, _], _ => rfl); (case a => k_is); (case l => k_is); (case c => k_is); (case k => k_is))
    (case d22 => refine' Tw.def_mk KX G ?a ?l ?c ?k (fun _ _ _ _ _ _ us hl => match us, hl with | [_, _], _ => rfl); (case a => k_is); (case l => k_is); (case c => k_is); (case k => k_is))
    (case d23 => refine' Tw.def_mk KX G ?a ?l ?c ?k (fun _ _ _ _ _ _ us hl => match us, hl with | [_, _], _ => rfl); (case a => k_is); (case l => k_is); (case c => k_is); (case k => k_is))
    (case d24 => refine' Tw.def_mk KX G ?a ?l ?c ?k (fun _ _ _ _ _ _ us hl => match us, hl with | [_, _], _ => rfl); (case a => k_is); (case l => k_is); (case c => k_is); (case k => k_is))
    (case d25 => refine' Tw.def_mk KX G ?a ?l ?c ?k (fun _ _ _ _ _ _ us hl => match us, hl with | [_, _, _], _ => rfl); (case a => k_is); (case l => k_is); (case c => k_is); (case k => k_is))
    (case d26 => refine' Tw.def_mk KX G ?a ?l ?c ?k (fun _ _ _ _ _ _ us hl => match us, hl with | [_, _], _ => rfl); (case a => k_is); (case l => k_is); (case c => k_is); (case k => k_is))
    (case d27 => refine' Tw.def_mk KX G ?a ?l ?c ?k (fun _ _ _ _ _ _ us hl => match us, hl with | [_, _, _], _ => rfl); (case a => k_is); (case l => k_is); (case c => k_is); (case k => k_is))
    (case d28 => refine' Tw.def_mk KX G ?a ?l ?c ?k (fun _ _ _ _ _ _ us hl => match us, hl with | [_, _, _], _ => rfl); (case a => k_is); (case l => k_is); (case c => k_is); (case k => k_is))
    (case d29 => refine' Tw.def_mk KX G ?a ?l ?c ?k (fun _ _ _ _ _ _ us hl => match us, hl with | [_, _, _], _ => rfl); (case a => k_is); (case l => k_is); (case c => k_is); (case k => k_is))
    (case d30 => refine' Tw.def_mk KX G ?a ?l ?c ?k (fun _ _ _ _ _ _ us hl => match us, hl with | [_, _, _], _ => rfl); (case a => k_is); (case l => k_is); (case c => k_is); (case k => k_is))
    (case d31 => refine' Tw.def_mk KX G ?a ?l ?c ?k (fun _ _ _ _ _ _ us hl => match us, hl with | [_], _ => rfl); (case a => k_is); (case l => k_is); (case c => k_is); (case k => k_is))
    (case d32 => refine' Tw.def_mk KX G ?a ?l ?c ?k (fun _ _ _ _ _ _ us hl => match us, hl with | [_], _ => rfl); (case a => k_is); (case l => k_is); (case c => k_is); (case k => k_is))
    (case d33 => refine' Tw.def_mk KX G ?a ?l ?c ?k (fun _ _ _ _ _ _ us hl => match us, hl with | [_], _ => rfl); (case a => k_is); (case l => k_is); (case c => k_is); (case k => k_is))
    (case c0 => refine' Tw.kcs_mk KX G ?a (.tup ?l0 (by simp) (.cons .int (.cons .int .nil))); (case a => k_is); (case l0 => k_is))
    (case c1 => refine' Tw.kcs_mk KX G ?a .int; (case a => k_is))
    (case c2 => refine' Tw.kcs_mk KX G ?a (.tup ?l0 (by simp) (.cons .int (.cons .int .nil))); (case a => k_is); (case l0 => k_is))
    (case c3 => refine' Tw.kcs_mk KX G ?a (.tup ?l0 (by simp) (.cons .int (.cons .int .nil))); (case a => k_is); (case l0 => k_is))
    (case B => refine' ⟨?b0, ?b1, ?b2, ?b3, ?b4, ?b5, ?b6, ?b7, ?b8, ?b9, ?b10, ?b11, ?b12, ?b13, ?b14, ?b15, ?b16, ?b17, ?b18, ?gcd⟩; (case b0 => refine' PySem.W.mg_none_of KX G ?_; k_is); (case b1 => refine' PySem.W.mg_none_of KX G ?_; k_is); (case b2 => refine' PySem.W.mg_none_of KX G ?_; k_is); (case b3 => refine' PySem.W.mg_none_of KX G ?_; k_is); (case b4 => refine' PySem.W.mg_none_of KX G ?_; k_is); (case b5 => refine' PySem.W.mg_none_of KX G ?_; k_is); (case b6 => refine' PySem.W.mg_none_of KX G ?_; k_is); (case b7 => refine' PySem.W.mg_none_of KX G ?_; k_is); (case b8 => refine' PySem.W.mg_none_of KX G ?_; k_is); (case b9 => refine' PySem.W.mg_none_of KX G ?_; k_is); (case b10 => refine' PySem.W.mg_none_of KX G ?_; k_is); (case b11 => refine' PySem.W.mg_none_of KX G ?_; k_is); (case b12 => refine' PySem.W.mg_none_of KX G ?_; k_is); (case b13 => refine' PySem.W.mg_none_of KX G ?_; k_is); (case b14 => refine' PySem.W.mg_none_of KX G ?_; k_is); (case b15 => refine' PySem.W.mg_none_of KX G ?_; k_is); (case b16 => refine' PySem.W.mg_none_of KX G ?_; k_is); (case b17 => refine' PySem.W.mg_none_of KX G ?_; k_is); (case b18 => refine' PySem.W.mg_none_of KX G ?_; k_is); (case gcd => refine' PySem.W.mg_of KX G ?_; k_is))

