import PyProof.Rows.All
import Wide.All
import OpenK.AllK
import Wide.FinOn
import HandS.Base
import HandS.Call
import HandS.List
import HandS.Comp
import HandS.Ends
import HandS.Dict
import HandS.Iter
import HandS.Walk
import HandS.Words
import HandS.WordsList
import HandS.Exc
import HandS.ExcOwn
import HandS.WordsExc
import HandS.Style
import HandS.TupAny
import HandS.IsInst
import HandS.Text
import HandS.Conv
import HandS.Defaults
import KE.GoesEnum
import HandS.Steps
import PyProof.ListMulRoad
import PyProof.FactsAll.tuple_2
import HandS.TupMul
import KE.KeyNested
import KE.KDictKeyed
import HandS.ExcInit
import HandS.ExcField
import KE.KExcSuper
import HandS.Lambda
import HandS.TryMany
import KE.KStateDown
import HandS.More
import HandS.Head0
import HandS.Head1
import HandS.Head2
import HandS.HeadEnd
import HandS.HeadHook1
import HandS.HeadHook2
import HandS.HeadHook3
import HandS.HeadHook4
import HandS.EndBits
import HandS.EndTab
import PySem.Challenge.RW_saidatonce_k42_whole_two_limits_tell_all
/-! text DLa -/
set_option Elab.async false
set_option linter.all false
set_option maxRecDepth 100000
set_option maxHeartbeats 2000000
/-! Data level, 1: what a value stands for (Rp), an environment of data, readings of expressions over it. -/
namespace K42
open PySem PySem.Spec PyProof.Rows L2

abbrev PD := PyData
/-- H' has what H has, but at N -/
def Fr (N : Addr → Prop) (H H' : Hp) : Prop := ∀ b u, H b = some u → ¬ N b → H' b = some u
abbrev Ex (H H' : Hp) : Prop := ∀ b u, H b = some u → H' b = some u
theorem Fr.rfl' {N H} : Fr N H H := fun _ _ h _ => h
theorem Fr.trans {N H H1 H2} (a : Fr N H H1) (b : Fr N H1 H2) : Fr N H H2 := fun x o h n => b x o (a x o h n) n
theorem Ex.fr {N : Addr → Prop} {H H' : Hp} (e : Ex H H') : Fr N H H' := fun b u h _ => e b u h
theorem Ex.rfl' {H : Hp} : Ex H H := fun _ _ h => h
theorem Ex.tr {H H1 H2 : Hp} (a : Ex H H1) (b : Ex H1 H2) : Ex H H2 := fun x o h => b x o (a x o h)
theorem Ex.new {H : Hp} {p : Addr} {o : HO} (h : H p = none) : Ex H (upd H p o) := fun b u e => by
  rw [upd_ne (ne_of_none e h)]; exact e
theorem Ex.back {H H' : Hp} {p : Addr} (e : Ex H H') (h : H' p = none) : H p = none := by
  cases q : H p with
  | none => rfl
  | some o => rw [e p o q] at h; cases h

/-- a table, as data: its class, its two fields -/
def tabD (C : Addr) (dt de : PD) : PD := .dict [(.int (C : Nat), .tuple [dt, de])]
mutual
/-- the value v stands for d in H; none of its objects is in A -/
inductive Rp (A : Addr → Prop) (H : Hp) : V → PD → Prop
  | non : Rp A H .non .none
  | bl (b : Bool) : Rp A H (.bl b) (.bool b)
  | int (i : Int) : Rp A H (.int i) (.int i)
  | str (x : Str) : Rp A H (.str x) (.str x)
  | lst {a : Addr} {xs : List V} {ds : List PD} : H a = some (.lst xs) → ¬ A a → RpL A H xs ds → Rp A H (.ref a) (.list ds)
  | tup {a : Addr} {xs : List V} {ds : List PD} : H a = some (.tup xs) → ¬ A a → RpL A H xs ds → Rp A H (.ref a) (.tuple ds)
  | tab {a C dx : Addr} {x y : V} {dt de : PD} : H a = some (.ins C dx [("things", x), ("ties", y)]) → ¬ A a → Rp A H x dt → Rp A H y de → Rp A H (.ref a) (tabD C dt de)
inductive RpL (A : Addr → Prop) (H : Hp) : List V → List PD → Prop
  | nil : RpL A H [] []
  | cons {v : V} {vs : List V} {d : PD} {ds : List PD} : Rp A H v d → RpL A H vs ds → RpL A H (v :: vs) (d :: ds)
end
mutual
theorem Rp.to {A A' : Addr → Prop} {H H' : Hp} (k : ∀ b o, H b = some o → ¬ A b → H' b = some o ∧ ¬ A' b) : ∀ {v : V} {d : PD}, Rp A H v d → Rp A' H' v d
  | _, _, .non => .non
  | _, _, .bl b => .bl b
  | _, _, .int i => .int i
  | _, _, .str x => .str x
  | _, _, .lst h n r => .lst (k _ _ h n).1 (k _ _ h n).2 (RpL.to k r)
  | _, _, .tup h n r => .tup (k _ _ h n).1 (k _ _ h n).2 (RpL.to k r)
  | _, _, .tab h n r t => .tab (k _ _ h n).1 (k _ _ h n).2 (Rp.to k r) (Rp.to k t)
theorem RpL.to {A A' : Addr → Prop} {H H' : Hp} (k : ∀ b o, H b = some o → ¬ A b → H' b = some o ∧ ¬ A' b) : ∀ {vs : List V} {ds : List PD}, RpL A H vs ds → RpL A' H' vs ds
  | _, _, .nil => .nil
  | _, _, .cons r t => .cons (Rp.to k r) (RpL.to k t)
end
theorem Rp.ex {A : Addr → Prop} {H H' : Hp} (e : Ex H H') {v d} (r : Rp A H v d) : Rp A H' v d := r.to fun b o h n => ⟨e b o h, n⟩
theorem RpL.ex {A : Addr → Prop} {H H' : Hp} (e : Ex H H') {v d} (r : RpL A H v d) : RpL A H' v d := r.to fun b o h n => ⟨e b o h, n⟩
theorem Rp.fr {A N : Addr → Prop} {H H' : Hp} (s : ∀ b, N b → A b) (e : Fr N H H') {v d} (r : Rp A H v d) : Rp A H' v d := r.to fun b o h n => ⟨e b o h fun z => n (s b z), n⟩
theorem RpL.fr {A N : Addr → Prop} {H H' : Hp} (s : ∀ b, N b → A b) (e : Fr N H H') {v d} (r : RpL A H v d) : RpL A H' v d := r.to fun b o h n => ⟨e b o h fun z => n (s b z), n⟩
theorem Rp.sub {A A' : Addr → Prop} {H : Hp} (s : ∀ b, A' b → A b) {v d} (r : Rp A H v d) : Rp A' H v d := r.to fun b o h n => ⟨h, fun z => n (s b z)⟩
theorem RpL.sub {A A' : Addr → Prop} {H : Hp} (s : ∀ b, A' b → A b) {v d} (r : RpL A H v d) : RpL A' H v d := r.to fun b o h n => ⟨h, fun z => n (s b z)⟩
theorem RpL.length {A : Addr → Prop} {H : Hp} : ∀ {vs : List V} {ds : List PD}, RpL A H vs ds → vs.length = ds.length
  | _, _, .nil => rfl
  | _, _, .cons _ t => congrArg (· + 1) (RpL.length t)
theorem RpL.get {A : Addr → Prop} {H : Hp} : ∀ {vs : List V} {ds : List PD} {i : Nat} {d : PD}, RpL A H vs ds → ds[i]? = some d → ∃ v, vs[i]? = some v ∧ Rp A H v d
  | _, _, _, _, .nil, e => by simp at e
  | _, _, 0, _, .cons r _, e => by simp at e; subst e; exact ⟨_, rfl, r⟩
  | _, _, i + 1, d, .cons _ t, e => by
    obtain ⟨v, h1, h2⟩ := RpL.get (i := i) (d := d) t (by simpa using e)
    exact ⟨v, by simpa using h1, h2⟩
theorem RpL.getV {A : Addr → Prop} {H : Hp} : ∀ {vs : List V} {ds : List PD} {i : Nat} {v : V}, RpL A H vs ds → vs[i]? = some v → ∃ d, ds[i]? = some d ∧ Rp A H v d
  | _, _, _, _, .nil, e => by simp at e
  | _, _, 0, _, .cons r _, e => by simp at e; subst e; exact ⟨_, rfl, r⟩
  | _, _, i + 1, d, .cons _ t, e => by
    obtain ⟨v, h1, h2⟩ := RpL.getV (i := i) (v := d) t (by simpa using e)
    exact ⟨v, by simpa using h1, h2⟩
theorem RpL.append {A : Addr → Prop} {H : Hp} : ∀ {vs : List V} {ds : List PD} {ws es}, RpL A H vs ds → RpL A H ws es → RpL A H (vs ++ ws) (ds ++ es)
  | _, _, _, _, .nil, s => s
  | _, _, _, _, .cons r t, s => .cons r (RpL.append t s)
theorem RpL.set {A : Addr → Prop} {H : Hp} {v : V} {d : PD} (r : Rp A H v d) : ∀ {vs : List V} {ds : List PD} (i : Nat), RpL A H vs ds → RpL A H (vs.set i v) (ds.set i d)
  | _, _, _, .nil => .nil
  | _, _, 0, .cons _ t => .cons r t
  | _, _, i + 1, .cons q t => .cons q (RpL.set r i t)
theorem RpL.take {A : Addr → Prop} {H : Hp} : ∀ {vs : List V} {ds : List PD} (n : Nat), RpL A H vs ds → RpL A H (vs.take n) (ds.take n)
  | _, _, 0, _ => .nil
  | _, _, _ + 1, .nil => .nil
  | _, _, n + 1, .cons r t => .cons r (RpL.take n t)
theorem RpL.drop {A : Addr → Prop} {H : Hp} : ∀ {vs : List V} {ds : List PD} (n : Nat), RpL A H vs ds → RpL A H (vs.drop n) (ds.drop n)
  | _, _, 0, r => r
  | _, _, _ + 1, .nil => .nil
  | _, _, n + 1, .cons _ t => RpL.drop n t
theorem RpL.reverse {A : Addr → Prop} {H : Hp} : ∀ {vs : List V} {ds : List PD}, RpL A H vs ds → RpL A H vs.reverse ds.reverse
  | _, _, .nil => .nil
  | _, _, .cons r t => by rw [List.reverse_cons, List.reverse_cons]; exact (RpL.reverse t).append (.cons r .nil)
theorem RpL.rep {A : Addr → Prop} {H : Hp} {vs : List V} {ds : List PD} (r : RpL A H vs ds) : ∀ n : Nat, RpL A H (List.replicate n vs).flatten (List.replicate n ds).flatten
  | 0 => .nil
  | n + 1 => by rw [List.replicate_succ, List.replicate_succ, List.flatten_cons, List.flatten_cons]; exact r.append (RpL.rep r n)
theorem RpL.of {A : Addr → Prop} {H : Hp} : ∀ {vs : List V} {ds : List PD}, vs.length = ds.length → (∀ (i : Nat) (v : V) (d : PD), vs[i]? = some v → ds[i]? = some d → Rp A H v d) → RpL A H vs ds
  | [], [], _, _ => .nil
  | [], _ :: _, h, _ => by simp at h
  | _ :: _, [], h, _ => by simp at h
  | v :: vs, d :: ds, h, k => .cons (k 0 v d rfl rfl) (RpL.of (by simpa using h) fun i a b p q => k (i + 1) a b (by simpa using p) (by simpa using q))
mutual
theorem Rp.dp {K : PySem.W.Frag} {A : Addr → Prop} {H : Hp} : ∀ {v : V} {d : PD}, Rp A H v d → d.canLay0 = true → Dp K H v d
  | _, _, .non, _ => .non
  | _, _, .bl b, _ => .bl b
  | _, _, .int i, _ => .int i
  | _, _, .str x, _ => .str x
  | _, _, .lst h _ r, c => .lst (.inl (.inl h)) (RpL.dp r (by simpa [PyData.canLay0] using c))
  | _, _, .tup h _ r, c => .tup (.inl (.inl h)) (RpL.dp r (by simpa [PyData.canLay0] using c))
  | _, _, .tab _ _ _ _, c => by simp [tabD, PyData.canLay0] at c
theorem RpL.dp {K : PySem.W.Frag} {A : Addr → Prop} {H : Hp} : ∀ {vs : List V} {ds : List PD}, RpL A H vs ds → PyData.canLayAll0 ds = true → DpAll K H vs ds
  | _, _, .nil, _ => .nil
  | _, _, .cons r t, c => by
    have c' := Bool.and_eq_true_iff.mp (show (PyData.canLay0 _ && PyData.canLayAll0 _) = true by simpa only [PyData.canLayAll0] using c)
    exact .cons (Rp.dp r c'.1) (RpL.dp t c'.2)
end

/-! ### environments -/
/-- a slot: empty, data, a list that this name alone holds, a fixed value -/
inductive Sl where
  | no
  | dat (d : PD)
  | own (ds : List PD)
  | spc (v : V)
abbrev Rho := List Sl
/-- what may change besides (N), what stands there (S) -/
structure Gm where
  N : Addr → Prop
  S : Hp → Prop
  dom : ∀ H b, S H → N b → H b ≠ none
  loc : ∀ H H', S H → (∀ b u, H b = some u → (N b ∨ ∃ xs, u = HO.tup xs) → H' b = some u) → S H'
theorem Gm.mono (G : Gm) : ∀ H H', G.S H → Ex H H' → G.S H' := fun H H' s e => G.loc H H' s fun b u h _ => e b u h
def Gm.pure : Gm := ⟨fun _ => False, fun _ => True, fun _ _ _ z => z.elim, fun _ _ _ _ => trivial⟩
def Own (ρ : Rho) (o : Nat → Addr) (b : Addr) : Prop := ∃ (i : Nat) (ds : List PD), ρ[i]? = some (Sl.own ds) ∧ b = o i
/-- what the environment's data keep off -/
def Av (X : Addr → Prop) (o : Nat → Addr) (ρ : Rho) (b : Addr) : Prop := X b ∨ Own ρ o b
def Ch (G : Gm) (o : Nat → Addr) (ρ : Rho) (b : Addr) : Prop := G.N b ∨ Own ρ o b
structure EnvOk (G : Gm) (X : Addr → Prop) (o : Nat → Addr) (σ : L2.St) (H : Hp) (ρ : Rho) : Prop where
  s : G.S H
  sub : ∀ b, G.N b → X b
  xdom : ∀ b, X b → H b ≠ none
  len : σ.length = ρ.length
  inj : ∀ (i j : Nat) (ds es : List PD), ρ[i]? = some (Sl.own ds) → ρ[j]? = some (Sl.own es) → o i = o j → i = j
  out : ∀ (i : Nat) (ds : List PD), ρ[i]? = some (Sl.own ds) → ¬ X (o i)
  dat : ∀ (i : Nat) (d : PD), ρ[i]? = some (Sl.dat d) → ∃ v, σ[i]? = some (some v) ∧ Rp (Av X o ρ) H v d
  own : ∀ (i : Nat) (ds : List PD), ρ[i]? = some (Sl.own ds) → σ[i]? = some (some (.ref (o i))) ∧ ∃ vs, H (o i) = some (.lst vs) ∧ RpL (Av X o ρ) H vs ds
  spc : ∀ (i : Nat) (v : V), ρ[i]? = some (Sl.spc v) → σ[i]? = some (some v)
section
variable {G : Gm} {X : Addr → Prop} {o : Nat → Addr} {σ : L2.St} {H H' : Hp} {ρ : Rho}
theorem EnvOk.nav (E : EnvOk G X o σ H ρ) : ∀ b, G.N b → Av X o ρ b := fun b h => .inl (E.sub b h)
theorem EnvOk.dom (E : EnvOk G X o σ H ρ) {b : Addr} (h : Av X o ρ b) : H b ≠ none := by
  rcases h with h | ⟨i, ds, h, rfl⟩
  · exact E.xdom b h
  · obtain ⟨_, vs, e, _⟩ := E.own i ds h
    rw [e]; exact fun z => nomatch z
theorem EnvOk.fresh (E : EnvOk G X o σ H ρ) {b : Addr} (h : H b = none) : ¬ Av X o ρ b := fun z => E.dom z h
theorem EnvOk.nown (E : EnvOk G X o σ H ρ) {i : Nat} {ds : List PD} (h : ρ[i]? = some (Sl.own ds)) : ¬ G.N (o i) := fun z => E.out i ds h (E.sub _ z)
theorem EnvOk.step (E : EnvOk G X o σ H ρ) (f : Fr G.N H H') (hs : G.S H') : EnvOk G X o σ H' ρ where
  s := hs
  sub := E.sub
  xdom := fun b h => by
    by_cases n : G.N b
    · exact G.dom _ _ hs n
    · cases q : H b with
      | none => exact absurd q (E.xdom b h)
      | some u => rw [f b u q n]; exact fun z => nomatch z
  len := E.len
  inj := E.inj
  out := E.out
  dat := fun i d h => by
    obtain ⟨v, a, r⟩ := E.dat i d h
    exact ⟨v, a, r.fr E.nav f⟩
  own := fun i ds h => by
    obtain ⟨a, vs, e, r⟩ := E.own i ds h
    exact ⟨a, vs, f _ _ e (E.nown h), r.fr E.nav f⟩
  spc := E.spc
theorem EnvOk.ex (E : EnvOk G X o σ H ρ) (e : Ex H H') : EnvOk G X o σ H' ρ := E.step e.fr (G.mono _ _ E.s e)
/-- more to keep off: a new object -/
theorem EnvOk.more (E : EnvOk G X o σ H ρ) (e : Ex H H') {p : Addr} (hp : H p = none) (hp' : H' p ≠ none) : EnvOk G (fun b => X b ∨ b = p) o σ H' ρ := by
  have E1 := E.ex e
  have av : ∀ b u, H b = some u → ¬ Av X o ρ b → H' b = some u ∧ ¬ Av (fun b => X b ∨ b = p) o ρ b := fun b u h n => ⟨e b u h, fun z => by
    rcases z with (z | z) | z
    · exact n (.inl z)
    · rw [z, hp] at h; cases h
    · exact n (.inr z)⟩
  exact {
    s := E1.s
    sub := fun b h => .inl (E.sub b h)
    xdom := fun b h => by
      rcases h with h | h
      · exact E1.xdom b h
      · rw [h]; exact hp'
    len := E.len
    inj := E.inj
    out := fun i ds h z => by
      rcases z with z | z
      · exact E.out i ds h z
      · obtain ⟨_, vs, q, _⟩ := E.own i ds h
        rw [z, hp] at q; cases q
    dat := fun i d h => by
      obtain ⟨v, a, r⟩ := E.dat i d h
      exact ⟨v, a, r.to av⟩
    own := fun i ds h => by
      obtain ⟨a, vs, q, r⟩ := E.own i ds h
      exact ⟨a, vs, e _ _ q, r.to av⟩
    spc := E.spc }
end

/-! ### readings over data -/
/-- an expression: whatever it gives, K -/
def wpE (G : Gm) (te : TE) (ρ : Rho) (K : PD → Prop) : Prop := ∀ X o σ H, EnvOk G X o σ H ρ → ∀ Q : VK,
  (∀ v H' d, Fr G.N H H' → G.S H' → Rp (Av X o ρ) H' v d → K d → Q v H') → te σ H Q
/-- a new list -/
def wpN (G : Gm) (te : TE) (ρ : Rho) (K : List PD → Prop) : Prop := ∀ X o σ H, EnvOk G X o σ H ρ → ∀ Q : VK,
  (∀ p vs H' ds, H p = none → Fr G.N H H' → G.S H' → H' p = some (.lst vs) → RpL (fun b => Av X o ρ b ∨ b = p) H' vs ds → K ds → Q (.ref p) H') → te σ H Q
/-- some list that is read -/
def wpL (G : Gm) (te : TE) (ρ : Rho) (K : List PD → Prop) : Prop := ∀ X o σ H, EnvOk G X o σ H ρ → ∀ Q : VK,
  (∀ p vs H' ds, Fr G.N H H' → G.S H' → H' p = some (.lst vs) → ¬ G.N p → RpL (Av X o ρ) H' vs ds → K ds → Q (.ref p) H') → te σ H Q
def wpT (G : Gm) (tt : TT) (ρ : Rho) (K : Bool → Prop) : Prop := ∀ X o σ H, EnvOk G X o σ H ρ → ∀ Q : Bool → Hp → Prop,
  (∀ b H', Fr G.N H H' → G.S H' → K b → Q b H') → tt σ H Q
/-- an argument: data, a fixed value -/
inductive RpS (A : Addr → Prop) (H : Hp) : V → Sl → Prop
  | dat {v d} : Rp A H v d → RpS A H v (.dat d)
  | spc {v} : RpS A H v (.spc v)
inductive RpSs (A : Addr → Prop) (H : Hp) : List V → List Sl → Prop
  | nil : RpSs A H [] []
  | cons {v vs s ss} : RpS A H v s → RpSs A H vs ss → RpSs A H (v :: vs) (s :: ss)
theorem RpS.fr {A N : Addr → Prop} {H H' : Hp} (s : ∀ b, N b → A b) (e : Fr N H H') {v d} (r : RpS A H v d) : RpS A H' v d := by
  cases r with
  | dat r => exact .dat (r.fr s e)
  | spc => exact .spc
theorem RpSs.fr {A N : Addr → Prop} {H H' : Hp} (s : ∀ b, N b → A b) (e : Fr N H H') : ∀ {v d}, RpSs A H v d → RpSs A H' v d
  | _, _, .nil => .nil
  | _, _, .cons r t => .cons (r.fr s e) (RpSs.fr s e t)
theorem RpSs.dats {A : Addr → Prop} {H : Hp} : ∀ {ds : List PD} {vs : List V}, RpSs A H vs (ds.map .dat) → RpL A H vs ds
  | [], _, h => by cases h; exact .nil
  | d :: ds, _, h => by
    cases h with
    | cons r t =>
      cases r with
      | dat r => exact .cons r (RpSs.dats t)
def wpA (G : Gm) (ta : TA) (ρ : Rho) (K : List Sl → Prop) : Prop := ∀ X o σ H, EnvOk G X o σ H ρ → ∀ Q : List V → Hp → Prop,
  (∀ vs H' ss, Fr G.N H H' → G.S H' → RpSs (Av X o ρ) H' vs ss → K ss → Q vs H') → ta σ H Q
def wpO (G : Gm) (to : TO) (ρ : Rho) (K : Option Int → Prop) : Prop := ∀ X o σ H, EnvOk G X o σ H ρ → ∀ Q : Option Int → Hp → Prop,
  (∀ i H', Fr G.N H H' → G.S H' → K i → Q i H') → to σ H Q
section
variable {G : Gm} {ρ : Rho} {te ta tb tc : TE} {t u : TT} {K : PD → Prop} {Kl : List PD → Prop} {Kb : Bool → Prop}
theorem wpE.imp {K' : PD → Prop} (h : wpE G te ρ K) (k : ∀ d, K d → K' d) : wpE G te ρ K' := fun X o σ H E Q q => h X o σ H E Q fun v H' d f s r kd => q v H' d f s r (k d kd)
theorem wpN.imp {K' : List PD → Prop} (h : wpN G te ρ Kl) (k : ∀ d, Kl d → K' d) : wpN G te ρ K' := fun X o σ H E Q q => h X o σ H E Q fun p vs H' d hp f s e r kd => q p vs H' d hp f s e r (k d kd)
theorem wpL.imp {K' : List PD → Prop} (h : wpL G te ρ Kl) (k : ∀ d, Kl d → K' d) : wpL G te ρ K' := fun X o σ H E Q q => h X o σ H E Q fun p vs H' d f s e n r kd => q p vs H' d f s e n r (k d kd)
theorem wpT.imp {K' : Bool → Prop} (h : wpT G t ρ Kb) (k : ∀ b, Kb b → K' b) : wpT G t ρ K' := fun X o σ H E Q q => h X o σ H E Q fun b H' f s kb => q b H' f s (k b kb)
theorem wpN.E (h : wpN G te ρ fun ds => K (.list ds)) : wpE G te ρ K := fun X o σ H E Q q => h X o σ H E Q fun p vs H' ds hp f s e r kd =>
  q (.ref p) H' (.list ds) f s (.lst e (E.fresh hp) (r.sub fun b z => .inl z)) kd
theorem wpN.L (h : wpN G te ρ Kl) : wpL G te ρ Kl := fun X o σ H E Q q => h X o σ H E Q fun p vs H' ds hp f s e r kd =>
  q p vs H' ds f s e (fun n => E.fresh hp (E.nav p n)) (r.sub fun b z => .inl z) kd
theorem wpE.L (h : wpE G te ρ fun d => ∃ ds, d = .list ds ∧ Kl ds) : wpL G te ρ Kl := fun X o σ H E Q q => h X o σ H E Q fun v H' d f s r ⟨ds, e, k⟩ => by
  subst e
  cases r with
  | lst a n r => exact q _ _ H' ds f s a (fun z => n (E.nav _ z)) r k
/-! names, constants -/
theorem wpE_var {i : Nat} {d : PD} (h : ρ[i]? = some (Sl.dat d)) (k : K d) : wpE G (tVar i) ρ K := fun X o σ H E Q q => by
  obtain ⟨v, a, r⟩ := E.dat i d h
  exact ⟨v, a, q v H d Fr.rfl' E.s r k⟩
theorem wpL_var {i : Nat} {ds : List PD} (h : ρ[i]? = some (Sl.own ds)) (k : Kl ds) : wpL G (tVar i) ρ Kl := fun X o σ H E Q q => by
  obtain ⟨a, vs, e, r⟩ := E.own i ds h
  exact ⟨.ref (o i), a, q (o i) vs H ds Fr.rfl' E.s e (E.nown h) r k⟩
theorem wpL_dat {i : Nat} {ds : List PD} (h : ρ[i]? = some (Sl.dat (.list ds))) (k : Kl ds) : wpL G (tVar i) ρ Kl := (wpE_var h ⟨ds, rfl, k⟩).L
theorem wpE_int {n : Int} (k : K (.int n)) : wpE G (tC (.int n)) ρ K := fun X o σ H E Q q => q _ H _ Fr.rfl' E.s (.int n) k
theorem wpE_bl {b : Bool} (k : K (.bool b)) : wpE G (tC (.bl b)) ρ K := fun X o σ H E Q q => q _ H _ Fr.rfl' E.s (.bl b) k
theorem wpE_non (k : K .none) : wpE G (tC .non) ρ K := fun X o σ H E Q q => q _ H _ Fr.rfl' E.s .non k
theorem wpE_str {x : Str} (k : K (.str x)) : wpE G (tC (.str x)) ρ K := fun X o σ H E Q q => q _ H _ Fr.rfl' E.s (.str x) k
/-! operators by values -/
def OpD (r : R2) (f : PD → PD → (PD → Prop) → Prop) : Prop := ∀ (A : Addr → Prop) (H : Hp) (x y : V) (dx dy : PD) (K : PD → Prop) (Q : VK), (∀ b, A b → H b ≠ none) → Rp A H x dx → Rp A H y dy → f dx dy K →
  (∀ v H' d, Ex H H' → Rp A H' v d → K d → Q v H') → r x y H Q
theorem wpE_op {r : R2} {f : PD → PD → (PD → Prop) → Prop} (h : OpD r f) (ha : wpE G ta ρ fun dx => wpE G tb ρ fun dy => f dx dy K) : wpE G (tOp r ta tb) ρ K := fun X o σ H E Q q =>
  ha X o σ H E _ fun v H1 dx f1 s1 r1 hb => hb X o σ H1 (E.step f1 s1) _ fun w H2 dy f2 s2 r2 k => by
    have E2 := (E.step f1 s1).step f2 s2
    refine h (Av X o ρ) H2 v w dx dy K Q (fun b z => E2.dom z) (r1.fr E.nav f2) r2 k fun y H3 d e r3 kd => ?_
    exact q y H3 d ((f1.trans f2).trans e.fr) (G.mono _ _ s2 e) r3 kd
theorem opD_I0 {g : Int → Int → Int} : OpD (rI0 fun i j => .int (g i j)) fun dx dy K => ∃ i j, dx = .int i ∧ dy = .int j ∧ K (.int (g i j)) := fun A H x y dx dy K Q _ rx ry ⟨i, j, e1, e2, k⟩ q => by
  subst e1 e2; cases rx; cases ry
  exact ⟨i, j, rfl, rfl, q _ H _ Ex.rfl' (.int _) k⟩
theorem opD_B0 {g : Int → Int → Bool} : OpD (rI0 fun i j => .bl (g i j)) fun dx dy K => ∃ i j, dx = .int i ∧ dy = .int j ∧ K (.bool (g i j)) := fun A H x y dx dy K Q _ rx ry ⟨i, j, e1, e2, k⟩ q => by
  subst e1 e2; cases rx; cases ry
  exact ⟨i, j, rfl, rfl, q _ H _ Ex.rfl' (.bl _) k⟩
theorem opD_I {C : Int → Int → Prop} {g : Int → Int → Int} : OpD (rI C fun i j => .int (g i j)) fun dx dy K => ∃ i j, dx = .int i ∧ dy = .int j ∧ C i j ∧ K (.int (g i j)) := fun A H x y dx dy K Q _ rx ry ⟨i, j, e1, e2, c, k⟩ q => by
  subst e1 e2; cases rx; cases ry
  exact ⟨i, j, rfl, rfl, c, q _ H _ Ex.rfl' (.int _) k⟩
theorem opD_eq {F : PySem.W.Frag} : OpD (rEqD F) fun dx dy K => SeqAt.shaped dx = true ∧ SeqAt.shaped dy = true ∧ K (.bool (PyData.eqv dx dy)) := fun A H x y dx dy K Q _ rx ry ⟨h1, h2, k⟩ q =>
  ⟨dx, dy, rx.dp (SeqAt.canLay_of_shaped h1), ry.dp (SeqAt.canLay_of_shaped h2), h1, h2, q _ H _ Ex.rfl' (.bl _) k⟩
theorem opD_ne {F : PySem.W.Frag} : OpD (rNeD F) fun dx dy K => SeqAt.shaped dx = true ∧ SeqAt.shaped dy = true ∧ K (.bool (!PyData.eqv dx dy)) := fun A H x y dx dy K Q _ rx ry ⟨h1, h2, k⟩ q =>
  ⟨dx, dy, rx.dp (SeqAt.canLay_of_shaped h1), ry.dp (SeqAt.canLay_of_shaped h2), h1, h2, q _ H _ Ex.rfl' (.bl _) k⟩
def isNon : PD → Bool
  | .none => true
  | _ => false
theorem isNon_V {A : Addr → Prop} {H : Hp} {v : V} {d : PD} (r : Rp A H v d) : decide (v = .non) = isNon d := by cases r <;> rfl
theorem opD_is : OpD (fun x y H Q => y = .non ∧ Q (.bl (decide (x = .non))) H) fun dx dy K => dy = .none ∧ K (.bool (isNon dx)) := fun A H x y dx dy K Q _ rx ry ⟨e, k⟩ q => by
  subst e; cases ry
  refine ⟨rfl, ?_⟩
  rw [isNon_V rx]
  exact q _ H _ Ex.rfl' (.bl _) k
theorem opD_isnt : OpD (fun x y H Q => y = .non ∧ Q (.bl (!decide (x = .non))) H) fun dx dy K => dy = .none ∧ K (.bool (!isNon dx)) := fun A H x y dx dy K Q _ rx ry ⟨e, k⟩ q => by
  subst e; cases ry
  refine ⟨rfl, ?_⟩
  rw [isNon_V rx]
  exact q _ H _ Ex.rfl' (.bl _) k
/-- an item of a list or a tuple -/
def seqOf : PD → Option (List PD)
  | .list ds => some ds
  | .tuple ds => some ds
  | _ => none
theorem atI_rp {A : Addr → Prop} {H : Hp} {vs : List V} {ds : List PD} {i : Int} {d : PD} (r : RpL A H vs ds) (h : atI ds i = some d) : ∃ v, atI vs i = some v ∧ Rp A H v d := by
  unfold atI at h ⊢
  rw [r.length]
  cases e : ixN ds.length i with
  | none => rw [e] at h; cases h
  | some j =>
    rw [e] at h
    obtain ⟨v, q, rv⟩ := r.get (show ds[j]? = some d from h)
    exact ⟨v, q, rv⟩
theorem opD_ix {F : PySem.W.Frag} : OpD (rIx F) fun dx dy K => ∃ ds i d, seqOf dx = some ds ∧ dy = .int i ∧ atI ds i = some d ∧ K d := fun A H x y dx dy K Q _ rx ry ⟨ds, i, d, e1, e2, e3, k⟩ q => by
  subst e2; cases ry
  cases rx with
  | @lst a xs es ha n r =>
    cases e1
    obtain ⟨v, h, rv⟩ := atI_rp r e3
    exact .inl ⟨a, xs, i, v, rfl, rfl, .inl (.inl ha), h, q _ H _ Ex.rfl' rv k⟩
  | @tup a xs es ha n r =>
    cases e1
    obtain ⟨v, h, rv⟩ := atI_rp r e3
    exact .inr (.inl ⟨a, xs, i, v, rfl, rfl, .inl (.inl ha), h, q _ H _ Ex.rfl' rv k⟩)
  | _ => cases e1
/-- an item of a list that is read -/
theorem wpE_ixL {F : PySem.W.Frag} (ha : wpL G ta ρ fun ds => wpE G tb ρ fun dy => ∃ i d, dy = .int i ∧ atI ds i = some d ∧ K d)
    (keep : ∀ X o σ H H' p vs, EnvOk G X o σ H ρ → H p = some (.lst vs) → ¬ G.N p → Fr G.N H H' → H' p = some (.lst vs)) : wpE G (tOp (rIx F) ta tb) ρ K := fun X o σ H E Q q =>
  ha X o σ H E _ fun p vs H1 ds f1 s1 e1 n1 r1 hb => hb X o σ H1 (E.step f1 s1) _ fun w H2 dy f2 s2 r2 ⟨i, d, e2, e3, k⟩ => by
    subst e2; cases r2
    have r3 := r1.fr E.nav f2
    obtain ⟨v, h, rv⟩ := atI_rp r3 e3
    exact .inl ⟨p, vs, i, v, rfl, rfl, .inl (.inl (f2 _ _ e1 n1)), h, q _ H2 _ (f1.trans f2) s2 rv k⟩
end
end K42
/-! text DLb -/
set_option Elab.async false
set_option linter.all false
set_option maxRecDepth 100000
set_option maxHeartbeats 2000000
/-! Data level, 2: targets, what is walked, comprehensions, statements, loops. -/
namespace K42
open PySem PySem.Spec PyProof.Rows L2
section
variable {G : Gm} {X : Addr → Prop} {o o' : Nat → Addr} {σ σ' : L2.St} {H H' H1 H2 : Hp} {ρ ρ' : Rho}
/-! ### the environment changes -/
theorem own_set {j : Nat} {d : PD} {b : Addr} (h : Own (ρ.set j (.dat d)) o b) : Own ρ o b := by
  obtain ⟨i, ds, e, rfl⟩ := h
  by_cases q : j = i
  · subst q
    by_cases l : j < ρ.length
    · rw [List.getElem?_set_self l] at e; cases e
    · rw [List.getElem?_eq_none (by simpa using l)] at e; cases e
  · rw [List.getElem?_set_ne q] at e
    exact ⟨i, ds, e, rfl⟩
theorem own_setNo {j : Nat} {b : Addr} (h : Own (ρ.set j .no) o b) : Own ρ o b := by
  obtain ⟨i, ds, e, rfl⟩ := h
  by_cases q : j = i
  · subst q
    by_cases l : j < ρ.length
    · rw [List.getElem?_set_self l] at e; cases e
    · rw [List.getElem?_eq_none (by simpa using l)] at e; cases e
  · rw [List.getElem?_set_ne q] at e
    exact ⟨i, ds, e, rfl⟩
theorem EnvOk.setD (E : EnvOk G X o σ H ρ) {j : Nat} {v : V} {d : PD} (r : Rp (Av X o ρ) H v d) : EnvOk G X o (σ.set j (some v)) H (ρ.set j (.dat d)) := by
  have av : ∀ b, Av X o (ρ.set j (.dat d)) b → Av X o ρ b := fun b h => Or.imp_right own_set h
  have at_ : ∀ (i : Nat) s, (ρ.set j (.dat d))[i]? = some s → (i = j ∧ s = .dat d ∧ j < ρ.length) ∨ (i ≠ j ∧ ρ[i]? = some s) := fun i s e => by
    by_cases q : j = i
    · subst q
      by_cases l : j < ρ.length
      · rw [List.getElem?_set_self l] at e; cases e; exact .inl ⟨rfl, rfl, l⟩
      · rw [List.getElem?_eq_none (by simpa using l)] at e; cases e
    · rw [List.getElem?_set_ne q] at e; exact .inr ⟨fun z => q z.symm, e⟩
  exact {
    s := E.s
    sub := E.sub
    xdom := E.xdom
    len := by rw [List.length_set, List.length_set, E.len]
    inj := fun i k ds es h1 h2 q => by
      rcases at_ i _ h1 with ⟨_, z, _⟩ | ⟨_, h1⟩
      · cases z
      · rcases at_ k _ h2 with ⟨_, z, _⟩ | ⟨_, h2⟩
        · cases z
        · exact E.inj i k ds es h1 h2 q
    out := fun i ds h => by
      rcases at_ i _ h with ⟨_, z, _⟩ | ⟨_, h⟩
      · cases z
      · exact E.out i ds h
    dat := fun i e h => by
      rcases at_ i _ h with ⟨q, z, l⟩ | ⟨q, h⟩
      · cases z; subst q
        exact ⟨v, List.getElem?_set_self (by rw [E.len]; exact l), r.sub av⟩
      · obtain ⟨w, a, rw'⟩ := E.dat i e h
        exact ⟨w, by rw [List.getElem?_set_ne (fun z => q z.symm)]; exact a, rw'.sub av⟩
    own := fun i ds h => by
      rcases at_ i _ h with ⟨_, z, _⟩ | ⟨q, h⟩
      · cases z
      · obtain ⟨a, vs, e, rw'⟩ := E.own i ds h
        exact ⟨by rw [List.getElem?_set_ne (fun z => q z.symm)]; exact a, vs, e, rw'.sub av⟩
    spc := fun i w h => by
      rcases at_ i _ h with ⟨_, z, _⟩ | ⟨q, h⟩
      · cases z
      · rw [List.getElem?_set_ne (fun z => q z.symm)]; exact E.spc i w h }
theorem EnvOk.setNo (E : EnvOk G X o σ H ρ) {j : Nat} {w : Option V} : EnvOk G X o (σ.set j w) H (ρ.set j .no) := by
  have av : ∀ b, Av X o (ρ.set j .no) b → Av X o ρ b := fun b h => Or.imp_right own_setNo h
  have at_ : ∀ (i : Nat) s, (ρ.set j .no)[i]? = some s → (i = j ∧ s = .no) ∨ (i ≠ j ∧ ρ[i]? = some s) := fun i s e => by
    by_cases q : j = i
    · subst q
      by_cases l : j < ρ.length
      · rw [List.getElem?_set_self l] at e; cases e; exact .inl ⟨rfl, rfl⟩
      · rw [List.getElem?_eq_none (by simpa using l)] at e; cases e
    · rw [List.getElem?_set_ne q] at e; exact .inr ⟨fun z => q z.symm, e⟩
  exact {
    s := E.s
    sub := E.sub
    xdom := E.xdom
    len := by rw [List.length_set, List.length_set, E.len]
    inj := fun i k ds es h1 h2 q => by
      rcases at_ i _ h1 with ⟨_, z⟩ | ⟨_, h1⟩
      · cases z
      · rcases at_ k _ h2 with ⟨_, z⟩ | ⟨_, h2⟩
        · cases z
        · exact E.inj i k ds es h1 h2 q
    out := fun i ds h => by
      rcases at_ i _ h with ⟨_, z⟩ | ⟨_, h⟩
      · cases z
      · exact E.out i ds h
    dat := fun i e h => by
      rcases at_ i _ h with ⟨q, z⟩ | ⟨q, h⟩
      · cases z
      · obtain ⟨w, a, rw'⟩ := E.dat i e h
        exact ⟨w, by rw [List.getElem?_set_ne (fun z => q z.symm)]; exact a, rw'.sub av⟩
    own := fun i ds h => by
      rcases at_ i _ h with ⟨_, z⟩ | ⟨q, h⟩
      · cases z
      · obtain ⟨a, vs, e, rw'⟩ := E.own i ds h
        exact ⟨by rw [List.getElem?_set_ne (fun z => q z.symm)]; exact a, vs, e, rw'.sub av⟩
    spc := fun i w h => by
      rcases at_ i _ h with ⟨_, z⟩ | ⟨q, h⟩
      · cases z
      · rw [List.getElem?_set_ne (fun z => q z.symm)]; exact E.spc i w h }
/-- a list among those kept off changes -/
theorem EnvOk.updX (E : EnvOk G X o σ H ρ) {p : Addr} {xs vs : List V} (hx : X p) (hn : ¬ G.N p) (hp : H p = some (.lst xs)) : EnvOk G X o σ (upd H p (.lst vs)) ρ := by
  have k : ∀ b u, H b = some u → ¬ Av X o ρ b → (upd H p (.lst vs)) b = some u ∧ ¬ Av X o ρ b := fun b u h n => ⟨by
    rw [upd_ne (fun z => n (by rw [z]; exact .inl hx))]; exact h, n⟩
  exact {
    s := G.loc _ _ E.s fun b u h q => by
      have : b ≠ p := fun z => by
        rcases q with q | ⟨ys, q⟩
        · exact hn (by rw [← z]; exact q)
        · rw [z, hp] at h; rw [q] at h; cases h
      rw [upd_ne this]; exact h
    sub := E.sub
    xdom := fun b h => by
      by_cases z : b = p
      · rw [z, upd_same]; exact fun z => nomatch z
      · rw [upd_ne z]; exact E.xdom b h
    len := E.len
    inj := E.inj
    out := E.out
    dat := fun i d h => by
      obtain ⟨v, a, r⟩ := E.dat i d h
      exact ⟨v, a, r.to k⟩
    own := fun i ds h => by
      obtain ⟨a, ws, e, r⟩ := E.own i ds h
      refine ⟨a, ws, ?_, r.to k⟩
      rw [upd_ne (fun z => E.out i ds h (by rw [z]; exact hx))]; exact e
    spc := E.spc }
/-! ### targets -/
def putVs (σ : L2.St) : List Nat → List V → L2.St
  | j :: js, w :: ws => putVs (σ.set j (some w)) js ws
  | _, _ => σ
def putDs (ρ : Rho) : List Nat → List PD → Rho
  | j :: js, d :: ds => putDs (ρ.set j (.dat d)) js ds
  | _, _ => ρ
/-- a target that stores the data at the slots js -/
def TgD (g : TG) (js : List Nat) (f : PD → Option (List PD)) : Prop := ∀ (A : Addr → Prop) (H : Hp) (σ : L2.St) (v : V) (d : PD) (ds : List PD) (Q : L2.St → Hp → Prop), Rp A H v d → f d = some ds →
  (∀ ws, RpL A H ws ds → ws.length = js.length → Q (putVs σ js ws) H) → g v σ H Q
theorem tg_name {j : Nat} : TgD (gName j) [j] fun d => some [d] := fun A H σ v d ds Q r e q => by
  cases e
  exact q [v] (.cons r .nil) rfl
/-- names by a tuple -/
def gNames : List Nat → TGs
  | [] => gNil
  | j :: js => gCons (gName j) (gNames js)
theorem gNames_ok {A : Addr → Prop} {H : Hp} : ∀ {js : List Nat} {σ : L2.St} {vs : List V} {Q : L2.St → Hp → Prop}, vs.length = js.length → Q (putVs σ js vs) H → gNames js vs σ H Q
  | [], σ, [], Q, _, q => ⟨rfl, q⟩
  | [], _, _ :: _, _, h, _ => by simp at h
  | _ :: _, _, [], _, h, _ => by simp at h
  | j :: js, σ, v :: vs, Q, h, q => ⟨v, vs, rfl, gNames_ok (A := A) (by simpa using h) q⟩
theorem tg_tup {F : PySem.W.Frag} {n : Nat} {js : List Nat} {t : TGs} (ht : t = gNames js) (hn : js.length = n) : TgD (gTup F n t) js fun d => match d with | .tuple ds => if ds.length = n then some ds else none | _ => none := fun A H σ v d ds Q r e q => by
  subst ht
  cases r with
  | @tup a xs es ha na r =>
    by_cases l : es.length = n
    · have e2 : some es = some ds := by
        have : (if es.length = n then some es else none) = some ds := e
        rw [if_pos l] at this; exact this
      cases e2
      exact ⟨a, xs, rfl, .inl (.inl ha), by rw [r.length, l], gNames_ok (A := A) (by rw [r.length, l, hn]) (q xs r (by rw [r.length, l, hn]))⟩
    · have : (if es.length = n then some es else none) = some ds := e
      rw [if_neg l] at this; cases this
  | _ => cases e
theorem EnvOk.setVs : ∀ {js : List Nat} {ws : List V} {ds : List PD} {σ : L2.St} {ρ : Rho}, EnvOk G X o σ H ρ → RpL (Av X o ρ) H ws ds → EnvOk G X o (putVs σ js ws) H (putDs ρ js ds)
  | [], _, _, _, _, E, _ => E
  | _ :: _, _, _, _, _, E, .nil => E
  | j :: js, _, _, _, ρ, E, .cons r t => by
    have := EnvOk.setVs (js := js) (E.setD (j := j) r) (t.sub fun b h => Or.imp_right own_set h)
    exact this
theorem own_setDs : ∀ {js : List Nat} {ds : List PD} {ρ : Rho} {b : Addr}, Own (putDs ρ js ds) o b → Own ρ o b
  | [], _, _, _, h => h
  | _ :: _, [], _, _, h => h
  | j :: js, d :: ds, ρ, b, h => own_set (own_setDs (js := js) (ds := ds) h)
theorem wipe_get {i : Nat} : ∀ (vs : List Nat) (σ : L2.St), (wipe σ vs)[i]? = if i ∈ vs ∧ i < σ.length then some none else σ[i]?
  | [], σ => by simp [wipe]
  | v :: vs, σ => by
    unfold wipe
    by_cases h : v = i
    · subst h
      by_cases l : v < σ.length
      · rw [List.getElem?_set_self (by rw [wipe_length]; exact l), if_pos ⟨List.mem_cons_self, l⟩]
      · rw [List.getElem?_eq_none (by rw [List.length_set, wipe_length]; omega), if_neg (fun z => l z.2), List.getElem?_eq_none (by omega)]
    · rw [List.getElem?_set_ne h, wipe_get vs σ]
      by_cases m : i ∈ vs
      · simp [m]
      · simp [m, Ne.symm h]
theorem wipe_set {vs : List Nat} {j : Nat} {x : Option V} (h : j ∈ vs) : wipe (σ.set j x) vs = wipe σ vs := by
  apply List.ext_getElem?
  intro i
  rw [wipe_get, wipe_get, List.length_set]
  by_cases m : i ∈ vs ∧ i < σ.length
  · rw [if_pos m, if_pos m]
  · rw [if_neg m, if_neg m]
    by_cases q : j = i
    · subst q
      have l : ¬ j < σ.length := fun z => m ⟨h, z⟩
      rw [List.getElem?_eq_none (by rw [List.length_set]; omega), List.getElem?_eq_none (by omega)]
    · rw [List.getElem?_set_ne q]
theorem wipe_setVs {vs : List Nat} : ∀ {js : List Nat} {ws : List V} {σ : L2.St}, (∀ j ∈ js, j ∈ vs) → wipe (putVs σ js ws) vs = wipe σ vs
  | [], _, _, _ => rfl
  | _ :: _, [], _, _ => rfl
  | j :: js, w :: ws, σ, h => (wipe_setVs (js := js) (ws := ws) fun k m => h k (List.mem_cons_of_mem _ m)).trans (wipe_set (h j List.mem_cons_self))
def wipeR (ρ : Rho) : List Nat → Rho
  | [] => ρ
  | v :: vs => (wipeR ρ vs).set v .no
theorem EnvOk.wipe (E : EnvOk G X o σ H ρ) : ∀ vs : List Nat, EnvOk G X o (wipe σ vs) H (wipeR ρ vs)
  | [] => E
  | v :: vs => (EnvOk.wipe E vs).setNo
theorem own_wipe {b : Addr} : ∀ {vs : List Nat}, Own (wipeR ρ vs) o b → Own ρ o b
  | [], h => h
  | _ :: vs, h => own_wipe (vs := vs) (own_setNo h)
theorem wipe_wipe (vs : List Nat) : wipe (wipe σ vs) vs = wipe σ vs := by
  apply List.ext_getElem?
  intro i
  rw [wipe_get, wipe_get, wipe_length]
  by_cases m : i ∈ vs ∧ i < σ.length
  · rw [if_pos m, if_pos m]
  · rw [if_neg m, if_neg m]

/-! ### what is walked -/
structure Src (J : It) (n : Nat) (Gp : Hp → Prop) (Y : Nat → Hp → V → Hp → Prop) (F : Addr → Prop) (vs : List V) (ds : List PD) (item : Nat → Option PD) : Prop where
  walk : Walk J n Gp Y
  keep : ∀ H H', (∀ b u, F b → H b = some u → H' b = some u) → Gp H → Gp H'
  itm : ∀ i H x H' (A : Addr → Prop), i < n → Y i H x H' → (∀ b, A b → H b ≠ none) → RpL A H vs ds → ∃ d, item i = some d ∧ Ex H H' ∧ Rp A H' x d
/-- off what changes in a loop | in a comprehension -/
def Zs (G : Gm) (o : Nat → Addr) (ρ : Rho) : Bool → Addr → Prop
  | true => Ch G o ρ
  | false => G.N
def wpI (G : Gm) (z : Bool) (wi : TI) (ρ : Rho) (K : Nat → (Nat → Option PD) → Prop) : Prop := ∀ X o σ H, EnvOk G X o σ H ρ → ∀ R : It → Hp → Prop,
  (∀ J n Gp Y F vs ds item H1, Fr G.N H H1 → G.S H1 → Src J n Gp Y F vs ds item → Gp H1 → (∀ b, F b → H1 b ≠ none ∧ ¬ Zs G o ρ z b) → RpL (Av X o ρ) H1 vs ds → K n item → R J H1) → wi σ H R
theorem src_list {K : PySem.W.Frag} {a : Addr} {vs : List V} {ds : List PD} (l : vs.length = ds.length) : Src (Itl K a) ds.length (fun H => H a = some (.lst vs)) (YAt vs) (fun b => b = a) vs ds fun i => ds[i]? where
  walk := l ▸ walk_list.mono (fun H h => .inl (.inl h)) fun _ _ _ _ _ _ y => y
  keep := fun H H' k h => k a _ rfl h
  itm := fun i H x H' A hi y _ r => by
    obtain ⟨rfl, e⟩ := y
    obtain ⟨d, q, rd⟩ := r.getV e
    exact ⟨d, q, Ex.rfl', rd⟩
theorem src_tup {K : PySem.W.Frag} {a : Addr} {vs : List V} {ds : List PD} (l : vs.length = ds.length) : Src (Itt K a) ds.length (fun H => H a = some (.tup vs)) (YAt vs) (fun b => b = a) vs ds fun i => ds[i]? where
  walk := l ▸ walk_tup.mono (fun H h => .inl (.inl h)) fun _ _ _ _ _ _ y => y
  keep := fun H H' k h => k a _ rfl h
  itm := fun i H x H' A hi y _ r => by
    obtain ⟨rfl, e⟩ := y
    obtain ⟨d, q, rd⟩ := r.getV e
    exact ⟨d, q, Ex.rfl', rd⟩
theorem src_rng {lo : Int} {n : Nat} : Src (Itr lo n) n (fun _ => True) (YFn fun i => .int (lo + i)) (fun _ => False) [] [] fun i => some (.int (lo + i)) where
  walk := walk_range
  keep := fun _ _ _ _ => trivial
  itm := fun i H x H' A hi y _ _ => by
    obtain ⟨rfl, rfl⟩ := y
    exact ⟨_, rfl, Ex.rfl', .int _⟩
theorem src_pair {J : It} {n : Nat} {Gp : Hp → Prop} {F : Addr → Prop} {vs : List V} {ds : List PD} (l : vs.length = ds.length) (w : Walk J n Gp (YPair (fun i => some (.int (i : Nat))) fun i => vs[i]?)) (k : ∀ H H', (∀ b u, F b → H b = some u → H' b = some u) → Gp H → Gp H') :
    Src J n Gp (YPair (fun i => some (.int (i : Nat))) fun i => vs[i]?) F vs ds fun i => ds[i]?.map fun d => .tuple [.int (i : Nat), d] where
  walk := w
  keep := k
  itm := fun i H x H' A hi y dm r => by
    obtain ⟨T, a, b, rfl, hT, rfl, ea, eb⟩ := y
    cases ea
    obtain ⟨d, q, rd⟩ := r.getV eb
    refine ⟨_, by rw [q]; rfl, Ex.new hT, .tup upd_same (fun z => dm T z hT) (.cons (.int _) (.cons (rd.ex (Ex.new hT)) .nil))⟩
variable {z : Bool} {ta tb : TE} {F : PySem.W.Frag} {K : Nat → (Nat → Option PD) → Prop}
theorem zs_nav (E : EnvOk G X o σ H ρ) {b : Addr} (h : ¬ Av X o ρ b) : ¬ Zs G o ρ z b := fun q => by
  cases z with
  | true => exact h (Or.imp_left (E.sub b) q)
  | false => exact h (.inl (E.sub b q))
theorem wpI_list (h : wpE G ta ρ fun d => ∃ ds, d = .list ds ∧ K ds.length fun i => ds[i]?) : wpI G z (iList F ta) ρ K := fun X o σ H E R q => h X o σ H E _ fun v H' d f s r ⟨ds, e, k⟩ => by
  subst e
  cases r with
  | @lst a xs _ ha n r => exact ⟨a, rfl, ⟨xs, .inl (.inl ha)⟩, q _ _ _ _ (fun b => b = a) _ _ _ H' f s (src_list r.length) ha (fun b e => by subst e; exact ⟨by rw [ha]; exact (fun z => nomatch z), zs_nav E n⟩) r k⟩
theorem wpI_tup (h : wpE G ta ρ fun d => ∃ ds, d = .tuple ds ∧ K ds.length fun i => ds[i]?) : wpI G z (iTup F ta) ρ K := fun X o σ H E R q => h X o σ H E _ fun v H' d f s r ⟨ds, e, k⟩ => by
  subst e
  cases r with
  | @tup a xs _ ha n r => exact ⟨a, rfl, ⟨xs, .inl (.inl ha)⟩, q _ _ _ _ (fun b => b = a) _ _ _ H' f s (src_tup r.length) ha (fun b e => by subst e; exact ⟨by rw [ha]; exact (fun z => nomatch z), zs_nav E n⟩) r k⟩
/-- over a list that a name alone holds, in a comprehension -/
theorem wpI_own (h : wpL G ta ρ fun ds => K ds.length fun i => ds[i]?) : wpI G false (iList F ta) ρ K := fun X o σ H E R q => h X o σ H E _ fun a xs H' ds f s ha n r k =>
  ⟨a, rfl, ⟨xs, .inl (.inl ha)⟩, q _ _ _ _ (fun b => b = a) _ _ _ H' f s (src_list r.length) ha (fun b e => by subst e; exact ⟨by rw [ha]; exact (fun z => nomatch z), n⟩) r k⟩
variable {t : TA}
theorem wpI_rng1 (h : wpA G t ρ fun ss => ∃ j : Int, ss = [.dat (.int j)] ∧ -1000000000000 ≤ j ∧ j ≤ 1000000000000 ∧ K j.toNat fun i => some (.int i)) : wpI G z (iRng1 t) ρ K := fun X o σ H E R q => h X o σ H E _ fun vs H' ss f s r ⟨j, e, l1, l2, k⟩ => by
  subst e
  cases r with
  | cons r1 r2 =>
    cases r2; cases r1 with
    | dat r1 =>
      cases r1
      refine ⟨j, rfl, by omega, by omega, q _ _ _ _ _ _ _ (fun i => some (.int ((0 : Int) + i))) H' f s src_rng trivial (fun b z => z.elim) .nil ?_⟩
      have e : (fun i : Nat => some (PyData.int ((0 : Int) + i))) = fun i : Nat => some (PyData.int i) := funext fun i => by rw [Int.zero_add]
      rw [e]; exact k
theorem wpI_rng2 (h : wpA G t ρ fun ss => ∃ i j : Int, ss = [.dat (.int i), .dat (.int j)] ∧ -1000000000000 ≤ i ∧ i ≤ 1000000000000 ∧ -1000000000000 ≤ j ∧ j ≤ 1000000000000 ∧ K (j - i).toNat fun k => some (.int (i + k))) : wpI G z (iRng2 t) ρ K := fun X o σ H E R q => h X o σ H E _ fun vs H' ss f s r ⟨i, j, e, l1, l2, l3, l4, k⟩ => by
  subst e
  cases r with
  | cons r1 r2 =>
    cases r2 with
    | cons r2 r3 =>
      cases r3; cases r1 with
      | dat r1 =>
        cases r2 with
        | dat r2 =>
          cases r1; cases r2
          exact ⟨i, j, rfl, by omega, q _ _ _ _ _ _ _ _ H' f s src_rng trivial (fun b z => z.elim) .nil k⟩
end
end K42
/-! text DLc -/
set_option Elab.async false
set_option linter.all false
set_option maxRecDepth 100000
set_option maxHeartbeats 2000000
/-! Data level, 3: comprehensions, statements, loops. -/
namespace K42
open PySem PySem.Spec PyProof.Rows L2
theorem sz6 {n : Nat} (h : n ≤ 1000000) : n ≤ sizeLine := Nat.le_trans h (by rw [sizeLine_eq]; decide)
theorem sz6' {n : Nat} (h : n < 1000000) : n < sizeLine := Nat.lt_of_lt_of_le h (by rw [sizeLine_eq]; decide)
section
variable {G : Gm} {ρ : Rho} {te : TE} {tt : TT} {wi : TI} {g : TG} {vs js : List Nat} {K : List PD → Prop} {f : PD → Option (List PD)}
/-! ### comprehensions -/
/-- none of these slots holds a list of its own -/
def noOwn (ρ : Rho) (vs : List Nat) : Bool := vs.all fun i => match ρ[i]? with
  | some (.own _) => false
  | _ => true
theorem own_in {o : Nat → Addr} {i : Nat} {ds : List PD} (h : ρ[i]? = some (Sl.own ds)) : ∀ {vs : List Nat}, i ∉ vs → (wipeR ρ vs)[i]? = some (Sl.own ds)
  | [], _ => h
  | v :: vs, n => by
    unfold wipeR
    rw [List.getElem?_set_ne (fun z => n (by rw [z]; exact List.mem_cons_self))]
    exact own_in (o := o) h fun z => n (List.mem_cons_of_mem _ z)
theorem own_put {i : Nat} {s : Sl} : ∀ {js : List Nat} {ds : List PD} {ρ : Rho}, ρ[i]? = some s → i ∉ js → (putDs ρ js ds)[i]? = some s
  | [], _, _, h, _ => h
  | _ :: _, [], _, h, _ => h
  | j :: js, d :: ds, ρ, h, n => own_put (js := js) (ds := ds) (by rw [List.getElem?_set_ne (fun z => n (by rw [z]; exact List.mem_cons_self))]; exact h) fun z => n (List.mem_cons_of_mem _ z)
theorem own_kept {o : Nat → Addr} (hw : noOwn ρ vs = true) (hj : ∀ j ∈ js, j ∈ vs) {ds : List PD} {b : Addr} (h : Own ρ o b) : Own (putDs (wipeR ρ vs) js ds) o b := by
  obtain ⟨i, es, e, rfl⟩ := h
  have n : i ∉ vs := fun m => by
    have q := List.all_eq_true.mp hw i m
    rw [e] at q; cases q
  exact ⟨i, es, own_put (own_in (o := o) e n) fun m => n (hj i m), rfl⟩
theorem wpN_lc (hg : TgD g js f) (hj : ∀ j ∈ js, j ∈ vs) (hw : noOwn ρ vs = true)
    (h : wpI G false wi ρ fun n item => n ≤ 1000000 ∧ ∃ Pv : Nat → List PD → Prop, Pv 0 [] ∧
      (∀ i acc d, i < n → item i = some d → Pv i acc → ∃ ds, f d = some ds ∧ wpT G tt (putDs (wipeR ρ vs) js ds) fun b => if b = true then wpE G te (putDs (wipeR ρ vs) js ds) fun e => Pv (i + 1) (acc ++ [e]) else Pv (i + 1) acc) ∧
      ∀ acc, Pv n acc → K acc) : wpN G (tLc wi g tt te vs) ρ K := fun X o σ H E Q q => by
  refine h X o σ H E _ fun J n Gp Y F ws es item H1 f1 s1 S g1 hF r1 ⟨hn, Pv, p0, turn, done⟩ => ?_
  intro D hD
  have E1 := E.step f1 s1
  have ne : ∀ b, F b → b ≠ D := fun b hb z => (hF b hb).1 (by rw [z]; exact hD)
  have EX : EnvOk G (fun b => X b ∨ b = D) o σ (upd H1 D (.lst [])) ρ := E1.more (Ex.new hD) hD (by rw [upd_same]; exact fun z => nomatch z)
  have avD : ∀ b, Av (fun b => X b ∨ b = D) o ρ b → Av X o ρ b ∨ b = D := fun b z => by
    rcases z with (z | z) | z
    · exact .inl (.inl z)
    · exact .inr z
    · exact .inl (.inr z)
  have dD : ¬ G.N D := fun z => G.dom _ _ s1 z hD
  have rX : RpL (Av (fun b => X b ∨ b = D) o ρ) (upd H1 D (.lst [])) ws es := r1.to fun b u hb na => ⟨Ex.new hD b u hb, fun z => (avD b z).elim na fun z => by rw [z, hD] at hb; cases hb⟩
  refine lc_it S.walk (fun i Hi => ∃ (vacc : List V) (acc : List PD), Hi D = some (.lst vacc) ∧ Pv i acc ∧ acc.length ≤ i ∧ i ≤ n ∧ EnvOk G (fun b => X b ∨ b = D) o σ Hi ρ ∧ Fr (fun b => G.N b ∨ b = D) H1 Hi ∧
      RpL (Av (fun b => X b ∨ b = D) o ρ) Hi vacc acc ∧ RpL (Av (fun b => X b ∨ b = D) o ρ) Hi ws es)
    ⟨[], [], upd_same, p0, Nat.le_refl _, Nat.zero_le _, EX, (Ex.new hD).fr, .nil, rX⟩ (fun i Hi hi ⟨vacc, acc, a1, a2, a3, a4, a5, a6, a7, a8⟩ => ?_) (fun i x Hi Hi' hi ⟨vacc, acc, a1, a2, a3, a4, a5, a6, a7, a8⟩ y => ?_) fun Hi ⟨vacc, acc, a1, a2, a3, a4, a5, a6, a7, a8⟩ => ?_
  · exact S.keep H1 Hi (fun b u hb e => a6 b u e fun z => z.elim (hF b hb).2 (ne b hb)) g1
  · obtain ⟨d, ei, eX, rx⟩ := S.itm i Hi x Hi' _ hi y (fun b z => a5.dom z) a8
    obtain ⟨ds, fd, wt⟩ := turn i acc d hi ei a2
    have E5 := a5.ex eX
    have a1' := eX _ _ a1
    have a6' : Fr (fun b => G.N b ∨ b = D) H1 Hi' := a6.trans eX.fr
    refine hg _ Hi' (wipe σ vs) x d ds _ rx fd fun ws' rw' lw => ⟨(wipe_setVs hj).trans (wipe_wipe vs), ?_⟩
    have E6 : EnvOk G (fun b => X b ∨ b = D) o (putVs (wipe σ vs) js ws') Hi' (putDs (wipeR ρ vs) js ds) := (E5.wipe vs).setVs (rw'.sub fun b z => Or.imp_right own_wipe z)
    refine wt _ o _ Hi' E6 _ fun b H3 f3 s3 k3 => ?_
    have E7 := E5.step f3 s3
    have a13 := f3 _ _ a1' dD
    have f13 : Fr (fun b => G.N b ∨ b = D) Hi' H3 := fun b u e z => f3 b u e fun w => z (.inl w)
    cases b with
    | false =>
      rw [if_neg Bool.false_ne_true] at k3 ⊢
      exact ⟨vacc, acc, a13, k3, Nat.le_succ_of_le a3, hi, E7, a6'.trans f13, (a7.ex eX).fr E5.nav f3, (a8.ex eX).fr E5.nav f3⟩
    | true =>
      rw [if_pos rfl] at k3 ⊢
      refine k3 _ o _ H3 (E6.step f3 s3) _ fun w H4 e f4 s4 r4 k4 => ?_
      have E8 := E7.step f4 s4
      have a14 := f4 _ _ a13 dD
      have f14 : Fr (fun b => G.N b ∨ b = D) H3 H4 := fun b u e z => f4 b u e fun w => z (.inl w)
      have a7' := ((a7.ex eX).fr E5.nav f3).fr E5.nav f4
      have a8' := ((a8.ex eX).fr E5.nav f3).fr E5.nav f4
      -- the element keeps off D and the owned
      have r4' : Rp (Av (fun b => X b ∨ b = D) o (putDs (wipeR ρ vs) js ds)) H4 w e := r4
      have kD : ∀ {A : Addr → Prop}, A D → ∀ b u, H4 b = some u → ¬ A b → upd H4 D (.lst (vacc ++ [w])) b = some u ∧ ¬ A b := fun {A} hA b u hb na => ⟨by
        rw [upd_ne (fun z => na (by rw [z]; exact hA))]; exact hb, na⟩
      refine ⟨vacc, a14, ?_, vacc ++ [w], acc ++ [e], upd_same, k4, ?_, hi, E8.updX (.inr rfl) dD a14, ?_, ?_, a8'.to (kD (.inl (.inr rfl)))⟩
      · rw [a7.length]; exact sz6' (by omega)
      · rw [List.length_append]; exact Nat.succ_le_succ a3
      · refine ((a6'.trans f13).trans f14).trans fun b u hb z => ?_
        rw [upd_ne (fun q => z (.inr q))]; exact hb
      · refine (a7'.to (kD (.inl (.inr rfl)))).append (.cons ?_ .nil)
        have rk := r4'.to (kD (A := Av (fun b => X b ∨ b = D) o (putDs (wipeR ρ vs) js ds)) (.inl (.inr rfl)))
        exact rk.sub fun b z => Or.imp_right (own_kept hw hj) z
  · have fin : Fr G.N H1 Hi := fun b u hb z => a6 b u hb fun q => q.elim z fun q => by rw [q, hD] at hb; cases hb
    exact q D vacc Hi acc (by
      have := f1
      cases e : H D with
      | none => rfl
      | some u =>
        have := f1 D u e (fun z => dD z)
        rw [hD] at this; cases this) (f1.trans fin) a5.s a1 (a7.sub fun b z => by
          rcases z with z | z
          · exact z.elim (fun z => .inl (.inl z)) .inr
          · exact .inl (.inr z)) (done acc a2)
end
end K42
namespace K42
open PySem PySem.Spec PyProof.Rows L2
/-! ### statements -/
/-- from here to there: but for what may change all stands, and what is held alone is new or was -/
structure Reach (G : Gm) (o : Nat → Addr) (ρ : Rho) (H : Hp) (o' : Nat → Addr) (ρ' : Rho) (H' : Hp) : Prop where
  fr : Fr (Ch G o ρ) H H'
  nw : ∀ b, Own ρ' o' b → Own ρ o b ∨ H b = none
  dm : ∀ b, H b ≠ none → H' b ≠ none
/-- what is handed back -/
def RtOk (G : Gm) (X : Addr → Prop) (o : Nat → Addr) (ρ : Rho) (H : Hp) (v : V) (H' : Hp) (r : Sl) : Prop := Fr (Ch G o ρ) H H' ∧ G.S H' ∧ match r with
  | .dat d => Rp X H' v d
  | .own ds => ∃ p vs, v = .ref p ∧ H' p = some (.lst vs) ∧ RpL (fun b => X b ∨ b = p) H' vs ds ∧ ¬ X p ∧ (Own ρ o p ∨ H p = none)
  | .spc w => v = w
  | .no => False
structure DE where
  nx : Rho → Prop
  rt : Sl → Prop
  bk : Rho → Prop := fun _ => False
  ct : Rho → Prop := fun _ => False
def wpS (G : Gm) (ts : TS) (ρ : Rho) (E : DE) : Prop := ∀ X o σ H, EnvOk G X o σ H ρ → ∀ D : Ends,
  (∀ o' σ' H' ρ', Reach G o ρ H o' ρ' H' → EnvOk G X o' σ' H' ρ' → E.nx ρ' → D.nx σ' H') →
  (∀ v H' r, RtOk G X o ρ H v H' r → E.rt r → D.rt v H') →
  (∀ o' σ' H' ρ', Reach G o ρ H o' ρ' H' → EnvOk G X o' σ' H' ρ' → E.bk ρ' → D.bk σ' H') →
  (∀ o' σ' H' ρ', Reach G o ρ H o' ρ' H' → EnvOk G X o' σ' H' ρ' → E.ct ρ' → D.ct σ' H') → ts D σ H
section
variable {G : Gm} {X : Addr → Prop} {o o' o2 : Nat → Addr} {σ : L2.St} {H H' H2 : Hp} {ρ ρ' ρ2 : Rho} {t u : TS} {E : DE} {te ta tb : TE} {tt : TT} {g : TG}
theorem Reach.rfl' : Reach G o ρ H o ρ H := ⟨Fr.rfl', fun _ h => .inl h, fun _ h => h⟩
theorem Reach.trans (a : Reach G o ρ H o' ρ' H') (b : Reach G o' ρ' H' o2 ρ2 H2) : Reach G o ρ H o2 ρ2 H2 where
  fr := fun x v h n => b.fr x v (a.fr x v h n) fun z => by
    rcases z with z | z
    · exact n (.inl z)
    · rcases a.nw x z with z | z
      · exact n (.inr z)
      · rw [h] at z; cases z
  nw := fun x h => by
    rcases b.nw x h with h | h
    · exact a.nw x h
    · cases e : H x with
      | none => exact .inr rfl
      | some v => exact absurd h (a.dm x (by rw [e]; exact fun z => nomatch z))
  dm := fun x h => b.dm x (a.dm x h)
theorem dm_of (f : Fr G.N H H') (s : G.S H') : ∀ b, H b ≠ none → H' b ≠ none := fun b h => by
  by_cases n : G.N b
  · exact G.dom _ _ s n
  · cases e : H b with
    | none => exact absurd e h
    | some v => rw [f b v e n]; exact fun z => nomatch z
/-- an expression ran -/
theorem Reach.of (f : Fr G.N H H') (s : G.S H') : Reach G o ρ H o ρ H' := ⟨fun b u h n => f b u h fun z => n (.inl z), fun _ h => .inl h, dm_of f s⟩
theorem Reach.less (h : ∀ b, Own ρ' o b → Own ρ o b) : Reach G o ρ H o ρ' H := ⟨Fr.rfl', fun b z => .inl (h b z), fun _ h => h⟩
theorem RtOk.back {v : V} {r : Sl} (b : RtOk G X o' ρ' H' v H2 r) (a : Reach G o ρ H o' ρ' H') : RtOk G X o ρ H v H2 r := by
  obtain ⟨f, s, q⟩ := b
  refine ⟨fun x u h n => f x u (a.fr x u h n) fun z => ?_, s, ?_⟩
  · rcases z with z | z
    · exact n (.inl z)
    · rcases a.nw x z with z | z
      · exact n (.inr z)
      · rw [h] at z; cases z
  · cases r with
    | own ds =>
      obtain ⟨p, vs, e, hp, r, n, w⟩ := q
      refine ⟨p, vs, e, hp, r, n, ?_⟩
      rcases w with w | w
      · exact a.nw p w
      · cases e : H p with
        | none => exact .inr rfl
        | some v => exact absurd w (a.dm p (by rw [e]; exact fun z => nomatch z))
    | _ => exact q
theorem reach_off (E : EnvOk G X o σ H ρ) (a : Reach G o ρ H o' ρ' H') : ∀ b u, H b = some u → ¬ Av X o ρ b → H' b = some u ∧ ¬ Av X o' ρ' b := fun b u h n => ⟨a.fr b u h fun z => n (Or.imp_left (E.sub b) z), fun z => by
  rcases z with z | z
  · exact n (.inl z)
  · rcases a.nw b z with z | z
    · exact n (.inr z)
    · rw [h] at z; cases z⟩
theorem wpS.imp {E' : DE} (h : wpS G t ρ E) (kn : ∀ r, E.nx r → E'.nx r) (kr : ∀ r, E.rt r → E'.rt r) (kb : ∀ r, E.bk r → E'.bk r) (kc : ∀ r, E.ct r → E'.ct r) : wpS G t ρ E' := fun X o σ H V D qn qr qb qc =>
  h X o σ H V D (fun o' σ' H' ρ' a b c => qn o' σ' H' ρ' a b (kn _ c)) (fun v H' r a b => qr v H' r a (kr _ b)) (fun o' σ' H' ρ' a b c => qb o' σ' H' ρ' a b (kb _ c)) (fun o' σ' H' ρ' a b c => qc o' σ' H' ρ' a b (kc _ c))
theorem wpS_seq (h : wpS G t ρ { E with nx := fun ρ' => wpS G u ρ' E }) : wpS G (tSeq t u) ρ E := fun X o σ H V D qn qr qb qc =>
  h X o σ H V { D with nx := u D } (fun o1 σ1 H1 ρ1 a1 V1 w => w X o1 σ1 H1 V1 D (fun o2 σ2 H2 ρ2 a2 V2 n => qn o2 σ2 H2 ρ2 (a1.trans a2) V2 n) (fun v H2 r a2 n => qr v H2 r (a2.back a1) n)
    (fun o2 σ2 H2 ρ2 a2 V2 n => qb o2 σ2 H2 ρ2 (a1.trans a2) V2 n) (fun o2 σ2 H2 ρ2 a2 V2 n => qc o2 σ2 H2 ρ2 (a1.trans a2) V2 n)) qr qb qc
theorem wpS_nil (h : E.nx ρ) : wpS G tNext ρ E := fun X o σ H V D qn _ _ _ => qn o σ H ρ Reach.rfl' V h
theorem wpS_break (h : E.bk ρ) : wpS G tBreak ρ E := fun X o σ H V D _ _ qb _ => qb o σ H ρ Reach.rfl' V h
theorem wpS_cont (h : E.ct ρ) : wpS G tCont ρ E := fun X o σ H V D _ _ _ qc => qc o σ H ρ Reach.rfl' V h
theorem wpS_ret (h : wpE G te ρ fun d => E.rt (.dat d)) : wpS G (tRet te) ρ E := fun X o σ H V D _ qr _ _ => h X o σ H V _ fun v H' d f s r k =>
  qr v H' (.dat d) ⟨fun b u e n => f b u e fun z => n (.inl z), s, r.sub fun b z => .inl z⟩ k
theorem wpS_retN (h : wpN G te ρ fun ds => E.rt (.own ds)) : wpS G (tRet te) ρ E := fun X o σ H V D _ qr _ _ => h X o σ H V _ fun p vs H' ds hp f s e r k =>
  qr (.ref p) H' (.own ds) ⟨fun b u e n => f b u e fun z => n (.inl z), s, p, vs, rfl, e, r.sub fun b z => Or.imp_left .inl z, fun z => V.fresh hp (.inl z), .inr hp⟩ k
theorem wpS_retO {i : Nat} {ds : List PD} (h : ρ[i]? = some (Sl.own ds)) (k : E.rt (.own ds)) : wpS G (tRet (tVar i)) ρ E := fun X o σ H V D _ qr _ _ => by
  obtain ⟨a, vs, e, r⟩ := V.own i ds h
  exact ⟨_, a, qr _ H (.own ds) ⟨Fr.rfl', V.s, o i, vs, rfl, e, r.sub fun b z => Or.imp_right (fun z => ⟨i, ds, h, z⟩) z, V.out i ds h, .inl ⟨i, ds, h, rfl⟩⟩ k⟩
theorem wpS_drop (h : wpE G te ρ fun _ => E.nx ρ) : wpS G (tDrop te) ρ E := fun X o σ H V D qn _ _ _ => h X o σ H V _ fun v H' d f s r k => qn o σ H' ρ (Reach.of f s) (V.step f s) k
theorem wpS_if (h : wpT G tt ρ fun b => if b = true then wpS G t ρ E else wpS G u ρ E) : wpS G (tIfS tt t u) ρ E := fun X o σ H V D qn qr qb qc => h X o σ H V _ fun b H' f s k => by
  have a := Reach.of (o := o) (ρ := ρ) f s
  have go : ∀ {w : TS}, wpS G w ρ E → w D σ H' := fun {w} k => k X o σ H' (V.step f s) D (fun o2 σ2 H2 ρ2 a2 V2 n => qn o2 σ2 H2 ρ2 (a.trans a2) V2 n) (fun v H2 r a2 n => qr v H2 r (a2.back a) n)
    (fun o2 σ2 H2 ρ2 a2 V2 n => qb o2 σ2 H2 ρ2 (a.trans a2) V2 n) (fun o2 σ2 H2 ρ2 a2 V2 n => qc o2 σ2 H2 ρ2 (a.trans a2) V2 n)
  cases b with
  | true =>
    rw [if_pos rfl] at k ⊢
    exact go k
  | false =>
    rw [if_neg Bool.false_ne_true] at k ⊢
    exact go k
/-- x = e; a, b = e -/
theorem wpS_asg {js : List Nat} {f : PD → Option (List PD)} (hg : TgD g js f) (h : wpE G te ρ fun d => ∃ ds, f d = some ds ∧ E.nx (putDs ρ js ds)) : wpS G (tAsg te g) ρ E := fun X o σ H V D qn _ _ _ => h X o σ H V _ fun v H' d f1 s r ⟨ds, e, k⟩ =>
  hg _ H' σ v d ds _ r e fun ws rw' _ => qn o _ H' _ ((Reach.of (o := o) (ρ := ρ) f1 s).trans (Reach.less fun b z => own_setDs z)) ((V.step f1 s).setVs rw') k
theorem wpS_set {j : Nat} (h : wpE G te ρ fun d => E.nx (ρ.set j (.dat d))) : wpS G (tAsg te (gName j)) ρ E := wpS_asg tg_name (h.imp fun d k => ⟨[d], rfl, k⟩)
/-- x = a new list -/
theorem EnvOk.setO (V : EnvOk G X o σ H ρ) (f : Fr G.N H H') (s : G.S H') {p : Addr} {vs : List L2.V} {ds : List PD} (hp : H p = none) (e : H' p = some (.lst vs)) (r : RpL (fun b => Av X o ρ b ∨ b = p) H' vs ds) {j : Nat} (hj : j < ρ.length) :
    ∃ o', EnvOk G X o' (σ.set j (some (.ref p))) H' (ρ.set j (.own ds)) ∧ Reach G o ρ H o' (ρ.set j (.own ds)) H' ∧ ∀ b, Own (ρ.set j (.own ds)) o' b → Own ρ o b ∨ b = p := by
  have V1 := V.step f s
  have at_ : ∀ (i : Nat) q, (ρ.set j (.own ds))[i]? = some q → (i = j ∧ q = .own ds) ∨ (i ≠ j ∧ ρ[i]? = some q) := fun i q h => by
    by_cases z : j = i
    · subst z
      rw [List.getElem?_set_self hj] at h; cases h; exact .inl ⟨rfl, rfl⟩
    · rw [List.getElem?_set_ne z] at h; exact .inr ⟨fun w => z w.symm, h⟩
  have op : ∀ i es, ρ[i]? = some (Sl.own es) → o i ≠ p := fun i es h z => by
    obtain ⟨_, vs, e, _⟩ := V.own i es h
    rw [z, hp] at e; cases e
  have ow : ∀ b, Own (ρ.set j (.own ds)) (fun i => if i = j then p else o i) b → Own ρ o b ∨ b = p := fun b ⟨i, es, h, q⟩ => by
    dsimp only at q
    by_cases z : i = j
    · rw [if_pos z] at q; exact .inr q
    · rw [if_neg z] at q
      rcases at_ i _ h with ⟨w, _⟩ | ⟨_, h⟩
      · exact absurd w z
      · exact .inl ⟨i, es, h, q⟩
  have av : ∀ b u, H b = some u → ¬ Av X o ρ b → ¬ Av X (fun i => if i = j then p else o i) (ρ.set j (.own ds)) b := fun b u h n z => by
    rcases z with z | z
    · exact n (.inl z)
    · rcases ow b z with z | z
      · exact n (.inr z)
      · rw [z, hp] at h; cases h
  have xp : ¬ X p := fun z => V.xdom p z hp
  refine ⟨fun i => if i = j then p else o i, { s := s, sub := V.sub, xdom := V1.xdom, len := by rw [List.length_set, List.length_set, V.len], inj := ?_, out := ?_, dat := ?_, own := ?_, spc := ?_ }, ⟨fun b u h n => f b u h fun z => n (.inl z), fun b z => (ow b z).imp id (fun z => by rw [z]; exact hp), dm_of f s⟩, ow⟩
  · intro i k es fs h1 h2 q
    by_cases zi : i = j <;> by_cases zk : k = j
    · rw [zi, zk]
    · rw [if_pos zi, if_neg zk] at q
      rcases at_ k _ h2 with ⟨w, _⟩ | ⟨_, h2⟩
      · exact absurd w zk
      · exact absurd q.symm (op k _ h2)
    · rw [if_neg zi, if_pos zk] at q
      rcases at_ i _ h1 with ⟨w, _⟩ | ⟨_, h1⟩
      · exact absurd w zi
      · exact absurd q (op i _ h1)
    · rw [if_neg zi, if_neg zk] at q
      rcases at_ i _ h1 with ⟨w, _⟩ | ⟨_, h1⟩
      · exact absurd w zi
      · rcases at_ k _ h2 with ⟨w, _⟩ | ⟨_, h2⟩
        · exact absurd w zk
        · exact V.inj i k _ _ h1 h2 q
  · intro i es h
    by_cases zi : i = j
    · rw [if_pos zi]; exact xp
    · rw [if_neg zi]
      rcases at_ i _ h with ⟨w, _⟩ | ⟨_, h⟩
      · exact absurd w zi
      · exact V.out i es h
  · intro i d h
    rcases at_ i _ h with ⟨_, w⟩ | ⟨z, h⟩
    · cases w
    · obtain ⟨v, a, rv⟩ := V.dat i d h
      exact ⟨v, by rw [List.getElem?_set_ne (fun w => z w.symm)]; exact a, rv.to fun b u hb n => ⟨f b u hb fun w => n (V.nav b w), av b u hb n⟩⟩
  · intro i es h
    rcases at_ i _ h with ⟨z, w⟩ | ⟨z, h⟩
    · cases w; subst z
      refine ⟨by rw [List.getElem?_set_self (by rw [V.len]; exact hj), if_pos rfl], vs, by rw [if_pos rfl]; exact e, r.sub fun b z => ?_⟩
      rcases z with z | z
      · exact .inl (.inl z)
      · exact (ow b z).imp .inr id
    · rw [if_neg z]
      obtain ⟨a, ws, q, rv⟩ := V.own i es h
      exact ⟨by rw [List.getElem?_set_ne (fun w => z w.symm)]; exact a, ws, f _ _ q (V.nown h), rv.to fun b u hb n => ⟨f b u hb fun w => n (V.nav b w), av b u hb n⟩⟩
  · intro i w h
    rcases at_ i _ h with ⟨_, z⟩ | ⟨z, h⟩
    · cases z
    · rw [List.getElem?_set_ne (fun w => z w.symm)]; exact V.spc i w h
theorem wpS_setN {j : Nat} (hj : j < ρ.length) (h : wpN G te ρ fun ds => E.nx (ρ.set j (.own ds))) : wpS G (tAsg te (gName j)) ρ E := fun X o σ H V D qn _ _ _ => h X o σ H V _ fun p vs H' ds hp f s e r k => by
  obtain ⟨o', V', a, _⟩ := V.setO f s hp e r (j := j) hj
  exact qn o' _ H' _ a V' k
/-- a list held alone becomes data -/
theorem EnvOk.free {i : Nat} {ds : List PD} (V : EnvOk G X o σ H ρ) (hi : ρ[i]? = some (Sl.own ds)) : EnvOk G X o σ H (ρ.set i (.dat (.list ds))) := by
  obtain ⟨a, vs, e, r⟩ := V.own i ds hi
  have sl : ∀ b, Av X o (ρ.set i (.dat (.list ds))) b → Av X o ρ b := fun b z => Or.imp_right own_set z
  have hl : i < ρ.length := by
    by_cases l : i < ρ.length
    · exact l
    · rw [List.getElem?_eq_none (by omega)] at hi; cases hi
  have at_ : ∀ (k : Nat) q, (ρ.set i (.dat (.list ds)))[k]? = some q → (k = i ∧ q = .dat (.list ds)) ∨ (k ≠ i ∧ ρ[k]? = some q) := fun k q h => by
    by_cases z : i = k
    · subst z
      rw [List.getElem?_set_self hl] at h; cases h; exact .inl ⟨rfl, rfl⟩
    · rw [List.getElem?_set_ne z] at h; exact .inr ⟨fun w => z w.symm, h⟩
  have na : ¬ Av X o (ρ.set i (.dat (.list ds))) (o i) := fun z => by
    rcases z with z | ⟨k, es, h, q⟩
    · exact V.out i ds hi z
    · rcases at_ k _ h with ⟨_, w⟩ | ⟨z, h⟩
      · cases w
      · exact z (V.inj i k _ _ hi h q).symm
  exact {
    s := V.s, sub := V.sub, xdom := V.xdom, len := by rw [List.length_set, V.len]
    inj := fun k l es fs h1 h2 q => by
      rcases at_ k _ h1 with ⟨_, w⟩ | ⟨_, h1⟩
      · cases w
      · rcases at_ l _ h2 with ⟨_, w⟩ | ⟨_, h2⟩
        · cases w
        · exact V.inj k l _ _ h1 h2 q
    out := fun k es h => by
      rcases at_ k _ h with ⟨_, w⟩ | ⟨_, h⟩
      · cases w
      · exact V.out k es h
    dat := fun k d h => by
      rcases at_ k _ h with ⟨w, q⟩ | ⟨_, h⟩
      · cases q; subst w
        exact ⟨_, a, .lst e na (r.sub sl)⟩
      · obtain ⟨v, b, rv⟩ := V.dat k d h
        exact ⟨v, b, rv.sub sl⟩
    own := fun k es h => by
      rcases at_ k _ h with ⟨_, w⟩ | ⟨_, h⟩
      · cases w
      · obtain ⟨b, ws, q, rv⟩ := V.own k es h
        exact ⟨b, ws, q, rv.sub sl⟩
    spc := fun k w h => by
      rcases at_ k _ h with ⟨_, z⟩ | ⟨_, h⟩
      · cases z
      · exact V.spc k w h }
theorem wpS_pre {ρ0 : Rho} (k : ∀ X o σ H, EnvOk G X o σ H ρ → EnvOk G X o σ H ρ0 ∧ ∀ b, Own ρ0 o b → Own ρ o b) (h : wpS G t ρ0 E) : wpS G t ρ E := fun X o σ H V D qn qr qb qc => by
  obtain ⟨V', w⟩ := k X o σ H V
  have a0 : Reach G o ρ H o ρ0 H := Reach.less w
  exact h X o σ H V' D (fun o2 σ2 H2 ρ2 a2 V2 n => qn o2 σ2 H2 ρ2 (a0.trans a2) V2 n) (fun v H2 r a2 n => qr v H2 r (a2.back a0) n)
    (fun o2 σ2 H2 ρ2 a2 V2 n => qb o2 σ2 H2 ρ2 (a0.trans a2) V2 n) (fun o2 σ2 H2 ρ2 a2 V2 n => qc o2 σ2 H2 ρ2 (a0.trans a2) V2 n)
theorem wpS_free {i : Nat} {ds : List PD} (hi : ρ[i]? = some (Sl.own ds)) (h : wpS G t (ρ.set i (.dat (.list ds))) E) : wpS G t ρ E :=
  wpS_pre (fun X o σ H V => ⟨V.free hi, fun b z => own_set z⟩) h
end
end K42
/-! text DLd -/
set_option Elab.async false
set_option linter.all false
set_option maxRecDepth 100000
set_option maxHeartbeats 2000000
/-! Data level, 4: lists held alone, loops, tests, arguments, built-ins, calls, defs. -/
namespace K42
open PySem PySem.Spec PyProof.Rows L2
section
variable {G : Gm} {X : Addr → Prop} {o : Nat → Addr} {σ : L2.St} {H H' : Hp} {ρ : Rho} {t u tb : TS} {E : DE} {te ta tc ti : TE} {tt tu : TT} {g : TG} {wi : TI} {K : PD → Prop} {Kl : List PD → Prop} {Kb : Bool → Prop} {F : PySem.W.Frag}
/-! ### lists held alone -/
theorem EnvOk.updO (V : EnvOk G X o σ H ρ) {i : Nat} {ds es : List PD} {vs : List L2.V} (hi : ρ[i]? = some (Sl.own ds)) (r : RpL (Av X o ρ) H vs es) :
    EnvOk G X o σ (upd H (o i) (.lst vs)) (ρ.set i (.own es)) ∧ Reach G o ρ H o (ρ.set i (.own es)) (upd H (o i) (.lst vs)) := by
  obtain ⟨a, ws, e, _⟩ := V.own i ds hi
  have hl : i < ρ.length := by
    by_cases l : i < ρ.length
    · exact l
    · rw [List.getElem?_eq_none (by omega)] at hi; cases hi
  have at_ : ∀ (k : Nat) q, (ρ.set i (.own es))[k]? = some q → (k = i ∧ q = .own es) ∨ (k ≠ i ∧ ρ[k]? = some q) := fun k q h => by
    by_cases z : i = k
    · subst z
      rw [List.getElem?_set_self hl] at h; cases h; exact .inl ⟨rfl, rfl⟩
    · rw [List.getElem?_set_ne z] at h; exact .inr ⟨fun w => z w.symm, h⟩
  have ow : ∀ b, Own (ρ.set i (.own es)) o b → Own ρ o b := fun b ⟨k, fs, h, q⟩ => by
    rcases at_ k _ h with ⟨z, _⟩ | ⟨_, h⟩
    · exact ⟨i, ds, hi, by rw [q, z]⟩
    · exact ⟨k, fs, h, q⟩
  have own0 : Own ρ o (o i) := ⟨i, ds, hi, rfl⟩
  have k : ∀ b u, H b = some u → ¬ Av X o ρ b → upd H (o i) (.lst vs) b = some u ∧ ¬ Av X o (ρ.set i (.own es)) b := fun b u h n => ⟨by
    rw [upd_ne (fun z => n (by rw [z]; exact .inr own0))]; exact h, fun z => n (Or.imp_right (ow b) z)⟩
  have there : ∀ b, H b ≠ none → upd H (o i) (.lst vs) b ≠ none := fun b h => by
    by_cases z : b = o i
    · rw [z, upd_same]; exact fun z => nomatch z
    · rw [upd_ne z]; exact h
  refine ⟨{ s := ?_, sub := V.sub, xdom := fun b h => there b (V.xdom b h), len := by rw [List.length_set, V.len], inj := ?_, out := ?_, dat := ?_, own := ?_, spc := ?_ }, ⟨fun b u h n => ?_, fun b h => .inl (ow b h), there⟩⟩
  · refine G.loc _ _ V.s fun b u h q => ?_
    have : b ≠ o i := fun z => by
      rcases q with q | ⟨ys, q⟩
      · exact V.nown hi (by rw [← z]; exact q)
      · rw [z, e] at h; rw [q] at h; cases h
    rw [upd_ne this]; exact h
  · intro k l fs gs h1 h2 q
    rcases at_ k _ h1 with ⟨z1, w1⟩ | ⟨z1, h1⟩ <;> rcases at_ l _ h2 with ⟨z2, w2⟩ | ⟨z2, h2⟩
    · rw [z1, z2]
    · rw [z1] at q; exact z1.trans (V.inj i l _ _ hi h2 q)
    · rw [z2] at q; exact (V.inj k i _ _ h1 hi q).trans z2.symm
    · exact V.inj k l _ _ h1 h2 q
  · intro k fs h
    rcases at_ k _ h with ⟨z, _⟩ | ⟨_, h⟩
    · rw [z]; exact V.out i ds hi
    · exact V.out k fs h
  · intro l d h
    rcases at_ l _ h with ⟨_, w⟩ | ⟨_, h⟩
    · cases w
    · obtain ⟨v, b, rv⟩ := V.dat l d h
      exact ⟨v, b, rv.to k⟩
  · intro l fs h
    rcases at_ l _ h with ⟨z, w⟩ | ⟨z, h⟩
    · cases w; subst z
      exact ⟨a, vs, upd_same, r.to k⟩
    · obtain ⟨b, ws', q, rv⟩ := V.own l fs h
      refine ⟨b, ws', ?_, rv.to k⟩
      rw [upd_ne (fun w => z (V.inj l i _ _ h hi w))]; exact q
  · intro l w h
    rcases at_ l _ h with ⟨_, z⟩ | ⟨_, h⟩
    · cases z
    · exact V.spc l w h
  · rw [upd_ne (fun z => n (by rw [z]; exact .inr own0))]; exact h
/-- xs.append(e) -/
theorem wpS_app {i : Nat} {ds : List PD} (hi : ρ[i]? = some (Sl.own ds)) (hl : ds.length < 1000000) (h : wpE G te ρ fun d => E.nx (ρ.set i (.own (ds ++ [d])))) : wpS G (tDrop (tBM F "list" rAppend (tVar i) (tCons te tNil))) ρ E := fun X o σ H V D qn _ _ _ => by
  obtain ⟨a, vs, e, r⟩ := V.own i ds hi
  refine ⟨_, a, .inl ⟨rfl, vs, .inl (.inl e)⟩, h X o σ H V _ fun w H1 d f s rd k => ?_⟩
  have V1 := V.step f s
  have e1 := f _ _ e (V.nown hi)
  refine ⟨o i, vs, w, rfl, rfl, e1, by rw [r.length]; exact sz6' hl, ?_⟩
  obtain ⟨V2, a2⟩ := V1.updO (es := ds ++ [d]) hi ((r.fr V.nav f).append (.cons rd .nil))
  exact qn o σ _ _ ((Reach.of f s).trans a2) V2 k
/-- xs.append(ys.pop(i)) -/
theorem wpS_appPop {i j : Nat} {ds es : List PD} (hi : ρ[i]? = some (Sl.own ds)) (hj : ρ[j]? = some (Sl.own es)) (hl : ds.length < 1000000) (hne : i ≠ j)
    (h : wpE G te ρ fun d => ∃ (k : Nat) (x : PD), d = .int k ∧ es[k]? = some x ∧ (k : Int) < 1000000000 ∧ E.nx ((ρ.set j (.own (es.eraseIdx k))).set i (.own (ds ++ [x])))) :
    wpS G (tDrop (tBM F "list" rAppend (tVar i) (tCons (tBM F "list" rPopAt (tVar j) (tCons te tNil)) tNil))) ρ E := fun X o σ H V D qn _ _ _ => by
  obtain ⟨a, vs, e, r⟩ := V.own i ds hi
  obtain ⟨b, ws, e', r'⟩ := V.own j es hj
  refine ⟨_, a, .inl ⟨rfl, vs, .inl (.inl e)⟩, _, b, .inl ⟨rfl, ws, .inl (.inl e')⟩, h X o σ H V _ fun w H1 d f s rd kk => ?_⟩
  obtain ⟨k, x, ed, ex, hk, kn⟩ := kk
  subst ed; cases rd
  have V1 := V.step f s
  have e1 := f _ _ e (V.nown hi)
  have e1' := f _ _ e' (V.nown hj)
  have r1 := r.fr V.nav f
  have r1' := r'.fr V.nav f
  obtain ⟨wx, ewx, rwx⟩ := r1'.get ex
  have lk : k < es.length := (List.getElem?_eq_some_iff.mp ex).1
  have sq : seqIndex? (k : Int) ws.length = some k := by
    have := seqIndex_of (k := (k : Int)) (n := ws.length) (by omega) (by rw [r1'.length]; omega)
    exact this
  refine ⟨o j, ws, k, k, wx, rfl, rfl, e1', by omega, by omega, sq, ewx, ?_⟩
  have re : RpL (Av X o ρ) H1 (ws.eraseIdx k) (es.eraseIdx k) := by
    rw [List.eraseIdx_eq_take_drop_succ, List.eraseIdx_eq_take_drop_succ]
    exact (r1'.take k).append (r1'.drop (k + 1))
  obtain ⟨V2, a2⟩ := V1.updO (es := es.eraseIdx k) hj re
  have hi2 : (ρ.set j (.own (es.eraseIdx k)))[i]? = some (Sl.own ds) := by rw [List.getElem?_set_ne (fun z => hne z.symm)]; exact hi
  obtain ⟨_, vs2, e2, r2⟩ := V2.own i ds hi2
  have ev : vs2 = vs := by
    rw [upd_ne (fun z => hne (V.inj i j _ _ hi hj z)), e1] at e2
    cases e2; rfl
  subst ev
  refine ⟨o i, vs2, wx, rfl, rfl, e2, by rw [r.length]; exact sz6' hl, ?_⟩
  have rx2 : Rp (Av X o (ρ.set j (.own (es.eraseIdx k)))) (upd H1 (o j) (.lst (ws.eraseIdx k))) wx x := rwx.to (reach_off V1 a2)
  obtain ⟨V3, a3⟩ := V2.updO (es := ds ++ [x]) hi2 (r2.append (.cons rx2 .nil))
  exact qn o σ _ _ (((Reach.of f s).trans a2).trans a3) V3 kn
/-- xs[i] = e -/
theorem wpS_setL {i : Nat} {ds : List PD} (hi : ρ[i]? = some (Sl.own ds)) (h : wpE G te ρ fun d => wpE G ti ρ fun dj => ∃ (n : Int) (k : Nat), dj = .int n ∧ ixN ds.length n = some k ∧ E.nx (ρ.set i (.own (ds.set k d)))) : wpS G (tAsg te (gSub (tVar i) ti rSetL)) ρ E := fun X o σ H V D qn _ _ _ =>
  h X o σ H V _ fun w H1 d f s rd k1 => by
    have V1 := V.step f s
    obtain ⟨a, vs, e, r⟩ := V1.own i ds hi
    refine ⟨_, a, k1 X o σ H1 V1 _ fun w2 H2 dj f2 s2 r2 ⟨n, k, ej, hk, kn⟩ => ?_⟩
    subst ej; cases r2
    have V2 := V1.step f2 s2
    have e2 := f2 _ _ e (V1.nown hi)
    have r3 := r.fr V1.nav f2
    refine ⟨o i, vs, n, k, rfl, rfl, e2, by rw [r.length]; exact hk, ?_⟩
    obtain ⟨V3, a3⟩ := V2.updO (es := ds.set k d) hi (RpL.set (rd.fr V1.nav f2) k r3)
    exact qn o σ _ _ (((Reach.of f s).trans (Reach.of f2 s2)).trans a3) V3 kn
/-! ### loops -/
theorem wpS_for {js : List Nat} {f : PD → Option (List PD)} (hg : TgD g js f)
    (h : wpI G true wi ρ fun n item => ∃ Pv : Nat → Rho → Prop, Pv 0 ρ ∧ (∀ i d ρ', i < n → item i = some d → Pv i ρ' → ∃ ds, f d = some ds ∧ wpS G tb (putDs ρ' js ds) { nx := Pv (i + 1), rt := E.rt, bk := E.nx, ct := Pv (i + 1) }) ∧ ∀ ρ', Pv n ρ' → E.nx ρ') :
    wpS G (tFor wi g tb) ρ E := fun X o σ H V D qn qr _ _ => by
  refine h X o σ H V _ fun J n Gp Y F ws es item H1 f1 s1 S g1 hF r1 ⟨Pv, p0, turn, done⟩ => ?_
  have V1 := V.step f1 s1
  refine for_it S.walk (fun i σ' H' => ∃ o' ρ', Reach G o ρ H1 o' ρ' H' ∧ EnvOk G X o' σ' H' ρ' ∧ Pv i ρ') ⟨o, ρ, Reach.rfl', V1, p0⟩ (fun i σ' H' hi ⟨o', ρ', a, V', p⟩ => ?_) (fun i x σ' H' H'' hi ⟨o', ρ', a, V', p⟩ y => ?_) fun σ' H' ⟨o', ρ', a, V', p⟩ => ?_
  · exact S.keep H1 H' (fun b u hb e => a.fr b u e (hF b hb).2) g1
  · obtain ⟨d, ei, eX, rx⟩ := S.itm i H' x H'' _ hi y (fun b z => V'.dom z) (r1.to (reach_off V1 a))
    obtain ⟨ds, fd, wt⟩ := turn i d ρ' hi ei p
    have V2 := V'.ex eX
    have a2 : Reach G o ρ H1 o' ρ' H'' := a.trans (Reach.of eX.fr V2.s)
    refine hg _ H'' σ' x d ds _ rx fd fun ws' rw' lw => ?_
    have a3 : Reach G o ρ H1 o' (putDs ρ' js ds) H'' := a2.trans (Reach.less fun b z => own_setDs z)
    have a0 : Reach G o ρ H o' (putDs ρ' js ds) H'' := (Reach.of f1 s1).trans a3
    exact wt X o' _ H'' (V2.setVs rw') _ (fun o4 σ4 H4 ρ4 a4 V4 n4 => ⟨o4, ρ4, a3.trans a4, V4, n4⟩) (fun v H4 r a4 n4 => qr v H4 r (a4.back a0) n4)
      (fun o4 σ4 H4 ρ4 a4 V4 n4 => qn o4 σ4 H4 ρ4 (a0.trans a4) V4 n4) (fun o4 σ4 H4 ρ4 a4 V4 n4 => ⟨o4, ρ4, a3.trans a4, V4, n4⟩)
  · exact qn o' σ' H' ρ' ((Reach.of f1 s1).trans a) V' (done ρ' p)
theorem wpS_while (Pv : Nat → Rho → Prop) (m0 : ∃ m, Pv m ρ) (turn : ∀ m ρ', Pv m ρ' → wpT G tt ρ' fun b => if b = true then wpS G tb ρ' { nx := fun r => ∃ m', m' < m ∧ Pv m' r, rt := E.rt, bk := E.nx, ct := fun r => ∃ m', m' < m ∧ Pv m' r } else E.nx ρ') :
    wpS G (tWhile tt tb) ρ E := fun X o σ H V D qn qr _ _ => by
  obtain ⟨m, p0⟩ := m0
  refine ⟨fun m σ' H' => ∃ o' ρ', Reach G o ρ H o' ρ' H' ∧ EnvOk G X o' σ' H' ρ' ∧ Pv m ρ', ⟨m, o, ρ, Reach.rfl', V, p0⟩, fun m σ' H' ⟨o', ρ', a, V', p⟩ => turn m ρ' p X o' σ' H' V' _ fun b H2 f2 s2 k => ?_⟩
  have a2 := a.trans (Reach.of f2 s2)
  cases b with
  | false =>
    rw [if_neg Bool.false_ne_true] at k ⊢
    exact qn o' σ' H2 ρ' a2 (V'.step f2 s2) k
  | true =>
    rw [if_pos rfl] at k ⊢
    refine ⟨fun σ4 H4 => ∃ m', m' < m ∧ ∃ o' ρ', Reach G o ρ H o' ρ' H4 ∧ EnvOk G X o' σ4 H4 ρ' ∧ Pv m' ρ', fun σ4 H4 ⟨m', l, q⟩ => ⟨m', l, q⟩, ?_⟩
    exact k X o' σ' H2 (V'.step f2 s2) _ (fun o4 σ4 H4 ρ4 a4 V4 ⟨m', l, n4⟩ => ⟨m', l, o4, ρ4, a2.trans a4, V4, n4⟩) (fun v H4 r a4 n4 => qr v H4 r (a4.back a2) n4)
      (fun o4 σ4 H4 ρ4 a4 V4 n4 => qn o4 σ4 H4 ρ4 (a2.trans a4) V4 n4) (fun o4 σ4 H4 ρ4 a4 V4 ⟨m', l, n4⟩ => ⟨m', l, o4, ρ4, a2.trans a4, V4, n4⟩)
/-! ### tests -/
theorem wpT_B (h : wpE G te ρ fun d => ∃ b, d = .bool b ∧ Kb b) : wpT G (tB te) ρ Kb := fun X o σ H V Q q => h X o σ H V _ fun v H' d f s r ⟨b, e, k⟩ => by
  subst e; cases r
  exact ⟨b, rfl, q b H' f s k⟩
theorem wpT_test (h : wpE G te ρ fun d => ∃ b, d = .bool b ∧ Kb b) : wpT G (tTest te) ρ Kb := fun X o σ H V Q q => h X o σ H V _ fun v H' d f s r ⟨b, e, k⟩ => by
  subst e; cases r
  exact ⟨b, rfl, q b H' f s k⟩
theorem wpT_and (h : wpT G tt ρ fun b => if b = true then wpT G tu ρ Kb else Kb false) : wpT G (tAnd tt tu) ρ Kb := fun X o σ H V Q q => h X o σ H V _ fun b H' f s k => by
  cases b with
  | true =>
    rw [if_pos rfl] at k ⊢
    exact k X o σ H' (V.step f s) Q fun b2 H2 f2 s2 k2 => q b2 H2 (f.trans f2) s2 k2
  | false =>
    rw [if_neg Bool.false_ne_true] at k ⊢
    exact q false H' f s k
theorem wpT_or (h : wpT G tt ρ fun b => if b = true then Kb true else wpT G tu ρ Kb) : wpT G (tOr tt tu) ρ Kb := fun X o σ H V Q q => h X o σ H V _ fun b H' f s k => by
  cases b with
  | true =>
    rw [if_pos rfl] at k ⊢
    exact q true H' f s k
  | false =>
    rw [if_neg Bool.false_ne_true] at k ⊢
    exact k X o σ H' (V.step f s) Q fun b2 H2 f2 s2 k2 => q b2 H2 (f.trans f2) s2 k2
theorem wpT_not (h : wpT G tt ρ fun b => Kb (!b)) : wpT G (tNot tt) ρ Kb := fun X o σ H V Q q => h X o σ H V _ fun b H' f s k => q (!b) H' f s k
theorem wpT_yes (h : Kb true) : wpT G tYes ρ Kb := fun X o σ H V Q q => q true H Fr.rfl' V.s h
/-! ### values by tests -/
theorem wpE_if {tb : TE} (h : wpT G tt ρ fun b => if b = true then wpE G ta ρ K else wpE G tb ρ K) : wpE G (tIf tt ta tb) ρ K := fun X o σ H V Q q => h X o σ H V _ fun b H' f s k => by
  cases b with
  | true =>
    rw [if_pos rfl] at k ⊢
    exact k X o σ H' (V.step f s) Q fun v H2 d f2 s2 r2 k2 => q v H2 d (f.trans f2) s2 r2 k2
  | false =>
    rw [if_neg Bool.false_ne_true] at k ⊢
    exact k X o σ H' (V.step f s) Q fun v H2 d f2 s2 r2 k2 => q v H2 d (f.trans f2) s2 r2 k2
theorem wpN_if {tb : TE} (h : wpT G tt ρ fun b => if b = true then wpN G ta ρ Kl else wpN G tb ρ Kl) : wpN G (tIf tt ta tb) ρ Kl := fun X o σ H V Q q => h X o σ H V _ fun b H' f s k => by
  have bk : ∀ p, H' p = none → H p = none := fun p hp => by
    cases e : H p with
    | none => rfl
    | some u => exact absurd hp (dm_of f s p (by rw [e]; exact fun z => nomatch z))
  cases b with
  | true =>
    rw [if_pos rfl] at k ⊢
    exact k X o σ H' (V.step f s) Q fun p vs H2 ds hp f2 s2 e r2 k2 => q p vs H2 ds (bk p hp) (f.trans f2) s2 e r2 k2
  | false =>
    rw [if_neg Bool.false_ne_true] at k ⊢
    exact k X o σ H' (V.step f s) Q fun p vs H2 ds hp f2 s2 e r2 k2 => q p vs H2 ds (bk p hp) (f.trans f2) s2 e r2 k2
theorem wpE_andV {tb : TE} (h : wpE G ta ρ fun d => ∃ b, d = .bool b ∧ if b = true then wpE G tb ρ K else K (.bool false)) : wpE G (tAndV ta tb) ρ K := fun X o σ H V Q q => h X o σ H V _ fun v H' d f s r ⟨b, e, k⟩ => by
  subst e; cases r
  refine ⟨b, rfl, ?_⟩
  cases b with
  | true =>
    rw [if_pos rfl] at k ⊢
    exact k X o σ H' (V.step f s) Q fun v H2 d f2 s2 r2 k2 => q v H2 d (f.trans f2) s2 r2 k2
  | false =>
    rw [if_neg Bool.false_ne_true] at k ⊢
    exact q _ H' _ f s (.bl false) k
theorem wpE_orV {tb : TE} (h : wpE G ta ρ fun d => ∃ b, d = .bool b ∧ if b = true then K (.bool true) else wpE G tb ρ K) : wpE G (tOrV ta tb) ρ K := fun X o σ H V Q q => h X o σ H V _ fun v H' d f s r ⟨b, e, k⟩ => by
  subst e; cases r
  refine ⟨b, rfl, ?_⟩
  cases b with
  | true =>
    rw [if_pos rfl] at k ⊢
    exact q _ H' _ f s (.bl true) k
  | false =>
    rw [if_neg Bool.false_ne_true] at k ⊢
    exact k X o σ H' (V.step f s) Q fun v H2 d f2 s2 r2 k2 => q v H2 d (f.trans f2) s2 r2 k2
theorem wpE_notV (h : wpE G ta ρ fun d => ∃ b, d = .bool b ∧ K (.bool (!b))) : wpE G (tNotV ta) ρ K := fun X o σ H V Q q => h X o σ H V _ fun v H' d f s r ⟨b, e, k⟩ => by
  subst e; cases r
  exact ⟨b, rfl, q _ H' _ f s (.bl _) k⟩
theorem wpE_chain {tb : TE} {r r' : R2} {f f' : PD → PD → (PD → Prop) → Prop} (h1 : OpD r f) (h2 : OpD r' f')
    (h : wpE G ta ρ fun dx => wpE G tb ρ fun dy => f dx dy fun dz => ∃ k, dz = .bool k ∧ if k = true then wpE G tc ρ fun dw => f' dy dw K else K (.bool false)) : wpE G (tChain r r' ta tb tc) ρ K := fun X o σ H V Q q =>
  h X o σ H V _ fun v H1 dx f1 s1 r1 hb => hb X o σ H1 (V.step f1 s1) _ fun w H2 dy f2 s2 r2 k => by
    have V2 := (V.step f1 s1).step f2 s2
    refine h1 (Av X o ρ) H2 v w dx dy _ _ (fun b z => V2.dom z) (r1.fr V.nav f2) r2 k fun y H3 d e r3 ⟨b, ed, k3⟩ => ?_
    subst ed; cases r3
    have V3 := V2.ex e
    refine ⟨b, rfl, ?_⟩
    cases b with
    | true =>
      rw [if_pos rfl] at k3 ⊢
      refine k3 X o σ H3 V3 _ fun w4 H4 dw f4 s4 r4 k4 => ?_
      have V4 := V3.step f4 s4
      exact h2 (Av X o ρ) H4 w w4 dy dw K Q (fun b z => V4.dom z) ((r2.ex e).fr V.nav f4) r4 k4 fun y5 H5 d5 e5 r5 k5 => q y5 H5 d5 (((((f1.trans f2).trans e.fr).trans f4)).trans e5.fr) (G.mono _ _ s4 e5) r5 k5
    | false =>
      rw [if_neg Bool.false_ne_true] at k3 ⊢
      exact q _ H3 _ ((f1.trans f2).trans e.fr) V3.s (.bl false) k3
theorem wpE_un {g : Int → Int} (h : wpE G ta ρ fun d => ∃ i, d = .int i ∧ K (.int (g i))) : wpE G (tUn (rU fun i => .int (g i)) ta) ρ K := fun X o σ H V Q q => h X o σ H V _ fun v H' d f s r ⟨i, e, k⟩ => by
  subst e; cases r
  exact ⟨i, rfl, q _ H' _ f s (.int _) k⟩
/-! ### arguments, displays -/
variable {tr : TA} {Ks : List Sl → Prop}
theorem wpA_nil (k : Ks []) : wpA G tNil ρ Ks := fun X o σ H V Q q => q [] H [] Fr.rfl' V.s .nil k
theorem wpA_cons (h : wpE G te ρ fun d => wpA G tr ρ fun ss => Ks (.dat d :: ss)) : wpA G (tCons te tr) ρ Ks := fun X o σ H V Q q => h X o σ H V _ fun v H1 d f1 s1 r1 h2 => h2 X o σ H1 (V.step f1 s1) _ fun vs H2 ss f2 s2 r2 k =>
  q (v :: vs) H2 (.dat d :: ss) (f1.trans f2) s2 (.cons (.dat (r1.fr V.nav f2)) r2) k
theorem wpA_spc {i : Nat} {w : V} (hi : ρ[i]? = some (Sl.spc w)) (h : wpA G tr ρ fun ss => Ks (.spc w :: ss)) : wpA G (tCons (tVar i) tr) ρ Ks := fun X o σ H V Q q =>
  ⟨w, V.spc i w hi, h X o σ H V _ fun vs H2 ss f2 s2 r2 k => q (w :: vs) H2 (.spc w :: ss) f2 s2 (.cons .spc r2) k⟩
theorem wpE_tup (h : wpA G tr ρ fun ss => ∃ ds, ss = ds.map .dat ∧ ds.length ≤ 1000000 ∧ K (.tuple ds)) : wpE G (tTup tr) ρ K := fun X o σ H V Q q => h X o σ H V _ fun vs H1 ss f s r ⟨ds, e, l, k⟩ => by
  subst e
  have r := r.dats
  refine ⟨by rw [r.length]; exact sz6 l, fun p hp => q _ _ _ (f.trans (Ex.new hp).fr) (G.mono _ _ s (Ex.new hp)) (.tup upd_same ((V.step f s).fresh hp) (r.ex (Ex.new hp))) k⟩
theorem wpN_lst (h : wpA G tr ρ fun ss => ∃ ds, ss = ds.map .dat ∧ ds.length ≤ 1000000 ∧ Kl ds) : wpN G (tLst tr) ρ Kl := fun X o σ H V Q q => h X o σ H V _ fun vs H1 ss f s r ⟨ds, e, l, k⟩ => by
  subst e
  have r := r.dats
  have V1 := V.step f s
  refine ⟨by rw [r.length]; exact sz6 l, fun p hp => q p vs _ ds ?_ (f.trans (Ex.new hp).fr) (G.mono _ _ s (Ex.new hp)) upd_same (r.to fun b u hb n => ⟨Ex.new hp b u hb, fun z => z.elim n fun z => by rw [z, hp] at hb; cases hb⟩) k⟩
  cases e : H p with
  | none => rfl
  | some u => exact absurd hp (dm_of f s p (by rw [e]; exact fun z => nomatch z))
/-! ### a list or a tuple that is read -/
def wpQ (G : Gm) (te : TE) (ρ : Rho) (K : List PD → Prop) : Prop := ∀ X o σ H, EnvOk G X o σ H ρ → ∀ Q : VK,
  (∀ p vs H' ds, Fr G.N H H' → G.S H' → (H' p = some (.lst vs) ∨ (H' p = some (.tup vs) ∧ ¬ Av X o ρ p)) → RpL (Av X o ρ) H' vs ds → K ds → Q (.ref p) H') → te σ H Q
theorem wpL.Q (h : wpL G te ρ Kl) : wpQ G te ρ Kl := fun X o σ H V Q q => h X o σ H V Q fun p vs H' ds f s e n r k => q p vs H' ds f s (.inl e) r k
theorem wpE.Q (h : wpE G te ρ fun d => ∃ ds, seqOf d = some ds ∧ Kl ds) : wpQ G te ρ Kl := fun X o σ H V Q q => h X o σ H V Q fun v H' d f s r ⟨ds, e, k⟩ => by
  cases r with
  | lst a n r => cases e; exact q _ _ H' _ f s (.inl a) r k
  | tup a n r => cases e; exact q _ _ H' _ f s (.inr ⟨a, n⟩) r k
  | _ => cases e
theorem wpN.Q (h : wpN G te ρ Kl) : wpQ G te ρ Kl := h.L.Q
theorem wpE_len (h : wpQ G te ρ fun ds => K (.int ds.length)) : wpE G (tCB (fun xs H Q => ∃ p ys, xs = [.ref p] ∧ (SqL F H p ys ∨ SqT F H p ys) ∧ Q (.int ys.length) H) (tCons te tNil)) ρ K := fun X o σ H V Q q => h X o σ H V _ fun p vs H' ds f s e r k =>
  ⟨p, vs, rfl, e.imp (fun e => .inl (.inl e)) (fun e => .inl (.inl e.1)), by rw [r.length]; exact q _ H' _ f s (.int _) k⟩
theorem wpE_tuple (h : wpQ G te ρ fun ds => K (.tuple ds)) : wpE G (tCB (fun xs H Q => ∃ p ys, xs = [.ref p] ∧ ((SqL F H p ys ∧ ∀ l, H l = none → Q (.ref l) (upd H l (.tup ys))) ∨ (SqT F H p ys ∧ Q (.ref p) H))) (tCons te tNil)) ρ K := fun X o σ H V Q q => h X o σ H V _ fun p vs H' ds f s e r k => by
  refine ⟨p, vs, rfl, ?_⟩
  rcases e with e | ⟨e, n⟩
  · exact .inl ⟨.inl (.inl e), fun l hl => q _ _ _ (f.trans (Ex.new hl).fr) (G.mono _ _ s (Ex.new hl)) (.tup upd_same ((V.step f s).fresh hl) (r.ex (Ex.new hl))) k⟩
  · exact .inr ⟨.inl (.inl e), q _ H' _ f s (.tup e n r) k⟩
theorem wpN_list (h : wpQ G te ρ Kl) : wpN G (tCB (fun xs H Q => ∃ p ys, xs = [.ref p] ∧ (SqL F H p ys ∨ SqT F H p ys) ∧ ∀ l, H l = none → Q (.ref l) (upd H l (.lst ys))) (tCons te tNil)) ρ Kl := fun X o σ H V Q q => h X o σ H V _ fun p vs H' ds f s e r k => by
  refine ⟨p, vs, rfl, e.imp (fun e => .inl (.inl e)) (fun e => .inl (.inl e.1)), fun l hl => q l vs _ ds ?_ (f.trans (Ex.new hl).fr) (G.mono _ _ s (Ex.new hl)) upd_same (r.to fun b u hb n => ⟨Ex.new hl b u hb, fun z => z.elim n fun z => by rw [z, hl] at hb; cases hb⟩) k⟩
  cases e : H l with
  | none => rfl
  | some u => exact absurd hl (dm_of f s l (by rw [e]; exact fun z => nomatch z))
theorem RpL.ints {A : Addr → Prop} {H : Hp} : ∀ {ns : List Int} {vs : List V}, RpL A H vs (ns.map .int) → vs = ns.map V.int
  | [], _, h => by cases h; rfl
  | n :: ns, _, h => by
    cases h with
    | cons r t => cases r; rw [List.map_cons, ← RpL.ints t]
theorem RpL.bools {A : Addr → Prop} {H : Hp} : ∀ {ns : List Bool} {vs : List V}, RpL A H vs (ns.map .bool) → vs = ns.map V.bl
  | [], _, h => by cases h; rfl
  | n :: ns, _, h => by
    cases h with
    | cons r t => cases r; rw [List.map_cons, ← RpL.bools t]
theorem RpL.strs {A : Addr → Prop} {H : Hp} : ∀ {ns : List Str} {vs : List V}, RpL A H vs (ns.map .str) → vs = ns.map V.str
  | [], _, h => by cases h; rfl
  | n :: ns, _, h => by
    cases h with
    | cons r t => cases r; rw [List.map_cons, ← RpL.strs t]
theorem RpL.ofStrs {A : Addr → Prop} {H : Hp} : ∀ {ns : List Str}, RpL A H (ns.map V.str) (ns.map .str)
  | [] => .nil
  | n :: ns => .cons (.str n) RpL.ofStrs
theorem wpE_sum (h : wpL G te ρ fun ds => ∃ ns : List Int, ds = ns.map .int ∧ K (.int ns.sum)) : wpE G (tCB (rSum F) (tCons te tNil)) ρ K := fun X o σ H V Q q => h X o σ H V _ fun p vs H' ds f s e n r ⟨ns, ed, k⟩ => by
  subst ed
  exact ⟨p, ns, rfl, .inl (.inl (by rw [← r.ints]; exact e)), q _ H' _ f s (.int _) k⟩
theorem wpE_max (h : wpL G te ρ fun ds => ∃ ns : List Int, ds = ns.map .int ∧ ns ≠ [] ∧ ∀ m, m ∈ ns → (∀ y, y ∈ ns → y ≤ m) → K (.int m)) : wpE G (tCB (rMax F) (tCons te tNil)) ρ K := fun X o σ H V Q q => h X o σ H V _ fun p vs H' ds f s e n r ⟨ns, ed, ne, k⟩ => by
  subst ed
  exact ⟨p, ns, rfl, .inl (.inl (by rw [← r.ints]; exact e)), List.length_pos_iff.mpr ne, fun m h1 h2 => q _ H' _ f s (.int _) (k m h1 h2)⟩
theorem wpE_min (h : wpL G te ρ fun ds => ∃ ns : List Int, ds = ns.map .int ∧ ns ≠ [] ∧ ∀ m, m ∈ ns → (∀ y, y ∈ ns → m ≤ y) → K (.int m)) : wpE G (tCB (rMin F) (tCons te tNil)) ρ K := fun X o σ H V Q q => h X o σ H V _ fun p vs H' ds f s e n r ⟨ns, ed, ne, k⟩ => by
  subst ed
  exact ⟨p, ns, rfl, .inl (.inl (by rw [← r.ints]; exact e)), List.length_pos_iff.mpr ne, fun m h1 h2 => q _ H' _ f s (.int _) (k m h1 h2)⟩
theorem wpE_any (h : wpL G te ρ fun ds => ∃ bs : List Bool, ds = bs.map .bool ∧ K (.bool (bs.any id))) : wpE G (tCB (rAny F) (tCons te tNil)) ρ K := fun X o σ H V Q q => h X o σ H V _ fun p vs H' ds f s e n r ⟨ns, ed, k⟩ => by
  subst ed
  exact ⟨p, ns, rfl, .inl (.inl (by rw [← r.bools]; exact e)), q _ H' _ f s (.bl _) k⟩
theorem wpE_all (h : wpL G te ρ fun ds => ∃ bs : List Bool, ds = bs.map .bool ∧ K (.bool (bs.all id))) : wpE G (tCB (rAll F) (tCons te tNil)) ρ K := fun X o σ H V Q q => h X o σ H V _ fun p vs H' ds f s e n r ⟨ns, ed, k⟩ => by
  subst ed
  exact ⟨p, ns, rfl, .inl (.inl (by rw [← r.bools]; exact e)), q _ H' _ f s (.bl _) k⟩
theorem wpE_sortedS (h : wpL G te ρ fun ds => ∃ xs : List Str, ds = xs.map .str ∧ xs.length < 64 ∧ ∀ ys : List Str, ys.Perm xs → sortedS ys = true → K (.list (ys.map .str))) : wpE G (tCB (rSortedS F) (tCons te tNil)) ρ K := fun X o σ H V Q q => h X o σ H V _ fun p vs H' ds f s e n r ⟨xs, ed, l, k⟩ => by
  subst ed
  exact ⟨p, xs, rfl, .inl (.inl (by rw [← r.strs]; exact e)), l, fun ys a h1 h2 ha => q _ _ _ (f.trans (Ex.new ha).fr) (G.mono _ _ s (Ex.new ha)) (.lst upd_same ((V.step f s).fresh ha) RpL.ofStrs) (k ys h1 h2)⟩
theorem wpE_abs (h : wpE G te ρ fun d => ∃ i, d = .int i ∧ K (.int (if i < 0 then -i else i))) : wpE G (tCB (fun xs H Q => ∃ i, xs = [.int i] ∧ Q (.int (if i < 0 then -i else i)) H) (tCons te tNil)) ρ K := fun X o σ H V Q q => h X o σ H V _ fun v H' d f s r ⟨i, e, k⟩ => by
  subst e; cases r
  exact ⟨i, rfl, q _ H' _ f s (.int _) k⟩
theorem wpE_max2 {tb : TE} (h : wpE G ta ρ fun d => ∃ i, d = .int i ∧ wpE G tb ρ fun d => ∃ j, d = .int j ∧ K (.int (if j > i then j else i))) : wpE G (tCB (fun xs H Q => ∃ i j, xs = [.int i, .int j] ∧ Q (.int (if j > i then j else i)) H) (tCons ta (tCons tb tNil))) ρ K := fun X o σ H V Q q =>
  h X o σ H V _ fun v H' d f s r ⟨i, e, k⟩ => by
    subst e; cases r
    refine k X o σ H' (V.step f s) _ fun v2 H2 d2 f2 s2 r2 ⟨j, e, k⟩ => ?_
    subst e; cases r2
    exact ⟨i, j, rfl, q _ H2 _ (f.trans f2) s2 (.int _) k⟩
theorem wpE_min2 {tb : TE} (h : wpE G ta ρ fun d => ∃ i, d = .int i ∧ wpE G tb ρ fun d => ∃ j, d = .int j ∧ K (.int (if j < i then j else i))) : wpE G (tCB (fun xs H Q => ∃ i j, xs = [.int i, .int j] ∧ Q (.int (if j < i then j else i)) H) (tCons ta (tCons tb tNil))) ρ K := fun X o σ H V Q q =>
  h X o σ H V _ fun v H' d f s r ⟨i, e, k⟩ => by
    subst e; cases r
    refine k X o σ H' (V.step f s) _ fun v2 H2 d2 f2 s2 r2 ⟨j, e, k⟩ => ?_
    subst e; cases r2
    exact ⟨i, j, rfl, q _ H2 _ (f.trans f2) s2 (.int _) k⟩
theorem wpE_int1 (h : wpE G te ρ fun d => (∃ i, d = .int i ∧ K (.int i)) ∨ ∃ b, d = .bool b ∧ K (.int (if b then 1 else 0))) : wpE G (tCB (fun xs H Q => (∃ i, xs = [.int i] ∧ Q (.int i) H) ∨ ∃ k, xs = [.bl k] ∧ Q (.int (if k then 1 else 0)) H) (tCons te tNil)) ρ K := fun X o σ H V Q q => h X o σ H V _ fun v H' d f s r k => by
  rcases k with ⟨i, e, k⟩ | ⟨b, e, k⟩
  · subst e; cases r
    exact .inl ⟨i, rfl, q _ H' _ f s (.int _) k⟩
  · subst e; cases r
    exact .inr ⟨b, rfl, q _ H' _ f s (.int _) k⟩
theorem wpE_lenS (h : wpE G te ρ fun d => ∃ z : Str, d = .str z ∧ z.length ≤ 1000000 ∧ K (.int z.length)) : wpE G (tCB (fun xs H Q => ∃ z, xs = [.str z] ∧ z.length ≤ sizeLine ∧ Q (.int z.length) H) (tCons te tNil)) ρ K := fun X o σ H V Q q => h X o σ H V _ fun v H' d f s r ⟨z, e, l, k⟩ => by
  subst e; cases r
  exact ⟨z, rfl, sz6 l, q _ H' _ f s (.int _) k⟩
/-- isinstance(x, T), T a built-in type -/
def tyOfD : PD → String
  | .none => "NoneType"
  | .bool _ => "bool"
  | .int _ => "int"
  | .str _ => "str"
  | .list _ => "list"
  | .tuple _ => "tuple"
  | .dict _ => "?"
theorem wpE_isi {T : String} (h : wpE G te ρ fun d => ∃ b, PySem.W.kitOne F (.type (tyOfD d)) (.type T) = some b ∧ (∀ k, d ≠ .dict k) ∧ K (.bool b)) : wpE G (tCB (rIsi F) (tCons te (tCons (tC (.ty T)) tNil))) ρ K := fun X o σ H V Q q => h X o σ H V _ fun v H' d f s r ⟨b, e, nd, k⟩ =>
  ⟨v, .ty T, _, _, b, rfl, .ty T, .base (show TyOf F H' v (.type (tyOfD d)) by
    cases r with
    | non => exact .non
    | bl b => exact .bl b
    | int i => exact .int i
    | str x => exact .str x
    | lst a n r => exact .lst a
    | tup a n r => exact .tup a
    | tab a n r t => exact absurd rfl (nd _)), e, q _ H' _ f s (.bl _) k⟩
/-! ### slices, sums of lists -/
def cutD {α : Type} (xs : List α) (lo hi : Option Int) : List α := (xs.drop (HT.sIx xs.length 0 lo)).take (HT.sIx xs.length xs.length hi - HT.sIx xs.length 0 lo)
theorem RpL.cut {A : Addr → Prop} {H : Hp} {vs : List V} {ds : List PD} (r : RpL A H vs ds) (lo hi : Option Int) : RpL A H (cutV vs lo hi) (cutD ds lo hi) := by
  unfold cutV cutD
  rw [r.length]
  exact (r.drop _).take _
variable {tl th : TO}
theorem wpO_none {Ko : Option Int → Prop} (k : Ko none) : wpO G tNoPart ρ Ko := fun X o σ H V Q q => q none H Fr.rfl' V.s k
theorem wpO_some {Ko : Option Int → Prop} (h : wpE G te ρ fun d => ∃ i, d = .int i ∧ Ko (some i)) : wpO G (tPart te) ρ Ko := fun X o σ H V Q q => h X o σ H V _ fun v H' d f s r ⟨i, e, k⟩ => by
  subst e; cases r
  exact ⟨i, rfl, q _ H' f s k⟩
theorem wpN_slL (h : wpL G te ρ fun ds => wpO G tl ρ fun lo => wpO G th ρ fun hi => Kl (cutD ds lo hi)) : wpN G (tSl (rSlL F) te tl th) ρ Kl := fun X o σ H V Q q => h X o σ H V _ fun p vs H1 ds f1 s1 e n r k => k X o σ H1 (V.step f1 s1) _ fun lo H2 f2 s2 k => k X o σ H2 ((V.step f1 s1).step f2 s2) _ fun hi H3 f3 s3 k => by
  have e3 := f3 _ _ (f2 _ _ e n) n
  have r3 := (r.fr V.nav f2).fr V.nav f3
  refine ⟨p, vs, rfl, .inl (.inl e3), fun l hl => q l _ _ _ ?_ (((f1.trans f2).trans f3).trans (Ex.new hl).fr) (G.mono _ _ s3 (Ex.new hl)) upd_same ((r3.cut lo hi).to fun b u hb n => ⟨Ex.new hl b u hb, fun z => z.elim n fun z => by rw [z, hl] at hb; cases hb⟩) k⟩
  cases e : H l with
  | none => rfl
  | some u => exact absurd hl (dm_of ((f1.trans f2).trans f3) s3 l (by rw [e]; exact fun z => nomatch z))
theorem wpE_slT (h : wpE G te ρ fun d => ∃ ds, d = .tuple ds ∧ wpO G tl ρ fun lo => wpO G th ρ fun hi => K (.tuple (cutD ds lo hi))) : wpE G (tSl (rSlA F) te tl th) ρ K := fun X o σ H V Q q => h X o σ H V _ fun v H1 d f1 s1 r ⟨ds, e, k⟩ => k X o σ H1 (V.step f1 s1) _ fun lo H2 f2 s2 k => k X o σ H2 ((V.step f1 s1).step f2 s2) _ fun hi H3 f3 s3 k => by
  subst e
  have r3 := (r.fr V.nav f2).fr V.nav f3
  have V3 := ((V.step f1 s1).step f2 s2).step f3 s3
  have f := (f1.trans f2).trans f3
  cases r3 with
  | @tup a xs _ ha n r =>
    refine ⟨a, xs, rfl, .inl (.inl ha), fun ⟨h1, h2⟩ => ?_, fun _ l hl => q _ _ _ (f.trans (Ex.new hl).fr) (G.mono _ _ s3 (Ex.new hl)) (.tup upd_same (V3.fresh hl) ((r.cut lo hi).ex (Ex.new hl))) k⟩
    have ee : cutD ds lo hi = ds := by
      unfold cutD
      rw [← r.length, h1, h2]
      simp [r.length]
    have k2 : K (.tuple (cutD ds lo hi)) := k
    rw [ee] at k2
    exact q _ H3 _ f s3 (.tup ha n r) k2
theorem wpN_cat {tb : TE} (h : wpL G ta ρ fun ds => wpL G tb ρ fun es => ds.length + es.length ≤ 1000000 ∧ Kl (ds ++ es)) : wpN G (tOp rCat ta tb) ρ Kl := fun X o σ H V Q q => h X o σ H V _ fun p vs H1 ds f1 s1 e n r k => k X o σ H1 (V.step f1 s1) _ fun p2 vs2 H2 es f2 s2 e2 n2 r2 ⟨l, k⟩ => by
  have e1 := f2 _ _ e n
  have r1 := r.fr V.nav f2
  refine ⟨p, p2, vs, vs2, rfl, rfl, e1, e2, by rw [r1.length, r2.length]; exact sz6 l, fun l hl => q l _ _ _ ?_ ((f1.trans f2).trans (Ex.new hl).fr) (G.mono _ _ s2 (Ex.new hl)) upd_same ((r1.append r2).to fun b u hb n => ⟨Ex.new hl b u hb, fun z => z.elim n fun z => by rw [z, hl] at hb; cases hb⟩) k⟩
  cases e : H l with
  | none => rfl
  | some u => exact absurd hl (dm_of (f1.trans f2) s2 l (by rw [e]; exact fun z => nomatch z))
theorem wpN_rep {tb : TE} (h : wpL G ta ρ fun ds => wpE G tb ρ fun d => ∃ k : Int, d = .int k ∧ 0 ≤ k ∧ k ≤ 1000 ∧ ds.length ≤ 1000 ∧ Kl (List.replicate k.toNat ds).flatten) : wpN G (tOp rRep ta tb) ρ Kl := fun X o σ H V Q q => h X o σ H V _ fun p vs H1 ds f1 s1 e n r k => k X o σ H1 (V.step f1 s1) _ fun v H2 d f2 s2 r2 ⟨m, ed, l1, l2, l3, k⟩ => by
  subst ed; cases r2
  have e1 := f2 _ _ e n
  have r1 := r.fr V.nav f2
  have lm : vs.length * m.toNat ≤ 1000000 := by
    rw [r1.length]
    exact Nat.le_trans (Nat.mul_le_mul l3 (show m.toNat ≤ 1000 by omega)) (by decide)
  refine ⟨p, m, vs, rfl, rfl, e1, by omega, by omega, sz6 lm, fun l hl => q l _ _ _ ?_ ((f1.trans f2).trans (Ex.new hl).fr) (G.mono _ _ s2 (Ex.new hl)) upd_same ((r1.rep m.toNat).to fun b u hb n => ⟨Ex.new hl b u hb, fun z => z.elim n fun z => by rw [z, hl] at hb; cases hb⟩) k⟩
  cases e : H l with
  | none => rfl
  | some u => exact absurd hl (dm_of (f1.trans f2) s2 l (by rw [e]; exact fun z => nomatch z))
theorem wpN_rev (h : wpL G te ρ fun ds => Kl ds.reverse) : wpN G (tRevL F te) ρ Kl := fun X o σ H V Q q => h X o σ H V _ fun p vs H1 ds f1 s1 e n r k => by
  refine ⟨p, vs, rfl, .inl (.inl e), fun l hl => q l _ _ _ ?_ (f1.trans (Ex.new hl).fr) (G.mono _ _ s1 (Ex.new hl)) upd_same (r.reverse.to fun b u hb n => ⟨Ex.new hl b u hb, fun z => z.elim n fun z => by rw [z, hl] at hb; cases hb⟩) k⟩
  cases e : H l with
  | none => rfl
  | some u => exact absurd hl (dm_of f1 s1 l (by rw [e]; exact fun z => nomatch z))
theorem opD_catT : OpD (rCatA F) fun dx dy K => ∃ xs ys, dx = .tuple xs ∧ dy = .tuple ys ∧ xs.length + ys.length ≤ 1000000 ∧ K (.tuple (xs ++ ys)) := fun A H x y dx dy K Q dm rx ry ⟨xs, ys, e1, e2, l, k⟩ q => by
  subst e1 e2
  cases rx with
  | @tup a vs _ ha na r =>
    cases ry with
    | @tup b ws _ hb nb r' =>
      refine ⟨a, b, vs, ws, rfl, rfl, .inl (.inl ha), .inl (.inl hb), by rw [r.length, r'.length]; exact sz6 l, fun e => ?_, fun e e' => ?_, fun e e' p hp => ?_⟩
      · subst e; cases r
        exact q _ H _ Ex.rfl' (.tup hb nb r') k
      · subst e'; cases r'
        rw [List.append_nil] at k
        exact q _ H _ Ex.rfl' (.tup ha na r) k
      · exact q _ _ _ (Ex.new hp) (.tup upd_same (fun z => dm p z hp) ((r.append r').ex (Ex.new hp))) k
theorem opD_catS : OpD (fun x y H Q => ∃ i j, x = .str i ∧ y = .str j ∧ i.length + j.length ≤ sizeLine ∧ Q (.str (i ++ j)) H) fun dx dy K => ∃ i j : Str, dx = .str i ∧ dy = .str j ∧ i.length + j.length ≤ 1000000 ∧ K (.str (i ++ j)) := fun A H x y dx dy K Q dm rx ry ⟨i, j, e1, e2, l, k⟩ q => by
  subst e1 e2; cases rx; cases ry
  exact ⟨i, j, rfl, rfl, sz6 l, q _ H _ Ex.rfl' (.str _) k⟩
theorem opD_ltS : OpD (fun x y H Q => ∃ i j, x = .str i ∧ y = .str j ∧ Q (.bl (decide (i.cps.toList < j.cps.toList))) H) fun dx dy K => ∃ i j : Str, dx = .str i ∧ dy = .str j ∧ K (.bool (decide (i.cps.toList < j.cps.toList))) := fun A H x y dx dy K Q dm rx ry ⟨i, j, e1, e2, k⟩ q => by
  subst e1 e2; cases rx; cases ry
  exact ⟨i, j, rfl, rfl, q _ H _ Ex.rfl' (.bl _) k⟩
theorem opD_ixS : OpD rIxS fun dx dy K => ∃ (z : Str) (i : Int) (c : Nat), dx = .str z ∧ dy = .int i ∧ z.length ≤ 1000000 ∧ atI z.cps.toList i = some c ∧ K (.str ⟨#[c]⟩) := fun A H x y dx dy K Q dm rx ry ⟨z, i, c, e1, e2, l, h, k⟩ q => by
  subst e1 e2; cases rx; cases ry
  exact ⟨z, i, c, rfl, rfl, sz6 l, h, q _ H _ Ex.rfl' (.str _) k⟩
/-! ### fields of a table -/
theorem wpE_things (h : wpE G te ρ fun d => ∃ C dt de, d = tabD C dt de ∧ Cls F C ∧ NoAttr F C "things" ∧ K dt) : wpE G (tFld F te "things") ρ K := fun X o σ H V Q q => h X o σ H V _ fun v H' d f s r ⟨C, dt, de, e, c, n, k⟩ => by
  generalize hd : tabD C dt de = d' at e
  subst e
  cases r with
  | @tab a C' dx x y dt' de' ha na r1 r2 =>
    have e2 : C = C' ∧ dt = dt' ∧ de = de' := by
      unfold tabD at hd
      have h3 : (C : Int) = (C' : Int) ∧ dt = dt' ∧ de = de' := by simpa using hd
      exact ⟨Int.ofNat.inj h3.1, h3.2⟩
    obtain ⟨rfl, rfl, rfl⟩ := e2
    exact ⟨a, C, dx, _, x, rfl, ha, c, n, rfl, q _ H' _ f s r1 k⟩
  | _ => cases hd
theorem wpE_ties (h : wpE G te ρ fun d => ∃ C dt de, d = tabD C dt de ∧ Cls F C ∧ NoAttr F C "ties" ∧ K de) : wpE G (tFld F te "ties") ρ K := fun X o σ H V Q q => h X o σ H V _ fun v H' d f s r ⟨C, dt, de, e, c, n, k⟩ => by
  generalize hd : tabD C dt de = d' at e
  subst e
  cases r with
  | @tab a C' dx x y dt' de' ha na r1 r2 =>
    have e2 : C = C' ∧ dt = dt' ∧ de = de' := by
      unfold tabD at hd
      have h3 : (C : Int) = (C' : Int) ∧ dt = dt' ∧ de = de' := by simpa using hd
      exact ⟨Int.ofNat.inj h3.1, h3.2⟩
    obtain ⟨rfl, rfl, rfl⟩ := e2
    refine ⟨a, C, dx, _, y, rfl, ha, c, n, ?_, q _ H' _ f s r2 k⟩
    show (match (Str.ofString "ties" == Str.ofString "things") with | true => some x | false => _) = some y
    rw [show (Str.ofString "ties" == Str.ofString "things") = false by decide +kernel]
    show (match (Str.ofString "ties" == Str.ofString "ties") with | true => some y | false => none) = some y
    rw [show (Str.ofString "ties" == Str.ofString "ties") = true by decide +kernel]
  | _ => cases hd
end
/-! ### defs -/
/-- a def that changes nothing: from data to data -/
def SpP (P : List PD → (PD → Prop) → Prop) : Sp := fun vs H Q _ => ∃ (A : Addr → Prop) (ds : List PD) (K : PD → Prop), (∀ b, A b → H b ≠ none) ∧ RpL A H vs ds ∧ P ds K ∧ ∀ v H' d, Ex H H' → Rp A H' v d → K d → Q v H'
theorem wpE_callP {G : Gm} {ρ : Rho} {P : List PD → (PD → Prop) → Prop} {E : XK} {ta : TA} {K : PD → Prop} (h : wpA G ta ρ fun ss => ∃ ds, ss = ds.map .dat ∧ P ds K) : wpE G (tCall (SpP P) [] E ta) ρ K := fun X o σ H V Q q => h X o σ H V _ fun vs H1 ss f s r ⟨ds, e, p⟩ => by
  subst e
  rw [List.append_nil]
  exact ⟨Av X o ρ, ds, K, fun b z => (V.step f s).dom z, r.dats, p, fun v H' d x rd k => q v H' d (f.trans x.fr) (G.mono _ _ s x) rd k⟩
/-- the slots at the entry -/
def rho (n : Nat) (ss : List Sl) : Rho := ss ++ List.replicate (n - ss.length) .no
theorem RpSs.length {A : Addr → Prop} {H : Hp} : ∀ {vs : List V} {ss : List Sl}, RpSs A H vs ss → vs.length = ss.length
  | _, _, .nil => rfl
  | _, _, .cons _ t => congrArg (· + 1) (RpSs.length t)
theorem RpSs.get {A : Addr → Prop} {H : Hp} : ∀ {vs : List V} {ss : List Sl} {i : Nat} {s : Sl}, RpSs A H vs ss → ss[i]? = some s → ∃ v, vs[i]? = some v ∧ RpS A H v s
  | _, _, _, _, .nil, e => by simp at e
  | _, _, 0, _, .cons r _, e => by simp at e; subst e; exact ⟨_, rfl, r⟩
  | _, _, i + 1, d, .cons _ t, e => by
    obtain ⟨v, h1, h2⟩ := RpSs.get (i := i) (s := d) t (by simpa using e)
    exact ⟨v, by simpa using h1, h2⟩
theorem RpSs.noown {A : Addr → Prop} {H : Hp} {v : V} {ds : List PD} : ¬ RpS A H v (.own ds) := fun h => by cases h
theorem env_start {G : Gm} {X : Addr → Prop} {H : Hp} {N : List Str} {vs : List V} {ss : List Sl} (s : G.S H) (sub : ∀ b, G.N b → X b) (xd : ∀ b, X b → H b ≠ none) (r : RpSs X H vs ss) (hl : ss.length ≤ N.length) (o : Nat → Addr) :
    EnvOk G X o (L2.start N vs) H (rho N.length ss) := by
  have no : ∀ (i : Nat) (ds : List PD), (rho N.length ss)[i]? ≠ some (Sl.own ds) := fun i ds e => by
    unfold rho at e
    by_cases l : i < ss.length
    · rw [List.getElem?_append_left l] at e
      obtain ⟨v, _, q⟩ := r.get e
      cases q
    · rw [List.getElem?_append_right (by omega), List.getElem?_replicate] at e
      split at e <;> cases e
  have av : ∀ b, Av X o (rho N.length ss) b → X b := fun b z => z.elim id fun ⟨i, ds, e, _⟩ => absurd e (no i ds)
  have at_ : ∀ (i : Nat) q, (rho N.length ss)[i]? = some q → q ≠ .no → ∃ v, (L2.start N vs)[i]? = some (some v) ∧ RpS X H v q := fun i q e nq => by
    unfold rho at e
    by_cases l : i < ss.length
    · rw [List.getElem?_append_left l] at e
      obtain ⟨v, h1, h2⟩ := r.get e
      refine ⟨v, ?_, h2⟩
      unfold L2.start
      rw [List.getElem?_append_left (by rw [List.length_map, r.length]; exact l), List.getElem?_map, h1]; rfl
    · rw [List.getElem?_append_right (by omega), List.getElem?_replicate] at e
      split at e
      · cases e; exact absurd rfl nq
      · cases e
  exact {
    s := s, sub := sub, xdom := xd
    len := by
      unfold L2.start rho
      rw [List.length_append, List.length_append, List.length_map, List.length_replicate, List.length_replicate, r.length]
    inj := fun i j ds es h => absurd h (no i ds)
    out := fun i ds h => absurd h (no i ds)
    dat := fun i d h => by
      obtain ⟨v, a, q⟩ := at_ i _ h (fun z => nomatch z)
      cases q with
      | dat q => exact ⟨v, a, q.sub av⟩
    own := fun i ds h => absurd h (no i ds)
    spc := fun i v h => by
      obtain ⟨w, a, q⟩ := at_ i _ h (fun z => nomatch z)
      cases q
      exact a }
theorem RpL.ss {A : Addr → Prop} {H : Hp} : ∀ {vs : List V} {ds : List PD}, RpL A H vs ds → RpSs A H vs (ds.map .dat)
  | _, _, .nil => .nil
  | _, _, .cons r t => .cons (.dat r) (RpL.ss t)
/-- what a body that changes nothing is to reach -/
def DEp (K : PD → Prop) : DE := { nx := fun _ => K .none, rt := fun r => match r with
  | .dat d => K d
  | .own ds => K (.list ds)
  | _ => False }
theorem run_pure {N : List Str} {vs : List V} {H : Hp} {Q : VK} {t : TS} {A : Addr → Prop} {ds : List PD} {K : PD → Prop} (xd : ∀ b, A b → H b ≠ none) (r : RpL A H vs ds) (hl : ds.length ≤ N.length)
    (q : ∀ v H' d, Ex H H' → Rp A H' v d → K d → Q v H') (h : wpS Gm.pure t (rho N.length (ds.map .dat)) (DEp K)) : t { nx := fun _ H' => Q .non H', rt := Q } (L2.start N vs) H := by
  have V := env_start (G := Gm.pure) (N := N) trivial (fun b z => z.elim) xd r.ss (by simpa using hl) fun _ => 0
  have no : ∀ b, ¬ Ch Gm.pure (fun _ => 0) (rho N.length (ds.map .dat)) b := fun b z => by
    rcases z with z | ⟨i, es, e, _⟩
    · exact z
    · unfold rho at e
      by_cases l : i < (ds.map Sl.dat).length
      · rw [List.getElem?_append_left l, List.getElem?_map] at e
        cases w : ds[i]? with
        | none => rw [w] at e; cases e
        | some d => rw [w] at e; cases e
      · rw [List.getElem?_append_right (by omega), List.getElem?_replicate] at e
        split at e <;> cases e
  refine h A _ _ H V _ (fun o' σ' H' ρ' a V' k => q .non H' .none (fun b u e => a.fr b u e (no b)) .non k) (fun v H' r ⟨f, _, c⟩ k => ?_) (fun _ _ _ _ _ _ z => z.elim) fun _ _ _ _ _ _ z => z.elim
  have ex : Ex H H' := fun b u e => f b u e (no b)
  cases r with
  | dat d => exact q v H' d ex c k
  | own es =>
    obtain ⟨p, ws, rfl, e, r, n, _⟩ := c
    exact q _ H' _ ex (.lst e n (r.sub fun b z => .inl z)) k
  | spc w => exact k.elim
  | no => exact k.elim
end K42
/-! text RuEnum -/
set_option Elab.async false
set_option linter.all false
set_option maxRecDepth 100000
set_option maxHeartbeats 2000000
/-! A rule: for i, x in enumerate(t), t a tuple. -/
namespace K42
open PySem PySem.Spec PyProof.Rows L2
theorem enum1_meets {v : Value} {o : Obj} {B : Heap → Prop} (hB : Begins v o B) : Meets (Builtin.«enumerate.__new__» ⟨[.type "enumerate", v], []⟩) (fun _ R s => B s.heap ∧
    R (.ok (.ret (.ref (s.heap.push o).objs.size))) { s with heap := (s.heap.push o).push { cls := .type "enumerate", data := .fields #[.none, .bool false, .ref s.heap.objs.size, rawInt 0, .none, .none] } }) :=
  .of_wp fun prog w A R s hs => by
    obtain ⟨hp, gs, dr, tk, os⟩ := s
    obtain ⟨hb, hr⟩ := hs
    have isE := sub_enumerate
    have begin_ : ∀ {A' : Around} {E : Value → Shared → Prop} {Q : Value → Shared → Prop}, Q (.ref hp.objs.size) ⟨hp.push o, gs, dr, tk, os⟩ → wpAny (model prog w) A' (pyIter v) Q E ⟨hp, gs, dr, tk, os⟩ := fun q => hB.iter prog w _ _ ⟨hp, gs, dr, tk, os⟩ _ hb q
    wp_walk using begin_
    refine wpAny_stack_any fun st => wpAny_pure ?_
    split
    · rename_i c _ _ _ _ _
      cases (c == Value.type "enumerate") <;> (wp_walk using begin_; exact ⟨_, rfl, hr⟩)
    · wp_walk using begin_
      exact ⟨_, rfl, hr⟩
section
variable {prog : Program} {w : World} {A : Around} {E : Value → Shared → Prop} {s : Shared}
theorem enum1_call {v : Value} {o : Obj} {B : Heap → Prop} {Q : Value → Shared → Prop} (hB : Begins v o B) (hb : B s.heap)
    (h : ∀ h', IsEnum h' (s.heap.objs.size + 1) s.heap.objs.size 0 .none → h'.get? s.heap.objs.size = some o → (∀ b o, s.heap.get? b = some o → h'.get? b = some o) → Q (.ref (s.heap.objs.size + 1)) { s with heap := h' }) :
    wpAny (model prog w) A (call (.type "enumerate") [v]) Q E s := by
  have sz : (s.heap.push o).objs.size = s.heap.objs.size + 1 := Heap.size_push ..
  refine callType_new F.called_enumerate (by decide) (F.typeCall_enumerate_1 _) (F.newCall_enumerate_1 _) (fun obj => F.args_object_init_2 obj _) F.entry_enumerate_new (enum1_meets hB) ⟨hb, ?_⟩
  generalize ho : ({ cls := .type "enumerate", data := .fields #[.none, .bool false, .ref s.heap.objs.size, rawInt 0, .none, .none] } : Obj) = oe
  have he : ((s.heap.push o).push oe).get? (s.heap.objs.size + 1) = some oe := by
    have q := Heap.get?_push_size (s.heap.push o) (o := oe) (by rw [← ho]; rfl)
    rwa [sz] at q
  rw [← ho] at he ⊢
  show _ ∧ _
  rw [sz]
  exact ⟨⟨_, he, rfl⟩, h _ he (Heap.get?_push_of_some _ (Heap.get?_push_size _ hB.free)) fun b ob q => Heap.get?_push_of_some _ (Heap.get?_push_of_some _ q)⟩
end
/-- the tuple at a, each item in a new pair -/
def IteT (K : PySem.W.Frag) (a : Addr) : It where
  go := fun i H => ∃ (xs : List V) (x : V), SqT K H a xs ∧ xs[i]? = some x
  yld := fun i H v H' => ∃ T x, v = .ref T ∧ H T = none ∧ H' = upd H T (.tup [.int (i : Nat), x]) ∧ ∀ xs, SqT K H a xs → xs[i]? = some x
  stop := fun i H => ∃ xs : List V, SqT K H a xs ∧ xs.length ≤ i
/-- the enumerate at e over the tuple's iterator at it, before its i-th item -/
structure EnAt (a e it : Addr) (i : Nat) (h : Heap) : Prop where
  en : ∃ old, IsEnum h e it ((i : Nat) : Int) old
  over : h.IsTupleIter it a i
  two : e ≠ it
theorem two_mem {b e it : Addr} (m : b ∈ [e, it]) : b = e ∨ b = it := by simpa using m
theorem tup_at {h : Heap} {a : Addr} {its : Array Value} (t : IsTup h a its) : h.IsTuple a its := let ⟨o, e1, e2, n, e3⟩ := t; ⟨o, e1, e2, n, e3⟩
section
variable {a e it : Addr} {i : Nat} {h : Heap} (Y : EnAt a e it i h)
include Y
theorem EnAt.plain {b : Addr} (m : b ∈ [e, it]) : ∃ o, h.get? b = some o ∧ ∀ v, o.data ≠ .cell v := by
  rcases two_mem m with rfl | rfl
  · obtain ⟨_, q⟩ := Y.en
    exact ⟨_, q, nofun⟩
  · obtain ⟨o, q, _, d⟩ := Y.over
    exact ⟨o, q, fun v => by rw [d]; exact nofun⟩
theorem EnAt.stay {h' : Heap} (k : ∀ b ∈ [e, it], ∀ o, h.get? b = some o → h'.get? b = some o) : EnAt a e it i h' :=
  ⟨Y.en.imp fun _ q => k _ List.mem_cons_self _ q, Y.over.at fun _ => k _ (List.mem_cons_of_mem _ List.mem_cons_self) _, Y.two⟩
theorem EnAt.old {b : Addr} (m : b ∈ [e, it]) : b < h.objs.size := let ⟨_, q, _⟩ := Y.plain m; Heap.lt_size q
/-- the tuple is neither -/
theorem EnAt.apart {its : Array Value} (t : IsTup h a its) : a ∉ [e, it] := fun m => by
  obtain ⟨o, q, _, n, d⟩ := t
  rcases two_mem m with z | z
  · obtain ⟨_, p⟩ := Y.en
    rw [z] at q
    rw [show h.get? e = _ from p] at q
    cases q; cases d
  · obtain ⟨o', p, _, d'⟩ := Y.over
    rw [z, p] at q
    cases q
    rw [d] at d'; cases d'
end
section
variable {X : Cx} {i : Nat} {pins : List (Addr × Obj)} {s : Shared} {σ : L2.St} {H : Hp} {a e it : Addr} {elts : List Expr} {kk : Nat} {tpos : Pos} {E : Value → Shared → Prop} (calm : X.calm = true) (I : Inv X pins σ H s) (off : ∀ b ∈ [e, it], FpOk X pins H b) (Y : EnAt a e it i s.heap)
include calm I off Y
/-- a further pair -/
theorem enum_more (g : (IteT X.K a).go i H) : wpAny (model X.prog X.w) X.A (pyNext (.ref e)) (fun r s1 => ∃ u, r = some u ∧
    wpAny (model X.prog X.w) X.A (letOwnedTupleGo (.Tuple elts kk tpos) (.ref e) u) (fun _ s2 => ∃ x H', Inv X pins σ H' s2 ∧ RelV x u ∧ (IteT X.K a).yld i H x H' ∧ EnAt a e it (i + 1) s2.heap ∧ ∀ b ∈ [e, it], H' b = none) E s1) E s := by
  obtain ⟨xs, x, tup, at_⟩ := g
  obtain ⟨its, rel, th, _⟩ := I.tuple tup
  obtain ⟨u, hu, ru⟩ := rel.get at_
  have hu' : its.toArray[i]? = some u := by simpa using hu
  have far := Y.apart th
  have ne_it : a ≠ it := fun z => far (by rw [z]; exact List.mem_cons_of_mem _ List.mem_cons_self)
  obtain ⟨_, en⟩ := id Y.en
  have within : i < its.toArray.size := (Array.getElem?_eq_some_iff.mp hu').1
  refine wpAny_pyNext_enum_itemC (Draws.tuple (A := X.A.in1) (I.ok.hd calm) it a ne_it its.toArray) en ⟨Y.over, tup_at th⟩ within Y.two (fun m => ?_) fun y h1 tk hy own st hT _ kept => ?_
  · rcases List.mem_cons.mp m with z | z
    · exact Y.two z
    · exact far (by rw [← List.mem_singleton.mp z]; exact List.mem_cons_self)
  obtain rfl : y = u := Option.some.inj (hy.symm.trans hu')
  refine ⟨_, rfl, wpAny_letOwnedTupleGo_enum (s := { s with heap := h1, toks := tk + 1 }) own fun h2 en2 but => ?_⟩
  have pair : h2.get? s.heap.objs.size = some { cls := .type "tuple", data := .seq #[.int i tk, y] } := (but.2 _ fun z => absurd (Y.old (b := e) List.mem_cons_self) (by rw [← z]; exact Nat.lt_irrefl _)).trans hT
  have J := I.turnedNew (ch := [e, it]) (t' := tk + 1) (h' := h2) (T := s.heap.objs.size) (ob := .tup [.int (i : Nat), x]) (fun b o nb q => ?_) off (Nat.le_refl _) ⟨sz6 (n := 2) (by decide), [.int i tk, y], .cons ⟨_, rfl⟩ (.cons ru .nil), ⟨_, pair, rfl, _, rfl⟩⟩
  · refine ⟨.ref s.heap.objs.size, _, J, rfl, ⟨s.heap.objs.size, x, rfl, I.hok.fresh (Nat.le_refl _), rfl, fun ys ty => by rw [I.tuple_inj ty tup]; exact at_⟩, ⟨⟨y, by rw [Int.natCast_succ]; exact en2⟩, st.1.at fun _ q => (but.2 it Y.two.symm).trans q, Y.two⟩, fun b m => ?_⟩
    rw [upd_ne (Nat.ne_of_lt (Y.old m))]
    exact (off b m).1
  · have n1 : b ≠ e := fun z => nb (by rw [z]; exact List.mem_cons_self)
    have n2 : b ≠ it := fun z => nb (by rw [z]; exact List.mem_cons_of_mem _ List.mem_cons_self)
    exact (but.2 b n1).trans (kept b o n1 (fun m => n2 (by simpa using m)) q)
/-- no further one -/
theorem enum_end (g : (IteT X.K a).stop i H) : wpAny (model X.prog X.w) X.A (pyNext (.ref e)) (fun r s1 => r = none ∧ Inv X pins σ H s1) E s := by
  obtain ⟨xs, tup, past⟩ := g
  obtain ⟨its, rel, th, _⟩ := I.tuple tup
  have len := rel.length
  obtain ⟨_, en⟩ := id Y.en
  obtain ⟨f0, f1, _, f3, f4, f5⟩ := off it (List.mem_cons_of_mem _ List.mem_cons_self)
  have ty : s.TypeIs (.ref e) "enumerate" := ⟨_, en, rfl⟩
  unfold pyNext
  refine wpAny_bind (wpAny_attempt (wpAny_callSpecial?_slot (name := Str.ofString "__next__") ty F.slot_enumerate_next (wpAny_call_entry F.slot_enumerate_next ty F.entry_enumerate_next ?_ (F.args_enumerate_next_1 _))))
  refine wpAny_bind (m := field (.ref e) 2) (wpAny_field en rfl (x := .ref it) rfl (wpAny_bind (wpAny_nextOf_tuple_end (I.ok.hd calm) Y.over (tup_at th) (by simp; omega) fun h1 x kept stop_ => ?_)))
  obtain ⟨o, go, cls⟩ := stop_
  exact wpAny_bind (wpAny_isInstance (T := "StopIteration") (b := true) ⟨o, go, cls⟩ isSubtype_stop (wpAny_pure ⟨rfl, I.turned (t' := s.toks) (fun b o nb q => kept b o nb q) f0 f1 f3 f4 f5⟩))
end
theorem turn_enumT {P : Program} {w : World} {K : PySem.W.Frag} {elts : List Expr} {kk : Nat} {tpos : Pos} (a e it : Addr) : Turn P w K (.Tuple elts kk tpos) (IteT K a) [e, it] e (EnAt a e it) where
  mem := List.mem_cons_self
  obj := fun _ _ Y _ m => Y.plain m
  keep := fun _ _ _ Y k => Y.stay k
  item := fun X e1 e2 e3 calm i pins s σ H E I off Y g => by
    subst e1 e2 e3
    exact enum_more calm I off Y g
  done := fun X e1 e2 e3 calm i pins s σ H E I off Y g => by
    subst e1 e2 e3
    exact enum_end calm I off Y g
  self := fun _ _ _ _ _ Y q => by
    obtain ⟨_, en⟩ := Y.en
    exact wpAny_pyIter_enum en q
def iEnumT (K : PySem.W.Frag) (ta : TA) : TI := fun σ H R => ta σ H fun vs H1 => ∃ a xs, vs = [.ref a] ∧ SqT K H1 a xs ∧ R (IteT K a) H1
theorem pi_enumT {X : Cx} {e : Expr} {ta : TA} {p pos tpos : Pos} {elts : List Expr} {kk : Nat} (hg : Gl X "enumerate") (hm : X.mg "enumerate" = none) (ha : PA X [e] ta) (hs : starEach [e] X.env = [(false, eval e X.env)] := by rfl) :
    PI X (.Tuple elts kk tpos) (.Call (.Name "enumerate" p) [e] [] pos) (iEnumT X.K ta) := ⟨fun pins s σ H R I h => by
  have args := ha.run pos pins s σ H _ I h
  refine Call_ (ld_blt I hg hm boot_enumerate (PyProof.Rows.callWith_type1 (thn args fun us s1 ⟨vs, H1, I1, r1, a, xs, ev, tup, q⟩ => ?_) hs rfl))
  subst ev
  obtain ⟨_, rfl, rfl⟩ : ∃ u, us = [u] ∧ u = Value.ref a := by
    cases r1 with
    | cons r rr => cases rr; exact ⟨_, rfl, r⟩
  obtain ⟨its, _, th, _⟩ := I1.tuple tup
  refine enum1_call (begins_tuple a its.toArray) (tup_at th) fun h1 en over kept => wpAny_pyIter_enum en ?_
  have J := I1.kept (t' := s1.toks) kept
  refine ⟨s1.heap.objs.size + 1, [s1.heap.objs.size + 1, s1.heap.objs.size], _, _, H1, rfl, J, turn_enumT a (s1.heap.objs.size + 1) s1.heap.objs.size, ⟨⟨.none, en⟩, ⟨_, over, rfl, rfl⟩, Nat.succ_ne_self _⟩, fun b m => ?_, q⟩
  have new : s1.heap.objs.size ≤ b := (two_mem m).elim (fun z => by rw [z]; exact Nat.le_succ _) fun z => Nat.le_of_eq z.symm
  exact I1.fpOk new (I1.hok.fresh new)⟩
theorem walk_enumT {K : PySem.W.Frag} {a : Addr} {xs : List V} : Walk (IteT K a) xs.length (fun H => SqT K H a xs) (YPair (fun i => some (.int (i : Nat))) (fun i => xs[i]?)) :=
  ⟨fun i _ hi q => ⟨xs, xs[i], q, by simp [hi]⟩, fun _ q => ⟨xs, q, Nat.le_refl _⟩, fun i H v H' _ q ⟨T, x, e1, e2, e3, e4⟩ => ⟨T, .int (i : Nat), x, e1, e2, e3, rfl, e4 xs q⟩⟩
theorem wpI_enumT {G : Gm} {z : Bool} {ta : TA} {ρ : Rho} {F : PySem.W.Frag} {K : Nat → (Nat → Option PD) → Prop}
    (h : wpA G ta ρ fun ss => ∃ ds, ss = [.dat (.tuple ds)] ∧ K ds.length fun i => ds[i]?.map fun d => .tuple [.int (i : Nat), d]) : wpI G z (iEnumT F ta) ρ K := fun X o σ H E R q => h X o σ H E _ fun vs H' ss f s r ⟨ds, e, k⟩ => by
  subst e
  cases r with
  | cons r r' =>
    cases r'
    cases r with
    | dat r =>
      cases r with
      | @tup a xs _ ha n r =>
        have S : Src (IteT F a) ds.length (fun H => H a = some (.tup xs)) (YPair (fun i => some (.int (i : Nat))) fun i => xs[i]?) (fun b => b = a) xs ds fun i => ds[i]?.map fun d => .tuple [.int (i : Nat), d] :=
          src_pair r.length (r.length ▸ walk_enumT.mono (fun H h => .inl (.inl h)) fun _ _ _ _ _ _ y => y) fun H H' k h => k a _ rfl h
        exact ⟨a, xs, rfl, .inl (.inl ha), q _ _ _ _ (fun b => b = a) _ _ _ H' f s S ha (fun b e => by subst e; exact ⟨by rw [ha]; exact (fun z => nomatch z), zs_nav E n⟩) r k⟩
end K42
/-! text DLe -/
set_option Elab.async false
set_option linter.all false
set_option maxRecDepth 100000
set_option maxHeartbeats 2000000
/-! The defs of the row: where they stand, what the top has left, how a def is promised. -/
namespace K42
open PySem PySem.Spec PyProof.Rows L2
def top (i : Nat) : Stmt := PySem.Challenge.pw_saidatonce_k42_whole_two_limits_tell_all.main.body.getD i (.Pass ⟨0, 0, 0, 0⟩)
/-- a name of the module that stands for a plain value -/
def Kv (mg : Str → Option Value) (x : Str) (v : V) : Prop := ∃ u, mg x = some u ∧ RelV v u
structure Tx (mg : Str → Option Value) : Prop where
  b_len : mg "len" = none
  b_tuple : mg "tuple" = none
  b_list : mg "list" = none
  b_range : mg "range" = none
  b_enumerate : mg "enumerate" = none
  b_min : mg "min" = none
  b_max : mg "max" = none
  b_abs : mg "abs" = none
  b_sum : mg "sum" = none
  b_any : mg "any" = none
  b_all : mg "all" = none
  b_sorted : mg "sorted" = none
  b_isinstance : mg "isinstance" = none
  b_int : mg "int" = none
  b_str : mg "str" = none
  b_bool : mg "bool" = none
  b_repr : mg "repr" = none
  LETTERS : Kv mg "LETTERS" (.str "abcdefghijklmnopqrstuvwxyz")
  LONGEST_NAME : Kv mg "LONGEST_NAME" (.int 6)
  MOST_LAYERS : Kv mg "MOST_LAYERS" (.int 100)
  MOST_TIME : Kv mg "MOST_TIME" (.int 1000000000)
  MOST_BATCHES : Kv mg "MOST_BATCHES" (.int 60)
  MOST_IN_BATCH : Kv mg "MOST_IN_BATCH" (.int 100)
  MOST_THINGS : Kv mg "MOST_THINGS" (.int 12)
  MOST_TIES : Kv mg "MOST_TIES" (.int 60)
  MOST_WEIGHT : Kv mg "MOST_WEIGHT" (.int 1000000)
/-- the def of the row's statement st stands behind the top -/
def Dn (K : PySem.W.Frag) (mg : Str → Option Value) (x : Str) (st : Stmt) : Prop := ∃ f fd, FunD K x x (defArgs st) (defBody st) (defScope st) [] [] f fd ∧ mg x = some (.ref f)
/-- the name x may be called, and keeps sp -/
def Cl (P : Program) (w : World) (K : PySem.W.Frag) (mg : Str → Option Value) (base : Heap) (k : Nat) (x : Str) (sp : Sp) : Prop := ∃ f fd ps, FnOk P w K mg base CX0 k f fd ps sp ∧ mg x = some (.ref f) ∧ PySem.W.keepIn K (.ref f) = true ∧ Binds K fd ps []
section
variable {X : Cx} {x : Str} {p pos : Pos} {e : Expr} {es : List Expr} {t : TA} {sp : Sp} {k j : Nat} {v : V}
theorem pe_k (hg : Gl X x) (h : Kv X.mg x v) (hd : (x == ("__debug__" : Str)) = false := by decide) : PE X (.Name x pos) (tC v) := by
  obtain ⟨u, hm, r⟩ := h
  exact pe_glob hg hm r hd
theorem pe_cl (c : Cl X.prog X.w X.K X.mg X.base k x sp) (hr : Room j X.A) (hk : k ≤ j) (hg : Gl X x) (ha : PA X (e :: es) t)
    (hdb : (x == ("__debug__" : Str)) = false := by decide) (he : starEach (e :: es) X.env = (false, eval e X.env) :: starEach es X.env := by rfl) (hpl : (backTo pos (starEach es X.env)).any (·.1) = false := by rfl) :
    PE X (.Call (.Name x p) (e :: es) [] pos) (tCall sp [] E0 t) := by
  obtain ⟨f, fd, ps, F, hm, kp, b⟩ := c
  exact pe_call F (hr.mono hk) hg hm kp b .nil pass0 ha hdb he hpl
theorem pe_cl0 (c : Cl X.prog X.w X.K X.mg X.base k x sp) (hr : Room j X.A) (hk : k ≤ j) (hg : Gl X x) (ha : PA X [] t) (hdb : (x == ("__debug__" : Str)) = false := by decide) :
    PE X (.Call (.Name x p) [] [] pos) (tCall sp [] E0 tNil) := by
  obtain ⟨f, fd, ps, F, hm, kp, b⟩ := c
  exact pe_call0 F (hr.mono hk) hg hm kp b .nil pass0 hdb
end
section
variable {P : Program} {w : World} {K : PySem.W.Frag} {mg : Str → Option Value} {base : Heap} {x : Str} {st : Stmt} {N ps : List Str} {k : Nat}
abbrev bindsOk (x : Str) (st : Stmt) (ps : List Str) : Prop := ∀ (kV doc pm : Value) (an : Option Addr) (cdv ct : Value) (us : List Value), us.length = ps.length → bindArgs (PySem.W.fnOf x x (defArgs st) (defBody st) (defScope st) .none kV doc pm an cdv ct) ⟨us, []⟩ = pure (ps.zip us)
/-- a def by its body, whatever its promise -/
theorem cl_mk {sp : Sp} (D : Dn K mg x st) (S : FnScope N ps (defScope st)) (hb : bindsOk x st ps) (len : ∀ vs H Q E, sp vs H Q E → vs.length = ps.length)
    (hbody : ∀ (f : Addr) (cdv : Value) (A : Around) (outer : List Env) (s : Shared) (H : Hp) (vs : List V) (Q : VK) (E : XK), Room k (A.deeper (envOfC x (defScope st) s.heap.objs.size f cdv)) → sp vs H Q E →
      ∃ t, PSs (cxOf CX0 P w K mg base N x (defScope st) f cdv A outer s H E).nox (defBody st) t ∧ t { nx := fun _ H' => Q .non H', rt := Q } (L2.start N vs) H) : Cl P w K mg base (k + 1) x sp := by
  obtain ⟨f, fd, F, m⟩ := D
  refine ⟨f, fd, ps, F.ok S len fun cdv A outer s H vs Q E hr h => ?_, m, F.kp, F.bindsN hb⟩
  obtain ⟨t, a, b⟩ := hbody f cdv A outer s H vs Q E hr h
  exact ⟨t, a.nox, b⟩
/-- a def that changes nothing -/
theorem cl_pure {Pf : List PD → (PD → Prop) → Prop} (D : Dn K mg x st) (S : FnScope N ps (defScope st)) (hb : bindsOk x st ps) (len : ∀ ds K, Pf ds K → ds.length = ps.length)
    (hbody : ∀ (f : Addr) (cdv : Value) (A : Around) (outer : List Env) (s : Shared) (H : Hp) (E : XK), Room k (A.deeper (envOfC x (defScope st) s.heap.objs.size f cdv)) →
      ∃ t, PSs (cxOf CX0 P w K mg base N x (defScope st) f cdv A outer s H E).nox (defBody st) t ∧ ∀ ds K, Pf ds K → wpS Gm.pure t (rho N.length (ds.map .dat)) (DEp K)) : Cl P w K mg base (k + 1) x (SpP Pf) := by
  refine cl_mk D S hb (fun vs H Q E h => ?_) fun f cdv A outer s H vs Q E hr h => ?_
  · obtain ⟨A, ds, K, _, r, p, _⟩ := h
    rw [r.length]
    exact len ds K p
  · obtain ⟨t, a, b⟩ := hbody f cdv A outer s H E hr
    obtain ⟨A', ds, K', xd, r, p, q⟩ := h
    refine ⟨t, a, run_pure xd r ?_ q (b ds K' p)⟩
    rw [len ds K' p]
    have := congrArg List.length S.pre
    rw [List.length_take] at this
    omega
end
/-! ### parallel stores -/
section
variable {G : Gm} {Z X : Addr → Prop} {o : Nat → Addr} {σ : L2.St} {H H' : Hp} {ρ : Rho} {E : DE} {ta tb tc : TE} {i j l : Nat}
/-- a value that is stored: data, a new list -/
def wpX (G : Gm) (te : TE) (ρ : Rho) (K : Sl → Prop) : Prop := ∀ X o σ H, EnvOk G X o σ H ρ → ∀ Q : VK,
  (∀ v H' d, Fr G.N H H' → G.S H' → Rp (Av X o ρ) H' v d → K (.dat d) → Q v H') →
  (∀ p vs H' ds, H p = none → Fr G.N H H' → G.S H' → H' p = some (.lst vs) → RpL (fun b => Av X o ρ b ∨ b = p) H' vs ds → K (.own ds) → Q (.ref p) H') → te σ H Q
theorem wpE.x {K : Sl → Prop} (h : wpE G ta ρ fun d => K (.dat d)) : wpX G ta ρ K := fun X o σ H V Q q1 q2 => h X o σ H V Q q1
theorem wpN.x {K : Sl → Prop} (h : wpN G ta ρ fun d => K (.own d)) : wpX G ta ρ K := fun X o σ H V Q q1 q2 => h X o σ H V Q q2
/-- the list that a pending value holds alone -/
def pin : Sl → L2.V → Addr → Prop
  | .own _, .ref p, b => b = p
  | _, _, _ => False
/-- a value that waits to be stored -/
def Pnd (N Y : Addr → Prop) (o : Nat → Addr) (ρ : Rho) (H : Hp) (s : Sl) (v : L2.V) : Prop := (∃ d, s = .dat d ∧ Rp (Av Y o ρ) H v d) ∨ ∃ p vs ds, s = .own ds ∧ v = .ref p ∧ Y p ∧ ¬ N p ∧ H p = some (.lst vs) ∧ RpL (Av Y o ρ) H vs ds
theorem EnvOk.sub_ (V : EnvOk G Z o σ H ρ) (n : ∀ b, G.N b → X b) (s : ∀ b, X b → Z b) : EnvOk G X o σ H ρ where
  s := V.s
  sub := n
  xdom := fun b h => V.xdom b (s b h)
  len := V.len
  inj := V.inj
  out := fun i ds h z => V.out i ds h (s _ z)
  dat := fun i d h => by
    obtain ⟨v, a, r⟩ := V.dat i d h
    exact ⟨v, a, r.sub fun b z => Or.imp_left (s b) z⟩
  own := fun i ds h => by
    obtain ⟨a, vs, e, r⟩ := V.own i ds h
    exact ⟨a, vs, e, r.sub fun b z => Or.imp_left (s b) z⟩
  spc := V.spc
theorem EnvOk.put1 (V : EnvOk G Z o σ H ρ) {s : Sl} {v : L2.V} (hi : i < ρ.length) (p : Pnd G.N Z o ρ H s v) (n : ∀ b, G.N b → X b) (xz : ∀ b, X b → Z b) (zx : ∀ b, Z b → X b ∨ pin s v b) (np : ∀ b, pin s v b → ¬ X b) :
    ∃ o', EnvOk G X o' (σ.set i (some v)) H (ρ.set i s) ∧ (∀ b, Av X o' (ρ.set i s) b → Av Z o ρ b) ∧ ∀ b, Own (ρ.set i s) o' b → Own ρ o b ∨ pin s v b := by
  rcases p with ⟨d, rfl, r⟩ | ⟨p, vs, ds, rfl, rfl, zp, _, e, r⟩
  · exact ⟨o, (V.sub_ n xz).setD (r.sub fun b z => Or.imp_left (xz b) z), fun b z => z.elim (fun z => .inl (xz b z)) fun z => .inr (own_set z), fun b z => .inl (own_set z)⟩
  · have at_ : ∀ (k : Nat) q, (ρ.set i (.own ds))[k]? = some q → (k = i ∧ q = .own ds) ∨ (k ≠ i ∧ ρ[k]? = some q) := fun k q h => by
      by_cases z : i = k
      · subst z
        rw [List.getElem?_set_self hi] at h; cases h; exact .inl ⟨rfl, rfl⟩
      · rw [List.getElem?_set_ne z] at h; exact .inr ⟨fun w => z w.symm, h⟩
    have op : ∀ k es, ρ[k]? = some (Sl.own es) → o k ≠ p := fun k es h z => V.out k es h (by rw [z]; exact zp)
    have ow : ∀ b, Own (ρ.set i (.own ds)) (fun k => if k = i then p else o k) b → Own ρ o b ∨ b = p := fun b ⟨k, es, h, q⟩ => by
      have q : b = if k = i then p else o k := q
      by_cases z : k = i
      · rw [if_pos z] at q; exact .inr q
      · rw [if_neg z] at q
        rcases at_ k _ h with ⟨w, _⟩ | ⟨_, h⟩
        · exact absurd w z
        · exact .inl ⟨k, es, h, q⟩
    have av : ∀ b, Av X (fun k => if k = i then p else o k) (ρ.set i (.own ds)) b → Av Z o ρ b := fun b z => by
      rcases z with z | z
      · exact .inl (xz b z)
      · rcases ow b z with z | z
        · exact .inr z
        · exact .inl (by rw [z]; exact zp)
    refine ⟨fun k => if k = i then p else o k, { s := V.s, sub := n, xdom := fun b h => V.xdom b (xz b h), len := by rw [List.length_set, List.length_set, V.len], inj := ?_, out := ?_, dat := ?_, own := ?_, spc := ?_ }, av, ow⟩
    · intro k m es fs h1 h2 q
      by_cases zi : k = i <;> by_cases zk : m = i
      · rw [zi, zk]
      · rw [if_pos zi, if_neg zk] at q
        rcases at_ m _ h2 with ⟨w, _⟩ | ⟨_, h2⟩
        · exact absurd w zk
        · exact absurd q.symm (op m _ h2)
      · rw [if_neg zi, if_pos zk] at q
        rcases at_ k _ h1 with ⟨w, _⟩ | ⟨_, h1⟩
        · exact absurd w zi
        · exact absurd q (op k _ h1)
      · rw [if_neg zi, if_neg zk] at q
        rcases at_ k _ h1 with ⟨w, _⟩ | ⟨_, h1⟩
        · exact absurd w zi
        · rcases at_ m _ h2 with ⟨w, _⟩ | ⟨_, h2⟩
          · exact absurd w zk
          · exact V.inj k m _ _ h1 h2 q
    · intro k es h
      by_cases zi : k = i
      · show ¬ X (if k = i then p else o k)
        rw [if_pos zi]; exact np p rfl
      · show ¬ X (if k = i then p else o k)
        rw [if_neg zi]
        rcases at_ k _ h with ⟨w, _⟩ | ⟨_, h⟩
        · exact absurd w zi
        · exact fun z => V.out k es h (xz _ z)
    · intro k d h
      rcases at_ k _ h with ⟨_, w⟩ | ⟨z, h⟩
      · cases w
      · obtain ⟨v, a, rv⟩ := V.dat k d h
        exact ⟨v, by rw [List.getElem?_set_ne (fun w => z w.symm)]; exact a, rv.sub av⟩
    · intro k es h
      rcases at_ k _ h with ⟨z, w⟩ | ⟨z, h⟩
      · cases w; subst z
        exact ⟨by rw [List.getElem?_set_self (by rw [V.len]; exact hi)]; show _ = some (some (L2.V.ref (if k = k then p else o k))); rw [if_pos rfl], vs, by show H (if k = k then p else o k) = _; rw [if_pos rfl]; exact e, r.sub av⟩
      · obtain ⟨a, ws, q, rv⟩ := V.own k es h
        exact ⟨by rw [List.getElem?_set_ne (fun w => z w.symm)]; show _ = some (some (L2.V.ref (if k = i then p else o k))); rw [if_neg z]; exact a, ws, by show H (if k = i then p else o k) = _; rw [if_neg z]; exact q, rv.sub av⟩
    · intro k w h
      rcases at_ k _ h with ⟨_, z⟩ | ⟨z, h⟩
      · cases z
      · rw [List.getElem?_set_ne (fun w => z w.symm)]; exact V.spc k w h
/-- a stored value is reckoned, the pending ones kept -/
theorem wpX.pend {K : Sl → Prop} (h : wpX G ta ρ K) (V : EnvOk G X o σ H ρ) {Q : VK} (q : ∀ v H' s, Fr G.N H H' → G.S H' → (∀ b, pin s v b → H b = none) → EnvOk G (fun b => X b ∨ pin s v b) o σ H' ρ → Pnd G.N (fun b => X b ∨ pin s v b) o ρ H' s v →
    (∀ s' v', Pnd G.N X o ρ H s' v' → Pnd G.N (fun b => X b ∨ pin s v b) o ρ H' s' v') → K s → Q v H') : ta σ H Q := h X o σ H V Q
  (fun v H' d f s r k => by
    have e : (fun b => X b ∨ pin (.dat d) v b) = X := funext fun b => propext ⟨fun z => z.elim id fun z => by cases v <;> exact z.elim, .inl⟩
    refine q v H' (.dat d) f s (fun b z => by cases v <;> exact z.elim) (by rw [e]; exact V.step f s) (by rw [e]; exact .inl ⟨d, rfl, r⟩) (fun s' v' p => ?_) k
    rw [e]
    rcases p with ⟨d, e, r⟩ | ⟨p, vs, ds, e1, e2, zp, np, e, r⟩
    · exact .inl ⟨d, e, r.fr V.nav f⟩
    · exact .inr ⟨p, vs, ds, e1, e2, zp, np, f _ _ e np, r.fr V.nav f⟩)
  fun p vs H' ds hp f s e r k => by
    have V1 := V.step f s
    have hp' : H' p ≠ none := by rw [e]; exact fun z => nomatch z
    have oo : ∀ k es, ρ[k]? = some (Sl.own es) → o k ≠ p := fun k es h z => by
      obtain ⟨_, ws, q, _⟩ := V.own k es h
      rw [z, hp] at q; cases q
    have av : ∀ b u, H b = some u → ¬ Av X o ρ b → H' b = some u ∧ ¬ Av (fun b => X b ∨ pin (.own ds) (.ref p) b) o ρ b := fun b u h n => ⟨f b u h fun z => n (V.nav b z), fun z => by
      rcases z with (z | z) | z
      · exact n (.inl z)
      · rw [show b = p from z, hp] at h; cases h
      · exact n (.inr z)⟩
    refine q (.ref p) H' (.own ds) f s (fun b z => by rw [show b = p from z]; exact hp) { s := s, sub := fun b z => .inl (V.sub b z), xdom := fun b z => z.elim (V1.xdom b) fun z => by rw [show b = p from z]; exact hp', len := V.len, inj := V.inj, out := fun k es h z => z.elim (V.out k es h) (oo k es h), dat := fun k d h => ?_, own := fun k es h => ?_, spc := V.spc }
      (.inr ⟨p, vs, ds, rfl, rfl, .inr rfl, fun z => V.xdom p (V.sub p z) hp, e, r.sub fun b z => ?_⟩) (fun s' v' q => ?_) k
    · obtain ⟨w, q, rv⟩ := V.dat k d h
      exact ⟨w, q, rv.to av⟩
    · obtain ⟨q, ws, e1, rv⟩ := V.own k es h
      exact ⟨q, ws, f _ _ e1 (V.nown h), rv.to av⟩
    · rcases z with (z | z) | z
      · exact .inl (.inl z)
      · exact .inr z
      · exact .inl (.inr z)
    · rcases q with ⟨d, e, r⟩ | ⟨p, vs, ds, e1, e2, zp, np, e, r⟩
      · exact .inl ⟨d, e, r.to av⟩
      · exact .inr ⟨p, vs, ds, e1, e2, .inl zp, np, f _ _ e np, r.to av⟩
theorem Pnd.sub_ {N Y Y' : Addr → Prop} {o' : Nat → Addr} {ρ' : Rho} {s : Sl} {v : L2.V} (p : Pnd N Y o ρ H s v) (a : ∀ b, Av Y' o' ρ' b → Av Y o ρ b) (y : ∀ b, pin s v b → Y' b) : Pnd N Y' o' ρ' H s v := by
  rcases p with ⟨d, e, r⟩ | ⟨p, vs, ds, e1, e2, zp, np, e, r⟩
  · exact .inl ⟨d, e, r.sub a⟩
  · exact .inr ⟨p, vs, ds, e1, e2, y p (by rw [e1, e2]; rfl), np, e, r.sub a⟩
theorem wpS_par (hi : i < ρ.length) (hj : j < ρ.length) (h : wpX G ta ρ fun s1 => wpX G tb ρ fun s2 => E.nx ((ρ.set i s1).set j s2)) : wpS G (tPar i j (tCons ta (tCons tb tNil))) ρ E := fun X o σ H V D qn _ _ _ => by
  refine h.pend V fun v H1 s1 f1 S1 n1 V1 P1 _ k1 => ?_
  refine k1.pend V1 fun w H2 s2 f2 S2 n2 V2 P2 keep k2 => ?_
  refine ⟨v, w, rfl, ?_⟩
  have d1 := dm_of f1 S1
  have n2' : ∀ b, pin s2 w b → H b = none := fun b z => by
    cases e : H b with
    | none => rfl
    | some u => exact absurd (n2 b z) (d1 b (by rw [e]; exact fun z => nomatch z))
  obtain ⟨o1, Va, a1, ow1⟩ := V2.put1 (X := fun b => X b ∨ pin s2 w b) hi (keep s1 v P1) (fun b z => .inl (V.sub b z)) (fun b z => z.imp .inl id) (fun b z => by
      rcases z with (z | z) | z
      · exact .inl (.inl z)
      · exact .inr z
      · exact .inl (.inr z)) fun b z q => by
      rcases q with q | q
      · exact V.xdom b q (n1 b z)
      · exact V1.xdom b (.inr z) (n2 b q)
  obtain ⟨o2, Vb, a2, ow2⟩ := Va.put1 (X := X) (by rw [List.length_set]; exact hj) (P2.sub_ a1 fun b z => .inr z) V.sub (fun b z => .inl z) (fun b z => z) fun b z q => V.xdom b q (n2' b z)
  refine qn o2 _ H2 _ ⟨fun b u e z => (f1.trans f2) b u e fun q => z (.inl q), fun b z => ?_, fun b z => dm_of f2 S2 b (d1 b z)⟩ Vb k2
  rcases ow2 b z with z | z
  · rcases ow1 b z with z | z
    · exact .inl z
    · exact .inr (n1 b z)
  · exact .inr (n2' b z)
theorem wpS_par3 (hi : i < ρ.length) (hj : j < ρ.length) (hl : l < ρ.length) (h : wpX G ta ρ fun s1 => wpX G tb ρ fun s2 => wpX G tc ρ fun s3 => E.nx (((ρ.set i s1).set j s2).set l s3)) : wpS G (tPar3 i j l (tCons ta (tCons tb (tCons tc tNil)))) ρ E := fun X o σ H V D qn _ _ _ => by
  refine h.pend V fun v H1 s1 f1 S1 n1 V1 P1 _ k1 => ?_
  refine k1.pend V1 fun w H2 s2 f2 S2 n2 V2 P2 keep2 k2 => ?_
  refine k2.pend V2 fun y H3 s3 f3 S3 n3 V3 P3 keep3 k3 => ?_
  refine ⟨v, w, y, rfl, ?_⟩
  have d1 := dm_of f1 S1
  have d2 := dm_of f2 S2
  have back : ∀ {A B : Hp} {b : Addr}, (∀ b, A b ≠ none → B b ≠ none) → B b = none → A b = none := fun {A B b} d e => by
    cases q : A b with
    | none => rfl
    | some u => exact absurd e (d b (by rw [q]; exact fun z => nomatch z))
  have n2' : ∀ b, pin s2 w b → H b = none := fun b z => back d1 (n2 b z)
  have n3' : ∀ b, pin s3 y b → H1 b = none := fun b z => back d2 (n3 b z)
  have n3'' : ∀ b, pin s3 y b → H b = none := fun b z => back d1 (n3' b z)
  obtain ⟨o1, Va, a1, ow1⟩ := V3.put1 (X := fun b => (X b ∨ pin s2 w b) ∨ pin s3 y b) hi (keep3 s1 v (keep2 s1 v P1)) (fun b z => .inl (.inl (V.sub b z))) (fun b z => by
      rcases z with (z | z) | z
      · exact .inl (.inl (.inl z))
      · exact .inl (.inr z)
      · exact .inr z) (fun b z => by
      rcases z with ((z | z) | z) | z
      · exact .inl (.inl (.inl z))
      · exact .inr z
      · exact .inl (.inl (.inr z))
      · exact .inl (.inr z)) fun b z q => by
      rcases q with (q | q) | q
      · exact V.xdom b q (n1 b z)
      · exact V1.xdom b (.inr z) (n2 b q)
      · exact V1.xdom b (.inr z) (n3' b q)
  obtain ⟨o2, Vb, a2, ow2⟩ := Va.put1 (X := fun b => X b ∨ pin s3 y b) (by rw [List.length_set]; exact hj) ((keep3 s2 w P2).sub_ a1 fun b z => .inl (.inr z)) (fun b z => .inl (V.sub b z)) (fun b z => z.imp .inl id) (fun b z => by
      rcases z with (z | z) | z
      · exact .inl (.inl z)
      · exact .inr z
      · exact .inl (.inr z)) fun b z q => by
      rcases q with q | q
      · exact V.xdom b q (n2' b z)
      · exact V2.xdom b (.inr z) (n3 b q)
  obtain ⟨o3, Vc, a3, ow3⟩ := Vb.put1 (X := X) (by rw [List.length_set, List.length_set]; exact hl) ((P3.sub_ a1 fun b z => .inr z).sub_ a2 fun b z => .inr z) V.sub (fun b z => .inl z) (fun b z => z) fun b z q => V.xdom b q (n3'' b z)
  refine qn o3 _ H3 _ ⟨fun b u e z => ((f1.trans f2).trans f3) b u e fun q => z (.inl q), fun b z => ?_, fun b z => dm_of f3 S3 b (d2 b (d1 b z))⟩ Vc k3
  rcases ow3 b z with z | z
  · rcases ow2 b z with z | z
    · rcases ow1 b z with z | z
      · exact .inl z
      · exact .inr (n1 b z)
    · exact .inr (n2' b z)
  · exact .inr (n3'' b z)
end
end K42
/-! text DLf -/
set_option Elab.async false
set_option linter.all false
set_option maxRecDepth 100000
set_option maxHeartbeats 2000000
/-! Comprehensions that reckon a function; how data stand for numbers, times, ties. -/
namespace K42
open PySem PySem.Spec PyProof.Rows L2
theorem filter_take_succ {α β : Type} {xs : List α} {i : Nat} {x : α} (h : xs[i]? = some x) (q : α → Bool) (g : α → β) :
    ((xs.take (i + 1)).filter q).map g = ((xs.take i).filter q).map g ++ if q x then [g x] else [] := by
  have e : xs.take (i + 1) = xs.take i ++ [x] := by
    rw [List.take_add_one, h]; rfl
  rw [e, List.filter_append, List.map_append]
  congr 1
  by_cases c : q x <;> simp [c]
section
variable {G : Gm} {ρ : Rho} {te : TE} {tt : TT} {wi : TI} {g : TG} {vs js : List Nat} {K : List PD → Prop} {fd : PD → Option (List PD)}
/-- over numbers, pairs .. by their place -/
theorem wpN_lcF (hg : TgD g js fd) (hj : ∀ j ∈ js, j ∈ vs) (hw : noOwn ρ vs = true)
    (h : wpI G false wi ρ fun n item => n ≤ 1000000 ∧ ∃ (p : Nat → Bool) (f : Nat → PD), (∀ i d, i < n → item i = some d → ∃ ds, fd d = some ds ∧ wpT G tt (putDs (wipeR ρ vs) js ds) fun b => b = p i ∧ (b = true → wpE G te (putDs (wipeR ρ vs) js ds) fun e => e = f i)) ∧ K (((List.range n).filter p).map f)) :
    wpN G (tLc wi g tt te vs) ρ K := wpN_lc hg hj hw fun X o σ H V R q => h X o σ H V R fun J n Gp Y F ws es item H1 f1 s1 S g1 hF r1 ⟨hn, p, f, turn, k⟩ => q J n Gp Y F ws es item H1 f1 s1 S g1 hF r1 ⟨hn, fun i acc => acc = ((List.range i).filter p).map f, by simp, fun i acc d hi e ea => by
    obtain ⟨ds, q1, q2⟩ := turn i d hi e
    refine ⟨ds, q1, q2.imp fun b ⟨eb, k2⟩ => ?_⟩
    have er : ((List.range (i + 1)).filter p).map f = ((List.range i).filter p).map f ++ if p i then [f i] else [] := by
      rw [List.range_succ, List.filter_append, List.map_append]
      congr 1
      by_cases c : p i <;> simp [c]
    cases b with
    | true =>
      rw [if_pos rfl]
      refine (k2 rfl).imp fun e ee => ?_
      show acc ++ [e] = ((List.range (i + 1)).filter p).map f
      rw [er, ← eb, if_pos rfl, ea, ee]
    | false =>
      rw [if_neg Bool.false_ne_true]
      show acc = ((List.range (i + 1)).filter p).map f
      rw [er, ← eb, if_neg Bool.false_ne_true, ea, List.append_nil], fun acc e => e ▸ k⟩
/-- over a list that stands for xs -/
theorem wpN_lcS (hg : TgD g js fd) (hj : ∀ j ∈ js, j ∈ vs) (hw : noOwn ρ vs = true)
    (h : wpI G false wi ρ fun n item => n ≤ 1000000 ∧ ∃ (α : Type) (xs : List α) (enc : α → PD) (p : α → Bool) (f : α → PD), (n = xs.length ∧ ∀ i, item i = xs[i]?.map enc) ∧ (∀ (i : Nat) (x : α), xs[i]? = some x → ∃ ds, fd (enc x) = some ds ∧ wpT G tt (putDs (wipeR ρ vs) js ds) fun b => b = p x ∧ (b = true → wpE G te (putDs (wipeR ρ vs) js ds) fun e => e = f x)) ∧ K ((xs.filter p).map f)) :
    wpN G (tLc wi g tt te vs) ρ K := wpN_lc hg hj hw fun X o σ H V R q => h X o σ H V R fun J n Gp Y F ws es item H1 f1 s1 S g1 hF r1 ⟨hn, α, xs, enc, p, f, ⟨en, ei⟩, turn, k⟩ => q J n Gp Y F ws es item H1 f1 s1 S g1 hF r1 ⟨hn, fun i acc => acc = ((xs.take i).filter p).map f, by simp, fun i acc d hi e ea => by
    rw [ei] at e
    cases hx : xs[i]? with
    | none => rw [hx] at e; cases e
    | some x =>
      rw [hx] at e
      cases e
      obtain ⟨ds, q1, q2⟩ := turn i x hx
      refine ⟨ds, q1, q2.imp fun b ⟨eb, k2⟩ => ?_⟩
      cases b with
      | true =>
        rw [if_pos rfl]
        refine (k2 rfl).imp fun e ee => ?_
        show acc ++ [e] = ((xs.take (i + 1)).filter p).map f
        rw [filter_take_succ hx, ← eb, if_pos rfl, ea, ee]
      | false =>
        rw [if_neg Bool.false_ne_true]
        show acc = ((xs.take (i + 1)).filter p).map f
        rw [filter_take_succ hx, ← eb, if_neg Bool.false_ne_true, ea, List.append_nil], fun acc e => by
      have e : acc = ((xs.take n).filter p).map f := e
      rw [en, List.take_length] at e
      exact e ▸ k⟩
end
/-! ### encodings -/
def eo : Option Int → PD
  | none => .none
  | some i => .int i
abbrev en (n : Nat) : PD := .int (n : Nat)
abbrev TieT := Nat × Nat × Int
def et (t : TieT) : PD := .tuple [en t.1, en t.2.1, .int t.2.2]
abbrev Tms := List (Option Int)
abbrev encT (ts : Tms) : PD := .tuple (ts.map eo)
theorem isNon_eo (x : Option Int) : isNon (eo x) = x.isNone := by cases x <;> rfl
theorem atI_map {α β : Type} {f : α → β} {xs : List α} {n : Nat} {x : α} (h : xs[n]? = some x) : atI (xs.map f) (n : Int) = some (f x) := atI_nat (by rw [List.getElem?_map, h]; rfl)
theorem enum_get {α : Type} {enc : α → PD} {xs : List α} {i : Nat} {d : PD} (e : ((xs.map enc)[i]?.map fun d => PyData.tuple [.int (i : Nat), d]) = some d) : ∃ x, xs[i]? = some x ∧ d = .tuple [.int (i : Nat), enc x] := by
  rw [List.getElem?_map] at e
  cases h : xs[i]? with
  | none => rw [h] at e; cases e
  | some x => rw [h] at e; cases e; exact ⟨x, rfl, rfl⟩
theorem map_get {α : Type} {enc : α → PD} {xs : List α} {i : Nat} {d : PD} (e : (xs.map enc)[i]? = some d) : ∃ x, xs[i]? = some x ∧ d = enc x := by
  rw [List.getElem?_map] at e
  cases h : xs[i]? with
  | none => rw [h] at e; cases e
  | some x => rw [h] at e; cases e; exact ⟨x, rfl, rfl⟩
theorem getD_of {α : Type} {xs : List α} {i : Nat} {x d : α} (h : xs[i]? = some x) : xs.getD i d = x := by rw [List.getD_eq_getElem?_getD, h]; rfl
theorem tt_yes {G : Gm} {ρ : Rho} {K : Bool → Prop} (h : K true) : wpT G tYes ρ K := wpT_yes h
section
variable {X : Cx} {F : PySem.W.Frag}
theorem opEq (hu : X.A.units + 64 < cLine) (hK : X.K = F := by rfl) : OpR X (compareOp .Eq) (rEqD F) := hK ▸ op_eqD hu
theorem opNe (hu : X.A.units + 64 < cLine) (hK : X.K = F := by rfl) : OpR X (compareOp .NotEq) (rNeD F) := hK ▸ op_neD hu
theorem ixSq (hK : X.K = F := by rfl) : IxR X (rIx F) := hK ▸ ix_seq
theorem lenSq (hK : X.K = F := by rfl) : CallR X (.builtin "len") (fun xs H Q => ∃ p ys, xs = [.ref p] ∧ (SqL F H p ys ∨ SqT F H p ys) ∧ Q (.int ys.length) H) := hK ▸ call_len_seq
variable {G : Gm} {ρ : Rho} {te : TE} {K : Nat → (Nat → Option PD) → Prop} {z : Bool}
theorem src_str {x : Str} : Src (Its x) x.cps.size (fun _ => True) (fun i H v H' => H' = H ∧ ∃ c, x.cps[i]? = some c ∧ v = .str ⟨#[c]⟩) (fun _ => False) [] [] fun i => x.cps[i]?.map fun c => .str ⟨#[c]⟩ where
  walk := walk_str
  keep := fun _ _ _ _ => trivial
  itm := fun i H v H' A hi y _ _ => by
    obtain ⟨rfl, c, e, rfl⟩ := y
    exact ⟨_, by rw [e]; rfl, Ex.rfl', .str _⟩
theorem opD_inS : OpD (fun x y H Q => ∃ (c : Nat) (z : Str), x = .str ⟨#[c]⟩ ∧ y = .str z ∧ Q (.bl (decide (c ∈ z.cps.toList))) H) fun dx dy K => ∃ (c : Nat) (z : Str), dx = .str ⟨#[c]⟩ ∧ dy = .str z ∧ K (.bool (decide (c ∈ z.cps.toList))) := fun A H x y dx dy K Q dm rx ry ⟨c, z, e1, e2, k⟩ q => by
  subst e1 e2; cases rx; cases ry
  exact ⟨c, z, rfl, rfl, q _ H _ Ex.rfl' (.bl _) k⟩
theorem wpI_str (h : wpE G te ρ fun d => ∃ x : Str, d = .str x ∧ K x.cps.size fun i => x.cps[i]?.map fun c => .str ⟨#[c]⟩) : wpI G z (iStr te) ρ K := fun X o σ H E R q => h X o σ H E _ fun v H' d f s r ⟨x, e, k⟩ => by
  subst e
  cases r
  exact ⟨x, rfl, q _ _ _ _ _ _ _ _ H' f s src_str trivial (fun b z => z.elim) .nil k⟩
end
end K42
/-! text P1 -/
set_option Elab.async false
set_option linter.all false
set_option maxRecDepth 100000
set_option maxHeartbeats 4000000
namespace K42
open PySem PySem.Spec PyProof.Rows L2

/-! The program's defs over data, 1: words, layers, reach, times. -/
section
variable {P : Program} {w : World} {K : PySem.W.Frag} {mg : Str → Option Value} {base : Heap}
/-! ### times: what has come, what has not -/
theorem lt_ {j n : Nat} (h : Nat.ble (j + 1) n = true) : j < n := Nat.le_of_ble_eq_true h
theorem filter_yes {α : Type} (xs : List α) : xs.filter (fun _ => true) = xs := List.filter_eq_self.mpr fun _ _ => rfl
def comeL (ts : Tms) : List Nat := (List.range ts.length).filter fun i => (ts.getD i none).isSome
def missL (ts : Tms) : List Nat := (List.range ts.length).filter fun i => (ts.getD i none).isNone
def p_come (ds : List PD) (K : PD → Prop) : Prop := ∃ ts : Tms, ds = [encT ts] ∧ ts.length ≤ 1000 ∧ K (.tuple ((comeL ts).map en))
def p_missing (ds : List PD) (K : PD → Prop) : Prop := ∃ ts : Tms, ds = [encT ts] ∧ ts.length ≤ 1000 ∧ K (.tuple ((missL ts).map en))
abbrev s_come : Stmt := top 32
abbrev N_come : List Str := ["times", "thing", "time"]
theorem sc_come : FnScope N_come ["times"] (defScope s_come) := ⟨rfl, rfl, rfl, by decide +kernel, rfl, by decide +kernel, by decide +kernel⟩

theorem ok_come (T : Tx mg) (D : Dn K mg "come" s_come) : Cl P w K mg base 1 "come" (SpP (p_come)) := by
  have sc := sc_come
  refine cl_pure D sc (fun _ _ _ _ _ _ us hl => match us, hl with | [_], _ => rfl) (fun ds K h => by obtain ⟨ts, rfl, _⟩ := h; rfl) fun f cdv A outer s H E hr => ?_
  have hu := hr.units
  refine ⟨_, (pss_one (ps_ret (pe_callTy call_tuple_of (by rfl) T.b_tuple (by decide +kernel) (pa_cons (pe_lc (own := [("thing", 1), ("time", 2)]) (g := gTup K 2 (gCons (gName 1) (gCons (gName 2) gNil))) (by rfl) sc.nd (pi_enumT (by rfl) T.b_enumerate (pa_cons (pv 0) pa_nil)) (blkOk_by (own := [("thing", 1), ("time", 2)]) (N := N_come) (sc := (defScope s_come)) (by decide +kernel)) (fun _ _ _ _ _ => (pg_tup rfl (pgs_cons (pg_name (i := 1) sc.nd rfl (by first | exact Or.inl rfl | exact Or.inr rfl)) (pgs_cons (pg_name (i := 2) sc.nd rfl (by first | exact Or.inl rfl | exact Or.inr rfl)) pgs_nil)))) (fun _ _ _ _ _ => (pts_one (pt_cmpR op_notN (pv 2) pe_non (nomark _)))) (fun _ _ _ _ _ => (pv 1))) pa_nil)))), ?_⟩
  rintro ds K' ⟨ts, rfl, hl, k⟩
  show wpS Gm.pure _ [.dat (encT ts), .no, .no] _
  refine wpS_ret (wpE_tuple (wpN.Q (wpN_lcF (tg_tup (js := [1, 2]) rfl rfl) (by decide) rfl (wpI_enumT (wpA_cons (wpE_var rfl (wpA_nil ⟨_, rfl, ?_⟩)))))))
  refine ⟨by rw [List.length_map]; omega, fun i => (ts.getD i none).isSome, en, fun i d hi e => ?_, by rw [List.length_map]; exact k⟩
  obtain ⟨x, hx, rfl⟩ := enum_get e
  refine ⟨_, rfl, wpT_test (wpE_op opD_isnt (wpE_var rfl (wpE_non ⟨rfl, _, rfl, ?_, fun _ => wpE_var rfl rfl⟩)))⟩
  show (!isNon (eo x)) = (ts.getD i none).isSome
  rw [isNon_eo, getD_of hx]
  cases x <;> rfl
abbrev s_missing : Stmt := top 33
abbrev N_missing : List Str := ["times", "thing", "time"]
theorem sc_missing : FnScope N_missing ["times"] (defScope s_missing) := ⟨rfl, rfl, rfl, by decide +kernel, rfl, by decide +kernel, by decide +kernel⟩

theorem ok_missing (T : Tx mg) (D : Dn K mg "missing" s_missing) : Cl P w K mg base 1 "missing" (SpP (p_missing)) := by
  have sc := sc_missing
  refine cl_pure D sc (fun _ _ _ _ _ _ us hl => match us, hl with | [_], _ => rfl) (fun ds K h => by obtain ⟨ts, rfl, _⟩ := h; rfl) fun f cdv A outer s H E hr => ?_
  have hu := hr.units
  refine ⟨_, (pss_one (ps_ret (pe_callTy call_tuple_of (by rfl) T.b_tuple (by decide +kernel) (pa_cons (pe_lc (own := [("thing", 1), ("time", 2)]) (g := gTup K 2 (gCons (gName 1) (gCons (gName 2) gNil))) (by rfl) sc.nd (pi_enumT (by rfl) T.b_enumerate (pa_cons (pv 0) pa_nil)) (blkOk_by (own := [("thing", 1), ("time", 2)]) (N := N_missing) (sc := (defScope s_missing)) (by decide +kernel)) (fun _ _ _ _ _ => (pg_tup rfl (pgs_cons (pg_name (i := 1) sc.nd rfl (by first | exact Or.inl rfl | exact Or.inr rfl)) (pgs_cons (pg_name (i := 2) sc.nd rfl (by first | exact Or.inl rfl | exact Or.inr rfl)) pgs_nil)))) (fun _ _ _ _ _ => (pts_one (pt_cmpR op_isN (pv 2) pe_non (nomark _)))) (fun _ _ _ _ _ => (pv 1))) pa_nil)))), ?_⟩
  rintro ds K' ⟨ts, rfl, hl, k⟩
  show wpS Gm.pure _ [.dat (encT ts), .no, .no] _
  refine wpS_ret (wpE_tuple (wpN.Q (wpN_lcF (tg_tup (js := [1, 2]) rfl rfl) (by decide) rfl (wpI_enumT (wpA_cons (wpE_var rfl (wpA_nil ⟨_, rfl, ?_⟩)))))))
  refine ⟨by rw [List.length_map]; omega, fun i => (ts.getD i none).isNone, en, fun i d hi e => ?_, by rw [List.length_map]; exact k⟩
  obtain ⟨x, hx, rfl⟩ := enum_get e
  refine ⟨_, rfl, wpT_test (wpE_op opD_is (wpE_var rfl (wpE_non ⟨rfl, _, rfl, ?_, fun _ => wpE_var rfl rfl⟩)))⟩
  show isNon (eo x) = (ts.getD i none).isNone
  rw [isNon_eo, getD_of hx]
/-! ### words -/
def isIntD : PD → Bool
  | .int _ => true
  | _ => false
def isBlD : PD → Bool
  | .bool _ => true
  | _ => false
def isNumD : PD → Bool
  | .int i => decide (0 ≤ i)
  | _ => false
def noTab : PD → Prop := fun d => ∀ k, d ≠ .dict k
theorem kb_NoneType_int : kitB "NoneType" "int" = some false := by decide +kernel
theorem kb_bool_int : kitB "bool" "int" = some true := by decide +kernel
theorem kb_int_int : kitB "int" "int" = some true := by decide +kernel
theorem kb_str_int : kitB "str" "int" = some false := by decide +kernel
theorem kb_list_int : kitB "list" "int" = some false := by decide +kernel
theorem kb_tuple_int : kitB "tuple" "int" = some false := by decide +kernel
theorem kb_NoneType_bool : kitB "NoneType" "bool" = some false := by decide +kernel
theorem kb_bool_bool : kitB "bool" "bool" = some true := by decide +kernel
theorem kb_int_bool : kitB "int" "bool" = some false := by decide +kernel
theorem kb_str_bool : kitB "str" "bool" = some false := by decide +kernel
theorem kb_list_bool : kitB "list" "bool" = some false := by decide +kernel
theorem kb_tuple_bool : kitB "tuple" "bool" = some false := by decide +kernel
theorem kb_NoneType_tuple : kitB "NoneType" "tuple" = some false := by decide +kernel
theorem kb_bool_tuple : kitB "bool" "tuple" = some false := by decide +kernel
theorem kb_int_tuple : kitB "int" "tuple" = some false := by decide +kernel
theorem kb_str_tuple : kitB "str" "tuple" = some false := by decide +kernel
theorem kb_list_tuple : kitB "list" "tuple" = some false := by decide +kernel
theorem kb_tuple_tuple : kitB "tuple" "tuple" = some true := by decide +kernel
theorem kb_NoneType_str : kitB "NoneType" "str" = some false := by decide +kernel
theorem kb_bool_str : kitB "bool" "str" = some false := by decide +kernel
theorem kb_int_str : kitB "int" "str" = some false := by decide +kernel
theorem kb_str_str : kitB "str" "str" = some true := by decide +kernel
theorem kb_list_str : kitB "list" "str" = some false := by decide +kernel
theorem kb_tuple_str : kitB "tuple" "str" = some false := by decide +kernel
theorem kit_int {d : PD} (nt : noTab d) : PySem.W.kitOne K (.type (tyOfD d)) (.type "int") = some (isIntD d || isBlD d) := by
  cases d with
  | none => exact kit_ty kb_NoneType_int
  | bool b => exact kit_ty kb_bool_int
  | int i => exact kit_ty kb_int_int
  | str x => exact kit_ty kb_str_int
  | list x => exact kit_ty kb_list_int
  | tuple x => exact kit_ty kb_tuple_int
  | dict q => exact absurd rfl (nt q)
theorem kit_bool {d : PD} (nt : noTab d) : PySem.W.kitOne K (.type (tyOfD d)) (.type "bool") = some (isBlD d) := by
  cases d with
  | none => exact kit_ty kb_NoneType_bool
  | bool b => exact kit_ty kb_bool_bool
  | int i => exact kit_ty kb_int_bool
  | str x => exact kit_ty kb_str_bool
  | list x => exact kit_ty kb_list_bool
  | tuple x => exact kit_ty kb_tuple_bool
  | dict q => exact absurd rfl (nt q)
def isTupD : PD → Bool
  | .tuple _ => true
  | _ => false
theorem kit_tuple {d : PD} (nt : noTab d) : PySem.W.kitOne K (.type (tyOfD d)) (.type "tuple") = some (isTupD d) := by
  cases d with
  | none => exact kit_ty kb_NoneType_tuple
  | bool b => exact kit_ty kb_bool_tuple
  | int i => exact kit_ty kb_int_tuple
  | str x => exact kit_ty kb_str_tuple
  | list x => exact kit_ty kb_list_tuple
  | tuple x => exact kit_ty kb_tuple_tuple
  | dict q => exact absurd rfl (nt q)
def p_is_integer (ds : List PD) (K : PD → Prop) : Prop := ∃ d, ds = [d] ∧ noTab d ∧ K (.bool (isIntD d))
def p_is_number (ds : List PD) (K : PD → Prop) : Prop := ∃ d, ds = [d] ∧ noTab d ∧ K (.bool (isNumD d))
abbrev s_is_integer : Stmt := top 9
abbrev N_is_integer : List Str := ["value"]
theorem sc_is_integer : FnScope N_is_integer ["value"] (defScope s_is_integer) := ⟨rfl, rfl, rfl, by decide +kernel, rfl, by decide +kernel, by decide +kernel⟩

theorem ok_is_integer (T : Tx mg) (D : Dn K mg "is_integer" s_is_integer) : Cl P w K mg base 1 "is_integer" (SpP (p_is_integer)) := by
  have sc := sc_is_integer
  refine cl_pure D sc (fun _ _ _ _ _ _ us hl => match us, hl with | [_], _ => rfl) (fun ds K h => by obtain ⟨d, rfl, _⟩ := h; rfl) fun f cdv A outer s H E hr => ?_
  have hu := hr.units
  refine ⟨_, (pss_one (ps_ret (pe_and (pe_callB call_isi (by rfl) T.b_isinstance (by decide +kernel) (pa_cons (pv 0) (pa_cons (pe_bltn (v := .ty "int") (by rfl) T.b_int (by decide +kernel) rfl) pa_nil))) (pe_one (pe_not (pe_callB call_isi (by rfl) T.b_isinstance (by decide +kernel) (pa_cons (pv 0) (pa_cons (pe_bltn (v := .ty "bool") (by rfl) T.b_bool (by decide +kernel) rfl) pa_nil)))))))), ?_⟩
  rintro ds K' ⟨d, rfl, nt, k⟩
  show wpS Gm.pure _ [.dat d] _
  refine wpS_ret (wpE_andV (wpE_isi (wpE_var rfl ⟨_, kit_int nt, nt, ⟨_, rfl, ?_⟩⟩)))
  cases d with
  | int i => exact wpE_notV (wpE_isi (wpE_var rfl ⟨_, kit_bool nt, nt, _, rfl, k⟩))
  | bool b => exact wpE_notV (wpE_isi (wpE_var rfl ⟨_, kit_bool nt, nt, _, rfl, k⟩))
  | dict q => exact absurd rfl (nt q)
  | _ => exact k
abbrev s_is_number : Stmt := top 10
abbrev N_is_number : List Str := ["value"]
theorem sc_is_number : FnScope N_is_number ["value"] (defScope s_is_number) := ⟨rfl, rfl, rfl, by decide +kernel, rfl, by decide +kernel, by decide +kernel⟩

theorem ok_is_number (T : Tx mg) (D : Dn K mg "is_number" s_is_number) (c_is_integer : Cl P w K mg base 1 "is_integer" (SpP (p_is_integer))) : Cl P w K mg base 2 "is_number" (SpP (p_is_number)) := by
  have sc := sc_is_number
  refine cl_pure D sc (fun _ _ _ _ _ _ us hl => match us, hl with | [_], _ => rfl) (fun ds K h => by obtain ⟨d, rfl, _⟩ := h; rfl) fun f cdv A outer s H E hr => ?_
  have hu := hr.units
  refine ⟨_, (pss_one (ps_ret (pe_and (pe_cl c_is_integer hr (by decide) (by rfl) (pa_cons (pv 0) pa_nil)) (pe_one (pe_cmpR op_ge (pv 0) pe_int (nomark _)))))), ?_⟩
  rintro ds K' ⟨d, rfl, nt, k⟩
  show wpS Gm.pure _ [.dat d] _
  refine wpS_ret (wpE_andV (wpE_callP (wpA_cons (wpE_var rfl (wpA_nil ⟨[d], rfl, d, rfl, nt, _, rfl, ?_⟩)))))
  cases d with
  | int i => exact wpE_op opD_B0 (wpE_var rfl (wpE_int ⟨_, _, rfl, rfl, k⟩))
  | _ => exact k
/-! ### layers -/
structure TbC (K : PySem.W.Frag) (C : Addr) : Prop where
  cls : Cls K C
  th : NoAttr K C "things"
  ti : NoAttr K C "ties"
abbrev Row := List (Option Int)
def row0 (n v : Nat) : Row := (List.range n).map fun i => if i = v then some 0 else none
def p_start_row (F : PySem.W.Frag) (ds : List PD) (K : PD → Prop) : Prop := ∃ C dts es v, ds = [tabD C (.tuple dts) es, en v] ∧ dts.length ≤ 1000 ∧ TbC F C ∧ K (encT (row0 dts.length v))
theorem eqv_nat {a b : Nat} : PyData.eqv (en a) (en b) = decide (a = b) := by
  show ((a : Int) == (b : Int)) = _
  by_cases h : a = b
  · subst h; simp
  · have : (a : Int) ≠ (b : Int) := fun z => h (Int.ofNat.inj z)
    rw [decide_eq_false h]
    exact beq_false_of_ne this
abbrev s_start_row : Stmt := top 16
abbrev N_start_row : List Str := ["table", "thing", "other"]
theorem sc_start_row : FnScope N_start_row ["table", "thing"] (defScope s_start_row) := ⟨rfl, rfl, rfl, by decide +kernel, rfl, by decide +kernel, by decide +kernel⟩

theorem ok_start_row (T : Tx mg) (D : Dn K mg "start_row" s_start_row) : Cl P w K mg base 1 "start_row" (SpP (p_start_row K)) := by
  have sc := sc_start_row
  refine cl_pure D sc (fun _ _ _ _ _ _ us hl => match us, hl with | [_, _], _ => rfl) (fun ds K h => by obtain ⟨C, dts, es, v, rfl, _⟩ := h; rfl) fun f cdv A outer s H E hr => ?_
  have hu := hr.units
  refine ⟨_, (pss_one (ps_ret (pe_callTy call_tuple_of (by rfl) T.b_tuple (by decide +kernel) (pa_cons (pe_lc (own := [("other", 2)]) (g := gName 2) (by rfl) sc.nd (pi_range1 (by rfl) T.b_range (pa_cons (pe_callB (lenSq (F := K)) (by rfl) T.b_len (by decide +kernel) (pa_cons (pe_fld (pv 0) rfl) pa_nil)) pa_nil)) (blkOk_by (own := [("other", 2)]) (N := N_start_row) (sc := (defScope s_start_row)) (by decide +kernel)) (fun _ _ _ _ _ => (pg_name (i := 2) sc.nd rfl (by first | exact Or.inl rfl | exact Or.inr rfl))) (fun _ _ _ _ _ => pts_nil) (fun _ _ _ _ _ => (pe_ifExp (pt_cmpR (opEq (F := K) hu) (pv 2) (pv 1) (nomark _)) pe_int pe_non))) pa_nil)))), ?_⟩
  rintro ds K' ⟨C, dts, es, v, rfl, hl, tc, k⟩
  show wpS Gm.pure _ [.dat (tabD C (.tuple dts) es), .dat (en v), .no] _
  refine wpS_ret (wpE_tuple (wpN.Q (wpN_lcF tg_name (by decide) rfl (wpI_rng1 (wpA_cons (wpE_len (wpE.Q (wpE_things (wpE_var rfl ⟨C, _, _, rfl, tc.cls, tc.th, _, rfl, wpA_nil ⟨_, rfl, by omega, by omega, ?_⟩⟩))))))))) 
  refine ⟨by omega, fun _ => true, fun i => if i = v then .int 0 else .none, fun i d hi e => ?_, ?_⟩
  · cases e
    refine ⟨_, rfl, wpT_yes ⟨rfl, fun _ => wpE_if (wpT_B (wpE_op opD_eq (wpE_var rfl (wpE_var rfl ⟨rfl, rfl, _, rfl, ?_⟩))))⟩⟩
    rw [show PyData.eqv (en i) (en v) = decide (i = v) from eqv_nat]
    by_cases h : i = v
    · rw [decide_eq_true h, if_pos rfl]; exact wpE_int (by show _ = if i = v then _ else _; rw [if_pos h])
    · rw [decide_eq_false h, if_neg Bool.false_ne_true]; exact wpE_non (by show _ = if i = v then _ else _; rw [if_neg h])
  · have e : ((List.range ((dts.length : Int)).toNat).filter fun _ => true).map (fun i => if i = v then PyData.int 0 else .none) = (row0 dts.length v).map eo := by
      rw [filter_yes, row0, List.map_map, Int.toNat_natCast]
      refine List.map_congr_left fun i _ => ?_
      show _ = eo (if i = v then some 0 else none)
      by_cases h : i = v
      · rw [if_pos h, if_pos h]; rfl
      · rw [if_neg h, if_neg h]; rfl
    rw [e]; exact k
theorem foldl_take {α β : Type} {xs : List α} {i : Nat} {x : α} (h : xs[i]? = some x) (f : β → α → β) (b : β) : (xs.take (i + 1)).foldl f b = f ((xs.take i).foldl f b) x := by
  rw [List.take_add_one, h]
  show (List.take i xs ++ [x]).foldl f b = _
  rw [List.foldl_append]; rfl
def stepRow (row found : Row) (t : TieT) : Row := match row.getD t.1 none with
  | none => found
  | some a => match found.getD t.2.1 none with
    | none => found.set t.2.1 (some (a + t.2.2))
    | some b => if b < a + t.2.2 then found.set t.2.1 (some (a + t.2.2)) else found
def nextRow (ts : List TieT) (row : Row) : Row := ts.foldl (stepRow row) row
theorem step_0 {row f : Row} {t : TieT} (h : row.getD t.1 none = none) : stepRow row f t = f := by rw [stepRow, h]
theorem step_1 {row f : Row} {t : TieT} {x : Int} (h : row.getD t.1 none = some x) (h2 : f.getD t.2.1 none = none) : stepRow row f t = f.set t.2.1 (some (x + t.2.2)) := by rw [stepRow, h, h2]
theorem step_2 {row f : Row} {t : TieT} {x y : Int} (h : row.getD t.1 none = some x) (h2 : f.getD t.2.1 none = some y) (l : y < x + t.2.2) : stepRow row f t = f.set t.2.1 (some (x + t.2.2)) := by rw [stepRow, h, h2]; exact if_pos l
theorem step_3 {row f : Row} {t : TieT} {x y : Int} (h : row.getD t.1 none = some x) (h2 : f.getD t.2.1 none = some y) (l : ¬ y < x + t.2.2) : stepRow row f t = f := by rw [stepRow, h, h2]; exact if_neg l
theorem stepRow_length (row found : Row) (t : TieT) : (stepRow row found t).length = found.length := by
  unfold stepRow
  split
  · rfl
  · split
    · exact List.length_set
    · split
      · exact List.length_set
      · rfl
theorem foldRow_length (row : Row) : ∀ (ts : List TieT) (f : Row), (ts.foldl (stepRow row) f).length = f.length
  | [], _ => rfl
  | t :: ts, f => (foldRow_length row ts _).trans (stepRow_length row f t)
theorem nextRow_length (ts : List TieT) (row : Row) : (nextRow ts row).length = row.length := foldRow_length row ts row
def okTs (n : Nat) (ts : List TieT) : Prop := ∀ t ∈ ts, t.1 < n ∧ t.2.1 < n
theorem ixN_nat {n k : Nat} (h : k < n) : ixN n (k : Int) = some k := by
  unfold ixN
  simp only [Int.natCast_nonneg, if_true, Int.toNat_natCast]
  first | rw [if_pos (by omega)] | simp [h]
theorem get_enc {row : Row} {k : Nat} (h : k < row.length) : atI (row.map eo) (k : Int) = some (eo (row.getD k none)) := atI_map (f := eo) (by rw [List.getD_eq_getElem?_getD, List.getElem?_eq_getElem h]; rfl)
theorem keep_ {G : Gm} {ρ : Rho} : ∀ (X : Addr → Prop) (o : Nat → Addr) (σ : L2.St) (H H' : Hp) (p : Addr) (vs : List L2.V), EnvOk G X o σ H ρ → H p = some (.lst vs) → ¬ G.N p → Fr G.N H H' → H' p = some (.lst vs) := fun _ _ _ _ _ _ _ _ e n f => f _ _ e n
def p_next_row (F : PySem.W.Frag) (ds : List PD) (K : PD → Prop) : Prop := ∃ C dt ts row, ds = [tabD C dt (.tuple (ts.map et)), encT row] ∧ TbC F C ∧ okTs row.length ts ∧ K (encT (nextRow ts row))
abbrev s_next_row : Stmt := top 17
abbrev N_next_row : List Str := ["table", "row", "found", "one", "other", "weight"]
theorem sc_next_row : FnScope N_next_row ["table", "row"] (defScope s_next_row) := ⟨rfl, rfl, rfl, by decide +kernel, rfl, by decide +kernel, by decide +kernel⟩

theorem ok_next_row (T : Tx mg) (D : Dn K mg "next_row" s_next_row) : Cl P w K mg base 1 "next_row" (SpP (p_next_row K)) := by
  have sc := sc_next_row
  refine cl_pure D sc (fun _ _ _ _ _ _ us hl => match us, hl with | [_, _], _ => rfl) (fun ds K h => by obtain ⟨C, dt, ts, row, rfl, _⟩ := h; rfl) fun f cdv A outer s H E hr => ?_
  have hu := hr.units
  refine ⟨_, (pss_cons (ps_set (i := 2) sc.nd rfl (Or.inl rfl) (pe_callTy call_list_of (by rfl) T.b_list (by decide +kernel) (pa_cons (pv 1) pa_nil)))
    (pss_cons (ps_for PassesOwn.never rfl (pi_tup (pe_fld (pv 0) rfl)) (pg_tup rfl (pgs_cons (pg_name (i := 3) sc.nd rfl (by first | exact Or.inl rfl | exact Or.inr rfl)) (pgs_cons (pg_name (i := 4) sc.nd rfl (by first | exact Or.inl rfl | exact Or.inr rfl)) (pgs_cons (pg_name (i := 5) sc.nd rfl (by first | exact Or.inl rfl | exact Or.inr rfl)) pgs_nil))))
      (pss_one (ps_if (PW.pt (pw_and (pt_cmpR op_notN (pe_ix (ixSq (F := K)) (pv 1) (pv 3) (fun _ _ => rfl)) pe_non (nomark _)) (pw_and1 (PW.pt (pw_or (pt_cmpR op_isN (pe_ix (ixSq (F := K)) (pv 2) (pv 4) (fun _ _ => rfl)) pe_non (nomark _)) (pw_or1 (pt_cmpR op_lt (pe_ix (ixSq (F := K)) (pv 2) (pv 4) (fun _ _ => rfl)) (pe_op op_add (pe_ix (ixSq (F := K)) (pv 1) (pv 3) (fun _ _ => rfl)) (pv 5)) (nomark _)))))))) (pss_one (ps_asg (pe_op op_add (pe_ix (ixSq (F := K)) (pv 1) (pv 3) (fun _ _ => rfl)) (pv 5)) (pg_sub (pv 2) (pv 4) set_list))) pss_nil)))
    (pss_one (ps_ret (pe_callTy call_tuple_of (by rfl) T.b_tuple (by decide +kernel) (pa_cons (pv 2) pa_nil)))))), ?_⟩
  rintro ds K' ⟨C, dt, ts, row, rfl, tc, ok, k⟩
  show wpS Gm.pure _ [.dat (tabD C dt (.tuple (ts.map et))), .dat (encT row), .no, .no, .no, .no] _
  refine wpS_seq (wpS_setN (lt_ rfl) (wpN_list (wpE.Q (wpE_var rfl ⟨_, rfl, ?_⟩))))
  refine wpS_seq (wpS_for (tg_tup (js := [3, 4, 5]) rfl rfl) (wpI_tup (wpE_ties (wpE_var rfl ⟨C, _, _, rfl, tc.cls, tc.ti, _, rfl, ?_⟩))))
  refine ⟨fun i ρ => ∃ a b c, ρ = [.dat (tabD C dt (.tuple (ts.map et))), .dat (encT row), .own (((ts.take i).foldl (stepRow row) row).map eo), a, b, c], ⟨.no, .no, .no, rfl⟩, ?_, ?_⟩
  · rintro i d ρ' hi e ⟨a, b, c, rfl⟩
    obtain ⟨t, ht, rfl⟩ := map_get e
    refine ⟨_, rfl, ?_⟩
    show wpS Gm.pure _ [.dat (tabD C dt (.tuple (ts.map et))), .dat (encT row), .own (((ts.take i).foldl (stepRow row) row).map eo), .dat (en t.1), .dat (en t.2.1), .dat (.int t.2.2)] _
    obtain ⟨l1, l2⟩ := ok t (List.mem_of_getElem? ht)
    have lf := foldRow_length row (ts.take i) row
    have nx := foldl_take ht (stepRow row) row
    generalize (ts.take i).foldl (stepRow row) row = f at lf nx
    refine wpS_if (wpT_and (wpT_test (wpE_op opD_isnt (wpE_op opD_ix (wpE_var rfl (wpE_var rfl ⟨_, _, _, rfl, rfl, get_enc l1, wpE_non ⟨rfl, _, rfl, ?_⟩⟩))))))
    rw [isNon_eo]
    have fin : ∀ g : Row, (ts.take (i + 1)).foldl (stepRow row) row = g → ∃ a b c, ([.dat (tabD C dt (.tuple (ts.map et))), .dat (encT row), .own (g.map eo), .dat (en t.1), .dat (en t.2.1), .dat (.int t.2.2)] : Rho) = [.dat (tabD C dt (.tuple (ts.map et))), .dat (encT row), .own (((ts.take (i + 1)).foldl (stepRow row) row).map eo), a, b, c] := fun g e => ⟨_, _, _, by rw [e]⟩
    cases h1 : row.getD t.1 none with
    | none =>
      refine wpS_nil (fin f ?_)
      rw [nx, step_0 h1]
    | some x =>
      have get1 : atI (row.map eo) ((t.1 : Nat) : Int) = some (.int x) := by rw [get_enc l1, h1]; rfl
      have setIt : wpS Gm.pure (tAsg (tOp rAdd (tOp (rIx K) (tVar 1) (tVar 3)) (tVar 5)) (gSub (tVar 2) (tVar 4) rSetL)) [.dat (tabD C dt (.tuple (ts.map et))), .dat (encT row), .own (f.map eo), .dat (en t.1), .dat (en t.2.1), .dat (.int t.2.2)]
          { nx := fun ρ => (stepRow row f t = f.set t.2.1 (some (x + t.2.2))) → ∃ a b c, ρ = [.dat (tabD C dt (.tuple (ts.map et))), .dat (encT row), .own (((ts.take (i + 1)).foldl (stepRow row) row).map eo), a, b, c], rt := fun _ => False, bk := fun _ => False, ct := fun _ => False } :=
        wpS_setL rfl (wpE_op opD_I0 (wpE_op opD_ix (wpE_var rfl (wpE_var rfl ⟨_, _, _, rfl, rfl, get1, wpE_var rfl ⟨_, _, rfl, rfl, wpE_var rfl ⟨_, t.2.1, rfl, ixN_nat (by rw [List.length_map, lf]; exact l2), fun es => by
          rw [nx, es]
          refine ⟨.dat (en t.1), .dat (en t.2.1), .dat (.int t.2.2), ?_⟩
          rw [List.map_set]; rfl⟩⟩⟩))))
      refine wpT_or (wpT_test (wpE_op opD_is (wpE_ixL (wpL_var rfl (wpE_var rfl ⟨_, _, rfl, get_enc (by rw [lf]; exact l2), wpE_non ⟨rfl, _, rfl, ?_⟩⟩)) keep_)))
      rw [isNon_eo]
      rcases h2 : f.getD t.2.1 none with _ | y
      ·
        rw [Option.isNone_none, if_pos rfl]
        exact wpS_seq (setIt.imp (fun ρ h => wpS_nil (h (step_1 h1 h2))) (fun _ z => z.elim) (fun _ z => z.elim) (fun _ z => z.elim))
      ·
        have get2 : atI (f.map eo) ((t.2.1 : Nat) : Int) = some (.int y) := by rw [get_enc (by rw [lf]; exact l2), h2]; rfl
        rw [Option.isNone_some, if_neg Bool.false_ne_true]
        refine wpT_test (wpE_op opD_B0 (wpE_ixL (wpL_var rfl (wpE_var rfl ⟨_, _, rfl, get2, wpE_op opD_I0 (wpE_op opD_ix (wpE_var rfl (wpE_var rfl ⟨_, _, _, rfl, rfl, get1, wpE_var rfl ⟨_, _, rfl, rfl, ⟨_, _, rfl, rfl, _, rfl, ?_⟩⟩⟩)))⟩)) keep_))
        by_cases lt : y < x + t.2.2
        · rw [decide_eq_true lt, if_pos rfl]
          exact wpS_seq (setIt.imp (fun ρ h => wpS_nil (h (step_2 h1 h2 lt))) (fun _ z => z.elim) (fun _ z => z.elim) (fun _ z => z.elim))
        · rw [decide_eq_false lt, if_neg Bool.false_ne_true]
          refine wpS_nil (fin f ?_)
          rw [nx, step_3 h1 h2 lt]
  · rintro ρ' ⟨a, b, c, rfl⟩
    refine wpS_seq (wpS_ret (wpE_tuple (wpL.Q (wpL_var rfl ?_))))
    show K' (encT _)
    rw [List.length_map, List.take_length]; exact k
end

end K42
/-! text P2 -/
set_option Elab.async false
set_option linter.all false
set_option maxRecDepth 100000
set_option maxHeartbeats 4000000
namespace K42
open PySem PySem.Spec PyProof.Rows L2

/-! The program's defs over data, 2: layers, reaches. -/
theorem le_ {j n : Nat} (h : Nat.ble j n = true) : j ≤ n := Nat.le_of_ble_eq_true h
section
variable {P : Program} {w : World} {K : PySem.W.Frag} {mg : Str → Option Value} {base : Heap}
def p_need_number (ds : List PD) (K : PD → Prop) : Prop := ∃ (i lo hi : Int) (x : Str), ds = [.int i, .int lo, .int hi, .str x] ∧ 0 ≤ i ∧ lo ≤ i ∧ i ≤ hi ∧ K .none
abbrev s_need_number : Stmt := top 13
abbrev N_need_number : List Str := ["value", "least", "most", "word"]
theorem sc_need_number : FnScope N_need_number ["value", "least", "most", "word"] (defScope s_need_number) := ⟨rfl, rfl, rfl, by decide +kernel, rfl, by decide +kernel, by decide +kernel⟩

theorem ok_need_number (T : Tx mg) (D : Dn K mg "need_number" s_need_number) (c_is_number : Cl P w K mg base 2 "is_number" (SpP (p_is_number))) : Cl P w K mg base 3 "need_number" (SpP (p_need_number)) := by
  have sc := sc_need_number
  refine cl_pure D sc (fun _ _ _ _ _ _ us hl => match us, hl with | [_, _, _, _], _ => rfl) (fun ds K h => by obtain ⟨i, lo, hi, x, rfl, _⟩ := h; rfl) fun f cdv A outer s H E hr => ?_
  have hu := hr.units
  refine ⟨_, (pss_one (ps_if (PW.pt (pw_or (pt_not (pt_val (pe_cl c_is_number hr (by decide) (by rfl) (pa_cons (pv 0) pa_nil)))) (pw_or (pt_cmpR op_lt (pv 0) (pv 1) (nomark _)) (pw_or1 (PW.pt (pw_and (pt_cmpR op_notN (pv 2) pe_non (nomark _)) (pw_and1 (pt_cmpR op_gt (pv 0) (pv 2) (nomark _))))))))) (pss_one ps_never) pss_nil)), ?_⟩
  rintro ds K' ⟨i, lo, hi, x, rfl, h0, h1, h2, k⟩
  show wpS Gm.pure _ [.dat (.int i), .dat (.int lo), .dat (.int hi), .dat (.str x)] _
  refine wpS_seq (wpS_if (wpT_or (wpT_not (wpT_test (wpE_callP (wpA_cons (wpE_var rfl (wpA_nil ⟨[.int i], rfl, _, rfl, (fun _ => nofun), true, ?_, ?_⟩)))))))) 
  · rw [isNumD, decide_eq_true h0]
  refine wpT_or (wpT_test (wpE_op opD_B0 (wpE_var rfl (wpE_var rfl ⟨_, _, rfl, rfl, false, ?_, ?_⟩))))
  · rw [decide_eq_false (by omega)]
  refine wpT_and (wpT_test (wpE_op opD_isnt (wpE_var rfl (wpE_non ⟨rfl, _, rfl, ?_⟩))))
  refine wpT_test (wpE_op opD_B0 (wpE_var rfl (wpE_var rfl ⟨_, _, rfl, rfl, false, ?_, ?_⟩)))
  · rw [decide_eq_false (by omega)]
  exact wpS_nil (wpS_nil k)
def rowAt (ts : List TieT) (n v : Nat) : Nat → Row
  | 0 => row0 n v
  | k + 1 => nextRow ts (rowAt ts n v k)
theorem rowAt_length (ts : List TieT) (n v : Nat) : ∀ k, (rowAt ts n v k).length = n
  | 0 => by rw [rowAt, row0, List.length_map, List.length_range]
  | k + 1 => by rw [rowAt, nextRow_length]; exact rowAt_length ts n v k
theorem rowAt_stay {ts : List TieT} {n v k : Nat} (h : rowAt ts n v (k + 1) = rowAt ts n v k) : ∀ j, rowAt ts n v (k + j) = rowAt ts n v k
  | 0 => rfl
  | j + 1 => by
    have e := rowAt_stay h j
    show nextRow ts (rowAt ts n v (k + j)) = _
    rw [e]; exact h
def lays (ts : List TieT) (n v k : Nat) : List PD := (List.range (k + 1)).map fun i => encT (rowAt ts n v i)
def LayOk (ts : List TieT) (n v most : Nat) (d : PD) : Prop := ∃ k, k ≤ most ∧ d = .tuple (lays ts n v k) ∧ (k = most ∨ rowAt ts n v (k + 1) = rowAt ts n v k)
/-- what stands for data that may be compared -/
def Plain (k : Nat) (d : PD) : Prop := d.canLay0 = true ∧ d.depth ≤ k
theorem plain_eo (x : Option Int) : Plain 0 (eo x) := by cases x <;> exact ⟨rfl, Nat.le_refl _⟩
theorem plain_all {k : Nat} : ∀ {ds : List PD}, (∀ d ∈ ds, Plain k d) → PyData.canLayAll0 ds = true ∧ PyData.depthAll ds ≤ k
  | [], _ => ⟨rfl, Nat.zero_le _⟩
  | d :: ds, h => by
    obtain ⟨a, b⟩ := h d List.mem_cons_self
    obtain ⟨a', b'⟩ := plain_all fun e he => h e (List.mem_cons_of_mem _ he)
    constructor
    · rw [PyData.canLayAll0, a, a']; rfl
    · rw [PyData.depthAll]; exact Nat.max_le.mpr ⟨b, b'⟩
theorem plain_tup {k : Nat} {ds : List PD} (h : ∀ d ∈ ds, Plain k d) : Plain (k + 1) (.tuple ds) := by
  obtain ⟨a, b⟩ := plain_all h
  exact ⟨by rw [PyData.canLay0]; exact a, by rw [PyData.depth]; omega⟩
theorem plain_list {k : Nat} {ds : List PD} (h : ∀ d ∈ ds, Plain k d) : Plain (k + 1) (.list ds) := by
  obtain ⟨a, b⟩ := plain_all h
  exact ⟨by rw [PyData.canLay0]; exact a, by rw [PyData.depth]; omega⟩
theorem Plain.shaped {k : Nat} {d : PD} (h : Plain k d) (hk : k ≤ 64) : SeqAt.shaped d = true := by
  rw [SeqAt.shaped, h.1, decide_eq_true (Nat.le_trans h.2 hk)]; rfl
theorem plain_enc (r : List (Option Int)) : Plain 1 (encT r) := plain_tup fun d h => by
  obtain ⟨x, _, rfl⟩ := List.mem_map.mp h
  exact plain_eo x
theorem shaped_enc (r : List (Option Int)) : SeqAt.shaped (encT r) = true := (plain_enc r).shaped (by decide)
theorem eqv_eo : ∀ x y : Option Int, PyData.eqv (eo x) (eo y) = decide (x = y)
  | none, none => rfl
  | none, some _ => rfl
  | some _, none => rfl
  | some i, some j => by
    show (i == j) = _
    by_cases h : i = j
    · subst h; simp
    · rw [decide_eq_false (fun z => h (Option.some.inj z))]; exact beq_false_of_ne h
theorem eqvAll_map {α : Type} [DecidableEq α] {f : α → PD} (h : ∀ x y, PyData.eqv (f x) (f y) = decide (x = y)) : ∀ xs ys : List α, PyData.eqvAll (xs.map f) (ys.map f) = decide (xs = ys)
  | [], [] => rfl
  | [], _ :: _ => rfl
  | _ :: _, [] => rfl
  | x :: xs, y :: ys => by
    show (PyData.eqv (f x) (f y) && PyData.eqvAll (xs.map f) (ys.map f)) = _
    rw [h, eqvAll_map h xs ys]
    by_cases a : x = y <;> by_cases b : xs = ys <;> simp [a, b]
theorem eqv_enc (a b : List (Option Int)) : PyData.eqv (encT a) (encT b) = decide (a = b) := eqvAll_map eqv_eo a b
theorem ixN_last {n : Nat} (h : 0 < n) : ixN n (-1) = some (n - 1) := by
  unfold ixN
  rw [if_neg (by omega), if_pos (by omega)]
  congr 1; omega
theorem lays_length (ts : List TieT) (n v k : Nat) : (lays ts n v k).length = k + 1 := by rw [lays, List.length_map, List.length_range]
theorem lays_get {ts : List TieT} {n v k i : Nat} (h : i ≤ k) : (lays ts n v k)[i]? = some (encT (rowAt ts n v i)) := by
  rw [lays, List.getElem?_map, List.getElem?_range (by omega)]; rfl
theorem lays_last (ts : List TieT) (n v k : Nat) : atI (lays ts n v k) (-1) = some (encT (rowAt ts n v k)) := by
  unfold atI
  rw [lays_length, ixN_last (by omega)]
  exact lays_get (by omega)
theorem lays_succ (ts : List TieT) (n v k : Nat) : lays ts n v k ++ [encT (rowAt ts n v (k + 1))] = lays ts n v (k + 1) := by
  rw [lays, lays, List.range_succ (n := k + 1), List.map_append]; rfl
/-- a table with n things and the ties ts -/
def TbD (F : PySem.W.Frag) (n : Nat) (ts : List TieT) (d : PD) : Prop := ∃ C dts, d = tabD C (.tuple dts) (.tuple (ts.map et)) ∧ dts.length = n ∧ TbC F C ∧ okTs n ts ∧ n ≤ 1000
def p_thing_layers (F : PySem.W.Frag) (ds : List PD) (K : PD → Prop) : Prop := ∃ (n : Nat) (ts : List TieT) (dt : PD) (v m : Nat), TbD F n ts dt ∧ ds = [dt, en v, en m] ∧ m ≤ 100 ∧ ∀ d, LayOk ts n v m d → K d
abbrev s_thing_layers : Stmt := top 18
abbrev N_thing_layers : List Str := ["table", "thing", "most", "found", "row"]
theorem sc_thing_layers : FnScope N_thing_layers ["table", "thing", "most"] (defScope s_thing_layers) := ⟨rfl, rfl, rfl, by decide +kernel, rfl, by decide +kernel, by decide +kernel⟩

theorem ok_thing_layers (T : Tx mg) (D : Dn K mg "thing_layers" s_thing_layers) (c_need_number : Cl P w K mg base 3 "need_number" (SpP (p_need_number))) (c_start_row : Cl P w K mg base 1 "start_row" (SpP (p_start_row K))) (c_next_row : Cl P w K mg base 1 "next_row" (SpP (p_next_row K))) : Cl P w K mg base 4 "thing_layers" (SpP (p_thing_layers K)) := by
  have sc := sc_thing_layers
  refine cl_pure D sc (fun _ _ _ _ _ _ us hl => match us, hl with | [_, _, _], _ => rfl) (fun ds K h => by obtain ⟨_, _, _, _, _, _, rfl, _⟩ := h; rfl) fun f cdv A outer s H E hr => ?_
  have hu := hr.units
  refine ⟨_, (pss_cons (ps_expr (pe_cl c_need_number hr (by decide) (by rfl) (pa_cons (pv 2) (pa_cons pe_int (pa_cons (pe_k rfl T.MOST_LAYERS) (pa_cons pe_str pa_nil))))))
    (pss_cons (ps_set (i := 3) sc.nd rfl (Or.inl rfl) (pe_lst (pa_cons (pe_cl c_start_row hr (by decide) (by rfl) (pa_cons (pv 0) (pa_cons (pv 1) pa_nil))) pa_nil)))
    (pss_cons (ps_while PassesOwn.never (pt_cmpR op_le (pe_callB (lenSq (F := K)) (by rfl) T.b_len (by decide +kernel) (pa_cons (pv 3) pa_nil)) (pv 2) (nomark _)) (pss_cons (ps_set (i := 4) sc.nd rfl (Or.inl rfl) (pe_cl c_next_row hr (by decide) (by rfl) (pa_cons (pv 0) (pa_cons (pe_ix (ixSq (F := K)) (pv 3) (pe_un un_neg pe_int) (fun _ _ => rfl)) pa_nil))))
      (pss_cons (ps_if (pt_cmpR (opEq (F := K) hu) (pv 4) (pe_ix (ixSq (F := K)) (pv 3) (pe_un un_neg pe_int) (fun _ _ => rfl)) (nomark _)) (pss_one ps_break) pss_nil)
      (pss_one (ps_expr (pe_bm PySem.F.plainAttrs_list PySem.F.slot_list_append PySem.F.type_list_append mt_append (pv 3) (pa_cons (pv 4) pa_nil)))))))
    (pss_one (ps_ret (pe_callTy call_tuple_of (by rfl) T.b_tuple (by decide +kernel) (pa_cons (pv 3) pa_nil))))))), ?_⟩
  rintro ds K' ⟨n, ts, dt, v, m, ⟨C, dts, rfl, hn, tc, ok, hl⟩, rfl, hm, k⟩
  show wpS Gm.pure _ [.dat (tabD C (.tuple dts) (.tuple (ts.map et))), .dat (en v), .dat (en m), .no, .no] _
  refine wpS_seq (wpS_drop (wpE_callP (wpA_cons (wpE_var rfl (wpA_cons (wpE_int (wpA_cons (wpE_int (wpA_cons (wpE_str (wpA_nil ⟨[_, _, _, _], rfl, _, _, _, _, rfl, by omega, by omega, by omega, ?_⟩)))))))))))
  refine wpS_seq (wpS_setN (lt_ rfl) (wpN_lst (wpA_cons (wpE_callP (wpA_cons (wpE_var rfl (wpA_cons (wpE_var rfl (wpA_nil ⟨[_, _], rfl, C, dts, _, v, rfl, by omega, tc, wpA_nil ⟨[_], rfl, le_ rfl, ?_⟩⟩)))))))))
  refine wpS_seq (wpS_while (fun q ρ => ∃ (j : Nat) (s : Sl), j ≤ m ∧ q = m - j ∧ ρ = [.dat (tabD C (.tuple dts) (.tuple (ts.map et))), .dat (en v), .dat (en m), .own (lays ts n v j), s]) ⟨m, 0, .no, Nat.zero_le _, rfl, ?_⟩ ?_)
  · rw [hn]; rfl
  rintro q ρ ⟨j, s, hj, rfl, rfl⟩
  have fin : ∀ j, j ≤ m → (j = m ∨ rowAt ts n v (j + 1) = rowAt ts n v j) → ∀ s, wpS Gm.pure (tSeq (tRet (tCB (fun xs H Q => ∃ p ys, xs = [.ref p] ∧ ((SqL K H p ys ∧ ∀ l, H l = none → Q (.ref l) (upd H l (.tup ys))) ∨ (SqT K H p ys ∧ Q (.ref p) H))) (tCons (tVar 3) tNil))) tNext) [.dat (tabD C (.tuple dts) (.tuple (ts.map et))), .dat (en v), .dat (en m), .own (lays ts n v j), s] (DEp K') := fun j hj hs s =>
    wpS_seq (wpS_ret (wpE_tuple (wpL.Q (wpL_var rfl (k _ ⟨j, hj, rfl, hs⟩)))))
  refine wpT_test (wpE_op opD_B0 (wpE_len (wpL.Q (wpL_var rfl (wpE_var rfl ⟨_, _, rfl, rfl, _, rfl, ?_⟩)))))
  rw [lays_length]
  by_cases hlt : j + 1 ≤ m
  · rw [decide_eq_true (show ((j + 1 : Nat) : Int) ≤ (m : Int) by omega), if_pos rfl]
    refine wpS_seq (wpS_set (wpE_callP (wpA_cons (wpE_var rfl (wpA_cons (wpE_ixL (wpL_var rfl (wpE_un (wpE_int ⟨_, rfl, _, _, rfl, lays_last ts n v j, wpA_nil ⟨[_, _], rfl, C, _, ts, _, rfl, tc, ?_, ?_⟩⟩))) keep_))))))
    · rw [rowAt_length]; exact ok
    refine wpS_seq (wpS_if (wpT_test (wpE_op opD_eq (wpE_var rfl (wpE_ixL (wpL_var rfl (wpE_un (wpE_int ⟨_, rfl, _, _, rfl, lays_last ts n v j, shaped_enc _, shaped_enc _, _, rfl, ?_⟩))) keep_)))))
    rw [eqv_enc]
    by_cases he : nextRow ts (rowAt ts n v j) = rowAt ts n v j
    · rw [decide_eq_true he, if_pos rfl]
      exact wpS_seq (wpS_break (fin j hj (.inr he) _))
    · rw [decide_eq_false he, if_neg Bool.false_ne_true]
      refine wpS_nil (wpS_seq (wpS_app rfl (by rw [lays_length]; omega) (wpE_var rfl ?_)))
      refine wpS_nil ?_
      refine ⟨m - (j + 1), by omega, j + 1, .dat (encT (rowAt ts n v (j + 1))), hlt, rfl, ?_⟩
      show [_, _, _, Sl.own (lays ts n v j ++ [encT (rowAt ts n v (j + 1))]), _] = _
      rw [lays_succ]; rfl
  · rw [decide_eq_false (show ¬ ((j + 1 : Nat) : Int) ≤ (m : Int) by omega), if_neg Bool.false_ne_true]
    exact fin j hj (.inl (by omega)) s
theorem min2_nat {a b : Nat} : (if (b : Int) < (a : Int) then (b : Int) else (a : Int)) = ((min a b : Nat) : Int) := by
  split <;> omega
def p_layer_at (ds : List PD) (K : PD → Prop) : Prop := ∃ (n : Nat) (ts : List TieT) (v most m : Nat) (d : PD), LayOk ts n v most d ∧ ds = [d, en m] ∧ m ≤ most ∧ K (encT (rowAt ts n v m))
abbrev s_layer_at : Stmt := top 19
abbrev N_layer_at : List Str := ["layers", "most"]
theorem sc_layer_at : FnScope N_layer_at ["layers", "most"] (defScope s_layer_at) := ⟨rfl, rfl, rfl, by decide +kernel, rfl, by decide +kernel, by decide +kernel⟩

theorem ok_layer_at (T : Tx mg) (D : Dn K mg "layer_at" s_layer_at) : Cl P w K mg base 1 "layer_at" (SpP (p_layer_at)) := by
  have sc := sc_layer_at
  refine cl_pure D sc (fun _ _ _ _ _ _ us hl => match us, hl with | [_, _], _ => rfl) (fun ds K h => by obtain ⟨_, _, _, _, _, _, _, rfl, _⟩ := h; rfl) fun f cdv A outer s H E hr => ?_
  have hu := hr.units
  refine ⟨_, (pss_one (ps_ret (pe_ix (ixSq (F := K)) (pv 0) (pe_callB (call_min2 rfl) (by rfl) T.b_min (by decide +kernel) (pa_cons (pv 1) (pa_cons (pe_op op_sub (pe_callB (lenSq (F := K)) (by rfl) T.b_len (by decide +kernel) (pa_cons (pv 0) pa_nil)) pe_int) pa_nil))) (fun _ _ => rfl)))), ?_⟩
  rintro ds K' ⟨n, ts, v, most, m, d, ⟨k, hk, rfl, hs⟩, rfl, hm, kk⟩
  show wpS Gm.pure _ [.dat (.tuple (lays ts n v k)), .dat (en m)] _
  refine wpS_ret (wpE_op opD_ix (wpE_var rfl (wpE_min2 (wpE_var rfl ⟨_, rfl, wpE_op opD_I0 (wpE_len (wpE.Q (wpE_var rfl ⟨_, rfl, wpE_int ⟨_, _, rfl, rfl, _, rfl, ?_⟩⟩)))⟩))))
  refine ⟨_, ((min m k : Nat) : Int), encT (rowAt ts n v m), rfl, ?_, ?_, kk⟩
  · rw [lays_length, show ((k + 1 : Nat) : Int) - 1 = (k : Int) by omega, min2_nat]
  · rw [atI_nat (lays_get (Nat.min_le_right m k))]
    congr 2
    by_cases h : m ≤ k
    · rw [Nat.min_eq_left h]
    · rw [Nat.min_eq_right (by omega)]
      rcases hs with e | e
      · omega
      · rw [show m = k + (m - k) by omega, rowAt_stay e]
def EverOk (ts : List TieT) (n : Nat) (d : PD) : Prop := ∃ ls : List PD, d = .tuple ls ∧ ls.length = n ∧ ∀ v l, ls[v]? = some l → LayOk ts n v (2 * n) l
def p_all_layers (F : PySem.W.Frag) (ds : List PD) (K : PD → Prop) : Prop := ∃ (n : Nat) (ts : List TieT) (dt : PD), TbD F n ts dt ∧ ds = [dt] ∧ n ≤ 12 ∧ ∀ d, EverOk ts n d → K d
abbrev s_all_layers : Stmt := top 20
abbrev N_all_layers : List Str := ["table", "many", "thing"]
theorem sc_all_layers : FnScope N_all_layers ["table"] (defScope s_all_layers) := ⟨rfl, rfl, rfl, by decide +kernel, rfl, by decide +kernel, by decide +kernel⟩

theorem ok_all_layers (T : Tx mg) (D : Dn K mg "all_layers" s_all_layers) (c_thing_layers : Cl P w K mg base 4 "thing_layers" (SpP (p_thing_layers K))) : Cl P w K mg base 5 "all_layers" (SpP (p_all_layers K)) := by
  have sc := sc_all_layers
  refine cl_pure D sc (fun _ _ _ _ _ _ us hl => match us, hl with | [_], _ => rfl) (fun ds K h => by obtain ⟨_, _, _, _, rfl, _⟩ := h; rfl) fun f cdv A outer s H E hr => ?_
  have hu := hr.units
  refine ⟨_, (pss_cons (ps_set (i := 1) sc.nd rfl (Or.inr rfl) (pe_callB (lenSq (F := K)) (by rfl) T.b_len (by decide +kernel) (pa_cons (pe_fld (pv 0) rfl) pa_nil)))
    (pss_one (ps_ret (pe_callTy call_tuple_of (by rfl) T.b_tuple (by decide +kernel) (pa_cons (pe_lc (own := [("thing", 2)]) (g := gName 2) (by rfl) sc.nd (pi_range1 (by rfl) T.b_range (pa_cons (pv 1) pa_nil)) (blkOk_by (own := [("thing", 2)]) (N := N_all_layers) (sc := (defScope s_all_layers)) (by decide +kernel)) (fun _ _ _ _ _ => (pg_name (i := 2) sc.nd rfl (by first | exact Or.inl rfl | exact Or.inr rfl))) (fun _ _ _ _ _ => pts_nil) (fun _ _ _ _ _ => (pe_cl c_thing_layers hr (by decide) (by rfl) (pa_cons (pv 0) (pa_cons (pv 2) (pa_cons (pe_op op_mul pe_int (pv 1)) pa_nil)))))) pa_nil))))), ?_⟩
  rintro ds K' ⟨n, ts, dt, tb, rfl, hn, k⟩
  obtain ⟨C, dts, rfl, hd, tc, ok, hl⟩ := id tb
  show wpS Gm.pure _ [.dat (tabD C (.tuple dts) (.tuple (ts.map et))), .no, .no] _
  refine wpS_seq (wpS_set (wpE_len (wpE.Q (wpE_things (wpE_var rfl ⟨C, _, _, rfl, tc.cls, tc.th, _, rfl, ?_⟩)))))
  rw [hd]
  refine wpS_seq (wpS_ret (wpE_tuple (wpN.Q (wpN_lc tg_name (by decide) rfl (wpI_rng1 (wpA_cons (wpE_var rfl (wpA_nil ⟨_, rfl, by omega, by omega, ?_⟩))))))))
  refine ⟨by omega, fun i acc => acc.length = i ∧ ∀ v l, acc[v]? = some l → LayOk ts n v (2 * n) l, ⟨rfl, fun v l h => by simp at h⟩, fun i acc d hi e ⟨h1, h2⟩ => ?_, fun acc ⟨h1, h2⟩ => k _ ⟨acc, rfl, by rw [h1]; omega, h2⟩⟩
  cases e
  refine ⟨_, rfl, wpT_yes ?_⟩
  rw [if_pos rfl]
  refine wpE_callP (wpA_cons (wpE_var rfl (wpA_cons (wpE_var rfl (wpA_cons (wpE_op opD_I (wpE_int (wpE_var rfl ⟨_, _, rfl, rfl, .inl (by decide), wpA_nil ⟨[_, _, _], rfl, n, ts, _, i, 2 * n, tb, ?_, by omega, fun l hlay => ⟨by rw [List.length_append, h1]; rfl, fun v x hx => ?_⟩⟩⟩))))))))
  · rw [show (2 : Int) * (n : Int) = ((2 * n : Nat) : Int) by omega]
  · by_cases hv : v < acc.length
    · rw [List.getElem?_append_left hv] at hx; exact h2 v x hx
    · rw [List.getElem?_append_right (by omega)] at hx
      have : v - acc.length = 0 := by
        cases q : v - acc.length with
        | zero => rfl
        | succ z => rw [q] at hx; simp at hx
      rw [this] at hx
      cases hx
      rw [show v = i by omega]; exact hlay
/-! ### reaches -/
def walksOf (bs : List Nat) : Nat := bs.foldl (fun f b => f * (b + 1)) 1
def ringsOf : List Nat → Nat
  | [] => 0
  | b :: bs => b * walksOf bs
abbrev encB (bs : List Nat) : PD := .tuple (bs.map en)
def okB (bs : List Nat) : Prop := ∀ b ∈ bs, b ≤ 1000
def p_walk_reach (ds : List PD) (K : PD → Prop) : Prop := ∃ bs : List Nat, ds = [encB bs] ∧ okB bs ∧ K (en (walksOf bs))
abbrev s_walk_reach : Stmt := top 22
abbrev N_walk_reach : List Str := ["batches", "found", "batch"]
theorem sc_walk_reach : FnScope N_walk_reach ["batches"] (defScope s_walk_reach) := ⟨rfl, rfl, rfl, by decide +kernel, rfl, by decide +kernel, by decide +kernel⟩

theorem ok_walk_reach (T : Tx mg) (D : Dn K mg "walk_reach" s_walk_reach) : Cl P w K mg base 1 "walk_reach" (SpP (p_walk_reach)) := by
  have sc := sc_walk_reach
  refine cl_pure D sc (fun _ _ _ _ _ _ us hl => match us, hl with | [_], _ => rfl) (fun ds K h => by obtain ⟨_, rfl, _⟩ := h; rfl) fun f cdv A outer s H E hr => ?_
  have hu := hr.units
  refine ⟨_, (pss_cons (ps_set (i := 1) sc.nd rfl (Or.inl rfl) pe_int)
    (pss_cons (ps_for PassesOwn.never rfl (pi_tup (pv 0)) (pg_name (i := 2) sc.nd rfl (by first | exact Or.inl rfl | exact Or.inr rfl))
      (pss_one (ps_set (i := 1) sc.nd rfl (Or.inl rfl) (pe_op op_mul (pv 1) (pe_op op_add (pv 2) pe_int)))))
    (pss_one (ps_ret (pv 1))))), ?_⟩
  rintro ds K' ⟨bs, rfl, ok, k⟩
  show wpS Gm.pure _ [.dat (encB bs), .no, .no] _
  refine wpS_seq (wpS_set (wpE_int (wpS_seq (wpS_for tg_name (wpI_tup (wpE_var rfl ⟨_, rfl, ?_⟩))))))
  refine ⟨fun i ρ => ∃ a, ρ = [.dat (encB bs), .dat (en ((bs.take i).foldl (fun f b => f * (b + 1)) 1)), a], ⟨_, rfl⟩, ?_, ?_⟩
  · rintro i d ρ' hi e ⟨a, rfl⟩
    obtain ⟨b, hb, rfl⟩ := map_get e
    refine ⟨_, rfl, ?_⟩
    have nx := foldl_take hb (fun f b => f * (b + 1)) 1
    generalize (bs.take i).foldl (fun f b => f * (b + 1)) 1 = f at nx
    show wpS Gm.pure _ [.dat (encB bs), .dat (en f), .dat (en b)] _
    refine wpS_seq (wpS_set (wpE_op opD_I (wpE_var rfl (wpE_op opD_I0 (wpE_var rfl (wpE_int ⟨_, _, rfl, rfl, _, _, rfl, rfl, .inr (by have := ok b (List.mem_of_getElem? hb); omega), ?_⟩))))))
    refine wpS_nil ⟨.dat (en b), ?_⟩
    rw [nx]
    show [_, Sl.dat (.int ((f : Int) * ((b : Int) + 1))), _] = _
    rw [show (f : Int) * ((b : Int) + 1) = ((f * (b + 1) : Nat) : Int) by push_cast; rfl]
  · rintro ρ' ⟨a, rfl⟩
    refine wpS_seq (wpS_ret (wpE_var rfl ?_))
    rw [List.length_map, List.take_length]; exact k
def p_ring_reach (ds : List PD) (K : PD → Prop) : Prop := ∃ bs : List Nat, ds = [encB bs] ∧ okB bs ∧ K (en (ringsOf bs))
theorem plain_en (n : Nat) : Plain 0 (en n) := ⟨rfl, Nat.le_refl _⟩
theorem plain_encB (bs : List Nat) : Plain 1 (encB bs) := plain_tup fun d h => by
  obtain ⟨x, _, rfl⟩ := List.mem_map.mp h
  exact plain_en x
theorem eqv_encB (a b : List Nat) : PyData.eqv (encB a) (encB b) = decide (a = b) := eqvAll_map (fun _ _ => eqv_nat) a b
theorem at_0 {α : Type} (x : α) (xs : List α) : atI (x :: xs) 0 = some x := atI_nat (j := 0) rfl
theorem cut_1 {α : Type} (x : α) (xs : List α) : cutD (x :: xs) (some 1) none = xs := by
  unfold cutD
  have e1 : HT.sIx (x :: xs).length 0 (some 1) = 1 := by
    simp [HT.sIx]
  have e2 : HT.sIx (x :: xs).length (x :: xs).length none = xs.length + 1 := by
    simp [HT.sIx]
  rw [e1, e2, List.drop_one, List.tail_cons, Nat.add_sub_cancel, List.take_length]
abbrev s_ring_reach : Stmt := top 23
abbrev N_ring_reach : List Str := ["batches"]
theorem sc_ring_reach : FnScope N_ring_reach ["batches"] (defScope s_ring_reach) := ⟨rfl, rfl, rfl, by decide +kernel, rfl, by decide +kernel, by decide +kernel⟩

theorem ok_ring_reach (T : Tx mg) (D : Dn K mg "ring_reach" s_ring_reach) (c_walk_reach : Cl P w K mg base 1 "walk_reach" (SpP (p_walk_reach))) : Cl P w K mg base 2 "ring_reach" (SpP (p_ring_reach)) := by
  have sc := sc_ring_reach
  refine cl_pure D sc (fun _ _ _ _ _ _ us hl => match us, hl with | [_], _ => rfl) (fun ds K h => by obtain ⟨_, rfl, _⟩ := h; rfl) fun f cdv A outer s H E hr => ?_
  have hu := hr.units
  refine ⟨_, (pss_cons (ps_if (pt_cmpR (opEq (F := K) hu) (pv 0) (pe_tup pa_nil) (nomark _)) (pss_one (ps_ret pe_int)) pss_nil)
    (pss_one (ps_ret (pe_op op_mul (pe_ix (ixSq (F := K)) (pv 0) pe_int (fun _ _ => rfl)) (pe_cl c_walk_reach hr (by decide) (by rfl) (pa_cons (pe_slice sl_tupA (pv 0) (po_some pe_int) po_none) pa_nil)))))), ?_⟩
  rintro ds K' ⟨bs, rfl, ok, k⟩
  show wpS Gm.pure _ [.dat (encB bs)] _
  refine wpS_seq (wpS_if (wpT_test (wpE_op opD_eq (wpE_var rfl (wpE_tup (wpA_nil ⟨[], rfl, le_ rfl, (plain_encB bs).shaped (by decide), rfl, _, rfl, ?_⟩))))))
  rw [show PyData.eqv (encB bs) (.tuple []) = decide (bs = []) from eqv_encB bs []]
  cases bs with
  | nil => exact wpS_seq (wpS_ret (wpE_int k))
  | cons b bs =>
    rw [decide_eq_false (by simp), if_neg Bool.false_ne_true]
    refine wpS_nil (wpS_seq (wpS_ret (wpE_op opD_I (wpE_op opD_ix (wpE_var rfl (wpE_int ⟨_, _, _, rfl, rfl, at_0 _ _, ?_⟩))))))
    refine wpE_callP (wpA_cons (wpE_slT (wpE_var rfl ⟨_, rfl, wpO_some (wpE_int ⟨_, rfl, wpO_none (wpA_nil ⟨[_], rfl, bs, ?_, fun x hx => ok x (List.mem_cons_of_mem _ hx), (b : Int), ((walksOf bs : Nat) : Int), rfl, rfl, .inl ?_, ?_⟩)⟩)⟩)))
    · rw [List.map_cons, cut_1]
    · have := ok b List.mem_cons_self
      omega
    · show K' (.int ((b : Int) * ((walksOf bs : Nat) : Int)))
      rw [show (b : Int) * ((walksOf bs : Nat) : Int) = ((b * walksOf bs : Nat) : Int) by push_cast; rfl]
      exact k
/-! ### limits -/
def eoN : Option Nat → PD
  | none => .none
  | some n => en n
def below1 (x : Nat) : Option Nat → Bool
  | none => true
  | some l => decide (x < l)
def p_is_below (ds : List PD) (K : PD → Prop) : Prop := ∃ (x : Nat) (l : Option Nat), ds = [en x, eoN l] ∧ K (.bool (below1 x l))
abbrev s_is_below : Stmt := top 38
abbrev N_is_below : List Str := ["number", "limit"]
theorem sc_is_below : FnScope N_is_below ["number", "limit"] (defScope s_is_below) := ⟨rfl, rfl, rfl, by decide +kernel, rfl, by decide +kernel, by decide +kernel⟩

theorem ok_is_below (T : Tx mg) (D : Dn K mg "is_below" s_is_below) : Cl P w K mg base 1 "is_below" (SpP (p_is_below)) := by
  have sc := sc_is_below
  refine cl_pure D sc (fun _ _ _ _ _ _ us hl => match us, hl with | [_, _], _ => rfl) (fun ds K h => by obtain ⟨_, _, rfl, _⟩ := h; rfl) fun f cdv A outer s H E hr => ?_
  have hu := hr.units
  refine ⟨_, (pss_one (ps_ret (pe_or (pe_cmpR op_isN (pv 1) pe_non (nomark _)) (pe_one (pe_cmpR op_lt (pv 0) (pv 1) (nomark _)))))), ?_⟩
  rintro ds K' ⟨x, l, rfl, k⟩
  show wpS Gm.pure _ [.dat (en x), .dat (eoN l)] _
  refine wpS_ret (wpE_orV (wpE_op opD_is (wpE_var rfl (wpE_non ⟨rfl, _, rfl, ?_⟩))))
  cases l with
  | none => exact k
  | some l =>
    refine wpE_op opD_B0 (wpE_var rfl (wpE_var rfl ⟨_, _, rfl, rfl, ?_⟩))
    show K' (.bool (decide ((x : Int) < (l : Int))))
    rw [show decide ((x : Int) < (l : Int)) = decide (x < l) by simp]
    exact k
abbrev encP (p : Option Nat × Option Nat) : PD := .tuple [eoN p.1, eoN p.2]
def belowP (p : Option Nat × Option Nat) (r : Nat × Nat) : Bool := below1 r.1 p.1 && below1 r.2 p.2
def p_reaches_fit (ds : List PD) (K : PD → Prop) : Prop := ∃ (p : Option Nat × Option Nat) (r : Nat × Nat), ds = [encP p, en r.1, en r.2] ∧ K (.bool (belowP p r))
abbrev s_reaches_fit : Stmt := top 39
abbrev N_reaches_fit : List Str := ["pair", "walks", "rings"]
theorem sc_reaches_fit : FnScope N_reaches_fit ["pair", "walks", "rings"] (defScope s_reaches_fit) := ⟨rfl, rfl, rfl, by decide +kernel, rfl, by decide +kernel, by decide +kernel⟩

theorem ok_reaches_fit (T : Tx mg) (D : Dn K mg "reaches_fit" s_reaches_fit) (c_is_below : Cl P w K mg base 1 "is_below" (SpP (p_is_below))) : Cl P w K mg base 2 "reaches_fit" (SpP (p_reaches_fit)) := by
  have sc := sc_reaches_fit
  refine cl_pure D sc (fun _ _ _ _ _ _ us hl => match us, hl with | [_, _, _], _ => rfl) (fun ds K h => by obtain ⟨_, _, rfl, _⟩ := h; rfl) fun f cdv A outer s H E hr => ?_
  have hu := hr.units
  refine ⟨_, (pss_one (ps_ret (pe_and (pe_cl c_is_below hr (by decide) (by rfl) (pa_cons (pv 1) (pa_cons (pe_ix (ixSq (F := K)) (pv 0) pe_int (fun _ _ => rfl)) pa_nil))) (pe_one (pe_cl c_is_below hr (by decide) (by rfl) (pa_cons (pv 2) (pa_cons (pe_ix (ixSq (F := K)) (pv 0) pe_int (fun _ _ => rfl)) pa_nil))))))), ?_⟩
  rintro ds K' ⟨p, r, rfl, k⟩
  show wpS Gm.pure _ [.dat (encP p), .dat (en r.1), .dat (en r.2)] _
  refine wpS_ret (wpE_andV (wpE_callP (wpA_cons (wpE_var rfl (wpA_cons (wpE_op opD_ix (wpE_var rfl (wpE_int ⟨_, _, _, rfl, rfl, rfl, wpA_nil ⟨[_, _], rfl, _, _, rfl, _, rfl, ?_⟩⟩))))))))
  cases h : below1 r.1 p.1 with
  | false =>
    rw [if_neg Bool.false_ne_true]
    rw [belowP, h] at k; exact k
  | true =>
    rw [if_pos rfl]
    refine wpE_callP (wpA_cons (wpE_var rfl (wpA_cons (wpE_op opD_ix (wpE_var rfl (wpE_int ⟨_, _, _, rfl, rfl, rfl, wpA_nil ⟨[_, _], rfl, _, _, rfl, ?_⟩⟩))))))
    rw [belowP, h] at k; exact k
end

end K42
/-! text DLj -/
set_option Elab.async false
set_option linter.all false
set_option maxRecDepth 100000
set_option maxHeartbeats 2000000
/-! Defs that are called by two keywords, the second parameter first. -/
namespace K42
open PySem PySem.Spec PyProof.Rows L2
section
variable {P : Program} {w : World} {K : PySem.W.Frag} {mg : Str → Option Value} {base : Heap} {k : Nat} {N ps : List Str} {sp : Sp} {x a b : Str} {st : Stmt}
/-- the promise of every function object that is this def's -/
def Fo (P : Program) (w : World) (K : PySem.W.Frag) (mg : Str → Option Value) (base : Heap) (k : Nat) (x : Str) (st : Stmt) (ps : List Str) (sp : Sp) : Prop :=
  ∀ f fd, FunD K x x (defArgs st) (defBody st) (defScope st) [] [] f fd → FnOk P w K mg base CX0 k f fd ps sp
theorem fo_pure {Pf : List PD → (PD → Prop) → Prop} (S : FnScope N ps (defScope st)) (len : ∀ ds K, Pf ds K → ds.length = ps.length)
    (hbody : ∀ (f : Addr) (cdv : Value) (A : Around) (outer : List Env) (s : Shared) (H : Hp) (E : XK), Room k (A.deeper (envOfC x (defScope st) s.heap.objs.size f cdv)) →
      ∃ t, PSs (cxOf CX0 P w K mg base N x (defScope st) f cdv A outer s H E).nox (defBody st) t ∧ ∀ ds K, Pf ds K → wpS Gm.pure t (rho N.length (ds.map .dat)) (DEp K)) : Fo P w K mg base (k + 1) x st ps (SpP Pf) := fun f fd F =>
  F.ok S (fun vs H Q E h => by
    obtain ⟨A, ds, K, _, r, p, _⟩ := h
    rw [r.length]
    exact len ds K p) fun cdv A outer s H vs Q E hr h => by
    obtain ⟨t, a, b⟩ := hbody f cdv A outer s H E hr
    obtain ⟨A', ds, K', xd, r, p, q⟩ := h
    refine ⟨t, a.nox, run_pure xd r ?_ q (b ds K' p)⟩
    rw [len ds K' p]
    have := congrArg List.length S.pre
    rw [List.length_take] at this
    omega
theorem cl_fo (D : Dn K mg x st) (hb : bindsOk x st ps) (F : Fo P w K mg base k x st ps sp) : Cl P w K mg base k x sp := by
  obtain ⟨f, fd, Fd, m⟩ := D
  exact ⟨f, fd, ps, F f fd Fd, m, Fd.kp, Fd.bindsN hb⟩
/-- the name x may be called by b = .., a = .. -/
def Cw (P : Program) (w : World) (K : PySem.W.Frag) (mg : Str → Option Value) (base : Heap) (k : Nat) (x a b : Str) (sp : Sp) : Prop := ∃ f fd, FnOk P w K mg base CX0 k f fd [a, b] sp ∧ mg x = some (.ref f) ∧ PySem.W.keepIn K (.ref f) = true ∧
  ∀ (s : Shared) (u v : Value), BindsTo s fd ⟨[], [(b, u), (a, v)]⟩ [(a, v), (b, u)]
theorem cw_fo (D : Dn K mg x st) (hb : ∀ (kV doc pm : Value) (an : Option Addr) (cdv ct : Value) (u v : Value), bindArgs (PySem.W.fnOf x x (defArgs st) (defBody st) (defScope st) .none kV doc pm an cdv ct) ⟨[], [(b, u), (a, v)]⟩ = pure [(a, v), (b, u)]) (F : Fo P w K mg base k x st [a, b] sp) : Cw P w K mg base k x a b sp := by
  obtain ⟨f, fd, Fd, m⟩ := D
  refine ⟨f, fd, F f fd Fd, m, Fd.kp, fun s u v => ?_⟩
  obtain ⟨oc, od, dV, kV, doc, pm, an, cdv, ct, osl, rfl, lk, hcd, hD, hK⟩ := Fd.ex
  rcases hD with ⟨_, rfl⟩ | ⟨e, _⟩
  · exact .of_eq (hb kV doc pm an cdv ct u v)
  · exact absurd rfl e
end
section
variable {X : Cx} {x a b : Str} {p pos k1 k2 : Pos} {e1 e2 : Expr} {t1 t2 : TE} {sp : Sp} {k j : Nat}
def tKw (sp : Sp) (E : XK) (t1 t2 : TE) : TE := fun σ H Q => t1 σ H fun z1 H1 => t2 σ H1 fun z2 H2 => sp [z2, z1] H2 Q E
theorem pe_cw (c : Cw X.prog X.w X.K X.mg X.base k x a b sp) (hr : Room j X.A) (hk : k ≤ j) (hg : Gl X x) (h1 : PE X e1 t1) (h2 : PE X e2 t2)
    (hdb : (x == ("__debug__" : Str)) = false := by decide) (hall : (backToKw pos (keywordEach [⟨some b, e1, k1⟩, ⟨some a, e2, k2⟩] X.env)).all (·.1.isSome) = true := by rfl) (hks : (backToKw pos (keywordEach [⟨some b, e1, k1⟩, ⟨some a, e2, k2⟩] X.env)).filterMap (·.1) = [b, a] := by rfl)
    (hpl : ((backTo pos (starEach [] X.env)).any (·.1) || (backToKw pos (keywordEach [⟨some b, e1, k1⟩, ⟨some a, e2, k2⟩] X.env)).any (·.1.isNone)) = false := by rfl) :
    PE X (.Call (.Name x p) [] [⟨some b, e1, k1⟩, ⟨some a, e2, k2⟩] pos) (tKw sp E0 t1 t2) := by
  obtain ⟨f, fd, F, hm, kp, bind⟩ := c
  have hkw : PK X [⟨some b, e1, k1⟩, ⟨some a, e2, k2⟩] (tCons t1 (tCons t2 tNil)) := pk_cons h1 (pk_cons h2 pk_nil)
  refine ⟨fun pins s σ H Q I h => wpAny_Call_Name_kw (ld_glob I hg hm (PySem.W.callWith_KW0 (h₀ := X.base) I.ok.mod.kin kp hall (thn (hkw.run pos pins s σ H (fun zs H2 => match zs with | [z1, z2] => sp [z2, z1] H2 Q E0 | _ => False) I ?_) fun ws s2 ⟨zs, H2, I2, rz, q2⟩ => ⟨I2.kIn, ?_⟩) hpl) hdb)⟩
  · exact h
  · rw [hks]
    obtain ⟨z1, z2, rfl⟩ : ∃ z1 z2, zs = [z1, z2] := by
      match zs, q2 with
      | [z1, z2], _ => exact ⟨z1, z2, rfl⟩
    have q2 : sp [z2, z1] H2 Q E0 := q2
    obtain ⟨u, v, rfl, ru, rv⟩ : ∃ u v, ws = [u, v] ∧ RelV z1 u ∧ RelV z2 v := vals2 rz
    refine wpAny_call (codeAny_mono (F.run X.A X.stack s2 H2 ⟨[], [(b, u), (a, v)]⟩ [v, u] [z2, z1] Q E0 (hr.mono hk) I2.env0 (bind s2 u v) (.cons rv (.cons ru .nil)) q2) fun res s' out => ?_)
    cases res with
    | error e => exact pass0 pins σ H2 s2 e s' I2 out
    | ok fl =>
      cases fl with
      | ret u => exact I2.after out
      | next => exact out.elim
      | brk => exact out.elim
      | cont => exact out.elim
variable {G : Gm} {ρ : Rho} {Pf : List PD → (PD → Prop) → Prop} {Kd : PD → Prop} {E : XK}
theorem wpE_kw (h : wpE G t1 ρ fun d1 => wpE G t2 ρ fun d2 => Pf [d2, d1] Kd) : wpE G (tKw (SpP Pf) E t1 t2) ρ Kd := fun Y o σ H V Q q => h Y o σ H V _ fun v1 H1 d1 f1 s1 r1 h => h Y o σ H1 (V.step f1 s1) _ fun v2 H2 d2 f2 s2 r2 p => by
  have V2 := (V.step f1 s1).step f2 s2
  exact ⟨Av Y o ρ, [d2, d1], Kd, fun b z => V2.dom z, .cons r2 (.cons (r1.fr V.nav f2) .nil), p, fun v H' d e r k => q v H' d ((f1.trans f2).trans e.fr) (G.mono _ _ s2 e) r k⟩
end
end K42
/-! text P3 -/
set_option Elab.async false
set_option linter.all false
set_option maxRecDepth 100000
set_option maxHeartbeats 4000000
namespace K42
open PySem PySem.Spec PyProof.Rows L2

/-! The program's defs over data, 3: times, limits, tables. -/
section
variable {P : Program} {w : World} {K : PySem.W.Frag} {mg : Str → Option Value} {base : Heap}
def isTimeD : PD → Bool
  | .int i => decide ((if i < 0 then -i else i) ≤ 1000000000)
  | _ => false
def p_is_time (ds : List PD) (K : PD → Prop) : Prop := ∃ d, ds = [d] ∧ noTab d ∧ K (.bool (isTimeD d))
abbrev s_is_time : Stmt := top 28
abbrev N_is_time : List Str := ["value"]
theorem sc_is_time : FnScope N_is_time ["value"] (defScope s_is_time) := ⟨rfl, rfl, rfl, by decide +kernel, rfl, by decide +kernel, by decide +kernel⟩

theorem ok_is_time (T : Tx mg) (D : Dn K mg "is_time" s_is_time) (c_is_integer : Cl P w K mg base 1 "is_integer" (SpP (p_is_integer))) : Cl P w K mg base 2 "is_time" (SpP (p_is_time)) := by
  have sc := sc_is_time
  refine cl_pure D sc (fun _ _ _ _ _ _ us hl => match us, hl with | [_], _ => rfl) (fun ds K h => by obtain ⟨_, rfl, _⟩ := h; rfl) fun f cdv A outer s H E hr => ?_
  have hu := hr.units
  refine ⟨_, (pss_one (ps_ret (pe_and (pe_cl c_is_integer hr (by first | decide | omega) (by rfl) (pa_cons (pv 0) pa_nil)) (pe_one (pe_cmpR op_le (pe_callB call_abs (by rfl) T.b_abs (by decide +kernel) (pa_cons (pv 0) pa_nil)) (pe_k rfl T.MOST_TIME) (nomark _)))))), ?_⟩
  rintro ds K' ⟨d, rfl, nt, k⟩
  show wpS Gm.pure _ [.dat d] _
  refine wpS_ret (wpE_andV (wpE_callP (wpA_cons (wpE_var rfl (wpA_nil ⟨[d], rfl, d, rfl, nt, _, rfl, ?_⟩)))))
  cases d with
  | int i => exact wpE_op opD_B0 (wpE_abs (wpE_var rfl ⟨_, rfl, wpE_int ⟨_, _, rfl, rfl, k⟩⟩))
  | _ => exact k
/-- times that may be handed in -/
def okTm (ts : Tms) : Prop := ∀ x ∈ ts, ∀ i, x = some i → (if i < 0 then -i else i) ≤ 1000000000
theorem nt_eo (x : Option Int) : noTab (eo x) := fun k => by cases x <;> exact nofun
def p_check_times (F : PySem.W.Frag) (ds : List PD) (K : PD → Prop) : Prop := ∃ (n : Nat) (ts : List TieT) (dt : PD) (tms : Tms), TbD F n ts dt ∧ ds = [dt, encT tms] ∧ tms.length = n ∧ okTm tms ∧ K .none
abbrev s_check_times : Stmt := top 29
abbrev N_check_times : List Str := ["table", "value", "thing", "item"]
theorem sc_check_times : FnScope N_check_times ["table", "value"] (defScope s_check_times) := ⟨rfl, rfl, rfl, by decide +kernel, rfl, by decide +kernel, by decide +kernel⟩

theorem ok_check_times (T : Tx mg) (D : Dn K mg "check_times" s_check_times) (c_is_time : Cl P w K mg base 2 "is_time" (SpP (p_is_time))) : Cl P w K mg base 3 "check_times" (SpP (p_check_times K)) := by
  have sc := sc_check_times
  refine cl_pure D sc (fun _ _ _ _ _ _ us hl => match us, hl with | [_, _], _ => rfl) (fun ds K h => by obtain ⟨_, _, _, _, _, rfl, _⟩ := h; rfl) fun f cdv A outer s H E hr => ?_
  have hu := hr.units
  refine ⟨_, (pss_cons (ps_if (PW.pt (pw_or (pt_not (pt_val (pe_callB call_isi (by rfl) T.b_isinstance (by decide +kernel) (pa_cons (pv 1) (pa_cons (pe_bltn (v := .ty "tuple") (by rfl) T.b_tuple (by decide +kernel) rfl) pa_nil))))) (pw_or1 (pt_cmpR (opNe (F := K) hu) (pe_callB (lenSq (F := K)) (by rfl) T.b_len (by decide +kernel) (pa_cons (pv 1) pa_nil)) (pe_callB (lenSq (F := K)) (by rfl) T.b_len (by decide +kernel) (pa_cons (pe_fld (pv 0) rfl) pa_nil)) (nomark _))))) (pss_one ps_never) pss_nil)
    (pss_one (ps_for PassesOwn.never rfl (pi_enumT (by rfl) T.b_enumerate (pa_cons (pv 1) pa_nil)) (pg_tup rfl (pgs_cons (pg_name (i := 2) sc.nd rfl (by first | exact Or.inl rfl | exact Or.inr rfl)) (pgs_cons (pg_name (i := 3) sc.nd rfl (by first | exact Or.inl rfl | exact Or.inr rfl)) pgs_nil)))
      (pss_one (ps_if (PW.pt (pw_and (pt_cmpR op_notN (pv 3) pe_non (nomark _)) (pw_and1 (pt_not (pt_val (pe_cl c_is_time hr (by first | decide | omega) (by rfl) (pa_cons (pv 3) pa_nil))))))) (pss_one ps_never) pss_nil))))), ?_⟩
  rintro ds K' ⟨n, ts, dt, tms, ⟨C, dts, rfl, hd, tc, ok, hl⟩, rfl, hn, hk, k⟩
  show wpS Gm.pure _ [.dat (tabD C (.tuple dts) (.tuple (ts.map et))), .dat (encT tms), .no, .no] _
  refine wpS_seq (wpS_if (wpT_or (wpT_not (wpT_test (wpE_isi (wpE_var rfl ⟨true, kit_tuple nofun, nofun, _, rfl, ?_⟩))))))
  refine wpT_test (wpE_op opD_ne (wpE_len (wpE.Q (wpE_var rfl ⟨_, rfl, wpE_len (wpE.Q (wpE_things (wpE_var rfl ⟨C, _, _, rfl, tc.cls, tc.th, _, rfl, rfl, rfl, _, rfl, ?_⟩)))⟩))))
  rw [List.length_map, hn, hd, show PyData.eqv (en n) (en n) = decide (n = n) from eqv_nat, decide_eq_true rfl]
  refine wpS_nil (wpS_seq (wpS_for (tg_tup (js := [2, 3]) rfl rfl) (wpI_enumT (wpA_cons (wpE_var rfl (wpA_nil ⟨_, rfl, ?_⟩))))))
  refine ⟨fun _ ρ => ∃ a b, ρ = [.dat (tabD C (.tuple dts) (.tuple (ts.map et))), .dat (encT tms), a, b], ⟨_, _, rfl⟩, ?_, fun _ _ => wpS_nil k⟩
  rintro i d ρ' hi e ⟨a, b, rfl⟩
  obtain ⟨x, hx, rfl⟩ := enum_get e
  refine ⟨_, rfl, ?_⟩
  show wpS Gm.pure _ [.dat (tabD C (.tuple dts) (.tuple (ts.map et))), .dat (encT tms), .dat (en i), .dat (eo x)] _
  refine wpS_seq (wpS_if (wpT_and (wpT_test (wpE_op opD_isnt (wpE_var rfl (wpE_non ⟨rfl, _, rfl, ?_⟩))))))
  cases x with
  | none => exact wpS_nil (wpS_nil ⟨_, _, rfl⟩)
  | some t =>
    refine wpT_not (wpT_test (wpE_callP (wpA_cons (wpE_var rfl (wpA_nil ⟨[_], rfl, _, rfl, nt_eo _, _, rfl, ?_⟩)))))
    rw [show isTimeD (eo (some t)) = true from decide_eq_true (hk _ (List.mem_of_getElem? hx) t rfl)]
    exact wpS_nil (wpS_nil ⟨_, _, rfl⟩)
def isBatchD (d : PD) : Bool := match d with
  | .int i => decide (0 ≤ i) && (decide (1 ≤ i) && decide (i ≤ 100))
  | _ => false
def areBD : PD → Bool
  | .tuple ds => decide (ds.length ≤ 60) && ds.all isBatchD
  | _ => false
def p_are_batches (ds : List PD) (K : PD → Prop) : Prop := ∃ d, ds = [d] ∧ noTab d ∧ (∀ xs, d = .tuple xs → ∀ x ∈ xs, noTab x) ∧ K (.bool (areBD d))
abbrev s_are_batches : Stmt := top 30
abbrev N_are_batches : List Str := ["value", "item"]
theorem sc_are_batches : FnScope N_are_batches ["value"] (defScope s_are_batches) := ⟨rfl, rfl, rfl, by decide +kernel, rfl, by decide +kernel, by decide +kernel⟩

theorem ok_are_batches (T : Tx mg) (D : Dn K mg "are_batches" s_are_batches) (c_is_number : Cl P w K mg base 2 "is_number" (SpP (p_is_number))) : Cl P w K mg base 3 "are_batches" (SpP (p_are_batches)) := by
  have sc := sc_are_batches
  refine cl_pure D sc (fun _ _ _ _ _ _ us hl => match us, hl with | [_], _ => rfl) (fun ds K h => by obtain ⟨_, rfl, _⟩ := h; rfl) fun f cdv A outer s H E hr => ?_
  have hu := hr.units
  refine ⟨_, (pss_cons (ps_if (PW.pt (pw_or (pt_not (pt_val (pe_callB call_isi (by rfl) T.b_isinstance (by decide +kernel) (pa_cons (pv 0) (pa_cons (pe_bltn (v := .ty "tuple") (by rfl) T.b_tuple (by decide +kernel) rfl) pa_nil))))) (pw_or1 (pt_cmpR op_gt (pe_callB (lenSq (F := K)) (by rfl) T.b_len (by decide +kernel) (pa_cons (pv 0) pa_nil)) (pe_k rfl T.MOST_BATCHES) (nomark _))))) (pss_one (ps_ret pe_bl)) pss_nil)
    (pss_one (ps_ret (pe_callB (cr_all rfl) (by rfl) T.b_all (by decide +kernel) (pa_cons (pe_lc (own := [("item", 1)]) (g := gName 1) (by rfl) sc.nd (pi_tup (pv 0)) (blkOk_by (own := [("item", 1)]) (N := N_are_batches) (sc := (defScope s_are_batches)) (by decide +kernel)) (fun _ _ _ _ _ => (pg_name (i := 1) sc.nd rfl (by first | exact Or.inl rfl | exact Or.inr rfl))) (fun _ _ _ _ _ => pts_nil) (fun _ _ _ _ _ => (pe_and (pe_cl c_is_number hr (by first | decide | omega) (by rfl) (pa_cons (pv 1) pa_nil)) (pe_one (pe_chain op_le op_le pe_int (pv 1) (pe_k rfl T.MOST_IN_BATCH)))))) pa_nil))))), ?_⟩
  rintro ds K' ⟨d, rfl, nt, nx, k⟩
  show wpS Gm.pure _ [.dat d, .no] _
  refine wpS_seq (wpS_if (wpT_or (wpT_not (wpT_test (wpE_isi (wpE_var rfl ⟨_, kit_tuple nt, nt, _, rfl, ?_⟩))))))
  by_cases ht : ∃ xs, d = .tuple xs
  · obtain ⟨xs, rfl⟩ := ht
    refine wpT_test (wpE_op opD_B0 (wpE_len (wpE.Q (wpE_var rfl ⟨_, rfl, wpE_int ⟨_, _, rfl, rfl, _, rfl, ?_⟩⟩))))
    by_cases hl : xs.length ≤ 60
    · rw [decide_eq_false (show ¬ ((60 : Int) < (xs.length : Int)) by omega), if_neg Bool.false_ne_true]
      refine wpS_nil (wpS_seq (wpS_ret (wpE_all (wpN.L (wpN_lcS tg_name (by decide) rfl (wpI_tup (wpE_var rfl ⟨_, rfl, ?_⟩)))))))
      refine ⟨by omega, PD, xs, id, fun _ => true, fun x => .bool (isBatchD x), ⟨rfl, fun i => by rw [Option.map_id]; rfl⟩, fun i x hx => ⟨_, rfl, wpT_yes ⟨rfl, fun _ => ?_⟩⟩, xs.map isBatchD, ?_, ?_⟩
      · refine wpE_andV (wpE_callP (wpA_cons (wpE_var rfl (wpA_nil ⟨[x], rfl, x, rfl, nx xs rfl x (List.mem_of_getElem? hx), _, rfl, ?_⟩))))
        cases x with
        | int i =>
          show if decide (0 ≤ i) = true then _ else _
          by_cases h0 : 0 ≤ i
          · rw [decide_eq_true h0, if_pos rfl]
            refine wpE_chain opD_B0 opD_B0 (wpE_int (wpE_var rfl ⟨_, _, rfl, rfl, _, rfl, ?_⟩))
            by_cases h1 : 1 ≤ i
            · rw [decide_eq_true h1, if_pos rfl]
              refine wpE_int ⟨_, _, rfl, rfl, ?_⟩
              show PyData.bool _ = .bool (isBatchD (.int i))
              rw [isBatchD, decide_eq_true h0, decide_eq_true h1]; rfl
            · rw [decide_eq_false h1, if_neg Bool.false_ne_true]
              show PyData.bool _ = .bool (isBatchD (.int i))
              rw [isBatchD, decide_eq_true h0, decide_eq_false h1]; rfl
          · rw [decide_eq_false h0, if_neg Bool.false_ne_true]
            show PyData.bool _ = .bool (isBatchD (.int i))
            rw [isBatchD, decide_eq_false h0]; rfl
        | _ => rfl
      · rw [filter_yes, List.map_map]; rfl
      · have e : areBD (.tuple xs) = (xs.map isBatchD).all id := by
          rw [areBD, decide_eq_true hl, Bool.true_and, List.all_map]; rfl
        show K' _
        rw [← e]; exact k
    · rw [decide_eq_true (show ((60 : Int) < (xs.length : Int)) by omega), if_pos rfl]
      refine wpS_seq (wpS_ret (wpE_bl ?_))
      rw [areBD, decide_eq_false hl] at k; exact k
  · have e : isTupD d = false ∧ areBD d = false := by cases d <;> first | exact ⟨rfl, rfl⟩ | exact absurd ⟨_, rfl⟩ ht
    rw [e.1]
    refine wpS_seq (wpS_ret (wpE_bl ?_))
    rw [e.2] at k; exact k
theorem areB_ok {bs : List Nat} (l : bs.length ≤ 60) (h : ∀ b ∈ bs, 1 ≤ b ∧ b ≤ 100) : areBD (encB bs) = true := by
  show (decide ((bs.map en).length ≤ 60) && (bs.map en).all isBatchD) = true
  rw [List.length_map, decide_eq_true l, Bool.true_and, List.all_map, List.all_eq_true]
  intro b hb
  obtain ⟨h1, h2⟩ := h b hb
  show (decide ((0 : Int) ≤ (b : Int)) && (decide ((1 : Int) ≤ (b : Int)) && decide ((b : Int) ≤ 100))) = true
  rw [decide_eq_true (by omega), decide_eq_true (by omega), decide_eq_true (by omega)]; rfl
def okBs (bs : List Nat) : Prop := bs.length ≤ 60 ∧ ∀ b ∈ bs, 1 ≤ b ∧ b ≤ 100
def p_check_batches (ds : List PD) (K : PD → Prop) : Prop := ∃ bs, ds = [encB bs] ∧ okBs bs ∧ K .none
abbrev s_check_batches : Stmt := top 31
abbrev N_check_batches : List Str := ["value"]
theorem sc_check_batches : FnScope N_check_batches ["value"] (defScope s_check_batches) := ⟨rfl, rfl, rfl, by decide +kernel, rfl, by decide +kernel, by decide +kernel⟩

theorem ok_check_batches (T : Tx mg) (D : Dn K mg "check_batches" s_check_batches) (c_are_batches : Cl P w K mg base 3 "are_batches" (SpP (p_are_batches))) : Cl P w K mg base 4 "check_batches" (SpP (p_check_batches)) := by
  have sc := sc_check_batches
  refine cl_pure D sc (fun _ _ _ _ _ _ us hl => match us, hl with | [_], _ => rfl) (fun ds K h => by obtain ⟨_, rfl, _⟩ := h; rfl) fun f cdv A outer s H E hr => ?_
  have hu := hr.units
  refine ⟨_, (pss_one (ps_if (pt_not (pt_val (pe_cl c_are_batches hr (by first | decide | omega) (by rfl) (pa_cons (pv 0) pa_nil)))) (pss_one ps_never) pss_nil)), ?_⟩
  rintro ds K' ⟨bs, rfl, ⟨ok, ok2⟩, k⟩
  show wpS Gm.pure _ [.dat (encB bs)] _
  refine wpS_seq (wpS_if (wpT_not (wpT_test (wpE_callP (wpA_cons (wpE_var rfl (wpA_nil ⟨[_], rfl, _, rfl, nofun, ?_, true, ?_, wpS_nil (wpS_nil k)⟩))))))) 
  · rintro xs e x hx
    cases e
    obtain ⟨y, _, rfl⟩ := List.mem_map.mp hx
    exact nofun
  · rw [areB_ok ok ok2]
def p_is_within (ds : List PD) (K : PD → Prop) : Prop := ∃ (p : Option Nat × Option Nat) (bs : List Nat), ds = [encP p, encB bs] ∧ okBs bs ∧ K (.bool (belowP p (walksOf bs, ringsOf bs)))
abbrev s_is_within : Stmt := top 40
abbrev N_is_within : List Str := ["pair", "batches"]
theorem sc_is_within : FnScope N_is_within ["pair", "batches"] (defScope s_is_within) := ⟨rfl, rfl, rfl, by decide +kernel, rfl, by decide +kernel, by decide +kernel⟩

theorem fo_is_within (T : Tx mg) (c_check_batches : Cl P w K mg base 4 "check_batches" (SpP (p_check_batches))) (c_reaches_fit : Cl P w K mg base 2 "reaches_fit" (SpP (p_reaches_fit))) (c_walk_reach : Cl P w K mg base 1 "walk_reach" (SpP (p_walk_reach))) (c_ring_reach : Cl P w K mg base 2 "ring_reach" (SpP (p_ring_reach))) : Fo P w K mg base 5 "is_within" s_is_within ["pair", "batches"] (SpP (p_is_within)) := by
  have sc := sc_is_within
  refine fo_pure sc (fun ds K h => by obtain ⟨_, _, rfl, _⟩ := h; rfl) fun f cdv A outer s H E hr => ?_
  have hu := hr.units
  refine ⟨_, (pss_cons (ps_expr (pe_cl c_check_batches hr (by first | decide | omega) (by rfl) (pa_cons (pv 1) pa_nil)))
    (pss_one (ps_ret (pe_cl c_reaches_fit hr (by first | decide | omega) (by rfl) (pa_cons (pv 0) (pa_cons (pe_cl c_walk_reach hr (by first | decide | omega) (by rfl) (pa_cons (pv 1) pa_nil)) (pa_cons (pe_cl c_ring_reach hr (by first | decide | omega) (by rfl) (pa_cons (pv 1) pa_nil)) pa_nil))))))), ?_⟩
  rintro ds K' ⟨p, bs, rfl, ok, k⟩
  have okb : okB bs := fun b hb => by have := (ok.2 b hb).2; omega
  show wpS Gm.pure _ [.dat (encP p), .dat (encB bs)] _
  refine wpS_seq (wpS_drop (wpE_callP (wpA_cons (wpE_var rfl (wpA_nil ⟨[_], rfl, bs, rfl, ok, ?_⟩)))))
  exact wpS_seq (wpS_ret (wpE_callP (wpA_cons (wpE_var rfl (wpA_cons (wpE_callP (wpA_cons (wpE_var rfl (wpA_nil ⟨[_], rfl, bs, rfl, okb, wpA_cons (wpE_callP (wpA_cons (wpE_var rfl (wpA_nil ⟨[_], rfl, bs, rfl, okb, wpA_nil ⟨[_, _, _], rfl, p, (walksOf bs, ringsOf bs), rfl, k⟩⟩))))⟩)))))))))
theorem ok_is_within (T : Tx mg) (D : Dn K mg "is_within" s_is_within) (c_check_batches : Cl P w K mg base 4 "check_batches" (SpP (p_check_batches))) (c_reaches_fit : Cl P w K mg base 2 "reaches_fit" (SpP (p_reaches_fit))) (c_walk_reach : Cl P w K mg base 1 "walk_reach" (SpP (p_walk_reach))) (c_ring_reach : Cl P w K mg base 2 "ring_reach" (SpP (p_ring_reach))) : Cl P w K mg base 5 "is_within" (SpP (p_is_within)) := cl_fo D (fun _ _ _ _ _ _ us hl => match us, hl with | [_, _], _ => rfl) (fo_is_within T c_check_batches c_reaches_fit c_walk_reach c_ring_reach)
theorem kw_is_within (T : Tx mg) (D : Dn K mg "is_within" s_is_within) (c_check_batches : Cl P w K mg base 4 "check_batches" (SpP (p_check_batches))) (c_reaches_fit : Cl P w K mg base 2 "reaches_fit" (SpP (p_reaches_fit))) (c_walk_reach : Cl P w K mg base 1 "walk_reach" (SpP (p_walk_reach))) (c_ring_reach : Cl P w K mg base 2 "ring_reach" (SpP (p_ring_reach))) : Cw P w K mg base 5 "is_within" "pair" "batches" (SpP (p_is_within)) := cw_fo D (fun _ _ _ _ _ _ _ _ => rfl) (fo_is_within T c_check_batches c_reaches_fit c_walk_reach c_ring_reach)
/-! ### limits -/
def tAt (ts : Tms) (i : Nat) : Int := (ts.getD i none).getD 0
def shortAt (ties : List TieT) (n : Nat) (tms : Tms) (m one other : Nat) : Bool := match (rowAt ties n one m).getD other none with
  | none => false
  | some x => decide (tAt tms other - tAt tms one < x)
def tooShort (ties : List TieT) (n : Nat) (tms : Tms) (m : Nat) : Bool := (comeL tms).any fun one => (comeL tms).any fun other => shortAt ties n tms m one other
theorem any_take {α : Type} {xs : List α} {i : Nat} {x : α} (h : xs[i]? = some x) (p : α → Bool) (hp : (xs.take i).any p = false) (hx : p x = false) : (xs.take (i + 1)).any p = false := by
  rw [List.take_add_one, h, List.any_append, hp]
  show (false || ([x].any p)) = false
  simp [hx]
theorem any_at {α : Type} {xs : List α} {i : Nat} {x : α} (h : xs[i]? = some x) (p : α → Bool) (hx : p x = true) : xs.any p = true := List.any_eq_true.mpr ⟨x, List.mem_of_getElem? h, hx⟩
theorem come_lt {ts : Tms} {i : Nat} (h : i ∈ comeL ts) : i < ts.length ∧ ∃ t, ts.getD i none = some t := by
  obtain ⟨a, b⟩ := List.mem_filter.mp h
  exact ⟨List.mem_range.mp a, Option.isSome_iff_exists.mp b⟩
theorem tm_get {ts : Tms} {i : Nat} {t : Int} (h : i < ts.length) (e : ts.getD i none = some t) : atI (ts.map eo) (i : Int) = some (.int t) := by
  rw [get_enc h, e]; rfl
def p_is_too_short (ds : List PD) (K : PD → Prop) : Prop := ∃ (n : Nat) (ties : List TieT) (d : PD) (tms : Tms) (m : Nat), EverOk ties n d ∧ ds = [d, encT tms, en m] ∧ tms.length = n ∧ n ≤ 1000 ∧ m ≤ 2 * n ∧ K (.bool (tooShort ties n tms m))
abbrev s_is_too_short : Stmt := top 35
abbrev N_is_too_short : List Str := ["every", "times", "most", "one", "row", "other"]
theorem sc_is_too_short : FnScope N_is_too_short ["every", "times", "most"] (defScope s_is_too_short) := ⟨rfl, rfl, rfl, by decide +kernel, rfl, by decide +kernel, by decide +kernel⟩

theorem ok_is_too_short (T : Tx mg) (D : Dn K mg "is_too_short" s_is_too_short) (c_come : Cl P w K mg base 1 "come" (SpP (p_come))) (c_layer_at : Cl P w K mg base 1 "layer_at" (SpP (p_layer_at))) : Cl P w K mg base 2 "is_too_short" (SpP (p_is_too_short)) := by
  have sc := sc_is_too_short
  refine cl_pure D sc (fun _ _ _ _ _ _ us hl => match us, hl with | [_, _, _], _ => rfl) (fun ds K h => by obtain ⟨_, _, _, _, _, _, rfl, _⟩ := h; rfl) fun f cdv A outer s H E hr => ?_
  have hu := hr.units
  refine ⟨_, (pss_cons (ps_for PassesOwn.never rfl (pi_tup (pe_cl c_come hr (by first | decide | omega) (by rfl) (pa_cons (pv 1) pa_nil))) (pg_name (i := 3) sc.nd rfl (by first | exact Or.inl rfl | exact Or.inr rfl))
      (pss_cons (ps_set (i := 4) sc.nd rfl (Or.inl rfl) (pe_cl c_layer_at hr (by first | decide | omega) (by rfl) (pa_cons (pe_ix (ixSq (F := K)) (pv 0) (pv 3) (fun _ _ => rfl)) (pa_cons (pv 2) pa_nil))))
      (pss_one (ps_for PassesOwn.never rfl (pi_tup (pe_cl c_come hr (by first | decide | omega) (by rfl) (pa_cons (pv 1) pa_nil))) (pg_name (i := 5) sc.nd rfl (by first | exact Or.inl rfl | exact Or.inr rfl))
        (pss_one (ps_if (PW.pt (pw_and (pt_cmpR op_notN (pe_ix (ixSq (F := K)) (pv 4) (pv 5) (fun _ _ => rfl)) pe_non (nomark _)) (pw_and1 (pt_cmpR op_gt (pe_ix (ixSq (F := K)) (pv 4) (pv 5) (fun _ _ => rfl)) (pe_op op_sub (pe_ix (ixSq (F := K)) (pv 1) (pv 5) (fun _ _ => rfl)) (pe_ix (ixSq (F := K)) (pv 1) (pv 3) (fun _ _ => rfl))) (nomark _))))) (pss_one (ps_ret pe_bl)) pss_nil))))))
    (pss_one (ps_ret pe_bl))), ?_⟩
  rintro ds K' ⟨n, ties, d, tms, m, ⟨ls, rfl, hl, hls⟩, rfl, hn, h1, hm, k⟩
  show wpS Gm.pure _ [.dat (.tuple ls), .dat (encT tms), .dat (en m), .no, .no, .no] _
  refine wpS_seq (wpS_for tg_name (wpI_tup (wpE_callP (wpA_cons (wpE_var rfl (wpA_nil ⟨[_], rfl, tms, rfl, by omega, _, rfl, ?_⟩))))))
  refine ⟨fun i ρ => (∃ a b c, ρ = [.dat (.tuple ls), .dat (encT tms), .dat (en m), a, b, c]) ∧ ((comeL tms).take i).any (fun one => (comeL tms).any fun other => shortAt ties n tms m one other) = false, ⟨⟨_, _, _, rfl⟩, rfl⟩, ?_, ?_⟩
  · rintro i d ρ' hi e ⟨⟨a, b, c, rfl⟩, hno⟩
    obtain ⟨one, ho, rfl⟩ := map_get e
    obtain ⟨l1, t1, e1⟩ := come_lt (List.mem_of_getElem? ho)
    refine ⟨_, rfl, ?_⟩
    obtain ⟨l, hlo⟩ : ∃ l, ls[one]? = some l := ⟨_, List.getElem?_eq_getElem (by omega)⟩
    have put : ∀ s : Sl, putDs [.dat (.tuple ls), .dat (encT tms), .dat (en m), a, b, c] [3] [en one] = [.dat (.tuple ls), .dat (encT tms), .dat (en m), .dat (en one), b, c] := fun _ => rfl
    show wpS Gm.pure _ [.dat (.tuple ls), .dat (encT tms), .dat (en m), .dat (en one), b, c] _
    refine wpS_seq (wpS_set (wpE_callP (wpA_cons (wpE_op opD_ix (wpE_var rfl (wpE_var rfl ⟨_, _, l, rfl, rfl, atI_nat hlo, wpA_cons (wpE_var rfl (wpA_nil ⟨[_, _], rfl, n, ties, one, _, m, l, hls one l hlo, rfl, hm, ?_⟩))⟩))))))
    refine wpS_seq (wpS_for tg_name (wpI_tup (wpE_callP (wpA_cons (wpE_var rfl (wpA_nil ⟨[_], rfl, tms, rfl, by omega, _, rfl, ?_⟩))))))
    refine ⟨fun j ρ => (∃ c, ρ = [.dat (.tuple ls), .dat (encT tms), .dat (en m), .dat (en one), .dat (encT (rowAt ties n one m)), c]) ∧ ((comeL tms).take j).any (fun other => shortAt ties n tms m one other) = false, ⟨⟨_, rfl⟩, rfl⟩, ?_, ?_⟩
    · rintro j d ρ' hj e ⟨⟨c, rfl⟩, hno2⟩
      obtain ⟨other, ho2, rfl⟩ := map_get e
      obtain ⟨l2, t2, e2⟩ := come_lt (List.mem_of_getElem? ho2)
      refine ⟨_, rfl, ?_⟩
      show wpS Gm.pure _ [.dat (.tuple ls), .dat (encT tms), .dat (en m), .dat (en one), .dat (encT (rowAt ties n one m)), .dat (en other)] _
      have lr : other < (rowAt ties n one m).length := by rw [rowAt_length]; omega
      refine wpS_seq (wpS_if (wpT_and (wpT_test (wpE_op opD_isnt (wpE_op opD_ix (wpE_var rfl (wpE_var rfl ⟨_, _, _, rfl, rfl, get_enc lr, wpE_non ⟨rfl, _, rfl, ?_⟩⟩)))))))
      rw [isNon_eo]
      have te1 : tAt tms one = t1 := by rw [tAt, e1]; rfl
      have te2 : tAt tms other = t2 := by rw [tAt, e2]; rfl
      cases hr : (rowAt ties n one m).getD other none with
      | none =>
        refine wpS_nil (wpS_nil ⟨⟨_, rfl⟩, any_take ho2 _ hno2 ?_⟩)
        show (match (rowAt ties n one m).getD other none with | none => false | some x => _) = false
        rw [hr]
      | some x =>
        have g : atI ((rowAt ties n one m).map eo) ((other : Nat) : Int) = some (.int x) := by rw [get_enc lr, hr]; rfl
        have es : shortAt ties n tms m one other = decide (t2 - t1 < x) := by rw [shortAt, hr]; show decide (tAt tms other - tAt tms one < x) = _; rw [te1, te2]
        refine wpT_test (wpE_op opD_B0 (wpE_op opD_ix (wpE_var rfl (wpE_var rfl ⟨_, _, _, rfl, rfl, g, wpE_op opD_I0 (wpE_op opD_ix (wpE_var rfl (wpE_var rfl ⟨_, _, _, rfl, rfl, tm_get l2 e2, wpE_op opD_ix (wpE_var rfl (wpE_var rfl ⟨_, _, _, rfl, rfl, tm_get l1 e1, _, _, rfl, rfl, ⟨_, _, rfl, rfl, _, rfl, ?_⟩⟩))⟩)))⟩))))
        by_cases lt : t2 - t1 < x
        · rw [decide_eq_true lt, if_pos rfl]
          refine wpS_seq (wpS_ret (wpE_bl ?_))
          have : tooShort ties n tms m = true := any_at ho _ (any_at ho2 _ (by rw [es, decide_eq_true lt]))
          rw [this] at k; exact k
        · rw [decide_eq_false lt, if_neg Bool.false_ne_true]
          exact wpS_nil (wpS_nil ⟨⟨_, rfl⟩, any_take ho2 _ hno2 (by rw [es, decide_eq_false lt])⟩)
    · rintro ρ' ⟨⟨c, rfl⟩, hno2⟩
      refine wpS_nil ⟨⟨_, _, _, rfl⟩, any_take ho _ hno ?_⟩
      rw [List.length_map, List.take_length] at hno2; exact hno2
  · rintro ρ' ⟨⟨a, b, c, rfl⟩, hno⟩
    refine wpS_seq (wpS_ret (wpE_bl ?_))
    rw [List.length_map, List.take_length] at hno
    rw [show tooShort ties n tms m = false from hno] at k; exact k
end

end K42
/-! text P4 -/
set_option Elab.async false
set_option linter.all false
set_option maxRecDepth 100000
set_option maxHeartbeats 4000000
namespace K42
open PySem PySem.Spec PyProof.Rows L2

/-! The program's defs over data, 4: limits. -/
section
variable {P : Program} {w : World} {K : PySem.W.Frag} {mg : Str → Option Value} {base : Heap}
theorem getD_set_ne {α : Type} {xs : List α} {i j : Nat} {x d : α} (h : i ≠ j) : (xs.set i x).getD j d = xs.getD j d := by
  rw [List.getD_eq_getElem?_getD, List.getD_eq_getElem?_getD, List.getElem?_set_ne h]
theorem getD_set_eq {α : Type} {xs : List α} {i : Nat} {x d : α} (h : i < xs.length) : (xs.set i x).getD i d = x := by
  rw [List.getD_eq_getElem?_getD, List.getElem?_set_self h]; rfl
theorem stepRow_keep {row f : Row} {t : TieT} {v : Nat} {x : Int} (h : f.getD v none = some x) : ∃ y, (stepRow row f t).getD v none = some y ∧ x ≤ y := by
  have hv : v < f.length := by
    by_cases l : v < f.length
    · exact l
    · rw [List.getD_eq_getElem?_getD, List.getElem?_eq_none (by omega)] at h; cases h
  unfold stepRow
  split
  · exact ⟨x, h, Int.le_refl _⟩
  · next a _ =>
    by_cases e : t.2.1 = v
    · rw [e, h]
      show ∃ y, (if x < a + t.2.2 then f.set v (some (a + t.2.2)) else f).getD v none = some y ∧ x ≤ y
      by_cases l : x < a + t.2.2
      · rw [if_pos l]
        exact ⟨_, getD_set_eq hv, by omega⟩
      · rw [if_neg l]; exact ⟨x, h, Int.le_refl _⟩
    · split
      · exact ⟨x, by rw [getD_set_ne e]; exact h, Int.le_refl _⟩
      · split
        · exact ⟨x, by rw [getD_set_ne e]; exact h, Int.le_refl _⟩
        · exact ⟨x, h, Int.le_refl _⟩
theorem foldRow_keep {row : Row} {v : Nat} : ∀ {ts : List TieT} {f : Row} {x : Int}, f.getD v none = some x → ∃ y, (ts.foldl (stepRow row) f).getD v none = some y ∧ x ≤ y
  | [], f, x, h => ⟨x, h, Int.le_refl _⟩
  | t :: ts, f, x, h => by
    obtain ⟨y, h1, h2⟩ := stepRow_keep (row := row) (t := t) h
    obtain ⟨z, h3, h4⟩ := foldRow_keep (ts := ts) h1
    exact ⟨z, h3, by omega⟩
theorem rowAt_self {ts : List TieT} {n v : Nat} (hv : v < n) : ∀ k, ∃ x, (rowAt ts n v k).getD v none = some x ∧ 0 ≤ x
  | 0 => ⟨0, by rw [rowAt, row0, List.getD_eq_getElem?_getD, List.getElem?_map, List.getElem?_range hv]; show (if v = v then some (0 : Int) else none) = _; rw [if_pos rfl], Int.le_refl _⟩
  | k + 1 => by
    obtain ⟨x, h1, h2⟩ := rowAt_self (ts := ts) hv k
    obtain ⟨y, h3, h4⟩ := foldRow_keep (row := rowAt ts n v k) (ts := ts) h1
    exact ⟨y, h3, by omega⟩
def ringAt (ties : List TieT) (n m v : Nat) : Bool := decide (0 < ((rowAt ties n v m).getD v none).getD 0)
def hasRing (ties : List TieT) (n : Nat) (tms : Tms) (m : Nat) : Bool := (missL tms).any fun v => ringAt ties n m v
theorem miss_lt {ts : Tms} {i : Nat} (h : i ∈ missL ts) : i < ts.length := List.mem_range.mp (List.mem_filter.mp h).1
theorem map_len {α : Type} {f : α → PD} {xs : List α} : (xs.map f).length = xs.length := List.length_map ..
def p_has_ring (ds : List PD) (K : PD → Prop) : Prop := ∃ (n : Nat) (ties : List TieT) (d : PD) (tms : Tms) (m : Nat), EverOk ties n d ∧ ds = [d, encT tms, en m] ∧ tms.length = n ∧ n ≤ 1000 ∧ m ≤ 2 * n ∧ K (.bool (hasRing ties n tms m))
abbrev s_has_ring : Stmt := top 36
abbrev N_has_ring : List Str := ["every", "times", "most", "thing"]
theorem sc_has_ring : FnScope N_has_ring ["every", "times", "most"] (defScope s_has_ring) := ⟨rfl, rfl, rfl, by decide +kernel, rfl, by decide +kernel, by decide +kernel⟩

theorem ok_has_ring (T : Tx mg) (D : Dn K mg "has_ring" s_has_ring) (c_missing : Cl P w K mg base 1 "missing" (SpP (p_missing))) (c_layer_at : Cl P w K mg base 1 "layer_at" (SpP (p_layer_at))) : Cl P w K mg base 2 "has_ring" (SpP (p_has_ring)) := by
  have sc := sc_has_ring
  refine cl_pure D sc (fun _ _ _ _ _ _ us hl => match us, hl with | [_, _, _], _ => rfl) (fun ds K h => by obtain ⟨_, _, _, _, _, _, rfl, _⟩ := h; rfl) fun f cdv A outer s H E hr => ?_
  have hu := hr.units
  refine ⟨_, (pss_one (ps_ret (pe_callB (cr_any rfl) (by rfl) T.b_any (by decide +kernel) (pa_cons (pe_lc (own := [("thing", 3)]) (g := gName 3) (by rfl) sc.nd (pi_tup (pe_cl c_missing hr (by first | decide | omega) (by rfl) (pa_cons (pv 1) pa_nil))) (blkOk_by (own := [("thing", 3)]) (N := N_has_ring) (sc := (defScope s_has_ring)) (by decide +kernel)) (fun _ _ _ _ _ => (pg_name (i := 3) sc.nd rfl (by first | exact Or.inl rfl | exact Or.inr rfl))) (fun _ _ _ _ _ => pts_nil) (fun _ _ _ _ _ => (pe_cmpR op_gt (pe_ix (ixSq (F := K)) (pe_cl c_layer_at hr (by first | decide | omega) (by rfl) (pa_cons (pe_ix (ixSq (F := K)) (pv 0) (pv 3) (fun _ _ => rfl)) (pa_cons (pv 2) pa_nil))) (pv 3) (fun _ _ => rfl)) pe_int (nomark _)))) pa_nil)))), ?_⟩
  rintro ds K' ⟨n, ties, d, tms, m, ⟨ls, rfl, hl, hls⟩, rfl, hn, h1, hm, k⟩
  show wpS Gm.pure _ [.dat (.tuple ls), .dat (encT tms), .dat (en m), .no] _
  refine wpS_ret (wpE_any (wpN.L (wpN_lcS tg_name (by decide) rfl (wpI_tup (wpE_callP (wpA_cons (wpE_var rfl (wpA_nil ⟨[_], rfl, tms, rfl, by omega, _, rfl, ?_⟩))))))))
  have lm : (missL tms).length ≤ 1000 := by
    have := List.length_filter_le (fun i => (tms.getD i none).isNone) (List.range tms.length)
    rw [List.length_range] at this
    show (List.filter _ _).length ≤ 1000; omega
  refine ⟨by rw [map_len]; omega, Nat, missL tms, en, fun _ => true, fun v => .bool (ringAt ties n m v), ⟨map_len, fun i => List.getElem?_map ..⟩, fun i v hv => ⟨_, rfl, wpT_yes ⟨rfl, fun _ => ?_⟩⟩, (missL tms).map (ringAt ties n m), ?_, ?_⟩
  · show wpE _ _ _ fun e => e = PyData.bool (ringAt ties n m v)
    have l1 := miss_lt (List.mem_of_getElem? hv)
    obtain ⟨l, hlo⟩ : ∃ l, ls[v]? = some l := ⟨_, List.getElem?_eq_getElem (by omega)⟩
    obtain ⟨x, hx, _⟩ := rowAt_self (ts := ties) (show v < n by omega) m
    have g : atI ((rowAt ties n v m).map eo) ((v : Nat) : Int) = some (.int x) := by rw [get_enc (by rw [rowAt_length]; omega), hx]; rfl
    refine wpE_op opD_B0 (wpE_op opD_ix (wpE_callP (wpA_cons (wpE_op opD_ix (wpE_var rfl (wpE_var rfl ⟨_, _, l, rfl, rfl, atI_nat hlo, wpA_cons (wpE_var rfl (wpA_nil ⟨[_, _], rfl, n, ties, v, _, m, l, hls v l hlo, rfl, hm, wpE_var rfl ⟨_, _, _, rfl, rfl, g, wpE_int ⟨_, _, rfl, rfl, ?_⟩⟩⟩))⟩))))))
    rw [show ringAt ties n m v = decide (0 < ((rowAt ties n v m).getD v none).getD 0) from rfl, hx]; rfl
  · rw [filter_yes, List.map_map]; rfl
  · have e : hasRing ties n tms m = ((missL tms).map (ringAt ties n m)).all id ∨ True := .inr trivial
    rw [show ((missL tms).map (ringAt ties n m)).any id = hasRing ties n tms m by rw [List.any_map]; rfl]
    exact k
def limitsOf (ties : List TieT) (n : Nat) (tms : Tms) : Option Nat × Option Nat :=
  (((List.range (2 * n + 1)).filter (tooShort ties n tms)).head?, ((List.range (n + 1)).filter (hasRing ties n tms)).head?)
theorem eqv_listNil (xs : List PD) : PyData.eqv (.list xs) (.list []) = decide (xs = []) := by
  cases xs <;> rfl
theorem shaped_listEn (xs : List Nat) : SeqAt.shaped (.list (xs.map en)) = true := (plain_list fun d h => by
  obtain ⟨x, _, rfl⟩ := List.mem_map.mp h
  exact plain_en x).shaped (by decide)
theorem head_ite {G : Gm} {ρ : Rho} {i : Nat} {xs : List Nat} {Kx : PD → Prop} (hi : ρ[i]? = some (Sl.dat (.list (xs.map en)))) (k : Kx (eoN xs.head?)) : wpE G (tIf (tTest (tOp (rEqD K) (tVar i) (tLst tNil))) (tC .non) (tOp (rIx K) (tVar i) (tC (.int 0)))) ρ Kx := by
  refine wpE_if (wpT_test (wpE_op opD_eq (wpE_var hi (wpN.E (wpN_lst (wpA_nil ⟨[], rfl, le_ rfl, shaped_listEn xs, rfl, _, rfl, ?_⟩))))))
  rw [eqv_listNil]
  cases xs with
  | nil => exact wpE_non k
  | cons x xs =>
    rw [decide_eq_false (by simp), if_neg Bool.false_ne_true]
    exact wpE_op opD_ix (wpE_var hi (wpE_int ⟨_, _, _, rfl, rfl, at_0 _ _, k⟩))
def p_limits (F : PySem.W.Frag) (ds : List PD) (K : PD → Prop) : Prop := ∃ (n : Nat) (ties : List TieT) (dt : PD) (tms : Tms), TbD F n ties dt ∧ ds = [dt, encT tms] ∧ tms.length = n ∧ n ≤ 12 ∧ okTm tms ∧ K (encP (limitsOf ties n tms))
abbrev s_limits : Stmt := top 37
abbrev N_limits : List Str := ["table", "times", "every", "many", "walks", "most", "rings"]
theorem sc_limits : FnScope N_limits ["table", "times"] (defScope s_limits) := ⟨rfl, rfl, rfl, by decide +kernel, rfl, by decide +kernel, by decide +kernel⟩

theorem fo_limits (T : Tx mg) (c_check_times : Cl P w K mg base 3 "check_times" (SpP (p_check_times K))) (c_all_layers : Cl P w K mg base 5 "all_layers" (SpP (p_all_layers K))) (c_is_too_short : Cl P w K mg base 2 "is_too_short" (SpP (p_is_too_short))) (c_has_ring : Cl P w K mg base 2 "has_ring" (SpP (p_has_ring))) : Fo P w K mg base 6 "limits" s_limits ["table", "times"] (SpP (p_limits K)) := by
  have sc := sc_limits
  refine fo_pure sc (fun ds K h => by obtain ⟨_, _, _, _, _, rfl, _⟩ := h; rfl) fun f cdv A outer s H E hr => ?_
  have hu := hr.units
  refine ⟨_, (pss_cons (ps_expr (pe_cl c_check_times hr (by first | decide | omega) (by rfl) (pa_cons (pv 0) (pa_cons (pv 1) pa_nil))))
    (pss_cons (ps_asg (pe_tup (pa_cons (pe_cl c_all_layers hr (by first | decide | omega) (by rfl) (pa_cons (pv 0) pa_nil)) (pa_cons (pe_callB (lenSq (F := K)) (by rfl) T.b_len (by decide +kernel) (pa_cons (pe_fld (pv 0) rfl) pa_nil)) pa_nil))) (pg_tup rfl (pgs_cons (pg_name (i := 2) sc.nd rfl (by first | exact Or.inl rfl | exact Or.inr rfl)) (pgs_cons (pg_name (i := 3) sc.nd rfl (by first | exact Or.inl rfl | exact Or.inr rfl)) pgs_nil))))
    (pss_cons (ps_setLc (i := 4) (own := [("most", 5)]) (g := gName 5) (by rfl) sc.nd rfl rfl (sw_true rfl rfl rfl (by decide +kernel)) (pi_range1 (by rfl) T.b_range (pa_cons (pe_op op_add (pe_op op_mul pe_int (pv 3)) pe_int) pa_nil)) (blkOk_by (own := [("most", 5)]) (N := N_limits) (sc := (defScope s_limits)) (by decide +kernel)) (fun _ _ _ _ _ => (pg_name (i := 5) sc.nd rfl (by first | exact Or.inl rfl | exact Or.inr rfl))) (fun _ _ _ _ _ => (pts_one (pt_val (pe_cl c_is_too_short hr (by first | decide | omega) (by rfl) (pa_cons (pv 2) (pa_cons (pv 1) (pa_cons (pv 5) pa_nil))))))) (fun _ _ _ _ _ => (pv 5)))
    (pss_cons (ps_setLc (i := 6) (own := [("most", 5)]) (g := gName 5) (by rfl) sc.nd rfl rfl (sw_true rfl rfl rfl (by decide +kernel)) (pi_range1 (by rfl) T.b_range (pa_cons (pe_op op_add (pv 3) pe_int) pa_nil)) (blkOk_by (own := [("most", 5)]) (N := N_limits) (sc := (defScope s_limits)) (by decide +kernel)) (fun _ _ _ _ _ => (pg_name (i := 5) sc.nd rfl (by first | exact Or.inl rfl | exact Or.inr rfl))) (fun _ _ _ _ _ => (pts_one (pt_val (pe_cl c_has_ring hr (by first | decide | omega) (by rfl) (pa_cons (pv 2) (pa_cons (pv 1) (pa_cons (pv 5) pa_nil))))))) (fun _ _ _ _ _ => (pv 5)))
    (pss_one (ps_ret (pe_tup (pa_cons (pe_ifExp (pt_cmpR (opEq (F := K) hu) (pv 4) (pe_lst pa_nil) (nomark _)) pe_non (pe_ix (ixSq (F := K)) (pv 4) pe_int (fun _ _ => rfl))) (pa_cons (pe_ifExp (pt_cmpR (opEq (F := K) hu) (pv 6) (pe_lst pa_nil) (nomark _)) pe_non (pe_ix (ixSq (F := K)) (pv 6) pe_int (fun _ _ => rfl))) pa_nil))))))))), ?_⟩
  rintro ds K' ⟨n, ties, dt, tms, tb, rfl, hn, h12, hk, k⟩
  obtain ⟨C, dts, rfl, hd, tc, ok, hl⟩ := id tb
  show wpS Gm.pure _ [.dat (tabD C (.tuple dts) (.tuple (ties.map et))), .dat (encT tms), .no, .no, .no, .no, .no] _
  refine wpS_seq (wpS_drop (wpE_callP (wpA_cons (wpE_var rfl (wpA_cons (wpE_var rfl (wpA_nil ⟨[_, _], rfl, n, ties, _, tms, tb, rfl, hn, hk, ?_⟩)))))))
  refine wpS_seq (wpS_asg (tg_tup (js := [2, 3]) rfl rfl) (wpE_tup (wpA_cons (wpE_callP (wpA_cons (wpE_var rfl (wpA_nil ⟨[_], rfl, n, ties, _, tb, rfl, h12, fun ev hev => wpA_cons (wpE_len (wpE.Q (wpE_things (wpE_var rfl ⟨C, _, _, rfl, tc.cls, tc.th, _, rfl, wpA_nil ⟨[_, _], rfl, le_ rfl, _, rfl, ?_⟩⟩))))⟩)))))))
  rw [hd]
  show wpS Gm.pure _ [.dat (tabD C (.tuple dts) (.tuple (ties.map et))), .dat (encT tms), .dat ev, .dat (en n), .no, .no, .no] _
  refine wpS_seq (wpS_setN (lt_ rfl) (wpN_lcF tg_name (by decide) rfl (wpI_rng1 (wpA_cons (wpE_op opD_I0 (wpE_op opD_I (wpE_int (wpE_var rfl ⟨_, _, rfl, rfl, .inl (by decide), wpE_int ⟨_, _, rfl, rfl, wpA_nil ⟨_, rfl, by omega, by omega, by omega, tooShort ties n tms, en, ?_, ?_⟩⟩⟩))))))))
  · intro i d hi e
    cases e
    exact ⟨_, rfl, wpT_test (wpE_callP (wpA_cons (wpE_var rfl (wpA_cons (wpE_var rfl (wpA_cons (wpE_var rfl (wpA_nil ⟨[_, _, _], rfl, n, ties, _, tms, i, hev, rfl, hn, hl, by omega, _, rfl, rfl, fun _ => wpE_var rfl rfl⟩))))))))⟩
  rw [show ((2 : Int) * (n : Int) + 1).toNat = 2 * n + 1 by omega]
  refine wpS_seq (wpS_setN (lt_ rfl) (wpN_lcF tg_name (by decide) rfl (wpI_rng1 (wpA_cons (wpE_op opD_I0 (wpE_var rfl (wpE_int ⟨_, _, rfl, rfl, wpA_nil ⟨_, rfl, by omega, by omega, by omega, hasRing ties n tms, en, ?_, ?_⟩⟩)))))))
  · intro i d hi e
    cases e
    exact ⟨_, rfl, wpT_test (wpE_callP (wpA_cons (wpE_var rfl (wpA_cons (wpE_var rfl (wpA_cons (wpE_var rfl (wpA_nil ⟨[_, _, _], rfl, n, ties, _, tms, i, hev, rfl, hn, hl, by omega, _, rfl, rfl, fun _ => wpE_var rfl rfl⟩))))))))⟩
  rw [show ((n : Int) + 1).toNat = n + 1 by omega]
  refine wpS_free (i := 4) rfl (wpS_free (i := 6) rfl (wpS_seq (wpS_ret (wpE_tup (wpA_cons (head_ite rfl (wpA_cons (head_ite rfl (wpA_nil ⟨[_, _], rfl, le_ rfl, k⟩)))))))))
theorem ok_limits (T : Tx mg) (D : Dn K mg "limits" s_limits) (c_check_times : Cl P w K mg base 3 "check_times" (SpP (p_check_times K))) (c_all_layers : Cl P w K mg base 5 "all_layers" (SpP (p_all_layers K))) (c_is_too_short : Cl P w K mg base 2 "is_too_short" (SpP (p_is_too_short))) (c_has_ring : Cl P w K mg base 2 "has_ring" (SpP (p_has_ring))) : Cl P w K mg base 6 "limits" (SpP (p_limits K)) := cl_fo D (fun _ _ _ _ _ _ us hl => match us, hl with | [_, _], _ => rfl) (fo_limits T c_check_times c_all_layers c_is_too_short c_has_ring)
theorem kw_limits (T : Tx mg) (D : Dn K mg "limits" s_limits) (c_check_times : Cl P w K mg base 3 "check_times" (SpP (p_check_times K))) (c_all_layers : Cl P w K mg base 5 "all_layers" (SpP (p_all_layers K))) (c_is_too_short : Cl P w K mg base 2 "is_too_short" (SpP (p_is_too_short))) (c_has_ring : Cl P w K mg base 2 "has_ring" (SpP (p_has_ring))) : Cw P w K mg base 6 "limits" "table" "times" (SpP (p_limits K)) := cw_fo D (fun _ _ _ _ _ _ _ _ => rfl) (fo_limits T c_check_times c_all_layers c_is_too_short c_has_ring)
end

end K42
/-! text P5 -/
set_option Elab.async false
set_option linter.all false
set_option maxRecDepth 100000
set_option maxHeartbeats 4000000
namespace K42
open PySem PySem.Spec PyProof.Rows L2

/-! The program's defs over data, 5: names, ties, tables. -/
section
variable {P : Program} {w : World} {K : PySem.W.Frag} {mg : Str → Option Value} {base : Heap}
theorem kit_str {d : Str} : PySem.W.kitOne K (.type (tyOfD (.str d))) (.type "str") = some true := kit_ty kb_str_str
def letters : Str := "abcdefghijklmnopqrstuvwxyz"
def okNm (x : Str) : Prop := 1 ≤ x.length ∧ x.length ≤ 6 ∧ ∀ c ∈ x.cps.toList, c ∈ letters.cps.toList
def p_is_name (ds : List PD) (K : PD → Prop) : Prop := ∃ x, ds = [.str x] ∧ okNm x ∧ K (.bool true)
abbrev s_is_name : Stmt := top 11
abbrev N_is_name : List Str := ["value", "sign"]
theorem sc_is_name : FnScope N_is_name ["value"] (defScope s_is_name) := ⟨rfl, rfl, rfl, by decide +kernel, rfl, by decide +kernel, by decide +kernel⟩

theorem ok_is_name (T : Tx mg) (D : Dn K mg "is_name" s_is_name) : Cl P w K mg base 1 "is_name" (SpP (p_is_name)) := by
  have sc := sc_is_name
  refine cl_pure D sc (fun _ _ _ _ _ _ us hl => match us, hl with | [_], _ => rfl) (fun ds K h => by obtain ⟨_, rfl, _⟩ := h; rfl) fun f cdv A outer s H E hr => ?_
  have hu := hr.units
  refine ⟨_, (pss_cons (ps_if (PW.pt (pw_or (pt_not (pt_val (pe_callB call_isi (by rfl) T.b_isinstance (by decide +kernel) (pa_cons (pv 0) (pa_cons (pe_bltn (v := .ty "str") (by rfl) T.b_str (by decide +kernel) rfl) pa_nil))))) (pw_or1 (pt_not (pt_chain op_le op_le pe_int (pe_callB call_len_str (by rfl) T.b_len (by decide +kernel) (pa_cons (pv 0) pa_nil)) (pe_k rfl T.LONGEST_NAME)))))) (pss_one (ps_ret pe_bl)) pss_nil)
    (pss_one (ps_ret (pe_callB (cr_all rfl) (by rfl) T.b_all (by decide +kernel) (pa_cons (pe_lc (own := [("sign", 1)]) (g := gName 1) (by rfl) sc.nd (pi_str (pv 0)) (blkOk_by (own := [("sign", 1)]) (N := N_is_name) (sc := (defScope s_is_name)) (by decide +kernel)) (fun _ _ _ _ _ => (pg_name (i := 1) sc.nd rfl (by first | exact Or.inl rfl | exact Or.inr rfl))) (fun _ _ _ _ _ => pts_nil) (fun _ _ _ _ _ => (pe_cmpR op_in_sign (pv 1) (pe_k rfl T.LETTERS) (by rfl)))) pa_nil))))), ?_⟩
  rintro ds K' ⟨x, rfl, ⟨h1, h2, h3⟩, k⟩
  show wpS Gm.pure _ [.dat (.str x), .no] _
  refine wpS_seq (wpS_if (wpT_or (wpT_not (wpT_test (wpE_isi (wpE_var rfl ⟨true, kit_str, nofun, _, rfl, ?_⟩))))))
  refine wpT_not (wpT_test (wpE_chain opD_B0 opD_B0 (wpE_int (wpE_lenS (wpE_var rfl ⟨x, rfl, by omega, _, _, rfl, rfl, true, ?_, wpE_int ⟨_, _, rfl, rfl, true, ?_, ?_⟩⟩)))))
  · rw [decide_eq_true (by omega)]
  · rw [decide_eq_true (by omega)]
  refine wpS_nil (wpS_seq (wpS_ret (wpE_all (wpN.L (wpN_lcF tg_name (by decide) rfl (wpI_str (wpE_var rfl ⟨x, rfl, ?_⟩)))))))
  have hl : x.cps.size = x.length := rfl
  refine ⟨by omega, fun _ => true, fun _ => .bool true, fun i d hi e => ?_, List.replicate x.cps.size true, ?_, ?_⟩
  · obtain ⟨c, hc, rfl⟩ : ∃ c, x.cps[i]? = some c ∧ d = .str ⟨#[c]⟩ := by
      have e : Option.map (fun c => PyData.str { cps := #[c] }) x.cps[i]? = some d := e
      cases q : x.cps[i]? with
      | none => rw [q] at e; cases e
      | some c => rw [q] at e; cases e; exact ⟨c, rfl, rfl⟩
    refine ⟨_, rfl, wpT_yes ⟨rfl, fun _ => wpE_op opD_inS (wpE_var rfl (wpE_str ⟨c, _, rfl, rfl, ?_⟩))⟩⟩
    have : c ∈ x.cps.toList := by
      obtain ⟨hj, e⟩ := Array.getElem?_eq_some_iff.mp hc
      rw [← e]; exact Array.mem_toList_iff.mpr (Array.getElem_mem hj)
    show PyData.bool (decide (c ∈ letters.cps.toList)) = _
    rw [decide_eq_true (h3 c this)]
  · rw [filter_yes, List.map_replicate, List.map_const', List.length_range]
  · show K' _
    rw [show (List.replicate x.cps.size true).all id = true by rw [List.all_eq_true]; intro b hb; rw [List.eq_of_mem_replicate hb]; rfl]
    exact k
def ascS (xs : List Str) : Prop := ∀ (i : Nat) (a b : Str), xs[i]? = some a → xs[i + 1]? = some b → a.cps.toList < b.cps.toList
def p_is_ascending (ds : List PD) (K : PD → Prop) : Prop := ∃ xs : List Str, ds = [.tuple (xs.map .str)] ∧ xs.length ≤ 1000 ∧ ascS xs ∧ K (.bool true)
abbrev s_is_ascending : Stmt := top 12
abbrev N_is_ascending : List Str := ["items", "at"]
theorem sc_is_ascending : FnScope N_is_ascending ["items"] (defScope s_is_ascending) := ⟨rfl, rfl, rfl, by decide +kernel, rfl, by decide +kernel, by decide +kernel⟩

theorem ok_is_ascending (T : Tx mg) (D : Dn K mg "is_ascending" s_is_ascending) : Cl P w K mg base 1 "is_ascending" (SpP (p_is_ascending)) := by
  have sc := sc_is_ascending
  refine cl_pure D sc (fun _ _ _ _ _ _ us hl => match us, hl with | [_], _ => rfl) (fun ds K h => by obtain ⟨_, rfl, _⟩ := h; rfl) fun f cdv A outer s H E hr => ?_
  have hu := hr.units
  refine ⟨_, (pss_one (ps_ret (pe_callB (cr_all rfl) (by rfl) T.b_all (by decide +kernel) (pa_cons (pe_lc (own := [("at", 1)]) (g := gName 1) (by rfl) sc.nd (pi_range1 (by rfl) T.b_range (pa_cons (pe_op op_sub (pe_callB (lenSq (F := K)) (by rfl) T.b_len (by decide +kernel) (pa_cons (pv 0) pa_nil)) pe_int) pa_nil)) (blkOk_by (own := [("at", 1)]) (N := N_is_ascending) (sc := (defScope s_is_ascending)) (by decide +kernel)) (fun _ _ _ _ _ => (pg_name (i := 1) sc.nd rfl (by first | exact Or.inl rfl | exact Or.inr rfl))) (fun _ _ _ _ _ => pts_nil) (fun _ _ _ _ _ => (pe_cmpR op_lt_str (pe_ix (ixSq (F := K)) (pv 0) (pv 1) (fun _ _ => rfl)) (pe_ix (ixSq (F := K)) (pv 0) (pe_op op_add (pv 1) pe_int) (fun _ _ => rfl)) (nomark _)))) pa_nil)))), ?_⟩
  rintro ds K' ⟨xs, rfl, hl, ha, k⟩
  show wpS Gm.pure _ [.dat (.tuple (xs.map .str)), .no] _
  refine wpS_ret (wpE_all (wpN.L (wpN_lcF tg_name (by decide) rfl (wpI_rng1 (wpA_cons (wpE_op opD_I0 (wpE_len (wpE.Q (wpE_var rfl ⟨_, rfl, wpE_int ⟨_, _, rfl, rfl, wpA_nil ⟨_, rfl, ?_, ?_, ?_⟩⟩⟩))))))))) 
  · rw [map_len]; omega
  · rw [map_len]; omega
  rw [map_len]
  refine ⟨by omega, fun _ => true, fun _ => .bool true, fun i d hi e => ?_, List.replicate ((xs.length : Int) - 1).toNat true, ?_, ?_⟩
  · cases e
    obtain ⟨a, h1⟩ : ∃ a, xs[i]? = some a := ⟨_, List.getElem?_eq_getElem (by omega)⟩
    obtain ⟨b, h2⟩ : ∃ b, xs[i + 1]? = some b := ⟨_, List.getElem?_eq_getElem (by omega)⟩
    refine ⟨_, rfl, wpT_yes ⟨rfl, fun _ => wpE_op opD_ltS (wpE_op opD_ix (wpE_var rfl (wpE_var rfl ⟨_, _, _, rfl, rfl, atI_map h1, wpE_op opD_ix (wpE_var rfl (wpE_op opD_I0 (wpE_var rfl (wpE_int ⟨_, _, rfl, rfl, _, _, _, rfl, rfl, atI_map (n := i + 1) h2, a, b, rfl, rfl, ?_⟩))))⟩)))⟩⟩
    rw [decide_eq_true (ha i a b h1 h2)]
  · rw [filter_yes, List.map_replicate, List.map_const', List.length_range]
  · show K' _
    rw [show (List.replicate ((xs.length : Int) - 1).toNat true).all id = true by rw [List.all_eq_true]; intro b hb; rw [List.eq_of_mem_replicate hb]; rfl]
    exact k
def okNs (xs : List Str) : Prop := 1 ≤ xs.length ∧ xs.length ≤ 12 ∧ (∀ x ∈ xs, okNm x) ∧ ascS xs
def p_are_things (ds : List PD) (K : PD → Prop) : Prop := ∃ xs : List Str, ds = [.tuple (xs.map .str)] ∧ okNs xs ∧ K (.bool true)
abbrev s_are_things : Stmt := top 45
abbrev N_are_things : List Str := ["value", "name"]
theorem sc_are_things : FnScope N_are_things ["value"] (defScope s_are_things) := ⟨rfl, rfl, rfl, by decide +kernel, rfl, by decide +kernel, by decide +kernel⟩

theorem ok_are_things (T : Tx mg) (D : Dn K mg "are_things" s_are_things) (c_is_name : Cl P w K mg base 1 "is_name" (SpP (p_is_name))) (c_is_ascending : Cl P w K mg base 1 "is_ascending" (SpP (p_is_ascending))) : Cl P w K mg base 2 "are_things" (SpP (p_are_things)) := by
  have sc := sc_are_things
  refine cl_pure D sc (fun _ _ _ _ _ _ us hl => match us, hl with | [_], _ => rfl) (fun ds K h => by obtain ⟨_, rfl, _⟩ := h; rfl) fun f cdv A outer s H E hr => ?_
  have hu := hr.units
  refine ⟨_, (pss_cons (ps_if (PW.pt (pw_or (pt_not (pt_val (pe_callB call_isi (by rfl) T.b_isinstance (by decide +kernel) (pa_cons (pv 0) (pa_cons (pe_bltn (v := .ty "tuple") (by rfl) T.b_tuple (by decide +kernel) rfl) pa_nil))))) (pw_or1 (pt_not (pt_chain op_le op_le pe_int (pe_callB (lenSq (F := K)) (by rfl) T.b_len (by decide +kernel) (pa_cons (pv 0) pa_nil)) (pe_k rfl T.MOST_THINGS)))))) (pss_one (ps_ret pe_bl)) pss_nil)
    (pss_one (ps_ret (pe_and (pe_callB (cr_all rfl) (by rfl) T.b_all (by decide +kernel) (pa_cons (pe_lc (own := [("name", 1)]) (g := gName 1) (by rfl) sc.nd (pi_tup (pv 0)) (blkOk_by (own := [("name", 1)]) (N := N_are_things) (sc := (defScope s_are_things)) (by decide +kernel)) (fun _ _ _ _ _ => (pg_name (i := 1) sc.nd rfl (by first | exact Or.inl rfl | exact Or.inr rfl))) (fun _ _ _ _ _ => pts_nil) (fun _ _ _ _ _ => (pe_cl c_is_name hr (by first | decide | omega) (by rfl) (pa_cons (pv 1) pa_nil)))) pa_nil)) (pe_one (pe_cl c_is_ascending hr (by first | decide | omega) (by rfl) (pa_cons (pv 0) pa_nil))))))), ?_⟩
  rintro ds K' ⟨xs, rfl, ⟨h1, h2, h3, h4⟩, k⟩
  show wpS Gm.pure _ [.dat (.tuple (xs.map .str)), .no] _
  refine wpS_seq (wpS_if (wpT_or (wpT_not (wpT_test (wpE_isi (wpE_var rfl ⟨true, kit_tuple nofun, nofun, _, rfl, ?_⟩))))))
  refine wpT_not (wpT_test (wpE_chain opD_B0 opD_B0 (wpE_int (wpE_len (wpE.Q (wpE_var rfl ⟨_, rfl, _, _, rfl, rfl, true, ?_, wpE_int ⟨_, _, rfl, rfl, true, ?_, ?_⟩⟩))))))
  · rw [map_len, decide_eq_true (by omega)]
  · rw [map_len, decide_eq_true (by omega)]
  refine wpS_nil (wpS_seq (wpS_ret (wpE_andV (wpE_all (wpN.L (wpN_lcS tg_name (by decide) rfl (wpI_tup (wpE_var rfl ⟨_, rfl, ?_⟩))))))))
  refine ⟨by rw [map_len]; omega, Str, xs, .str, fun _ => true, fun _ => .bool true, ⟨map_len, fun i => List.getElem?_map ..⟩, fun i x hx => ⟨_, rfl, wpT_yes ⟨rfl, fun _ => ?_⟩⟩, List.replicate xs.length true, ?_, true, ?_, ?_⟩
  · exact wpE_callP (wpA_cons (wpE_var rfl (wpA_nil ⟨[_], rfl, x, rfl, h3 x (List.mem_of_getElem? hx), rfl⟩)))
  · rw [filter_yes, List.map_replicate, List.map_const']
  · rw [show (List.replicate xs.length true).all id = true by rw [List.all_eq_true]; intro b hb; rw [List.eq_of_mem_replicate hb]; rfl]
  rw [if_pos rfl]
  exact wpE_callP (wpA_cons (wpE_var rfl (wpA_nil ⟨[_], rfl, xs, rfl, by omega, h4, k⟩)))
def okT (n : Nat) (t : TieT) : Prop := t.1 < n ∧ t.2.1 < n ∧ t.1 ≠ t.2.1 ∧ -1000000 ≤ t.2.2 ∧ t.2.2 ≤ 1000000
def p_is_tie (ds : List PD) (K : PD → Prop) : Prop := ∃ t n, ds = [et t, en n] ∧ okT n t ∧ K (.bool true)
abbrev s_is_tie : Stmt := top 46
abbrev N_is_tie : List Str := ["value", "many", "item", "one", "other", "weight"]
theorem sc_is_tie : FnScope N_is_tie ["value", "many"] (defScope s_is_tie) := ⟨rfl, rfl, rfl, by decide +kernel, rfl, by decide +kernel, by decide +kernel⟩

theorem ok_is_tie (T : Tx mg) (D : Dn K mg "is_tie" s_is_tie) (c_is_integer : Cl P w K mg base 1 "is_integer" (SpP (p_is_integer))) : Cl P w K mg base 2 "is_tie" (SpP (p_is_tie)) := by
  have sc := sc_is_tie
  refine cl_pure D sc (fun _ _ _ _ _ _ us hl => match us, hl with | [_, _], _ => rfl) (fun ds K h => by obtain ⟨_, _, rfl, _⟩ := h; rfl) fun f cdv A outer s H E hr => ?_
  have hu := hr.units
  refine ⟨_, (pss_cons (ps_if (PW.pt (pw_or (pt_not (pt_val (pe_callB call_isi (by rfl) T.b_isinstance (by decide +kernel) (pa_cons (pv 0) (pa_cons (pe_bltn (v := .ty "tuple") (by rfl) T.b_tuple (by decide +kernel) rfl) pa_nil))))) (pw_or (pt_cmpR (opNe (F := K) hu) (pe_callB (lenSq (F := K)) (by rfl) T.b_len (by decide +kernel) (pa_cons (pv 0) pa_nil)) pe_int (nomark _)) (pw_or1 (pt_not (pt_val (pe_callB (cr_all rfl) (by rfl) T.b_all (by decide +kernel) (pa_cons (pe_lc (own := [("item", 2)]) (g := gName 2) (by rfl) sc.nd (pi_tup (pv 0)) (blkOk_by (own := [("item", 2)]) (N := N_is_tie) (sc := (defScope s_is_tie)) (by decide +kernel)) (fun _ _ _ _ _ => (pg_name (i := 2) sc.nd rfl (by first | exact Or.inl rfl | exact Or.inr rfl))) (fun _ _ _ _ _ => pts_nil) (fun _ _ _ _ _ => (pe_cl c_is_integer hr (by first | decide | omega) (by rfl) (pa_cons (pv 2) pa_nil)))) pa_nil)))))))) (pss_one (ps_ret pe_bl)) pss_nil)
    (pss_cons (ps_asg (pv 0) (pg_tup rfl (pgs_cons (pg_name (i := 3) sc.nd rfl (by first | exact Or.inl rfl | exact Or.inr rfl)) (pgs_cons (pg_name (i := 4) sc.nd rfl (by first | exact Or.inl rfl | exact Or.inr rfl)) (pgs_cons (pg_name (i := 5) sc.nd rfl (by first | exact Or.inl rfl | exact Or.inr rfl)) pgs_nil)))))
    (pss_one (ps_ret (pe_and (pe_chain op_le op_lt pe_int (pv 3) (pv 1)) (pe_and (pe_chain op_le op_lt pe_int (pv 4) (pv 1)) (pe_and (pe_cmpR (opNe (F := K) hu) (pv 3) (pv 4) (nomark _)) (pe_one (pe_cmpR op_le (pe_callB call_abs (by rfl) T.b_abs (by decide +kernel) (pa_cons (pv 5) pa_nil)) (pe_k rfl T.MOST_WEIGHT) (nomark _)))))))))), ?_⟩
  rintro ds K' ⟨⟨a, b, x⟩, n, rfl, ⟨h1, h2, h3, h4, h5⟩, k⟩
  have h1 : a < n := h1
  have h2 : b < n := h2
  have h3 : a ≠ b := h3
  have h4 : -1000000 ≤ x := h4
  have h5 : x ≤ 1000000 := h5
  show wpS Gm.pure _ [.dat (et (a, b, x)), .dat (en n), .no, .no, .no, .no] _
  refine wpS_seq (wpS_if (wpT_or (wpT_not (wpT_test (wpE_isi (wpE_var rfl ⟨true, kit_tuple nofun, nofun, _, rfl, ?_⟩))))))
  refine wpT_or (wpT_test (wpE_op opD_ne (wpE_len (wpE.Q (wpE_var rfl ⟨_, rfl, wpE_int ⟨rfl, rfl, false, rfl, ?_⟩⟩)))))
  refine wpT_not (wpT_test (wpE_all (wpN.L (wpN_lcS tg_name (by decide) rfl (wpI_tup (wpE_var rfl ⟨_, rfl, ?_⟩))))))
  refine ⟨le_ rfl, Int, [(a : Int), (b : Int), x], .int, fun _ => true, fun _ => .bool true, ⟨rfl, fun i => (List.getElem?_map (f := PyData.int) (l := [(a : Int), (b : Int), x]) ..)⟩, fun i y hy => ⟨_, rfl, wpT_yes ⟨rfl, fun _ => ?_⟩⟩, [true, true, true], rfl, true, rfl, ?_⟩
  · exact wpE_callP (wpA_cons (wpE_var rfl (wpA_nil ⟨[_], rfl, .int y, rfl, nofun, rfl⟩)))
  refine wpS_nil (wpS_seq (wpS_asg (tg_tup (js := [3, 4, 5]) rfl rfl) (wpE_var rfl ⟨_, rfl, ?_⟩)))
  show wpS Gm.pure _ [.dat (et (a, b, x)), .dat (en n), .no, .dat (en a), .dat (en b), .dat (.int x)] _
  refine wpS_seq (wpS_ret (wpE_andV (wpE_chain opD_B0 opD_B0 (wpE_int (wpE_var rfl ⟨_, _, rfl, rfl, true, ?_, wpE_var rfl ⟨_, _, rfl, rfl, true, ?_, ?_⟩⟩)))))
  · rw [decide_eq_true (by omega)]
  · rw [decide_eq_true (by omega)]
  refine wpE_andV (wpE_chain opD_B0 opD_B0 (wpE_int (wpE_var rfl ⟨_, _, rfl, rfl, true, ?_, wpE_var rfl ⟨_, _, rfl, rfl, true, ?_, ?_⟩⟩)))
  · rw [decide_eq_true (by omega)]
  · rw [decide_eq_true (by omega)]
  refine wpE_andV (wpE_op opD_ne (wpE_var rfl (wpE_var rfl ⟨rfl, rfl, true, ?_, ?_⟩)))
  · rw [show PyData.eqv (en a) (en b) = decide (a = b) from eqv_nat, decide_eq_false h3]; rfl
  refine wpE_op opD_B0 (wpE_abs (wpE_var rfl ⟨x, rfl, wpE_int ⟨_, _, rfl, rfl, ?_⟩⟩))
  rw [decide_eq_true (by split <;> omega)]; exact k
end

end K42
/-! text P6 -/
set_option Elab.async false
set_option linter.all false
set_option maxRecDepth 100000
set_option maxHeartbeats 4000000
namespace K42
open PySem PySem.Spec PyProof.Rows L2

/-! Table's maker. -/
section
variable {P : Program} {w : World} {K : PySem.W.Frag} {mg : Str → Option Value} {base : Heap}
def okTis (n : Nat) (ts : List TieT) : Prop := ts.length ≤ 60 ∧ ∀ t ∈ ts, okT n t
def SpI (K : PySem.W.Frag) : Sp := fun vs H Q _ => ∃ (x C dx : Addr) (A : Addr → Prop) (v u : L2.V) (ns : List Str) (ts : List TieT), vs = [.ref x, v, u] ∧ H x = some (.ins C dx []) ∧ (∀ b, A b → H b ≠ none) ∧ A x ∧ TbC K C ∧
  Rp A H v (.tuple (ns.map .str)) ∧ Rp A H u (.tuple (ts.map et)) ∧ okNs ns ∧ okTis ns.length ts ∧
  ∀ H' v' u', (∀ b o, H b = some o → b ≠ x → H' b = some o) → H' x = some (.ins C dx [("things", v'), ("ties", u')]) → Rp A H' v' (.tuple (ns.map .str)) → Rp A H' u' (.tuple (ts.map et)) → Q .non H'
/-- an object under way stands still -/
def Gmi (x : Addr) (o : HO) (h : ∀ xs, o ≠ .tup xs) : Gm := ⟨fun b => b = x, fun H => H x = some o, fun H b s e => by rw [e, s]; exact nofun, fun H H' s k => k x o s (.inl rfl)⟩
def noOwnIn : Rho → Bool
  | [] => true
  | .own _ :: _ => false
  | _ :: ρ => noOwnIn ρ
theorem no_own {o : Nat → Addr} {b : Addr} : ∀ {ρ : Rho}, noOwnIn ρ = true → ¬ Own ρ o b := fun {ρ} h ⟨i, ds, e, _⟩ => by
  have go : ∀ (ρ : Rho) (i : Nat), noOwnIn ρ = true → ρ[i]? ≠ some (Sl.own ds) := fun ρ => by
    induction ρ with
    | nil => exact fun i _ e => by simp at e
    | cons s ρ ih =>
      intro i h e
      cases s with
      | own _ => cases h
      | _ =>
        cases i with
        | zero => simp at e
        | succ i => exact ih i h (by simpa using e)
  exact go ρ i h e
theorem run_seq {G : Gm} {X : Addr → Prop} {o : Nat → Addr} {σ : L2.St} {H : Hp} {ρ : Rho} {t r : TS} {E : DE} {D : Ends} (h : wpS G t ρ E) (V : EnvOk G X o σ H ρ) (nr : ∀ r, ¬ E.rt r) (nb : ∀ r, ¬ E.bk r) (nc : ∀ r, ¬ E.ct r)
    (k : ∀ o' σ' H' ρ', Reach G o ρ H o' ρ' H' → EnvOk G X o' σ' H' ρ' → E.nx ρ' → r D σ' H') : tSeq t r D σ H :=
  h X o σ H V { D with nx := r D } k (fun _ _ _ _ z => absurd z (nr _)) (fun _ _ _ _ _ _ z => absurd z (nb _)) (fun _ _ _ _ _ _ z => absurd z (nc _))
abbrev s_Table___init__ : Stmt := inClass (top 47) 0
abbrev N_Table___init__ : List Str := ["self", "things", "ties", "at", "tie"]
theorem sc_Table___init__ : FnScope N_Table___init__ ["self", "things", "ties"] (defScope s_Table___init__) := ⟨rfl, rfl, rfl, by decide +kernel, rfl, by decide +kernel, by decide +kernel⟩

/-- @TERM Table.__init__ -/
theorem ok_Table {f : Addr} {fd : FuncData} (T : Tx mg) (D : FunD K "__init__" "Table.__init__" (defArgs s_Table___init__) (defBody s_Table___init__) (defScope s_Table___init__) [] [] f fd)
    (c_are_things : Cl P w K mg base 2 "are_things" (SpP p_are_things)) (c_is_tie : Cl P w K mg base 2 "is_tie" (SpP p_is_tie)) : FnOk P w K mg base CX0 4 f fd ["self", "things", "ties"] (SpI K) := by
  have sc := sc_Table___init__
  refine D.ok sc (fun vs H Q E ⟨x, C, dx, A, v, u, ns, ts, e, _⟩ => by rw [e]; rfl) fun cdv A outer s H vs Q E hr h => ?_
  have hu := hr.units
  obtain ⟨x, C, dx, A', v, u, ns, ts, rfl, hx, xd, ax, tc, r1, r2, ok1, ok2, q⟩ := h
  refine ⟨_, PSs.nox (pss_cons (ps_if (pt_not (pt_val (pe_cl c_are_things hr (by first | decide | omega) (by rfl) (pa_cons (pv 1) pa_nil)))) (pss_one ps_never) pss_nil)
    (pss_cons (ps_if (PW.pt (pw_or (pt_not (pt_val (pe_callB call_isi (by rfl) T.b_isinstance (by decide +kernel) (pa_cons (pv 2) (pa_cons (pe_bltn (v := .ty "tuple") (by rfl) T.b_tuple (by decide +kernel) rfl) pa_nil))))) (pw_or1 (pt_cmpR op_gt (pe_callB (lenSq (F := K)) (by rfl) T.b_len (by decide +kernel) (pa_cons (pv 2) pa_nil)) (pe_k rfl T.MOST_TIES) (nomark _))))) (pss_one ps_never) pss_nil)
    (pss_cons (ps_for PassesOwn.never rfl (pi_enumT (by rfl) T.b_enumerate (pa_cons (pv 2) pa_nil)) (pg_tup rfl (pgs_cons (pg_name (i := 3) sc.nd rfl (by first | exact Or.inl rfl | exact Or.inr rfl)) (pgs_cons (pg_name (i := 4) sc.nd rfl (by first | exact Or.inl rfl | exact Or.inr rfl)) pgs_nil)))
      (pss_one (ps_if (pt_not (pt_val (pe_cl c_is_tie hr (by first | decide | omega) (by rfl) (pa_cons (pv 4) (pa_cons (pe_callB (lenSq (F := K)) (by rfl) T.b_len (by decide +kernel) (pa_cons (pv 1) pa_nil)) pa_nil))))) (pss_one ps_never) pss_nil)))
    (pss_cons (ps_fld (pv 0) (pv 1) (by rfl))
    (pss_one (ps_fld (pv 0) (pv 2) (by rfl))))))), ?_⟩
  have V : EnvOk (Gmi x (.ins C dx []) (fun _ => nofun)) A' (fun _ => 0) (L2.start N_Table___init__ [.ref x, v, u]) H [.spc (.ref x), .dat (.tuple (ns.map .str)), .dat (.tuple (ts.map et)), .no, .no] :=
    env_start (G := Gmi x (.ins C dx []) (fun _ => nofun)) (N := N_Table___init__) (ss := [.spc (.ref x), .dat (.tuple (ns.map .str)), .dat (.tuple (ts.map et))]) hx (fun b e => by rw [show b = x from e]; exact ax) xd (.cons .spc (.cons (.dat r1) (.cons (.dat r2) .nil))) (le_ rfl) fun _ => 0
  refine run_seq (E := ⟨fun ρ => ρ = [.spc (.ref x), .dat (.tuple (ns.map .str)), .dat (.tuple (ts.map et)), .no, .no], fun _ => False, fun _ => False, fun _ => False⟩) (wpS_if (wpT_not (wpT_B (wpE_callP (wpA_cons (wpE_var rfl (wpA_nil ⟨[_], rfl, ns, rfl, ok1, _, rfl, wpS_nil rfl⟩)))))))
    V (fun _ z => z) (fun _ z => z) (fun _ z => z) fun o1 σ1 H1 ρ1 a1 V1 e1 => ?_
  subst e1
  refine run_seq (E := ⟨fun ρ => ρ = [.spc (.ref x), .dat (.tuple (ns.map .str)), .dat (.tuple (ts.map et)), .no, .no], fun _ => False, fun _ => False, fun _ => False⟩) (wpS_if (wpT_or (wpT_not (wpT_B (wpE_isi (wpE_var rfl ⟨true, kit_tuple (d := .tuple (ts.map et)) nofun, nofun, _, rfl, ?_⟩))))))
    V1 (fun _ z => z) (fun _ z => z) (fun _ z => z) fun o2 σ2 H2 ρ2 a2 V2 e2 => ?_
  · refine wpT_test (wpE_op opD_B0 (wpE_len (wpE.Q (wpE_var rfl ⟨_, rfl, wpE_int ⟨_, _, rfl, rfl, false, ?_, wpS_nil rfl⟩⟩))))
    have := ok2.1
    rw [map_len, decide_eq_false (by omega)]
  subst e2
  refine run_seq (E := ⟨fun ρ => ∃ a b, ρ = [.spc (.ref x), .dat (.tuple (ns.map .str)), .dat (.tuple (ts.map et)), a, b], fun _ => False, fun _ => False, fun _ => False⟩) (wpS_for (tg_tup (js := [3, 4]) rfl rfl) (wpI_enumT (wpA_cons (wpE_var rfl (wpA_nil ⟨_, rfl, fun _ ρ => ∃ a b, ρ = [.spc (.ref x), .dat (.tuple (ns.map .str)), .dat (.tuple (ts.map et)), a, b], ⟨_, _, rfl⟩, ?_, fun _ z => z⟩)))))
    V2 (fun _ z => z) (fun _ z => z) (fun _ z => z) fun o3 σ3 H3 ρ3 a3 V3 e3 => ?_
  · rintro i d ρ' hi e ⟨a, b, rfl⟩
    obtain ⟨t, ht, rfl⟩ := enum_get e
    refine ⟨_, rfl, ?_⟩
    show wpS _ _ [.spc (.ref x), .dat (.tuple (ns.map .str)), .dat (.tuple (ts.map et)), .dat (en i), .dat (et t)] _
    refine wpS_if (wpT_not (wpT_B (wpE_callP (wpA_cons (wpE_var rfl (wpA_cons (wpE_len (wpE.Q (wpE_var rfl ⟨_, rfl, wpA_nil ⟨[_, _], rfl, t, ns.length, ?_, ok2.2 t (List.mem_of_getElem? ht), _, rfl, wpS_nil ⟨_, _, rfl⟩⟩⟩)))))))))
    rw [map_len]
  obtain ⟨a, b, rfl⟩ := e3
  have self3 : σ3[0]? = some (some (.ref x)) := V3.spc 0 _ rfl
  obtain ⟨v', hv, rv⟩ := V3.dat 1 _ rfl
  obtain ⟨u', hu', ru⟩ := V3.dat 2 _ rfl
  refine ⟨v', hv, .ref x, self3, x, C, dx, [], rfl, V3.s, tc.cls, tc.th, lt_ rfl, u', hu', .ref x, self3, x, C, dx, [("things", v')], rfl, upd_same, tc.cls, tc.ti, lt_ rfl, ?_⟩
  have e : putF ("ties" : Str) u' [(("things" : Str), v')] = [(("things" : Str), v'), (("ties" : Str), u')] := by
    show (if (Str.ofString "things") = (Str.ofString "ties") then _ else _) = _
    rw [if_neg (by decide +kernel)]; rfl
  have up : ∀ b o, H3 b = some o → b ≠ x → (upd (upd H3 x (.ins C dx (putF "things" v' []))) x (.ins C dx (putF "ties" u' [("things", v')]))) b = some o := fun b o h n => by
    rw [upd_ne n, upd_ne n]; exact h
  have rr : ∀ {y : L2.V} {d : PD}, Rp (Av A' o3 [.spc (.ref x), .dat (.tuple (ns.map .str)), .dat (.tuple (ts.map et)), a, b]) H3 y d → Rp A' (upd (upd H3 x (.ins C dx (putF "things" v' []))) x (.ins C dx (putF "ties" u' [("things", v')]))) y d := fun r => r.to fun b o h n =>
    ⟨up b o h fun z => n (.inl (by rw [z]; exact ax)), fun z => n (.inl z)⟩
  refine q _ v' u' (fun b o h n => up b o ((a1.trans (a2.trans a3)).fr b o h fun z => z.elim n fun z => no_own (by rfl) z) n) (by rw [upd_same, e]) (rr rv) (rr ru)
/-- the class Table stands, its maker keeps its promise -/
structure ClT (P : Program) (w : World) (K : PySem.W.Frag) (mg : Str → Option Value) (base : Heap) (k : Nat) (C f : Addr) (fd : FuncData) : Prop where
  mk_ : Mk K C f
  fn : FnOk P w K mg base CX0 k f fd ["self", "things", "ties"] (SpI K)
  g : mg "Table" = some (.ref C)
  b : Binds K fd ["self", "things", "ties"] []
  c : TbC K C
section
variable {X : Cx} {C f : Addr} {fd : FuncData} {j k : Nat} {e : Expr} {es : List Expr} {t : TA} {p pos : Pos}
theorem pe_mkT (c : ClT X.prog X.w X.K X.mg X.base k C f fd) (hr : Room j X.A) (hk : k + 1 ≤ j) (hg : Gl X "Table") (ha : PA X (e :: es) t)
    (he : starEach (e :: es) X.env = (false, eval e X.env) :: starEach es X.env := by rfl) (hpl : (backTo pos (starEach es X.env)).any (·.1) = false := by rfl) :
    PE X (.Call (.Name "Table" p) (e :: es) [] pos) (tMake C (SpI X.K) [] E0 t) := pe_make c.mk_ c.fn (hr.mono hk) hg c.g c.b .nil pass0 ha (by decide) he hpl
end
theorem wpE_mkT {G : Gm} {ρ : Rho} {ta : TA} {C : Addr} {Kx : PD → Prop} (tc : TbC K C) (h : wpA G ta ρ fun ss => ∃ (ns : List Str) (ts : List TieT), ss = [.dat (.tuple (ns.map .str)), .dat (.tuple (ts.map et))] ∧ okNs ns ∧ okTis ns.length ts ∧ Kx (tabD C (.tuple (ns.map .str)) (.tuple (ts.map et)))) :
    wpE G (tMake C (SpI K) [] E0 ta) ρ Kx := fun X o σ H V Q q => h X o σ H V _ fun vs H1 ss f1 s1 r ⟨ns, ts, e, o1, o2, k⟩ => by
  subst e
  have V1 := V.step f1 s1
  obtain ⟨v, u, rfl, r1, r2⟩ : ∃ v u, vs = [v, u] ∧ Rp (Av X o ρ) H1 v (.tuple (ns.map .str)) ∧ Rp (Av X o ρ) H1 u (.tuple (ts.map et)) := by
    cases r with
    | cons r1 r =>
      cases r with
      | cons r2 r =>
        cases r
        cases r1 with
        | dat r1 => cases r2 with
          | dat r2 => exact ⟨_, _, rfl, r1, r2⟩
  intro x dx hx hdx hne
  have hx2 : (upd H1 dx (.own x)) x = none := by rw [upd_ne fun z => hne z.symm]; exact hx
  have E1 : Ex H1 (upd (upd H1 dx (.own x)) x (.ins C dx [])) := (Ex.new hdx).tr (Ex.new hx2)
  have rr : ∀ {y : L2.V} {d : PD}, Rp (Av X o ρ) H1 y d → Rp (fun b => Av X o ρ b ∨ b = x) (upd (upd H1 dx (.own x)) x (.ins C dx [])) y d := fun r => r.to fun b u h n =>
    ⟨E1 b u h, fun z => z.elim n fun z => by rw [z, hx] at h; cases h⟩
  refine ⟨x, C, dx, fun b => Av X o ρ b ∨ b = x, v, u, ns, ts, rfl, upd_same, fun b z => ?_, .inr rfl, tc, rr r1, rr r2, o1, o2, fun H' v' u' fr hx' rv ru => ⟨rfl, ?_⟩⟩
  · rcases z with z | z
    · cases e : H1 b with
      | none => exact absurd e (V1.dom z)
      | some u => rw [E1 b u e]; exact nofun
    · rw [z, upd_same]; exact nofun
  · have E2 : Ex H1 H' := fun b u h => fr b u (E1 b u h) fun z => by rw [z, hx] at h; cases h
    refine q (.ref x) H' _ (f1.trans E2.fr) (G.mono _ _ s1 E2) (.tab hx' (V1.fresh hx) (rv.sub fun b z => .inl z) (ru.sub fun b z => .inl z)) k
end

end K42
/-! text P7 -/
set_option Elab.async false
set_option linter.all false
set_option maxRecDepth 100000
set_option maxHeartbeats 4000000
namespace K42
open PySem PySem.Spec PyProof.Rows L2

/-! The law's heap: draws. -/
section
variable {P : Program} {w : World} {K : PySem.W.Frag} {mg : Str → Option Value} {base : Heap}
/-- the heap's two lists -/
def HpA (a c : Addr) (H : Hp) : Prop := ∃ (cells : List Int) (st : Int), H a = some (.lst [.ref c, .int st]) ∧ H c = some (.lst (cells.map V.int)) ∧ (∀ x ∈ cells, 0 ≤ x) ∧ 0 ≤ st ∧ cells.length ≤ 1000
theorem RpL.ofInts {A : Addr → Prop} {H : Hp} : ∀ ns : List Int, RpL A H (ns.map V.int) (ns.map PyData.int)
  | [] => .nil
  | n :: ns => .cons (.int n) (RpL.ofInts ns)
theorem canLay_ints (ns : List Int) : PyData.canLayAll0 (ns.map PyData.int) = true := (plain_all (k := 0) fun d h => by
  obtain ⟨x, _, rfl⟩ := List.mem_map.mp h
  exact ⟨rfl, Nat.le_refl _⟩).1
theorem shaped_ints (ns : List Int) : SeqAt.shaped (.list (ns.map PyData.int)) = true := (plain_list (k := 0) fun d h => by
  obtain ⟨x, _, rfl⟩ := List.mem_map.mp h
  exact ⟨rfl, Nat.le_refl _⟩).shaped (by decide)
section
variable {σ : L2.St} {H : Hp} {a c : Addr} {st : Int} {cells : List Int}
theorem hp_0 (h : σ[0]? = some (some (.ref a))) (ha : H a = some (.lst [.ref c, .int st])) : Val (tOp (rIx K) (tVar 0) (tC (.int 0))) σ H (.ref c) := fun Q q => ⟨.ref a, h, .inl ⟨a, _, 0, .ref c, rfl, rfl, .inl (.inl ha), rfl, q⟩⟩
theorem hp_1 (h : σ[0]? = some (some (.ref a))) (ha : H a = some (.lst [.ref c, .int st])) : Val (tOp (rIx K) (tVar 0) (tC (.int 1))) σ H (.int st) := fun Q q => ⟨.ref a, h, .inl ⟨a, _, 1, .int st, rfl, rfl, .inl (.inl ha), rfl, q⟩⟩
theorem ne_nil {te : TE} {Q : Bool → Hp → Prop} (hv : Val te σ H (.ref c)) (hc : H c = some (.lst (cells.map V.int))) (q : ∀ H', Ex H H' → Q (!decide (cells = [])) H') : (tTest (tOp (rNeD K) te (tLst tNil))) σ H Q := by
  refine hv _ ⟨Nat.zero_le _, fun p hp => ⟨.list (cells.map .int), .list [], ?_, ?_, shaped_ints _, rfl, _, rfl, ?_⟩⟩
  · exact (Rp.lst (A := fun _ => False) (Ex.new hp c _ hc) id (RpL.ofInts cells)).dp (by rw [PyData.canLay0]; exact canLay_ints _)
  · exact (Rp.lst (A := fun _ => False) upd_same id .nil).dp rfl
  · have e : (!PyData.eqv (.list (cells.map .int)) (.list [])) = !decide (cells = []) := by
      rw [eqv_listNil]; cases cells <;> rfl
    rw [e]; exact q _ (Ex.new hp)
theorem last_int {x : Int} (h : cells.getLast? = some x) : atI (cells.map V.int) (-1) = some (.int x) := by
  have hl : 0 < cells.length := by cases cells with | nil => cases h | cons _ _ => exact Nat.succ_pos _
  unfold atI
  rw [List.length_map, ixN_last hl]
  show (cells.map V.int)[cells.length - 1]? = _
  rw [List.getElem?_map, ← List.getLast?_eq_getElem?, h]; rfl
end
def SpDraw : Sp := fun vs H Q _ => ∃ (a c : Addr) (m : Int), vs = [.ref a, .int m] ∧ HpA a c H ∧ 0 < m ∧ m < 1073741824 ∧ ∀ r H', 0 ≤ r → r < m → Fr (fun b => b = a ∨ b = c) H H' → HpA a c H' → Q (.int r) H'
abbrev s__law_draw : Stmt := top 50
abbrev N__law_draw : List Str := ["_law_heap_here", "_law_many", "_law_rest"]
theorem sc__law_draw : FnScope N__law_draw ["_law_heap_here", "_law_many"] (defScope s__law_draw) := ⟨rfl, rfl, rfl, by decide +kernel, rfl, by decide +kernel, by decide +kernel⟩

/-- @TERM _law_draw -/
theorem ok__law_draw (T : Tx mg) (D : Dn K mg "_law_draw" s__law_draw) : Cl P w K mg base 1 "_law_draw" SpDraw := by
  have sc := sc__law_draw
  refine cl_mk D sc (fun _ _ _ _ _ _ us hl => match us, hl with | [_, _], _ => rfl) (fun vs H Q E ⟨a, c, m, e, _⟩ => by rw [e]; rfl) fun f cdv A outer s H vs Q E hr h => ?_
  have hu := hr.units
  obtain ⟨a, c, m, rfl, ⟨cells, st, ha, hc, hn, hst, hlen⟩, m0, m1, q⟩ := h
  have ac : a ≠ c := fun z => by
    rw [z, hc] at ha
    cases cells with
    | nil => cases ha
    | cons x xs => cases xs <;> cases ha
  refine ⟨_, (pss_cons (ps_while PassesOwn.never (PW.pt (pw_and (pt_cmpR (opNe (F := K) hu) (pe_ix (ixSq (F := K)) (pv 0) pe_int (fun _ _ => rfl)) (pe_lst pa_nil) (nomark _)) (pw_and1 (pt_cmpR (opEq (F := K) hu) (pe_ix (ixSq (F := K)) (pe_ix (ixSq (F := K)) (pv 0) pe_int (fun _ _ => rfl)) (pe_un un_neg pe_int) (fun _ _ => rfl)) pe_int (nomark _))))) (pss_one (ps_expr (pe_bm0 PySem.F.plainAttrs_list PySem.F.slot_list_pop PySem.F.type_list_pop mt_pop (pe_ix (ixSq (F := K)) (pv 0) pe_int (fun _ _ => rfl))))))
    (pss_cons (ps_if (pt_cmpR (opNe (F := K) hu) (pe_ix (ixSq (F := K)) (pv 0) pe_int (fun _ _ => rfl)) (pe_lst pa_nil) (nomark _)) (pss_cons (ps_set (i := 2) sc.nd rfl (Or.inl rfl) (pe_bm0 PySem.F.plainAttrs_list PySem.F.slot_list_pop PySem.F.type_list_pop mt_pop (pe_ix (ixSq (F := K)) (pv 0) pe_int (fun _ _ => rfl))))
      (pss_cons (ps_expr (pe_bm PySem.F.plainAttrs_list PySem.F.slot_list_append PySem.F.type_list_append mt_append (pe_ix (ixSq (F := K)) (pv 0) pe_int (fun _ _ => rfl)) (pa_cons (pe_op op_fdiv (pv 2) (pv 1)) pa_nil)))
      (pss_one (ps_ret (pe_op op_mod (pe_callTy call_int1 (by rfl) T.b_int (by decide +kernel) (pa_cons (pv 2) pa_nil)) (pv 1)))))) pss_nil)
    (pss_cons (ps_asg (pe_op op_mod (pe_callTy call_int1 (by rfl) T.b_int (by decide +kernel) (pa_cons (pe_op op_add (pe_op op_mul (pe_ix (ixSq (F := K)) (pv 0) pe_int (fun _ _ => rfl)) pe_int) pe_int) pa_nil)) pe_int) (pg_sub (pv 0) pe_int set_list))
    (pss_one (ps_ret (pe_op op_mod (pe_callTy call_int1 (by rfl) T.b_int (by decide +kernel) (pa_cons (pe_op op_fdiv (pe_ix (ixSq (F := K)) (pv 0) pe_int (fun _ _ => rfl)) pe_int) pa_nil)) (pv 1))))))), ?_⟩
  show tSeq _ _ _ [some (.ref a), some (.int m), none] H
  have N : Addr → Prop := fun b => b = a ∨ b = c
  refine ⟨fun k σ' H' => σ' = [some (.ref a), some (.int m), none] ∧ ∃ cells : List Int, cells.length = k ∧ H' a = some (.lst [.ref c, .int st]) ∧ H' c = some (.lst (cells.map V.int)) ∧ (∀ x ∈ cells, 0 ≤ x) ∧ cells.length ≤ 1000 ∧ Fr (fun b => b = a ∨ b = c) H H', ⟨_, rfl, cells, rfl, ha, hc, hn, hlen, Fr.rfl'⟩, ?_⟩
  rintro k σ' H1 ⟨rfl, cells, rfl, ha, hc, hn, hlen, fr1⟩
  refine ne_nil (hp_0 rfl ha) hc fun H2 e2 => ?_
  have ha2 := e2 _ _ ha
  have hc2 := e2 _ _ hc
  have fr2 : Fr (fun b => b = a ∨ b = c) H H2 := fr1.trans e2.fr
  -- what follows the loop
  have fin : ∀ H2, H2 a = some (.lst [.ref c, .int st]) → H2 c = some (.lst (cells.map V.int)) → Fr (fun b => b = a ∨ b = c) H H2 → tSeq (tIfS (tTest (tOp (rNeD K) (tOp (rIx K) (tVar 0) (tC (.int 0))) (tLst tNil)))
        (tSeq (tAsg (tBM0 K "list" rPop (tOp (rIx K) (tVar 0) (tC (.int 0)))) (gName 2)) (tSeq (tDrop (tBM K "list" rAppend (tOp (rIx K) (tVar 0) (tC (.int 0))) (tCons (tOp (rI CDiv fun i j => V.int (i / j)) (tVar 2) (tVar 1)) tNil)))
            (tRet (tOp (rI (fun x j => 0 < j) fun i j => V.int (i % j)) (tCB (fun xs H Q => (∃ i, xs = [V.int i] ∧ Q (V.int i) H) ∨ ∃ k, xs = [V.bl k] ∧ Q (V.int (if k = true then 1 else 0)) H) (tCons (tVar 2) tNil)) (tVar 1))))) tNext)
      (tSeq (tAsg (tOp (rI (fun x j => 0 < j) fun i j => V.int (i % j)) (tCB (fun xs H Q => (∃ i, xs = [V.int i] ∧ Q (V.int i) H) ∨ ∃ k, xs = [V.bl k] ∧ Q (V.int (if k = true then 1 else 0)) H)
              (tCons (tOp (rI0 fun i j => V.int (i + j)) (tOp (rI CMul fun i j => V.int (i * j)) (tOp (rIx K) (tVar 0) (tC (V.int 1))) (tC (V.int 48271))) (tC (V.int 17))) tNil)) (tC (V.int 2147483647))) (gSub (tVar 0) (tC (V.int 1)) rSetL))
        (tRet (tOp (rI (fun x j => 0 < j) fun i j => V.int (i % j)) (tCB (fun xs H Q => (∃ i, xs = [V.int i] ∧ Q (V.int i) H) ∨ ∃ k, xs = [V.bl k] ∧ Q (V.int (if k = true then 1 else 0)) H)
              (tCons (tOp (rI CDiv fun i j => V.int (i / j)) (tOp (rIx K) (tVar 0) (tC (V.int 1))) (tC (V.int 32))) tNil)) (tVar 1))))
      { nx := fun x H' => Q V.non H', rt := Q } [some (.ref a), some (.int m), none] H2 := fun H2 ha hc fr => by
    refine ne_nil (hp_0 rfl ha) hc fun H3 e3 => ?_
    have ha3 := e3 _ _ ha
    have hc3 := e3 _ _ hc
    have fr3 : Fr (fun b => b = a ∨ b = c) H H3 := fr.trans e3.fr
    by_cases hz : cells = []
    · rw [decide_eq_true hz, Bool.not_true, if_neg Bool.false_ne_true]
      show tSeq _ _ _ [some (.ref a), some (.int m), none] H3
      refine hp_1 rfl ha3 _ ⟨_, _, rfl, rfl, .inr (by decide), ?_⟩
      refine ⟨_, _, rfl, rfl, .inl ⟨_, rfl, ?_⟩⟩
      refine ⟨_, _, rfl, rfl, (show (0 : Int) < 2147483647 by decide), ?_⟩
      refine ⟨.ref a, rfl, a, _, 1, 1, rfl, rfl, ha3, rfl, ?_⟩
      have ha4 : (upd H3 a (.lst [.ref c, .int ((st * 48271 + 17) % 2147483647)])) a = some (.lst [.ref c, .int ((st * 48271 + 17) % 2147483647)]) := upd_same
      have hc4 : (upd H3 a (.lst [.ref c, .int ((st * 48271 + 17) % 2147483647)])) c = some (.lst (cells.map V.int)) := by rw [upd_ne fun z => ac z.symm]; exact hc3
      refine hp_1 (c := c) (st := (st * 48271 + 17) % 2147483647) rfl ha4 _ ⟨_, _, rfl, rfl, ⟨by decide, by decide⟩, ?_⟩
      refine .inl ⟨_, rfl, .int m, rfl, _, _, rfl, rfl, m0, ?_⟩
      refine q _ _ (Int.emod_nonneg _ (by omega)) (Int.emod_lt_of_pos _ m0) (fr3.trans fun b u h n => ?_) ⟨cells, _, ha4, hc4, hn, Int.emod_nonneg _ (by decide), hlen⟩
      rw [upd_ne fun z => n (.inl z)]; exact h
    · rw [decide_eq_false hz, Bool.not_false, if_pos rfl]
      show tSeq _ _ _ [some (.ref a), some (.int m), none] H3
      obtain ⟨x, hx⟩ : ∃ x, cells.getLast? = some x := by
        cases h : cells.getLast? with
        | none => exact absurd (List.getLast?_eq_none_iff.mp h) hz
        | some x => exact ⟨x, rfl⟩
      have hxm : x ∈ cells := List.mem_of_getLast? hx
      refine hp_0 rfl ha3 _ ⟨.inl ⟨rfl, _, .inl (.inl hc3)⟩, c, _, .int x, rfl, rfl, hc3, ?_, ?_⟩
      · rw [List.length_map, List.getElem?_map, ← List.getLast?_eq_getElem?, hx]; rfl
      have ha4 : (upd H3 c (.lst (cells.dropLast.map V.int))) a = some (.lst [.ref c, .int st]) := by rw [upd_ne ac]; exact ha3
      have ed : (cells.map V.int).dropLast = cells.dropLast.map V.int := by rw [List.map_dropLast]
      show tSeq _ _ _ [some (.ref a), some (.int m), some (.int x)] (upd H3 c (.lst (cells.map V.int).dropLast))
      rw [ed]
      refine hp_0 rfl ha4 _ ⟨.inl ⟨rfl, _, .inl (.inl upd_same)⟩, .int x, rfl, .int m, rfl, _, _, rfl, rfl, ⟨m0, m1⟩, c, _, _, rfl, rfl, upd_same, ?_, ?_⟩
      · rw [List.length_map, List.length_dropLast]
        exact sz6' (by omega)
      have ee : cells.dropLast.map V.int ++ [.int (x / m)] = (cells.dropLast ++ [x / m]).map V.int := by rw [List.map_append]; rfl
      rw [ee]
      refine ⟨.int x, rfl, .inl ⟨_, rfl, .int m, rfl, _, _, rfl, rfl, m0, ?_⟩⟩
      refine q _ _ (Int.emod_nonneg _ (by omega)) (Int.emod_lt_of_pos _ m0) (fr3.trans fun b u h n => ?_) ⟨cells.dropLast ++ [x / m], st, ?_, upd_same, ?_, hst, ?_⟩
      · rw [upd_ne fun z => n (.inr z), upd_ne fun z => n (.inr z)]; exact h
      · rw [upd_ne ac]; exact ha4
      · intro y hy
        rcases List.mem_append.mp hy with h | h
        · exact hn y (List.dropLast_subset cells h)
        · rw [List.mem_singleton.mp h]; exact Int.ediv_nonneg (hn x hxm) (by omega)
      · rw [List.length_append, List.length_dropLast, List.length_singleton]; omega
  by_cases hz : cells = []
  · rw [decide_eq_true hz, Bool.not_true, if_neg Bool.false_ne_true]
    exact fin H2 ha2 hc2 fr2
  · rw [decide_eq_false hz, Bool.not_false, if_pos rfl]
    obtain ⟨x, hx⟩ : ∃ x, cells.getLast? = some x := by
      cases h : cells.getLast? with
      | none => exact absurd (List.getLast?_eq_none_iff.mp h) hz
      | some x => exact ⟨x, rfl⟩
    refine hp_0 rfl ha2 _ ⟨1, rfl, .inl ⟨c, _, -1, .int x, rfl, rfl, .inl (.inl hc2), last_int hx, .int x, .int 0, .int x, .int 0, rfl, rfl, _, rfl, ?_⟩⟩
    show if (x == 0) = true then _ else _
    by_cases h0 : x = 0
    · rw [beq_iff_eq.mpr h0, if_pos rfl]
      refine ⟨_, fun _ _ n => ⟨cells.length - 1, ?_, n⟩, ?_⟩
      · have : 0 < cells.length := List.length_pos_iff.mpr hz
        omega
      refine hp_0 rfl ha2 _ ⟨.inl ⟨rfl, _, .inl (.inl hc2)⟩, c, _, .int x, rfl, rfl, hc2, ?_, rfl, cells.dropLast, List.length_dropLast, ?_, ?_, fun y hy => hn y (List.dropLast_subset cells hy), ?_, fr2.trans fun b u h n => ?_⟩
      · rw [List.length_map, List.getElem?_map, ← List.getLast?_eq_getElem?, hx]; rfl
      · rw [upd_ne ac]; exact ha2
      · rw [upd_same, List.map_dropLast]
      · rw [List.length_dropLast]; omega
      · rw [upd_ne fun z => n (.inr z)]; exact h
    · rw [beq_false_of_ne h0, if_neg Bool.false_ne_true]
      exact fin H2 ha2 hc2 fr2
end

end K42
/-! text P8 -/
set_option Elab.async false
set_option linter.all false
set_option maxRecDepth 100000
set_option maxHeartbeats 4000000
namespace K42
open PySem PySem.Spec PyProof.Rows L2

/-! The law's heap: picks, mixing. -/
section
variable {P : Program} {w : World} {K : PySem.W.Frag} {mg : Str → Option Value} {base : Heap}
abbrev Nac (a c : Addr) : Addr → Prop := fun b => b = a ∨ b = c
theorem HpA.loc {a c : Addr} {H H' : Hp} (h : HpA a c H) (k : ∀ b u, H b = some u → Nac a c b → H' b = some u) : HpA a c H' := by
  obtain ⟨cells, st, h1, h2, h3⟩ := h
  exact ⟨cells, st, k _ _ h1 (.inl rfl), k _ _ h2 (.inr rfl), h3⟩
theorem HpA.ne {a c p : Addr} {H : Hp} (h : HpA a c H) (hp : H p = none) : ¬ Nac a c p := by
  obtain ⟨cells, st, h1, h2, _⟩ := h
  rintro (z | z)
  · rw [z, h1] at hp; cases hp
  · rw [z, h2] at hp; cases hp
theorem erase_perm {α : Type} {x : α} : ∀ {l : List α} {j : Nat}, l[j]? = some x → (x :: l.eraseIdx j).Perm l
  | [], _, h => by simp at h
  | y :: l, 0, h => by simp at h; subst h; exact .refl _
  | y :: l, j + 1, h => (List.Perm.swap y x _).trans ((erase_perm (l := l) (j := j) (by simpa using h)).cons y)
def SpPick : Sp := fun vs H Q _ => ∃ (a c p : Addr) (xs : List L2.V), vs = [.ref a, .ref p] ∧ HpA a c H ∧ (H p = some (.lst xs) ∨ H p = some (.tup xs)) ∧ ¬ Nac a c p ∧ 0 < xs.length ∧ xs.length ≤ 1000 ∧ ∀ x ∈ xs, ∀ H', Fr (Nac a c) H H' → HpA a c H' → Q x H'
abbrev s__law_pick : Stmt := top 51
abbrev N__law_pick : List Str := ["_law_heap_here", "_law_some"]
theorem sc__law_pick : FnScope N__law_pick ["_law_heap_here", "_law_some"] (defScope s__law_pick) := ⟨rfl, rfl, rfl, by decide +kernel, rfl, by decide +kernel, by decide +kernel⟩

/-- @TERM _law_pick -/
theorem ok__law_pick (T : Tx mg) (D : Dn K mg "_law_pick" s__law_pick) (c__law_draw : Cl P w K mg base 1 "_law_draw" SpDraw) : Cl P w K mg base 2 "_law_pick" SpPick := by
  have sc := sc__law_pick
  refine cl_mk D sc (fun _ _ _ _ _ _ us hl => match us, hl with | [_, _], _ => rfl) (fun vs H Q E ⟨a, c, p, xs, e, _⟩ => by rw [e]; rfl) fun f cdv A outer s H vs Q E hr h => ?_
  have hu := hr.units
  obtain ⟨a, c, p, xs, rfl, hp, hx, np, l0, l1, q⟩ := h
  refine ⟨_, (pss_one (ps_ret (pe_ix (ixSq (F := K)) (pv 1) (pe_cl c__law_draw hr (by first | decide | omega) (by rfl) (pa_cons (pv 0) (pa_cons (pe_callB (lenSq (F := K)) (by rfl) T.b_len (by decide +kernel) (pa_cons (pv 1) pa_nil)) pa_nil))) (fun _ _ => rfl)))), ?_⟩
  refine ⟨.ref p, rfl, .ref a, rfl, .ref p, rfl, p, xs, rfl, ?_, a, c, xs.length, rfl, hp, by omega, by omega, fun r H' r0 r1 fr hp' => ?_⟩
  · exact hx.imp (fun h => .inl (.inl h)) (fun h => .inl (.inl h))
  obtain ⟨j, hj⟩ : ∃ j : Nat, (j : Int) = r := ⟨r.toNat, by omega⟩
  subst hj
  obtain ⟨x, hxj⟩ : ∃ x, xs[j]? = some x := ⟨_, List.getElem?_eq_getElem (by omega)⟩
  have fin := q x (List.mem_of_getElem? hxj) H' fr hp'
  rcases hx with h | h
  · exact .inl ⟨p, xs, (j : Int), x, rfl, rfl, .inl (.inl (fr _ _ h np)), atI_nat hxj, fin⟩
  · exact .inr (.inl ⟨p, xs, (j : Int), x, rfl, rfl, .inl (.inl (fr _ _ h np)), atI_nat hxj, fin⟩)
def SpMix : Sp := fun vs H Q _ => ∃ (a c p : Addr) (xs : List L2.V), vs = [.ref a, .ref p] ∧ HpA a c H ∧ (H p = some (.lst xs) ∨ H p = some (.tup xs)) ∧ ¬ Nac a c p ∧ xs.length ≤ 1000 ∧ ∀ l ws H', H l = none → Fr (Nac a c) H H' → HpA a c H' → H' l = some (.lst ws) → ws.Perm xs → Q (.ref l) H'
abbrev s__law_mixed : Stmt := top 52
abbrev N__law_mixed : List Str := ["_law_heap_here", "_law_some", "_law_left", "_law_found", "_law_turn"]
theorem sc__law_mixed : FnScope N__law_mixed ["_law_heap_here", "_law_some"] (defScope s__law_mixed) := ⟨rfl, rfl, rfl, by decide +kernel, rfl, by decide +kernel, by decide +kernel⟩

/-- @TERM _law_mixed -/
theorem ok__law_mixed (T : Tx mg) (D : Dn K mg "_law_mixed" s__law_mixed) (c__law_draw : Cl P w K mg base 1 "_law_draw" SpDraw) : Cl P w K mg base 2 "_law_mixed" SpMix := by
  have sc := sc__law_mixed
  refine cl_mk D sc (fun _ _ _ _ _ _ us hl => match us, hl with | [_, _], _ => rfl) (fun vs H Q E ⟨a, c, p, xs, e, _⟩ => by rw [e]; rfl) fun f cdv A outer s H vs Q E hr h => ?_
  have hu := hr.units
  obtain ⟨a, c, p, xs, rfl, hp, hx, np, l1, q⟩ := h
  refine ⟨_, (pss_cons (ps_par (i := 2) (j := 3) (by rfl) sc.nd rfl rfl (by decide) rfl rfl (pa_cons (pe_callTy call_list_of (by rfl) T.b_list (by decide +kernel) (pa_cons (pv 1) pa_nil)) (pa_cons (pe_lst pa_nil) pa_nil)) (by rfl))
    (pss_cons (ps_for PassesOwn.never rfl (pi_range1 (by rfl) T.b_range (pa_cons (pe_callB (lenSq (F := K)) (by rfl) T.b_len (by decide +kernel) (pa_cons (pv 1) pa_nil)) pa_nil)) (pg_name (i := 4) sc.nd rfl (by first | exact Or.inl rfl | exact Or.inr rfl))
      (pss_one (ps_expr (pe_bm PySem.F.plainAttrs_list PySem.F.slot_list_append PySem.F.type_list_append mt_append (pv 3) (pa_cons (pe_bm PySem.F.plainAttrs_list PySem.F.slot_list_pop PySem.F.type_list_pop mt_popAt (pv 2) (pa_cons (pe_cl c__law_draw hr (by first | decide | omega) (by rfl) (pa_cons (pv 0) (pa_cons (pe_callB (lenSq (F := K)) (by rfl) T.b_len (by decide +kernel) (pa_cons (pv 2) pa_nil)) pa_nil))) pa_nil)) pa_nil)))))
    (pss_one (ps_ret (pv 3))))), ?_⟩
  show tSeq _ _ _ [some (.ref a), some (.ref p), none, none, none] H
  refine ⟨.ref p, rfl, p, xs, rfl, hx.imp (fun h => .inl (.inl h)) (fun h => .inl (.inl h)), fun l hl => ⟨Nat.zero_le _, fun g hg => ⟨_, _, rfl, ?_⟩⟩⟩
  have lg : l ≠ g := fun z => by rw [z, upd_same] at hg; cases hg
  have hgH : H g = none := by rw [upd_ne fun z => lg z.symm] at hg; exact hg
  have hx1 : (upd H l (.lst xs)) p = H p := upd_ne fun z => by rcases hx with h | h <;> (rw [z, hl] at h; cases h)
  have pl : p ≠ l := fun z => by rcases hx with h | h <;> (rw [z, hl] at h; cases h)
  have pg : p ≠ g := fun z => by rcases hx with h | h <;> (rw [z, hgH] at h; cases h)
  have nl := hp.ne hl
  have ng := hp.ne hgH
  show tSeq _ _ _ [some (.ref a), some (.ref p), some (.ref l), some (.ref g), none] (upd (upd H l (.lst xs)) g (.lst []))
  have f0 : Fr (fun b => Nac a c b ∨ b = l ∨ b = g) H (upd (upd H l (.lst xs)) g (.lst [])) := fun b u h n => by
    rw [upd_ne fun z => n (.inr (.inr z)), upd_ne fun z => n (.inr (.inl z))]; exact h
  have P0 : ∀ H', Fr (fun b => Nac a c b ∨ b = l ∨ b = g) H H' → SqL K H' p xs ∨ SqT K H' p xs := fun H' fr => by
    have n : ¬ (Nac a c p ∨ p = l ∨ p = g) := fun z => z.elim np fun z => z.elim pl pg
    rcases hx with h | h
    · exact .inl (.inl (.inl (fr _ _ h n)))
    · exact .inr (.inl (.inl (fr _ _ h n)))
  refine ⟨.ref p, rfl, p, xs, rfl, P0 _ f0, _, rfl, by omega, by omega, ?_⟩
  refine for_it (walk_range (lo := 0)) (fun i σ' H' => ∃ (s : Option L2.V) (L F : List L2.V), σ' = [some (.ref a), some (.ref p), some (.ref l), some (.ref g), s] ∧ L.length + i = xs.length ∧ F.length = i ∧ (F ++ L).Perm xs ∧ H' l = some (.lst L) ∧ H' g = some (.lst F) ∧ HpA a c H' ∧ Fr (fun b => Nac a c b ∨ b = l ∨ b = g) H H')
    ⟨none, xs, [], rfl, rfl, rfl, .refl _, by rw [upd_ne lg, upd_same], upd_same, hp.loc fun b u h z => ?_, f0⟩ (fun _ _ _ _ _ => trivial) ?_ ?_
  · rw [upd_ne fun y => ng (by rw [← y]; exact z), upd_ne fun y => nl (by rw [← y]; exact z)]; exact h
  · rintro i x σ' H' H'' hi ⟨s, L, F, rfl, h1, h2, hpm, hl', hg', hp', fr⟩ ⟨rfl, rfl⟩
    have hi' : i < xs.length := by omega
    show tDrop _ _ [some (.ref a), some (.ref p), some (.ref l), some (.ref g), some (.int (0 + i))] H''
    refine ⟨.ref g, rfl, .inl ⟨rfl, F, .inl (.inl hg')⟩, .ref l, rfl, .inl ⟨rfl, L, .inl (.inl hl')⟩, .ref a, rfl, .ref l, rfl, l, L, rfl, .inl (.inl (.inl hl')), a, c, L.length, rfl, hp', by omega, by omega, fun r H3 r0 r1 f3 hp3 => ?_⟩
    obtain ⟨j, hj⟩ : ∃ j : Nat, (j : Int) = r := ⟨r.toNat, by omega⟩
    subst hj
    have lj : j < L.length := by omega
    have hy : L[j]? = some L[j] := List.getElem?_eq_getElem lj
    have hl3 := f3 _ _ hl' nl
    have hg3 := f3 _ _ hg' ng
    refine ⟨l, L, (j : Int), j, L[j], rfl, rfl, hl3, by omega, by omega, seqIndex_of (k := (j : Int)) (by omega) (by omega), hy, g, F, L[j], rfl, rfl, by rw [upd_ne fun z => lg z.symm]; exact hg3, sz6' (by omega), ?_⟩
    refine ⟨_, L.eraseIdx j, F ++ [L[j]], rfl, ?_, ?_, ?_, ?_, upd_same, ?_, ?_⟩
    · rw [List.length_eraseIdx, if_pos lj]; omega
    · rw [List.length_append, h2]; rfl
    · rw [List.append_assoc]
      exact ((erase_perm hy).append_left F).trans hpm
    · rw [upd_ne lg, upd_same]
    · refine hp3.loc fun b u h z => ?_
      rw [upd_ne fun y => ng (by rw [← y]; exact z), upd_ne fun y => nl (by rw [← y]; exact z)]; exact h
    · intro b u h n
      rw [upd_ne fun z => n (.inr (.inr z)), upd_ne fun z => n (.inr (.inl z))]
      exact f3 _ _ (fr _ _ h n) fun z => n (.inl z)
  · rintro σ' H' ⟨s, L, F, rfl, h1, h2, hpm, hl', hg', hp', fr⟩
    have hL : L = [] := List.eq_nil_of_length_eq_zero (by omega)
    subst hL
    rw [List.append_nil] at hpm
    refine ⟨.ref g, rfl, q g F H' hgH (fun b u h n => fr b u h fun z => ?_) hp' hg' hpm⟩
    rcases z with z | z | z
    · exact n z
    · rw [z, hl] at h; cases h
    · rw [z, hgH] at h; cases h
end

end K42
/-! text P9 -/
set_option Elab.async false
set_option linter.all false
set_option maxRecDepth 100000
set_option maxHeartbeats 4000000
namespace K42
open PySem PySem.Spec PyProof.Rows L2

/-! Data level over the law's heap: draws, picks, mixing, calls, defs. -/
section
variable {P : Program} {w : World} {K : PySem.W.Frag} {mg : Str → Option Value} {base : Heap}
def Gh (a c : Addr) : Gm where
  N := Nac a c
  S := HpA a c
  dom := fun H b s n e => s.ne e n
  loc := fun H H' s k => HpA.loc s fun b u h n => k b u h (.inl n)
section
variable {a c : Addr} {ρ : Rho} {te : TE} {ta : TA} {i : Nat} {E : XK} {Kd : PD → Prop} {Kl : List PD → Prop} {G : Gm}
theorem wpE_draw (hi : ρ[i]? = some (Sl.spc (.ref a))) (h : wpE (Gh a c) te ρ fun d => ∃ m : Int, d = .int m ∧ 0 < m ∧ m < 1073741824 ∧ ∀ r, 0 ≤ r → r < m → Kd (.int r)) : wpE (Gh a c) (tCall SpDraw [] E (tCons (tVar i) (tCons te tNil))) ρ Kd := fun X o σ H V Q q =>
  ⟨.ref a, V.spc i _ hi, h X o σ H V _ fun v H1 d f1 s1 r ⟨m, e, m0, m1, k⟩ => by
    subst e; cases r
    exact ⟨a, c, m, rfl, s1, m0, m1, fun z H2 z0 z1 f2 s2 => q _ H2 _ (f1.trans f2) s2 (.int z) (k z z0 z1)⟩⟩
/-- a list or a tuple that is read -/
def wpR (G : Gm) (te : TE) (ρ : Rho) (K : List PD → Prop) : Prop := ∀ X o σ H, EnvOk G X o σ H ρ → ∀ Q : VK,
  (∀ p vs H' ds, Fr G.N H H' → G.S H' → (H' p = some (.lst vs) ∨ H' p = some (.tup vs)) → ¬ G.N p → RpL (Av X o ρ) H' vs ds → K ds → Q (.ref p) H') → te σ H Q
theorem wpL.R (h : wpL G te ρ Kl) : wpR G te ρ Kl := fun X o σ H V Q q => h X o σ H V Q fun p vs H' ds f s e n r k => q p vs H' ds f s (.inl e) n r k
theorem wpN.R (h : wpN G te ρ Kl) : wpR G te ρ Kl := h.L.R
theorem wpE.R (h : wpE G te ρ fun d => ∃ ds, seqOf d = some ds ∧ Kl ds) : wpR G te ρ Kl := fun X o σ H V Q q => h X o σ H V Q fun v H' d f s r ⟨ds, e, k⟩ => by
  cases r with
  | lst a n r => cases e; exact q _ _ H' _ f s (.inl a) (fun z => n (V.nav _ z)) r k
  | tup a n r => cases e; exact q _ _ H' _ f s (.inr a) (fun z => n (V.nav _ z)) r k
  | _ => cases e
theorem RpL.mem {A : Addr → Prop} {H : Hp} {vs : List L2.V} {ds : List PD} {x : L2.V} (r : RpL A H vs ds) (h : x ∈ vs) : ∃ d ∈ ds, Rp A H x d := by
  obtain ⟨j, hj, e⟩ := List.getElem_of_mem h
  obtain ⟨d, e1, e2⟩ := r.getV (show vs[j]? = some x by rw [List.getElem?_eq_getElem hj, e])
  exact ⟨d, List.mem_of_getElem? e1, e2⟩
theorem RpL.perm {A : Addr → Prop} {H : Hp} {vs ws : List L2.V} (h : ws.Perm vs) : ∀ {ds : List PD}, RpL A H vs ds → ∃ es, es.Perm ds ∧ RpL A H ws es := by
  induction h with
  | nil => intro ds r; exact ⟨ds, .refl _, r⟩
  | cons x _ ih =>
    intro ds r
    cases r with
    | cons r t =>
      obtain ⟨es, p, r'⟩ := ih t
      exact ⟨_ :: es, p.cons _, .cons r r'⟩
  | swap x y l =>
    intro ds r
    cases r with
    | cons r t =>
      cases t with
      | cons r2 t => exact ⟨_, .swap _ _ _, .cons r2 (.cons r t)⟩
  | trans _ _ ih1 ih2 =>
    intro ds r
    obtain ⟨es, p, r1⟩ := ih2 r
    obtain ⟨fs, p2, r2⟩ := ih1 r1
    exact ⟨fs, p2.trans p, r2⟩
theorem wpE_pick (hi : ρ[i]? = some (Sl.spc (.ref a))) (h : wpR (Gh a c) te ρ fun ds => 0 < ds.length ∧ ds.length ≤ 1000 ∧ ∀ d ∈ ds, Kd d) : wpE (Gh a c) (tCall SpPick [] E (tCons (tVar i) (tCons te tNil))) ρ Kd := fun X o σ H V Q q =>
  ⟨.ref a, V.spc i _ hi, h X o σ H V _ fun p vs H1 ds f1 s1 e n r ⟨l0, l1, k⟩ => by
    refine ⟨a, c, p, vs, rfl, s1, e, n, by rw [r.length]; exact l0, by rw [r.length]; exact l1, fun x hx H2 f2 s2 => ?_⟩
    obtain ⟨d, hd, rd⟩ := r.mem hx
    exact q x H2 d (f1.trans f2) s2 (rd.fr V.nav f2) (k d hd)⟩
theorem wpN_mixed (hi : ρ[i]? = some (Sl.spc (.ref a))) (h : wpR (Gh a c) te ρ fun ds => ds.length ≤ 1000 ∧ ∀ es, es.Perm ds → Kl es) : wpN (Gh a c) (tCall SpMix [] E (tCons (tVar i) (tCons te tNil))) ρ Kl := fun X o σ H V Q q =>
  ⟨.ref a, V.spc i _ hi, h X o σ H V _ fun p vs H1 ds f1 s1 e n r ⟨l1, k⟩ => by
    refine ⟨a, c, p, vs, rfl, s1, e, n, by rw [r.length]; exact l1, fun l ws H2 hl f2 s2 e2 pm => ?_⟩
    obtain ⟨es, pe, re⟩ := RpL.perm pm r
    refine q l ws H2 es ?_ (f1.trans f2) s2 e2 (re.to fun b u hb nb => ⟨f2 b u hb fun z => nb (V.nav b z), fun z => z.elim nb fun z => by rw [z, hl] at hb; cases hb⟩) (k es pe)
    cases z : H l with
    | none => rfl
    | some u => exact absurd hl ((dm_of f1 s1) l (by rw [z]; exact nofun))⟩
/-- a def over the heap -/
def SpE (P : List PD → (Sl → Prop) → Prop) : Sp := fun vs H Q _ => ∃ (a c : Addr) (X : Addr → Prop) (vs' : List L2.V) (ds : List PD) (K : Sl → Prop), vs = .ref a :: vs' ∧ HpA a c H ∧ (∀ b, Nac a c b → X b) ∧ (∀ b, X b → H b ≠ none) ∧ RpL X H vs' ds ∧ P ds K ∧
  (∀ v H' d, Fr (Nac a c) H H' → HpA a c H' → Rp X H' v d → K (.dat d) → Q v H') ∧
  ∀ p ws H' es, H p = none → Fr (Nac a c) H H' → HpA a c H' → H' p = some (.lst ws) → RpL (fun b => X b ∨ b = p) H' ws es → K (.own es) → Q (.ref p) H'
theorem none_back {N : Addr → Prop} {H H' : Hp} (f : Fr N H H') (dm : ∀ b, H b ≠ none → H' b ≠ none) {p : Addr} (h : H' p = none) : H p = none := by
  cases e : H p with
  | none => rfl
  | some u => exact absurd h (dm p (by rw [e]; exact nofun))
variable {Pf : List PD → (Sl → Prop) → Prop}
theorem wpE_callE (hi : ρ[i]? = some (Sl.spc (.ref a))) (h : wpA (Gh a c) ta ρ fun ss => ∃ ds, ss = ds.map .dat ∧ Pf ds fun r => match r with | .dat d => Kd d | .own es => Kd (.list es) | _ => False) : wpE (Gh a c) (tCall (SpE Pf) [] E (tCons (tVar i) ta)) ρ Kd := fun X o σ H V Q q =>
  ⟨.ref a, V.spc i _ hi, h X o σ H V _ fun vs H1 ss f1 s1 r ⟨ds, e, p⟩ => by
    subst e
    have V1 := V.step f1 s1
    refine ⟨a, c, Av X o ρ, vs, ds, _, by rw [List.append_nil], s1, V.nav, fun b z => V1.dom z, r.dats, p, fun v H2 d f2 s2 rd k => q v H2 d (f1.trans f2) s2 rd k, fun p ws H2 es hp f2 s2 e2 r2 k => ?_⟩
    exact q (.ref p) H2 _ (f1.trans f2) s2 (.lst e2 (V1.fresh hp) (r2.sub fun b z => .inl z)) k⟩
theorem wpN_callE (hi : ρ[i]? = some (Sl.spc (.ref a))) (h : wpA (Gh a c) ta ρ fun ss => ∃ ds, ss = ds.map .dat ∧ Pf ds fun r => ∃ es, r = .own es ∧ Kl es) : wpN (Gh a c) (tCall (SpE Pf) [] E (tCons (tVar i) ta)) ρ Kl := fun X o σ H V Q q =>
  ⟨.ref a, V.spc i _ hi, h X o σ H V _ fun vs H1 ss f1 s1 r ⟨ds, e, p⟩ => by
    subst e
    have V1 := V.step f1 s1
    refine ⟨a, c, Av X o ρ, vs, ds, _, by rw [List.append_nil], s1, V.nav, fun b z => V1.dom z, r.dats, p, fun v H2 d f2 s2 rd k => ?_, fun p ws H2 es hp f2 s2 e2 r2 k => ?_⟩
    · obtain ⟨es, e, _⟩ := k
      cases e
    · obtain ⟨es', e, k⟩ := k
      cases e
      exact q p ws H2 _ (none_back f1 (dm_of f1 s1) hp) (f1.trans f2) s2 e2 r2 k⟩
end
def DEh (K : Sl → Prop) : DE := { nx := fun _ => K (.dat .none), rt := fun r => match r with | .dat d => K (.dat d) | .own es => K (.own es) | _ => False, bk := fun _ => False, ct := fun _ => False }
theorem cl_heap {x : Str} {st : Stmt} {N ps : List Str} {k : Nat} {Pf : List PD → (Sl → Prop) → Prop} (D : Dn K mg x st) (S : FnScope N ps (defScope st)) (hb : bindsOk x st ps) (len : ∀ ds K, Pf ds K → ds.length + 1 = ps.length)
    (hbody : ∀ (f : Addr) (cdv : Value) (A : Around) (outer : List Env) (s : Shared) (H : Hp) (E : XK), Room k (A.deeper (envOfC x (defScope st) s.heap.objs.size f cdv)) →
      ∃ t, PSs (cxOf CX0 P w K mg base N x (defScope st) f cdv A outer s H E).nox (defBody st) t ∧ ∀ a c ds K, Pf ds K → wpS (Gh a c) t (rho N.length (.spc (.ref a) :: ds.map .dat)) (DEh K)) : Cl P w K mg base (k + 1) x (SpE Pf) := by
  refine cl_mk D S hb (fun vs H Q E h => ?_) fun f cdv A outer s H vs Q E hr h => ?_
  · obtain ⟨a, c, X, vs', ds, K, rfl, _, _, _, r, p, _⟩ := h
    rw [List.length_cons, r.length]
    exact len ds K p
  · obtain ⟨t, pt, b⟩ := hbody f cdv A outer s H E hr
    obtain ⟨a, c, X, vs', ds, K', rfl, s0, sub, xd, r, p, q1, q2⟩ := h
    have hl : (Sl.spc (.ref a) :: ds.map .dat).length ≤ N.length := by
      have := congrArg List.length S.pre
      have := len ds K' p
      rw [List.length_take] at *
      rw [List.length_cons, List.length_map]
      omega
    have V := env_start (G := Gh a c) (N := N) (ss := .spc (.ref a) :: ds.map .dat) s0 sub xd (.cons .spc r.ss) hl fun _ => 0
    have no : ∀ b, ¬ Own (rho N.length (.spc (.ref a) :: ds.map .dat)) (fun _ => 0) b := fun b ⟨i, es, e, _⟩ => by
      unfold rho at e
      by_cases l : i < (Sl.spc (.ref a) :: ds.map .dat).length
      · rw [List.getElem?_append_left l] at e
        cases i with
        | zero => cases e
        | succ i =>
          rw [List.getElem?_cons_succ, List.getElem?_map] at e
          cases z : ds[i]? with
          | none => rw [z] at e; cases e
          | some d => rw [z] at e; cases e
      · rw [List.getElem?_append_right (by omega)] at e
        have := List.mem_of_getElem? e
        cases List.eq_of_mem_replicate this
    have fc : ∀ {H'}, Fr (Ch (Gh a c) (fun _ => 0) (rho N.length (.spc (.ref a) :: ds.map .dat))) H H' → Fr (Nac a c) H H' := fun f b u h n => f b u h fun z => z.elim n (no b)
    refine ⟨t, pt, b a c ds K' p X _ _ H V _ ?_ ?_ ?_ ?_⟩
    · exact fun o' σ' H' ρ' rr V' k => q1 .non H' .none (fc rr.fr) V'.s .non k
    · intro v H' rs ok k
      obtain ⟨f, s, m⟩ := ok
      cases rs with
      | dat d => exact q1 v H' d (fc f) s m k
      | own es =>
        obtain ⟨p, ws, rfl, e, rl, np, ow⟩ := m
        exact q2 p ws H' es (ow.elim (fun z => absurd z (no p)) id) (fc f) s e rl k
      | no => exact k.elim
      | spc v => exact k.elim
    · exact fun _ _ _ _ _ _ z => z.elim
    · exact fun _ _ _ _ _ _ z => z.elim
end

end K42
/-! text RuMul -/
set_option Elab.async false
set_option linter.all false
set_option maxRecDepth 100000
set_option maxHeartbeats 4000000
/-! tuple * int, the factor 0, 1 or more. -/
namespace K42
open PySem PySem.Spec PyProof.Rows L2
/-- a tuple's object -/
abbrev tupO (items : Array Value) (n : Nat) (dd : Option Addr) (sl : Array (Option Value)) : Obj := { cls := .type "tuple", dict := dd, data := .seq items n, slots := sl }
section
variable {l : Addr} {items : Array Value} {n : Nat} {dd : Option Addr} {sl : Array (Option Value)} {x : Int} {u : Tok}
/-- once, or an empty one: the tuple itself -/
theorem mul_same (near : (decide (x < -(2 ^ 63)) || decide (x ≥ 2 ^ 63)) = false) (one : (items.isEmpty || x == 1) = true) :
    Meets (Builtin.«tuple.__mul__» ⟨[.ref l, .int x u], []⟩) (fun _ R s => s.heap.get? l = some (tupO items n dd sl) ∧ R (.ok (.ret (.ref l))) s) :=
  .of_wp fun _ _ _ _ ⟨_, _, _, _, _⟩ ⟨there, fin⟩ => by
    have ix := AutoSeq1.idx_int
    wp_walk using wpAny_loadPart' there
    repeat (first
      | (refine wpAny_ite_true (decide_eq_true one) ?_; wp_walk using wpAny_loadPart' there)
      | (refine wpAny_ite_false (decide_eq_false (fun z => by rw [near] at z; cases z)) ?_; wp_walk using wpAny_loadPart' there))
    exact ⟨_, rfl, fin⟩
/-- no times: a new empty one -/
theorem mul_none (near : (decide (x < -(2 ^ 63)) || decide (x ≥ 2 ^ 63)) = false) (one : (items.isEmpty || x == 1) = false) (no : (decide (x ≤ 0) || items.isEmpty) = true) :
    Meets (Builtin.«tuple.__mul__» ⟨[.ref l, .int x u], []⟩) (fun _ R s => s.heap.get? l = some (tupO items n dd sl) ∧ R (.ok (.ret (Value.ref s.heap.objs.size))) { s with heap := s.heap.push { cls := Value.type "tuple", data := Data.seq #[] }, toks := s.toks }) :=
  .of_wp fun _ _ _ _ ⟨_, _, _, _, _⟩ ⟨there, fin⟩ => by
    have ix := AutoSeq1.idx_int
    wp_walk using wpAny_loadPart' there
    repeat (first
      | (refine wpAny_ite_true (decide_eq_true no) ?_; wp_walk using wpAny_loadPart' there)
      | (refine wpAny_ite_false (decide_eq_false (fun z => by rw [near] at z; cases z)) ?_; wp_walk using wpAny_loadPart' there)
      | (refine wpAny_ite_false (decide_eq_false (fun z => by rw [one] at z; cases z)) ?_; wp_walk using wpAny_loadPart' there))
    exact ⟨_, rfl, fin⟩
/-- t * k by what tuple's own product makes of it -/
theorem mul_by {prog : Program} {w : World} {A : Around} {E : Value → Shared → Prop} {s : Shared} {Q : Value → Shared → Prop} {val : Shared → Value} {nxt : Shared → Shared} (at_ : s.heap.get? l = some (tupO items n dd sl))
    (m : Meets (Builtin.«tuple.__mul__» ⟨[.ref l, .int x u], []⟩) (fun _ R t => t.heap.get? l = some (tupO items n dd sl) ∧ R (.ok (.ret (val t))) (nxt t))) (q : Q (val s) (nxt s)) :
    wpAny (model prog w) A (binaryOp .Mult (.ref l) (.int x u)) Q E s := by
  have ty : s.TypeIs (.ref l) "tuple" := ⟨_, at_, rfl⟩
  exact wpAny_binaryOp_repeat_ref (U := "int") (T := "tuple") (by decide) ty (fun t => typeIs_int t x u) noFill_tuple_mul F.fills_int_mul F.slot_int_rmul repeat_tuple F.slot_int_index.lookup
    (call_meets F.slot_int_rmul (typeIs_int s x u) F.entry_int_rmul (F.args_int_rmul_2 _ _) (int_rmul_tuple x u l items n dd sl) ⟨at_, rfl, ty, call_meets F.slot_tuple_mul ty F.entry_tuple_mul (F.args_tuple_mul_2 _ _) m ⟨at_, q⟩⟩)
end
def rRepA (K : PySem.W.Frag) : R2 := fun x y H Q => ∃ l k xs, x = .ref l ∧ y = .int k ∧ SqT K H l xs ∧ xs ≠ [] ∧ 0 ≤ k ∧ k ≤ 1000 ∧ xs.length ≤ 1000 ∧ (k = 1 → Q (.ref l) H) ∧
  (k ≠ 1 → ∀ p, H p = none → Q (.ref p) (upd H p (.tup (List.replicate k.toNat xs).flatten)))
theorem op_repA {X : Cx} {F : PySem.W.Frag} (hK : X.K = F := by rfl) : OpR X (binaryOp .Mult) (rRepA F) := by
  subst hK
  intro pins s σ H vx vy ux uy Q I rx ry ⟨l, k, xs, ex, ey, tup, full, k0, kM, len, once, else_⟩
  subst ex ey
  by_cases two : 2 ≤ k
  · exact op_repT pins s σ H _ _ ux uy Q I rx ry ⟨l, k, xs, rfl, rfl, tup, full, two, kM, len, else_ (by omega)⟩
  obtain ⟨t, rfl⟩ := ry
  cases rx
  obtain ⟨its, r, ⟨⟨_, dd, _, sl⟩, at_, rfl, n, rfl⟩, _⟩ := I.tuple tup
  have some_ : its.toArray.isEmpty = false := by
    cases r with
    | nil => exact absurd rfl full
    | cons _ _ => rfl
  have near : (decide (k < -(2 ^ 63)) || decide (k ≥ 2 ^ 63)) = false := by simp; omega
  by_cases k1 : k = 1
  · exact mul_by (val := fun _ => .ref l) (nxt := id) at_ (mul_same near (by rw [k1, some_]; rfl)) ⟨.ref l, H, I, rfl, once k1⟩
  · have z : k = 0 := by omega
    subst z
    refine mul_by (val := fun t => .ref t.heap.objs.size) (nxt := fun t => { t with heap := t.heap.push { cls := Value.type "tuple", data := Data.seq #[] }, toks := t.toks }) at_ (mul_none near (by rw [some_]; rfl) rfl) ?_
    have J := I.laid (t' := s.toks) (o := .tup []) (a := s.heap.objs.size) (h' := s.heap.push { cls := Value.type "tuple", data := Data.seq #[] }) (fun _ _ q => Heap.get?_push_of_some _ q) (Nat.le_refl _) ⟨Nat.zero_le _, [], .nil, IsTup.new _ _⟩
    exact ⟨.ref s.heap.objs.size, _, J, rfl, else_ k1 _ (I.hok.fresh (Nat.le_refl _))⟩
end K42
/-! text DLh -/
set_option Elab.async false
set_option linter.all false
set_option maxRecDepth 100000
set_option maxHeartbeats 2000000
/-! Data level: two stores by a tuple, tuple * int, list(range(n)). -/
namespace K42
open PySem PySem.Spec PyProof.Rows L2
section
variable {G : Gm} {Z X : Addr → Prop} {o : Nat → Addr} {σ : L2.St} {H H' : Hp} {ρ : Rho} {E : DE} {ta tb tc te : TE} {i j l : Nat} {F : PySem.W.Frag}
theorem Pnd.ex {N Y : Addr → Prop} {s : Sl} {v : L2.V} (p : Pnd N Y o ρ H s v) (e : Ex H H') : Pnd N Y o ρ H' s v := by
  rcases p with ⟨d, q, r⟩ | ⟨p, vs, ds, e1, e2, zp, np, q, r⟩
  · exact .inl ⟨d, q, r.ex e⟩
  · exact .inr ⟨p, vs, ds, e1, e2, zp, np, e _ _ q, r.ex e⟩
theorem wpS_asg2 (hi : i < ρ.length) (hj : j < ρ.length) (h : wpX G ta ρ fun s1 => wpX G tb ρ fun s2 => E.nx ((ρ.set i s1).set j s2)) : wpS G (tAsg (tTup (tCons ta (tCons tb tNil))) (gTup F 2 (gCons (gName i) (gCons (gName j) gNil)))) ρ E := fun X o σ H V D qn _ _ _ => by
  refine h.pend V fun v H1 s1 f1 S1 n1 V1 P1 _ k1 => ?_
  refine k1.pend V1 fun w H2 s2 f2 S2 n2 V2 P2 keep k2 => ?_
  refine ⟨sz6 (show 2 ≤ 1000000 by decide), fun T hT => ⟨T, [v, w], rfl, .inl (.inl upd_same), rfl, v, [w], rfl, w, [], rfl, rfl, ?_⟩⟩
  have e3 : Ex H2 (upd H2 T (.tup [v, w])) := Ex.new hT
  have V2 := V2.ex e3
  have P2 := P2.ex e3
  have d1 := dm_of f1 S1
  have n2' : ∀ b, pin s2 w b → H b = none := fun b z => by
    cases e : H b with
    | none => rfl
    | some u => exact absurd (n2 b z) (d1 b (by rw [e]; exact fun z => nomatch z))
  obtain ⟨o1, Va, a1, ow1⟩ := V2.put1 (X := fun b => X b ∨ pin s2 w b) hi ((keep s1 v P1).ex e3) (fun b z => .inl (V.sub b z)) (fun b z => z.imp .inl id) (fun b z => by
      rcases z with (z | z) | z
      · exact .inl (.inl z)
      · exact .inr z
      · exact .inl (.inr z)) fun b z q => by
      rcases q with q | q
      · exact V.xdom b q (n1 b z)
      · exact V1.xdom b (.inr z) (n2 b q)
  obtain ⟨o2, Vb, a2, ow2⟩ := Va.put1 (X := X) (by rw [List.length_set]; exact hj) (P2.sub_ a1 fun b z => .inr z) V.sub (fun b z => .inl z) (fun b z => z) fun b z q => V.xdom b q (n2' b z)
  refine qn o2 _ _ _ ⟨fun b u e z => ((f1.trans f2).trans e3.fr) b u e fun q => z (.inl q), fun b z => ?_, fun b z => dm_of (e3.fr (N := G.N)) V2.s b (dm_of f2 S2 b (d1 b z))⟩ Vb k2
  rcases ow2 b z with z | z
  · rcases ow1 b z with z | z
    · exact .inl z
    · exact .inr (n1 b z)
  · exact .inr (n2' b z)
theorem opD_repA : OpD (rRepA F) fun dx dy K => ∃ (xs : List PD) (k : Int), dx = .tuple xs ∧ dy = .int k ∧ xs ≠ [] ∧ 0 ≤ k ∧ k ≤ 1000 ∧ xs.length ≤ 1000 ∧ K (.tuple (List.replicate k.toNat xs).flatten) := fun A H x y dx dy K Q dm rx ry ⟨xs, k, e1, e2, n, k0, k1, l, kk⟩ q => by
  subst e1 e2; cases ry
  cases rx with
  | @tup a vs _ ha na r =>
    refine ⟨a, k, vs, rfl, rfl, .inl (.inl ha), fun z => n ?_, k0, k1, by rw [r.length]; exact l, fun h => ?_, fun _ p hp => ?_⟩
    · rw [z] at r; cases r; rfl
    · subst h
      refine q _ H _ Ex.rfl' (.tup ha na r) ?_
      have e : (List.replicate (Int.toNat 1) xs).flatten = xs := by
        show (List.replicate 1 xs).flatten = xs
        simp
      rw [e] at kk; exact kk
    · exact q _ _ _ (Ex.new hp) (.tup upd_same (fun z => dm p z hp) ((r.rep _).ex (Ex.new hp))) kk
variable {Kl : List PD → Prop}
theorem RpL.ofInts' {A : Addr → Prop} {H : Hp} : ∀ ns : List Int, RpL A H (ns.map V.int) (ns.map PyData.int)
  | [] => .nil
  | n :: ns => .cons (.int n) (RpL.ofInts' ns)
theorem wpN_listRg (h : wpE G te ρ fun d => ∃ n : Nat, d = .int n ∧ n ≤ 1000000 ∧ Kl ((List.range n).map fun (i : Nat) => PyData.int (i : Nat))) : wpN G (tLstRg (tRg1 te)) ρ Kl := fun X o σ H V Q q => h X o σ H V _ fun v H1 d f s r ⟨n, e, l, k⟩ => by
  subst e; cases r
  refine ⟨_, rfl, RgOk.of_le (by omega) (by omega) (by omega) (by omega), fun p hp => ?_⟩
  have e1 : rgV 0 (n : Int) = ((List.range n).map fun (i : Nat) => ((i : Nat) : Int)).map L2.V.int := by
    unfold rgV
    rw [List.map_map, show ((n : Int) - 0).toNat = n by omega]
    exact List.map_congr_left fun i _ => by show L2.V.int (0 + (i : Int)) = L2.V.int (i : Int); rw [Int.zero_add]
  have e2 : (List.range n).map (fun (i : Nat) => PyData.int (i : Nat)) = ((List.range n).map fun (i : Nat) => ((i : Nat) : Int)).map PyData.int := by rw [List.map_map]; rfl
  have hp0 : H p = none := by
    cases e : H p with
    | none => rfl
    | some u => exact absurd hp (dm_of f s p (by rw [e]; exact nofun))
  rw [e1]
  rw [e2] at k
  exact q p _ _ _ hp0 (f.trans (Ex.new hp).fr) (G.mono _ _ s (Ex.new hp)) upd_same (RpL.ofInts' _) k
end
end K42
/-! text P10 -/
set_option Elab.async false
set_option linter.all false
set_option maxRecDepth 100000
set_option maxHeartbeats 4000000
namespace K42
open PySem PySem.Spec PyProof.Rows L2

/-! The law's draws of names and ties. -/
section
variable {P : Program} {w : World} {K : PySem.W.Frag} {mg : Str → Option Value} {base : Heap}
theorem asc_of {xs : List Str} : ∀ {ys : List Str}, sortedS ys = true → ys.Nodup → ascS ys := fun {ys} h n => by
  have go : ∀ (ys : List Str) (p : Str), risingS p ys = true → (p :: ys).Nodup → ascS (p :: ys) := by
    intro ys
    induction ys with
    | nil => intro p _ _ i a b h1 h2; simp at h2
    | cons x r ih =>
      intro p h n i a b h1 h2
      have h' : (!ltCps x.cps.toList p.cps.toList && risingS x r) = true := h
      obtain ⟨l, h3⟩ := Bool.and_eq_true_iff.mp h'
      cases i with
      | zero =>
        simp at h1 h2
        subst h1 h2
        have hn : p ≠ x := fun z => by
          rw [z] at n
          exact (List.nodup_cons.mp n).1 List.mem_cons_self
        have l : ¬ x.cps.toList < p.cps.toList := fun z => by rw [ltCps_eq, decide_eq_true z] at l; cases l
        rcases List.le_iff_lt_or_eq.mp (List.not_lt.mp l) with h | h
        · exact h
        · refine absurd ?_ hn
          cases p with | mk p => cases x with | mk x => exact congrArg Str.mk (Array.toList_inj.mp h)
      | succ i => exact ih x h3 (List.nodup_cons.mp n).2 i a b (by simpa using h1) (by simpa using h2)
  cases ys with
  | nil => intro i a b h1 _; simp at h1
  | cons p ys => exact go ys p h n
theorem c26 : (0 : Int) < 26 := by decide
theorem letters_list : letters.cps.toList = (List.range 26).map (97 + ·) := by decide +kernel
theorem letters_at {k : Nat} (h : k < 26) : atI letters.cps.toList (k : Int) = some (97 + k) := by
  refine atI_nat ?_
  rw [letters_list, List.getElem?_map, List.getElem?_range h]; rfl
theorem letters_mem {k : Nat} (h : k < 26) : 97 + k ∈ letters.cps.toList := by
  rw [letters_list]; exact List.mem_map.mpr ⟨k, List.mem_range.mpr h, rfl⟩
/-- the k-th name -/
def nmAt (fr : Str) (r : Int) (i : Nat) : Str := fr ++ ⟨#[97 + ((r + 5 * (i : Int)) % 26).toNat]⟩
theorem nmAt_cps (fr : Str) (r : Int) (i : Nat) : (nmAt fr r i).cps.toList = fr.cps.toList ++ [97 + ((r + 5 * (i : Int)) % 26).toNat] := by
  show (fr.cps ++ #[97 + ((r + 5 * (i : Int)) % 26).toNat]).toList = _
  rw [Array.toList_append]
def okFr (fr : Str) : Prop := fr.length ≤ 5 ∧ ∀ c ∈ fr.cps.toList, c ∈ letters.cps.toList
theorem nmAt_ok {fr : Str} {r : Int} {i : Nat} (h : okFr fr) : okNm (nmAt fr r i) := by
  have e := nmAt_cps fr r i
  have l : (nmAt fr r i).length = fr.length + 1 := by
    show (nmAt fr r i).cps.size = fr.cps.size + 1
    rw [← Array.length_toList, e, List.length_append, Array.length_toList]; rfl
  refine ⟨by omega, by have := h.1; omega, fun c hc => ?_⟩
  rw [e] at hc
  rcases List.mem_append.mp hc with z | z
  · exact h.2 c z
  · rw [List.mem_singleton.mp z]; exact letters_mem (by omega)
theorem nmAt_inj {fr : Str} {r : Int} {i j : Nat} (hi : i < 12) (hj : j < 12) (h : nmAt fr r i = nmAt fr r j) : i = j := by
  have e := congrArg (fun s : Str => s.cps.toList) h
  simp only [nmAt_cps] at e
  have e := List.append_cancel_left e
  have e : 97 + ((r + 5 * (i : Int)) % 26).toNat = 97 + ((r + 5 * (j : Int)) % 26).toNat := by simpa using e
  omega
theorem nodup_names {fr : Str} {r : Int} {n : Nat} (h : n ≤ 12) : ((List.range n).map (nmAt fr r)).Nodup := by
  rw [List.nodup_iff_pairwise_ne, List.pairwise_map]
  refine List.Pairwise.imp_of_mem (fun {a b} ha hb hab => ?_) List.nodup_range
  intro e
  exact hab (nmAt_inj (by have := List.mem_range.mp ha; omega) (by have := List.mem_range.mp hb; omega) e)
def p_law_names (ds : List PD) (K : Sl → Prop) : Prop := ∃ many : Nat, ds = [en many] ∧ 1 ≤ many ∧ many ≤ 12 ∧ ∀ ns, okNs ns → ns.length = many → K (.dat (.tuple (ns.map .str)))
abbrev s__law_names : Stmt := top 53
abbrev N__law_names : List Str := ["_law_heap_here", "_law_many", "_law_letters", "_law_front", "_law_first", "_law_at"]
theorem sc__law_names : FnScope N__law_names ["_law_heap_here", "_law_many"] (defScope s__law_names) := ⟨rfl, rfl, rfl, by decide +kernel, rfl, by decide +kernel, by decide +kernel⟩

theorem ok__law_names (T : Tx mg) (D : Dn K mg "_law_names" s__law_names) (c__law_draw : Cl P w K mg base 1 "_law_draw" (SpDraw)) (c__law_pick : Cl P w K mg base 2 "_law_pick" (SpPick)) : Cl P w K mg base 3 "_law_names" (SpE (p_law_names)) := by
  have sc := sc__law_names
  refine cl_heap D sc (fun _ _ _ _ _ _ us hl => match us, hl with | [_, _], _ => rfl) (fun ds K h => by obtain ⟨_, rfl, _⟩ := h; rfl) fun f cdv A outer s H E hr => ?_
  have hu := hr.units
  refine ⟨_, (pss_cons (ps_asg (pe_tup (pa_cons pe_str (pa_cons (pe_cl c__law_pick hr (by first | decide | omega) (by rfl) (pa_cons (pv 0) (pa_cons (pe_lst (pa_cons pe_str (pa_cons pe_str (pa_cons pe_str (pa_cons pe_str (pa_cons pe_str pa_nil)))))) pa_nil))) pa_nil))) (pg_tup rfl (pgs_cons (pg_name (i := 2) sc.nd rfl (by first | exact Or.inl rfl | exact Or.inr rfl)) (pgs_cons (pg_name (i := 3) sc.nd rfl (by first | exact Or.inl rfl | exact Or.inr rfl)) pgs_nil))))
    (pss_cons (ps_set (i := 4) sc.nd rfl (Or.inr rfl) (pe_cl c__law_draw hr (by first | decide | omega) (by rfl) (pa_cons (pv 0) (pa_cons pe_int pa_nil))))
    (pss_one (ps_ret (pe_callTy call_tuple_of (by rfl) T.b_tuple (by decide +kernel) (pa_cons (pe_callB cr_sortedS (by rfl) T.b_sorted (by decide +kernel) (pa_cons (pe_lc (own := [("_law_at", 5)]) (g := gName 5) (by rfl) sc.nd (pi_range1 (by rfl) T.b_range (pa_cons (pv 1) pa_nil)) (blkOk_by (own := [("_law_at", 5)]) (N := N__law_names) (sc := (defScope s__law_names)) (by decide +kernel)) (fun _ _ _ _ _ => (pg_name (i := 5) sc.nd rfl (by first | exact Or.inl rfl | exact Or.inr rfl))) (fun _ _ _ _ _ => pts_nil) (fun _ _ _ _ _ => (pe_op op_add_str (pv 3) (pe_ix ix_str (pv 2) (pe_op op_mod (pe_callTy call_int1 (by rfl) T.b_int (by decide +kernel) (pa_cons (pe_op op_add (pv 4) (pe_op op_mul pe_int (pv 5))) pa_nil)) pe_int) (fun _ _ => rfl))))) pa_nil)) pa_nil)))))), fun a c => ?_⟩
  rintro ds K' ⟨n, rfl, n1, n12, k⟩
  show wpS (Gh a c) _ [.spc (.ref a), .dat (en n), .no, .no, .no, .no] _
  refine wpS_seq (wpS_asg (tg_tup (js := [2, 3]) rfl rfl) (wpE_tup (wpA_cons (wpE_str (wpA_cons (wpE_pick rfl (wpN.R (wpN_lst (wpA_cons (wpE_str (wpA_cons (wpE_str (wpA_cons (wpE_str (wpA_cons (wpE_str (wpA_cons (wpE_str (wpA_nil ⟨[_, _, _, _, _], rfl, le_ rfl, lt_ rfl, le_ rfl, fun d hd => wpA_nil ⟨[_, _], rfl, le_ rfl, _, rfl, ?_⟩⟩)))))))))))))))))))
  have hf : ∃ fr : Str, d = .str fr ∧ okFr fr := by
    have go : ∀ z : Str, (decide (z.length ≤ 5) && z.cps.toList.all fun c => decide (c ∈ letters.cps.toList)) = true → okFr z := fun z h => by
      obtain ⟨h1, h2⟩ := Bool.and_eq_true_iff.mp h
      exact ⟨of_decide_eq_true h1, fun c hc => of_decide_eq_true (List.all_eq_true.mp h2 c hc)⟩
    simp only [List.mem_cons, List.not_mem_nil, or_false] at hd
    rcases hd with rfl | rfl | rfl | rfl | rfl
    · exact ⟨_, rfl, go _ (by decide +kernel)⟩
    · exact ⟨_, rfl, go _ (by decide +kernel)⟩
    · exact ⟨_, rfl, go _ (by decide +kernel)⟩
    · exact ⟨_, rfl, go _ (by decide +kernel)⟩
    · exact ⟨_, rfl, go _ (by decide +kernel)⟩
  obtain ⟨fr, rfl, ok⟩ := hf
  show wpS (Gh a c) _ [.spc (.ref a), .dat (en n), .dat (.str letters), .dat (.str fr), .no, .no] _
  refine wpS_seq (wpS_set (wpE_draw rfl (wpE_int ⟨26, rfl, by decide, by decide, fun r r0 r1 => ?_⟩)))
  show wpS (Gh a c) _ [.spc (.ref a), .dat (en n), .dat (.str letters), .dat (.str fr), .dat (.int r), .no] _
  refine wpS_ret (wpE_tuple (wpE.Q (wpE_sortedS (wpN.L (wpN_lcF tg_name (by decide) rfl (wpI_rng1 (wpA_cons (wpE_var rfl (wpA_nil ⟨_, rfl, by omega, by omega, ?_⟩)))))))))
  refine ⟨by omega, fun _ => true, fun i => .str (nmAt fr r i), fun i d hi e => ?_, (List.range n).map (nmAt fr r), ?_, ?_, fun ys pm so => ⟨_, rfl, ?_⟩⟩
  · cases e
    refine ⟨_, rfl, wpT_yes ⟨rfl, fun _ => wpE_op opD_catS (wpE_var rfl (wpE_op opD_ixS (wpE_var rfl (wpE_op opD_I (wpE_int1 (wpE_op opD_I0 (wpE_var rfl (wpE_op opD_I (wpE_int (wpE_var rfl ⟨_, _, rfl, rfl, .inl (by decide), _, _, rfl, rfl, .inl ⟨_, rfl, wpE_int ⟨_, _, rfl, rfl, c26, ?_⟩⟩⟩))))))))))⟩⟩
    refine ⟨letters, (((r + 5 * (i : Int)) % 26).toNat : Nat), _, rfl, ?_, le_ (by decide +kernel), letters_at (by omega), fr, _, rfl, rfl, ?_, rfl⟩
    · congr 1; omega
    · have := ok.1
      show fr.length + 1 ≤ _
      omega
  · rw [filter_yes, List.map_map, Int.toNat_natCast]; rfl
  · rw [List.length_map, List.length_range]; omega
  · refine k ys ⟨?_, ?_, fun x hx => ?_, asc_of (xs := ys) so (pm.nodup_iff.mpr (nodup_names n12))⟩ ?_
    · rw [pm.length_eq, List.length_map, List.length_range]; exact n1
    · rw [pm.length_eq, List.length_map, List.length_range]; exact n12
    · obtain ⟨i, _, rfl⟩ := List.mem_map.mp (pm.mem_iff.mp hx)
      exact nmAt_ok ok
    · rw [pm.length_eq, List.length_map, List.length_range]
end

end K42
/-! text P11 -/
set_option Elab.async false
set_option linter.all false
set_option maxRecDepth 100000
set_option maxHeartbeats 4000000
namespace K42
open PySem PySem.Spec PyProof.Rows L2

/-! The law's draws of ties, 1. -/
section
variable {P : Program} {w : World} {K : PySem.W.Frag} {mg : Str → Option Value} {base : Heap}
theorem int_get {hs : List Int} {k : Nat} (h : k < hs.length) : ∃ x ∈ hs, atI (hs.map PyData.int) (k : Int) = some (.int x) :=
  ⟨hs[k], List.getElem_mem h, atI_map (List.getElem?_eq_getElem h)⟩
theorem nat_of {r : Int} (h : 0 ≤ r) : ∃ n : Nat, (n : Int) = r := ⟨r.toNat, by omega⟩
theorem all_snoc {α : Type} {p : α → Prop} {xs : List α} {x : α} (h : ∀ y ∈ xs, p y) (hx : p x) : ∀ y ∈ xs ++ [x], p y := fun y hy => by
  rcases List.mem_append.mp hy with z | z
  · exact h y z
  · rw [List.mem_singleton.mp z]; exact hx
theorem map_snoc {α : Type} {f : α → PD} {xs : List α} {x : α} : xs.map f ++ [f x] = (xs ++ [x]).map f := by rw [List.map_append]; rfl
/-- a drawn tie, its weight by the draw's most -/
def okTT (n : Nat) (most : Int) (t : TieT) : Prop := okT n t ∧ -((n : Int) * most + 2) ≤ t.2.2 ∧ t.2.2 ≤ most
theorem most_le {n : Nat} {most : Int} (h : 1 ≤ n) (h2 : 1 ≤ most) : most ≤ (n : Int) * most := by
  have := Int.mul_le_mul_of_nonneg_right (show (1 : Int) ≤ (n : Int) by omega) (show 0 ≤ most by omega)
  omega
def p_law_tame (ds : List PD) (K : Sl → Prop) : Prop := ∃ (many : Nat) (most : Int) (count : Nat), ds = [en many, .int most, en count] ∧ 1 ≤ many ∧ many ≤ 12 ∧ 1 ≤ most ∧ most ≤ 1000000 ∧ count ≤ 60 ∧ ∀ ts : List TieT, ts.length ≤ count → (∀ t ∈ ts, okTT many most t) → K (.own (ts.map et))
abbrev s__law_tame : Stmt := top 54
abbrev N__law_tame : List Str := ["_law_heap_here", "_law_many", "_law_most", "_law_count", "_law_hours_here", "_law_found", "_law_thing", "_law_turn", "_law_one", "_law_other"]
theorem sc__law_tame : FnScope N__law_tame ["_law_heap_here", "_law_many", "_law_most", "_law_count"] (defScope s__law_tame) := ⟨rfl, rfl, rfl, by decide +kernel, rfl, by decide +kernel, by decide +kernel⟩

theorem ok__law_tame (T : Tx mg) (D : Dn K mg "_law_tame" s__law_tame) (c__law_draw : Cl P w K mg base 1 "_law_draw" (SpDraw)) (c__law_pick : Cl P w K mg base 2 "_law_pick" (SpPick)) : Cl P w K mg base 3 "_law_tame" (SpE (p_law_tame)) := by
  have sc := sc__law_tame
  refine cl_heap D sc (fun _ _ _ _ _ _ us hl => match us, hl with | [_, _, _, _], _ => rfl) (fun ds K h => by obtain ⟨_, _, _, rfl, _⟩ := h; rfl) fun f cdv A outer s H E hr => ?_
  have hu := hr.units
  refine ⟨_, (pss_cons (ps_par (i := 4) (j := 5) (by rfl) sc.nd rfl rfl (by decide) rfl rfl (pa_cons (pe_lc (own := [("_law_thing", 6)]) (g := gName 6) (by rfl) sc.nd (pi_range1 (by rfl) T.b_range (pa_cons (pv 1) pa_nil)) (blkOk_by (own := [("_law_thing", 6)]) (N := N__law_tame) (sc := (defScope s__law_tame)) (by decide +kernel)) (fun _ _ _ _ _ => (pg_name (i := 6) sc.nd rfl (by first | exact Or.inl rfl | exact Or.inr rfl))) (fun _ _ _ _ _ => pts_nil) (fun _ _ _ _ _ => (pe_cl c__law_draw hr (by first | decide | omega) (by rfl) (pa_cons (pv 0) (pa_cons (pe_op op_add (pe_op op_fdiv (pv 2) pe_int) pe_int) pa_nil))))) (pa_cons (pe_lst pa_nil) pa_nil)) (by rfl))
    (pss_cons (ps_for PassesOwn.never rfl (pi_range1 (by rfl) T.b_range (pa_cons (pe_ifExp (pt_cmpR op_gt (pv 1) pe_int (nomark _)) (pv 3) pe_int) pa_nil)) (pg_name (i := 7) sc.nd rfl (by first | exact Or.inl rfl | exact Or.inr rfl))
      (pss_cons (ps_set (i := 8) sc.nd rfl (Or.inl rfl) (pe_cl c__law_draw hr (by first | decide | omega) (by rfl) (pa_cons (pv 0) (pa_cons (pv 1) pa_nil))))
      (pss_cons (ps_set (i := 9) sc.nd rfl (Or.inl rfl) (pe_op op_mod (pe_callTy call_int1 (by rfl) T.b_int (by decide +kernel) (pa_cons (pe_op op_add (pe_op op_add (pv 8) pe_int) (pe_cl c__law_draw hr (by first | decide | omega) (by rfl) (pa_cons (pv 0) (pa_cons (pe_op op_sub (pv 1) pe_int) pa_nil)))) pa_nil)) (pv 1)))
      (pss_one (ps_expr (pe_bm PySem.F.plainAttrs_list PySem.F.slot_list_append PySem.F.type_list_append mt_append (pv 5) (pa_cons (pe_tup (pa_cons (pv 8) (pa_cons (pv 9) (pa_cons (pe_op op_sub (pe_op op_sub (pe_ix (ixSq (F := K)) (pv 4) (pv 9) (fun _ _ => rfl)) (pe_ix (ixSq (F := K)) (pv 4) (pv 8) (fun _ _ => rfl))) (pe_cl c__law_pick hr (by first | decide | omega) (by rfl) (pa_cons (pv 0) (pa_cons (pe_lst (pa_cons pe_int (pa_cons pe_int (pa_cons pe_int (pa_cons (pe_cl c__law_draw hr (by first | decide | omega) (by rfl) (pa_cons (pv 0) (pa_cons (pe_op op_add (pe_op op_fdiv (pv 2) pe_int) pe_int) pa_nil))) pa_nil))))) pa_nil)))) pa_nil)))) pa_nil)))))))
    (pss_one (ps_ret (pv 5))))), fun a c => ?_⟩
  rintro ds K' ⟨n, most, cnt, rfl, n1, n12, m1, m2, c60, k⟩
  have nm := most_le n1 m1
  show wpS (Gh a c) _ [.spc (.ref a), .dat (en n), .dat (.int most), .dat (en cnt), .no, .no, .no, .no, .no, .no] _
  refine wpS_seq (wpS_par (lt_ rfl) (lt_ rfl) (wpN.x (wpN_lc tg_name (by decide) rfl (wpI_rng1 (wpA_cons (wpE_var rfl (wpA_nil ⟨_, rfl, by omega, by omega, by omega, fun i acc => ∃ hs : List Int, acc = hs.map .int ∧ hs.length = i ∧ ∀ h ∈ hs, 0 ≤ h ∧ h ≤ most / 2, ⟨[], rfl, rfl, nofun⟩, ?_, ?_⟩)))))))
  · rintro i acc d hi e ⟨hs, rfl, hl, hh⟩
    cases e
    refine ⟨_, rfl, wpT_yes ?_⟩
    rw [if_pos rfl]
    refine wpE_draw rfl (wpE_op opD_I0 (wpE_op opD_I (wpE_var rfl (wpE_int ⟨_, _, rfl, rfl, ⟨by decide, by decide⟩, wpE_int ⟨_, _, rfl, rfl, _, rfl, ?_, ?_, fun r r0 r1 => ⟨hs ++ [r], map_snoc, ?_, all_snoc hh ?_⟩⟩⟩))))
    · omega
    · omega
    · rw [List.length_append, hl]; rfl
    · omega
  rintro acc ⟨hs, rfl, hl, hh⟩
  have hl : hs.length = n := by omega
  refine wpN.x (wpN_lst (wpA_nil ⟨[], rfl, le_ rfl, ?_⟩))
  show wpS (Gh a c) _ [.spc (.ref a), .dat (en n), .dat (.int most), .dat (en cnt), .own (hs.map .int), .own [], .no, .no, .no, .no] _
  refine wpS_seq (wpS_for tg_name (wpI_rng1 (wpA_cons (wpE.imp (K := fun d => ∃ j : Nat, d = en j ∧ j ≤ cnt ∧ (0 < j → 1 < n)) ?_ ?_))))
  · refine wpE_if (wpT_test (wpE_op opD_B0 (wpE_var rfl (wpE_int ⟨_, _, rfl, rfl, _, rfl, ?_⟩))))
    by_cases h : (1 : Int) < (n : Int)
    · rw [decide_eq_true h, if_pos rfl]
      exact wpE_var rfl ⟨cnt, rfl, Nat.le_refl _, fun _ => by omega⟩
    · rw [decide_eq_false h, if_neg Bool.false_ne_true]
      exact wpE_int ⟨0, rfl, Nat.zero_le _, fun z => absurd z (by omega)⟩
  rintro d ⟨j, rfl, j1, j2⟩
  refine wpA_nil ⟨_, rfl, by omega, by omega, fun i ρ => ∃ (ts : List TieT) (x y z : Sl), ρ = [.spc (.ref a), .dat (en n), .dat (.int most), .dat (en cnt), .own (hs.map .int), .own (ts.map et), .no, x, y, z] ∧ ts.length = i ∧ ∀ t ∈ ts, okTT n most t, ⟨[], _, _, _, rfl, rfl, nofun⟩, ?_, ?_⟩
  · rintro i d ρ' hi e ⟨ts, x, y, z, rfl, tl, tok⟩
    cases e
    have n2 : 1 < n := j2 (by omega)
    refine ⟨_, rfl, ?_⟩
    show wpS (Gh a c) _ [.spc (.ref a), .dat (en n), .dat (.int most), .dat (en cnt), .own (hs.map .int), .own (ts.map et), .no, .dat (en i), y, z] _
    refine wpS_seq (wpS_set (wpE_draw rfl (wpE_var rfl ⟨_, rfl, by omega, by omega, fun r r0 r1 => ?_⟩)))
    obtain ⟨one, rfl⟩ := nat_of r0
    refine wpS_seq (wpS_set (wpE_op opD_I (wpE_int1 (wpE_op opD_I0 (wpE_op opD_I0 (wpE_var rfl (wpE_int ⟨_, _, rfl, rfl, wpE_draw rfl (wpE_op opD_I0 (wpE_var rfl (wpE_int ⟨_, _, rfl, rfl, _, rfl, by omega, by omega, fun r2 s0 s1 => ⟨_, _, rfl, rfl, .inl ⟨_, rfl, wpE_var rfl ⟨_, _, rfl, rfl, (show (0 : Int) < (n : Int) by omega), ?_⟩⟩⟩⟩)))⟩)))))))
    obtain ⟨q, rfl⟩ := nat_of s0
    obtain ⟨other, ho, ho2, ho3⟩ : ∃ other : Nat, ((one : Int) + 1 + (q : Int)) % (n : Int) = (other : Int) ∧ other < n ∧ one ≠ other := by
      refine ⟨((one + 1 + q) % n), by push_cast; rfl, Nat.mod_lt _ (by omega), ?_⟩
      by_cases h : one + 1 + q < n
      · rw [Nat.mod_eq_of_lt h]; omega
      · rw [Nat.mod_eq_sub_mod (by omega), Nat.mod_eq_of_lt (by omega)]; omega
    rw [ho]
    show wpS (Gh a c) _ [.spc (.ref a), .dat (en n), .dat (.int most), .dat (en cnt), .own (hs.map .int), .own (ts.map et), .no, .dat (en i), .dat (en one), .dat (en other)] _
    obtain ⟨x1, hx1, g1⟩ := int_get (hs := hs) (k := one) (by omega)
    obtain ⟨x2, hx2, g2⟩ := int_get (hs := hs) (k := other) (by omega)
    have b1 := hh x1 hx1
    have b2 := hh x2 hx2
    refine wpS_app rfl (by rw [List.length_map]; omega) (wpE_tup (wpA_cons (wpE_var rfl (wpA_cons (wpE_var rfl (wpA_cons (wpE_op opD_I0 (wpE_op opD_I0 (wpE_ixL (wpL_var rfl (wpE_var rfl ⟨_, _, rfl, g2, wpE_ixL (wpL_var rfl (wpE_var rfl ⟨_, _, rfl, g1, _, _, rfl, rfl, ?_⟩)) keep_⟩)) keep_)))))))))
    refine wpE_pick rfl (wpN.R (wpN_lst (wpA_cons (wpE_int (wpA_cons (wpE_int (wpA_cons (wpE_int (wpA_cons (wpE_draw rfl (wpE_op opD_I0 (wpE_op opD_I (wpE_var rfl (wpE_int ⟨_, _, rfl, rfl, ⟨by decide, by decide⟩, wpE_int ⟨_, _, rfl, rfl, _, rfl, ?_, ?_, fun r r0 r1 => wpA_nil ⟨[_, _, _, _], rfl, le_ rfl, lt_ rfl, le_ rfl, fun d hd => ?_⟩⟩⟩))))))))))))))
    · omega
    · omega
    obtain ⟨p, rfl, p0, p1⟩ : ∃ p : Int, d = .int p ∧ 0 ≤ p ∧ (p ≤ 1 ∨ p ≤ most / 2) := by
      simp only [List.mem_cons, List.not_mem_nil, or_false] at hd
      rcases hd with rfl | rfl | rfl | rfl
      · exact ⟨_, rfl, by omega, .inl (by omega)⟩
      · exact ⟨_, rfl, by omega, .inl (by omega)⟩
      · exact ⟨_, rfl, by omega, .inl (by omega)⟩
      · exact ⟨_, rfl, by omega, .inr (by omega)⟩
    refine ⟨_, _, rfl, rfl, wpA_nil ⟨[_, _, _], rfl, le_ rfl, ?_⟩⟩
    refine ⟨ts ++ [(one, other, x2 - x1 - p)], .dat (en i), .dat (en one), .dat (en other), ?_, by rw [List.length_append, tl]; rfl, all_snoc tok ⟨⟨by omega, ho2, ho3, ?_, ?_⟩, ?_, ?_⟩⟩
    · rw [← map_snoc]; rfl
    · show -1000000 ≤ x2 - x1 - p; omega
    · show x2 - x1 - p ≤ 1000000; omega
    · show -((n : Int) * most + 2) ≤ x2 - x1 - p; omega
    · show x2 - x1 - p ≤ most; omega
  · rintro ρ' ⟨ts, x, y, z, rfl, tl, tok⟩
    exact wpS_retO rfl (k ts (by omega) tok)
end

end K42
/-! text P12 -/
set_option Elab.async false
set_option linter.all false
set_option maxRecDepth 100000
set_option maxHeartbeats 4000000
namespace K42
open PySem PySem.Spec PyProof.Rows L2

/-! The law's draws of ties, 2: a row. -/
section
variable {P : Program} {w : World} {K : PySem.W.Frag} {mg : Str → Option Value} {base : Heap}
theorem wpE_ixO {G : Gm} {ρ : Rho} {tb : TE} {Kx : PD → Prop} {F : PySem.W.Frag} {i : Nat} {ds : List PD} (hi : ρ[i]? = some (Sl.own ds)) (h : wpE G tb ρ fun dy => ∃ i d, dy = .int i ∧ atI ds i = some d ∧ Kx d) : wpE G (tOp (rIx F) (tVar i) tb) ρ Kx := wpE_ixL (wpL_var hi h) keep_
theorem perm_of_map {α β : Type} {f : α → β} {es L : List β} (h : es.Perm L) : ∀ {xs : List α}, L = xs.map f → ∃ ys : List α, es = ys.map f ∧ ys.Perm xs := by
  induction h with
  | nil =>
    intro xs e
    cases xs with
    | nil => exact ⟨[], rfl, .refl _⟩
    | cons _ _ => cases e
  | cons x _ ih =>
    intro xs e
    cases xs with
    | nil => cases e
    | cons y ys =>
      rw [List.map_cons] at e
      obtain ⟨e1, e2⟩ := List.cons.inj e
      obtain ⟨zs, h1, h2⟩ := ih e2
      exact ⟨y :: zs, by rw [h1, e1]; rfl, h2.cons y⟩
  | swap x y l =>
    intro xs e
    match xs, e with
    | p :: q :: r, e =>
      rw [List.map_cons, List.map_cons] at e
      obtain ⟨e1, e⟩ := List.cons.inj e
      obtain ⟨e2, e3⟩ := List.cons.inj e
      exact ⟨q :: p :: r, by rw [e1, e2, e3]; rfl, .swap _ _ _⟩
  | trans _ _ ih1 ih2 =>
    intro xs e
    obtain ⟨ys, h1, h2⟩ := ih2 e
    obtain ⟨zs, h3, h4⟩ := ih1 h1
    exact ⟨zs, h3, h4.trans h2⟩
/-- an order of 0 .. n - 1 -/
structure Ord (n : Nat) (os : List Nat) : Prop where
  len : os.length = n
  lt : ∀ x ∈ os, x < n
  nd : os.Nodup
theorem Ord.of {n : Nat} {es : List PD} (h : es.Perm ((List.range n).map fun (i : Nat) => en i)) : ∃ os : List Nat, es = os.map en ∧ Ord n os := by
  obtain ⟨ys, e, p⟩ := perm_of_map h rfl
  exact ⟨ys, e, by rw [p.length_eq, List.length_range], fun x hx => List.mem_range.mp (p.mem_iff.mp hx), p.nodup_iff.mpr List.nodup_range⟩
theorem ord_get {os : List Nat} {k : Nat} (h : k < os.length) : atI (os.map en) (k : Int) = some (en os[k]) := atI_map (f := en) (List.getElem?_eq_getElem h)
theorem nd_ne {os : List Nat} (nd : os.Nodup) {i j : Nat} (hi : i < os.length) (hj : j < os.length) (h : i ≠ j) : os[i] ≠ os[j] := by
  have p := List.pairwise_iff_getElem.mp (List.nodup_iff_pairwise_ne.mp nd)
  rcases Nat.lt_or_gt_of_ne h with l | l
  · exact p i j hi hj l
  · exact fun e => p j i hj hi l e.symm
theorem last_get {α : Type} {f : α → PD} {os : List α} (h : 0 < os.length) : atI (os.map f) (-1) = some (f os[os.length - 1]) := by
  unfold atI
  rw [List.length_map, ixN_last h]
  show (os.map f)[os.length - 1]? = _
  rw [List.getElem?_map, List.getElem?_eq_getElem (by omega)]; rfl
/-- a tie whose weight may be far down -/
def okW (n : Nat) (most : Int) (t : TieT) : Prop := t.1 < n ∧ t.2.1 < n ∧ t.1 ≠ t.2.1 ∧ -((n : Int) * most + 2) ≤ t.2.2 ∧ t.2.2 ≤ most
theorem sum_le {B : Int} : ∀ {xs : List Int}, (∀ x ∈ xs, x ≤ B) → xs.sum ≤ (xs.length : Int) * B
  | [], _ => by simp
  | x :: xs, h => by
    rw [List.sum_cons, List.length_cons]
    have h1 := h x List.mem_cons_self
    have h2 := sum_le (xs := xs) fun y hy => h y (List.mem_cons_of_mem _ hy)
    push_cast
    rw [Int.add_mul, Int.one_mul]
    omega
theorem sum_nonneg : ∀ {xs : List Int}, (∀ x ∈ xs, 0 ≤ x) → 0 ≤ xs.sum
  | [], _ => by simp
  | x :: xs, h => by
    rw [List.sum_cons]
    have := h x List.mem_cons_self
    have := sum_nonneg fun y hy => h y (List.mem_cons_of_mem _ hy)
    omega
theorem et_w (t : TieT) : atI [en t.1, en t.2.1, .int t.2.2] 2 = some (.int t.2.2) := rfl
def p_law_row (ds : List PD) (K : Sl → Prop) : Prop := ∃ (many : Nat) (most : Int), ds = [en many, .int most] ∧ 1 ≤ many ∧ many ≤ 12 ∧ 1 ≤ most ∧ most ≤ 1000000 ∧ ∀ ts : List TieT, ts.length ≤ 30 → (∀ t ∈ ts, okTT many most t) → K (.own (ts.map et))
abbrev s__law_row : Stmt := top 55
abbrev N__law_row : List Str := ["_law_heap_here", "_law_many", "_law_most", "_law_order", "_law_found", "_law_at", "_law_other", "_law_tie"]
theorem sc__law_row : FnScope N__law_row ["_law_heap_here", "_law_many", "_law_most"] (defScope s__law_row) := ⟨rfl, rfl, rfl, by decide +kernel, rfl, by decide +kernel, by decide +kernel⟩

theorem ok__law_row (T : Tx mg) (D : Dn K mg "_law_row" s__law_row) (c__law_draw : Cl P w K mg base 1 "_law_draw" (SpDraw)) (c__law_mixed : Cl P w K mg base 2 "_law_mixed" (SpMix)) : Cl P w K mg base 3 "_law_row" (SpE (p_law_row)) := by
  have sc := sc__law_row
  refine cl_heap D sc (fun _ _ _ _ _ _ us hl => match us, hl with | [_, _, _], _ => rfl) (fun ds K h => by obtain ⟨_, _, rfl, _⟩ := h; rfl) fun f cdv A outer s H E hr => ?_
  have hu := hr.units
  refine ⟨_, (pss_cons (ps_par (i := 3) (j := 4) (by rfl) sc.nd rfl rfl (by decide) rfl rfl (pa_cons (pe_cl c__law_mixed hr (by first | decide | omega) (by rfl) (pa_cons (pv 0) (pa_cons (pe_listRg rfl (by rfl) T.b_list (prg_1 (by rfl) T.b_range (pv 1))) pa_nil))) (pa_cons (pe_lst pa_nil) pa_nil)) (by rfl))
    (pss_cons (ps_for PassesOwn.never rfl (pi_range1 (by rfl) T.b_range (pa_cons (pe_op op_sub (pv 1) pe_int) pa_nil)) (pg_name (i := 5) sc.nd rfl (by first | exact Or.inl rfl | exact Or.inr rfl))
      (pss_cons (ps_expr (pe_bm PySem.F.plainAttrs_list PySem.F.slot_list_append PySem.F.type_list_append mt_append (pv 4) (pa_cons (pe_tup (pa_cons (pe_ix (ixSq (F := K)) (pv 3) (pv 5) (fun _ _ => rfl)) (pa_cons (pe_ix (ixSq (F := K)) (pv 3) (pe_op op_add (pv 5) pe_int) (fun _ _ => rfl)) (pa_cons (pe_cl c__law_draw hr (by first | decide | omega) (by rfl) (pa_cons (pv 0) (pa_cons (pe_op op_add (pv 2) pe_int) pa_nil))) pa_nil)))) pa_nil)))
      (pss_cons (ps_set (i := 6) sc.nd rfl (Or.inl rfl) (pe_op op_add (pe_op op_add (pv 5) pe_int) (pe_cl c__law_draw hr (by first | decide | omega) (by rfl) (pa_cons (pv 0) (pa_cons (pe_op op_sub (pe_op op_sub (pv 1) (pv 5)) pe_int) pa_nil)))))
      (pss_one (ps_if (pt_cmpR (opEq (F := K) hu) (pe_cl c__law_draw hr (by first | decide | omega) (by rfl) (pa_cons (pv 0) (pa_cons pe_int pa_nil))) pe_int (nomark _)) (pss_one (ps_expr (pe_bm PySem.F.plainAttrs_list PySem.F.slot_list_append PySem.F.type_list_append mt_append (pv 4) (pa_cons (pe_tup (pa_cons (pe_ix (ixSq (F := K)) (pv 3) (pv 5) (fun _ _ => rfl)) (pa_cons (pe_ix (ixSq (F := K)) (pv 3) (pv 6) (fun _ _ => rfl)) (pa_cons (pe_cl c__law_draw hr (by first | decide | omega) (by rfl) (pa_cons (pv 0) (pa_cons (pe_op op_add (pv 2) pe_int) pa_nil))) pa_nil)))) pa_nil)))) pss_nil)))))
    (pss_cons (ps_if (PW.pt (pw_and (pt_cmpR op_gt (pv 1) pe_int (nomark _)) (pw_and1 (pt_cmpR (opEq (F := K) hu) (pe_cl c__law_draw hr (by first | decide | omega) (by rfl) (pa_cons (pv 0) (pa_cons pe_int pa_nil))) pe_int (nomark _))))) (pss_one (ps_expr (pe_bm PySem.F.plainAttrs_list PySem.F.slot_list_append PySem.F.type_list_append mt_append (pv 4) (pa_cons (pe_tup (pa_cons (pe_ix (ixSq (F := K)) (pv 3) (pe_un un_neg pe_int) (fun _ _ => rfl)) (pa_cons (pe_ix (ixSq (F := K)) (pv 3) pe_int (fun _ _ => rfl)) (pa_cons (pe_op op_sub (pe_op op_sub pe_int (pe_callB (cr_sum rfl) (by rfl) T.b_sum (by decide +kernel) (pa_cons (pe_lc (own := [("_law_tie", 7)]) (g := gName 7) (by rfl) sc.nd (pi_list (pe_slice sl_list (pv 4) po_none (po_some (pv 1)))) (blkOk_by (own := [("_law_tie", 7)]) (N := N__law_row) (sc := (defScope s__law_row)) (by decide +kernel)) (fun _ _ _ _ _ => (pg_name (i := 7) sc.nd rfl (by first | exact Or.inl rfl | exact Or.inr rfl))) (fun _ _ _ _ _ => pts_nil) (fun _ _ _ _ _ => (pe_ix (ixSq (F := K)) (pv 7) pe_int (fun _ _ => rfl)))) pa_nil))) (pe_cl c__law_draw hr (by first | decide | omega) (by rfl) (pa_cons (pv 0) (pa_cons pe_int pa_nil)))) pa_nil)))) pa_nil)))) pss_nil)
    (pss_one (ps_ret (pe_lc (own := [("_law_tie", 7)]) (g := gName 7) (by rfl) sc.nd (pi_list (pv 4)) (blkOk_by (own := [("_law_tie", 7)]) (N := N__law_row) (sc := (defScope s__law_row)) (by decide +kernel)) (fun _ _ _ _ _ => (pg_name (i := 7) sc.nd rfl (by first | exact Or.inl rfl | exact Or.inr rfl))) (fun _ _ _ _ _ => pts_nil) (fun _ _ _ _ _ => (pe_tup (pa_cons (pe_ix (ixSq (F := K)) (pv 7) pe_int (fun _ _ => rfl)) (pa_cons (pe_ix (ixSq (F := K)) (pv 7) pe_int (fun _ _ => rfl)) (pa_cons (pe_callB (call_max2 rfl) (by rfl) T.b_max (by decide +kernel) (pa_cons (pe_ix (ixSq (F := K)) (pv 7) pe_int (fun _ _ => rfl)) (pa_cons (pe_op op_sub pe_int (pe_op op_pow pe_int pe_int)) pa_nil))) pa_nil))))))))))), fun a c => ?_⟩
  rintro ds K' ⟨n, most, rfl, n1, n12, m1, m2, k⟩
  have nm := most_le n1 m1
  show wpS (Gh a c) _ [.spc (.ref a), .dat (en n), .dat (.int most), .no, .no, .no, .no, .no] _
  refine wpS_seq (wpS_par (lt_ rfl) (lt_ rfl) (wpN.x (wpN_mixed rfl (wpN.R (wpN_listRg (wpE_var rfl ⟨n, rfl, by omega, ?_, fun es pm => ?_⟩))))))
  · rw [List.length_map, List.length_range]; omega
  obtain ⟨os, rfl, od⟩ := Ord.of pm
  have ol := od.len
  refine wpN.x (wpN_lst (wpA_nil ⟨[], rfl, le_ rfl, ?_⟩))
  show wpS (Gh a c) _ [.spc (.ref a), .dat (en n), .dat (.int most), .own (os.map en), .own [], .no, .no, .no] _
  refine wpS_seq (wpS_for tg_name (wpI_rng1 (wpA_cons (wpE_op opD_I0 (wpE_var rfl (wpE_int ⟨_, _, rfl, rfl, wpA_nil ⟨_, rfl, by omega, by omega, fun i ρ => ∃ (ts : List TieT) (x y : Sl), ρ = [.spc (.ref a), .dat (en n), .dat (.int most), .own (os.map en), .own (ts.map et), x, y, .no] ∧ ts.length ≤ 2 * i ∧ ∀ t ∈ ts, okW n most t ∧ 0 ≤ t.2.2, ⟨[], _, _, rfl, Nat.zero_le _, nofun⟩, ?_, ?_⟩⟩))))))
  · rintro i d ρ' hi e ⟨ts, x, y, rfl, tl, tok⟩
    cases e
    have i1 : i + 1 < n := by omega
    have gi := ord_get (os := os) (k := i) (by omega)
    have gi1 := ord_get (os := os) (k := i + 1) (by omega)
    have ne1 := nd_ne od.nd (i := i) (j := i + 1) (by omega) (by omega) (by omega)
    have li := od.lt _ (List.getElem_mem (show i < os.length by omega))
    have li1 := od.lt _ (List.getElem_mem (show i + 1 < os.length by omega))
    refine ⟨_, rfl, ?_⟩
    show wpS (Gh a c) _ [.spc (.ref a), .dat (en n), .dat (.int most), .own (os.map en), .own (ts.map et), .dat (en i), y, .no] _
    refine wpS_seq (wpS_app rfl (by rw [List.length_map]; omega) (wpE_tup (wpA_cons (wpE_ixO rfl (wpE_var rfl ⟨_, _, rfl, gi, wpA_cons (wpE_ixO rfl (wpE_op opD_I0 (wpE_var rfl (wpE_int ⟨_, _, rfl, rfl, _, _, rfl, gi1, wpA_cons (wpE_draw rfl (wpE_op opD_I0 (wpE_var rfl (wpE_int ⟨_, _, rfl, rfl, _, rfl, ?_, ?_, fun r r0 r1 => wpA_nil ⟨[_, _, _], rfl, le_ rfl, ?_⟩⟩))))⟩))))⟩)))))
    · omega
    · omega
    show wpS (Gh a c) _ [.spc (.ref a), .dat (en n), .dat (.int most), .own (os.map en), .own (ts.map et ++ [et (os[i], os[i + 1], r)]), .dat (en i), y, .no] _
    rw [map_snoc]
    refine wpS_seq (wpS_set (wpE_op opD_I0 (wpE_op opD_I0 (wpE_var rfl (wpE_int ⟨_, _, rfl, rfl, wpE_draw rfl (wpE_op opD_I0 (wpE_op opD_I0 (wpE_var rfl (wpE_var rfl ⟨_, _, rfl, rfl, wpE_int ⟨_, _, rfl, rfl, _, rfl, by omega, by omega, fun r2 s0 s1 => ⟨_, _, rfl, rfl, ?_⟩⟩⟩))))⟩)))))
    obtain ⟨q, rfl⟩ := nat_of s0
    rw [show (i : Int) + 1 + (q : Int) = ((i + 1 + q : Nat) : Int) by push_cast; rfl]
    have gq := ord_get (os := os) (k := i + 1 + q) (by omega)
    have ne2 := nd_ne od.nd (i := i) (j := i + 1 + q) (by omega) (by omega) (by omega)
    have lq := od.lt _ (List.getElem_mem (show i + 1 + q < os.length by omega))
    have tok2 : ∀ t ∈ ts ++ [(os[i], os[i + 1], r)], okW n most t ∧ 0 ≤ t.2.2 := all_snoc tok ⟨⟨li, li1, ne1, show -((n : Int) * most + 2) ≤ r by omega, show r ≤ most by omega⟩, r0⟩
    have tl2 : (ts ++ [(os[i], os[i + 1], r)]).length ≤ 2 * i + 1 := by rw [List.length_append, List.length_singleton]; omega
    generalize ts ++ [(os[i], os[i + 1], r)] = us at tok2 tl2
    show wpS (Gh a c) _ [.spc (.ref a), .dat (en n), .dat (.int most), .own (os.map en), .own (us.map et), .dat (en i), .dat (en (i + 1 + q)), .no] _
    refine wpS_if (wpT_test (wpE_op opD_eq (wpE_draw rfl (wpE_int ⟨_, rfl, by decide, by decide, fun b b0 b1 => wpE_int ⟨rfl, rfl, _, rfl, ?_⟩⟩))))
    cases PyData.eqv (.int b) (.int 0) with
    | false => exact wpS_nil ⟨us, _, _, rfl, by omega, tok2⟩
    | true =>
      rw [if_pos rfl]
      refine wpS_app rfl (by rw [List.length_map]; omega) (wpE_tup (wpA_cons (wpE_ixO rfl (wpE_var rfl ⟨_, _, rfl, gi, wpA_cons (wpE_ixO rfl (wpE_var rfl ⟨_, _, rfl, gq, wpA_cons (wpE_draw rfl (wpE_op opD_I0 (wpE_var rfl (wpE_int ⟨_, _, rfl, rfl, _, rfl, ?_, ?_, fun r3 t0 t1 => wpA_nil ⟨[_, _, _], rfl, le_ rfl, us ++ [(os[i], os[i + 1 + q], r3)], .dat (en i), .dat (en (i + 1 + q)), ?_, ?_, all_snoc tok2 ⟨⟨li, lq, ne2, show -((n : Int) * most + 2) ≤ r3 by omega, show r3 ≤ most by omega⟩, t0⟩⟩⟩))))⟩))⟩))))
      · omega
      · omega
      · rw [← map_snoc]; rfl
      · rw [List.length_append, List.length_singleton]; omega
  · rintro ρ' ⟨ts, x, y, rfl, tl, tok⟩
    -- what follows the last tie
    have fin : ∀ us : List TieT, us.length ≤ 30 → (∀ t ∈ us, okW n most t) → wpS (Gh a c) (tRet (tLc (iList K (tVar 4)) (gName 7) tYes (tTup (tCons (tOp (rIx K) (tVar 7) (tC (.int 0))) (tCons (tOp (rIx K) (tVar 7) (tC (.int 1))) (tCons (tCB (fun xs H Q => ∃ i j, xs = [L2.V.int i, .int j] ∧ Q (.int (if j > i then j else i)) H) (tCons (tOp (rIx K) (tVar 7) (tC (.int 2))) (tCons (tOp (rI0 fun i j => .int (i - j)) (tC (.int 0)) (tOp (rI CPow fun i j => .int (i ^ j.toNat)) (tC (.int 10)) (tC (.int 6)))) tNil))) tNil)))) [7]))
        [.spc (.ref a), .dat (en n), .dat (.int most), .own (os.map en), .own (us.map et), x, y, .no] (DEh K') := fun us ul uok => by
      refine wpS_retN (wpN_lcS tg_name (by decide) rfl (wpI_own (wpL_var rfl ⟨by rw [List.length_map]; omega, TieT, us, et, fun _ => true, fun t => et (t.1, t.2.1, if 0 - 1000000 > t.2.2 then 0 - 1000000 else t.2.2), ⟨map_len, fun i => List.getElem?_map ..⟩, ?_, ?_⟩)))
      · intro i t ht
        refine ⟨_, rfl, wpT_yes ⟨rfl, fun _ => wpE_tup (wpA_cons (wpE_op opD_ix (wpE_var rfl (wpE_int ⟨_, _, _, rfl, rfl, rfl, wpA_cons (wpE_op opD_ix (wpE_var rfl (wpE_int ⟨_, _, _, rfl, rfl, rfl, wpA_cons (wpE_max2 (wpE_op opD_ix (wpE_var rfl (wpE_int ⟨_, _, _, rfl, rfl, rfl, _, rfl, wpE_op opD_I0 (wpE_int (wpE_op opD_I (wpE_int (wpE_int ⟨_, _, rfl, rfl, ⟨by decide, by decide, by decide⟩, _, _, rfl, rfl, _, rfl, wpA_nil ⟨[_, _, _], rfl, le_ rfl, rfl⟩⟩))))⟩))))⟩)))⟩))))⟩⟩
      · rw [filter_yes]
        have e : us.map (fun t => et (t.1, t.2.1, if 0 - 1000000 > t.2.2 then 0 - 1000000 else t.2.2)) = (us.map fun t => ((t.1, t.2.1, if 0 - 1000000 > t.2.2 then 0 - 1000000 else t.2.2) : TieT)).map et := by rw [List.map_map]; rfl
        rw [e]
        refine k _ (by rw [List.length_map]; exact ul) fun t ht => ?_
        obtain ⟨z, hz, rfl⟩ := List.mem_map.mp ht
        obtain ⟨h1, h2, h3, h4, h5⟩ := uok z hz
        refine ⟨⟨h1, h2, h3, ?_, ?_⟩, ?_, ?_⟩
        · show -1000000 ≤ if 0 - 1000000 > z.2.2 then 0 - 1000000 else z.2.2
          split <;> omega
        · show (if 0 - 1000000 > z.2.2 then 0 - 1000000 else z.2.2) ≤ 1000000
          split <;> omega
        · show -((n : Int) * most + 2) ≤ if 0 - 1000000 > z.2.2 then 0 - 1000000 else z.2.2
          split <;> omega
        · show (if 0 - 1000000 > z.2.2 then 0 - 1000000 else z.2.2) ≤ most
          split <;> omega
    refine wpS_seq (wpS_if (wpT_and (wpT_test (wpE_op opD_B0 (wpE_var rfl (wpE_int ⟨_, _, rfl, rfl, _, rfl, ?_⟩))))))
    by_cases h : (1 : Int) < (n : Int)
    · rw [decide_eq_true h, if_pos rfl]
      refine wpT_test (wpE_op opD_eq (wpE_draw rfl (wpE_int ⟨_, rfl, by decide, by decide, fun b b0 b1 => wpE_int ⟨rfl, rfl, _, rfl, ?_⟩⟩)))
      cases PyData.eqv (.int b) (.int 0) with
      | false => exact wpS_nil (fin ts (by omega) fun t ht => (tok t ht).1)
      | true =>
        rw [if_pos rfl]
        have g0 := ord_get (os := os) (k := 0) (by omega)
        have gl := last_get (f := en) (os := os) (by omega)
        refine wpS_app rfl (by rw [List.length_map]; omega) (wpE_tup (wpA_cons (wpE_ixO rfl (wpE_un (wpE_int ⟨_, rfl, _, _, rfl, gl, wpA_cons (wpE_ixO rfl (wpE_int ⟨_, _, rfl, g0, wpA_cons (wpE_op opD_I0 (wpE_op opD_I0 (wpE_int (wpE_sum (wpN.L (wpN_lcS tg_name (by decide) rfl (wpI_own (wpN.L (wpN_slL (wpL_var rfl (wpO_none (wpO_some (wpE_var rfl ⟨_, rfl, ?_⟩)))))))))))))⟩))⟩)))))
        have ec : cutD (ts.map et) none (some (n : Int)) = (cutD ts none (some (n : Int))).map et := by
          unfold cutD
          rw [List.length_map, List.map_take, List.map_drop]
        rw [ec]
        have hm : ∀ t ∈ cutD ts none (some (n : Int)), t ∈ ts := fun t ht => List.mem_of_mem_drop (List.mem_of_mem_take ht)
        have lc : (cutD ts none (some (n : Int))).length ≤ 30 := by
          unfold cutD
          rw [List.length_take, List.length_drop]; omega
        have lc2 : (cutD ts none (some (n : Int))).length ≤ n := by
          unfold cutD
          rw [List.length_take]
          simp only [HT.sIx]
          rw [if_neg (by omega)]; omega
        generalize cutD ts none (some (n : Int)) = us at hm lc lc2
        refine ⟨by rw [List.length_map]; omega, TieT, us, et, fun _ => true, fun t => .int t.2.2, ⟨map_len, fun i => List.getElem?_map ..⟩, fun i t ht => ⟨_, rfl, wpT_yes ⟨rfl, fun _ => wpE_op opD_ix (wpE_var rfl (wpE_int ⟨_, _, _, rfl, rfl, rfl, rfl⟩))⟩⟩, us.map fun t => t.2.2, by rw [filter_yes, List.map_map]; rfl, _, _, rfl, rfl, ?_⟩
        have s0 : 0 ≤ (us.map fun t => t.2.2).sum := sum_nonneg fun x hx => by
          obtain ⟨t, ht, rfl⟩ := List.mem_map.mp hx
          exact (tok t (hm t ht)).2
        have s1 : (us.map fun t => t.2.2).sum ≤ (n : Int) * most := by
          have h1 := sum_le (B := most) (xs := us.map fun t => t.2.2) fun x hx => by
            obtain ⟨t, ht, rfl⟩ := List.mem_map.mp hx
            exact (tok t (hm t ht)).1.2.2.2.2
          rw [List.length_map] at h1
          have h2 := Int.mul_le_mul_of_nonneg_right (show ((us.length : Nat) : Int) ≤ (n : Int) by omega) (show 0 ≤ most by omega)
          omega
        refine wpE_draw rfl (wpE_int ⟨_, rfl, by decide, by decide, fun r r0 r1 => ⟨_, _, rfl, rfl, wpA_nil ⟨[_, _, _], rfl, le_ rfl, ?_⟩⟩⟩)
        have e2 : ts.map et ++ [.tuple [en os[os.length - 1], en os[0], .int (0 - (us.map fun t => t.2.2).sum - r)]] = (ts ++ [(os[os.length - 1], os[0], 0 - (us.map fun t => t.2.2).sum - r)]).map et := map_snoc (f := et) (x := (os[os.length - 1], os[0], 0 - (us.map fun t => t.2.2).sum - r))
        show wpS (Gh a c) _ [.spc (.ref a), .dat (en n), .dat (.int most), .own (os.map en), .own (ts.map et ++ [.tuple [en os[os.length - 1], en os[0], .int (0 - (us.map fun t => t.2.2).sum - r)]]), x, y, .no] _
        rw [e2]
        refine fin _ (by rw [List.length_append, List.length_singleton]; omega) (all_snoc (fun t ht => (tok t ht).1) ⟨od.lt _ (List.getElem_mem _), od.lt _ (List.getElem_mem _), nd_ne od.nd _ _ (by omega), ?_, ?_⟩)
        · show -((n : Int) * most + 2) ≤ 0 - (us.map fun t => t.2.2).sum - r
          omega
        · show 0 - (us.map fun t => t.2.2).sum - r ≤ most
          omega
    · rw [decide_eq_false h, if_neg Bool.false_ne_true]
      exact wpS_nil (fin ts (by omega) fun t ht => (tok t ht).1)
end

end K42
/-! text P13 -/
set_option Elab.async false
set_option linter.all false
set_option maxRecDepth 100000
set_option maxHeartbeats 4000000
namespace K42
open PySem PySem.Spec PyProof.Rows L2

/-! The law's draws of ties, 3: a ring, the ties. -/
section
variable {P : Program} {w : World} {K : PySem.W.Frag} {mg : Str → Option Value} {base : Heap}
section
variable {G : Gm} {ρ : Rho} {i : Nat} {ds : List PD} {F : PySem.W.Frag} {Kb : Bool → Prop}
theorem own_cmp (hi : ρ[i]? = some (Sl.own ds)) (sh : SeqAt.shaped (.list ds) = true) {X : Addr → Prop} {o : Nat → Addr} {σ : L2.St} {H : Hp} (V : EnvOk G X o σ H ρ) {p : Addr} (hp : H p = none) :
    ∃ v, σ[i]? = some (some v) ∧ Dp F (upd H p (.lst [])) v (.list ds) := by
  obtain ⟨a, vs, e, r⟩ := V.own i ds hi
  refine ⟨_, a, .lst (.inl (.inl (Ex.new hp _ _ e))) ((r.ex (Ex.new hp)).dp ?_)⟩
  have := SeqAt.canLay_of_shaped sh
  rw [PyData.canLay0] at this
  exact this
theorem wpT_neO (hi : ρ[i]? = some (Sl.own ds)) (sh : SeqAt.shaped (.list ds) = true) (k : Kb (!decide (ds = []))) : wpT G (tTest (tOp (rNeD F) (tVar i) (tLst tNil))) ρ Kb := fun X o σ H V Q q => by
  obtain ⟨a, _, _, _⟩ := V.own i ds hi
  refine ⟨_, a, Nat.zero_le _, fun p hp => ?_⟩
  obtain ⟨v, a', dp⟩ := own_cmp (F := F) hi sh V hp
  rw [a] at a'
  cases a'
  refine ⟨.list ds, .list [], dp, .lst (.inl (.inl upd_same)) .nil, sh, rfl, _, rfl, ?_⟩
  rw [eqv_listNil]
  exact q _ _ (Ex.new hp).fr (G.mono _ _ V.s (Ex.new hp)) k
theorem wpT_eqO (hi : ρ[i]? = some (Sl.own ds)) (sh : SeqAt.shaped (.list ds) = true) (k : Kb (decide (ds = []))) : wpT G (tTest (tOp (rEqD F) (tVar i) (tLst tNil))) ρ Kb := fun X o σ H V Q q => by
  obtain ⟨a, _, _, _⟩ := V.own i ds hi
  refine ⟨_, a, Nat.zero_le _, fun p hp => ?_⟩
  obtain ⟨v, a', dp⟩ := own_cmp (F := F) hi sh V hp
  rw [a] at a'
  cases a'
  refine ⟨.list ds, .list [], dp, .lst (.inl (.inl upd_same)) .nil, sh, rfl, _, rfl, ?_⟩
  rw [eqv_listNil]
  exact q _ _ (Ex.new hp).fr (G.mono _ _ V.s (Ex.new hp)) k
end
theorem plain_et (t : TieT) : Plain 1 (et t) := plain_tup fun d hd => by
  simp only [List.mem_cons, List.not_mem_nil, or_false] at hd
  rcases hd with rfl | rfl | rfl <;> exact ⟨rfl, Nat.le_refl _⟩
theorem shaped_ets (ts : List TieT) : SeqAt.shaped (.list (ts.map et)) = true := (plain_list fun d h => by
  obtain ⟨x, _, rfl⟩ := List.mem_map.mp h
  exact plain_et x).shaped (by decide)
theorem map_nil {α : Type} {f : α → PD} {xs : List α} : decide (xs.map f = []) = decide (xs = []) := by cases xs <;> rfl
/-- the ends of a tie -/
def okE (n : Nat) (t : TieT) : Prop := t.1 < n ∧ t.2.1 < n ∧ t.1 ≠ t.2.1
theorem tie_get {ts : List TieT} {k : Nat} (h : k < ts.length) : atI (ts.map et) (k : Int) = some (et ts[k]) := atI_map (List.getElem?_eq_getElem h)
def p_law_ring (ds : List PD) (K : Sl → Prop) : Prop := ∃ (many : Nat) (most : Int), ds = [en many, .int most] ∧ 1 ≤ many ∧ many ≤ 12 ∧ 1 ≤ most ∧ most ≤ 1000000 ∧ ∀ ts : List TieT, ts.length ≤ 30 → (∀ t ∈ ts, okTT many most t) → K (.own (ts.map et))
abbrev s__law_ring : Stmt := top 56
abbrev N__law_ring : List Str := ["_law_heap_here", "_law_many", "_law_most", "_law_order", "_law_found", "_law_at", "_law_over", "_law_tie", "_law_step"]
theorem sc__law_ring : FnScope N__law_ring ["_law_heap_here", "_law_many", "_law_most"] (defScope s__law_ring) := ⟨rfl, rfl, rfl, by decide +kernel, rfl, by decide +kernel, by decide +kernel⟩

theorem ok__law_ring (T : Tx mg) (D : Dn K mg "_law_ring" s__law_ring) (c__law_draw : Cl P w K mg base 1 "_law_draw" (SpDraw)) (c__law_mixed : Cl P w K mg base 2 "_law_mixed" (SpMix)) (c__law_pick : Cl P w K mg base 2 "_law_pick" (SpPick)) (c__law_tame : Cl P w K mg base 3 "_law_tame" (SpE (p_law_tame))) : Cl P w K mg base 4 "_law_ring" (SpE (p_law_ring)) := by
  have sc := sc__law_ring
  refine cl_heap D sc (fun _ _ _ _ _ _ us hl => match us, hl with | [_, _, _], _ => rfl) (fun ds K h => by obtain ⟨_, _, rfl, _⟩ := h; rfl) fun f cdv A outer s H E hr => ?_
  have hu := hr.units
  refine ⟨_, (pss_cons (ps_set (i := 3) sc.nd rfl (Or.inr rfl) (pe_ifExp (pt_cmpR op_gt (pv 1) pe_int (nomark _)) (pe_slice sl_list (pe_cl c__law_mixed hr (by first | decide | omega) (by rfl) (pa_cons (pv 0) (pa_cons (pe_listRg rfl (by rfl) T.b_list (prg_1 (by rfl) T.b_range (pv 1))) pa_nil))) po_none (po_some (pe_op op_add pe_int (pe_cl c__law_draw hr (by first | decide | omega) (by rfl) (pa_cons (pv 0) (pa_cons (pe_op op_sub (pv 1) pe_int) pa_nil)))))) (pe_lst pa_nil)))
    (pss_cons (ps_setLc (i := 4) (own := [("_law_at", 5)]) (g := gName 5) (by rfl) sc.nd rfl rfl (sw_true rfl rfl rfl (by decide +kernel)) (pi_range1 (by rfl) T.b_range (pa_cons (pe_callB (lenSq (F := K)) (by rfl) T.b_len (by decide +kernel) (pa_cons (pv 3) pa_nil)) pa_nil)) (blkOk_by (own := [("_law_at", 5)]) (N := N__law_ring) (sc := (defScope s__law_ring)) (by decide +kernel)) (fun _ _ _ _ _ => (pg_name (i := 5) sc.nd rfl (by first | exact Or.inl rfl | exact Or.inr rfl))) (fun _ _ _ _ _ => pts_nil) (fun _ _ _ _ _ => (pe_tup (pa_cons (pe_ix (ixSq (F := K)) (pv 3) (pe_op op_sub (pv 5) pe_int) (fun _ _ => rfl)) (pa_cons (pe_ix (ixSq (F := K)) (pv 3) (pv 5) (fun _ _ => rfl)) (pa_cons (pe_op op_sub (pe_cl c__law_draw hr (by first | decide | omega) (by rfl) (pa_cons (pv 0) (pa_cons (pe_op op_add (pe_op op_mul pe_int (pv 2)) pe_int) pa_nil))) (pv 2)) pa_nil))))))
    (pss_cons (ps_if (pt_cmpR (opNe (F := K) hu) (pv 4) (pe_lst pa_nil) (nomark _)) (pss_cons (ps_set (i := 6) sc.nd rfl (Or.inl rfl) (pe_op op_sub (pe_callB (cr_sum rfl) (by rfl) T.b_sum (by decide +kernel) (pa_cons (pe_lc (own := [("_law_tie", 7)]) (g := gName 7) (by rfl) sc.nd (pi_list (pv 4)) (blkOk_by (own := [("_law_tie", 7)]) (N := N__law_ring) (sc := (defScope s__law_ring)) (by decide +kernel)) (fun _ _ _ _ _ => (pg_name (i := 7) sc.nd rfl (by first | exact Or.inl rfl | exact Or.inr rfl))) (fun _ _ _ _ _ => pts_nil) (fun _ _ _ _ _ => (pe_ix (ixSq (F := K)) (pv 7) pe_int (fun _ _ => rfl)))) pa_nil)) (pe_cl c__law_pick hr (by first | decide | omega) (by rfl) (pa_cons (pv 0) (pa_cons (pe_lst (pa_cons pe_int (pa_cons pe_int (pa_cons pe_int (pa_cons pe_int (pa_cons pe_int pa_nil)))))) pa_nil)))))
      (pss_one (ps_for PassesOwn.never rfl (pi_range1 (by rfl) T.b_range (pa_cons (pe_callB (lenSq (F := K)) (by rfl) T.b_len (by decide +kernel) (pa_cons (pv 4) pa_nil)) pa_nil)) (pg_name (i := 5) sc.nd rfl (by first | exact Or.inl rfl | exact Or.inr rfl))
        (pss_cons (ps_set (i := 8) sc.nd rfl (Or.inl rfl) (pe_op op_sub (pe_callB (call_max2 rfl) (by rfl) T.b_max (by decide +kernel) (pa_cons (pe_op op_sub pe_int (pv 2)) (pa_cons (pe_callB (call_min2 rfl) (by rfl) T.b_min (by decide +kernel) (pa_cons (pv 2) (pa_cons (pe_op op_sub (pe_ix (ixSq (F := K)) (pe_ix (ixSq (F := K)) (pv 4) (pv 5) (fun _ _ => rfl)) pe_int (fun _ _ => rfl)) (pv 6)) pa_nil))) pa_nil))) (pe_ix (ixSq (F := K)) (pe_ix (ixSq (F := K)) (pv 4) (pv 5) (fun _ _ => rfl)) pe_int (fun _ _ => rfl))))
        (pss_cons (ps_asg (pe_tup (pa_cons (pe_ix (ixSq (F := K)) (pe_ix (ixSq (F := K)) (pv 4) (pv 5) (fun _ _ => rfl)) pe_int (fun _ _ => rfl)) (pa_cons (pe_ix (ixSq (F := K)) (pe_ix (ixSq (F := K)) (pv 4) (pv 5) (fun _ _ => rfl)) pe_int (fun _ _ => rfl)) (pa_cons (pe_op op_add (pe_ix (ixSq (F := K)) (pe_ix (ixSq (F := K)) (pv 4) (pv 5) (fun _ _ => rfl)) pe_int (fun _ _ => rfl)) (pv 8)) pa_nil)))) (pg_sub (pv 4) (pv 5) set_list))
        (pss_one (ps_set (i := 6) sc.nd rfl (Or.inl rfl) (pe_op op_add (pv 6) (pv 8))))))))) pss_nil)
    (pss_one (ps_ret (pe_op op_cat (pv 4) (pe_lc (own := [("_law_tie", 7)]) (g := gName 7) (by rfl) sc.nd (pi_list (pe_cl c__law_tame hr (by first | decide | omega) (by rfl) (pa_cons (pv 0) (pa_cons (pv 1) (pa_cons (pv 2) (pa_cons (pe_cl c__law_draw hr (by first | decide | omega) (by rfl) (pa_cons (pv 0) (pa_cons pe_int pa_nil))) pa_nil)))))) (blkOk_by (own := [("_law_tie", 7)]) (N := N__law_ring) (sc := (defScope s__law_ring)) (by decide +kernel)) (fun _ _ _ _ _ => (pg_name (i := 7) sc.nd rfl (by first | exact Or.inl rfl | exact Or.inr rfl))) (fun _ _ _ _ _ => pts_nil) (fun _ _ _ _ _ => (pe_tup (pa_cons (pe_ix (ixSq (F := K)) (pv 7) pe_int (fun _ _ => rfl)) (pa_cons (pe_ix (ixSq (F := K)) (pv 7) pe_int (fun _ _ => rfl)) (pa_cons (pe_op op_sub pe_int (pe_cl c__law_draw hr (by first | decide | omega) (by rfl) (pa_cons (pv 0) (pa_cons (pe_op op_add (pv 2) pe_int) pa_nil)))) pa_nil)))))))))))), fun a c => ?_⟩
  rintro ds K' ⟨n, most, rfl, n1, n12, m1, m2, k⟩
  have nm := most_le n1 m1
  show wpS (Gh a c) _ [.spc (.ref a), .dat (en n), .dat (.int most), .no, .no, .no, .no, .no, .no] _
  refine wpS_seq (wpS_setN (lt_ rfl) (wpN.imp (Kl := fun es => ∃ os : List Nat, es = os.map en ∧ os.length ≤ n ∧ (0 < os.length → 2 ≤ os.length) ∧ (∀ x ∈ os, x < n) ∧ os.Nodup) ?_ ?_))
  · refine wpN_if (wpT_test (wpE_op opD_B0 (wpE_var rfl (wpE_int ⟨_, _, rfl, rfl, _, rfl, ?_⟩))))
    by_cases h : (1 : Int) < (n : Int)
    · rw [decide_eq_true h, if_pos rfl]
      refine wpN_slL (wpN.L (wpN_mixed rfl (wpN.R (wpN_listRg (wpE_var rfl ⟨n, rfl, by omega, ?_, fun es pm => ?_⟩)))))
      · rw [List.length_map, List.length_range]; omega
      obtain ⟨os, rfl, od⟩ := Ord.of pm
      refine wpO_none (wpO_some (wpE_op opD_I0 (wpE_int (wpE_draw rfl (wpE_op opD_I0 (wpE_var rfl (wpE_int ⟨_, _, rfl, rfl, _, rfl, by omega, by omega, fun r r0 r1 => ⟨_, _, rfl, rfl, _, rfl, ?_⟩⟩)))))))
      have ec : cutD (os.map en) none (some (2 + r)) = (cutD os none (some (2 + r))).map en := by
        unfold cutD
        rw [List.length_map, List.map_take, List.map_drop]
      obtain ⟨q, rfl⟩ := nat_of r0
      have ed : cutD os none (some (2 + (q : Int))) = os.take (2 + q) := by
        unfold cutD
        have e1 : HT.sIx os.length 0 none = 0 := by simp [HT.sIx]
        have e2 : HT.sIx os.length os.length (some (2 + (q : Int))) = min (2 + q) os.length := by
          simp only [HT.sIx]
          rw [if_neg (by omega)]; omega
        rw [e1, e2, List.drop_zero, Nat.sub_zero, List.take_eq_take_iff]; omega
      have ol := od.len
      refine ⟨os.take (2 + q), by rw [ec, ed], ?_, ?_, fun x hx => od.lt x (List.mem_of_mem_take hx), od.nd.sublist (List.take_sublist _ _)⟩
      · rw [List.length_take]; omega
      · rw [List.length_take]; omega
    · rw [decide_eq_false h, if_neg Bool.false_ne_true]
      exact wpN_lst (wpA_nil ⟨[], rfl, le_ rfl, [], rfl, Nat.zero_le _, fun z => absurd z (by simp), nofun, .nil⟩)
  rintro es ⟨os, rfl, ol, o2, olt, ond⟩
  show wpS (Gh a c) _ [.spc (.ref a), .dat (en n), .dat (.int most), .own (os.map en), .no, .no, .no, .no, .no] _
  refine wpS_seq (wpS_setN (lt_ rfl) (wpN_lc tg_name (by decide) rfl (wpI_rng1 (wpA_cons (wpE_len (wpL.Q (wpL_var rfl (wpA_nil ⟨_, rfl, ?_, ?_, ?_⟩))))))))
  · rw [List.length_map]; omega
  · rw [List.length_map]; omega
  rw [List.length_map]
  refine ⟨by omega, fun i acc => ∃ ts : List TieT, acc = ts.map et ∧ ts.length = i ∧ ∀ t ∈ ts, okTT n most t, ⟨[], rfl, rfl, nofun⟩, ?_, ?_⟩
  · rintro i acc d hi e ⟨ts, rfl, tl, tok⟩
    cases e
    have hi : i < os.length := by omega
    have l2 := o2 (by omega)
    refine ⟨_, rfl, wpT_yes ?_⟩
    rw [if_pos rfl]
    obtain ⟨j, hj, ji, gj⟩ : ∃ j, ∃ hj : j < os.length, j ≠ i ∧ atI (os.map en) ((i : Int) - 1) = some (en os[j]) := by
      cases i with
      | zero => exact ⟨os.length - 1, by omega, by omega, last_get (by omega)⟩
      | succ i =>
        refine ⟨i, by omega, by omega, ?_⟩
        rw [show (((i + 1 : Nat) : Int) - 1) = (i : Int) by omega]
        exact ord_get (by omega)
    refine wpE_tup (wpA_cons (wpE_ixO rfl (wpE_op opD_I0 (wpE_var rfl (wpE_int ⟨_, _, rfl, rfl, _, _, rfl, gj, wpA_cons (wpE_ixO rfl (wpE_var rfl ⟨_, _, rfl, ord_get hi, wpA_cons (wpE_op opD_I0 (wpE_draw rfl (wpE_op opD_I0 (wpE_op opD_I (wpE_int (wpE_var rfl ⟨_, _, rfl, rfl, .inl (by decide), wpE_int ⟨_, _, rfl, rfl, _, rfl, by omega, by omega, fun r r0 r1 => wpE_var rfl ⟨_, _, rfl, rfl, wpA_nil ⟨[_, _, _], rfl, le_ rfl, ts ++ [(os[j], os[i], r - most)], ?_, by rw [List.length_append, tl]; rfl, all_snoc tok ⟨⟨olt _ (List.getElem_mem _), olt _ (List.getElem_mem _), nd_ne ond _ _ ji, ?_, ?_⟩, ?_, ?_⟩⟩⟩⟩⟩))))))⟩))⟩)))))
    · rw [← map_snoc]; rfl
    · show -1000000 ≤ r - most; omega
    · show r - most ≤ 1000000; omega
    · show -((n : Int) * most + 2) ≤ r - most; omega
    · show r - most ≤ most; omega
  rintro acc ⟨ts, rfl, tl, tok⟩
  have tl : ts.length ≤ 12 := by omega
  show wpS (Gh a c) _ [.spc (.ref a), .dat (en n), .dat (.int most), .own (os.map en), .own (ts.map et), .no, .no, .no, .no] _
  -- what is handed back
  have fin : ∀ (ts : List TieT) (x y z : Sl), ts.length ≤ 12 → (∀ t ∈ ts, okTT n most t) → (∀ v, z ≠ .own v) → wpS (Gh a c) (tRet (tOp rCat (tVar 4) (tLc (iList K (tCall (SpE p_law_tame) [] E0 (tCons (tVar 0) (tCons (tVar 1) (tCons (tVar 2) (tCons (tCall SpDraw [] E0 (tCons (tVar 0) (tCons (tC (.int 3)) tNil))) tNil)))))) (gName 7) tYes (tTup (tCons (tOp (rIx K) (tVar 7) (tC (.int 0))) (tCons (tOp (rIx K) (tVar 7) (tC (.int 1))) (tCons (tOp (rI0 fun i j => .int (i - j)) (tC (.int 0)) (tCall SpDraw [] E0 (tCons (tVar 0) (tCons (tOp (rI0 fun i j => .int (i + j)) (tVar 2) (tC (.int 1))) tNil)))) tNil)))) [7])))
      [.spc (.ref a), .dat (en n), .dat (.int most), .own (os.map en), .own (ts.map et), x, y, .no, z] (DEh K') := fun ts x y z tl tok nz => by
    refine wpS_retN (wpN_cat (wpL_var rfl (wpN.L (wpN_lc tg_name (by decide) rfl (wpI_own (wpN.L (wpN_callE rfl (wpA_cons (wpE_var rfl (wpA_cons (wpE_var rfl (wpA_cons (wpE_draw rfl (wpE_int ⟨3, rfl, by decide, by decide, fun r r0 r1 => wpA_nil ⟨[_, _, _], rfl, n, most, r.toNat, ?_, n1, n12, m1, m2, by omega, fun us ul uok => ⟨_, rfl, ?_⟩⟩⟩))))))))))))))
    · show _ = [en n, PyData.int most, PyData.int ((r.toNat : Nat) : Int)]
      rw [Int.toNat_of_nonneg r0]
    refine ⟨by rw [List.length_map]; omega, fun i acc => ∃ vs : List TieT, acc = vs.map et ∧ vs.length = i ∧ ∀ t ∈ vs, okTT n most t, ⟨[], rfl, rfl, nofun⟩, ?_, ?_⟩
    · rintro i acc d hi e ⟨vs, rfl, vl, vok⟩
      obtain ⟨t, ht, rfl⟩ := map_get e
      obtain ⟨⟨h1, h2, h3, h4, h5⟩, h6, h7⟩ := uok t (List.mem_of_getElem? ht)
      refine ⟨_, rfl, wpT_yes ?_⟩
      rw [if_pos rfl]
      refine wpE_tup (wpA_cons (wpE_op opD_ix (wpE_var rfl (wpE_int ⟨_, _, _, rfl, rfl, rfl, wpA_cons (wpE_op opD_ix (wpE_var rfl (wpE_int ⟨_, _, _, rfl, rfl, rfl, wpA_cons (wpE_op opD_I0 (wpE_int (wpE_draw rfl (wpE_op opD_I0 (wpE_var rfl (wpE_int ⟨_, _, rfl, rfl, _, rfl, by omega, by omega, fun r r0 r1 => ⟨_, _, rfl, rfl, wpA_nil ⟨[_, _, _], rfl, le_ rfl, vs ++ [(t.1, t.2.1, 0 - r)], ?_, by rw [List.length_append, vl]; rfl, all_snoc vok ⟨⟨h1, h2, h3, ?_, ?_⟩, ?_, ?_⟩⟩⟩⟩))))))⟩)))⟩))))
      · rw [← map_snoc]; rfl
      · show -1000000 ≤ 0 - r; omega
      · show 0 - r ≤ 1000000; omega
      · show -((n : Int) * most + 2) ≤ 0 - r; omega
      · show 0 - r ≤ most; omega
    · rintro acc ⟨vs, rfl, vl, vok⟩
      rw [List.length_map] at vl
      refine ⟨by rw [List.length_map, List.length_map]; omega, ?_⟩
      show K' (.own (ts.map et ++ vs.map et))
      rw [← List.map_append]
      refine k _ (by rw [List.length_append]; omega) fun t ht => ?_
      rcases List.mem_append.mp ht with z | z
      · exact tok t z
      · exact vok t z
  refine wpS_seq (wpS_if (wpT_neO rfl (shaped_ets ts) ?_))
  rw [map_nil]
  by_cases hz : ts = []
  · rw [decide_eq_true hz, Bool.not_true, if_neg Bool.false_ne_true]
    exact wpS_nil (fin ts _ _ _ tl tok nofun)
  rw [decide_eq_false hz, Bool.not_false, if_pos rfl]
  refine wpS_seq (wpS_set (wpE_op opD_I0 (wpE_sum (wpN.L (wpN_lcS tg_name (by decide) rfl (wpI_own (wpL_var rfl ⟨by rw [List.length_map]; omega, TieT, ts, et, fun _ => true, fun t => .int t.2.2, ⟨map_len, fun i => List.getElem?_map ..⟩, fun i t ht => ⟨_, rfl, wpT_yes ⟨rfl, fun _ => wpE_op opD_ix (wpE_var rfl (wpE_int ⟨_, _, _, rfl, rfl, rfl, rfl⟩))⟩⟩, ts.map fun t => t.2.2, by rw [filter_yes, List.map_map]; rfl, ?_⟩)))))))
  refine wpE_pick rfl (wpN.R (wpN_lst (wpA_cons (wpE_int (wpA_cons (wpE_int (wpA_cons (wpE_int (wpA_cons (wpE_int (wpA_cons (wpE_int (wpA_nil ⟨[_, _, _, _, _], rfl, le_ rfl, lt_ rfl, le_ rfl, fun d hd => ?_⟩)))))))))))))
  obtain ⟨p, rfl⟩ : ∃ p : Int, d = .int p := by
    simp only [List.mem_cons, List.not_mem_nil, or_false] at hd
    rcases hd with rfl | rfl | rfl | rfl | rfl <;> exact ⟨_, rfl⟩
  refine ⟨_, _, rfl, rfl, ?_⟩
  show wpS (Gh a c) _ [.spc (.ref a), .dat (en n), .dat (.int most), .own (os.map en), .own (ts.map et), .no, .dat (.int _), .no, .no] _
  refine wpS_for tg_name (wpI_rng1 (wpA_cons (wpE_len (wpL.Q (wpL_var rfl (wpA_nil ⟨_, rfl, ?_, ?_, ?_⟩))))))
  · rw [List.length_map]; omega
  · rw [List.length_map]; omega
  rw [List.length_map]
  refine ⟨fun i ρ => ∃ (us : List TieT) (v : Int) (x z : Sl), ρ = [.spc (.ref a), .dat (en n), .dat (.int most), .own (os.map en), .own (us.map et), x, .dat (.int v), .no, z] ∧ us.length = ts.length ∧ (∀ t ∈ us, okTT n most t) ∧ ∀ v, z ≠ .own v, ⟨ts, _, _, _, rfl, rfl, tok, nofun⟩, ?_, ?_⟩
  · rintro i d ρ' hi e ⟨us, v, x, z, rfl, ul, uok, nz⟩
    cases e
    have hi : i < us.length := by omega
    obtain ⟨⟨h1, h2, h3, h4, h5⟩, h6, h7⟩ := uok _ (List.getElem_mem hi)
    refine ⟨_, rfl, ?_⟩
    show wpS (Gh a c) _ [.spc (.ref a), .dat (en n), .dat (.int most), .own (os.map en), .own (us.map et), .dat (en i), .dat (.int v), .no, z] _
    refine wpS_seq (wpS_set (wpE_op opD_I0 (wpE_max2 (wpE_op opD_I0 (wpE_int (wpE_var rfl ⟨_, _, rfl, rfl, _, rfl, wpE_min2 (wpE_var rfl ⟨_, rfl, wpE_op opD_I0 (wpE_op opD_ix (wpE_ixO rfl (wpE_var rfl ⟨_, _, rfl, tie_get hi, wpE_int ⟨_, _, _, rfl, rfl, rfl, wpE_var rfl ⟨_, _, rfl, rfl, _, rfl, _, rfl, wpE_op opD_ix (wpE_ixO rfl (wpE_var rfl ⟨_, _, rfl, tie_get hi, wpE_int ⟨_, _, _, rfl, rfl, rfl, _, _, rfl, rfl, ?_⟩⟩)) ⟩⟩⟩)))⟩)⟩))))))
    generalize hst : (if (if us[i].2.2 - v < most then us[i].2.2 - v else most) > 0 - most then (if us[i].2.2 - v < most then us[i].2.2 - v else most) else 0 - most) - us[i].2.2 = st
    have hb : -most ≤ us[i].2.2 + st ∧ us[i].2.2 + st ≤ most := by
      rw [← hst]; split <;> split <;> omega
    show wpS (Gh a c) _ [.spc (.ref a), .dat (en n), .dat (.int most), .own (os.map en), .own (us.map et), .dat (en i), .dat (.int v), .no, .dat (.int st)] _
    refine wpS_seq (wpS_setL rfl (wpE_tup (wpA_cons (wpE_op opD_ix (wpE_ixO rfl (wpE_var rfl ⟨_, _, rfl, tie_get hi, wpE_int ⟨_, _, _, rfl, rfl, rfl, wpA_cons (wpE_op opD_ix (wpE_ixO rfl (wpE_var rfl ⟨_, _, rfl, tie_get hi, wpE_int ⟨_, _, _, rfl, rfl, rfl, wpA_cons (wpE_op opD_I0 (wpE_op opD_ix (wpE_ixO rfl (wpE_var rfl ⟨_, _, rfl, tie_get hi, wpE_int ⟨_, _, _, rfl, rfl, rfl, wpE_var rfl ⟨_, _, rfl, rfl, wpA_nil ⟨[_, _, _], rfl, le_ rfl, wpE_var rfl ⟨_, i, rfl, ixN_nat (by rw [List.length_map]; exact hi), ?_⟩⟩⟩⟩⟩))))⟩⟩)))⟩⟩))))))
    show wpS (Gh a c) _ [.spc (.ref a), .dat (en n), .dat (.int most), .own (os.map en), .own ((us.map et).set i (et (us[i].1, us[i].2.1, us[i].2.2 + st))), .dat (en i), .dat (.int v), .no, .dat (.int st)] _
    rw [← List.map_set]
    refine wpS_set (wpE_op opD_I0 (wpE_var rfl (wpE_var rfl ⟨_, _, rfl, rfl, us.set i (us[i].1, us[i].2.1, us[i].2.2 + st), v + st, _, _, rfl, by rw [List.length_set]; exact ul, fun t ht => ?_, nofun⟩)))
    rcases List.mem_or_eq_of_mem_set ht with z | z
    · exact uok t z
    · rw [z]; exact ⟨⟨h1, h2, h3, show -1000000 ≤ us[i].2.2 + st by omega, show us[i].2.2 + st ≤ 1000000 by omega⟩, show -((n : Int) * most + 2) ≤ us[i].2.2 + st by omega, hb.2⟩
  · rintro ρ' ⟨us, v, x, z, rfl, ul, uok, nz⟩
    exact fin us _ _ _ (by omega) uok nz
end

end K42
/-! text DLi -/
set_option Elab.async false
set_option linter.all false
set_option maxRecDepth 100000
set_option maxHeartbeats 2000000
/-! Data level: three stores by a tuple. -/
namespace K42
open PySem PySem.Spec PyProof.Rows L2
section
variable {G : Gm} {Z X : Addr → Prop} {o : Nat → Addr} {σ : L2.St} {H H' : Hp} {ρ : Rho} {E : DE} {ta tb tc te : TE} {i j l : Nat} {F : PySem.W.Frag}
theorem wpS_asg3 (hi : i < ρ.length) (hj : j < ρ.length) (hl : l < ρ.length) (h : wpX G ta ρ fun s1 => wpX G tb ρ fun s2 => wpX G tc ρ fun s3 => E.nx (((ρ.set i s1).set j s2).set l s3)) : wpS G (tAsg (tTup (tCons ta (tCons tb (tCons tc tNil)))) (gTup F 3 (gCons (gName i) (gCons (gName j) (gCons (gName l) gNil))))) ρ E := fun X o σ H V D qn _ _ _ => by
  refine h.pend V fun v H1 s1 f1 S1 n1 V1 P1 _ k1 => ?_
  refine k1.pend V1 fun w H2 s2 f2 S2 n2 V2 P2 keep2 k2 => ?_
  refine k2.pend V2 fun y H3 s3 f3 S3 n3 V3 P3 keep3 k3 => ?_
  refine ⟨sz6 (show 3 ≤ 1000000 by decide), fun T hT => ⟨T, [v, w, y], rfl, .inl (.inl upd_same), rfl, v, [w, y], rfl, w, [y], rfl, y, [], rfl, rfl, ?_⟩⟩
  have e3 : Ex H3 (upd H3 T (.tup [v, w, y])) := Ex.new hT
  have V3 := V3.ex e3
  have P3 := P3.ex e3
  have d1 := dm_of f1 S1
  have d2 := dm_of f2 S2
  have back : ∀ {A B : Hp} {b : Addr}, (∀ b, A b ≠ none → B b ≠ none) → B b = none → A b = none := fun {A B b} d e => by
    cases q : A b with
    | none => rfl
    | some u => exact absurd e (d b (by rw [q]; exact fun z => nomatch z))
  have n2' : ∀ b, pin s2 w b → H b = none := fun b z => back d1 (n2 b z)
  have n3' : ∀ b, pin s3 y b → H1 b = none := fun b z => back d2 (n3 b z)
  have n3'' : ∀ b, pin s3 y b → H b = none := fun b z => back d1 (n3' b z)
  obtain ⟨o1, Va, a1, ow1⟩ := V3.put1 (X := fun b => (X b ∨ pin s2 w b) ∨ pin s3 y b) hi ((keep3 s1 v (keep2 s1 v P1)).ex e3) (fun b z => .inl (.inl (V.sub b z))) (fun b z => by
      rcases z with (z | z) | z
      · exact .inl (.inl (.inl z))
      · exact .inl (.inr z)
      · exact .inr z) (fun b z => by
      rcases z with ((z | z) | z) | z
      · exact .inl (.inl (.inl z))
      · exact .inr z
      · exact .inl (.inl (.inr z))
      · exact .inl (.inr z)) fun b z q => by
      rcases q with (q | q) | q
      · exact V.xdom b q (n1 b z)
      · exact V1.xdom b (.inr z) (n2 b q)
      · exact V1.xdom b (.inr z) (n3' b q)
  obtain ⟨o2, Vb, a2, ow2⟩ := Va.put1 (X := fun b => X b ∨ pin s3 y b) (by rw [List.length_set]; exact hj) (((keep3 s2 w P2).ex e3).sub_ a1 fun b z => .inl (.inr z)) (fun b z => .inl (V.sub b z)) (fun b z => z.imp .inl id) (fun b z => by
      rcases z with (z | z) | z
      · exact .inl (.inl z)
      · exact .inr z
      · exact .inl (.inr z)) fun b z q => by
      rcases q with q | q
      · exact V.xdom b q (n2' b z)
      · exact V2.xdom b (.inr z) (n3 b q)
  obtain ⟨o3, Vc, a3, ow3⟩ := Vb.put1 (X := X) (by rw [List.length_set, List.length_set]; exact hl) ((P3.sub_ a1 fun b z => .inr z).sub_ a2 fun b z => .inr z) V.sub (fun b z => .inl z) (fun b z => z) fun b z q => V.xdom b q (n3'' b z)
  refine qn o3 _ _ _ ⟨fun b u e z => (((f1.trans f2).trans f3).trans e3.fr) b u e fun q => z (.inl q), fun b z => ?_, fun b z => dm_of (e3.fr (N := G.N)) V3.s b (dm_of f3 S3 b (d2 b (d1 b z)))⟩ Vc k3
  rcases ow3 b z with z | z
  · rcases ow2 b z with z | z
    · rcases ow1 b z with z | z
      · exact .inl z
      · exact .inr (n1 b z)
    · exact .inr (n2' b z)
  · exact .inr (n3'' b z)
end
end K42
/-! text P14 -/
set_option Elab.async false
set_option linter.all false
set_option maxRecDepth 100000
set_option maxHeartbeats 4000000
namespace K42
open PySem PySem.Spec PyProof.Rows L2

/-! The law's draws of ties, 4; batches; a round. -/
section
variable {P : Program} {w : World} {K : PySem.W.Frag} {mg : Str → Option Value} {base : Heap}
def p_law_ties (ds : List PD) (K : Sl → Prop) : Prop := ∃ (many : Nat) (most : Int), ds = [en many, .int most] ∧ 1 ≤ many ∧ many ≤ 12 ∧ 1 ≤ most ∧ most ≤ 1000000 ∧ ∀ ts : List TieT, ts.length ≤ 60 → (∀ t ∈ ts, okTT many most t) → K (.own (ts.map et))
abbrev s__law_ties : Stmt := top 57
abbrev N__law_ties : List Str := ["_law_heap_here", "_law_many", "_law_most", "_law_shape", "_law_found", "_law_pairs", "_law_tie", "_law_again"]
theorem sc__law_ties : FnScope N__law_ties ["_law_heap_here", "_law_many", "_law_most"] (defScope s__law_ties) := ⟨rfl, rfl, rfl, by decide +kernel, rfl, by decide +kernel, by decide +kernel⟩

theorem ok__law_ties (T : Tx mg) (D : Dn K mg "_law_ties" s__law_ties) (c__law_draw : Cl P w K mg base 1 "_law_draw" (SpDraw)) (c__law_mixed : Cl P w K mg base 2 "_law_mixed" (SpMix)) (c__law_pick : Cl P w K mg base 2 "_law_pick" (SpPick)) (c__law_tame : Cl P w K mg base 3 "_law_tame" (SpE (p_law_tame))) (c__law_row : Cl P w K mg base 3 "_law_row" (SpE (p_law_row))) (c__law_ring : Cl P w K mg base 4 "_law_ring" (SpE (p_law_ring))) : Cl P w K mg base 5 "_law_ties" (SpE (p_law_ties)) := by
  have sc := sc__law_ties
  refine cl_heap D sc (fun _ _ _ _ _ _ us hl => match us, hl with | [_, _, _], _ => rfl) (fun ds K h => by obtain ⟨_, _, rfl, _⟩ := h; rfl) fun f cdv A outer s H E hr => ?_
  have hu := hr.units
  refine ⟨_, (pss_cons (ps_set (i := 3) sc.nd rfl (Or.inl rfl) (pe_cl c__law_draw hr (by first | decide | omega) (by rfl) (pa_cons (pv 0) (pa_cons pe_int pa_nil))))
    (pss_cons (ps_if (pt_cmpR op_lt (pv 3) pe_int (nomark _)) (pss_one (ps_set (i := 4) sc.nd rfl (Or.inl rfl) (pe_cl c__law_row hr (by first | decide | omega) (by rfl) (pa_cons (pv 0) (pa_cons (pv 1) (pa_cons (pv 2) pa_nil)))))) (pss_one (ps_if (pt_cmpR op_lt (pv 3) pe_int (nomark _)) (pss_one (ps_set (i := 4) sc.nd rfl (Or.inl rfl) (pe_cl c__law_tame hr (by first | decide | omega) (by rfl) (pa_cons (pv 0) (pa_cons (pv 1) (pa_cons (pv 2) (pa_cons (pe_op op_add (pv 1) (pe_cl c__law_draw hr (by first | decide | omega) (by rfl) (pa_cons (pv 0) (pa_cons (pe_op op_mul pe_int (pv 1)) pa_nil)))) pa_nil))))))) (pss_one (ps_if (pt_cmpR op_lt (pv 3) pe_int (nomark _)) (pss_one (ps_set (i := 4) sc.nd rfl (Or.inl rfl) (pe_cl c__law_ring hr (by first | decide | omega) (by rfl) (pa_cons (pv 0) (pa_cons (pv 1) (pa_cons (pv 2) pa_nil)))))) (pss_cons (ps_set (i := 5) sc.nd rfl (Or.inl rfl) (pe_cl c__law_tame hr (by first | decide | omega) (by rfl) (pa_cons (pv 0) (pa_cons (pv 1) (pa_cons (pv 2) (pa_cons (pe_cl c__law_draw hr (by first | decide | omega) (by rfl) (pa_cons (pv 0) (pa_cons pe_int pa_nil))) pa_nil))))))
          (pss_one (ps_setLc (i := 4) (own := [("_law_tie", 6)]) (g := gName 6) (by rfl) sc.nd rfl rfl (sw_true rfl rfl rfl (by decide +kernel)) (pi_list (pv 5)) (blkOk_by (own := [("_law_tie", 6)]) (N := N__law_ties) (sc := (defScope s__law_ties)) (by decide +kernel)) (fun _ _ _ _ _ => (pg_name (i := 6) sc.nd rfl (by first | exact Or.inl rfl | exact Or.inr rfl))) (fun _ _ _ _ _ => pts_nil) (fun _ _ _ _ _ => (pe_tup (pa_cons (pe_ix (ixSq (F := K)) (pv 6) pe_int (fun _ _ => rfl)) (pa_cons (pe_ix (ixSq (F := K)) (pv 6) pe_int (fun _ _ => rfl)) (pa_cons (pe_op op_sub (pe_cl c__law_draw hr (by first | decide | omega) (by rfl) (pa_cons (pv 0) (pa_cons (pe_op op_add (pe_op op_mul pe_int (pv 2)) pe_int) pa_nil))) (pv 2)) pa_nil)))))))))))))
    (pss_cons (ps_if (PW.pt (pw_and (pt_cmpR (opNe (F := K) hu) (pv 4) (pe_lst pa_nil) (nomark _)) (pw_and1 (pt_cmpR (opEq (F := K) hu) (pe_cl c__law_draw hr (by first | decide | omega) (by rfl) (pa_cons (pv 0) (pa_cons pe_int pa_nil))) pe_int (nomark _))))) (pss_cons (ps_set (i := 7) sc.nd rfl (Or.inl rfl) (pe_cl c__law_pick hr (by first | decide | omega) (by rfl) (pa_cons (pv 0) (pa_cons (pv 4) pa_nil))))
      (pss_one (ps_expr (pe_bm PySem.F.plainAttrs_list PySem.F.slot_list_append PySem.F.type_list_append mt_append (pv 4) (pa_cons (pe_tup (pa_cons (pe_ix (ixSq (F := K)) (pv 7) pe_int (fun _ _ => rfl)) (pa_cons (pe_ix (ixSq (F := K)) (pv 7) pe_int (fun _ _ => rfl)) (pa_cons (pe_callB (call_max2 rfl) (by rfl) T.b_max (by decide +kernel) (pa_cons (pe_op op_sub pe_int (pv 2)) (pa_cons (pe_op op_sub (pe_ix (ixSq (F := K)) (pv 7) pe_int (fun _ _ => rfl)) (pe_cl c__law_draw hr (by first | decide | omega) (by rfl) (pa_cons (pv 0) (pa_cons pe_int pa_nil)))) pa_nil))) pa_nil)))) pa_nil))))) pss_nil)
    (pss_one (ps_ret (pe_cl c__law_mixed hr (by first | decide | omega) (by rfl) (pa_cons (pv 0) (pa_cons (pv 4) pa_nil)))))))), fun a c => ?_⟩
  rintro ds K' ⟨n, most, rfl, n1, n12, m1, m2, k⟩
  have nm := most_le n1 m1
  show wpS (Gh a c) _ [.spc (.ref a), .dat (en n), .dat (.int most), .no, .no, .no, .no, .no] _
  refine wpS_seq (wpS_set (wpE_draw rfl (wpE_int ⟨_, rfl, by decide, by decide, fun sh s0 s1 => ?_⟩)))
  show wpS (Gh a c) _ [.spc (.ref a), .dat (en n), .dat (.int most), .dat (.int sh), .no, .no, .no, .no] _
  refine wpS_seq (wpS.imp (E := ⟨fun ρ => ∃ (ts : List TieT) (x : Sl), ρ = [.spc (.ref a), .dat (en n), .dat (.int most), .dat (.int sh), .own (ts.map et), x, .no, .no] ∧ ts.length ≤ 50 ∧ ∀ t ∈ ts, okTT n most t, fun _ => False, fun _ => False, fun _ => False⟩) ?_ ?_ (fun _ z => z.elim) (fun _ z => z.elim) (fun _ z => z.elim))
  · refine wpS_if (wpT_test (wpE_op opD_B0 (wpE_var rfl (wpE_int ⟨_, _, rfl, rfl, _, rfl, ?_⟩))))
    by_cases h2 : sh < 2
    · rw [decide_eq_true h2, if_pos rfl]
      exact wpS_setN (lt_ rfl) (wpN_callE rfl (wpA_cons (wpE_var rfl (wpA_cons (wpE_var rfl (wpA_nil ⟨[_, _], rfl, n, most, rfl, n1, n12, m1, m2, fun ts tl tok => ⟨_, rfl, ts, _, rfl, by omega, tok⟩⟩))))))
    rw [decide_eq_false h2, if_neg Bool.false_ne_true]
    refine wpS_if (wpT_test (wpE_op opD_B0 (wpE_var rfl (wpE_int ⟨_, _, rfl, rfl, _, rfl, ?_⟩))))
    by_cases h4 : sh < 4
    · rw [decide_eq_true h4, if_pos rfl]
      refine wpS_setN (lt_ rfl) (wpN_callE rfl (wpA_cons (wpE_var rfl (wpA_cons (wpE_var rfl (wpA_cons (wpE_op opD_I0 (wpE_var rfl (wpE_draw rfl (wpE_op opD_I (wpE_int (wpE_var rfl ⟨_, _, rfl, rfl, .inl (by decide), _, rfl, by omega, by omega, fun r r0 r1 => ⟨_, _, rfl, rfl, wpA_nil ⟨[_, _, _], rfl, n, most, n + r.toNat, ?_, n1, n12, m1, m2, by omega, fun ts tl tok => ⟨_, rfl, ts, _, rfl, by omega, tok⟩⟩⟩⟩))))))))))))
      show [en n, PyData.int most, PyData.int ((n : Int) + r)] = [en n, PyData.int most, PyData.int ((n + r.toNat : Nat) : Int)]
      rw [show ((n + r.toNat : Nat) : Int) = (n : Int) + r by omega]
    rw [decide_eq_false h4, if_neg Bool.false_ne_true]
    refine wpS_if (wpT_test (wpE_op opD_B0 (wpE_var rfl (wpE_int ⟨_, _, rfl, rfl, _, rfl, ?_⟩))))
    by_cases h6 : sh < 6
    · rw [decide_eq_true h6, if_pos rfl]
      exact wpS_setN (lt_ rfl) (wpN_callE rfl (wpA_cons (wpE_var rfl (wpA_cons (wpE_var rfl (wpA_nil ⟨[_, _], rfl, n, most, rfl, n1, n12, m1, m2, fun ts tl tok => ⟨_, rfl, ts, _, rfl, by omega, tok⟩⟩))))))
    rw [decide_eq_false h6, if_neg Bool.false_ne_true]
    refine wpS_seq (wpS_setN (lt_ rfl) (wpN_callE rfl (wpA_cons (wpE_var rfl (wpA_cons (wpE_var rfl (wpA_cons (wpE_draw rfl (wpE_int ⟨_, rfl, by decide, by decide, fun r r0 r1 => wpA_nil ⟨[_, _, _], rfl, n, most, r.toNat, ?_, n1, n12, m1, m2, by omega, fun us ul uok => ⟨_, rfl, ?_⟩⟩⟩)))))))))
    · show _ = [en n, PyData.int most, PyData.int ((r.toNat : Nat) : Int)]
      rw [Int.toNat_of_nonneg r0]
    show wpS (Gh a c) _ [.spc (.ref a), .dat (en n), .dat (.int most), .dat (.int sh), .no, .own (us.map et), .no, .no] _
    refine wpS_setN (lt_ rfl) (wpN_lc tg_name (by decide) rfl (wpI_own (wpL_var rfl ⟨by rw [List.length_map]; omega, fun i acc => ∃ vs : List TieT, acc = vs.map et ∧ vs.length = i ∧ ∀ t ∈ vs, okTT n most t, ⟨[], rfl, rfl, nofun⟩, ?_, ?_⟩)))
    · rintro i acc d hi e ⟨vs, rfl, vl, vok⟩
      obtain ⟨t, ht, rfl⟩ := map_get e
      obtain ⟨⟨e1, e2, e3, _, _⟩, _, _⟩ := uok t (List.mem_of_getElem? ht)
      refine ⟨_, rfl, wpT_yes ?_⟩
      rw [if_pos rfl]
      refine wpE_tup (wpA_cons (wpE_op opD_ix (wpE_var rfl (wpE_int ⟨_, _, _, rfl, rfl, rfl, wpA_cons (wpE_op opD_ix (wpE_var rfl (wpE_int ⟨_, _, _, rfl, rfl, rfl, wpA_cons (wpE_op opD_I0 (wpE_draw rfl (wpE_op opD_I0 (wpE_op opD_I (wpE_int (wpE_var rfl ⟨_, _, rfl, rfl, .inl (by decide), wpE_int ⟨_, _, rfl, rfl, _, rfl, by omega, by omega, fun r r0 r1 => wpE_var rfl ⟨_, _, rfl, rfl, wpA_nil ⟨[_, _, _], rfl, le_ rfl, vs ++ [(t.1, t.2.1, r - most)], ?_, by rw [List.length_append, vl]; rfl, all_snoc vok ⟨⟨e1, e2, e3, ?_, ?_⟩, ?_, ?_⟩⟩⟩⟩⟩))))))⟩)))⟩))))
      · rw [← map_snoc]; rfl
      · show -1000000 ≤ r - most; omega
      · show r - most ≤ 1000000; omega
      · show -((n : Int) * most + 2) ≤ r - most; omega
      · show r - most ≤ most; omega
    · rintro acc ⟨vs, rfl, vl, vok⟩
      rw [List.length_map] at vl
      exact ⟨vs, _, rfl, by omega, vok⟩
  rintro ρ' ⟨ts, x, rfl, tl, tok⟩
  have fin : ∀ (us : List TieT) (z : Sl), us.length ≤ 60 → (∀ t ∈ us, okTT n most t) → wpS (Gh a c) (tRet (tCall SpMix [] E0 (tCons (tVar 0) (tCons (tVar 4) tNil)))) [.spc (.ref a), .dat (en n), .dat (.int most), .dat (.int sh), .own (us.map et), x, .no, z] (DEh K') := fun us z ul uok => by
    refine wpS_retN (wpN_mixed rfl (wpL.R (wpL_var rfl ⟨by rw [List.length_map]; omega, fun es pm => ?_⟩)))
    obtain ⟨vs, rfl, pv⟩ := perm_of_map pm rfl
    exact k vs (by rw [pv.length_eq]; exact ul) fun t ht => uok t (pv.mem_iff.mp ht)
  refine wpS_seq (wpS_if (wpT_and (wpT_neO rfl (shaped_ets ts) ?_)))
  rw [map_nil]
  by_cases hz : ts = []
  · rw [decide_eq_true hz, Bool.not_true, if_neg Bool.false_ne_true]
    exact wpS_nil (fin ts _ (by omega) tok)
  rw [decide_eq_false hz, Bool.not_false, if_pos rfl]
  refine wpT_test (wpE_op opD_eq (wpE_draw rfl (wpE_int ⟨_, rfl, by decide, by decide, fun b b0 b1 => wpE_int ⟨rfl, rfl, _, rfl, ?_⟩⟩)))
  cases PyData.eqv (.int b) (.int 0) with
  | false => exact wpS_nil (fin ts _ (by omega) tok)
  | true =>
    rw [if_pos rfl]
    have l0 : 0 < ts.length := List.length_pos_iff.mpr hz
    refine wpS_seq (wpS_set (wpE_pick rfl (wpL.R (wpL_var rfl ⟨by rw [List.length_map]; exact l0, by rw [List.length_map]; omega, fun d hd => ?_⟩))))
    obtain ⟨t, ht, rfl⟩ := List.mem_map.mp hd
    obtain ⟨⟨h1, h2, h3, h4, h5⟩, h6, h7⟩ := tok t ht
    show wpS (Gh a c) _ [.spc (.ref a), .dat (en n), .dat (.int most), .dat (.int sh), .own (ts.map et), x, .no, .dat (et t)] _
    refine wpS_app rfl (by rw [List.length_map]; omega) (wpE_tup (wpA_cons (wpE_op opD_ix (wpE_var rfl (wpE_int ⟨_, _, _, rfl, rfl, rfl, wpA_cons (wpE_op opD_ix (wpE_var rfl (wpE_int ⟨_, _, _, rfl, rfl, rfl, wpA_cons (wpE_max2 (wpE_op opD_I0 (wpE_int (wpE_var rfl ⟨_, _, rfl, rfl, _, rfl, wpE_op opD_I0 (wpE_op opD_ix (wpE_var rfl (wpE_int ⟨_, _, _, rfl, rfl, rfl, wpE_draw rfl (wpE_int ⟨_, rfl, by decide, by decide, fun r r0 r1 => ⟨_, _, rfl, rfl, _, rfl, wpA_nil ⟨[_, _, _], rfl, le_ rfl, ?_⟩⟩⟩)⟩)))⟩))))⟩)))⟩)))))
    generalize hx : (if t.2.2 - r > 0 - most then t.2.2 - r else 0 - most) = x2
    have hb : -most - 1 ≤ x2 ∧ -1000000 ≤ x2 ∧ x2 ≤ most := by rw [← hx]; split <;> omega
    have e2 : ts.map et ++ [.tuple [en t.1, en t.2.1, .int x2]] = (ts ++ [(t.1, t.2.1, x2)]).map et := map_snoc (f := et) (x := (t.1, t.2.1, x2))
    show wpS (Gh a c) _ [.spc (.ref a), .dat (en n), .dat (.int most), .dat (.int sh), .own (ts.map et ++ [.tuple [en t.1, en t.2.1, .int x2]]), x, .no, .dat (et t)] _
    rw [e2]
    exact fin _ _ (by rw [List.length_append, List.length_singleton]; omega) (all_snoc tok ⟨⟨h1, h2, h3, hb.2.1, show x2 ≤ 1000000 by omega⟩, show -((n : Int) * most + 2) ≤ x2 by omega, hb.2.2⟩)
end

end K42
/-! text P15 -/
set_option Elab.async false
set_option linter.all false
set_option maxRecDepth 100000
set_option maxHeartbeats 4000000
namespace K42
open PySem PySem.Spec PyProof.Rows L2

/-! The law's draws of batches; a round. -/
section
variable {P : Program} {w : World} {K : PySem.W.Frag} {mg : Str → Option Value} {base : Heap}
theorem noOwn1 {ρ : Rho} {i : Nat} {x : Sl} (h : ρ[i]? = some x) (hx : ∀ v, x ≠ Sl.own v) : noOwn ρ [i] = true := by
  show ((match ρ[i]? with | some (.own _) => false | _ => true) && true) = true
  rw [h]
  cases x with
  | own v => exact absurd rfl (hx v)
  | _ => rfl
theorem one_rep (k : Nat) : (List.replicate k [PyData.int 1]).flatten = (List.replicate k 1).map en := by
  induction k with
  | zero => rfl
  | succ k ih => rw [List.replicate_succ, List.flatten_cons, ih, List.replicate_succ]; rfl
def p_law_batches (ds : List PD) (K : Sl → Prop) : Prop := ds = [] ∧ ∀ bs, okBs bs → K (.dat (encB bs))
abbrev s__law_batches : Stmt := top 67
abbrev N__law_batches : List Str := ["_law_heap_here", "_law_way", "_law_turn"]
theorem sc__law_batches : FnScope N__law_batches ["_law_heap_here"] (defScope s__law_batches) := ⟨rfl, rfl, rfl, by decide +kernel, rfl, by decide +kernel, by decide +kernel⟩

theorem ok__law_batches (T : Tx mg) (D : Dn K mg "_law_batches" s__law_batches) (c__law_draw : Cl P w K mg base 1 "_law_draw" (SpDraw)) (c__law_pick : Cl P w K mg base 2 "_law_pick" (SpPick)) : Cl P w K mg base 3 "_law_batches" (SpE (p_law_batches)) := by
  have sc := sc__law_batches
  refine cl_heap D sc (fun _ _ _ _ _ _ us hl => match us, hl with | [_], _ => rfl) (fun ds K h => by obtain ⟨rfl, _⟩ := h; rfl) fun f cdv A outer s H E hr => ?_
  have hu := hr.units
  refine ⟨_, (pss_cons (ps_set (i := 1) sc.nd rfl (Or.inl rfl) (pe_cl c__law_draw hr (by first | decide | omega) (by rfl) (pa_cons (pv 0) (pa_cons pe_int pa_nil))))
    (pss_cons (ps_if (pt_cmpR (opEq (F := K) hu) (pv 1) pe_int (nomark _)) (pss_one (ps_ret (pe_op (op_repA (F := K)) (pe_tup (pa_cons pe_int pa_nil)) (pe_cl c__law_pick hr (by first | decide | omega) (by rfl) (pa_cons (pv 0) (pa_cons (pe_lst (pa_cons pe_int (pa_cons pe_int (pa_cons pe_int (pa_cons pe_int (pa_cons pe_int (pa_cons pe_int (pa_cons pe_int pa_nil)))))))) pa_nil)))))) pss_nil)
    (pss_cons (ps_if (pt_cmpR (opEq (F := K) hu) (pv 1) pe_int (nomark _)) (pss_one (ps_ret (pe_tup (pa_cons (pe_cl c__law_pick hr (by first | decide | omega) (by rfl) (pa_cons (pv 0) (pa_cons (pe_lst (pa_cons pe_int (pa_cons pe_int (pa_cons pe_int (pa_cons pe_int (pa_cons pe_int (pa_cons pe_int (pa_cons pe_int pa_nil)))))))) pa_nil))) pa_nil)))) pss_nil)
    (pss_cons (ps_if (pt_cmpR (opEq (F := K) hu) (pv 1) pe_int (nomark _)) (pss_one (ps_ret (pe_callTy call_tuple_of (by rfl) T.b_tuple (by decide +kernel) (pa_cons (pe_lc (own := [("_law_turn", 2)]) (g := gName 2) (by rfl) sc.nd (pi_range1 (by rfl) T.b_range (pa_cons (pe_cl c__law_pick hr (by first | decide | omega) (by rfl) (pa_cons (pv 0) (pa_cons (pe_lst (pa_cons pe_int (pa_cons pe_int (pa_cons pe_int pa_nil)))) pa_nil))) pa_nil)) (blkOk_by (own := [("_law_turn", 2)]) (N := N__law_batches) (sc := (defScope s__law_batches)) (by decide +kernel)) (fun _ _ _ _ _ => (pg_name (i := 2) sc.nd rfl (by first | exact Or.inl rfl | exact Or.inr rfl))) (fun _ _ _ _ _ => pts_nil) (fun _ _ _ _ _ => (pe_cl c__law_pick hr (by first | decide | omega) (by rfl) (pa_cons (pv 0) (pa_cons (pe_lst (pa_cons pe_int (pa_cons pe_int (pa_cons pe_int (pa_cons pe_int pa_nil))))) pa_nil))))) pa_nil)))) pss_nil)
    (pss_one (ps_ret (pe_callTy call_tuple_of (by rfl) T.b_tuple (by decide +kernel) (pa_cons (pe_lc (own := [("_law_turn", 2)]) (g := gName 2) (by rfl) sc.nd (pi_range1 (by rfl) T.b_range (pa_cons (pe_op op_add pe_int (pe_cl c__law_draw hr (by first | decide | omega) (by rfl) (pa_cons (pv 0) (pa_cons pe_int pa_nil)))) pa_nil)) (blkOk_by (own := [("_law_turn", 2)]) (N := N__law_batches) (sc := (defScope s__law_batches)) (by decide +kernel)) (fun _ _ _ _ _ => (pg_name (i := 2) sc.nd rfl (by first | exact Or.inl rfl | exact Or.inr rfl))) (fun _ _ _ _ _ => pts_nil) (fun _ _ _ _ _ => (pe_op op_add pe_int (pe_cl c__law_draw hr (by first | decide | omega) (by rfl) (pa_cons (pv 0) (pa_cons pe_int pa_nil)))))) pa_nil)))))))), fun a c => ?_⟩
  rintro ds K' ⟨rfl, k⟩
  show wpS (Gh a c) _ [.spc (.ref a), .no, .no] _
  refine wpS_seq (wpS_set (wpE_draw rfl (wpE_int ⟨_, rfl, by decide, by decide, fun wy s0 s1 => ?_⟩)))
  show wpS (Gh a c) _ [.spc (.ref a), .dat (.int wy), .no] _
  refine wpS_seq (wpS_if (wpT_test (wpE_op opD_eq (wpE_var rfl (wpE_int ⟨rfl, rfl, _, rfl, ?_⟩)))))
  cases PyData.eqv (.int wy) (.int 0) with
  | true =>
    rw [if_pos rfl]
    refine wpS_seq (wpS_ret (wpE_op opD_repA (wpE_tup (wpA_cons (wpE_int (wpA_nil ⟨[_], rfl, le_ rfl, wpE_pick rfl (wpN.R (wpN_lst (wpA_cons (wpE_int (wpA_cons (wpE_int (wpA_cons (wpE_int (wpA_cons (wpE_int (wpA_cons (wpE_int (wpA_cons (wpE_int (wpA_cons (wpE_int (wpA_nil ⟨[_, _, _, _, _, _, _], rfl, le_ rfl, lt_ rfl, le_ rfl, fun d hd => ?_⟩)))))))))))))))))⟩))))))
    obtain ⟨p, rfl, hp⟩ : ∃ p : Nat, d = en p ∧ p ≤ 60 := by
      simp only [List.mem_cons, List.not_mem_nil, or_false] at hd
      rcases hd with rfl | rfl | rfl | rfl | rfl | rfl | rfl
      · exact ⟨0, rfl, by decide⟩
      · exact ⟨1, rfl, by decide⟩
      · exact ⟨2, rfl, by decide⟩
      · exact ⟨3, rfl, by decide⟩
      · exact ⟨4, rfl, by decide⟩
      · exact ⟨5, rfl, by decide⟩
      · exact ⟨60, rfl, by decide⟩
    refine ⟨_, _, rfl, rfl, by simp, by omega, by omega, le_ rfl, ?_⟩
    show K' (.dat (.tuple (List.replicate (((p : Nat) : Int)).toNat [PyData.int 1]).flatten))
    rw [Int.toNat_natCast, one_rep]
    exact k _ ⟨by rw [List.length_replicate]; exact hp, fun b hb => by rw [List.eq_of_mem_replicate hb]; omega⟩
  | false =>
  rw [if_neg Bool.false_ne_true]
  refine wpS_nil (wpS_seq (wpS_if (wpT_test (wpE_op opD_eq (wpE_var rfl (wpE_int ⟨rfl, rfl, _, rfl, ?_⟩))))))
  cases PyData.eqv (.int wy) (.int 1) with
  | true =>
    rw [if_pos rfl]
    refine wpS_seq (wpS_ret (wpE_tup (wpA_cons (wpE_pick rfl (wpN.R (wpN_lst (wpA_cons (wpE_int (wpA_cons (wpE_int (wpA_cons (wpE_int (wpA_cons (wpE_int (wpA_cons (wpE_int (wpA_cons (wpE_int (wpA_cons (wpE_int (wpA_nil ⟨[_, _, _, _, _, _, _], rfl, le_ rfl, lt_ rfl, le_ rfl, fun d hd => wpA_nil ⟨[_], rfl, le_ rfl, ?_⟩⟩)))))))))))))))))))))
    obtain ⟨p, rfl, hp, hp2⟩ : ∃ p : Nat, d = en p ∧ p ≤ 100 ∧ 1 ≤ p := by
      simp only [List.mem_cons, List.not_mem_nil, or_false] at hd
      rcases hd with rfl | rfl | rfl | rfl | rfl | rfl | rfl
      · exact ⟨1, rfl, by decide, by decide⟩
      · exact ⟨2, rfl, by decide, by decide⟩
      · exact ⟨3, rfl, by decide, by decide⟩
      · exact ⟨4, rfl, by decide, by decide⟩
      · exact ⟨6, rfl, by decide, by decide⟩
      · exact ⟨11, rfl, by decide, by decide⟩
      · exact ⟨100, rfl, by decide, by decide⟩
    exact k [p] ⟨le_ rfl, fun b hb => by rw [List.mem_singleton.mp hb]; exact ⟨hp2, hp⟩⟩
  | false =>
  rw [if_neg Bool.false_ne_true]
  refine wpS_nil (wpS_seq (wpS_if (wpT_test (wpE_op opD_eq (wpE_var rfl (wpE_int ⟨rfl, rfl, _, rfl, ?_⟩))))))
  cases PyData.eqv (.int wy) (.int 2) with
  | true =>
    rw [if_pos rfl]
    refine wpS_seq (wpS_ret (wpE_tuple (wpN.Q (wpN_lc tg_name (by decide) rfl (wpI_rng1 (wpA_cons (wpE_pick rfl (wpN.R (wpN_lst (wpA_cons (wpE_int (wpA_cons (wpE_int (wpA_cons (wpE_int (wpA_nil ⟨[_, _, _], rfl, le_ rfl, lt_ rfl, le_ rfl, fun d hd => ?_⟩))))))))))))))))
    obtain ⟨p, rfl, hp⟩ : ∃ p : Nat, d = en p ∧ p ≤ 60 := by
      simp only [List.mem_cons, List.not_mem_nil, or_false] at hd
      rcases hd with rfl | rfl | rfl
      · exact ⟨2, rfl, by decide⟩
      · exact ⟨3, rfl, by decide⟩
      · exact ⟨60, rfl, by decide⟩
    refine wpA_nil ⟨_, rfl, by omega, by omega, by omega, fun i acc => ∃ bs : List Nat, acc = bs.map en ∧ bs.length = i ∧ ∀ b ∈ bs, 1 ≤ b ∧ b ≤ 100, ⟨[], rfl, rfl, nofun⟩, ?_, ?_⟩
    · rintro i acc d hi e ⟨bs, rfl, bl, bok⟩
      cases e
      refine ⟨_, rfl, wpT_yes ?_⟩
      rw [if_pos rfl]
      refine wpE_pick rfl (wpN.R (wpN_lst (wpA_cons (wpE_int (wpA_cons (wpE_int (wpA_cons (wpE_int (wpA_cons (wpE_int (wpA_nil ⟨[_, _, _, _], rfl, le_ rfl, lt_ rfl, le_ rfl, fun d hd => ?_⟩)))))))))))
      obtain ⟨q, rfl, hq, hq2⟩ : ∃ p : Nat, d = en p ∧ p ≤ 100 ∧ 1 ≤ p := by
        simp only [List.mem_cons, List.not_mem_nil, or_false] at hd
        rcases hd with rfl | rfl | rfl | rfl
        · exact ⟨1, rfl, by decide, by decide⟩
        · exact ⟨2, rfl, by decide, by decide⟩
        · exact ⟨3, rfl, by decide, by decide⟩
        · exact ⟨100, rfl, by decide, by decide⟩
      exact ⟨bs ++ [q], map_snoc, by rw [List.length_append, bl]; rfl, all_snoc bok ⟨hq2, hq⟩⟩
    · rintro acc ⟨bs, rfl, bl, bok⟩
      exact k bs ⟨by omega, bok⟩
  | false =>
  rw [if_neg Bool.false_ne_true]
  refine wpS_nil (wpS_ret (wpE_tuple (wpN.Q (wpN_lc tg_name (by decide) rfl (wpI_rng1 (wpA_cons (wpE_op opD_I0 (wpE_int (wpE_draw rfl (wpE_int ⟨_, rfl, by decide, by decide, fun r r0 r1 => ⟨_, _, rfl, rfl, wpA_nil ⟨_, rfl, by omega, by omega, by omega, fun i acc => ∃ bs : List Nat, acc = bs.map en ∧ bs.length = i ∧ ∀ b ∈ bs, 1 ≤ b ∧ b ≤ 100, ⟨[], rfl, rfl, nofun⟩, ?_, ?_⟩⟩⟩))))))))))
  · rintro i acc d hi e ⟨bs, rfl, bl, bok⟩
    cases e
    refine ⟨_, rfl, wpT_yes ?_⟩
    rw [if_pos rfl]
    refine wpE_op opD_I0 (wpE_int (wpE_draw rfl (wpE_int ⟨_, rfl, by decide, by decide, fun q q0 q1 => ⟨_, _, rfl, rfl, ?_⟩⟩)))
    obtain ⟨m, rfl⟩ := nat_of q0
    refine ⟨bs ++ [1 + m], ?_, by rw [List.length_append, bl]; rfl, all_snoc bok (by omega)⟩
    rw [← map_snoc]; rfl
  · rintro acc ⟨bs, rfl, bl, bok⟩
    exact k bs ⟨by omega, bok⟩
def p_law_round (ds : List PD) (K : Sl → Prop) : Prop := ∃ many : Nat, ds = [en many] ∧ 4 ≤ many ∧ many ≤ 12 ∧ ∀ (ts : List TieT) (o1 o2 : Nat) (x : Int), ts.length ≤ 60 → (∀ t ∈ ts, okT many t) → o1 < many → o2 < many → -1000 ≤ x → x ≤ 1000 → K (.dat (.tuple [.list (ts.map et), .tuple [en o1, en o2], .int x]))
abbrev s__law_round : Stmt := top 69
abbrev N__law_round : List Str := ["_law_heap_here", "_law_many", "_law_order", "_law_found", "_law_size", "_law_over", "_law_at", "_law_weight", "_law_last", "_law_begin", "_law_end", "_law_direct"]
theorem sc__law_round : FnScope N__law_round ["_law_heap_here", "_law_many"] (defScope s__law_round) := ⟨rfl, rfl, rfl, by decide +kernel, rfl, by decide +kernel, by decide +kernel⟩

theorem ok__law_round (T : Tx mg) (D : Dn K mg "_law_round" s__law_round) (c__law_draw : Cl P w K mg base 1 "_law_draw" (SpDraw)) (c__law_pick : Cl P w K mg base 2 "_law_pick" (SpPick)) (c__law_mixed : Cl P w K mg base 2 "_law_mixed" (SpMix)) : Cl P w K mg base 3 "_law_round" (SpE (p_law_round)) := by
  have sc := sc__law_round
  refine cl_heap D sc (fun _ _ _ _ _ _ us hl => match us, hl with | [_, _], _ => rfl) (fun ds K h => by obtain ⟨_, rfl, _⟩ := h; rfl) fun f cdv A outer s H E hr => ?_
  have hu := hr.units
  refine ⟨_, (pss_cons (ps_asg (pe_tup (pa_cons (pe_cl c__law_mixed hr (by first | decide | omega) (by rfl) (pa_cons (pv 0) (pa_cons (pe_listRg rfl (by rfl) T.b_list (prg_1 (by rfl) T.b_range (pv 1))) pa_nil))) (pa_cons (pe_lst pa_nil) (pa_cons (pe_op op_sub (pv 1) pe_int) pa_nil)))) (pg_tup rfl (pgs_cons (pg_name (i := 2) sc.nd rfl (by first | exact Or.inl rfl | exact Or.inr rfl)) (pgs_cons (pg_name (i := 3) sc.nd rfl (by first | exact Or.inl rfl | exact Or.inr rfl)) (pgs_cons (pg_name (i := 4) sc.nd rfl (by first | exact Or.inl rfl | exact Or.inr rfl)) pgs_nil)))))
    (pss_cons (ps_set (i := 5) sc.nd rfl (Or.inl rfl) (pe_cl c__law_pick hr (by first | decide | omega) (by rfl) (pa_cons (pv 0) (pa_cons (pe_lst (pa_cons pe_int (pa_cons pe_int (pa_cons pe_int pa_nil)))) pa_nil))))
    (pss_cons (ps_for PassesOwn.never rfl (pi_range1 (by rfl) T.b_range (pa_cons (pv 4) pa_nil)) (pg_name (i := 6) sc.nd rfl (by first | exact Or.inl rfl | exact Or.inr rfl))
      (pss_cons (ps_set (i := 7) sc.nd rfl (Or.inl rfl) (pe_ifExp (pt_cmpR op_lt (pv 6) (pe_op op_sub (pv 4) pe_int) (nomark _)) (pe_op op_sub (pe_cl c__law_draw hr (by first | decide | omega) (by rfl) (pa_cons (pv 0) (pa_cons pe_int pa_nil))) pe_int) (pv 5)))
      (pss_cons (ps_expr (pe_bm PySem.F.plainAttrs_list PySem.F.slot_list_append PySem.F.type_list_append mt_append (pv 3) (pa_cons (pe_tup (pa_cons (pe_ix (ixSq (F := K)) (pv 2) (pe_op op_add pe_int (pv 6)) (fun _ _ => rfl)) (pa_cons (pe_ix (ixSq (F := K)) (pv 2) (pe_op op_add pe_int (pe_op op_mod (pe_callTy call_int1 (by rfl) T.b_int (by decide +kernel) (pa_cons (pe_op op_add (pv 6) pe_int) pa_nil)) (pv 4))) (fun _ _ => rfl)) (pa_cons (pv 7) pa_nil)))) pa_nil)))
      (pss_one (ps_set (i := 5) sc.nd rfl (Or.inl rfl) (pe_op op_sub (pv 5) (pv 7)))))))
    (pss_cons (ps_par3 (i := 8) (j := 9) (l := 10) (by rfl) sc.nd rfl rfl rfl (by decide) (by decide) (by decide) rfl rfl rfl (pa_cons (pe_cl c__law_draw hr (by first | decide | omega) (by rfl) (pa_cons (pv 0) (pa_cons (pv 4) pa_nil))) (pa_cons (pe_op op_sub (pe_cl c__law_draw hr (by first | decide | omega) (by rfl) (pa_cons (pv 0) (pa_cons pe_int pa_nil))) pe_int) (pa_cons (pe_op op_sub (pe_cl c__law_draw hr (by first | decide | omega) (by rfl) (pa_cons (pv 0) (pa_cons pe_int pa_nil))) pe_int) pa_nil))) (by rfl))
    (pss_cons (ps_set (i := 11) sc.nd rfl (Or.inl rfl) (pe_op op_add (pe_op op_add (pv 9) (pe_callB (cr_sum rfl) (by rfl) T.b_sum (by decide +kernel) (pa_cons (pe_lc (own := [("_law_at", 6)]) (g := gName 6) (by rfl) sc.nd (pi_range1 (by rfl) T.b_range (pa_cons (pv 8) pa_nil)) (blkOk_by (own := [("_law_at", 6)]) (N := N__law_round) (sc := (defScope s__law_round)) (by decide +kernel)) (fun _ _ _ _ _ => (pg_name (i := 6) sc.nd rfl (by first | exact Or.inl rfl | exact Or.inr rfl))) (fun _ _ _ _ _ => pts_nil) (fun _ _ _ _ _ => (pe_ix (ixSq (F := K)) (pe_ix (ixSq (F := K)) (pv 3) (pv 6) (fun _ _ => rfl)) pe_int (fun _ _ => rfl)))) pa_nil))) (pv 10)))
    (pss_cons (ps_set (i := 3) sc.nd rfl (Or.inr rfl) (pe_op op_cat (pv 3) (pe_lst (pa_cons (pe_tup (pa_cons (pe_ix (ixSq (F := K)) (pv 2) pe_int (fun _ _ => rfl)) (pa_cons (pe_ix (ixSq (F := K)) (pv 2) pe_int (fun _ _ => rfl)) (pa_cons (pv 9) pa_nil)))) (pa_cons (pe_tup (pa_cons (pe_ix (ixSq (F := K)) (pv 2) (pe_op op_add pe_int (pv 8)) (fun _ _ => rfl)) (pa_cons (pe_ix (ixSq (F := K)) (pv 2) pe_int (fun _ _ => rfl)) (pa_cons (pv 10) pa_nil)))) pa_nil)))))
    (pss_one (ps_ret (pe_tup (pa_cons (pe_cl c__law_mixed hr (by first | decide | omega) (by rfl) (pa_cons (pv 0) (pa_cons (pv 3) pa_nil))) (pa_cons (pe_tup (pa_cons (pe_ix (ixSq (F := K)) (pv 2) pe_int (fun _ _ => rfl)) (pa_cons (pe_ix (ixSq (F := K)) (pv 2) pe_int (fun _ _ => rfl)) pa_nil))) (pa_cons (pv 11) pa_nil)))))))))))), fun a c => ?_⟩
  rintro ds K' ⟨n, rfl, n1, n12, k⟩
  show wpS (Gh a c) _ [.spc (.ref a), .dat (en n), .no, .no, .no, .no, .no, .no, .no, .no, .no, .no] _
  refine wpS_seq (wpS_asg3 (lt_ rfl) (lt_ rfl) (lt_ rfl) (wpN.x (wpN_mixed rfl (wpN.R (wpN_listRg (wpE_var rfl ⟨n, rfl, by omega, ?_, fun es pm => ?_⟩))))))
  · rw [List.length_map, List.length_range]; omega
  obtain ⟨os, rfl, od⟩ := Ord.of pm
  have ol := od.len
  refine wpN.x (wpN_lst (wpA_nil ⟨[], rfl, le_ rfl, wpE.x (wpE_op opD_I0 (wpE_var rfl (wpE_int ⟨_, _, rfl, rfl, ?_⟩)))⟩))
  obtain ⟨m, rfl⟩ : ∃ m, n = m + 2 := ⟨n - 2, by omega⟩
  rw [show ((m + 2 : Nat) : Int) - 2 = (m : Int) by omega]
  show wpS (Gh a c) _ [.spc (.ref a), .dat (en (m + 2)), .own (os.map en), .own [], .dat (en m), .no, .no, .no, .no, .no, .no, .no] _
  refine wpS_seq (wpS_set (wpE_pick rfl (wpN.R (wpN_lst (wpA_cons (wpE_int (wpA_cons (wpE_int (wpA_cons (wpE_int (wpA_nil ⟨[_, _, _], rfl, le_ rfl, lt_ rfl, le_ rfl, fun d hd => ?_⟩)))))))))))
  obtain ⟨v, rfl, v0, v1⟩ : ∃ p : Int, d = .int p ∧ 0 ≤ p ∧ p ≤ 2 := by
    simp only [List.mem_cons, List.not_mem_nil, or_false] at hd
    rcases hd with rfl | rfl | rfl
    · exact ⟨1, rfl, by decide, by decide⟩
    · exact ⟨1, rfl, by decide, by decide⟩
    · exact ⟨2, rfl, by decide, by decide⟩
  show wpS (Gh a c) _ [.spc (.ref a), .dat (en (m + 2)), .own (os.map en), .own [], .dat (en m), .dat (.int v), .no, .no, .no, .no, .no, .no] _
  refine wpS_seq (wpS_for tg_name (wpI_rng1 (wpA_cons (wpE_var rfl (wpA_nil ⟨_, rfl, by omega, by omega, fun i ρ => ∃ (ts : List TieT) (u : Int) (x y : Sl), ρ = [.spc (.ref a), .dat (en (m + 2)), .own (os.map en), .own (ts.map et), .dat (en m), .dat (.int u), x, y, .no, .no, .no, .no] ∧ ts.length = i ∧ (∀ t ∈ ts, okE (m + 2) t ∧ -50 ≤ t.2.2 ∧ t.2.2 ≤ 50) ∧ (i < m → -4 * (i : Int) ≤ u ∧ u ≤ 2 + 4 * (i : Int)) ∧ ∀ v, x ≠ .own v, ⟨[], _, _, _, rfl, rfl, nofun, fun _ => ⟨by omega, by omega⟩, nofun⟩, ?_, ?_⟩)))))
  · rintro i d ρ' hi e ⟨ts, u, x, y, rfl, tl, tok, ub, _⟩
    cases e
    have im : i < m := by omega
    obtain ⟨u0, u1⟩ := ub im
    refine ⟨_, rfl, ?_⟩
    show wpS (Gh a c) _ [.spc (.ref a), .dat (en (m + 2)), .own (os.map en), .own (ts.map et), .dat (en m), .dat (.int u), .dat (en i), y, .no, .no, .no, .no] _
    refine wpS_seq (wpS_set (wpE.imp (K := fun d => ∃ q : Int, d = .int q ∧ -50 ≤ q ∧ q ≤ 50 ∧ (i + 1 < m → -4 ≤ q ∧ q ≤ 4)) ?_ ?_))
    · refine wpE_if (wpT_test (wpE_op opD_B0 (wpE_var rfl (wpE_op opD_I0 (wpE_var rfl (wpE_int ⟨_, _, rfl, rfl, _, _, rfl, rfl, _, rfl, ?_⟩))))))
      by_cases h : (i : Int) < (m : Int) - 1
      · rw [decide_eq_true h, if_pos rfl]
        exact wpE_op opD_I0 (wpE_draw rfl (wpE_int ⟨_, rfl, by decide, by decide, fun r r0 r1 => wpE_int ⟨_, _, rfl, rfl, _, rfl, by omega, by omega, fun _ => ⟨by omega, by omega⟩⟩⟩))
      · rw [decide_eq_false h, if_neg Bool.false_ne_true]
        exact wpE_var rfl ⟨u, rfl, by omega, by omega, fun z => absurd z (by omega)⟩
    rintro d ⟨q, rfl, q0, q1, q2⟩
    show wpS (Gh a c) _ [.spc (.ref a), .dat (en (m + 2)), .own (os.map en), .own (ts.map et), .dat (en m), .dat (.int u), .dat (en i), .dat (.int q), .no, .no, .no, .no] _
    obtain ⟨j, hj, hj2, hj3⟩ : ∃ j : Nat, 2 + ((i : Int) + 1) % (m : Int) = (j : Int) ∧ j < m + 2 ∧ 2 + i ≠ j := by
      refine ⟨2 + (i + 1) % m, by push_cast; rfl, by have := Nat.mod_lt (i + 1) (show m > 0 by omega); omega, ?_⟩
      by_cases h : i + 1 < m
      · rw [Nat.mod_eq_of_lt h]; omega
      · rw [show i + 1 = m by omega, Nat.mod_self]; omega
    have g1 := ord_get (os := os) (k := 2 + i) (by omega)
    have g2 := ord_get (os := os) (k := j) (by omega)
    refine wpS_seq (wpS_app rfl (by rw [List.length_map]; omega) (wpE_tup (wpA_cons (wpE_ixO rfl (wpE_op opD_I0 (wpE_int (wpE_var rfl ⟨_, _, rfl, rfl, _, _, rfl, by rw [show (2 : Int) + (i : Int) = ((2 + i : Nat) : Int) by omega]; exact g1, wpA_cons (wpE_ixO rfl (wpE_op opD_I0 (wpE_int (wpE_op opD_I (wpE_int1 (wpE_op opD_I0 (wpE_var rfl (wpE_int ⟨_, _, rfl, rfl, .inl ⟨_, rfl, wpE_var rfl ⟨_, _, rfl, rfl, (show (0 : Int) < (m : Int) by omega), _, _, rfl, rfl, _, _, rfl, by rw [hj]; exact g2, wpA_cons (wpE_var rfl (wpA_nil ⟨[_, _, _], rfl, le_ rfl, ?_⟩))⟩⟩⟩))))))))⟩)))))))
    have ne := nd_ne od.nd (i := 2 + i) (j := j) (by omega) (by omega) hj3
    have e2 : ts.map et ++ [.tuple [en os[2 + i], en os[j], .int q]] = (ts ++ [(os[2 + i], os[j], q)]).map et := map_snoc (f := et) (x := (os[2 + i], os[j], q))
    show wpS (Gh a c) _ [.spc (.ref a), .dat (en (m + 2)), .own (os.map en), .own (ts.map et ++ [.tuple [en os[2 + i], en os[j], .int q]]), .dat (en m), .dat (.int u), .dat (en i), .dat (.int q), .no, .no, .no, .no] _
    rw [e2]
    refine wpS_set (wpE_op opD_I0 (wpE_var rfl (wpE_var rfl ⟨_, _, rfl, rfl, ts ++ [(os[2 + i], os[j], q)], u - q, _, _, rfl, by rw [List.length_append, tl]; rfl, all_snoc tok ⟨⟨od.lt _ (List.getElem_mem _), od.lt _ (List.getElem_mem _), ne⟩, q0, q1⟩, fun h => ?_, nofun⟩)))
    obtain ⟨q2, q3⟩ := q2 h
    exact ⟨by omega, by omega⟩
  rintro ρ' ⟨ts, u, x, y, rfl, tl, tok, _, nx⟩
  have tl : ts.length = m := by omega
  refine wpS_seq (wpS_par3 (lt_ rfl) (lt_ rfl) (lt_ rfl) (wpE.x (wpE_draw rfl (wpE_var rfl ⟨_, rfl, by omega, by omega, fun la l0 l1 => wpE.x (wpE_op opD_I0 (wpE_draw rfl (wpE_int ⟨_, rfl, by decide, by decide, fun r r0 r1 => wpE_int ⟨_, _, rfl, rfl, wpE.x (wpE_op opD_I0 (wpE_draw rfl (wpE_int ⟨_, rfl, by decide, by decide, fun r' r0' r1' => wpE_int ⟨_, _, rfl, rfl, ?_⟩⟩)))⟩⟩)))⟩))))
  obtain ⟨la, rfl⟩ := nat_of l0
  show wpS (Gh a c) _ [.spc (.ref a), .dat (en (m + 2)), .own (os.map en), .own (ts.map et), .dat (en m), .dat (.int u), x, y, .dat (en la), .dat (.int (r - 4)), .dat (.int (r' - 4)), .no] _
  refine wpS_seq (wpS_set (wpE_op opD_I0 (wpE_op opD_I0 (wpE_var rfl (wpE_sum (wpN.L (wpN_lcF tg_name (by decide) (noOwn1 rfl nx) (wpI_rng1 (wpA_cons (wpE_var rfl (wpA_nil ⟨_, rfl, by omega, by omega, by omega, fun _ => true, fun i => .int (ts.getD i (0, 0, 0)).2.2, ?_, (List.range la).map fun i => (ts.getD i (0, 0, 0)).2.2, ?_, _, _, rfl, rfl, wpE_var rfl ⟨_, _, rfl, rfl, ?_⟩⟩)))))))))))
  · intro i d hi e
    cases e
    refine ⟨_, rfl, wpT_yes ⟨rfl, fun _ => wpE_op opD_ix (wpE_ixO rfl (wpE_var rfl ⟨_, _, rfl, tie_get (by omega), wpE_int ⟨_, _, _, rfl, rfl, rfl, ?_⟩⟩))⟩⟩
    show PyData.int (ts[i]'(by omega)).2.2 = .int (ts.getD i (0, 0, 0)).2.2
    rw [List.getD_eq_getElem?_getD, List.getElem?_eq_getElem (show i < ts.length by omega)]; rfl
  · rw [filter_yes, List.map_map, Int.toNat_natCast]; rfl
  have sb : ∀ k : Nat, k ≤ m → -50 * (k : Int) ≤ ((List.range k).map fun i => (ts.getD i (0, 0, 0)).2.2).sum ∧ ((List.range k).map fun i => (ts.getD i (0, 0, 0)).2.2).sum ≤ 50 * (k : Int) := by
    intro k
    induction k with
    | zero => intro _; simp
    | succ k ih =>
      intro hk
      obtain ⟨i1, i2⟩ := ih (by omega)
      have hm : ts.getD k (0, 0, 0) ∈ ts := by
        rw [List.getD_eq_getElem?_getD, List.getElem?_eq_getElem (show k < ts.length by omega)]
        exact List.getElem_mem _
      obtain ⟨_, t1, t2⟩ := tok _ hm
      rw [List.range_succ, List.map_append, List.sum_append, List.map_singleton, List.sum_singleton]
      push_cast
      omega
  obtain ⟨sb1, sb2⟩ := sb la (by omega)
  generalize ((List.range la).map fun i => (ts.getD i (0, 0, 0)).2.2).sum = sm at sb1 sb2
  show wpS (Gh a c) _ [.spc (.ref a), .dat (en (m + 2)), .own (os.map en), .own (ts.map et), .dat (en m), .dat (.int u), x, y, .dat (en la), .dat (.int (r - 4)), .dat (.int (r' - 4)), .dat (.int (r - 4 + sm + (r' - 4)))] _
  have g0 := ord_get (os := os) (k := 0) (by omega)
  have g1 := ord_get (os := os) (k := 1) (by omega)
  have g2 := ord_get (os := os) (k := 2) (by omega)
  have g3 := ord_get (os := os) (k := 2 + la) (by omega)
  refine wpS_seq (wpS_setN (lt_ rfl) (wpN_cat (wpL_var rfl (wpN.L (wpN_lst (wpA_cons (wpE_tup (wpA_cons (wpE_ixO rfl (wpE_int ⟨_, _, rfl, g0, wpA_cons (wpE_ixO rfl (wpE_int ⟨_, _, rfl, g2, wpA_cons (wpE_var rfl (wpA_nil ⟨[_, _, _], rfl, le_ rfl, wpA_cons (wpE_tup (wpA_cons (wpE_ixO rfl (wpE_op opD_I0 (wpE_int (wpE_var rfl ⟨_, _, rfl, rfl, _, _, rfl, by rw [show (2 : Int) + (la : Int) = ((2 + la : Nat) : Int) by omega]; exact g3, wpA_cons (wpE_ixO rfl (wpE_int ⟨_, _, rfl, g1, wpA_cons (wpE_var rfl (wpA_nil ⟨[_, _, _], rfl, le_ rfl, wpA_nil ⟨[_, _], rfl, le_ rfl, ?_, ?_⟩⟩))⟩))⟩))))))⟩))⟩))⟩))))))))))
  · rw [List.length_map]
    show ts.length + 2 ≤ _
    omega
  have lt0 := od.lt _ (List.getElem_mem (show 0 < os.length by omega))
  have lt1 := od.lt _ (List.getElem_mem (show 1 < os.length by omega))
  have lt2 := od.lt _ (List.getElem_mem (show 2 < os.length by omega))
  have lt3 := od.lt _ (List.getElem_mem (show 2 + la < os.length by omega))
  have n02 := nd_ne od.nd (i := 0) (j := 2) (by omega) (by omega) (by omega)
  have n31 := nd_ne od.nd (i := 2 + la) (j := 1) (by omega) (by omega) (by omega)
  have e5 : ts.map et ++ [.tuple [en os[0], en os[2], .int (r - 4)], .tuple [en os[2 + la], en os[1], .int (r' - 4)]] = (ts ++ [(os[0], os[2], r - 4), (os[2 + la], os[1], r' - 4)]).map et := by rw [List.map_append]; rfl
  show wpS (Gh a c) _ [.spc (.ref a), .dat (en (m + 2)), .own (os.map en), .own (ts.map et ++ [.tuple [en os[0], en os[2], .int (r - 4)], .tuple [en os[2 + la], en os[1], .int (r' - 4)]]), .dat (en m), .dat (.int u), x, y, .dat (en la), .dat (.int (r - 4)), .dat (.int (r' - 4)), .dat (.int (r - 4 + sm + (r' - 4)))] _
  rw [e5]
  have uok : ∀ t ∈ ts ++ [(os[0], os[2], r - 4), (os[2 + la], os[1], r' - 4)], okT (m + 2) t := fun t ht => by
    rcases List.mem_append.mp ht with z | z
    · obtain ⟨⟨h1, h2, h3⟩, h4, h5⟩ := tok t z
      exact ⟨h1, h2, h3, by omega, by omega⟩
    · simp only [List.mem_cons, List.not_mem_nil, or_false] at z
      rcases z with rfl | rfl
      · exact ⟨lt0, lt2, n02, show -1000000 ≤ r - 4 by omega, show r - 4 ≤ 1000000 by omega⟩
      · exact ⟨lt3, lt1, n31, show -1000000 ≤ r' - 4 by omega, show r' - 4 ≤ 1000000 by omega⟩
  have ul : (ts ++ [(os[0], os[2], r - 4), (os[2 + la], os[1], r' - 4)]).length ≤ 60 := by rw [List.length_append]; show ts.length + 2 ≤ 60; omega
  generalize ts ++ [(os[0], os[2], r - 4), (os[2 + la], os[1], r' - 4)] = us at uok ul
  refine wpS_ret (wpE_tup (wpA_cons (wpN.E (wpN_mixed rfl (wpL.R (wpL_var rfl ⟨by rw [List.length_map]; omega, fun es pm => wpA_cons (wpE_tup (wpA_cons (wpE_ixO rfl (wpE_int ⟨_, _, rfl, g0, wpA_cons (wpE_ixO rfl (wpE_int ⟨_, _, rfl, g1, wpA_nil ⟨[_, _], rfl, le_ rfl, wpA_cons (wpE_var rfl (wpA_nil ⟨[_, _, _], rfl, le_ rfl, ?_⟩))⟩⟩))⟩))))⟩))))))
  obtain ⟨vs, rfl, pv⟩ := perm_of_map pm rfl
  exact k vs _ _ _ (by rw [pv.length_eq]; exact ul) (fun t ht => uok t (pv.mem_iff.mp ht)) lt0 lt1 (by omega) (by omega)
end

end K42
/-! text P16 -/
set_option Elab.async false
set_option linter.all false
set_option maxRecDepth 100000
set_option maxHeartbeats 4000000
namespace K42
open PySem PySem.Spec PyProof.Rows L2

/-! The law's own reckonings, 1: reaches, rows, lots, hours. -/
section
variable {P : Program} {w : World} {K : PySem.W.Frag} {mg : Str → Option Value} {base : Heap}
theorem walks_mul : ∀ (bs : List Nat) (k : Nat), bs.foldl (fun f b => f * (b + 1)) k = k * walksOf bs
  | [], k => by simp [walksOf]
  | b :: bs, k => by
    show bs.foldl _ (k * (b + 1)) = k * bs.foldl _ (1 * (b + 1))
    rw [walks_mul bs (k * (b + 1)), walks_mul bs (1 * (b + 1)), Nat.one_mul, Nat.mul_assoc]
theorem walks_cons (b : Nat) (bs : List Nat) : walksOf (b :: bs) = walksOf bs * (b + 1) := by
  show bs.foldl _ (1 * (b + 1)) = _
  rw [walks_mul, Nat.one_mul, Nat.mul_comm]
abbrev encR (r : Nat × Nat) : PD := .tuple [en r.1, en r.2]
def reachOf (bs : List Nat) : Nat × Nat := (walksOf bs, ringsOf bs)
def p_law_reaches (ds : List PD) (K : PD → Prop) : Prop := ∃ bs : List Nat, ds = [encB bs] ∧ okB bs ∧ K (encR (reachOf bs))
abbrev s__law_reaches : Stmt := top 58
abbrev N__law_reaches : List Str := ["_law_batches_here", "_law_walks", "_law_size"]
theorem sc__law_reaches : FnScope N__law_reaches ["_law_batches_here"] (defScope s__law_reaches) := ⟨rfl, rfl, rfl, by decide +kernel, rfl, by decide +kernel, by decide +kernel⟩

theorem ok__law_reaches (T : Tx mg) (D : Dn K mg "_law_reaches" s__law_reaches) : Cl P w K mg base 1 "_law_reaches" (SpP (p_law_reaches)) := by
  have sc := sc__law_reaches
  refine cl_pure D sc (fun _ _ _ _ _ _ us hl => match us, hl with | [_], _ => rfl) (fun ds K h => by obtain ⟨_, rfl, _⟩ := h; rfl) fun f cdv A outer s H E hr => ?_
  have hu := hr.units
  refine ⟨_, (pss_cons (ps_if (pt_cmpR (opEq (F := K) hu) (pv 0) (pe_tup pa_nil) (nomark _)) (pss_one (ps_ret (pe_tup (pa_cons pe_int (pa_cons pe_int pa_nil))))) pss_nil)
    (pss_cons (ps_set (i := 1) sc.nd rfl (Or.inl rfl) pe_int)
    (pss_cons (ps_for PassesOwn.never rfl (pi_tup (pe_slice sl_tupA (pv 0) (po_some pe_int) po_none)) (pg_name (i := 2) sc.nd rfl (by first | exact Or.inl rfl | exact Or.inr rfl))
      (pss_one (ps_set (i := 1) sc.nd rfl (Or.inl rfl) (pe_op op_mul (pv 1) (pe_op op_add (pv 2) pe_int)))))
    (pss_one (ps_ret (pe_tup (pa_cons (pe_op op_mul (pv 1) (pe_op op_add (pe_ix (ixSq (F := K)) (pv 0) pe_int (fun _ _ => rfl)) pe_int)) (pa_cons (pe_op op_mul (pe_ix (ixSq (F := K)) (pv 0) pe_int (fun _ _ => rfl)) (pv 1)) pa_nil)))))))), ?_⟩
  rintro ds K' ⟨bs, rfl, ok, k⟩
  show wpS Gm.pure _ [.dat (encB bs), .no, .no] _
  refine wpS_seq (wpS_if (wpT_test (wpE_op opD_eq (wpE_var rfl (wpE_tup (wpA_nil ⟨[], rfl, le_ rfl, (plain_encB bs).shaped (by decide), rfl, _, rfl, ?_⟩))))))
  rw [show PyData.eqv (encB bs) (.tuple []) = decide (bs = []) from eqv_encB bs []]
  cases bs with
  | nil => exact wpS_seq (wpS_ret (wpE_tup (wpA_cons (wpE_int (wpA_cons (wpE_int (wpA_nil ⟨[_, _], rfl, le_ rfl, k⟩)))))))
  | cons b bs =>
    rw [decide_eq_false (by simp), if_neg Bool.false_ne_true]
    have ok2 : ∀ x ∈ bs, x ≤ 1000 := fun x hx => ok x (List.mem_cons_of_mem _ hx)
    have ob := ok b List.mem_cons_self
    refine wpS_nil (wpS_seq (wpS_set (wpE_int (wpS_seq (wpS_for tg_name (wpI_tup (wpE_slT (wpE_var rfl ⟨_, rfl, wpO_some (wpE_int ⟨_, rfl, wpO_none ⟨_, rfl, ?_⟩⟩)⟩))))))))
    rw [List.map_cons, cut_1]
    refine ⟨fun i ρ => ∃ x, ρ = [.dat (encB (b :: bs)), .dat (en ((bs.take i).foldl (fun f b => f * (b + 1)) 1)), x], ⟨_, rfl⟩, ?_, ?_⟩
    · rintro i d ρ' hi e ⟨x, rfl⟩
      obtain ⟨q, hq, rfl⟩ := map_get e
      refine ⟨_, rfl, ?_⟩
      have nx := foldl_take hq (fun f b => f * (b + 1)) 1
      generalize (bs.take i).foldl (fun f b => f * (b + 1)) 1 = f at nx
      show wpS Gm.pure _ [.dat (encB (b :: bs)), .dat (en f), .dat (en q)] _
      have := ok2 q (List.mem_of_getElem? hq)
      refine wpS_set (wpE_op opD_I (wpE_var rfl (wpE_op opD_I0 (wpE_var rfl (wpE_int ⟨_, _, rfl, rfl, _, _, rfl, rfl, .inr (by omega), ?_⟩)))))
      refine ⟨.dat (en q), ?_⟩
      rw [nx]
      show [_, Sl.dat (.int ((f : Int) * ((q : Int) + 1))), _] = _
      rw [show (f : Int) * ((q : Int) + 1) = ((f * (q + 1) : Nat) : Int) by push_cast; rfl]
    · rintro ρ' ⟨x, rfl⟩
      rw [List.length_map, List.take_length]
      show wpS Gm.pure _ [.dat (encB (b :: bs)), .dat (en (walksOf bs)), x] _
      refine wpS_ret (wpE_tup (wpA_cons (wpE_op opD_I (wpE_var rfl (wpE_op opD_I0 (wpE_op opD_ix (wpE_var rfl (wpE_int ⟨_, _, _, rfl, rfl, at_0 _ _, wpE_int ⟨_, _, rfl, rfl, _, _, rfl, rfl, .inr (by omega), wpA_cons (wpE_op opD_I (wpE_op opD_ix (wpE_var rfl (wpE_int ⟨_, _, _, rfl, rfl, at_0 _ _, wpE_var rfl ⟨_, _, rfl, rfl, .inl (by omega), wpA_nil ⟨[_, _], rfl, le_ rfl, ?_⟩⟩⟩))))⟩⟩))))))))
      show K' (.tuple [.int (((walksOf bs : Nat) : Int) * ((b : Int) + 1)), .int ((b : Int) * ((walksOf bs : Nat) : Int))])
      rw [show ((walksOf bs : Nat) : Int) * ((b : Int) + 1) = ((walksOf (b :: bs) : Nat) : Int) by rw [walks_cons]; push_cast; rfl, show (b : Int) * ((walksOf bs : Nat) : Int) = ((ringsOf (b :: bs) : Nat) : Int) by show _ = ((b * walksOf bs : Nat) : Int); push_cast; rfl]
      exact k
def encLr (r : Row) : PD := .list (r.map eo)
def rowsL (ts : List TieT) (n v most : Nat) : List PD := (List.range (most + 1)).map fun k => encLr (rowAt ts n v k)
theorem rowsL_length (ts : List TieT) (n v k : Nat) : (rowsL ts n v k).length = k + 1 := by rw [rowsL, List.length_map, List.length_range]
theorem rowsL_get {ts : List TieT} {n v k i : Nat} (h : i ≤ k) : (rowsL ts n v k)[i]? = some (encLr (rowAt ts n v i)) := by
  rw [rowsL, List.getElem?_map, List.getElem?_range (by omega)]; rfl
theorem rowsL_last (ts : List TieT) (n v k : Nat) : atI (rowsL ts n v k) (-1) = some (encLr (rowAt ts n v k)) := by
  unfold atI
  rw [rowsL_length, ixN_last (by omega)]
  exact rowsL_get (by omega)
theorem rowsL_succ (ts : List TieT) (n v k : Nat) : rowsL ts n v k ++ [encLr (rowAt ts n v (k + 1))] = rowsL ts n v (k + 1) := by
  rw [rowsL, rowsL, List.range_succ (n := k + 1), List.map_append]; rfl
def p_law_rows (ds : List PD) (K : PD → Prop) : Prop := ∃ (n : Nat) (ts : List TieT) (v m : Nat), ds = [en n, .tuple (ts.map et), en v, en m] ∧ okTs n ts ∧ n ≤ 1000 ∧ m ≤ 1000 ∧ K (.list (rowsL ts n v m))
abbrev s__law_rows : Stmt := top 59
abbrev N__law_rows : List Str := ["_law_many", "_law_ties_here", "_law_start", "_law_most", "_law_rows_here", "_law_thing", "_law_turn", "_law_row_here", "_law_one", "_law_other", "_law_weight"]
theorem sc__law_rows : FnScope N__law_rows ["_law_many", "_law_ties_here", "_law_start", "_law_most"] (defScope s__law_rows) := ⟨rfl, rfl, rfl, by decide +kernel, rfl, by decide +kernel, by decide +kernel⟩

theorem ok__law_rows (T : Tx mg) (D : Dn K mg "_law_rows" s__law_rows) : Cl P w K mg base 1 "_law_rows" (SpP (p_law_rows)) := by
  have sc := sc__law_rows
  refine cl_pure D sc (fun _ _ _ _ _ _ us hl => match us, hl with | [_, _, _, _], _ => rfl) (fun ds K h => by obtain ⟨_, _, _, _, rfl, _⟩ := h; rfl) fun f cdv A outer s H E hr => ?_
  have hu := hr.units
  refine ⟨_, (pss_cons (ps_set (i := 4) sc.nd rfl (Or.inl rfl) (pe_lst (pa_cons (pe_lc (own := [("_law_thing", 5)]) (g := gName 5) (by rfl) sc.nd (pi_range1 (by rfl) T.b_range (pa_cons (pv 0) pa_nil)) (blkOk_by (own := [("_law_thing", 5)]) (N := N__law_rows) (sc := (defScope s__law_rows)) (by decide +kernel)) (fun _ _ _ _ _ => (pg_name (i := 5) sc.nd rfl (by first | exact Or.inl rfl | exact Or.inr rfl))) (fun _ _ _ _ _ => pts_nil) (fun _ _ _ _ _ => (pe_ifExp (pt_cmpR (opEq (F := K) hu) (pv 5) (pv 2) (nomark _)) pe_int pe_non))) pa_nil)))
    (pss_cons (ps_for PassesOwn.never rfl (pi_range1 (by rfl) T.b_range (pa_cons (pv 3) pa_nil)) (pg_name (i := 6) sc.nd rfl (by first | exact Or.inl rfl | exact Or.inr rfl))
      (pss_cons (ps_set (i := 7) sc.nd rfl (Or.inl rfl) (pe_callTy call_list_of (by rfl) T.b_list (by decide +kernel) (pa_cons (pe_ix (ixSq (F := K)) (pv 4) (pe_un un_neg pe_int) (fun _ _ => rfl)) pa_nil)))
      (pss_cons (ps_for PassesOwn.never rfl (pi_tup (pv 1)) (pg_tup rfl (pgs_cons (pg_name (i := 8) sc.nd rfl (by first | exact Or.inl rfl | exact Or.inr rfl)) (pgs_cons (pg_name (i := 9) sc.nd rfl (by first | exact Or.inl rfl | exact Or.inr rfl)) (pgs_cons (pg_name (i := 10) sc.nd rfl (by first | exact Or.inl rfl | exact Or.inr rfl)) pgs_nil))))
        (pss_one (ps_if (PW.pt (pw_and (pt_cmpR op_notN (pe_ix (ixSq (F := K)) (pe_ix (ixSq (F := K)) (pv 4) (pe_un un_neg pe_int) (fun _ _ => rfl)) (pv 8) (fun _ _ => rfl)) pe_non (nomark _)) (pw_and1 (PW.pt (pw_or (pt_cmpR op_isN (pe_ix (ixSq (F := K)) (pv 7) (pv 9) (fun _ _ => rfl)) pe_non (nomark _)) (pw_or1 (pt_cmpR op_lt (pe_ix (ixSq (F := K)) (pv 7) (pv 9) (fun _ _ => rfl)) (pe_op op_add (pe_ix (ixSq (F := K)) (pe_ix (ixSq (F := K)) (pv 4) (pe_un un_neg pe_int) (fun _ _ => rfl)) (pv 8) (fun _ _ => rfl)) (pv 10)) (nomark _)))))))) (pss_one (ps_asg (pe_op op_add (pe_ix (ixSq (F := K)) (pe_ix (ixSq (F := K)) (pv 4) (pe_un un_neg pe_int) (fun _ _ => rfl)) (pv 8) (fun _ _ => rfl)) (pv 10)) (pg_sub (pv 7) (pv 9) set_list))) pss_nil)))
      (pss_one (ps_expr (pe_bm PySem.F.plainAttrs_list PySem.F.slot_list_append PySem.F.type_list_append mt_append (pv 4) (pa_cons (pv 7) pa_nil)))))))
    (pss_one (ps_ret (pv 4))))), ?_⟩
  rintro ds K' ⟨n, ts, v, m, rfl, ok, hn, hm, k⟩
  show wpS Gm.pure _ [.dat (en n), .dat (.tuple (ts.map et)), .dat (en v), .dat (en m), .no, .no, .no, .no, .no, .no, .no] _
  refine wpS_seq (wpS_setN (lt_ rfl) (wpN_lst (wpA_cons (wpN.E (wpN_lcF tg_name (by decide) rfl (wpI_rng1 (wpA_cons (wpE_var rfl (wpA_nil ⟨_, rfl, by omega, by omega, by omega, fun _ => true, fun i => if i = v then .int 0 else .none, fun i d hi e => ?_, wpA_nil ⟨[_], rfl, le_ rfl, ?_⟩⟩)))))))))
  · cases e
    refine ⟨_, rfl, wpT_yes ⟨rfl, fun _ => wpE_if (wpT_test (wpE_op opD_eq (wpE_var rfl (wpE_var rfl ⟨rfl, rfl, _, rfl, ?_⟩))))⟩⟩
    rw [show PyData.eqv (en i) (en v) = decide (i = v) from eqv_nat]
    by_cases h : i = v
    · rw [decide_eq_true h, if_pos rfl]; exact wpE_int (by show _ = if i = v then _ else _; rw [if_pos h])
    · rw [decide_eq_false h, if_neg Bool.false_ne_true]; exact wpE_non (by show _ = if i = v then _ else _; rw [if_neg h])
  have e0 : [PyData.list (((List.range ((n : Int)).toNat).filter fun _ => true).map fun i => if i = v then PyData.int 0 else .none)] = rowsL ts n v 0 := by
    show _ = [encLr (row0 n v)]
    rw [filter_yes, encLr, row0, List.map_map, Int.toNat_natCast]
    congr 2
    refine List.map_congr_left fun i _ => ?_
    show _ = eo (if i = v then some 0 else none)
    by_cases h : i = v
    · rw [if_pos h, if_pos h]; rfl
    · rw [if_neg h, if_neg h]; rfl
  rw [e0]
  show wpS Gm.pure _ [.dat (en n), .dat (.tuple (ts.map et)), .dat (en v), .dat (en m), .own (rowsL ts n v 0), .no, .no, .no, .no, .no, .no] _
  refine wpS_seq (wpS_for tg_name (wpI_rng1 (wpA_cons (wpE_var rfl (wpA_nil ⟨_, rfl, by omega, by omega, fun j ρ => ∃ (p q r s t : Sl), ρ = [.dat (en n), .dat (.tuple (ts.map et)), .dat (en v), .dat (en m), .own (rowsL ts n v j), .no, p, q, r, s, t], ⟨_, _, _, _, _, rfl⟩, ?_, ?_⟩)))))
  · rintro j d ρ' hj e ⟨p, q, r, s, t, rfl⟩
    cases e
    have hj : j < m := by omega
    refine ⟨_, rfl, ?_⟩
    show wpS Gm.pure _ [.dat (en n), .dat (.tuple (ts.map et)), .dat (en v), .dat (en m), .own (rowsL ts n v j), .no, .dat (en j), q, r, s, t] _
    have gl := rowsL_last ts n v j
    have lr := rowAt_length ts n v j
    have nxr : rowAt ts n v (j + 1) = nextRow ts (rowAt ts n v j) := rfl
    have succ := rowsL_succ ts n v j
    generalize rowAt ts n v j = row at gl lr nxr
    rw [nxr] at succ
    refine wpS_seq (wpS_setN (lt_ rfl) (wpN_list (wpE.Q (wpE_ixO rfl (wpE_un (wpE_int ⟨_, rfl, _, _, rfl, gl, _, rfl, ?_⟩))))))
    refine wpS_seq (wpS_for (tg_tup (js := [8, 9, 10]) rfl rfl) (wpI_tup (wpE_var rfl ⟨_, rfl, fun i ρ => ∃ (r s t : Sl), ρ = [.dat (en n), .dat (.tuple (ts.map et)), .dat (en v), .dat (en m), .own (rowsL ts n v j), .no, .dat (en j), .own (((ts.take i).foldl (stepRow row) row).map eo), r, s, t], ⟨_, _, _, rfl⟩, ?_, ?_⟩)))
    · rintro i d ρ' hi e ⟨r, s, t, rfl⟩
      obtain ⟨t, ht, rfl⟩ := map_get e
      refine ⟨_, rfl, ?_⟩
      obtain ⟨l1, l2⟩ := ok t (List.mem_of_getElem? ht)
      rw [← lr] at l1 l2
      have lf := foldRow_length row (ts.take i) row
      have nx := foldl_take ht (stepRow row) row
      generalize (ts.take i).foldl (stepRow row) row = f at lf nx
      show wpS Gm.pure _ [.dat (en n), .dat (.tuple (ts.map et)), .dat (en v), .dat (en m), .own (rowsL ts n v j), .no, .dat (en j), .own (f.map eo), .dat (en t.1), .dat (en t.2.1), .dat (.int t.2.2)] _
      refine wpS_if (wpT_and (wpT_test (wpE_op opD_isnt (wpE_op opD_ix (wpE_ixO rfl (wpE_un (wpE_int ⟨_, rfl, _, _, rfl, gl, wpE_var rfl ⟨_, _, _, rfl, rfl, get_enc l1, wpE_non ⟨rfl, _, rfl, ?_⟩⟩⟩)))))))
      rw [isNon_eo]
      have fin : ∀ g : Row, (ts.take (i + 1)).foldl (stepRow row) row = g → ∃ (r s t' : Sl), ([.dat (en n), .dat (.tuple (ts.map et)), .dat (en v), .dat (en m), .own (rowsL ts n v j), .no, .dat (en j), .own (g.map eo), .dat (en t.1), .dat (en t.2.1), .dat (.int t.2.2)] : Rho) = [.dat (en n), .dat (.tuple (ts.map et)), .dat (en v), .dat (en m), .own (rowsL ts n v j), .no, .dat (en j), .own (((ts.take (i + 1)).foldl (stepRow row) row).map eo), r, s, t'] := fun g e => ⟨_, _, _, by rw [e]⟩
      cases h1 : row.getD t.1 none with
      | none =>
        refine wpS_nil (fin f ?_)
        rw [nx, step_0 h1]
      | some x =>
        have get1 : atI (row.map eo) ((t.1 : Nat) : Int) = some (.int x) := by rw [get_enc l1, h1]; rfl
        have setIt : wpS Gm.pure (tAsg (tOp rAdd (tOp (rIx K) (tOp (rIx K) (tVar 4) (tUn (rU fun i => .int (-i)) (tC (.int 1)))) (tVar 8)) (tVar 10)) (gSub (tVar 7) (tVar 9) rSetL)) [.dat (en n), .dat (.tuple (ts.map et)), .dat (en v), .dat (en m), .own (rowsL ts n v j), .no, .dat (en j), .own (f.map eo), .dat (en t.1), .dat (en t.2.1), .dat (.int t.2.2)]
            { nx := fun ρ => (stepRow row f t = f.set t.2.1 (some (x + t.2.2))) → ∃ (r s t' : Sl), ρ = [.dat (en n), .dat (.tuple (ts.map et)), .dat (en v), .dat (en m), .own (rowsL ts n v j), .no, .dat (en j), .own (((ts.take (i + 1)).foldl (stepRow row) row).map eo), r, s, t'], rt := fun _ => False, bk := fun _ => False, ct := fun _ => False } := by
          refine wpS_setL rfl (wpE_op opD_I0 (wpE_op opD_ix (wpE_ixO rfl (wpE_un (wpE_int ⟨_, rfl, _, _, rfl, gl, wpE_var rfl ⟨_, _, _, rfl, rfl, get1, wpE_var rfl ⟨_, _, rfl, rfl, wpE_var rfl ⟨_, t.2.1, rfl, ixN_nat (by rw [List.length_map, lf]; exact l2), fun es => ?_⟩⟩⟩⟩)))))
          rw [nx, es]
          refine ⟨.dat (en t.1), .dat (en t.2.1), .dat (.int t.2.2), ?_⟩
          rw [List.map_set]; rfl
        refine wpT_or (wpT_test (wpE_op opD_is (wpE_ixO rfl (wpE_var rfl ⟨_, _, rfl, get_enc (by rw [lf]; exact l2), wpE_non ⟨rfl, _, rfl, ?_⟩⟩))))
        rw [isNon_eo]
        rcases h2 : f.getD t.2.1 none with _ | y
        ·
          rw [Option.isNone_none, if_pos rfl]
          exact setIt.imp (fun ρ h => h (step_1 h1 h2)) (fun _ z => z.elim) (fun _ z => z.elim) (fun _ z => z.elim)
        ·
          have get2 : atI (f.map eo) ((t.2.1 : Nat) : Int) = some (.int y) := by rw [get_enc (by rw [lf]; exact l2), h2]; rfl
          rw [Option.isNone_some, if_neg Bool.false_ne_true]
          refine wpT_test (wpE_op opD_B0 (wpE_ixO rfl (wpE_var rfl ⟨_, _, rfl, get2, wpE_op opD_I0 (wpE_op opD_ix (wpE_ixO rfl (wpE_un (wpE_int ⟨_, rfl, _, _, rfl, gl, wpE_var rfl ⟨_, _, _, rfl, rfl, get1, wpE_var rfl ⟨_, _, rfl, rfl, ⟨_, _, rfl, rfl, _, rfl, ?_⟩⟩⟩⟩))))⟩)))
          by_cases lt : y < x + t.2.2
          · rw [decide_eq_true lt, if_pos rfl]
            exact setIt.imp (fun ρ h => h (step_2 h1 h2 lt)) (fun _ z => z.elim) (fun _ z => z.elim) (fun _ z => z.elim)
          · rw [decide_eq_false lt, if_neg Bool.false_ne_true]
            refine wpS_nil (fin f ?_)
            rw [nx, step_3 h1 h2 lt]
    · rintro ρ' ⟨r, s, t, rfl⟩
      rw [List.length_map, List.take_length]
      refine wpS_free (i := 7) rfl ?_
      show wpS Gm.pure _ [.dat (en n), .dat (.tuple (ts.map et)), .dat (en v), .dat (en m), .own (rowsL ts n v j), .no, .dat (en j), .dat (encLr (nextRow ts row)), r, s, t] _
      refine wpS_app rfl (by rw [rowsL_length]; omega) (wpE_var rfl ⟨.dat (en j), .dat (encLr (nextRow ts row)), r, s, t, ?_⟩)
      rw [← succ]; rfl
  · rintro ρ' ⟨p, q, r, s, t, rfl⟩
    rw [Int.toNat_natCast]
    exact wpS_retO rfl k
def rowsD (ts : List TieT) (n : Nat) : List PD := (List.range n).map fun v => .list (rowsL ts n v (2 * n + 2))
def p_law_all_rows (ds : List PD) (K : PD → Prop) : Prop := ∃ (n : Nat) (ts : List TieT), ds = [en n, .tuple (ts.map et)] ∧ okTs n ts ∧ n ≤ 100 ∧ K (.list (rowsD ts n))
abbrev s__law_all_rows : Stmt := top 60
abbrev N__law_all_rows : List Str := ["_law_many", "_law_ties_here", "_law_thing"]
theorem sc__law_all_rows : FnScope N__law_all_rows ["_law_many", "_law_ties_here"] (defScope s__law_all_rows) := ⟨rfl, rfl, rfl, by decide +kernel, rfl, by decide +kernel, by decide +kernel⟩

theorem ok__law_all_rows (T : Tx mg) (D : Dn K mg "_law_all_rows" s__law_all_rows) (c__law_rows : Cl P w K mg base 1 "_law_rows" (SpP (p_law_rows))) : Cl P w K mg base 2 "_law_all_rows" (SpP (p_law_all_rows)) := by
  have sc := sc__law_all_rows
  refine cl_pure D sc (fun _ _ _ _ _ _ us hl => match us, hl with | [_, _], _ => rfl) (fun ds K h => by obtain ⟨_, _, rfl, _⟩ := h; rfl) fun f cdv A outer s H E hr => ?_
  have hu := hr.units
  refine ⟨_, (pss_one (ps_ret (pe_lc (own := [("_law_thing", 2)]) (g := gName 2) (by rfl) sc.nd (pi_range1 (by rfl) T.b_range (pa_cons (pv 0) pa_nil)) (blkOk_by (own := [("_law_thing", 2)]) (N := N__law_all_rows) (sc := (defScope s__law_all_rows)) (by decide +kernel)) (fun _ _ _ _ _ => (pg_name (i := 2) sc.nd rfl (by first | exact Or.inl rfl | exact Or.inr rfl))) (fun _ _ _ _ _ => pts_nil) (fun _ _ _ _ _ => (pe_cl c__law_rows hr (by first | decide | omega) (by rfl) (pa_cons (pv 0) (pa_cons (pv 1) (pa_cons (pv 2) (pa_cons (pe_op op_add (pe_op op_mul pe_int (pv 0)) pe_int) pa_nil))))))))), ?_⟩
  rintro ds K' ⟨n, ts, rfl, ok, hn, k⟩
  show wpS Gm.pure _ [.dat (en n), .dat (.tuple (ts.map et)), .no] _
  refine wpS_retN (wpN_lcF tg_name (by decide) rfl (wpI_rng1 (wpA_cons (wpE_var rfl (wpA_nil ⟨_, rfl, by omega, by omega, by omega, fun _ => true, fun v => .list (rowsL ts n v (2 * n + 2)), fun i d hi e => ?_, ?_⟩)))))
  · cases e
    refine ⟨_, rfl, wpT_yes ⟨rfl, fun _ => wpE_callP (wpA_cons (wpE_var rfl (wpA_cons (wpE_var rfl (wpA_cons (wpE_var rfl (wpA_cons (wpE_op opD_I0 (wpE_op opD_I (wpE_int (wpE_var rfl ⟨_, _, rfl, rfl, .inl (by decide), wpE_int ⟨_, _, rfl, rfl, wpA_nil ⟨[_, _, _, _], rfl, n, ts, i, 2 * n + 2, ?_, ok, by omega, by omega, rfl⟩⟩⟩)))))))))))⟩⟩
    rw [show (2 : Int) * (n : Int) + 2 = ((2 * n + 2 : Nat) : Int) by omega]
  · rw [filter_yes, Int.toNat_natCast]; exact k
def p_law_below (ds : List PD) (K : PD → Prop) : Prop := ∃ (p : Option Nat × Option Nat) (r : Nat × Nat), ds = [encP p, encR r] ∧ K (.bool (belowP p r))
theorem eoN_isNon (x : Option Nat) : isNon (eoN x) = x.isNone := by cases x <;> rfl
abbrev s__law_below : Stmt := top 64
abbrev N__law_below : List Str := ["_law_pair", "_law_reaches_here"]
theorem sc__law_below : FnScope N__law_below ["_law_pair", "_law_reaches_here"] (defScope s__law_below) := ⟨rfl, rfl, rfl, by decide +kernel, rfl, by decide +kernel, by decide +kernel⟩

theorem ok__law_below (T : Tx mg) (D : Dn K mg "_law_below" s__law_below) : Cl P w K mg base 1 "_law_below" (SpP (p_law_below)) := by
  have sc := sc__law_below
  refine cl_pure D sc (fun _ _ _ _ _ _ us hl => match us, hl with | [_, _], _ => rfl) (fun ds K h => by obtain ⟨_, _, rfl, _⟩ := h; rfl) fun f cdv A outer s H E hr => ?_
  have hu := hr.units
  refine ⟨_, (pss_one (ps_ret (pe_and (pe_or (pe_cmpR op_isN (pe_ix (ixSq (F := K)) (pv 0) pe_int (fun _ _ => rfl)) pe_non (nomark _)) (pe_one (pe_cmpR op_lt (pe_ix (ixSq (F := K)) (pv 1) pe_int (fun _ _ => rfl)) (pe_ix (ixSq (F := K)) (pv 0) pe_int (fun _ _ => rfl)) (nomark _)))) (pe_one (pe_or (pe_cmpR op_isN (pe_ix (ixSq (F := K)) (pv 0) pe_int (fun _ _ => rfl)) pe_non (nomark _)) (pe_one (pe_cmpR op_lt (pe_ix (ixSq (F := K)) (pv 1) pe_int (fun _ _ => rfl)) (pe_ix (ixSq (F := K)) (pv 0) pe_int (fun _ _ => rfl)) (nomark _)))))))), ?_⟩
  rintro ds K' ⟨⟨p, q⟩, ⟨x, y⟩, rfl, k⟩
  show wpS Gm.pure _ [.dat (.tuple [eoN p, eoN q]), .dat (.tuple [en x, en y])] _
  have k : K' (.bool (below1 x p && below1 y q)) := k
  refine wpS_ret (wpE_andV (wpE_orV (wpE_op opD_is (wpE_op opD_ix (wpE_var rfl (wpE_int ⟨_, _, _, rfl, rfl, rfl, wpE_non ⟨rfl, _, rfl, ?_⟩⟩))))))
  have second : wpE Gm.pure (tOrV (tOp (fun x y H Q => y = .non ∧ Q (.bl (decide (x = .non))) H) (tOp (rIx K) (tVar 0) (tC (.int 1))) (tC .non)) (tOp (rI0 fun i j => .bl (decide (i < j))) (tOp (rIx K) (tVar 1) (tC (.int 1))) (tOp (rIx K) (tVar 0) (tC (.int 1))))) [.dat (.tuple [eoN p, eoN q]), .dat (.tuple [en x, en y])] (fun d => d = .bool (below1 y q)) := by
    refine wpE_orV (wpE_op opD_is (wpE_op opD_ix (wpE_var rfl (wpE_int ⟨_, _, _, rfl, rfl, rfl, wpE_non ⟨rfl, _, rfl, ?_⟩⟩))))
    rw [eoN_isNon]
    cases q with
    | none => rfl
    | some l =>
      refine wpE_op opD_B0 (wpE_op opD_ix (wpE_var rfl (wpE_int ⟨_, _, _, rfl, rfl, rfl, wpE_op opD_ix (wpE_var rfl (wpE_int ⟨_, _, _, rfl, rfl, rfl, _, _, rfl, rfl, ?_⟩))⟩)))
      show PyData.bool (decide ((y : Int) < (l : Int))) = .bool (decide (y < l))
      rw [show decide ((y : Int) < (l : Int)) = decide (y < l) by simp]
  rw [eoN_isNon]
  cases p with
  | none => exact ⟨true, rfl, second.imp fun d e => by rw [e]; exact k⟩
  | some l =>
    refine wpE_op opD_B0 (wpE_op opD_ix (wpE_var rfl (wpE_int ⟨_, _, _, rfl, rfl, rfl, wpE_op opD_ix (wpE_var rfl (wpE_int ⟨_, _, _, rfl, rfl, rfl, _, _, rfl, rfl, decide (x < l), ?_, ?_⟩))⟩)))
    · rw [show decide ((x : Int) < (l : Int)) = decide (x < l) by simp]
    · have e : below1 x (some l) = decide (x < l) := rfl
      rw [e] at k
      cases h : decide (x < l) with
      | true => rw [if_pos rfl]; rw [h] at k; exact second.imp fun d e => by rw [e]; exact k
      | false => rw [if_neg Bool.false_ne_true]; rw [h] at k; exact k
end

end K42
/-! text P17 -/
set_option Elab.async false
set_option linter.all false
set_option maxRecDepth 100000
set_option maxHeartbeats 4000000
namespace K42
open PySem PySem.Spec PyProof.Rows L2

/-! The law's own reckonings, 2: held, limits, lots, hours. -/
section
variable {P : Program} {w : World} {K : PySem.W.Frag} {mg : Str → Option Value} {base : Heap}
def isSm (ts : Tms) (i : Nat) : Bool := (ts.getD i none).isSome
def badAt (ties : List TieT) (n : Nat) (tms : Tms) (m one : Nat) : Bool := (tms.getD one none).isNone && ringAt ties n m one
def shortP (ties : List TieT) (n : Nat) (tms : Tms) (m one other : Nat) : Bool := isSm tms one && (isSm tms other && shortAt ties n tms m one other)
def heldL (ties : List TieT) (n : Nat) (tms : Tms) (r : Nat × Nat) : Bool :=
  (List.range n).all fun one => !badAt ties n tms (min r.2 (2 * n + 2)) one && (List.range n).all fun other => !shortP ties n tms (min r.1 (2 * n + 2)) one other
theorem rowsD_length (ts : List TieT) (n : Nat) : (rowsD ts n).length = n := by rw [rowsD, List.length_map, List.length_range]
theorem rowsD_get {ts : List TieT} {n v : Nat} (h : v < n) : atI (rowsD ts n) (v : Int) = some (.list (rowsL ts n v (2 * n + 2))) := by
  refine atI_nat ?_
  rw [rowsD, List.getElem?_map, List.getElem?_range h]; rfl
theorem all_take {α : Type} {xs : List α} {i : Nat} {x : α} (h : xs[i]? = some x) (p : α → Bool) (hp : (xs.take i).all p = true) (hx : p x = true) : (xs.take (i + 1)).all p = true := by
  rw [List.take_add_one, h, List.all_append, hp]
  show (true && ([x].all p)) = true
  simp [hx]
theorem all_at {α : Type} {xs : List α} {i : Nat} {x : α} (h : xs[i]? = some x) (p : α → Bool) (hx : p x = false) : xs.all p = false := by
  cases e : xs.all p with
  | false => rfl
  | true => rw [List.all_eq_true.mp e x (List.mem_of_getElem? h)] at hx; cases hx
theorem range_take {n i : Nat} (h : i ≤ n) : (List.range n).take i = List.range i := by
  rw [List.take_range, Nat.min_eq_left h]
def p_law_held (ds : List PD) (K : PD → Prop) : Prop := ∃ (n : Nat) (ties : List TieT) (tms : Tms) (r : Nat × Nat), ds = [.list (rowsD ties n), encT tms, encR r] ∧ tms.length = n ∧ 1 ≤ n ∧ n ≤ 100 ∧ K (.bool (heldL ties n tms r))
abbrev s__law_held : Stmt := top 62
abbrev N__law_held : List Str := ["_law_rows_here", "_law_times_here", "_law_reaches_here", "_law_walks", "_law_rings", "_law_one", "_law_other", "_law_weight"]
theorem sc__law_held : FnScope N__law_held ["_law_rows_here", "_law_times_here", "_law_reaches_here"] (defScope s__law_held) := ⟨rfl, rfl, rfl, by decide +kernel, rfl, by decide +kernel, by decide +kernel⟩

theorem ok__law_held (T : Tx mg) (D : Dn K mg "_law_held" s__law_held) : Cl P w K mg base 1 "_law_held" (SpP (p_law_held)) := by
  have sc := sc__law_held
  refine cl_pure D sc (fun _ _ _ _ _ _ us hl => match us, hl with | [_, _, _], _ => rfl) (fun ds K h => by obtain ⟨_, _, _, _, rfl, _⟩ := h; rfl) fun f cdv A outer s H E hr => ?_
  have hu := hr.units
  refine ⟨_, (pss_cons (ps_par (i := 3) (j := 4) (by rfl) sc.nd rfl rfl (by decide) rfl rfl (pa_cons (pe_callB (call_min2 rfl) (by rfl) T.b_min (by decide +kernel) (pa_cons (pe_ix (ixSq (F := K)) (pv 2) pe_int (fun _ _ => rfl)) (pa_cons (pe_op op_sub (pe_callB (lenSq (F := K)) (by rfl) T.b_len (by decide +kernel) (pa_cons (pe_ix (ixSq (F := K)) (pv 0) pe_int (fun _ _ => rfl)) pa_nil)) pe_int) pa_nil))) (pa_cons (pe_callB (call_min2 rfl) (by rfl) T.b_min (by decide +kernel) (pa_cons (pe_ix (ixSq (F := K)) (pv 2) pe_int (fun _ _ => rfl)) (pa_cons (pe_op op_sub (pe_callB (lenSq (F := K)) (by rfl) T.b_len (by decide +kernel) (pa_cons (pe_ix (ixSq (F := K)) (pv 0) pe_int (fun _ _ => rfl)) pa_nil)) pe_int) pa_nil))) pa_nil)) (by rfl))
    (pss_cons (ps_for PassesOwn.never rfl (pi_range1 (by rfl) T.b_range (pa_cons (pe_callB (lenSq (F := K)) (by rfl) T.b_len (by decide +kernel) (pa_cons (pv 0) pa_nil)) pa_nil)) (pg_name (i := 5) sc.nd rfl (by first | exact Or.inl rfl | exact Or.inr rfl))
      (pss_cons (ps_if (PW.pt (pw_and (pt_cmpR op_isN (pe_ix (ixSq (F := K)) (pv 1) (pv 5) (fun _ _ => rfl)) pe_non (nomark _)) (pw_and1 (pt_cmpR op_gt (pe_ix (ixSq (F := K)) (pe_ix (ixSq (F := K)) (pe_ix (ixSq (F := K)) (pv 0) (pv 5) (fun _ _ => rfl)) (pv 4) (fun _ _ => rfl)) (pv 5) (fun _ _ => rfl)) pe_int (nomark _))))) (pss_one (ps_ret pe_bl)) pss_nil)
      (pss_one (ps_for PassesOwn.never rfl (pi_range1 (by rfl) T.b_range (pa_cons (pe_callB (lenSq (F := K)) (by rfl) T.b_len (by decide +kernel) (pa_cons (pv 0) pa_nil)) pa_nil)) (pg_name (i := 6) sc.nd rfl (by first | exact Or.inl rfl | exact Or.inr rfl))
        (pss_cons (ps_set (i := 7) sc.nd rfl (Or.inl rfl) (pe_ix (ixSq (F := K)) (pe_ix (ixSq (F := K)) (pe_ix (ixSq (F := K)) (pv 0) (pv 5) (fun _ _ => rfl)) (pv 3) (fun _ _ => rfl)) (pv 6) (fun _ _ => rfl)))
        (pss_one (ps_if (PW.pt (pw_and (pt_cmpR op_notN (pe_ix (ixSq (F := K)) (pv 1) (pv 5) (fun _ _ => rfl)) pe_non (nomark _)) (pw_and (pt_cmpR op_notN (pe_ix (ixSq (F := K)) (pv 1) (pv 6) (fun _ _ => rfl)) pe_non (nomark _)) (pw_and1 (pt_cmpR op_notN (pv 7) pe_non (nomark _)))))) (pss_one (ps_if (pt_cmpR op_lt (pe_op op_sub (pe_ix (ixSq (F := K)) (pv 1) (pv 6) (fun _ _ => rfl)) (pe_ix (ixSq (F := K)) (pv 1) (pv 5) (fun _ _ => rfl))) (pv 7) (nomark _)) (pss_one (ps_ret pe_bl)) pss_nil)) pss_nil)))))))
    (pss_one (ps_ret pe_bl)))), ?_⟩
  rintro ds K' ⟨n, ties, tms, ⟨rw_, rr⟩, rfl, hn, n1, n2, k⟩
  show wpS Gm.pure _ [.dat (.list (rowsD ties n)), .dat (encT tms), .dat (.tuple [en rw_, en rr]), .no, .no, .no, .no, .no] _
  have g0 : atI (rowsD ties n) 0 = some (.list (rowsL ties n 0 (2 * n + 2))) := rowsD_get (v := 0) (by omega)
  refine wpS_seq (wpS_par (lt_ rfl) (lt_ rfl) (wpE.x (wpE_min2 (wpE_op opD_ix (wpE_var rfl (wpE_int ⟨_, _, _, rfl, rfl, rfl, _, rfl, wpE_op opD_I0 (wpE_len (wpE.Q (wpE_op opD_ix (wpE_var rfl (wpE_int ⟨_, _, _, rfl, rfl, g0, _, rfl, wpE_int ⟨_, _, rfl, rfl, _, rfl, wpE.x (wpE_min2 (wpE_op opD_ix (wpE_var rfl (wpE_int ⟨_, _, _, rfl, rfl, rfl, _, rfl, wpE_op opD_I0 (wpE_len (wpE.Q (wpE_op opD_ix (wpE_var rfl (wpE_int ⟨_, _, _, rfl, rfl, g0, _, rfl, wpE_int ⟨_, _, rfl, rfl, _, rfl, ?_⟩⟩)))))⟩))))⟩⟩)))))⟩))))))
  rw [rowsL_length, show ((2 * n + 2 + 1 : Nat) : Int) - 1 = ((2 * n + 2 : Nat) : Int) by omega, min2_nat, min2_nat]
  show wpS Gm.pure _ [.dat (.list (rowsD ties n)), .dat (encT tms), .dat (.tuple [en rw_, en rr]), .dat (en (min rw_ (2 * n + 2))), .dat (en (min rr (2 * n + 2))), .no, .no, .no] _
  have k : K' (.bool ((List.range n).all fun one => !badAt ties n tms (min rr (2 * n + 2)) one && (List.range n).all fun other => !shortP ties n tms (min rw_ (2 * n + 2)) one other)) := k
  have hW : min rw_ (2 * n + 2) ≤ 2 * n + 2 := Nat.min_le_right _ _
  have hR : min rr (2 * n + 2) ≤ 2 * n + 2 := Nat.min_le_right _ _
  generalize min rw_ (2 * n + 2) = W at k hW
  generalize min rr (2 * n + 2) = R at k hR
  refine wpS_seq (wpS_for tg_name (wpI_rng1 (wpA_cons (wpE_len (wpE.Q (wpE_var rfl ⟨_, rfl, wpA_nil ⟨_, rfl, ?_, ?_, ?_⟩⟩))))))
  · rw [rowsD_length]; omega
  · rw [rowsD_length]; omega
  rw [rowsD_length, Int.toNat_natCast]
  refine ⟨fun i ρ => (∃ (p q r : Sl), ρ = [.dat (.list (rowsD ties n)), .dat (encT tms), .dat (.tuple [en rw_, en rr]), .dat (en W), .dat (en R), p, q, r]) ∧ ((List.range n).take i).all (fun one => !badAt ties n tms R one && (List.range n).all fun other => !shortP ties n tms W one other) = true, ⟨⟨_, _, _, rfl⟩, rfl⟩, ?_, ?_⟩
  · rintro i d ρ' hi e ⟨⟨p, q, r, rfl⟩, hall⟩
    cases e
    refine ⟨_, rfl, ?_⟩
    show wpS Gm.pure _ [.dat (.list (rowsD ties n)), .dat (encT tms), .dat (.tuple [en rw_, en rr]), .dat (en W), .dat (en R), .dat (en i), q, r] _
    have gi := rowsD_get (ts := ties) hi
    have hri : (List.range n)[i]? = some i := List.getElem?_range hi
    have gt := get_enc (row := tms) (k := i) (by omega)
    obtain ⟨x, hx, _⟩ := rowAt_self (ts := ties) hi R
    have gx : atI ((rowAt ties n i R).map eo) ((i : Nat) : Int) = some (.int x) := by rw [get_enc (by rw [rowAt_length]; omega), hx]; rfl
    refine wpS_seq (wpS_if (wpT_and (wpT_test (wpE_op opD_is (wpE_op opD_ix (wpE_var rfl (wpE_var rfl ⟨_, _, _, rfl, rfl, gt, wpE_non ⟨rfl, _, rfl, ?_⟩⟩)))))))
    rw [isNon_eo]
    -- the inner loop
    have inner : badAt ties n tms R i = false → wpS Gm.pure (tFor (iRng1 (tCons (tCB (fun xs H Q => ∃ p ys, xs = [.ref p] ∧ (SqL K H p ys ∨ SqT K H p ys) ∧ Q (.int ys.length) H) (tCons (tVar 0) tNil)) tNil)) (gName 6)
        (tSeq (tAsg (tOp (rIx K) (tOp (rIx K) (tOp (rIx K) (tVar 0) (tVar 5)) (tVar 3)) (tVar 6)) (gName 7))
          (tIfS (tAnd (tTest (tOp (fun x y H Q => y = .non ∧ Q (.bl (!decide (x = .non))) H) (tOp (rIx K) (tVar 1) (tVar 5)) (tC .non))) (tAnd (tTest (tOp (fun x y H Q => y = .non ∧ Q (.bl (!decide (x = .non))) H) (tOp (rIx K) (tVar 1) (tVar 6)) (tC .non))) (tTest (tOp (fun x y H Q => y = .non ∧ Q (.bl (!decide (x = .non))) H) (tVar 7) (tC .non)))))
            (tIfS (tTest (tOp (rI0 fun i j => .bl (decide (i < j))) (tOp (rI0 fun i j => .int (i - j)) (tOp (rIx K) (tVar 1) (tVar 6)) (tOp (rIx K) (tVar 1) (tVar 5))) (tVar 7))) (tRet (tC (.bl false))) tNext) tNext)))
        [.dat (.list (rowsD ties n)), .dat (encT tms), .dat (.tuple [en rw_, en rr]), .dat (en W), .dat (en R), .dat (en i), q, r]
        { nx := fun ρ => (∃ (p q r : Sl), ρ = [.dat (.list (rowsD ties n)), .dat (encT tms), .dat (.tuple [en rw_, en rr]), .dat (en W), .dat (en R), p, q, r]) ∧ ((List.range n).take (i + 1)).all (fun one => !badAt ties n tms R one && (List.range n).all fun other => !shortP ties n tms W one other) = true, rt := fun r => match r with | .dat d => K' d | .own ds => K' (.list ds) | _ => False, bk := fun _ => False, ct := fun _ => False } := fun hb => by
      refine wpS_for tg_name (wpI_rng1 (wpA_cons (wpE_len (wpE.Q (wpE_var rfl ⟨_, rfl, wpA_nil ⟨_, rfl, ?_, ?_, ?_⟩⟩)))))
      · rw [rowsD_length]; omega
      · rw [rowsD_length]; omega
      rw [rowsD_length, Int.toNat_natCast]
      refine ⟨fun j ρ => (∃ (q r : Sl), ρ = [.dat (.list (rowsD ties n)), .dat (encT tms), .dat (.tuple [en rw_, en rr]), .dat (en W), .dat (en R), .dat (en i), q, r]) ∧ ((List.range n).take j).all (fun other => !shortP ties n tms W i other) = true, ⟨⟨_, _, rfl⟩, rfl⟩, ?_, ?_⟩
      · rintro j d ρ' hj e ⟨⟨q, r, rfl⟩, hall2⟩
        cases e
        refine ⟨_, rfl, ?_⟩
        show wpS Gm.pure _ [.dat (.list (rowsD ties n)), .dat (encT tms), .dat (.tuple [en rw_, en rr]), .dat (en W), .dat (en R), .dat (en i), .dat (en j), r] _
        have hrj : (List.range n)[j]? = some j := List.getElem?_range hj
        have gtj := get_enc (row := tms) (k := j) (by omega)
        have gw := get_enc (row := rowAt ties n i W) (k := j) (by rw [rowAt_length]; omega)
        refine wpS_seq (wpS_set (wpE_op opD_ix (wpE_op opD_ix (wpE_op opD_ix (wpE_var rfl (wpE_var rfl ⟨_, _, _, rfl, rfl, gi, wpE_var rfl ⟨_, _, _, rfl, rfl, atI_nat (rowsL_get hW), wpE_var rfl ⟨_, _, _, rfl, rfl, gw, ?_⟩⟩⟩))))))
        show wpS Gm.pure _ [.dat (.list (rowsD ties n)), .dat (encT tms), .dat (.tuple [en rw_, en rr]), .dat (en W), .dat (en R), .dat (en i), .dat (en j), .dat (eo ((rowAt ties n i W).getD j none))] _
        have no : shortP ties n tms W i j = false → (∃ (q r : Sl), ([.dat (.list (rowsD ties n)), .dat (encT tms), .dat (.tuple [en rw_, en rr]), .dat (en W), .dat (en R), .dat (en i), .dat (en j), .dat (eo ((rowAt ties n i W).getD j none))] : Rho) = [.dat (.list (rowsD ties n)), .dat (encT tms), .dat (.tuple [en rw_, en rr]), .dat (en W), .dat (en R), .dat (en i), q, r]) ∧ ((List.range n).take (j + 1)).all (fun other => !shortP ties n tms W i other) = true := fun h =>
          ⟨⟨_, _, rfl⟩, all_take hrj _ hall2 (by rw [h]; rfl)⟩
        refine wpS_if (wpT_and (wpT_test (wpE_op opD_isnt (wpE_op opD_ix (wpE_var rfl (wpE_var rfl ⟨_, _, _, rfl, rfl, gt, wpE_non ⟨rfl, _, rfl, ?_⟩⟩))))))
        rw [isNon_eo]
        cases hti : tms.getD i none with
        | none => exact wpS_nil (no (by rw [shortP, isSm, hti]; rfl))
        | some t1 =>
          refine wpT_and (wpT_test (wpE_op opD_isnt (wpE_op opD_ix (wpE_var rfl (wpE_var rfl ⟨_, _, _, rfl, rfl, gtj, wpE_non ⟨rfl, _, rfl, ?_⟩⟩)))))
          rw [isNon_eo]
          cases htj : tms.getD j none with
          | none => exact wpS_nil (no (by rw [shortP, isSm, isSm, hti, htj]; rfl))
          | some t2 =>
            refine wpT_test (wpE_op opD_isnt (wpE_var rfl (wpE_non ⟨rfl, _, rfl, ?_⟩)))
            rw [isNon_eo]
            have es : shortP ties n tms W i j = shortAt ties n tms W i j := by rw [shortP, isSm, isSm, hti, htj]; rfl
            have te1 : tAt tms i = t1 := by rw [tAt, hti]; rfl
            have te2 : tAt tms j = t2 := by rw [tAt, htj]; rfl
            cases hw : (rowAt ties n i W).getD j none with
            | none =>
              rw [hw] at no
              exact wpS_nil (no (by rw [es, shortAt, hw]))
            | some x =>
              rw [hw] at no
              have es2 : shortP ties n tms W i j = decide (t2 - t1 < x) := by rw [es, shortAt, hw]; show decide (tAt tms j - tAt tms i < x) = _; rw [te1, te2]
              have g1 : atI (tms.map eo) ((i : Nat) : Int) = some (.int t1) := by rw [gt, hti]; rfl
              have g2 : atI (tms.map eo) ((j : Nat) : Int) = some (.int t2) := by rw [gtj, htj]; rfl
              refine wpS_if (wpT_test (wpE_op opD_B0 (wpE_op opD_I0 (wpE_op opD_ix (wpE_var rfl (wpE_var rfl ⟨_, _, _, rfl, rfl, g2, wpE_op opD_ix (wpE_var rfl (wpE_var rfl ⟨_, _, _, rfl, rfl, g1, _, _, rfl, rfl, wpE_var rfl ⟨_, _, rfl, rfl, _, rfl, ?_⟩⟩))⟩))))))
              by_cases lt : t2 - t1 < x
              · rw [decide_eq_true lt, if_pos rfl]
                refine wpS_ret (wpE_bl ?_)
                have e : ((List.range n).all fun one => !badAt ties n tms R one && (List.range n).all fun other => !shortP ties n tms W one other) = false := all_at hri _ (by
                  show (!badAt ties n tms R i && _) = false
                  rw [show ((List.range n).all fun other => !shortP ties n tms W i other) = false from all_at hrj _ (by rw [es2, decide_eq_true lt]; rfl), Bool.and_false])
                rw [e] at k; exact k
              · rw [decide_eq_false lt, if_neg Bool.false_ne_true]
                exact wpS_nil (no (by rw [es2, decide_eq_false lt]))
      · rintro ρ' ⟨⟨q, r, rfl⟩, hall2⟩
        refine ⟨⟨_, _, _, rfl⟩, all_take hri _ hall ?_⟩
        show (!badAt ties n tms R i && _) = true
        rw [List.take_of_length_le (by rw [List.length_range]; exact Nat.le_refl _)] at hall2
        rw [hb, hall2]; rfl
    cases hti : tms.getD i none with
    | some t =>
      rw [Option.isNone_some, if_neg Bool.false_ne_true]
      exact wpS_nil ((inner (by rw [badAt, hti]; rfl)).imp (fun _ h => h) (fun _ h => h) (fun _ z => z.elim) (fun _ z => z.elim))
    | none =>
      rw [Option.isNone_none, if_pos rfl]
      refine wpT_test (wpE_op opD_B0 (wpE_op opD_ix (wpE_op opD_ix (wpE_op opD_ix (wpE_var rfl (wpE_var rfl ⟨_, _, _, rfl, rfl, gi, wpE_var rfl ⟨_, _, _, rfl, rfl, atI_nat (rowsL_get hR), wpE_var rfl ⟨_, _, _, rfl, rfl, gx, wpE_int ⟨_, _, rfl, rfl, _, rfl, ?_⟩⟩⟩⟩))))))
      have eb : badAt ties n tms R i = decide (0 < x) := by rw [badAt, hti, ringAt, hx]; rfl
      by_cases lt : 0 < x
      · rw [decide_eq_true lt, if_pos rfl]
        refine wpS_ret (wpE_bl ?_)
        have e : ((List.range n).all fun one => !badAt ties n tms R one && (List.range n).all fun other => !shortP ties n tms W one other) = false := all_at hri _ (by
          show (!badAt ties n tms R i && _) = false
          rw [eb, decide_eq_true lt]; rfl)
        rw [e] at k; exact k
      · rw [decide_eq_false lt, if_neg Bool.false_ne_true]
        exact wpS_nil ((inner (by rw [eb, decide_eq_false lt])).imp (fun _ h => h) (fun _ h => h) (fun _ z => z.elim) (fun _ z => z.elim))
  · rintro ρ' ⟨⟨p, q, r, rfl⟩, hall⟩
    refine wpS_ret (wpE_bl ?_)
    rw [List.take_of_length_le (by rw [List.length_range]; exact Nat.le_refl _)] at hall
    rw [hall] at k; exact k
end

end K42
/-! text P18 -/
set_option Elab.async false
set_option linter.all false
set_option maxRecDepth 100000
set_option maxHeartbeats 4000000
namespace K42
open PySem PySem.Spec PyProof.Rows L2

/-! The law's own reckonings, 3: limits, lots, hours, near batches. -/
section
variable {P : Program} {w : World} {K : PySem.W.Frag} {mg : Str → Option Value} {base : Heap}
def firstBad (ties : List TieT) (n : Nat) (tms : Tms) : Option Nat := if heldL ties n tms (2 * n, 0) then none else ((List.range (2 * n + 1)).filter fun m => !heldL ties n tms (m, 0)).head?
def firstRing (ties : List TieT) (n v : Nat) : Option Nat := if ringAt ties n n v then ((List.range (n + 1)).filter fun m => ringAt ties n m v).head? else none
def minO (q : Option Nat) : Option Nat → Option Nat
  | none => q
  | some f => match q with
    | none => some f
    | some g => some (min g f)
def limL (ties : List TieT) (n : Nat) (tms : Tms) : Option Nat × Option Nat := (firstBad ties n tms, (missL tms).foldl (fun q v => minO q (firstRing ties n v)) none)
theorem filter_cons {p : Nat → Bool} {n k : Nat} (h : k < n) (hp : p k = true) : ∃ x xs, (List.range n).filter p = x :: xs := by
  cases e : (List.range n).filter p with
  | nil =>
    have := List.filter_eq_nil_iff.mp e k (List.mem_range.mpr h)
    exact absurd hp this
  | cons x xs => exact ⟨x, xs, rfl⟩
def p_law_limits (ds : List PD) (K : PD → Prop) : Prop := ∃ (n : Nat) (ties : List TieT) (tms : Tms), ds = [.list (rowsD ties n), encT tms] ∧ tms.length = n ∧ 1 ≤ n ∧ n ≤ 100 ∧ K (encP (limL ties n tms))
abbrev s__law_limits : Stmt := top 63
abbrev N__law_limits : List Str := ["_law_rows_here", "_law_times_here", "_law_many", "_law_found", "_law_missing", "_law_thing", "_law_most", "_law_first"]
theorem sc__law_limits : FnScope N__law_limits ["_law_rows_here", "_law_times_here"] (defScope s__law_limits) := ⟨rfl, rfl, rfl, by decide +kernel, rfl, by decide +kernel, by decide +kernel⟩

theorem ok__law_limits (T : Tx mg) (D : Dn K mg "_law_limits" s__law_limits) (c__law_held : Cl P w K mg base 1 "_law_held" (SpP (p_law_held))) : Cl P w K mg base 2 "_law_limits" (SpP (p_law_limits)) := by
  have sc := sc__law_limits
  refine cl_pure D sc (fun _ _ _ _ _ _ us hl => match us, hl with | [_, _], _ => rfl) (fun ds K h => by obtain ⟨_, _, _, rfl, _⟩ := h; rfl) fun f cdv A outer s H E hr => ?_
  have hu := hr.units
  refine ⟨_, (pss_cons (ps_par (i := 2) (j := 3) (by rfl) sc.nd rfl rfl (by decide) rfl rfl (pa_cons (pe_callB (lenSq (F := K)) (by rfl) T.b_len (by decide +kernel) (pa_cons (pv 0) pa_nil)) (pa_cons (pe_lst (pa_cons pe_non (pa_cons pe_non pa_nil))) pa_nil)) (by rfl))
    (pss_cons (ps_setLc (i := 4) (own := [("_law_thing", 5)]) (g := gName 5) (by rfl) sc.nd rfl rfl (sw_true rfl rfl rfl (by decide +kernel)) (pi_range1 (by rfl) T.b_range (pa_cons (pv 2) pa_nil)) (blkOk_by (own := [("_law_thing", 5)]) (N := N__law_limits) (sc := (defScope s__law_limits)) (by decide +kernel)) (fun _ _ _ _ _ => (pg_name (i := 5) sc.nd rfl (by first | exact Or.inl rfl | exact Or.inr rfl))) (fun _ _ _ _ _ => (pts_one (pt_cmpR op_isN (pe_ix (ixSq (F := K)) (pv 1) (pv 5) (fun _ _ => rfl)) pe_non (nomark _)))) (fun _ _ _ _ _ => (pv 5)))
    (pss_cons (ps_if (pt_not (pt_val (pe_cl c__law_held hr (by first | decide | omega) (by rfl) (pa_cons (pv 0) (pa_cons (pv 1) (pa_cons (pe_tup (pa_cons (pe_op op_mul pe_int (pv 2)) (pa_cons pe_int pa_nil))) pa_nil)))))) (pss_one (ps_asg (pe_ix (ixSq (F := K)) (pe_lc (own := [("_law_most", 6)]) (g := gName 6) (by rfl) sc.nd (pi_range1 (by rfl) T.b_range (pa_cons (pe_op op_add (pe_op op_mul pe_int (pv 2)) pe_int) pa_nil)) (blkOk_by (own := [("_law_most", 6)]) (N := N__law_limits) (sc := (defScope s__law_limits)) (by decide +kernel)) (fun _ _ _ _ _ => (pg_name (i := 6) sc.nd rfl (by first | exact Or.inl rfl | exact Or.inr rfl))) (fun _ _ _ _ _ => (pts_one (pt_not (pt_val (pe_cl c__law_held hr (by first | decide | omega) (by rfl) (pa_cons (pv 0) (pa_cons (pv 1) (pa_cons (pe_tup (pa_cons (pv 6) (pa_cons pe_int pa_nil))) pa_nil)))))))) (fun _ _ _ _ _ => (pv 6))) pe_int (fun _ _ => rfl)) (pg_sub (pv 3) pe_int set_list))) pss_nil)
    (pss_cons (ps_for PassesOwn.never rfl (pi_list (pv 4)) (pg_name (i := 5) sc.nd rfl (by first | exact Or.inl rfl | exact Or.inr rfl))
      (pss_one (ps_if (pt_cmpR op_gt (pe_ix (ixSq (F := K)) (pe_ix (ixSq (F := K)) (pe_ix (ixSq (F := K)) (pv 0) (pv 5) (fun _ _ => rfl)) (pv 2) (fun _ _ => rfl)) (pv 5) (fun _ _ => rfl)) pe_int (nomark _)) (pss_cons (ps_set (i := 7) sc.nd rfl (Or.inl rfl) (pe_ix (ixSq (F := K)) (pe_lc (own := [("_law_most", 6)]) (g := gName 6) (by rfl) sc.nd (pi_range1 (by rfl) T.b_range (pa_cons (pe_op op_add (pv 2) pe_int) pa_nil)) (blkOk_by (own := [("_law_most", 6)]) (N := N__law_limits) (sc := (defScope s__law_limits)) (by decide +kernel)) (fun _ _ _ _ _ => (pg_name (i := 6) sc.nd rfl (by first | exact Or.inl rfl | exact Or.inr rfl))) (fun _ _ _ _ _ => (pts_one (pt_cmpR op_gt (pe_ix (ixSq (F := K)) (pe_ix (ixSq (F := K)) (pe_ix (ixSq (F := K)) (pv 0) (pv 5) (fun _ _ => rfl)) (pv 6) (fun _ _ => rfl)) (pv 5) (fun _ _ => rfl)) pe_int (nomark _)))) (fun _ _ _ _ _ => (pv 6))) pe_int (fun _ _ => rfl)))
        (pss_one (ps_asg (pe_ifExp (pt_cmpR op_isN (pe_ix (ixSq (F := K)) (pv 3) pe_int (fun _ _ => rfl)) pe_non (nomark _)) (pv 7) (pe_callB (call_min2 rfl) (by rfl) T.b_min (by decide +kernel) (pa_cons (pe_ix (ixSq (F := K)) (pv 3) pe_int (fun _ _ => rfl)) (pa_cons (pv 7) pa_nil)))) (pg_sub (pv 3) pe_int set_list)))) pss_nil)))
    (pss_one (ps_ret (pe_tup (pa_cons (pe_ix (ixSq (F := K)) (pv 3) pe_int (fun _ _ => rfl)) (pa_cons (pe_ix (ixSq (F := K)) (pv 3) pe_int (fun _ _ => rfl)) pa_nil))))))))), ?_⟩
  rintro ds K' ⟨n, ties, tms, rfl, hn, n1, n2, k⟩
  show wpS Gm.pure _ [.dat (.list (rowsD ties n)), .dat (encT tms), .no, .no, .no, .no, .no, .no] _
  refine wpS_seq (wpS_par (lt_ rfl) (lt_ rfl) (wpE.x (wpE_len (wpE.Q (wpE_var rfl ⟨_, rfl, wpN.x (wpN_lst (wpA_cons (wpE_non (wpA_cons (wpE_non (wpA_nil ⟨[_, _], rfl, le_ rfl, ?_⟩))))))⟩)))))
  rw [rowsD_length]
  show wpS Gm.pure _ [.dat (.list (rowsD ties n)), .dat (encT tms), .dat (en n), .own [eoN none, eoN none], .no, .no, .no, .no] _
  refine wpS_seq (wpS_setN (lt_ rfl) (wpN_lcF tg_name (by decide) rfl (wpI_rng1 (wpA_cons (wpE_var rfl (wpA_nil ⟨_, rfl, by omega, by omega, by omega, fun i => (tms.getD i none).isNone, en, fun i d hi e => ?_, ?_⟩))))))
  · cases e
    refine ⟨_, rfl, wpT_test (wpE_op opD_is (wpE_op opD_ix (wpE_var rfl (wpE_var rfl ⟨_, _, _, rfl, rfl, get_enc (row := tms) (by omega), wpE_non ⟨rfl, _, rfl, ?_, fun _ => wpE_var rfl rfl⟩⟩))))⟩
    exact isNon_eo _
  have em : ((List.range ((n : Int)).toNat).filter fun i => (tms.getD i none).isNone).map en = (missL tms).map en := by rw [Int.toNat_natCast, missL, hn]
  rw [em]
  show wpS Gm.pure _ [.dat (.list (rowsD ties n)), .dat (encT tms), .dat (en n), .own [eoN none, eoN none], .own ((missL tms).map en), .no, .no, .no] _
  refine wpS_free (i := 4) rfl ?_
  show wpS Gm.pure _ [.dat (.list (rowsD ties n)), .dat (encT tms), .dat (en n), .own [eoN none, eoN none], .dat (.list ((missL tms).map en)), .no, .no, .no] _
  refine wpS_seq (wpS.imp (E := ⟨fun ρ => ρ = [.dat (.list (rowsD ties n)), .dat (encT tms), .dat (en n), .own [eoN (firstBad ties n tms), eoN none], .dat (.list ((missL tms).map en)), .no, .no, .no], fun _ => False, fun _ => False, fun _ => False⟩) ?_ ?_ (fun _ z => z.elim) (fun _ z => z.elim) (fun _ z => z.elim))
  · refine wpS_if (wpT_not (wpT_test (wpE_callP (wpA_cons (wpE_var rfl (wpA_cons (wpE_var rfl (wpA_cons (wpE_tup (wpA_cons (wpE_op opD_I (wpE_int (wpE_var rfl ⟨_, _, rfl, rfl, .inl (by decide), wpA_cons (wpE_int (wpA_nil ⟨[_, _], rfl, le_ rfl, wpA_nil ⟨[_, _, _], rfl, n, ties, tms, (2 * n, 0), ?_, hn, n1, n2, _, rfl, ?_⟩⟩))⟩)))))))))))))
    · rw [show (2 : Int) * (n : Int) = ((2 * n : Nat) : Int) by omega]; rfl
    have ef : firstBad ties n tms = if heldL ties n tms (2 * n, 0) then none else ((List.range (2 * n + 1)).filter fun m => !heldL ties n tms (m, 0)).head? := rfl
    cases hh : heldL ties n tms (2 * n, 0) with
    | true =>
      rw [hh] at ef
      show if (!true) = true then _ else _
      rw [Bool.not_true, if_neg Bool.false_ne_true]
      refine wpS_nil ?_
      rw [ef]; rfl
    | false =>
      rw [hh, if_neg Bool.false_ne_true] at ef
      show if (!false) = true then _ else _
      rw [Bool.not_false, if_pos rfl]
      refine wpS_setL rfl (wpE_op opD_ix (wpN.E (wpN_lcF tg_name (by decide) rfl (wpI_rng1 (wpA_cons (wpE_op opD_I0 (wpE_op opD_I (wpE_int (wpE_var rfl ⟨_, _, rfl, rfl, .inl (by decide), wpE_int ⟨_, _, rfl, rfl, wpA_nil ⟨_, rfl, by omega, by omega, by omega, fun m => !heldL ties n tms (m, 0), en, ?_, wpE_int ?_⟩⟩⟩)))))))))
      · intro m d hm e
        cases e
        refine ⟨_, rfl, wpT_not (wpT_test (wpE_callP (wpA_cons (wpE_var rfl (wpA_cons (wpE_var rfl (wpA_cons (wpE_tup (wpA_cons (wpE_var rfl (wpA_cons (wpE_int (wpA_nil ⟨[_, _], rfl, le_ rfl, wpA_nil ⟨[_, _, _], rfl, n, ties, tms, (m, 0), rfl, hn, n1, n2, _, rfl, rfl, fun _ => wpE_var rfl rfl⟩⟩)))))))))))))⟩
      · rw [show ((2 : Int) * (n : Int) + 1).toNat = 2 * n + 1 by omega]
        obtain ⟨x, xs, e⟩ := filter_cons (p := fun m => !heldL ties n tms (m, 0)) (show 2 * n < 2 * n + 1 by omega) (by rw [hh]; rfl)
        rw [e] at ef ⊢
        refine ⟨_, _, _, rfl, rfl, at_0 _ _, wpE_int ⟨_, 0, rfl, rfl, ?_⟩⟩
        rw [ef]; rfl
  rintro ρ' rfl
  refine wpS_seq (wpS_for tg_name (wpI_list (wpE_var rfl ⟨_, rfl, fun i ρ => ∃ (x y : Sl), ρ = [.dat (.list (rowsD ties n)), .dat (encT tms), .dat (en n), .own [eoN (firstBad ties n tms), eoN (((missL tms).take i).foldl (fun q v => minO q (firstRing ties n v)) none)], .dat (.list ((missL tms).map en)), x, .no, y], ⟨_, _, rfl⟩, ?_, ?_⟩)))
  · rintro i d ρ' hi e ⟨x, y, rfl⟩
    obtain ⟨v, hv, rfl⟩ := map_get e
    refine ⟨_, rfl, ?_⟩
    have vl := miss_lt (List.mem_of_getElem? hv)
    have nx := foldl_take hv (fun q v => minO q (firstRing ties n v)) none
    generalize ((missL tms).take i).foldl (fun q v => minO q (firstRing ties n v)) none = q at nx
    show wpS Gm.pure _ [.dat (.list (rowsD ties n)), .dat (encT tms), .dat (en n), .own [eoN (firstBad ties n tms), eoN q], .dat (.list ((missL tms).map en)), .dat (en v), .no, y] _
    have gv := rowsD_get (ts := ties) (n := n) (v := v) (by omega)
    have own : ∀ m, m ≤ n → ∃ z, atI ((rowAt ties n v m).map eo) ((v : Nat) : Int) = some (.int z) ∧ ringAt ties n m v = decide (0 < z) := fun m _ => by
      obtain ⟨z, hz, _⟩ := rowAt_self (ts := ties) (show v < n by omega) m
      exact ⟨z, by rw [get_enc (by rw [rowAt_length]; omega), hz]; rfl, by rw [ringAt, hz]; rfl⟩
    obtain ⟨z, gz, ez⟩ := own n (Nat.le_refl _)
    have ef : firstRing ties n v = if ringAt ties n n v then ((List.range (n + 1)).filter fun m => ringAt ties n m v).head? else none := rfl
    refine wpS_if (wpT_test (wpE_op opD_B0 (wpE_op opD_ix (wpE_op opD_ix (wpE_op opD_ix (wpE_var rfl (wpE_var rfl ⟨_, _, _, rfl, rfl, gv, wpE_var rfl ⟨_, _, _, rfl, rfl, atI_nat (rowsL_get (by omega)), wpE_var rfl ⟨_, _, _, rfl, rfl, gz, wpE_int ⟨_, _, rfl, rfl, _, rfl, ?_⟩⟩⟩⟩)))))))
    rw [← ez]
    cases hr : ringAt ties n n v with
    | false =>
      rw [if_neg Bool.false_ne_true]
      rw [hr] at ef
      refine wpS_nil ⟨.dat (en v), y, ?_⟩
      rw [nx, ef]; rfl
    | true =>
      rw [if_pos rfl]
      rw [hr, if_pos rfl] at ef
      obtain ⟨x, xs, e⟩ := filter_cons (p := fun m => ringAt ties n m v) (show n < n + 1 by omega) hr
      refine wpS_seq (wpS_set (wpE_op opD_ix (wpN.E (wpN_lcF tg_name (by decide) rfl (wpI_rng1 (wpA_cons (wpE_op opD_I0 (wpE_var rfl (wpE_int ⟨_, _, rfl, rfl, wpA_nil ⟨_, rfl, by omega, by omega, by omega, fun m => ringAt ties n m v, en, ?_, wpE_int ?_⟩⟩)))))))))
      · intro m d hm e
        cases e
        obtain ⟨z, gz, ez⟩ := own m (by omega)
        exact ⟨_, rfl, wpT_test (wpE_op opD_B0 (wpE_op opD_ix (wpE_op opD_ix (wpE_op opD_ix (wpE_var rfl (wpE_var rfl ⟨_, _, _, rfl, rfl, gv, wpE_var rfl ⟨_, _, _, rfl, rfl, atI_nat (rowsL_get (by omega)), wpE_var rfl ⟨_, _, _, rfl, rfl, gz, wpE_int ⟨_, _, rfl, rfl, _, rfl, ez.symm, fun _ => wpE_var rfl rfl⟩⟩⟩⟩))))))⟩
      rw [show ((n : Int) + 1).toNat = n + 1 by omega, e]
      rw [e] at ef
      have ef : firstRing ties n v = some x := ef
      refine ⟨_, _, _, rfl, rfl, at_0 _ _, ?_⟩
      show wpS Gm.pure _ [.dat (.list (rowsD ties n)), .dat (encT tms), .dat (en n), .own [eoN (firstBad ties n tms), eoN q], .dat (.list ((missL tms).map en)), .dat (en v), .no, .dat (en x)] _
      refine wpS_setL rfl (wpE_if (wpT_test (wpE_op opD_is (wpE_ixO rfl (wpE_int ⟨_, _, rfl, rfl, wpE_non ⟨rfl, _, rfl, ?_⟩⟩)))))
      rw [eoN_isNon]
      cases q with
      | none =>
        refine wpE_var rfl (wpE_int ⟨_, 1, rfl, rfl, .dat (en v), .dat (en x), ?_⟩)
        rw [nx, ef]; rfl
      | some g =>
        refine wpE_min2 (wpE_ixO rfl (wpE_int ⟨_, _, rfl, rfl, _, rfl, wpE_var rfl ⟨_, rfl, wpE_int ⟨_, 1, rfl, rfl, .dat (en v), .dat (en x), ?_⟩⟩⟩))
        rw [min2_nat, nx, ef]; rfl
  · rintro ρ' ⟨x, y, rfl⟩
    rw [List.length_map, List.take_length]
    exact wpS_ret (wpE_tup (wpA_cons (wpE_ixO rfl (wpE_int ⟨_, _, rfl, rfl, wpA_cons (wpE_ixO rfl (wpE_int ⟨_, _, rfl, rfl, wpA_nil ⟨[_, _], rfl, le_ rfl, k⟩⟩))⟩))))
/-! ### lots -/
abbrev encN (xs : List Nat) : PD := .list (xs.map en)
def lotStep (most : Nat) (f : List (List Nat)) (t : Nat) : List (List Nat) := f ++ (f.filter fun l => decide (l.length < most)).map (· ++ [t])
def lotsF (most : Nat) (ms : List Nat) : List (List Nat) := ms.foldl (lotStep most) [[]]
theorem lotStep_len {most : Nat} {f : List (List Nat)} {t k : Nat} (h : f.length ≤ k) : (lotStep most f t).length ≤ 2 * k := by
  have := List.length_filter_le (fun l : List Nat => decide (l.length < most)) f
  rw [lotStep, List.length_append, List.length_map]
  omega
theorem lots_len (most : Nat) : ∀ (ms : List Nat) (f : List (List Nat)) (k : Nat), f.length ≤ k → (ms.foldl (lotStep most) f).length ≤ 2 ^ ms.length * k
  | [], f, k, h => by simpa using h
  | t :: ms, f, k, h => by
    have := lots_len most ms (lotStep most f t) (2 * k) (lotStep_len h)
    rw [List.length_cons, Nat.pow_succ, Nat.mul_assoc]
    exact this
theorem lotsF_len {most : Nat} {ms : List Nat} (h : ms.length ≤ 12) : (lotsF most ms).length ≤ 4096 := by
  have h1 := lots_len most ms [[]] 1 (Nat.le_refl _)
  have h2 : 2 ^ ms.length ≤ 2 ^ 12 := Nat.pow_le_pow_right (by decide) h
  rw [lotsF]; omega
def p_law_lots (ds : List PD) (K : PD → Prop) : Prop := ∃ (ms : List Nat) (most : Nat), ds = [encN ms, en most] ∧ ms.length ≤ 12 ∧ K (.list (((lotsF most ms).drop 1).map encN))
theorem lotInner_len (most : Nat) : ∀ (ms : List Nat) (f : List (List Nat)) (k : Nat), (∀ l ∈ f, l.length ≤ k) → ∀ l ∈ ms.foldl (lotStep most) f, l.length ≤ k + ms.length
  | [], f, k, h => fun l hl => by have := h l hl; simpa using this
  | t :: ms, f, k, h => fun l hl => by
    have := lotInner_len most ms (lotStep most f t) (k + 1) (fun l hl => by
      rcases List.mem_append.mp hl with z | z
      · have := h l z; omega
      · obtain ⟨y, hy, rfl⟩ := List.mem_map.mp z
        have := h y (List.mem_filter.mp hy).1
        rw [List.length_append, List.length_singleton]; omega) l hl
    rw [List.length_cons]; omega
abbrev s__law_lots : Stmt := top 70
abbrev N__law_lots : List Str := ["_law_missing", "_law_most", "_law_found", "_law_thing", "_law_lot"]
theorem sc__law_lots : FnScope N__law_lots ["_law_missing", "_law_most"] (defScope s__law_lots) := ⟨rfl, rfl, rfl, by decide +kernel, rfl, by decide +kernel, by decide +kernel⟩

theorem ok__law_lots (T : Tx mg) (D : Dn K mg "_law_lots" s__law_lots) : Cl P w K mg base 1 "_law_lots" (SpP (p_law_lots)) := by
  have sc := sc__law_lots
  refine cl_pure D sc (fun _ _ _ _ _ _ us hl => match us, hl with | [_, _], _ => rfl) (fun ds K h => by obtain ⟨_, _, rfl, _⟩ := h; rfl) fun f cdv A outer s H E hr => ?_
  have hu := hr.units
  refine ⟨_, (pss_cons (ps_set (i := 2) sc.nd rfl (Or.inl rfl) (pe_lst (pa_cons (pe_lst pa_nil) pa_nil)))
    (pss_cons (ps_for PassesOwn.never rfl (pi_list (pv 0)) (pg_name (i := 3) sc.nd rfl (by first | exact Or.inl rfl | exact Or.inr rfl))
      (pss_one (ps_set (i := 2) sc.nd rfl (Or.inl rfl) (pe_op op_cat (pv 2) (pe_lc (own := [("_law_lot", 4)]) (g := gName 4) (by rfl) sc.nd (pi_list (pv 2)) (blkOk_by (own := [("_law_lot", 4)]) (N := N__law_lots) (sc := (defScope s__law_lots)) (by decide +kernel)) (fun _ _ _ _ _ => (pg_name (i := 4) sc.nd rfl (by first | exact Or.inl rfl | exact Or.inr rfl))) (fun _ _ _ _ _ => (pts_one (pt_cmpR op_lt (pe_callB (lenSq (F := K)) (by rfl) T.b_len (by decide +kernel) (pa_cons (pv 4) pa_nil)) (pv 1) (nomark _)))) (fun _ _ _ _ _ => (pe_op op_cat (pv 4) (pe_lst (pa_cons (pv 3) pa_nil)))))))))
    (pss_one (ps_ret (pe_slice sl_list (pv 2) (po_some pe_int) po_none))))), ?_⟩
  rintro ds K' ⟨ms, most, rfl, hl, k⟩
  show wpS Gm.pure _ [.dat (encN ms), .dat (en most), .no, .no, .no] _
  refine wpS_seq (wpS_setN (lt_ rfl) (wpN_lst (wpA_cons (wpN.E (wpN_lst (wpA_nil ⟨[], rfl, le_ rfl, wpA_nil ⟨[_], rfl, le_ rfl, ?_⟩⟩))))))
  show wpS Gm.pure _ [.dat (encN ms), .dat (en most), .own ([[]].map encN), .no, .no] _
  refine wpS_seq (wpS_for tg_name (wpI_list (wpE_var rfl ⟨_, rfl, fun i ρ => ∃ (x : Sl), ρ = [.dat (encN ms), .dat (en most), .own (((ms.take i).foldl (lotStep most) [[]]).map encN), x, .no], ⟨_, rfl⟩, ?_, ?_⟩)))
  · rintro i d ρ' hi e ⟨x, rfl⟩
    obtain ⟨t, ht, rfl⟩ := map_get e
    refine ⟨_, rfl, ?_⟩
    have nx := foldl_take ht (lotStep most) [[]]
    have fl : ((ms.take i).foldl (lotStep most) [[]]).length ≤ 4096 := lotsF_len (by rw [List.length_take]; omega)
    have il : ∀ l ∈ (ms.take i).foldl (lotStep most) [[]], l.length ≤ 12 := fun l hl' => by
      have := lotInner_len most (ms.take i) [[]] 0 (fun l h => by rw [List.mem_singleton.mp h]; exact Nat.le_refl _) l hl'
      rw [List.length_take] at this; omega
    generalize (ms.take i).foldl (lotStep most) [[]] = f at nx fl il
    show wpS Gm.pure _ [.dat (encN ms), .dat (en most), .own (f.map encN), .dat (en t), .no] _
    refine wpS_setN (lt_ rfl) (wpN_cat (wpL_var rfl (wpN.L (wpN_lcS tg_name (by decide) rfl (wpI_own (wpL_var rfl ⟨by rw [map_len]; omega, List Nat, f, encN, fun l => decide (l.length < most), fun l => encN (l ++ [t]), ⟨map_len, fun i => List.getElem?_map ..⟩, fun i l hl' => ?_, ?_, ?_⟩))))))
    · have := il l (List.mem_of_getElem? hl')
      refine ⟨_, rfl, wpT_test (wpE_op opD_B0 (wpE_len (wpE.Q (wpE_var rfl ⟨_, rfl, wpE_var rfl ⟨_, _, rfl, rfl, _, rfl, ?_, fun _ => wpN.E (wpN_cat (wpE.L (wpE_var rfl ⟨_, rfl, wpN.L (wpN_lst (wpA_cons (wpE_var rfl (wpA_nil ⟨[_], rfl, le_ rfl, ?_, ?_⟩))))⟩)))⟩⟩))))⟩
      · rw [map_len]; simp
      · rw [map_len]; show l.length + 1 ≤ _; omega
      · show PyData.list (l.map en ++ [en t]) = _
        rw [map_snoc (f := en)]
    · have := List.length_filter_le (fun l : List Nat => decide (l.length < most)) f
      rw [map_len, map_len]; omega
    · refine ⟨.dat (en t), ?_⟩
      rw [nx, lotStep, List.map_append, List.map_map]; rfl
  · rintro ρ' ⟨x, rfl⟩
    rw [List.length_map, List.take_length]
    refine wpS_retN (wpN_slL (wpL_var rfl (wpO_some (wpE_int ⟨_, rfl, wpO_none ?_⟩))))
    have ec : cutD ((ms.foldl (lotStep most) [[]]).map encN) (some 1) none = (((lotsF most ms).drop 1).map encN) := by
      rw [List.map_drop]
      show cutD ((lotsF most ms).map encN) (some 1) none = _
      cases (lotsF most ms).map encN with
      | nil => rfl
      | cons x xs => rw [cut_1]; rfl
    rw [ec]; exact k
end

end K42
/-! text P19 -/
set_option Elab.async false
set_option linter.all false
set_option maxRecDepth 100000
set_option maxHeartbeats 4000000
namespace K42
open PySem PySem.Spec PyProof.Rows L2

/-! The law's own reckonings, 4: hours, near batches, times. -/
section
variable {P : Program} {w : World} {K : PySem.W.Frag} {mg : Str → Option Value} {base : Heap}
def hiStep (tms : Tms) (v : Nat) (h : Int) (t : TieT) : Int := if t.1 = v then (match tms.getD t.2.1 none with
  | some x => if x - t.2.2 < h then x - t.2.2 else h
  | none => h) else h
def loStep (tms : Tms) (v : Nat) (l : Int) (t : TieT) : Int := if t.2.1 = v then (match tms.getD t.1 none with
  | some x => if x + t.2.2 > l then x + t.2.2 else l
  | none => l) else l
def hoursOf (ties : List TieT) (tms : Tms) (v : Nat) (s : Int × Int) : Int × Int := (ties.foldl (loStep tms v) s.1, ties.foldl (hiStep tms v) s.2)
abbrev encI (s : Int × Int) : PD := .tuple [.int s.1, .int s.2]
def p_law_hours (ds : List PD) (K : PD → Prop) : Prop := ∃ (ties : List TieT) (tms : Tms) (v : Nat) (s : Int × Int), ds = [.tuple (ties.map et), encT tms, en v, encI s] ∧ okTs tms.length ties ∧ K (encI (hoursOf ties tms v s))
abbrev s__law_hours : Stmt := top 71
abbrev N__law_hours : List Str := ["_law_ties_here", "_law_times_here", "_law_thing", "_law_span", "_law_low", "_law_high", "_law_one", "_law_other", "_law_weight"]
theorem sc__law_hours : FnScope N__law_hours ["_law_ties_here", "_law_times_here", "_law_thing", "_law_span"] (defScope s__law_hours) := ⟨rfl, rfl, rfl, by decide +kernel, rfl, by decide +kernel, by decide +kernel⟩

theorem ok__law_hours (T : Tx mg) (D : Dn K mg "_law_hours" s__law_hours) : Cl P w K mg base 1 "_law_hours" (SpP (p_law_hours)) := by
  have sc := sc__law_hours
  refine cl_pure D sc (fun _ _ _ _ _ _ us hl => match us, hl with | [_, _, _, _], _ => rfl) (fun ds K h => by obtain ⟨_, _, _, _, rfl, _⟩ := h; rfl) fun f cdv A outer s H E hr => ?_
  have hu := hr.units
  refine ⟨_, (pss_cons (ps_asg (pv 3) (pg_tup rfl (pgs_cons (pg_name (i := 4) sc.nd rfl (by first | exact Or.inl rfl | exact Or.inr rfl)) (pgs_cons (pg_name (i := 5) sc.nd rfl (by first | exact Or.inl rfl | exact Or.inr rfl)) pgs_nil))))
    (pss_cons (ps_for PassesOwn.never rfl (pi_tup (pv 0)) (pg_tup rfl (pgs_cons (pg_name (i := 6) sc.nd rfl (by first | exact Or.inl rfl | exact Or.inr rfl)) (pgs_cons (pg_name (i := 7) sc.nd rfl (by first | exact Or.inl rfl | exact Or.inr rfl)) (pgs_cons (pg_name (i := 8) sc.nd rfl (by first | exact Or.inl rfl | exact Or.inr rfl)) pgs_nil))))
      (pss_cons (ps_if (PW.pt (pw_and (pt_cmpR (opEq (F := K) hu) (pv 6) (pv 2) (nomark _)) (pw_and1 (pt_cmpR op_notN (pe_ix (ixSq (F := K)) (pv 1) (pv 7) (fun _ _ => rfl)) pe_non (nomark _))))) (pss_one (ps_set (i := 5) sc.nd rfl (Or.inl rfl) (pe_callB (call_min2 rfl) (by rfl) T.b_min (by decide +kernel) (pa_cons (pv 5) (pa_cons (pe_op op_sub (pe_ix (ixSq (F := K)) (pv 1) (pv 7) (fun _ _ => rfl)) (pv 8)) pa_nil))))) pss_nil)
      (pss_one (ps_if (PW.pt (pw_and (pt_cmpR (opEq (F := K) hu) (pv 7) (pv 2) (nomark _)) (pw_and1 (pt_cmpR op_notN (pe_ix (ixSq (F := K)) (pv 1) (pv 6) (fun _ _ => rfl)) pe_non (nomark _))))) (pss_one (ps_set (i := 4) sc.nd rfl (Or.inl rfl) (pe_callB (call_max2 rfl) (by rfl) T.b_max (by decide +kernel) (pa_cons (pv 4) (pa_cons (pe_op op_add (pe_ix (ixSq (F := K)) (pv 1) (pv 6) (fun _ _ => rfl)) (pv 8)) pa_nil))))) pss_nil))))
    (pss_one (ps_ret (pe_tup (pa_cons (pv 4) (pa_cons (pv 5) pa_nil))))))), ?_⟩
  rintro ds K' ⟨ties, tms, v, ⟨lo, hi⟩, rfl, ok, k⟩
  show wpS Gm.pure _ [.dat (.tuple (ties.map et)), .dat (encT tms), .dat (en v), .dat (.tuple [.int lo, .int hi]), .no, .no, .no, .no, .no] _
  refine wpS_seq (wpS_asg (tg_tup (js := [4, 5]) rfl rfl) (wpE_var rfl ⟨_, rfl, ?_⟩))
  show wpS Gm.pure _ [.dat (.tuple (ties.map et)), .dat (encT tms), .dat (en v), .dat (.tuple [.int lo, .int hi]), .dat (.int lo), .dat (.int hi), .no, .no, .no] _
  refine wpS_seq (wpS_for (tg_tup (js := [6, 7, 8]) rfl rfl) (wpI_tup (wpE_var rfl ⟨_, rfl, fun i ρ => ∃ (x y z : Sl), ρ = [.dat (.tuple (ties.map et)), .dat (encT tms), .dat (en v), .dat (.tuple [.int lo, .int hi]), .dat (.int ((ties.take i).foldl (loStep tms v) lo)), .dat (.int ((ties.take i).foldl (hiStep tms v) hi)), x, y, z], ⟨_, _, _, rfl⟩, ?_, ?_⟩)))
  · rintro i d ρ' hi' e ⟨x, y, z, rfl⟩
    obtain ⟨t, ht, rfl⟩ := map_get e
    refine ⟨_, rfl, ?_⟩
    obtain ⟨l1, l2⟩ := ok t (List.mem_of_getElem? ht)
    have nl := foldl_take ht (loStep tms v) lo
    have nh := foldl_take ht (hiStep tms v) hi
    generalize (ties.take i).foldl (loStep tms v) lo = L at nl
    generalize (ties.take i).foldl (hiStep tms v) hi = G at nh
    show wpS Gm.pure _ [.dat (.tuple (ties.map et)), .dat (encT tms), .dat (en v), .dat (.tuple [.int lo, .int hi]), .dat (.int L), .dat (.int G), .dat (en t.1), .dat (en t.2.1), .dat (.int t.2.2)] _
    have g1 := get_enc (row := tms) l1
    have g2 := get_enc (row := tms) l2
    -- the second half, from any upper bound
    have second : ∀ G', (ties.take (i + 1)).foldl (hiStep tms v) hi = G' → wpS Gm.pure (tIfS (tAnd (tTest (tOp (rEqD K) (tVar 7) (tVar 2))) (tTest (tOp (fun x y H Q => y = .non ∧ Q (.bl (!decide (x = .non))) H) (tOp (rIx K) (tVar 1) (tVar 6)) (tC .non)))) (tAsg (tCB (fun xs H Q => ∃ i j, xs = [L2.V.int i, .int j] ∧ Q (.int (if j > i then j else i)) H) (tCons (tVar 4) (tCons (tOp (rI0 fun i j => .int (i + j)) (tOp (rIx K) (tVar 1) (tVar 6)) (tVar 8)) tNil))) (gName 4)) tNext)
        [.dat (.tuple (ties.map et)), .dat (encT tms), .dat (en v), .dat (.tuple [.int lo, .int hi]), .dat (.int L), .dat (.int G'), .dat (en t.1), .dat (en t.2.1), .dat (.int t.2.2)]
        { nx := fun ρ => ∃ (x y z : Sl), ρ = [.dat (.tuple (ties.map et)), .dat (encT tms), .dat (en v), .dat (.tuple [.int lo, .int hi]), .dat (.int ((ties.take (i + 1)).foldl (loStep tms v) lo)), .dat (.int ((ties.take (i + 1)).foldl (hiStep tms v) hi)), x, y, z], rt := fun _ => False, bk := fun _ => False, ct := fun _ => False } := fun G' eG => by
      have fin : ∀ L', loStep tms v L t = L' → ∃ (x y z : Sl), ([.dat (.tuple (ties.map et)), .dat (encT tms), .dat (en v), .dat (.tuple [.int lo, .int hi]), .dat (.int L'), .dat (.int G'), .dat (en t.1), .dat (en t.2.1), .dat (.int t.2.2)] : Rho) = [.dat (.tuple (ties.map et)), .dat (encT tms), .dat (en v), .dat (.tuple [.int lo, .int hi]), .dat (.int ((ties.take (i + 1)).foldl (loStep tms v) lo)), .dat (.int ((ties.take (i + 1)).foldl (hiStep tms v) hi)), x, y, z] := fun L' eL => ⟨_, _, _, by rw [nl, eL, eG]⟩
      refine wpS_if (wpT_and (wpT_test (wpE_op opD_eq (wpE_var rfl (wpE_var rfl ⟨rfl, rfl, _, rfl, ?_⟩)))))
      rw [show PyData.eqv (en t.2.1) (en v) = decide (t.2.1 = v) from eqv_nat]
      by_cases h : t.2.1 = v
      · rw [decide_eq_true h, if_pos rfl]
        refine wpT_test (wpE_op opD_isnt (wpE_op opD_ix (wpE_var rfl (wpE_var rfl ⟨_, _, _, rfl, rfl, g1, wpE_non ⟨rfl, _, rfl, ?_⟩⟩))))
        rw [isNon_eo]
        cases hx : tms.getD t.1 none with
        | none => exact wpS_nil (fin L (by rw [loStep, if_pos h, hx]))
        | some x =>
          have g1 : atI (tms.map eo) ((t.1 : Nat) : Int) = some (.int x) := by rw [g1, hx]; rfl
          exact wpS_set (wpE_max2 (wpE_var rfl ⟨_, rfl, wpE_op opD_I0 (wpE_op opD_ix (wpE_var rfl (wpE_var rfl ⟨_, _, _, rfl, rfl, g1, wpE_var rfl ⟨_, _, rfl, rfl, _, rfl, fin _ (by rw [loStep, if_pos h, hx])⟩⟩)))⟩))
      · rw [decide_eq_false h, if_neg Bool.false_ne_true]
        exact wpS_nil (fin L (by rw [loStep, if_neg h]))
    have use : ∀ G', hiStep tms v G t = G' → wpS Gm.pure _ [.dat (.tuple (ties.map et)), .dat (encT tms), .dat (en v), .dat (.tuple [.int lo, .int hi]), .dat (.int L), .dat (.int G'), .dat (en t.1), .dat (en t.2.1), .dat (.int t.2.2)] _ := fun G' e => second G' (by rw [nh, e])
    refine wpS_seq (wpS_if (wpT_and (wpT_test (wpE_op opD_eq (wpE_var rfl (wpE_var rfl ⟨rfl, rfl, _, rfl, ?_⟩))))))
    rw [show PyData.eqv (en t.1) (en v) = decide (t.1 = v) from eqv_nat]
    by_cases h : t.1 = v
    · rw [decide_eq_true h, if_pos rfl]
      refine wpT_test (wpE_op opD_isnt (wpE_op opD_ix (wpE_var rfl (wpE_var rfl ⟨_, _, _, rfl, rfl, g2, wpE_non ⟨rfl, _, rfl, ?_⟩⟩))))
      rw [isNon_eo]
      cases hx : tms.getD t.2.1 none with
      | none => exact wpS_nil ((use G (by rw [hiStep, if_pos h, hx])).imp (fun _ h => h) (fun _ z => z.elim) (fun _ z => z.elim) (fun _ z => z.elim))
      | some x =>
        have g2 : atI (tms.map eo) ((t.2.1 : Nat) : Int) = some (.int x) := by rw [g2, hx]; rfl
        exact wpS_set (wpE_min2 (wpE_var rfl ⟨_, rfl, wpE_op opD_I0 (wpE_op opD_ix (wpE_var rfl (wpE_var rfl ⟨_, _, _, rfl, rfl, g2, wpE_var rfl ⟨_, _, rfl, rfl, _, rfl, (use _ (by rw [hiStep, if_pos h, hx])).imp (fun _ h => h) (fun _ z => z.elim) (fun _ z => z.elim) (fun _ z => z.elim)⟩⟩)))⟩))
    · rw [decide_eq_false h, if_neg Bool.false_ne_true]
      exact wpS_nil ((use G (by rw [hiStep, if_neg h])).imp (fun _ h => h) (fun _ z => z.elim) (fun _ z => z.elim) (fun _ z => z.elim))
  · rintro ρ' ⟨x, y, z, rfl⟩
    rw [List.length_map, List.take_length]
    exact wpS_ret (wpE_tup (wpA_cons (wpE_var rfl (wpA_cons (wpE_var rfl (wpA_nil ⟨[_, _], rfl, le_ rfl, k⟩))))))
/-! ### near batches -/
def okLim (p : Option Nat × Option Nat) : Prop := ∀ x, p.1 = some x ∨ p.2 = some x → 1 ≤ x ∧ x ≤ 100
def p_law_near (ds : List PD) (K : Sl → Prop) : Prop := ∃ p : Option Nat × Option Nat, ds = [encP p] ∧ okLim p ∧ ∀ bss : List (List Nat), bss.length ≤ 8 → (∀ bs ∈ bss, okBs bs) → K (.own (bss.map encB))
abbrev s__law_near_batches : Stmt := top 75
abbrev N__law_near_batches : List Str := ["_law_heap_here", "_law_pair", "_law_found", "_law_size"]
theorem sc__law_near_batches : FnScope N__law_near_batches ["_law_heap_here", "_law_pair"] (defScope s__law_near_batches) := ⟨rfl, rfl, rfl, by decide +kernel, rfl, by decide +kernel, by decide +kernel⟩

theorem ok__law_near_batches (T : Tx mg) (D : Dn K mg "_law_near_batches" s__law_near_batches) : Cl P w K mg base 1 "_law_near_batches" (SpE (p_law_near)) := by
  have sc := sc__law_near_batches
  refine cl_heap D sc (fun _ _ _ _ _ _ us hl => match us, hl with | [_, _], _ => rfl) (fun ds K h => by obtain ⟨_, rfl, _⟩ := h; rfl) fun f cdv A outer s H E hr => ?_
  have hu := hr.units
  refine ⟨_, (pss_cons (ps_set (i := 2) sc.nd rfl (Or.inl rfl) (pe_lst pa_nil))
    (pss_cons (ps_for PassesOwn.never rfl (pi_list (pe_lst (pa_cons (pe_ix (ixSq (F := K)) (pv 1) pe_int (fun _ _ => rfl)) (pa_cons (pe_ix (ixSq (F := K)) (pv 1) pe_int (fun _ _ => rfl)) pa_nil)))) (pg_name (i := 3) sc.nd rfl (by first | exact Or.inl rfl | exact Or.inr rfl))
      (pss_one (ps_if (pt_cmpR op_notN (pv 3) pe_non (nomark _)) (pss_one (ps_set (i := 2) sc.nd rfl (Or.inl rfl) (pe_op op_cat (pv 2) (pe_lst (pa_cons (pe_ifExp (pt_cmpR op_gt (pv 3) pe_int (nomark _)) (pe_tup (pa_cons (pe_op op_sub (pv 3) pe_int) pa_nil)) (pe_tup pa_nil)) (pa_cons (pe_tup (pa_cons (pv 3) pa_nil)) (pa_cons (pe_tup (pa_cons pe_int (pa_cons (pv 3) pa_nil))) (pa_cons (pe_tup (pa_cons (pe_op op_add (pe_op op_fdiv (pv 3) pe_int) pe_int) (pa_cons pe_int pa_nil))) pa_nil)))))))) pss_nil)))
    (pss_one (ps_ret (pv 2))))), fun a c => ?_⟩
  rintro ds K' ⟨⟨p, q⟩, rfl, ok, k⟩
  show wpS (Gh a c) _ [.spc (.ref a), .dat (.tuple [eoN p, eoN q]), .no, .no] _
  refine wpS_seq (wpS_setN (lt_ rfl) (wpN_lst (wpA_nil ⟨[], rfl, le_ rfl, ?_⟩)))
  show wpS (Gh a c) _ [.spc (.ref a), .dat (.tuple [eoN p, eoN q]), .own [], .no] _
  refine wpS_seq (wpS_for tg_name (wpI_list (wpN.E (wpN_lst (wpA_cons (wpE_op opD_ix (wpE_var rfl (wpE_int ⟨_, _, _, rfl, rfl, rfl, wpA_cons (wpE_op opD_ix (wpE_var rfl (wpE_int ⟨_, _, _, rfl, rfl, rfl, wpA_nil ⟨[_, _], rfl, le_ rfl, _, rfl, fun i ρ => ∃ (bss : List (List Nat)) (x : Sl), ρ = [.spc (.ref a), .dat (.tuple [eoN p, eoN q]), .own (bss.map encB), x] ∧ bss.length ≤ 4 * i ∧ ∀ bs ∈ bss, okBs bs, ⟨[], _, rfl, Nat.zero_le _, nofun⟩, ?_, ?_⟩⟩)))⟩))))))))
  · rintro i d ρ' hi e ⟨bss, x, rfl, bl, bok⟩
    have hd : ∃ s : Option Nat, d = eoN s ∧ ∀ y, s = some y → 1 ≤ y ∧ y ≤ 100 := by
      match i, e with
      | 0, e => cases e; exact ⟨p, rfl, fun y h => ok y (.inl h)⟩
      | 1, e => cases e; exact ⟨q, rfl, fun y h => ok y (.inr h)⟩
      | i + 2, e => simp at e
    obtain ⟨s, rfl, sok⟩ := hd
    have i2 : i < 2 := hi
    refine ⟨_, rfl, ?_⟩
    show wpS (Gh a c) _ [.spc (.ref a), .dat (.tuple [eoN p, eoN q]), .own (bss.map encB), .dat (eoN s)] _
    refine wpS_if (wpT_test (wpE_op opD_isnt (wpE_var rfl (wpE_non ⟨rfl, _, rfl, ?_⟩))))
    rw [eoN_isNon]
    cases s with
    | none => exact wpS_nil ⟨bss, _, rfl, by omega, bok⟩
    | some y =>
      obtain ⟨y1, y2⟩ := sok y rfl
      rw [Option.isNone_some, Bool.not_false, if_pos rfl]
      refine wpS_setN (lt_ rfl) (wpN_cat (wpL_var rfl (wpN.L (wpN_lst (wpA_cons (wpE.imp (K := fun d => ∃ bs, d = encB bs ∧ okBs bs) ?_ ?_))))))
      · refine wpE_if (wpT_test (wpE_op opD_B0 (wpE_var rfl (wpE_int ⟨_, _, rfl, rfl, _, rfl, ?_⟩))))
        by_cases h : (1 : Int) < (y : Int)
        · rw [decide_eq_true h, if_pos rfl]
          refine wpE_tup (wpA_cons (wpE_op opD_I0 (wpE_var rfl (wpE_int ⟨_, _, rfl, rfl, wpA_nil ⟨[_], rfl, le_ rfl, [y - 1], ?_, le_ rfl, fun b hb => ?_⟩⟩))))
          · show PyData.tuple [.int ((y : Int) - 1)] = .tuple [.int ((y - 1 : Nat) : Int)]
            rw [show ((y - 1 : Nat) : Int) = (y : Int) - 1 by omega]
          · rw [List.mem_singleton.mp hb]; omega
        · rw [decide_eq_false h, if_neg Bool.false_ne_true]
          exact wpE_tup (wpA_nil ⟨[], rfl, le_ rfl, [], rfl, le_ rfl, nofun⟩)
      · rintro d ⟨b0, rfl, ok0⟩
        refine wpA_cons (wpE_tup (wpA_cons (wpE_var rfl (wpA_nil ⟨[_], rfl, le_ rfl, wpA_cons (wpE_tup (wpA_cons (wpE_int (wpA_cons (wpE_var rfl (wpA_nil ⟨[_, _], rfl, le_ rfl, wpA_cons (wpE_tup (wpA_cons (wpE_op opD_I0 (wpE_op opD_I (wpE_var rfl (wpE_int ⟨_, _, rfl, rfl, ⟨by decide, by decide⟩, wpE_int ⟨_, _, rfl, rfl, wpA_cons (wpE_int (wpA_nil ⟨[_, _], rfl, le_ rfl, wpA_nil ⟨[_, _, _, _], rfl, le_ rfl, ?_, ?_⟩⟩))⟩⟩))))))⟩))))))⟩))))
        · rw [List.length_map]
          show bss.length + 4 ≤ _
          omega
        · refine ⟨bss ++ [b0, [y], [1, y], [y / 2 + 1, 1]], .dat (eoN (some y)), ?_, ?_, ?_⟩
          · rw [List.map_append]; rfl
          · rw [List.length_append]; show bss.length + 4 ≤ _; omega
          · intro bs hb
            rcases List.mem_append.mp hb with z | z
            · exact bok bs z
            · simp only [List.mem_cons, List.not_mem_nil, or_false] at z
              rcases z with rfl | rfl | rfl | rfl
              · exact ok0
              · exact ⟨le_ rfl, fun b hb => by rw [List.mem_singleton.mp hb]; exact ⟨y1, y2⟩⟩
              · refine ⟨le_ rfl, fun b hb => ?_⟩
                simp only [List.mem_cons, List.not_mem_nil, or_false] at hb
                rcases hb with rfl | rfl
                · exact ⟨by omega, by omega⟩
                · exact ⟨y1, y2⟩
              · refine ⟨le_ rfl, fun b hb => ?_⟩
                simp only [List.mem_cons, List.not_mem_nil, or_false] at hb
                rcases hb with rfl | rfl
                · exact ⟨by omega, by omega⟩
                · exact ⟨by omega, by omega⟩
  · rintro ρ' ⟨bss, x, rfl, bl, bok⟩
    exact wpS_retO rfl (k bss bl bok)
end

end K42
/-! text P20 -/
set_option Elab.async false
set_option linter.all false
set_option maxRecDepth 100000
set_option maxHeartbeats 4000000
namespace K42
open PySem PySem.Spec PyProof.Rows L2

/-! The law's draw of times. -/
section
variable {P : Program} {w : World} {K : PySem.W.Frag} {mg : Str → Option Value} {base : Heap}
def leAll (r : Row) (B : Int) : Prop := ∀ j x, r.getD j none = some x → x ≤ B
theorem set_le {r : Row} {B y : Int} {i : Nat} (h : leAll r B) (hy : y ≤ B) : leAll (r.set i (some y)) B := fun j x e => by
  by_cases z : i = j
  · subst z
    by_cases l : i < r.length
    · rw [getD_set_eq l] at e; cases e; exact hy
    · rw [List.getD_eq_getElem?_getD, List.getElem?_eq_none (by rw [List.length_set]; omega)] at e; cases e
  · rw [getD_set_ne z] at e; exact h j x e
theorem step_le {row f : Row} {t : TieT} {B U : Int} (hr : leAll row B) (hf : leAll f (B + U)) (ht : t.2.2 ≤ U) : leAll (stepRow row f t) (B + U) := by
  unfold stepRow
  split
  · exact hf
  · next a ha =>
    have := hr _ _ ha
    split
    · exact set_le hf (by omega)
    · split
      · exact set_le hf (by omega)
      · exact hf
theorem fold_le {row : Row} {B U : Int} (hr : leAll row B) : ∀ {ts : List TieT} {f : Row}, (∀ t ∈ ts, t.2.2 ≤ U) → leAll f (B + U) → leAll (ts.foldl (stepRow row) f) (B + U)
  | [], _, _, h => h
  | t :: ts, f, ht, h => fold_le (ts := ts) (f := stepRow row f t) hr (fun u hu => ht u (List.mem_cons_of_mem _ hu)) (step_le hr h (ht t List.mem_cons_self))
theorem rowAt_le {ts : List TieT} {n v : Nat} {U : Int} (u0 : 0 ≤ U) (ht : ∀ t ∈ ts, t.2.2 ≤ U) : ∀ k : Nat, leAll (rowAt ts n v k) (U * (k : Int))
  | 0 => fun j x e => by
    rw [rowAt, row0, List.getD_eq_getElem?_getD, List.getElem?_map] at e
    cases q : (List.range n)[j]? with
    | none => rw [q] at e; cases e
    | some i =>
      rw [q] at e
      have e : (if i = v then some (0 : Int) else none) = some x := e
      split at e
      · cases e; simp
      · cases e
  | k + 1 => by
    have ih := rowAt_le (ts := ts) (n := n) (v := v) u0 ht k
    have := fold_le (U := U) ih ht (fun j x e => by have := ih j x e; omega)
    rw [show U * (((k + 1 : Nat)) : Int) = U * (k : Int) + U by push_cast; rw [Int.mul_add, Int.mul_one]]
    exact this
def geAll (r : Row) (B : Int) : Prop := ∀ j x, r.getD j none = some x → B ≤ x
theorem set_ge {r : Row} {B y : Int} {i : Nat} (h : geAll r B) (hy : B ≤ y) : geAll (r.set i (some y)) B := fun j x e => by
  by_cases z : i = j
  · subst z
    by_cases l : i < r.length
    · rw [getD_set_eq l] at e; cases e; exact hy
    · rw [List.getD_eq_getElem?_getD, List.getElem?_eq_none (by rw [List.length_set]; omega)] at e; cases e
  · rw [getD_set_ne z] at e; exact h j x e
theorem step_ge {row f : Row} {t : TieT} {B L : Int} (hr : geAll row B) (hf : geAll f (B - L)) (ht : -L ≤ t.2.2) : geAll (stepRow row f t) (B - L) := by
  unfold stepRow
  split
  · exact hf
  · next a ha =>
    have := hr _ _ ha
    split
    · exact set_ge hf (by omega)
    · split
      · exact set_ge hf (by omega)
      · exact hf
theorem fold_ge {row : Row} {B L : Int} (hr : geAll row B) : ∀ {ts : List TieT} {f : Row}, (∀ t ∈ ts, -L ≤ t.2.2) → geAll f (B - L) → geAll (ts.foldl (stepRow row) f) (B - L)
  | [], _, _, h => h
  | t :: ts, f, ht, h => fold_ge (ts := ts) (f := stepRow row f t) hr (fun u hu => ht u (List.mem_cons_of_mem _ hu)) (step_ge hr h (ht t List.mem_cons_self))
theorem rowAt_ge {ts : List TieT} {n v : Nat} {L : Int} (l0 : 0 ≤ L) (ht : ∀ t ∈ ts, -L ≤ t.2.2) : ∀ k : Nat, geAll (rowAt ts n v k) (-(L * (k : Int)))
  | 0 => fun j x e => by
    rw [rowAt, row0, List.getD_eq_getElem?_getD, List.getElem?_map] at e
    cases q : (List.range n)[j]? with
    | none => rw [q] at e; cases e
    | some i =>
      rw [q] at e
      have e : (if i = v then some (0 : Int) else none) = some x := e
      split at e
      · cases e; simp
      · cases e
  | k + 1 => by
    have ih := rowAt_ge (ts := ts) (n := n) (v := v) l0 ht k
    have := fold_ge (L := L) ih ht (fun j x e => by have := ih j x e; omega)
    rw [show -(L * (((k + 1 : Nat)) : Int)) = -(L * (k : Int)) - L by push_cast; rw [Int.mul_add, Int.mul_one]; omega]
    exact this
theorem none_rep (k : Nat) : (List.replicate k [PyData.none]).flatten = (List.replicate k (none : Option Int)).map eo := by
  induction k with
  | zero => rfl
  | succ k ih => rw [List.replicate_succ, List.flatten_cons, ih, List.replicate_succ]; rfl
/-- times within two bounds -/
def inTm (ts : Tms) (lo hi : Int) : Prop := ∀ j t, ts.getD j none = some t → lo ≤ t ∧ t ≤ hi
theorem inTm.ok {ts : Tms} {lo hi : Int} (h : inTm ts lo hi) (l : -1000000000 ≤ lo) (u : hi ≤ 1000000000) : okTm ts := fun x hx i e => by
  obtain ⟨j, hj, e2⟩ := List.getElem_of_mem hx
  have := h j i (by rw [List.getD_eq_getElem?_getD, List.getElem?_eq_getElem hj, e2, e]; rfl)
  split <;> omega
theorem inTm.set {ts : Tms} {lo hi t : Int} {i : Nat} (h : inTm ts lo hi) (l : lo ≤ t) (u : t ≤ hi) : inTm (ts.set i (some t)) lo hi := fun j x e => by
  by_cases z : i = j
  · subst z
    by_cases l' : i < ts.length
    · rw [getD_set_eq l'] at e; cases e; exact ⟨l, u⟩
    · rw [List.getD_eq_getElem?_getD, List.getElem?_eq_none (by rw [List.length_set]; omega)] at e; cases e
  · rw [getD_set_ne z] at e; exact h j x e
theorem inTm.mono {ts : Tms} {lo hi lo' hi' : Int} (h : inTm ts lo hi) (l : lo' ≤ lo) (u : hi ≤ hi') : inTm ts lo' hi' := fun j t e => by
  have := h j t e
  omega
def p_law_times (ds : List PD) (K : Sl → Prop) : Prop := ∃ (n : Nat) (ties : List TieT) (A B : Int), ds = [.list (rowsD ties n)] ∧ 1 ≤ n ∧ n ≤ 12 ∧ 0 ≤ A ∧ A ≤ 20000000 ∧ 0 ≤ B ∧ B ≤ 20000000 ∧
  (∀ v k j x, k ≤ 3 ∨ k ≤ n → (rowAt ties n v k).getD j none = some x → -A ≤ x ∧ x ≤ B) ∧ ∀ tms : Tms, tms.length = n → okTm tms → inTm tms (-(5 + (n : Int) * (A + 1))) (7 + (n : Int) * (B + 3)) → K (.dat (encT tms))
abbrev s__law_times : Stmt := top 61
abbrev N__law_times : List Str := ["_law_heap_here", "_law_rows_here", "_law_times_here", "_law_far", "_law_thing", "_law_said", "_law_one", "_law_time"]
theorem sc__law_times : FnScope N__law_times ["_law_heap_here", "_law_rows_here"] (defScope s__law_times) := ⟨rfl, rfl, rfl, by decide +kernel, rfl, by decide +kernel, by decide +kernel⟩

theorem ok__law_times (T : Tx mg) (D : Dn K mg "_law_times" s__law_times) (c__law_draw : Cl P w K mg base 1 "_law_draw" (SpDraw)) (c__law_pick : Cl P w K mg base 2 "_law_pick" (SpPick)) (c__law_mixed : Cl P w K mg base 2 "_law_mixed" (SpMix)) : Cl P w K mg base 3 "_law_times" (SpE (p_law_times)) := by
  have sc := sc__law_times
  refine cl_heap D sc (fun _ _ _ _ _ _ us hl => match us, hl with | [_, _], _ => rfl) (fun ds K h => by obtain ⟨_, _, _, _, rfl, _⟩ := h; rfl) fun f cdv A outer s H E hr => ?_
  have hu := hr.units
  refine ⟨_, (pss_cons (ps_asg (pe_tup (pa_cons (pe_op op_rep (pe_lst (pa_cons pe_non pa_nil)) (pe_callB (lenSq (F := K)) (by rfl) T.b_len (by decide +kernel) (pa_cons (pv 1) pa_nil))) (pa_cons (pe_cl c__law_pick hr (by first | decide | omega) (by rfl) (pa_cons (pv 0) (pa_cons (pe_lst (pa_cons pe_int (pa_cons pe_int (pa_cons pe_int (pa_cons pe_int (pa_cons (pe_callB (lenSq (F := K)) (by rfl) T.b_len (by decide +kernel) (pa_cons (pv 1) pa_nil)) pa_nil)))))) pa_nil))) pa_nil))) (pg_tup rfl (pgs_cons (pg_name (i := 2) sc.nd rfl (by first | exact Or.inl rfl | exact Or.inr rfl)) (pgs_cons (pg_name (i := 3) sc.nd rfl (by first | exact Or.inl rfl | exact Or.inr rfl)) pgs_nil))))
    (pss_cons (ps_for PassesOwn.never rfl (pi_list (pe_slice sl_list (pe_cl c__law_mixed hr (by first | decide | omega) (by rfl) (pa_cons (pv 0) (pa_cons (pe_listRg rfl (by rfl) T.b_list (prg_1 (by rfl) T.b_range (pe_callB (lenSq (F := K)) (by rfl) T.b_len (by decide +kernel) (pa_cons (pv 1) pa_nil)))) pa_nil))) po_none (po_some (pe_cl c__law_draw hr (by first | decide | omega) (by rfl) (pa_cons (pv 0) (pa_cons (pe_op op_add (pe_callB (lenSq (F := K)) (by rfl) T.b_len (by decide +kernel) (pa_cons (pv 1) pa_nil)) pe_int) pa_nil)))))) (pg_name (i := 4) sc.nd rfl (by first | exact Or.inl rfl | exact Or.inr rfl))
      (pss_cons (ps_setLc (i := 5) (own := [("_law_one", 6)]) (g := gName 6) (by rfl) sc.nd rfl rfl (sw_true rfl rfl rfl (by decide +kernel)) (pi_range1 (by rfl) T.b_range (pa_cons (pe_callB (lenSq (F := K)) (by rfl) T.b_len (by decide +kernel) (pa_cons (pv 1) pa_nil)) pa_nil)) (blkOk_by (own := [("_law_one", 6)]) (N := N__law_times) (sc := (defScope s__law_times)) (by decide +kernel)) (fun _ _ _ _ _ => (pg_name (i := 6) sc.nd rfl (by first | exact Or.inl rfl | exact Or.inr rfl))) (fun _ _ _ _ _ => (pts_one (PW.pt (pw_and (pt_cmpR op_notN (pe_ix (ixSq (F := K)) (pv 2) (pv 6) (fun _ _ => rfl)) pe_non (nomark _)) (pw_and1 (pt_cmpR op_notN (pe_ix (ixSq (F := K)) (pe_ix (ixSq (F := K)) (pe_ix (ixSq (F := K)) (pv 1) (pv 6) (fun _ _ => rfl)) (pv 3) (fun _ _ => rfl)) (pv 4) (fun _ _ => rfl)) pe_non (nomark _))))))) (fun _ _ _ _ _ => (pv 6)))
      (pss_cons (ps_set (i := 7) sc.nd rfl (Or.inl rfl) (pe_callB (cr_max rfl) (by rfl) T.b_max (by decide +kernel) (pa_cons (pe_op op_cat (pe_lc (own := [("_law_one", 6)]) (g := gName 6) (by rfl) sc.nd (pi_list (pv 5)) (blkOk_by (own := [("_law_one", 6)]) (N := N__law_times) (sc := (defScope s__law_times)) (by decide +kernel)) (fun _ _ _ _ _ => (pg_name (i := 6) sc.nd rfl (by first | exact Or.inl rfl | exact Or.inr rfl))) (fun _ _ _ _ _ => pts_nil) (fun _ _ _ _ _ => (pe_op op_add (pe_ix (ixSq (F := K)) (pv 2) (pv 6) (fun _ _ => rfl)) (pe_ix (ixSq (F := K)) (pe_ix (ixSq (F := K)) (pe_ix (ixSq (F := K)) (pv 1) (pv 6) (fun _ _ => rfl)) (pv 3) (fun _ _ => rfl)) (pv 4) (fun _ _ => rfl))))) (pe_lst (pa_cons (pe_op op_sub pe_int (pe_op op_pow pe_int pe_int)) pa_nil))) pa_nil)))
      (pss_cons (ps_if (pt_cmpR (opEq (F := K) hu) (pv 5) (pe_lst pa_nil) (nomark _)) (pss_one (ps_set (i := 7) sc.nd rfl (Or.inl rfl) (pe_op op_sub (pe_cl c__law_draw hr (by first | decide | omega) (by rfl) (pa_cons (pv 0) (pa_cons pe_int pa_nil))) pe_int))) pss_nil)
      (pss_one (ps_asg (pe_op op_add (pv 7) (pe_cl c__law_pick hr (by first | decide | omega) (by rfl) (pa_cons (pv 0) (pa_cons (pe_lst (pa_cons pe_int (pa_cons pe_int (pa_cons pe_int (pa_cons pe_int (pa_cons (pe_op op_sub pe_int pe_int) (pa_cons (pe_cl c__law_draw hr (by first | decide | omega) (by rfl) (pa_cons (pv 0) (pa_cons pe_int pa_nil))) pa_nil))))))) pa_nil)))) (pg_sub (pv 2) (pv 4) set_list)))))))
    (pss_one (ps_ret (pe_callTy call_tuple_of (by rfl) T.b_tuple (by decide +kernel) (pa_cons (pv 2) pa_nil)))))), fun a c => ?_⟩
  rintro ds K' ⟨n, ties, A', B', rfl, n1, n12, a0, a1, b0, b1, rb, k⟩
  have up : ∀ (i : Nat) (C : Int), (((i + 1 : Nat)) : Int) * C = (i : Int) * C + C := fun i C => by push_cast; rw [Int.add_mul, Int.one_mul]
  have pos : ∀ (i : Nat) (C : Int), 0 ≤ C → 0 ≤ (i : Int) * C := fun i C h => Int.mul_nonneg (by omega) h
  have rl := rowsD_length ties n
  show wpS (Gh a c) _ [.spc (.ref a), .dat (.list (rowsD ties n)), .no, .no, .no, .no, .no, .no] _
  refine wpS_seq (wpS_asg2 (lt_ rfl) (lt_ rfl) (wpN.x (wpN_rep (wpN.L (wpN_lst (wpA_cons (wpE_non (wpA_nil ⟨[_], rfl, le_ rfl, wpE_len (wpE.Q (wpE_var rfl ⟨_, rfl, _, rfl, by omega, by omega, le_ rfl, wpE.x (wpE_pick rfl (wpN.R (wpN_lst (wpA_cons (wpE_int (wpA_cons (wpE_int (wpA_cons (wpE_int (wpA_cons (wpE_int (wpA_cons (wpE_len (wpE.Q (wpE_var rfl ⟨_, rfl, wpA_nil ⟨[_, _, _, _, _], rfl, le_ rfl, lt_ rfl, le_ rfl, fun d hd => ?_⟩⟩)))))))))))))))⟩))⟩))))))))
  obtain ⟨far, rfl, far12⟩ : ∃ p : Nat, d = en p ∧ p ≤ 2 * n + 2 ∧ (p ≤ 3 ∨ p ≤ n) := by
    rw [rl] at hd
    simp only [List.mem_cons, List.not_mem_nil, or_false] at hd
    rcases hd with rfl | rfl | rfl | rfl | rfl
    · exact ⟨1, rfl, by omega, by omega⟩
    · exact ⟨1, rfl, by omega, by omega⟩
    · exact ⟨2, rfl, by omega, by omega⟩
    · exact ⟨3, rfl, by omega, by omega⟩
    · exact ⟨n, rfl, by omega, by omega⟩
  obtain ⟨far1, far2⟩ := far12
  have er : (List.replicate (((rowsD ties n).length : Nat) : Int).toNat [PyData.none]).flatten = (List.replicate n (none : Option Int)).map eo := by rw [rl, Int.toNat_natCast, none_rep]
  rw [er]
  show wpS (Gh a c) _ [.spc (.ref a), .dat (.list (rowsD ties n)), .own ((List.replicate n (none : Option Int)).map eo), .dat (en far), .no, .no, .no, .no] _
  refine wpS_seq (wpS_for tg_name (wpI_list (wpN.E (wpN_slL (wpN.L (wpN_mixed rfl (wpN.R (wpN_listRg (wpE_len (wpE.Q (wpE_var rfl ⟨_, rfl, n, ?_, by omega, ?_, fun es pm => wpO_none (wpO_some (wpE_draw rfl (wpE_op opD_I0 (wpE_len (wpE.Q (wpE_var rfl ⟨_, rfl, wpE_int ⟨_, _, rfl, rfl, _, rfl, ?_, ?_, fun r r0 r1 => ⟨_, rfl, _, rfl, ?_⟩⟩⟩))))))⟩)))))))))))
  · rw [rl]
  · rw [List.length_map, List.length_range]; omega
  · rw [rl]; omega
  · rw [rl]; omega
  obtain ⟨os, rfl, od⟩ := Ord.of pm
  have ol := od.len
  have hm : ∀ d ∈ cutD (os.map en) none (some r), ∃ x : Nat, d = en x ∧ x < n := fun d hd => by
    obtain ⟨x, hx, rfl⟩ := List.mem_map.mp (List.mem_of_mem_drop (List.mem_of_mem_take hd))
    exact ⟨x, rfl, od.lt x hx⟩
  have cl : (cutD (os.map en) none (some r)).length ≤ n := by
    unfold cutD
    rw [List.length_take, List.length_drop, List.length_map]; omega
  generalize cutD (os.map en) none (some r) = items at hm cl
  refine ⟨fun i ρ => ∃ (tms : Tms) (p q s : Sl), ρ = [.spc (.ref a), .dat (.list (rowsD ties n)), .own (tms.map eo), .dat (en far), p, q, .no, s] ∧ tms.length = n ∧ inTm tms (-(5 + (i : Int) * (A' + 1))) (7 + (i : Int) * (B' + 3)), ⟨List.replicate n none, _, _, _, rfl, List.length_replicate, fun j t e => ?_⟩, ?_, ?_⟩
  · rw [List.getD_eq_getElem?_getD, List.getElem?_replicate] at e
    split at e <;> cases e
  · rintro i d ρ' hi e ⟨tms, p, q, s, rfl, tl, tin⟩
    obtain ⟨v, rfl, vn⟩ := hm d (List.mem_of_getElem? e)
    refine ⟨_, rfl, ?_⟩
    show wpS (Gh a c) _ [.spc (.ref a), .dat (.list (rowsD ties n)), .own (tms.map eo), .dat (en far), .dat (en v), q, .no, s] _
    let pr : Nat → Bool := fun one => isSm tms one && ((rowAt ties n one far).getD v none).isSome
    refine wpS_seq (wpS_setN (lt_ rfl) (wpN_lcF tg_name (by decide) rfl (wpI_rng1 (wpA_cons (wpE_len (wpE.Q (wpE_var rfl ⟨_, rfl, wpA_nil ⟨_, rfl, by omega, by omega, by omega, pr, en, ?_, ?_⟩⟩)))))))
    · intro j d hj e
      cases e
      rw [rl, Int.toNat_natCast] at hj
      have gt := get_enc (row := tms) (k := j) (by omega)
      have gw := get_enc (row := rowAt ties n j far) (k := v) (by rw [rowAt_length]; exact vn)
      refine ⟨_, rfl, wpT_and (wpT_test (wpE_op opD_isnt (wpE_ixO rfl (wpE_var rfl ⟨_, _, rfl, gt, wpE_non ⟨rfl, _, rfl, ?_⟩⟩))))⟩
      rw [isNon_eo]
      have ep : pr j = ((tms.getD j none).isSome && ((rowAt ties n j far).getD v none).isSome) := rfl
      cases ht : tms.getD j none with
      | none =>
        rw [ht] at ep
        exact ⟨ep.symm, fun z => nomatch z⟩
      | some t =>
        rw [ht] at ep
        refine wpT_test (wpE_op opD_isnt (wpE_op opD_ix (wpE_op opD_ix (wpE_op opD_ix (wpE_var rfl (wpE_var rfl ⟨_, _, _, rfl, rfl, rowsD_get hj, wpE_var rfl ⟨_, _, _, rfl, rfl, atI_nat (rowsL_get far1), wpE_var rfl ⟨_, _, _, rfl, rfl, gw, wpE_non ⟨rfl, _, rfl, ?_, fun _ => wpE_var rfl rfl⟩⟩⟩⟩))))))
        rw [isNon_eo, ep]
        cases (rowAt ties n j far).getD v none <;> rfl
    rw [rl, Int.toNat_natCast]
    have sl : ((List.range n).filter pr).length ≤ 12 := by
      have := List.length_filter_le pr (List.range n)
      rw [List.length_range] at this; omega
    have sm : ∀ one ∈ (List.range n).filter pr, one < n ∧ ∃ t x, tms.getD one none = some t ∧ (rowAt ties n one far).getD v none = some x := fun one h => by
      obtain ⟨h1, h2⟩ := List.mem_filter.mp h
      obtain ⟨h3, h4⟩ := Bool.and_eq_true_iff.mp h2
      obtain ⟨t, ht⟩ := Option.isSome_iff_exists.mp h3
      obtain ⟨x, hx⟩ := Option.isSome_iff_exists.mp h4
      exact ⟨List.mem_range.mp h1, t, x, ht, hx⟩
    show wpS (Gh a c) _ [.spc (.ref a), .dat (.list (rowsD ties n)), .own (tms.map eo), .dat (en far), .dat (en v), .own (((List.range n).filter pr).map en), .no, s] _
    generalize (List.range n).filter pr = said at sl sm
    have bnd : ∀ one ∈ said, -(5 + (i : Int) * (A' + 1)) - A' ≤ tAt tms one + ((rowAt ties n one far).getD v none).getD 0 ∧ tAt tms one + ((rowAt ties n one far).getD v none).getD 0 ≤ 7 + (i : Int) * (B' + 3) + B' := fun one h => by
      obtain ⟨_, t, x, h1, h2⟩ := sm one h
      have b1 := tin _ _ h1
      have b2 := rb one far v x far2 h2
      rw [tAt, h1, h2]
      show _ ≤ t + x ∧ t + x ≤ _
      omega
    refine wpS_seq (wpS_set (wpE_max (wpN.L (wpN_cat (wpN.L (wpN_lcS tg_name (by decide) rfl (wpI_own (wpL_var rfl ⟨by rw [map_len]; omega, Nat, said, en, fun _ => true, fun one => .int (tAt tms one + ((rowAt ties n one far).getD v none).getD 0), ⟨map_len, fun i => List.getElem?_map ..⟩, ?_, wpN.L (wpN_lst (wpA_cons (wpE_op opD_I0 (wpE_int (wpE_op opD_I (wpE_int (wpE_int ⟨_, _, rfl, rfl, ⟨by decide, by decide, by decide⟩, _, _, rfl, rfl, wpA_nil ⟨[_], rfl, le_ rfl, ?_, said.map (fun one => tAt tms one + ((rowAt ties n one far).getD v none).getD 0) ++ [0 - 100000000], ?_, ?_, fun m hm1 hm2 => ?_⟩⟩)))))))⟩))))))))
    · intro j one hj
      obtain ⟨on, t, x, h1, h2⟩ := sm one (List.mem_of_getElem? hj)
      have gt : atI (tms.map eo) ((one : Nat) : Int) = some (.int t) := by rw [get_enc (row := tms) (by omega), h1]; rfl
      have gw : atI ((rowAt ties n one far).map eo) ((v : Nat) : Int) = some (.int x) := by rw [get_enc (by rw [rowAt_length]; exact vn), h2]; rfl
      refine ⟨_, rfl, wpT_yes ⟨rfl, fun _ => wpE_op opD_I0 (wpE_ixO rfl (wpE_var rfl ⟨_, _, rfl, gt, wpE_op opD_ix (wpE_op opD_ix (wpE_op opD_ix (wpE_var rfl (wpE_var rfl ⟨_, _, _, rfl, rfl, rowsD_get on, wpE_var rfl ⟨_, _, _, rfl, rfl, atI_nat (rowsL_get far1), wpE_var rfl ⟨_, _, _, rfl, rfl, gw, _, _, rfl, rfl, ?_⟩⟩⟩))))⟩))⟩⟩
      show PyData.int (t + x) = .int (tAt tms one + ((rowAt ties n one far).getD v none).getD 0)
      rw [tAt, h1, h2]; rfl
    · rw [filter_yes, List.length_map]
      show said.length + 1 ≤ _
      omega
    · rw [filter_yes, List.map_append, List.map_map]; rfl
    · simp
    have m0 : said ≠ [] → -(5 + (i : Int) * (A' + 1)) - A' ≤ m := fun hz => by
      obtain ⟨one, ho⟩ := List.exists_mem_of_ne_nil said hz
      have := hm2 _ (List.mem_append_left _ (List.mem_map.mpr ⟨one, ho, rfl⟩))
      have := (bnd one ho).1
      omega
    have m1 : m ≤ 7 + (i : Int) * (B' + 3) + B' := by
      rcases List.mem_append.mp hm1 with z | z
      · obtain ⟨one, h, rfl⟩ := List.mem_map.mp z
        exact (bnd one h).2
      · have := pos i (B' + 3) (by omega)
        rw [List.mem_singleton.mp z]; omega
    show wpS (Gh a c) _ [.spc (.ref a), .dat (.list (rowsD ties n)), .own (tms.map eo), .dat (en far), .dat (en v), .own (said.map en), .no, .dat (.int m)] _
    have fin : ∀ m : Int, -(5 + (i : Int) * (A' + 1)) - A' ≤ m → m ≤ 7 + (i : Int) * (B' + 3) + B' → wpS (Gh a c) (tAsg (tOp (rI0 fun i j => .int (i + j)) (tVar 7) (tCall SpPick [] E0 (tCons (tVar 0) (tCons (tLst (tCons (tC (.int 0)) (tCons (tC (.int 0)) (tCons (tC (.int 0)) (tCons (tC (.int 1)) (tCons (tOp (rI0 fun i j => .int (i - j)) (tC (.int 0)) (tC (.int 1))) (tCons (tCall SpDraw [] E0 (tCons (tVar 0) (tCons (tC (.int 4)) tNil))) tNil))))))) tNil)))) (gSub (tVar 2) (tVar 4) rSetL))
        [.spc (.ref a), .dat (.list (rowsD ties n)), .own (tms.map eo), .dat (en far), .dat (en v), .own (said.map en), .no, .dat (.int m)] { nx := fun ρ => ∃ (tms : Tms) (p q s : Sl), ρ = [.spc (.ref a), .dat (.list (rowsD ties n)), .own (tms.map eo), .dat (en far), p, q, .no, s] ∧ tms.length = n ∧ inTm tms (-(5 + ((i + 1 : Nat) : Int) * (A' + 1))) (7 + ((i + 1 : Nat) : Int) * (B' + 3)), rt := fun _ => False, bk := fun _ => False, ct := fun _ => False } := fun m m0 m1 => by
      refine wpS_setL rfl (wpE_op opD_I0 (wpE_var rfl (wpE_pick rfl (wpN.R (wpN_lst (wpA_cons (wpE_int (wpA_cons (wpE_int (wpA_cons (wpE_int (wpA_cons (wpE_int (wpA_cons (wpE_op opD_I0 (wpE_int (wpE_int ⟨_, _, rfl, rfl, wpA_cons (wpE_draw rfl (wpE_int ⟨_, rfl, by decide, by decide, fun r r0 r1 => wpA_nil ⟨[_, _, _, _, _, _], rfl, le_ rfl, lt_ rfl, le_ rfl, fun d hd => ?_⟩⟩))⟩)))))))))))))))))
      obtain ⟨u, rfl, u0, u1⟩ : ∃ p : Int, d = .int p ∧ -1 ≤ p ∧ p ≤ 3 := by
        simp only [List.mem_cons, List.not_mem_nil, or_false] at hd
        rcases hd with rfl | rfl | rfl | rfl | rfl | rfl
        · exact ⟨_, rfl, by decide, by decide⟩
        · exact ⟨_, rfl, by decide, by decide⟩
        · exact ⟨_, rfl, by decide, by decide⟩
        · exact ⟨_, rfl, by decide, by decide⟩
        · exact ⟨_, rfl, by decide, by decide⟩
        · exact ⟨_, rfl, by omega, by omega⟩
      refine ⟨_, _, rfl, rfl, wpE_var rfl ⟨_, v, rfl, ixN_nat (by rw [List.length_map]; omega), tms.set v (some (m + u)), .dat (en v), .own (said.map en), .dat (.int m), ?_, by rw [List.length_set]; exact tl, ?_⟩⟩
      · rw [List.map_set]; rfl
      · rw [up, up]
        exact (tin.mono (by omega) (by omega)).set (by omega) (by omega)
    refine wpS_seq (wpS_if (wpT_eqO rfl ((plain_list (k := 0) fun d h => ?_).shaped (by decide)) ?_))
    · obtain ⟨x, _, rfl⟩ := List.mem_map.mp h
      exact plain_en x
    rw [map_nil]
    by_cases hz : said = []
    · rw [decide_eq_true hz, if_pos rfl]
      exact wpS_set (wpE_op opD_I0 (wpE_draw rfl (wpE_int ⟨_, rfl, by decide, by decide, fun r r0 r1 => wpE_int ⟨_, _, rfl, rfl, (fin (r - 4) (by have := pos i (A' + 1) (by omega); omega) (by have := pos i (B' + 3) (by omega); omega)).imp (fun _ h => h) (fun _ z => z.elim) (fun _ z => z.elim) (fun _ z => z.elim)⟩⟩)))
    · rw [decide_eq_false hz, if_neg Bool.false_ne_true]
      exact wpS_nil ((fin m (m0 hz) m1).imp (fun _ h => h) (fun _ z => z.elim) (fun _ z => z.elim) (fun _ z => z.elim))
  · rintro ρ' ⟨tms, p, q, s, rfl, tl, tin⟩
    have g1 := Int.mul_le_mul_of_nonneg_right (show ((items.length : Nat) : Int) ≤ (n : Int) by omega) (show 0 ≤ A' + 1 by omega)
    have g2 := Int.mul_le_mul_of_nonneg_right (show ((items.length : Nat) : Int) ≤ (n : Int) by omega) (show 0 ≤ B' + 3 by omega)
    have g3 := Int.mul_le_mul_of_nonneg_right (show (n : Int) ≤ 12 by omega) (show 0 ≤ A' + 1 by omega)
    have g4 := Int.mul_le_mul_of_nonneg_right (show (n : Int) ≤ 12 by omega) (show 0 ≤ B' + 3 by omega)
    have tin := tin.mono (lo' := -(5 + (n : Int) * (A' + 1))) (hi' := 7 + (n : Int) * (B' + 3)) (by omega) (by omega)
    exact wpS_ret (wpE_tuple (wpL.Q (wpL_var rfl (k tms tl (tin.ok (by omega) (by omega)) tin))))
end

end K42
/-! text RuKey -/
set_option Elab.async false
set_option linter.all false
set_option maxRecDepth 100000
set_option maxHeartbeats 4000000
/-! A dict from nested keys to truth values. -/
namespace K42
open PySem PySem.Spec PyProof.Rows L2
mutual
inductive KeyV (H : Hp) : NestedKey → L2.V → Prop
  | none : KeyV H .none .non
  | num (i : Int) : KeyV H (.num i) (.int i)
  | tup {a : Addr} {vs : List L2.V} {ks : List NestedKey} : H a = some (.tup vs) → KeyVs H ks vs → KeyV H (.tup ks) (.ref a)
inductive KeyVs (H : Hp) : List NestedKey → List L2.V → Prop
  | nil : KeyVs H [] []
  | cons {k : NestedKey} {v : L2.V} {ks : List NestedKey} {vs : List L2.V} : KeyV H k v → KeyVs H ks vs → KeyVs H (k :: ks) (v :: vs)
end
mutual
theorem KeyV.to {H H' : Hp} (e : ∀ b xs, H b = some (.tup xs) → H' b = some (.tup xs)) : ∀ {k : NestedKey} {v : L2.V}, KeyV H k v → KeyV H' k v
  | _, _, .none => .none
  | _, _, .num i => .num i
  | _, _, .tup h t => .tup (e _ _ h) (KeyVs.to e t)
theorem KeyVs.to {H H' : Hp} (e : ∀ b xs, H b = some (.tup xs) → H' b = some (.tup xs)) : ∀ {ks : List NestedKey} {vs : List L2.V}, KeyVs H ks vs → KeyVs H' ks vs
  | _, _, .nil => .nil
  | _, _, .cons h t => .cons (KeyV.to e h) (KeyVs.to e t)
end
section
variable {X : Cx} {pins : List (Addr × Obj)} {σ : L2.St} {H : Hp} {s : Shared}
mutual
theorem KeyV.is (I : Inv X pins σ H s) : ∀ {k : NestedKey} {v : L2.V} {u : Value}, KeyV H k v → RelV v u → NestedIs s.heap k u
  | _, _, _, .none, r => by
    cases (show _ = Value.none from r)
    exact .none
  | _, _, _, .num i, r => by
    obtain ⟨t, rfl⟩ := r
    exact .int i t
  | _, _, _, .tup (a := a) (vs := vs) h t, r => by
    cases (show _ = Value.ref a from r)
    obtain ⟨its, rv, ⟨⟨cls, dd, data, sl⟩, ho, hc, n, hd⟩, hs⟩ := I.tuple (.inl (.inl h))
    exact .tup ho hc hd (by rw [List.toList_toArray]; exact KeyVs.is I t rv)
theorem KeyVs.is (I : Inv X pins σ H s) : ∀ {ks : List NestedKey} {vs : List L2.V} {us : List Value}, KeyVs H ks vs → Vals vs us → NestedAll s.heap ks us
  | _, _, _, .nil, r => by cases r; exact .nil
  | _, _, _, .cons h t, r => by
    cases r with
    | cons r1 r2 => exact .cons (KeyV.is I h r1) (KeyVs.is I t r2)
end
end
abbrev Ent := NestedKey × Addr × Bool
def ents (xs : List Ent) : List (NestedKey × Addr × Value) := xs.map fun x => (x.1, x.2.1, Value.bool x.2.2)
def lookB (xs : List Ent) (k : NestedKey) : Option Bool := (xs.find? fun x => decide (x.1 = k)).map (·.2.2)
theorem atKey_ents (xs : List Ent) (k : NestedKey) : (atKey (ents xs) k).map (·.2) = (lookB xs k).map Value.bool := by
  induction xs with
  | nil => rfl
  | cons x xs ih =>
    by_cases h : x.1 = k
    · simp [atKey, lookB, ents, List.find?_cons, h]
    · have e1 : atKey (ents (x :: xs)) k = atKey (ents xs) k := by simp [atKey, ents, List.find?_cons, h]
      have e2 : lookB (x :: xs) k = lookB xs k := by simp [lookB, List.find?_cons, h]
      rw [e1, e2, ih]
def DkO (P : Program) (w : World) (d : Addr) (xs : List Ent) : HO := .ext fun h => xs.length ≤ sizeLine ∧ (d == sysModules) = false ∧ ∃ o es ep, h.get? d = some o ∧ o.ExactDict ∧ o.data = .dict es ep ∧ es.toList = (ents xs).map (entryOfKey (nestedKind P w)) ∧ ((ents xs).map (·.1)).Nodup
def KeysOk (H : Hp) (xs : List Ent) : Prop := ∀ x ∈ xs, KeyV H x.1 (.ref x.2.1) ∧ x.1.depth ≤ 8
theorem DkO.ne_tup {P : Program} {w : World} {d : Addr} {xs : List Ent} {ys : List L2.V} : DkO P w d xs ≠ .tup ys := nofun
theorem KeysOk.to {H H' : Hp} {xs : List Ent} (h : KeysOk H xs) (e : ∀ b ys, H b = some (.tup ys) → H' b = some (.tup ys)) : KeysOk H' xs := fun x hx => ⟨(h x hx).1.to e, (h x hx).2⟩
section
variable {X : Cx} {pins : List (Addr × Obj)} {σ : L2.St} {H : Hp} {s : Shared} {d b : Addr} {xs : List Ent} {k : NestedKey}
theorem dk_dict (I : Inv X pins σ H s) (e : H d = some (DkO X.prog X.w d xs)) (ko : KeysOk H xs) : xs.length ≤ sizeLine ∧ (d == sysModules) = false ∧ s.heap.DictOfH (nestedKind X.prog X.w) d (ents xs) := by
  obtain ⟨⟨z, hd, o, es, ep, h1, h2, h3, h4, h5⟩, _⟩ := I.hok d _ e
  refine ⟨z, hd, o, es, ep, h1, h2, h3, h4, fun y hy => ?_, h5⟩
  obtain ⟨x, hx, rfl⟩ := List.mem_map.mp hy
  exact ⟨(ko x hx).1.is I rfl, (ko x hx).2⟩
theorem dk_obj {P : Program} {w : World} {H' : Hp} {h' : Heap} (z : xs.length ≤ sizeLine) (hd : (d == sysModules) = false) (dd : h'.DictOfH (nestedKind P w) d (ents xs)) : ObjOk P w H' h' d (DkO P w d xs) := by
  obtain ⟨o, es, ep, h1, h2, h3, h4, _, h5⟩ := dd
  refine ⟨⟨z, hd, o, es, ep, h1, h2, h3, h4, h5⟩, ⟨o, h1⟩, fun g1 g2 ⟨z, hd, o, es, ep, h1, h2⟩ k => ⟨z, hd, o, es, ep, k o h1, h2⟩⟩
/-- key in dict -/
def rNKIn (P : Program) (w : World) : R2 := fun x y H Q => ∃ d xs k b, x = .ref b ∧ y = .ref d ∧ H d = some (DkO P w d xs) ∧ KeysOk H xs ∧ KeyV H k (.ref b) ∧ k.depth ≤ 8 ∧ Q (.bl (lookB xs k).isSome) H
theorem op_inNK {P : Program} {w : World} (hu : X.A.units + 64 < cLine) (hP : X.prog = P := by rfl) (hW : X.w = w := by rfl) : OpR X (compareOp .In) (rNKIn P w) := by
  subst hP hW
  intro pins s σ H x y v u Q I rx ry h
  obtain ⟨d, xs, k, b, rfl, rfl, e, ko, kv, hk, q⟩ := h
  cases rx; cases ry
  obtain ⟨z, hd, dd⟩ := dk_dict I e ko
  have hkey : (nestedKind X.prog X.w).is s.heap k b := ⟨kv.is I rfl, hk⟩
  refine wpAny_in_heap (knd := nestedKind X.prog X.w) (show X.A.units + 1 + 8 < cLine by omega) hkey hd dd ?_
  have e2 : (atKey (ents xs) k).isSome = (lookB xs k).isSome := by
    have := congrArg Option.isSome (atKey_ents xs k)
    rw [Option.isSome_map, Option.isSome_map] at this
    exact this
  rw [e2]
  exact ⟨.bl _, H, I.tok _, rfl, q⟩
/-- dict[key] -/
def rNKGet (P : Program) (w : World) : R2 := fun x y H Q => ∃ d xs k b t, x = .ref d ∧ y = .ref b ∧ H d = some (DkO P w d xs) ∧ KeysOk H xs ∧ KeyV H k (.ref b) ∧ k.depth ≤ 8 ∧ lookB xs k = some t ∧ Q (.bl t) H
theorem pe_nkGet {P : Program} {w : World} {o i : Expr} {td ty : TE} {pos : Pos} (hu : X.A.units + 64 < cLine) (ho : PE X o td) (hi : PE X i ty) (hs : NoSl i) (hP : X.prog = P := by rfl) (hW : X.w = w := by rfl) : PE X (.Subscript o i pos) (tOp (rNKGet P w) td ty) := by
  subst hP hW
  refine ⟨fun pins s σ H Q I h => ?_⟩
  refine subD_of PySem.F.slot_dict_getitem.lookup hs (thn (ho.run pins s σ H _ I h) fun u s1 ⟨x, H1, I1, rx, q1⟩ => thn (hi.run pins s1 σ H1 _ I1 q1) fun iv s2 ⟨y, H2, I2, ry, d, xs, k, b, t, ex, ey, e, ko, kv, hk, hl, q2⟩ => ?_)
  subst ex ey
  obtain rfl : u = Value.ref d := rx
  obtain rfl : iv = Value.ref b := ry
  obtain ⟨z, hd, dd⟩ := dk_dict I2 e ko
  refine ⟨dd.typeIs, ?_⟩
  have e2 := atKey_ents xs k
  rw [hl] at e2
  obtain ⟨p, hp, hp2⟩ := Option.map_eq_some_iff.mp e2
  have hkey : (nestedKind X.prog X.w).is s2.heap k b := ⟨kv.is I2 rfl, hk⟩
  refine wpAny_getItem_heap (knd := nestedKind X.prog X.w) (show X.A.units + 1 + 8 < cLine by omega) hkey dd hp ?_
  rw [hp2]
  exact ⟨.bl t, H2, I2.tok _, rfl, q2⟩
/-- what stands there after dict[key] = t -/
def PutB (xs : List Ent) (k : NestedKey) (b : Addr) (t : Bool) (xs' : List Ent) : Prop := xs'.length ≤ xs.length + 1 ∧ ((xs.map (·.1)).Nodup → (xs'.map (·.1)).Nodup) ∧ (∀ x ∈ xs', (x ∈ xs ∧ x.1 ≠ k) ∨ (x.1 = k ∧ x.2.2 = t ∧ (x.2.1 = b ∨ ∃ y ∈ xs, y.1 = k ∧ y.2.1 = x.2.1)))
theorem put_ents (xs : List Ent) (k : NestedKey) (b : Addr) (t : Bool) : ∃ xs', storedH (ents xs) k b (Value.bool t) = ents xs' ∧ PutB xs k b t xs' := by
  by_cases h : (atKey (ents xs) k).isSome = true
  · refine ⟨xs.map fun x => if x.1 = k then (x.1, x.2.1, t) else x, ?_, by rw [List.length_map]; omega, fun nd => ?_, fun x hx => ?_⟩
    · rw [storedH, if_pos h]
      simp only [ents, List.map_map]
      refine List.map_congr_left fun x _ => ?_
      show putAt k (Value.bool t) (x.1, x.2.1, Value.bool x.2.2) = _
      unfold putAt
      by_cases e : x.1 = k
      · simp [e]
      · simp [e]
    · have e : (xs.map fun x => if x.1 = k then (x.1, x.2.1, t) else x).map (·.1) = xs.map (·.1) := by
        rw [List.map_map]
        refine List.map_congr_left fun x _ => ?_
        show (if x.1 = k then (x.1, x.2.1, t) else x).1 = x.1
        by_cases e : x.1 = k
        · rw [if_pos e]
        · rw [if_neg e]
      rw [e]; exact nd
    · obtain ⟨y, hy, rfl⟩ := List.mem_map.mp hx
      by_cases e : y.1 = k
      · right
        rw [if_pos e]
        exact ⟨e, rfl, .inr ⟨y, hy, e, rfl⟩⟩
      · left
        rw [if_neg e]
        exact ⟨hy, e⟩
  · have hn : atKey (ents xs) k = none := by
      cases q : atKey (ents xs) k with
      | none => rfl
      | some _ => rw [q] at h; exact absurd rfl h
    have fresh : ∀ x ∈ xs, x.1 ≠ k := fun x z e => by
      have := atKey_ents xs k
      rw [hn] at this
      have hl : lookB xs k = none := by
        cases q : lookB xs k with
        | none => rfl
        | some _ => rw [q] at this; cases this
      have : (xs.find? fun x => decide (x.1 = k)) = none := by
        cases q : xs.find? fun x => decide (x.1 = k) with
        | none => rfl
        | some _ => rw [lookB, q] at hl; cases hl
      have := List.find?_eq_none.mp this x z
      simp [e] at this
    refine ⟨xs ++ [(k, b, t)], ?_, by rw [List.length_append]; exact Nat.le_refl _, fun nd => ?_, fun x hx => ?_⟩
    · rw [storedH_new hn]
      simp [ents]
    · rw [List.map_append, List.nodup_append]
      refine ⟨nd, by simp, fun x hx y hy => ?_⟩
      obtain ⟨z, hz, rfl⟩ := List.mem_map.mp hx
      rw [List.mem_singleton.mp hy]
      exact fresh z hz
    · rcases List.mem_append.mp hx with z | z
      · exact .inl ⟨z, fresh x z⟩
      · rw [List.mem_singleton.mp z]
        exact .inr ⟨rfl, rfl, .inl rfl⟩
def rNKSet (P : Program) (w : World) : TSet := fun o i v H Q => ∃ d xs k b t, o = .ref d ∧ i = .ref b ∧ v = .bl t ∧ H d = some (DkO P w d xs) ∧ KeysOk H xs ∧ KeyV H k (.ref b) ∧ k.depth ≤ 8 ∧ xs.length < sizeLine ∧
  ∀ xs', PutB xs k b t xs' → Q (upd H d (DkO P w d xs'))
theorem set_nk {P : Program} {w : World} (hu : X.A.units + 64 < cLine) (hP : X.prog = P := by rfl) (hW : X.w = w := by rfl) : PSet X (rNKSet P w) := by
  subst hP hW
  intro pins s σ H o i v ov iv u Q I ro ri rv h
  obtain ⟨d, xs, k, b, t, rfl, rfl, rfl, e, ko, kv, hk, hl, q⟩ := h
  cases ro; cases ri; cases rv
  obtain ⟨z, hd, dd⟩ := dk_dict I e ko
  obtain ⟨xs', hx, pu⟩ := put_ents xs k b t
  have hkey : (nestedKind X.prog X.w).is s.heap k b := ⟨kv.is I rfl, hk⟩
  refine wpAny_setItem_heap (knd := nestedKind X.prog X.w) (hsz := by rw [ents, List.length_map]; exact z) (show X.A.units + 1 + 8 < cLine by omega) hkey dd fun h' dd' hs => ?_
  rw [hx] at dd'
  have he : ∃ q, h'.get? d = some q := let ⟨q, _, _, hq, _⟩ := dd'; ⟨q, hq⟩
  exact ⟨_, d_write I (by rw [e]; exact True.intro) hs he (dk_obj (by have := pu.1; omega) hd dd'), q xs' pu⟩
/-- {} -/
def tNKNew (P : Program) (w : World) : TE := fun _ H Q => ∀ p, H p = none → Q (.ref p) (upd H p (DkO P w p []))
theorem pe_nkNew {P : Program} {w : World} {pos : Pos} (hP : X.prog = P := by rfl) (hW : X.w = w := by rfl) : PE X (.Dict [] [] pos) (tNKNew P w) := by
  subst hP hW
  exact ⟨fun pins s σ H Q I h => wpAny_Dict_empty ⟨.ref s.heap.objs.size, _, I.laid (a := s.heap.objs.size) (o := DkO X.prog X.w s.heap.objs.size []) (t' := s.toks) (fun _ _ q => Heap.get?_push_of_some _ q) (Nat.le_refl _)
    (dk_obj (Nat.zero_le _) (beq_eq_false_iff_ne.mpr (Ne.symm (Nat.ne_of_lt I.big))) (Heap.DictOfH.new _)), rfl, h _ (I.hok.fresh (Nat.le_refl _))⟩⟩
end
end K42
/-! text P21 -/
set_option Elab.async false
set_option linter.all false
set_option maxRecDepth 100000
set_option maxHeartbeats 4000000
namespace K42
open PySem PySem.Spec PyProof.Rows L2

/-! The law's game: the dict of what is known; data level over it. -/
section
variable {P : Program} {w : World} {K : PySem.W.Frag} {mg : Str → Option Value} {base : Heap}
/-! ### plain functions -/
def hoursR (lo hi : Int) : List Int := (List.range (hi + 1 - lo).toNat).map fun (i : Nat) => lo + (i : Nat)
def answersW (f : Tms → Bool) (ties : List TieT) (span : Int × Int) : List Nat → Tms → Bool
  | [], t => f t
  | v :: lot, t => (hoursR (hoursOf ties t v span).1 (hoursOf ties t v span).2).any fun h => answersW f ties span lot (t.set v (some h))
def saidOf (t : Tms) : List Int := t.filterMap id
def maxI : List Int → Int
  | [] => 0
  | x :: xs => xs.foldl (fun a b => if b > a then b else a) x
def minI : List Int → Int
  | [] => 0
  | x :: xs => xs.foldl (fun a b => if b < a then b else a) x
def overOf (ties : List TieT) (bs : List Nat) : Int := ((walksOf bs : Nat) : Int) * maxI (0 :: ties.map fun t => t.2.2)
def spanOf (ties : List TieT) (t : Tms) (bs : List Nat) : Int × Int := (minI (saidOf t) - overOf ties bs, maxI (saidOf t) + overOf ties bs)
def canL (ties : List TieT) : List Nat → Tms → Bool
  | [], _ => true
  | b :: bs, t => if missL t = [] then true else ((lotsF b (missL t)).drop 1).all fun lot => answersW (canL ties bs) ties (spanOf ties t (b :: bs)) lot t
def asgs (A B : Int) : List Nat → Tms → List Tms
  | [], t => [t]
  | v :: l, t => (hoursR A B).flatMap fun h => asgs A B l (t.set v (some h))
/-- what may be asked of can: U holds the keys that may be stored -/
def CanPre (U : List (Tms × List Nat)) (ties : List TieT) : List Nat → Tms → Prop
  | [], _ => True
  | b :: bs, t => (t, b :: bs) ∈ U ∧ saidOf t ≠ [] ∧ inTm t (-10000000000) 10000000000 ∧ overOf ties (b :: bs) ≤ 10000000000 ∧ ∀ lot ∈ (lotsF b (missL t)).drop 1, ∀ t' ∈ asgs (spanOf ties t (b :: bs)).1 (spanOf ties t (b :: bs)).2 lot t, CanPre U ties bs t'
theorem fold_max : ∀ (xs : List Int) (x : Int), (xs.foldl (fun a b => if b > a then b else a) x ∈ x :: xs) ∧ ∀ y ∈ x :: xs, y ≤ xs.foldl (fun a b => if b > a then b else a) x
  | [], x => ⟨List.mem_cons_self, fun y h => by rw [List.mem_singleton.mp h]; exact Int.le_refl _⟩
  | z :: xs, x => by
    obtain ⟨h1, h2⟩ := fold_max xs (if z > x then z else x)
    show (xs.foldl _ (if z > x then z else x)) ∈ _ ∧ ∀ y ∈ _, y ≤ xs.foldl _ (if z > x then z else x)
    have h3 := h2 _ List.mem_cons_self
    refine ⟨?_, fun y hy => ?_⟩
    · rcases List.mem_cons.mp h1 with e | e
      · rw [e]; split
        · exact List.mem_cons_of_mem _ List.mem_cons_self
        · exact List.mem_cons_self
      · exact List.mem_cons_of_mem _ (List.mem_cons_of_mem _ e)
    · rcases List.mem_cons.mp hy with e | e
      · rw [e]; exact Int.le_trans (show x ≤ if z > x then z else x by split <;> omega) h3
      · rcases List.mem_cons.mp e with e | e
        · rw [e]; exact Int.le_trans (show z ≤ if z > x then z else x by split <;> omega) h3
        · exact h2 y (List.mem_cons_of_mem _ e)
theorem fold_min : ∀ (xs : List Int) (x : Int), (xs.foldl (fun a b => if b < a then b else a) x ∈ x :: xs) ∧ ∀ y ∈ x :: xs, xs.foldl (fun a b => if b < a then b else a) x ≤ y
  | [], x => ⟨List.mem_cons_self, fun y h => by rw [List.mem_singleton.mp h]; exact Int.le_refl _⟩
  | z :: xs, x => by
    obtain ⟨h1, h2⟩ := fold_min xs (if z < x then z else x)
    show (xs.foldl _ (if z < x then z else x)) ∈ _ ∧ ∀ y ∈ _, xs.foldl _ (if z < x then z else x) ≤ y
    have h3 := h2 _ List.mem_cons_self
    refine ⟨?_, fun y hy => ?_⟩
    · rcases List.mem_cons.mp h1 with e | e
      · rw [e]; split
        · exact List.mem_cons_of_mem _ List.mem_cons_self
        · exact List.mem_cons_self
      · exact List.mem_cons_of_mem _ (List.mem_cons_of_mem _ e)
    · rcases List.mem_cons.mp hy with e | e
      · rw [e]; exact Int.le_trans h3 (show (if z < x then z else x) ≤ x by split <;> omega)
      · rcases List.mem_cons.mp e with e | e
        · rw [e]; exact Int.le_trans h3 (show (if z < x then z else x) ≤ z by split <;> omega)
        · exact h2 y (List.mem_cons_of_mem _ e)
theorem maxI_of {xs : List Int} {m : Int} (h : m ∈ xs) (hm : ∀ y ∈ xs, y ≤ m) : m = maxI xs := by
  cases xs with
  | nil => cases h
  | cons x xs =>
    obtain ⟨h1, h2⟩ := fold_max xs x
    exact Int.le_antisymm (h2 m h) (hm _ h1)
theorem minI_of {xs : List Int} {m : Int} (h : m ∈ xs) (hm : ∀ y ∈ xs, m ≤ y) : m = minI xs := by
  cases xs with
  | nil => cases h
  | cons x xs =>
    obtain ⟨h1, h2⟩ := fold_min xs x
    exact Int.le_antisymm (hm _ h1) (h2 m h)
theorem maxI_mem {xs : List Int} (h : xs ≠ []) : maxI xs ∈ xs ∧ ∀ y ∈ xs, y ≤ maxI xs := by
  cases xs with
  | nil => exact absurd rfl h
  | cons x xs => exact fold_max xs x
theorem minI_mem {xs : List Int} (h : xs ≠ []) : minI xs ∈ xs ∧ ∀ y ∈ xs, minI xs ≤ y := by
  cases xs with
  | nil => exact absurd rfl h
  | cons x xs => exact fold_min xs x
/-! ### keys -/
def ko : Option Int → NestedKey
  | none => .none
  | some t => .num t
def keyOf (t : Tms) (bs : List Nat) : NestedKey := .tup [.tup (t.map ko), .tup (bs.map fun (b : Nat) => .num (b : Nat))]
abbrev encK (t : Tms) (bs : List Nat) : PD := .tuple [encT t, encB bs]
theorem map_inj {α β : Type} {f : α → β} (h : ∀ x y, f x = f y → x = y) : ∀ {xs ys : List α}, xs.map f = ys.map f → xs = ys
  | [], [], _ => rfl
  | [], _ :: _, e => by cases e
  | _ :: _, [], e => by cases e
  | x :: xs, y :: ys, e => by
    rw [List.map_cons, List.map_cons] at e
    obtain ⟨e1, e2⟩ := List.cons.inj e
    rw [h x y e1, map_inj h e2]
theorem keyOf_inj {t t' : Tms} {bs bs' : List Nat} (e : keyOf t bs = keyOf t' bs') : t = t' ∧ bs = bs' := by
  have e := NestedKey.tup.inj e
  obtain ⟨e1, e⟩ := List.cons.inj e
  obtain ⟨e2, _⟩ := List.cons.inj e
  refine ⟨map_inj (fun x y h => ?_) (NestedKey.tup.inj e1), map_inj (fun x y h => ?_) (NestedKey.tup.inj e2)⟩
  · cases x <;> cases y
    · rfl
    · cases h
    · cases h
    · rw [NestedKey.num.inj h]
  · exact Int.ofNat.inj (NestedKey.num.inj h)
theorem depth_flat : ∀ {ks : List NestedKey}, (∀ k ∈ ks, k.depth = 0) → NestedKey.depthAll ks = 0
  | [], _ => rfl
  | k :: ks, h => by
    rw [NestedKey.depthAll, h k List.mem_cons_self, depth_flat fun x hx => h x (List.mem_cons_of_mem _ hx)]; rfl
theorem keyOf_depth (t : Tms) (bs : List Nat) : (keyOf t bs).depth ≤ 8 := by
  have h1 : NestedKey.depthAll (t.map ko) = 0 := depth_flat fun k hk => by
    obtain ⟨x, _, rfl⟩ := List.mem_map.mp hk
    cases x <;> rfl
  have h2 : NestedKey.depthAll (bs.map fun (b : Nat) => NestedKey.num (b : Nat)) = 0 := depth_flat fun k hk => by
    obtain ⟨x, _, rfl⟩ := List.mem_map.mp hk
    rfl
  simp only [keyOf, NestedKey.depth, NestedKey.depthAll, h1, h2]
  decide
theorem keyVs_of {A : Addr → Prop} {H : Hp} {α : Type} {f : α → PD} {g : α → NestedKey} (h : ∀ x v, Rp A H v (f x) → KeyV H (g x) v) : ∀ {xs : List α} {vs : List L2.V}, RpL A H vs (xs.map f) → KeyVs H (xs.map g) vs
  | [], _, r => by cases r; exact .nil
  | x :: xs, _, r => by
    cases r with
    | cons r t => exact .cons (h x _ r) (keyVs_of h t)
theorem key_rp {A : Addr → Prop} {H : Hp} {v : L2.V} {t : Tms} {bs : List Nat} (r : Rp A H v (encK t bs)) : ∃ b, v = .ref b ∧ KeyV H (keyOf t bs) (.ref b) := by
  cases r with
  | @tup a xs _ ha na r =>
    refine ⟨a, rfl, .tup ha ?_⟩
    cases r with
    | cons r1 r =>
      cases r with
      | cons r2 r =>
        cases r
        cases r1 with
        | @tup a1 x1 _ h1 n1 r1 =>
          cases r2 with
          | @tup a2 x2 _ h2 n2 r2 =>
            refine .cons (.tup h1 (keyVs_of (fun x v r => ?_) r1)) (.cons (.tup h2 (keyVs_of (fun x v r => ?_) r2)) .nil)
            · cases x with
              | none => cases r; exact .none
              | some i => cases r; exact .num i
            · cases r; exact .num _
/-! ### the dict -/
structure Knw (P : Program) (w : World) (ties : List TieT) (U : List (Tms × List Nat)) (d : Addr) (H : Hp) (xs : List Ent) : Prop where
  at_ : H d = some (DkO P w d xs)
  keys : KeysOk H xs
  nd : (xs.map (·.1)).Nodup
  ok : ∀ x ∈ xs, ∃ tb ∈ U, x.1 = keyOf tb.1 tb.2 ∧ x.2.2 = canL ties tb.2 tb.1
theorem Knw.loc {ties : List TieT} {U : List (Tms × List Nat)} {d : Addr} {H H' : Hp} {xs : List Ent} (h : Knw P w ties U d H xs) (k : ∀ b u, H b = some u → (b = d ∨ ∃ ys, u = HO.tup ys) → H' b = some u) : Knw P w ties U d H' xs :=
  ⟨k _ _ h.at_ (.inl rfl), h.keys.to fun b ys e => k b _ e (.inr ⟨ys, rfl⟩), h.nd, h.ok⟩
def Gk (P : Program) (w : World) (ties : List TieT) (U : List (Tms × List Nat)) (d : Addr) : Gm where
  N := fun b => b = d
  S := fun H => ∃ xs, Knw P w ties U d H xs
  dom := fun H b ⟨xs, k⟩ e => by rw [e, k.at_]; exact nofun
  loc := fun H H' ⟨xs, k⟩ f => ⟨xs, k.loc f⟩
theorem nodup_le {α : Type} [DecidableEq α] : ∀ {xs ys : List α}, xs.Nodup → (∀ x ∈ xs, x ∈ ys) → xs.length ≤ ys.length
  | [], _, _, _ => Nat.zero_le _
  | x :: xs, ys, nd, h => by
    obtain ⟨h1, h2⟩ := List.nodup_cons.mp nd
    have hx := h x List.mem_cons_self
    have := nodup_le (xs := xs) (ys := ys.erase x) h2 fun y hy => (List.mem_erase_of_ne (fun e => h1 (by rw [← e]; exact hy))).mpr (h y (List.mem_cons_of_mem _ hy))
    rw [List.length_erase_of_mem hx] at this
    have : 0 < ys.length := List.length_pos_of_mem hx
    rw [List.length_cons]; omega
theorem Knw.len {ties : List TieT} {U : List (Tms × List Nat)} {d : Addr} {H : Hp} {xs : List Ent} (h : Knw P w ties U d H xs) : xs.length ≤ U.length := by
  have := nodup_le (xs := xs.map (·.1)) (ys := U.map fun tb => keyOf tb.1 tb.2) h.nd fun k hk => by
    obtain ⟨x, hx, rfl⟩ := List.mem_map.mp hk
    obtain ⟨tb, h1, h2, _⟩ := h.ok x hx
    exact List.mem_map.mpr ⟨tb, h1, h2.symm⟩
  rw [List.length_map, List.length_map] at this
  exact this
theorem look_mem {xs : List Ent} {k : NestedKey} {t : Bool} (h : lookB xs k = some t) : ∃ x ∈ xs, x.1 = k ∧ x.2.2 = t := by
  obtain ⟨x, hx, e⟩ := Option.map_eq_some_iff.mp h
  have e1 := List.find?_some (p := fun x : Ent => decide (x.1 = k)) hx
  exact ⟨x, List.mem_of_find?_eq_some hx, of_decide_eq_true e1, e⟩
section
variable {ties : List TieT} {U : List (Tms × List Nat)} {d : Addr} {ρ : Rho} {i j : Nat} {t : Tms} {bs : List Nat} {E : DE} {te : TE} {Kd : PD → Prop}
/-- if key in known: return known[key] -/
theorem wpS_ifK (hi : ρ[i]? = some (Sl.spc (.ref d))) (hj : ρ[j]? = some (Sl.dat (encK t bs))) (kr : E.rt (.dat (.bool (canL ties bs t)))) (kn : E.nx ρ) :
    wpS (Gk P w ties U d) (tIfS (tTest (tOp (rNKIn P w) (tVar j) (tVar i))) (tRet (tOp (rNKGet P w) (tVar i) (tVar j))) tNext) ρ E := fun X o σ H V D qn qr _ _ => by
  obtain ⟨v, hv, rv⟩ := V.dat j _ hj
  have hd := V.spc i _ hi
  obtain ⟨b, rfl, kv⟩ := key_rp rv
  obtain ⟨xs, kn'⟩ := V.s
  refine ⟨.ref b, hv, .ref d, hd, d, xs, keyOf t bs, b, rfl, rfl, kn'.at_, kn'.keys, kv, keyOf_depth t bs, _, rfl, ?_⟩
  cases hl : lookB xs (keyOf t bs) with
  | none => exact qn o σ H ρ Reach.rfl' V kn
  | some z =>
    refine ⟨.ref d, hd, .ref b, hv, d, xs, keyOf t bs, b, z, rfl, rfl, kn'.at_, kn'.keys, kv, keyOf_depth t bs, hl, ?_⟩
    obtain ⟨x, hx, ex, ez⟩ := look_mem hl
    obtain ⟨tb, _, e1, e2⟩ := kn'.ok x hx
    obtain ⟨e3, e4⟩ := keyOf_inj (e1.symm.trans ex)
    rw [← ez, e2, e3, e4]
    exact qr _ H (.dat (.bool (canL ties bs t))) ⟨Fr.rfl', V.s, .bl _⟩ kr
/-- known[key] = what can says -/
theorem wpS_setK (hi : ρ[i]? = some (Sl.spc (.ref d))) (hj : ρ[j]? = some (Sl.dat (encK t bs))) (hU : (t, bs) ∈ U) (hl : U.length < 16000000) (h : wpE (Gk P w ties U d) te ρ fun dv => dv = .bool (canL ties bs t) ∧ E.nx ρ) :
    wpS (Gk P w ties U d) (tAsg te (gSub (tVar i) (tVar j) (rNKSet P w))) ρ E := fun X o σ H V D qn _ _ _ => h X o σ H V _ fun tv H1 dv f1 s1 rt ⟨e, k⟩ => by
  subst e; cases rt
  have V1 := V.step f1 s1
  obtain ⟨v, hv, rv⟩ := V1.dat j _ hj
  have hd := V1.spc i _ hi
  obtain ⟨b, rfl, kv⟩ := key_rp rv
  obtain ⟨xs, kn⟩ := V1.s
  have hlen := kn.len
  refine ⟨.ref d, hd, .ref b, hv, d, xs, keyOf t bs, b, canL ties bs t, rfl, rfl, rfl, kn.at_, kn.keys, kv, keyOf_depth t bs, Nat.lt_of_lt_of_le (show xs.length < 16000000 by omega) (by rw [sizeLine_eq]; decide), fun xs' pu => ?_⟩
  have tk : ∀ c ys, H1 c = some (.tup ys) → (upd H1 d (DkO P w d xs')) c = some (.tup ys) := fun c ys e => by
    rw [upd_ne fun z => by rw [z, kn.at_] at e; cases e]; exact e
  have kn2 : Knw P w ties U d (upd H1 d (DkO P w d xs')) xs' := by
    obtain ⟨_, p2, p3⟩ := pu
    refine ⟨upd_same, fun x hx => ?_, p2 kn.nd, fun x hx => ?_⟩
    · rcases p3 x hx with ⟨hx, _⟩ | ⟨e1, e2, e3⟩
      · exact ⟨(kn.keys x hx).1.to tk, (kn.keys x hx).2⟩
      · refine ⟨?_, by rw [e1]; exact keyOf_depth t bs⟩
        rcases e3 with e3 | ⟨y, hy, e4, e5⟩
        · rw [e1, e3]; exact kv.to tk
        · rw [e1, ← e4, ← e5]; exact (kn.keys y hy).1.to tk
    · rcases p3 x hx with ⟨hx, _⟩ | ⟨e1, e2, e3⟩
      · exact kn.ok x hx
      · exact ⟨(t, bs), hU, e1, e2⟩
  have fr : Fr (fun c => c = d) H1 (upd H1 d (DkO P w d xs')) := fun c u e n => by rw [upd_ne n]; exact e
  exact qn o σ _ ρ ((Reach.of (o := o) (ρ := ρ) f1 s1).trans (Reach.of fr ⟨xs', kn2⟩)) (V1.step fr ⟨xs', kn2⟩) k
/-- a def over the dict: from data and the dict to a truth value -/
def SpKn (P : Program) (w : World) (ties : List TieT) (U : List (Tms × List Nat)) (Pf : List PD → (Bool → Prop) → Prop) : Sp := fun vs H Q _ => ∃ (d : Addr) (X : Addr → Prop) (vs' : List L2.V) (ds : List PD) (K : Bool → Prop),
  vs = vs' ++ [.ref d] ∧ (∃ xs, Knw P w ties U d H xs) ∧ X d ∧ (∀ b, X b → H b ≠ none) ∧ RpL X H vs' ds ∧ Pf ds K ∧ ∀ b H', Fr (fun c => c = d) H H' → (∃ xs, Knw P w ties U d H' xs) → K b → Q (.bl b) H'
theorem RpSs.split {A : Addr → Prop} {H : Hp} {v : L2.V} : ∀ {ds : List PD} {vs : List L2.V}, RpSs A H vs (ds.map .dat ++ [.spc v]) → ∃ vs', vs = vs' ++ [v] ∧ RpL A H vs' ds
  | [], _, r => by
    cases r with
    | cons r t => cases t; cases r; exact ⟨[], rfl, .nil⟩
  | e :: ds, _, r => by
    cases r with
    | cons r t =>
      cases r with
      | dat r =>
        obtain ⟨vs', e1, r'⟩ := RpSs.split (ds := ds) t
        exact ⟨_ :: vs', by rw [e1]; rfl, .cons r r'⟩
theorem RpL.snoc {A : Addr → Prop} {H : Hp} {w : L2.V} : ∀ {vs : List L2.V} {ds : List PD}, RpL A H vs ds → RpSs A H (vs ++ [w]) (ds.map .dat ++ [.spc w])
  | _, _, .nil => .cons .spc .nil
  | _, _, .cons r t => .cons (.dat r) (RpL.snoc t)
variable {Pf : List PD → (Bool → Prop) → Prop} {ta : TA} {Ex : XK}
theorem wpE_callK (h : wpA (Gk P w ties U d) ta ρ fun ss => ∃ ds, ss = ds.map .dat ++ [.spc (.ref d)] ∧ Pf ds fun b => Kd (.bool b)) : wpE (Gk P w ties U d) (tCall (SpKn P w ties U Pf) [] Ex ta) ρ Kd := fun X o σ H V Q q => h X o σ H V _ fun vs H1 ss f1 s1 r ⟨ds, e, p⟩ => by
  subst e
  have V1 := V.step f1 s1
  obtain ⟨vs', e, r'⟩ := r.split
  refine ⟨d, Av X o ρ, vs', ds, _, by rw [List.append_nil, e], s1, V.nav d rfl, fun b z => V1.dom z, r', p, fun b H2 f2 s2 k => q _ H2 _ (f1.trans f2) s2 (.bl b) k⟩
theorem cl_known {x : Str} {st : Stmt} {N ps : List Str} {k : Nat} (D : Dn K mg x st) (S : FnScope N ps (defScope st)) (hb : bindsOk x st ps) (len : ∀ ds K, Pf ds K → ds.length + 1 = ps.length)
    (hbody : ∀ (f : Addr) (cdv : Value) (A : Around) (outer : List Env) (s : Shared) (H : Hp) (E : XK), Room k (A.deeper (envOfC x (defScope st) s.heap.objs.size f cdv)) →
      ∃ t, PSs (cxOf CX0 P w K mg base N x (defScope st) f cdv A outer s H E).nox (defBody st) t ∧ ∀ d ds K, Pf ds K → wpS (Gk P w ties U d) t (rho N.length (ds.map .dat ++ [.spc (.ref d)])) { nx := fun _ => False, rt := fun r => ∃ b, r = .dat (.bool b) ∧ K b, bk := fun _ => False, ct := fun _ => False }) : Cl P w K mg base (k + 1) x (SpKn P w ties U Pf) := by
  refine cl_mk D S hb (fun vs H Q E h => ?_) fun f cdv A outer s H vs Q E hr h => ?_
  · obtain ⟨d, X, vs', ds, K, rfl, _, _, _, r, p, _⟩ := h
    rw [List.length_append, r.length]
    exact len ds K p
  · obtain ⟨t, pt, b⟩ := hbody f cdv A outer s H E hr
    obtain ⟨d, X, vs', ds, K', rfl, s0, sub, xd, r, p, q⟩ := h
    have ll := len ds K' p
    have hl : (ds.map Sl.dat ++ [Sl.spc (.ref d)]).length ≤ N.length := by
      have := congrArg List.length S.pre
      rw [List.length_take] at this
      rw [List.length_append, List.length_map]
      show ds.length + 1 ≤ _
      omega
    have rs := r.snoc (w := .ref d)
    have V := env_start (G := Gk P w ties U d) (N := N) (ss := ds.map .dat ++ [.spc (.ref d)]) s0 (fun b e => by rw [show b = d from e]; exact sub) xd rs hl fun _ => 0
    have no : ∀ b, ¬ Own (rho N.length (ds.map .dat ++ [.spc (.ref d)])) (fun _ => 0) b := fun b ⟨i, es, e, _⟩ => by
      have := List.mem_of_getElem? e
      unfold rho at this
      rcases List.mem_append.mp this with z | z
      · rcases List.mem_append.mp z with z | z
        · obtain ⟨_, _, z⟩ := List.mem_map.mp z
          cases z
        · cases List.mem_singleton.mp z
      · cases List.eq_of_mem_replicate z
    refine ⟨t, pt, b d ds K' p X _ _ H V _ ?_ ?_ ?_ ?_⟩
    · exact fun _ _ _ _ _ _ z => z.elim
    · rintro v H' rs ⟨f, s, m⟩ ⟨b, rfl, k⟩
      cases m
      exact q b H' (fun c u h n => f c u h fun z => z.elim n (no c)) s k
    · exact fun _ _ _ _ _ _ z => z.elim
    · exact fun _ _ _ _ _ _ z => z.elim
end
end

end K42
/-! text P22 -/
set_option Elab.async false
set_option linter.all false
set_option maxRecDepth 100000
set_option maxHeartbeats 4000000
namespace K42
open PySem PySem.Spec PyProof.Rows L2

/-! The law's game, walked. -/
section
variable {P : Program} {w : World} {K : PySem.W.Frag} {mg : Str → Option Value} {base : Heap}
def meas : List Nat → Nat
  | [] => 0
  | b :: bs => b + 2 + meas bs
structure Tie0 (ties : List TieT) (n : Nat) : Prop where
  ok : okTs n ties
  lo : ∀ t ∈ ties, -1000000 ≤ t.2.2 ∧ t.2.2 ≤ 1000000
  len : ties.length ≤ 60
def B3 : Int := 30000000000
def p_ans (ties : List TieT) (U : List (Tms × List Nat)) (n : Nat) (ds : List PD) (K : Bool → Prop) : Prop := ∃ (tms : Tms) (ms bs : List Nat) (sp : Int × Int), ds = [.tuple (ties.map et), encT tms, encN ms, encB bs, encI sp] ∧ ms.length + 1 + meas bs ≤ n ∧ (∀ v ∈ ms, v < tms.length) ∧
  Tie0 ties tms.length ∧ okB bs ∧ tms.length ≤ 12 ∧ inTm tms (-30000000000) 30000000000 ∧ -30000000000 ≤ sp.1 ∧ sp.1 ≤ 30000000000 ∧ -30000000000 ≤ sp.2 ∧ sp.2 ≤ 30000000000 ∧ (∀ t' ∈ asgs sp.1 sp.2 ms tms, CanPre U ties bs t') ∧ K (answersW (canL ties bs) ties sp ms tms)
def p_can (ties : List TieT) (U : List (Tms × List Nat)) (n : Nat) (ds : List PD) (K : Bool → Prop) : Prop := ∃ (tms : Tms) (bs : List Nat), ds = [.tuple (ties.map et), encT tms, encB bs] ∧ meas bs ≤ n ∧
  Tie0 ties tms.length ∧ okB bs ∧ tms.length ≤ 12 ∧ CanPre U ties bs tms ∧ K (canL ties bs tms)
abbrev SpAns (P : Program) (w : World) (ties : List TieT) (U : List (Tms × List Nat)) (n : Nat) : Sp := SpKn P w ties U (p_ans ties U n)
abbrev SpCan (P : Program) (w : World) (ties : List TieT) (U : List (Tms × List Nat)) (n : Nat) : Sp := SpKn P w ties U (p_can ties U n)
theorem loFold {tms : Tms} {v : Nat} {B : Int} (ht : inTm tms (-B) B) : ∀ {ties : List TieT} {l : Int}, (∀ t ∈ ties, -1000000 ≤ t.2.2 ∧ t.2.2 ≤ 1000000) → l ≤ ties.foldl (loStep tms v) l ∧ (ties.foldl (loStep tms v) l = l ∨ ties.foldl (loStep tms v) l ≤ B + 1000000)
  | [], l, _ => ⟨Int.le_refl _, .inl rfl⟩
  | t :: ties, l, h => by
    have hw := h t List.mem_cons_self
    have s1 : l ≤ loStep tms v l t ∧ (loStep tms v l t = l ∨ loStep tms v l t ≤ B + 1000000) := by
      unfold loStep
      split
      · split
        · next x hx =>
          have := ht _ _ hx
          split
          · exact ⟨by omega, .inr (by omega)⟩
          · exact ⟨Int.le_refl _, .inl rfl⟩
        · exact ⟨Int.le_refl _, .inl rfl⟩
      · exact ⟨Int.le_refl _, .inl rfl⟩
    obtain ⟨h1, h2⟩ := loFold (v := v) ht (ties := ties) (l := loStep tms v l t) fun u hu => h u (List.mem_cons_of_mem _ hu)
    show l ≤ ties.foldl _ (loStep tms v l t) ∧ (ties.foldl _ (loStep tms v l t) = l ∨ ties.foldl _ (loStep tms v l t) ≤ _)
    refine ⟨by omega, ?_⟩
    rcases h2 with e | e
    · rw [e]
      exact s1.2
    · exact .inr e
theorem hiFold {tms : Tms} {v : Nat} {B : Int} (ht : inTm tms (-B) B) : ∀ {ties : List TieT} {l : Int}, (∀ t ∈ ties, -1000000 ≤ t.2.2 ∧ t.2.2 ≤ 1000000) → ties.foldl (hiStep tms v) l ≤ l ∧ (ties.foldl (hiStep tms v) l = l ∨ -B - 1000000 ≤ ties.foldl (hiStep tms v) l)
  | [], l, _ => ⟨Int.le_refl _, .inl rfl⟩
  | t :: ties, l, h => by
    have hw := h t List.mem_cons_self
    have s1 : hiStep tms v l t ≤ l ∧ (hiStep tms v l t = l ∨ -B - 1000000 ≤ hiStep tms v l t) := by
      unfold hiStep
      split
      · split
        · next x hx =>
          have := ht _ _ hx
          split
          · exact ⟨by omega, .inr (by omega)⟩
          · exact ⟨Int.le_refl _, .inl rfl⟩
        · exact ⟨Int.le_refl _, .inl rfl⟩
      · exact ⟨Int.le_refl _, .inl rfl⟩
    obtain ⟨h1, h2⟩ := hiFold (v := v) ht (ties := ties) (l := hiStep tms v l t) fun u hu => h u (List.mem_cons_of_mem _ hu)
    show ties.foldl _ (hiStep tms v l t) ≤ l ∧ (ties.foldl _ (hiStep tms v l t) = l ∨ _ ≤ ties.foldl _ (hiStep tms v l t))
    refine ⟨by omega, ?_⟩
    rcases h2 with e | e
    · rw [e]
      exact s1.2
    · exact .inr e
theorem mem_hoursR {lo hi h : Int} : h ∈ hoursR lo hi ↔ lo ≤ h ∧ h ≤ hi := by
  unfold hoursR
  rw [List.mem_map]
  constructor
  · rintro ⟨i, hi, rfl⟩
    have := List.mem_range.mp hi
    omega
  · rintro ⟨h1, h2⟩
    exact ⟨(h - lo).toNat, List.mem_range.mpr (by omega), by omega⟩
theorem set_cut (tms : Tms) {v : Nat} (h : Int) (hv : v < tms.length) : cutD (tms.map eo) none (some (v : Int)) ++ [.int h] ++ cutD (tms.map eo) (some ((v : Int) + 1)) none = (tms.set v (some h)).map eo := by
  have e1 : cutD (tms.map eo) none (some (v : Int)) = (tms.map eo).take v := by
    unfold cutD
    rw [List.length_map]
    have a1 : HT.sIx tms.length 0 none = 0 := by simp [HT.sIx]
    have a2 : HT.sIx tms.length tms.length (some (v : Int)) = v := by
      simp only [HT.sIx]
      rw [if_neg (by omega)]; omega
    rw [a1, a2, List.drop_zero, Nat.sub_zero]
  have e2 : cutD (tms.map eo) (some ((v : Int) + 1)) none = (tms.map eo).drop (v + 1) := by
    unfold cutD
    rw [List.length_map]
    have a1 : HT.sIx tms.length 0 (some ((v : Int) + 1)) = v + 1 := by
      simp only [HT.sIx]
      rw [if_neg (by omega)]; omega
    have a2 : HT.sIx tms.length tms.length none = tms.length := by simp [HT.sIx]
    rw [a1, a2, List.take_of_length_le (by rw [List.length_drop, List.length_map]; exact Nat.le_refl _)]
  rw [e1, e2, List.map_set, List.set_eq_take_append_cons_drop, if_pos (by rw [List.length_map]; exact hv), List.append_assoc]; rfl
theorem any_range_take {lo hi : Int} {f : Int → Bool} {i : Nat} (hi' : i < (hi + 1 - lo).toNat) : (hoursR lo hi)[i]? = some (lo + (i : Int)) := by
  unfold hoursR
  rw [List.getElem?_map, List.getElem?_range hi']; rfl
theorem shaped_encN (xs : List Nat) : SeqAt.shaped (encN xs) = true := shaped_listEn xs
abbrev s__law_answers : Stmt := top 72
abbrev N__law_answers : List Str := ["_law_ties_here", "_law_times_here", "_law_lot", "_law_rest", "_law_span", "_law_known", "_law_low", "_law_high", "_law_hour"]
theorem sc__law_answers : FnScope N__law_answers ["_law_ties_here", "_law_times_here", "_law_lot", "_law_rest", "_law_span", "_law_known"] (defScope s__law_answers) := ⟨rfl, rfl, rfl, by decide +kernel, rfl, by decide +kernel, by decide +kernel⟩

/-- @TERM _law_answers -/
theorem ok__law_answers (T : Tx mg) {ties : List TieT} {U : List (Tms × List Nat)} {m : Nat} (D : Dn K mg "_law_answers" s__law_answers) (c__law_hours : Cl P w K mg base 1 "_law_hours" (SpP p_law_hours))
    (c__law_can : Cl P w K mg base (2 * m + 2) "_law_can" (SpCan P w ties U m)) (c__law_answers : Cl P w K mg base (2 * m + 1) "_law_answers" (SpAns P w ties U m)) : Cl P w K mg base (2 * m + 2 + 1) "_law_answers" (SpAns P w ties U (m + 1)) := by
  have sc := sc__law_answers
  refine cl_known D sc (fun _ _ _ _ _ _ us hl => match us, hl with | [_, _, _, _, _, _], _ => rfl) (fun ds K h => by obtain ⟨_, _, _, _, rfl, _⟩ := h; rfl) fun f cdv A outer s H E hr => ?_
  have hu := hr.units
  refine ⟨_, (pss_cons (ps_if (pt_cmpR (opEq (F := K) hu) (pv 2) (pe_lst pa_nil) (nomark _)) (pss_one (ps_ret (pe_cl c__law_can hr (by first | decide | omega) (by rfl) (pa_cons (pv 0) (pa_cons (pv 1) (pa_cons (pv 3) (pa_cons (pv 5) pa_nil))))))) pss_nil)
    (pss_cons (ps_asg (pe_cl c__law_hours hr (by first | decide | omega) (by rfl) (pa_cons (pv 0) (pa_cons (pv 1) (pa_cons (pe_ix (ixSq (F := K)) (pv 2) pe_int (fun _ _ => rfl)) (pa_cons (pv 4) pa_nil))))) (pg_tup rfl (pgs_cons (pg_name (i := 6) sc.nd rfl (by first | exact Or.inl rfl | exact Or.inr rfl)) (pgs_cons (pg_name (i := 7) sc.nd rfl (by first | exact Or.inl rfl | exact Or.inr rfl)) pgs_nil))))
    (pss_cons (ps_for PassesOwn.never rfl (pi_range2 (by rfl) T.b_range (pa_cons (pv 6) (pa_cons (pe_op op_add (pv 7) pe_int) pa_nil))) (pg_name (i := 8) sc.nd rfl (by first | exact Or.inl rfl | exact Or.inr rfl))
      (pss_one (ps_if (pt_val (pe_cl c__law_answers hr (by first | decide | omega) (by rfl) (pa_cons (pv 0) (pa_cons (pe_op op_catA (pe_op op_catA (pe_slice sl_tupA (pv 1) po_none (po_some (pe_ix (ixSq (F := K)) (pv 2) pe_int (fun _ _ => rfl)))) (pe_tup (pa_cons (pv 8) pa_nil))) (pe_slice sl_tupA (pv 1) (po_some (pe_op op_add (pe_ix (ixSq (F := K)) (pv 2) pe_int (fun _ _ => rfl)) pe_int)) po_none)) (pa_cons (pe_slice sl_list (pv 2) (po_some pe_int) po_none) (pa_cons (pv 3) (pa_cons (pv 4) (pa_cons (pv 5) pa_nil)))))))) (pss_one (ps_ret pe_bl)) pss_nil)))
    (pss_one (ps_ret pe_bl))))), fun d => ?_⟩
  rintro ds K' ⟨tms, ms, bs, ⟨s1, s2⟩, rfl, hm, hv, tk, okb, l12, tin, b1, b2, b3, b4, pre, k⟩
  show wpS (Gk P w ties U d) _ [.dat (.tuple (ties.map et)), .dat (encT tms), .dat (encN ms), .dat (encB bs), .dat (.tuple [.int s1, .int s2]), .spc (.ref d), .no, .no, .no] _
  refine wpS_seq (wpS_if (wpT_test (wpE_op opD_eq (wpE_var rfl (wpN.E (wpN_lst (wpA_nil ⟨[], rfl, le_ rfl, shaped_encN ms, rfl, _, rfl, ?_⟩)))))))
  rw [eqv_listNil, map_nil]
  cases ms with
  | nil =>
    rw [decide_eq_true rfl, if_pos rfl]
    exact wpS_ret (wpE_callK (wpA_cons (wpE_var rfl (wpA_cons (wpE_var rfl (wpA_cons (wpE_var rfl (wpA_spc rfl (wpA_nil ⟨[_, _, _], rfl, tms, bs, rfl, (by have : ([] : List Nat).length = 0 := rfl; omega), tk, okb, l12, pre tms (List.mem_singleton.mpr rfl), _, rfl, k⟩)))))))))
  | cons v ms =>
  rw [decide_eq_false (by simp), if_neg Bool.false_ne_true]
  have vl := hv v List.mem_cons_self
  refine wpS_nil (wpS_seq (wpS_asg (tg_tup (js := [6, 7]) rfl rfl) (wpE_callP (wpA_cons (wpE_var rfl (wpA_cons (wpE_var rfl (wpA_cons (wpE_op opD_ix (wpE_var rfl (wpE_int ⟨_, _, _, rfl, rfl, at_0 _ _, wpA_cons (wpE_var rfl (wpA_nil ⟨[_, _, _, _], rfl, ties, tms, v, (s1, s2), rfl, tk.ok, _, rfl, ?_⟩))⟩)))))))))))
  have lo := loFold (v := v) tin (l := s1) tk.lo
  have hi := hiFold (v := v) tin (l := s2) tk.lo
  have k : K' ((hoursR (ties.foldl (loStep tms v) s1) (ties.foldl (hiStep tms v) s2)).any fun h => answersW (canL ties bs) ties (s1, s2) ms (tms.set v (some h))) := k
  show wpS (Gk P w ties U d) _ [.dat (.tuple (ties.map et)), .dat (encT tms), .dat (encN (v :: ms)), .dat (encB bs), .dat (.tuple [.int s1, .int s2]), .spc (.ref d), .dat (.int (ties.foldl (loStep tms v) s1)), .dat (.int (ties.foldl (hiStep tms v) s2)), .no] _
  generalize ties.foldl (loStep tms v) s1 = L at lo k
  generalize ties.foldl (hiStep tms v) s2 = G at hi k
  refine wpS_seq (wpS_for tg_name (wpI_rng2 (wpA_cons (wpE_var rfl (wpA_cons (wpE_op opD_I0 (wpE_var rfl (wpE_int ⟨_, _, rfl, rfl, wpA_nil ⟨_, _, rfl, ?_, ?_, ?_, ?_, fun i ρ => (∃ x, ρ = [.dat (.tuple (ties.map et)), .dat (encT tms), .dat (encN (v :: ms)), .dat (encB bs), .dat (.tuple [.int s1, .int s2]), .spc (.ref d), .dat (.int L), .dat (.int G), x]) ∧ ((hoursR L G).take i).any (fun h => answersW (canL ties bs) ties (s1, s2) ms (tms.set v (some h))) = false, ⟨⟨_, rfl⟩, rfl⟩, ?_, ?_⟩⟩))))))))
  · rcases lo with ⟨h1, h2 | h2⟩ <;> omega
  · rcases lo with ⟨h1, h2 | h2⟩ <;> omega
  · rcases hi with ⟨h1, h2 | h2⟩ <;> omega
  · rcases hi with ⟨h1, h2 | h2⟩ <;> omega
  · rintro i e ρ' hi' q ⟨⟨x, rfl⟩, hno⟩
    cases q
    have hg := any_range_take (f := fun h => answersW (canL ties bs) ties (s1, s2) ms (tms.set v (some h))) hi'
    have hb := mem_hoursR.mp (List.mem_of_getElem? hg)
    refine ⟨_, rfl, ?_⟩
    show wpS (Gk P w ties U d) _ [.dat (.tuple (ties.map et)), .dat (encT tms), .dat (encN (v :: ms)), .dat (encB bs), .dat (.tuple [.int s1, .int s2]), .spc (.ref d), .dat (.int L), .dat (.int G), .dat (.int (L + (i : Int)))] _
    generalize L + (i : Int) = h at hg hb
    refine wpS_if (wpT_B (wpE_callK (wpA_cons (wpE_var rfl (wpA_cons (wpE_op opD_catT (wpE_op opD_catT (wpE_slT (wpE_var rfl ⟨_, rfl, wpO_none (wpO_some (wpE_op opD_ix (wpE_var rfl (wpE_int ⟨_, _, _, rfl, rfl, at_0 _ _, _, rfl, wpE_tup (wpA_cons (wpE_var rfl (wpA_nil ⟨[_], rfl, le_ rfl, _, _, rfl, rfl, ?_, wpE_slT (wpE_var rfl ⟨_, rfl, wpO_some (wpE_op opD_I0 (wpE_op opD_ix (wpE_var rfl (wpE_int ⟨_, _, _, rfl, rfl, at_0 _ _, wpE_int ⟨_, _, rfl, rfl, _, rfl, wpO_none ⟨_, _, rfl, rfl, ?_, ?_⟩⟩⟩))))⟩)⟩)))⟩))))⟩)))))))))
    · unfold cutD
      rw [List.length_take, List.length_drop, List.length_map]
      show min _ _ + 1 ≤ _
      omega
    · unfold cutD
      rw [List.length_append, List.length_take, List.length_drop, List.length_take, List.length_drop, List.length_map]
      show min _ _ + 1 + min _ _ ≤ _
      omega
    rw [set_cut tms h vl]
    refine wpA_cons (wpN.E (wpN_slL (wpE.L (wpE_var rfl ⟨_, rfl, wpO_some (wpE_int ⟨_, rfl, wpO_none ?_⟩)⟩))))
    rw [List.map_cons, cut_1]
    refine wpA_cons (wpE_var rfl (wpA_cons (wpE_var rfl (wpA_spc rfl (wpA_nil ⟨[_, _, _, _, _], rfl, tms.set v (some h), ms, bs, (s1, s2), rfl, ?_, ?_, ?_, okb, ?_, ?_, b1, b2, b3, b4, ?_, _, rfl, ?_⟩)))))
    · rw [List.length_cons] at hm; omega
    · intro x hx; rw [List.length_set]; exact hv x (List.mem_cons_of_mem _ hx)
    · rw [List.length_set]; exact tk
    · rw [List.length_set]; exact l12
    · exact tin.set (by rcases lo with ⟨h1, _⟩; omega) (by rcases hi with ⟨h1, _⟩; omega)
    · intro t' ht'
      refine pre t' (List.mem_flatMap.mpr ⟨h, mem_hoursR.mpr ⟨?_, ?_⟩, ht'⟩)
      · show s1 ≤ h; have := lo.1; omega
      · show h ≤ s2; have := hi.1; omega
    · cases ha : answersW (canL ties bs) ties (s1, s2) ms (tms.set v (some h)) with
      | true =>
        rw [if_pos rfl]
        refine wpS_ret (wpE_bl ⟨true, rfl, ?_⟩)
        have : ((hoursR L G).any fun h => answersW (canL ties bs) ties (s1, s2) ms (tms.set v (some h))) = true := any_at hg _ ha
        rw [this] at k; exact k
      | false =>
        rw [if_neg Bool.false_ne_true]
        exact wpS_nil ⟨⟨_, rfl⟩, any_take hg _ hno ha⟩
  · rintro ρ' ⟨⟨x, rfl⟩, hno⟩
    refine wpS_ret (wpE_bl ⟨false, rfl, ?_⟩)
    rw [List.take_of_length_le (by unfold hoursR; rw [List.length_map, List.length_range]; exact Nat.le_refl _)] at hno
    rw [hno] at k; exact k
end

end K42
/-! text P23 -/
set_option Elab.async false
set_option linter.all false
set_option maxRecDepth 100000
set_option maxHeartbeats 4000000
namespace K42
open PySem PySem.Spec PyProof.Rows L2

/-! The law's game, walked: can, game. -/
section
variable {P : Program} {w : World} {K : PySem.W.Frag} {mg : Str → Option Value} {base : Heap}
theorem inner_le {most : Nat} : ∀ {ms : List Nat} {f : List (List Nat)}, (∀ l ∈ f, l.length ≤ most) → ∀ l ∈ ms.foldl (lotStep most) f, l.length ≤ most
  | [], _, h => h
  | t :: ms, f, h => inner_le (ms := ms) (f := lotStep most f t) fun l hl => by
    rcases List.mem_append.mp hl with z | z
    · exact h l z
    · obtain ⟨y, hy, rfl⟩ := List.mem_map.mp z
      have := of_decide_eq_true (List.mem_filter.mp hy).2
      rw [List.length_append, List.length_singleton]; omega
theorem inner_mem {most : Nat} {S : Nat → Prop} : ∀ {ms : List Nat} {f : List (List Nat)}, (∀ v ∈ ms, S v) → (∀ l ∈ f, ∀ v ∈ l, S v) → ∀ l ∈ ms.foldl (lotStep most) f, ∀ v ∈ l, S v
  | [], _, _, h => h
  | t :: ms, f, hs, h => inner_mem (ms := ms) (f := lotStep most f t) (fun v hv => hs v (List.mem_cons_of_mem _ hv)) fun l hl => by
    rcases List.mem_append.mp hl with z | z
    · exact h l z
    · obtain ⟨y, hy, rfl⟩ := List.mem_map.mp z
      intro v hv
      rcases List.mem_append.mp hv with z | z
      · exact h y (List.mem_filter.mp hy).1 v z
      · rw [List.mem_singleton.mp z]; exact hs t List.mem_cons_self
theorem lot_ok {b : Nat} {ms lot : List Nat} (h : lot ∈ (lotsF b ms).drop 1) : lot.length ≤ b ∧ ∀ v ∈ lot, v ∈ ms := by
  have h := List.mem_of_mem_drop h
  exact ⟨inner_le (most := b) (ms := ms) (f := [[]]) (fun l hl => by rw [List.mem_singleton.mp hl]; exact Nat.zero_le _) lot h, inner_mem (most := b) (S := fun v => v ∈ ms) (ms := ms) (f := [[]]) (fun v hv => hv) (fun l hl => by rw [List.mem_singleton.mp hl]; exact nofun) lot h⟩
theorem all_snoc_take {α : Type} {xs : List α} {i : Nat} {x : α} (h : xs[i]? = some x) (p : α → Bool) : (xs.take (i + 1)).all p = ((xs.take i).all p && p x) := by
  rw [List.take_add_one, h, List.all_append]
  show (_ && [x].all p) = _
  simp
theorem said_map (t : Tms) : (t.filter Option.isSome).map eo = (saidOf t).map PyData.int := by
  induction t with
  | nil => rfl
  | cons x t ih =>
    cases x with
    | none => exact ih
    | some i =>
      show (some i :: t.filter Option.isSome).map eo = (i :: saidOf t).map PyData.int
      rw [List.map_cons, ih]; rfl
theorem shaped_encB (bs : List Nat) : SeqAt.shaped (encB bs) = true := (plain_encB bs).shaped (by decide)
theorem said_in {t : Tms} {lo hi : Int} (h : inTm t lo hi) : ∀ x ∈ saidOf t, lo ≤ x ∧ x ≤ hi := fun x hx => by
  obtain ⟨y, hy, e⟩ := List.mem_filterMap.mp hx
  have e : y = some x := e
  obtain ⟨j, hj, e2⟩ := List.getElem_of_mem hy
  exact h j x (by rw [List.getD_eq_getElem?_getD, List.getElem?_eq_getElem hj, e2, e]; rfl)
theorem maxW_nonneg (ties : List TieT) : 0 ≤ maxI (0 :: ties.map fun t => t.2.2) := (maxI_mem (by simp)).2 0 List.mem_cons_self
theorem over_nonneg (ties : List TieT) (bs : List Nat) : 0 ≤ overOf ties bs := Int.mul_nonneg (by omega) (maxW_nonneg ties)
theorem maxW_small {ties : List TieT} {n : Nat} (h : Tie0 ties n) : maxI (0 :: ties.map fun t => t.2.2) ≤ 1000000 := by
  have := (maxI_mem (xs := 0 :: ties.map fun t => t.2.2) (by simp)).1
  rcases List.mem_cons.mp this with e | e
  · rw [e]; decide
  · obtain ⟨t, ht, e⟩ := List.mem_map.mp e
    rw [← e]; exact (h.lo t ht).2
abbrev s__law_can : Stmt := top 73
abbrev N__law_can : List Str := ["_law_ties_here", "_law_times_here", "_law_batches_here", "_law_known", "_law_missing", "_law_key", "_law_thing", "_law_said", "_law_time", "_law_over", "_law_tie", "_law_found", "_law_lot", "_law_span"]
theorem sc__law_can : FnScope N__law_can ["_law_ties_here", "_law_times_here", "_law_batches_here", "_law_known"] (defScope s__law_can) := ⟨rfl, rfl, rfl, by decide +kernel, rfl, by decide +kernel, by decide +kernel⟩

/-- @TERM _law_can -/
theorem ok__law_can (T : Tx mg) {ties : List TieT} {U : List (Tms × List Nat)} {n n' j : Nat} (hn : n ≤ n' + 1) (hj : j ≤ 2 * n + 1) (hU : U.length < 16000000) (D : Dn K mg "_law_can" s__law_can) (c__law_reaches : Cl P w K mg base 1 "_law_reaches" (SpP p_law_reaches)) (c__law_lots : Cl P w K mg base 1 "_law_lots" (SpP p_law_lots))
    (c__law_answers : Cl P w K mg base j "_law_answers" (SpAns P w ties U n')) : Cl P w K mg base (2 * n + 1 + 1) "_law_can" (SpCan P w ties U n) := by
  have sc := sc__law_can
  refine cl_known D sc (fun _ _ _ _ _ _ us hl => match us, hl with | [_, _, _, _], _ => rfl) (fun ds K h => by obtain ⟨_, _, rfl, _⟩ := h; rfl) fun f cdv A outer s H E hr => ?_
  have hu := hr.units
  refine ⟨_, (pss_cons (ps_par (i := 4) (j := 5) (by rfl) sc.nd rfl rfl (by decide) rfl rfl (pa_cons (pe_lc (own := [("_law_thing", 6)]) (g := gName 6) (by rfl) sc.nd (pi_range1 (by rfl) T.b_range (pa_cons (pe_callB (lenSq (F := K)) (by rfl) T.b_len (by decide +kernel) (pa_cons (pv 1) pa_nil)) pa_nil)) (blkOk_by (own := [("_law_thing", 6)]) (N := N__law_can) (sc := (defScope s__law_can)) (by decide +kernel)) (fun _ _ _ _ _ => (pg_name (i := 6) sc.nd rfl (by first | exact Or.inl rfl | exact Or.inr rfl))) (fun _ _ _ _ _ => (pts_one (pt_cmpR op_isN (pe_ix (ixSq (F := K)) (pv 1) (pv 6) (fun _ _ => rfl)) pe_non (nomark _)))) (fun _ _ _ _ _ => (pv 6))) (pa_cons (pe_tup (pa_cons (pv 1) (pa_cons (pv 2) pa_nil))) pa_nil)) (by rfl))
    (pss_cons (ps_if (PW.pt (pw_or (pt_cmpR (opEq (F := K) hu) (pv 2) (pe_tup pa_nil) (nomark _)) (pw_or1 (pt_cmpR (opEq (F := K) hu) (pv 4) (pe_lst pa_nil) (nomark _))))) (pss_one (ps_ret pe_bl)) pss_nil)
    (pss_cons (ps_if (pt_cmpR (op_inNK (P := P) (w := w) hu) (pv 5) (pv 3) (by rfl)) (pss_one (ps_ret (pe_nkGet (P := P) (w := w) hu (pv 3) (pv 5) (fun _ _ => rfl)))) pss_nil)
    (pss_cons (ps_setLc (i := 7) (own := [("_law_time", 8)]) (g := gName 8) (by rfl) sc.nd rfl rfl (sw_true rfl rfl rfl (by decide +kernel)) (pi_tup (pv 1)) (blkOk_by (own := [("_law_time", 8)]) (N := N__law_can) (sc := (defScope s__law_can)) (by decide +kernel)) (fun _ _ _ _ _ => (pg_name (i := 8) sc.nd rfl (by first | exact Or.inl rfl | exact Or.inr rfl))) (fun _ _ _ _ _ => (pts_one (pt_cmpR op_notN (pv 8) pe_non (nomark _)))) (fun _ _ _ _ _ => (pv 8)))
    (pss_cons (ps_set (i := 9) sc.nd rfl (Or.inl rfl) (pe_op op_mul (pe_ix (ixSq (F := K)) (pe_cl c__law_reaches hr (by first | decide | omega) (by rfl) (pa_cons (pv 2) pa_nil)) pe_int (fun _ _ => rfl)) (pe_callB (cr_max rfl) (by rfl) T.b_max (by decide +kernel) (pa_cons (pe_op op_cat (pe_lst (pa_cons pe_int pa_nil)) (pe_lc (own := [("_law_tie", 10)]) (g := gName 10) (by rfl) sc.nd (pi_tup (pv 0)) (blkOk_by (own := [("_law_tie", 10)]) (N := N__law_can) (sc := (defScope s__law_can)) (by decide +kernel)) (fun _ _ _ _ _ => (pg_name (i := 10) sc.nd rfl (by first | exact Or.inl rfl | exact Or.inr rfl))) (fun _ _ _ _ _ => pts_nil) (fun _ _ _ _ _ => (pe_ix (ixSq (F := K)) (pv 10) pe_int (fun _ _ => rfl))))) pa_nil))))
    (pss_cons (ps_set (i := 11) sc.nd rfl (Or.inl rfl) pe_bl)
    (pss_cons (ps_for PassesOwn.never rfl (pi_list (pe_cl c__law_lots hr (by first | decide | omega) (by rfl) (pa_cons (pv 4) (pa_cons (pe_ix (ixSq (F := K)) (pv 2) pe_int (fun _ _ => rfl)) pa_nil)))) (pg_name (i := 12) sc.nd rfl (by first | exact Or.inl rfl | exact Or.inr rfl))
      (pss_cons (ps_set (i := 13) sc.nd rfl (Or.inl rfl) (pe_tup (pa_cons (pe_op op_sub (pe_callB (cr_min rfl) (by rfl) T.b_min (by decide +kernel) (pa_cons (pv 7) pa_nil)) (pv 9)) (pa_cons (pe_op op_add (pe_callB (cr_max rfl) (by rfl) T.b_max (by decide +kernel) (pa_cons (pv 7) pa_nil)) (pv 9)) pa_nil))))
      (pss_one (ps_set (i := 11) sc.nd rfl (Or.inl rfl) (pe_and (pv 11) (pe_one (pe_cl c__law_answers hr (by first | decide | omega) (by rfl) (pa_cons (pv 0) (pa_cons (pv 1) (pa_cons (pv 12) (pa_cons (pe_slice sl_tupA (pv 2) (po_some pe_int) po_none) (pa_cons (pv 13) (pa_cons (pv 3) pa_nil)))))))))))))
    (pss_cons (ps_asg (pv 11) (pg_sub (pv 3) (pv 5) (set_nk (P := P) (w := w) hu)))
    (pss_one (ps_ret (pv 11))))))))))), fun d => ?_⟩
  rintro ds K' ⟨tms, bs, rfl, hm, tk, okb, l12, pre, k⟩
  show wpS (Gk P w ties U d) _ [.dat (.tuple (ties.map et)), .dat (encT tms), .dat (encB bs), .spc (.ref d), .no, .no, .no, .no, .no, .no, .no, .no, .no, .no] _
  refine wpS_seq (wpS_par (lt_ rfl) (lt_ rfl) (wpN.x (wpN_lcF tg_name (by decide) rfl (wpI_rng1 (wpA_cons (wpE_len (wpE.Q (wpE_var rfl ⟨_, rfl, wpA_nil ⟨_, rfl, ?_, ?_, ?_, fun i => (tms.getD i none).isNone, en, ?_, wpE.x (wpE_tup (wpA_cons (wpE_var rfl (wpA_cons (wpE_var rfl (wpA_nil ⟨[_, _], rfl, le_ rfl, ?_⟩))))))⟩⟩))))))))
  · rw [map_len]; omega
  · rw [map_len]; omega
  · rw [map_len]; omega
  · intro i e hi q
    cases q
    rw [map_len, Int.toNat_natCast] at hi
    refine ⟨_, rfl, wpT_test (wpE_op opD_is (wpE_op opD_ix (wpE_var rfl (wpE_var rfl ⟨_, _, _, rfl, rfl, get_enc (row := tms) hi, wpE_non ⟨rfl, _, rfl, ?_, fun _ => wpE_var rfl rfl⟩⟩))))⟩
    exact isNon_eo _
  have em : ((List.range (((tms.map eo).length : Nat) : Int).toNat).filter fun i => (tms.getD i none).isNone).map en = (missL tms).map en := by rw [map_len, Int.toNat_natCast]; rfl
  rw [em]
  have ml : (missL tms).length ≤ 12 := by
    have := List.length_filter_le (fun i => (tms.getD i none).isNone) (List.range tms.length)
    rw [List.length_range] at this
    show (List.filter _ _).length ≤ 12; omega
  refine wpS_free (i := 4) (ds := (missL tms).map en) rfl ?_
  show wpS (Gk P w ties U d) _ [.dat (.tuple (ties.map et)), .dat (encT tms), .dat (encB bs), .spc (.ref d), .dat (encN (missL tms)), .dat (encK tms bs), .no, .no, .no, .no, .no, .no, .no, .no] _
  refine wpS_seq (wpS_if (wpT_or (wpT_test (wpE_op opD_eq (wpE_var rfl (wpE_tup (wpA_nil ⟨[], rfl, le_ rfl, shaped_encB bs, rfl, _, rfl, ?_⟩)))))))
  rw [show PyData.eqv (encB bs) (.tuple []) = decide (bs = []) from eqv_encB bs []]
  cases bs with
  | nil => exact wpS_ret (wpE_bl ⟨true, rfl, k⟩)
  | cons b bs =>
  rw [decide_eq_false (by simp), if_neg Bool.false_ne_true]
  refine wpT_test (wpE_op opD_eq (wpE_var rfl (wpN.E (wpN_lst (wpA_nil ⟨[], rfl, le_ rfl, shaped_encN _, rfl, _, rfl, ?_⟩)))))
  rw [eqv_listNil, map_nil]
  have ec : canL ties (b :: bs) tms = if missL tms = [] then true else ((lotsF b (missL tms)).drop 1).all fun lot => answersW (canL ties bs) ties (spanOf ties tms (b :: bs)) lot tms := rfl
  by_cases hz : missL tms = []
  · rw [decide_eq_true hz, if_pos rfl]
    rw [ec, if_pos hz] at k
    exact wpS_ret (wpE_bl ⟨true, rfl, k⟩)
  rw [decide_eq_false hz, if_neg Bool.false_ne_true]
  rw [if_neg hz] at ec
  refine wpS_nil (wpS_seq (wpS_ifK rfl rfl ⟨_, rfl, k⟩ ?_))
  obtain ⟨pU, ps, pin, pov, plots⟩ := pre
  -- said
  refine wpS_seq (wpS_setN (lt_ rfl) (wpN_lcS tg_name (by decide) rfl (wpI_tup (wpE_var rfl ⟨_, rfl, ?_, Option Int, tms, eo, Option.isSome, eo, ⟨map_len, fun i => List.getElem?_map ..⟩, fun i x hx => ⟨_, rfl, wpT_test (wpE_op opD_isnt (wpE_var rfl (wpE_non ⟨rfl, _, rfl, ?_, fun _ => wpE_var rfl rfl⟩)))⟩, ?_⟩))))
  · rw [map_len]; omega
  · rw [isNon_eo]; cases x <;> rfl
  rw [said_map]
  refine wpS_free (i := 7) (ds := (saidOf tms).map PyData.int) rfl ?_
  show wpS (Gk P w ties U d) _ [.dat (.tuple (ties.map et)), .dat (encT tms), .dat (encB (b :: bs)), .spc (.ref d), .dat (encN (missL tms)), .dat (encK tms (b :: bs)), .no, .dat (.list ((saidOf tms).map .int)), .no, .no, .no, .no, .no, .no] _
  -- over
  refine wpS_seq (wpS_set (wpE_op opD_I (wpE_op opD_ix (wpE_callP (wpA_cons (wpE_var rfl (wpA_nil ⟨[_], rfl, b :: bs, rfl, okb, wpE_int ⟨_, _, _, rfl, rfl, rfl, wpE_max (wpN.L (wpN_cat (wpN.L (wpN_lst (wpA_cons (wpE_int (wpA_nil ⟨[_], rfl, le_ rfl, wpN.L (wpN_lcS tg_name (by decide) rfl (wpI_tup (wpE_var rfl ⟨_, rfl, ?_, TieT, ties, et, fun _ => true, fun t => .int t.2.2, ⟨map_len, fun i => List.getElem?_map ..⟩, fun i t ht => ⟨_, rfl, wpT_yes ⟨rfl, fun _ => wpE_op opD_ix (wpE_var rfl (wpE_int ⟨_, _, _, rfl, rfl, rfl, rfl⟩))⟩⟩, ?_, 0 :: ties.map (fun t => t.2.2), ?_, ?_, fun m m1 m2 => ?_⟩)))⟩)))))))⟩⟩)))))))
  · rw [map_len]; have := tk.len; omega
  · rw [filter_yes, List.length_map]; have := tk.len; show 1 + ties.length ≤ _; omega
  · rw [filter_yes, List.map_cons, List.map_map]; rfl
  · simp
  have em2 := maxI_of m1 m2
  have mw := maxW_small tk
  have mn := maxW_nonneg ties
  subst em2
  refine ⟨_, _, rfl, rfl, .inr ⟨by omega, by omega⟩, ?_⟩
  have eo2 : ((walksOf (b :: bs) : Nat) : Int) * maxI (0 :: ties.map fun t => t.2.2) = overOf ties (b :: bs) := rfl
  have on := over_nonneg ties (b :: bs)
  show wpS (Gk P w ties U d) _ [.dat (.tuple (ties.map et)), .dat (encT tms), .dat (encB (b :: bs)), .spc (.ref d), .dat (encN (missL tms)), .dat (encK tms (b :: bs)), .no, .dat (.list ((saidOf tms).map .int)), .no, .dat (.int (overOf ties (b :: bs))), .no, .no, .no, .no] _
  refine wpS_seq (wpS_set (wpE_bl ?_))
  have esp : spanOf ties tms (b :: bs) = (minI (saidOf tms) - overOf ties (b :: bs), maxI (saidOf tms) + overOf ties (b :: bs)) := rfl
  have smin := said_in pin _ (minI_mem ps).1
  have smax := said_in pin _ (maxI_mem ps).1
  generalize overOf ties (b :: bs) = ov at esp on pov
  refine wpS_seq (wpS_for tg_name (wpI_list (wpE_callP (wpA_cons (wpE_var rfl (wpA_cons (wpE_op opD_ix (wpE_var rfl (wpE_int ⟨_, _, _, rfl, rfl, at_0 _ _, wpA_nil ⟨[_, _], rfl, missL tms, b, rfl, ml, _, rfl, fun i ρ => ∃ x y, ρ = [.dat (.tuple (ties.map et)), .dat (encT tms), .dat (encB (b :: bs)), .spc (.ref d), .dat (encN (missL tms)), .dat (encK tms (b :: bs)), .no, .dat (.list ((saidOf tms).map .int)), .no, .dat (.int ov), .no, .dat (.bool ((((lotsF b (missL tms)).drop 1).take i).all fun lot => answersW (canL ties bs) ties (spanOf ties tms (b :: bs)) lot tms)), x, y], ⟨_, _, rfl⟩, ?_, ?_⟩⟩)))))))))
  · rintro i e ρ' hi q ⟨x, y, rfl⟩
    obtain ⟨lot, hlot, rfl⟩ := map_get q
    have lm := List.mem_of_getElem? hlot
    obtain ⟨ll, lmem⟩ := lot_ok lm
    refine ⟨_, rfl, ?_⟩
    have nx := all_snoc_take hlot fun lot => answersW (canL ties bs) ties (spanOf ties tms (b :: bs)) lot tms
    generalize (((lotsF b (missL tms)).drop 1).take i).all (fun lot => answersW (canL ties bs) ties (spanOf ties tms (b :: bs)) lot tms) = z at nx
    show wpS (Gk P w ties U d) _ [.dat (.tuple (ties.map et)), .dat (encT tms), .dat (encB (b :: bs)), .spc (.ref d), .dat (encN (missL tms)), .dat (encK tms (b :: bs)), .no, .dat (.list ((saidOf tms).map .int)), .no, .dat (.int ov), .no, .dat (.bool z), .dat (encN lot), y] _
    refine wpS_seq (wpS_set (wpE_tup (wpA_cons (wpE_op opD_I0 (wpE_min (wpE.L (wpE_var rfl ⟨_, rfl, saidOf tms, rfl, ps, fun m1 a1 a2 => wpE_var rfl ⟨_, _, rfl, rfl, wpA_cons (wpE_op opD_I0 (wpE_max (wpE.L (wpE_var rfl ⟨_, rfl, saidOf tms, rfl, ps, fun m2 a3 a4 => wpE_var rfl ⟨_, _, rfl, rfl, wpA_nil ⟨[_, _], rfl, le_ rfl, ?_⟩⟩⟩))))⟩⟩)))))))
    have q1 := minI_of a1 a2
    have q2 := maxI_of a3 a4
    subst q1 q2
    show wpS (Gk P w ties U d) _ [.dat (.tuple (ties.map et)), .dat (encT tms), .dat (encB (b :: bs)), .spc (.ref d), .dat (encN (missL tms)), .dat (encK tms (b :: bs)), .no, .dat (.list ((saidOf tms).map .int)), .no, .dat (.int ov), .no, .dat (.bool z), .dat (encN lot), .dat (encI (minI (saidOf tms) - ov, maxI (saidOf tms) + ov))] _
    rw [← esp]
    refine wpS_set (wpE_andV (wpE_var rfl ⟨z, rfl, ?_⟩))
    cases z with
    | false =>
      rw [if_neg Bool.false_ne_true]
      refine ⟨.dat (encN lot), .dat (encI (spanOf ties tms (b :: bs))), ?_⟩
      rw [nx]; rfl
    | true =>
      rw [if_pos rfl]
      refine wpE_callK (wpA_cons (wpE_var rfl (wpA_cons (wpE_var rfl (wpA_cons (wpE_var rfl (wpA_cons (wpE_slT (wpE_var rfl ⟨_, rfl, wpO_some (wpE_int ⟨_, rfl, wpO_none ?_⟩)⟩)))))))))
      rw [List.map_cons, cut_1]
      refine wpA_cons (wpE_var rfl (wpA_spc rfl (wpA_nil ⟨[_, _, _, _, _], rfl, tms, lot, bs, spanOf ties tms (b :: bs), rfl, ?_, ?_, tk, ?_, l12, pin.mono (by decide) (by decide), ?_, ?_, ?_, ?_, plots lot lm, ?_⟩)))
      · have hm : b + 2 + meas bs ≤ n := hm
        omega
      · intro v hv; exact miss_lt (lmem v hv)
      · intro x hx; exact okb x (List.mem_cons_of_mem _ hx)
      · rw [esp]; show -30000000000 ≤ minI (saidOf tms) - ov; omega
      · rw [esp]; show minI (saidOf tms) - ov ≤ 30000000000; omega
      · rw [esp]; show -30000000000 ≤ maxI (saidOf tms) + ov; omega
      · rw [esp]; show maxI (saidOf tms) + ov ≤ 30000000000; omega
      · refine ⟨.dat (encN lot), .dat (encI (spanOf ties tms (b :: bs))), ?_⟩
        rw [nx]; rfl
  · rintro ρ' ⟨x, y, rfl⟩
    rw [map_len, List.take_length]
    rw [← ec]
    exact wpS_seq (wpS_setK (j := 5) rfl rfl pU hU (wpE_var rfl ⟨rfl, wpS_ret (wpE_var rfl ⟨_, rfl, k⟩)⟩))
end

end K42
/-! text P24 -/
set_option Elab.async false
set_option linter.all false
set_option maxRecDepth 100000
set_option maxHeartbeats 4000000
namespace K42
open PySem PySem.Spec PyProof.Rows L2

/-! The law's game: all depths; the game. -/
section
variable {P : Program} {w : World} {K : PySem.W.Frag} {mg : Str → Option Value} {base : Heap}
theorem all_can (T : Tx mg) {ties : List TieT} {U : List (Tms × List Nat)} (hU : U.length < 16000000) (D1 : Dn K mg "_law_answers" s__law_answers) (D2 : Dn K mg "_law_can" s__law_can) (c1 : Cl P w K mg base 1 "_law_hours" (SpP p_law_hours)) (c2 : Cl P w K mg base 1 "_law_reaches" (SpP p_law_reaches)) (c3 : Cl P w K mg base 1 "_law_lots" (SpP p_law_lots)) :
    ∀ n : Nat, Cl P w K mg base (2 * n + 1) "_law_answers" (SpAns P w ties U n) ∧ Cl P w K mg base (2 * n + 2) "_law_can" (SpCan P w ties U n)
  | 0 => by
    have a0 : Cl P w K mg base (0 + 1) "_law_answers" (SpAns P w ties U 0) := cl_mk D1 sc__law_answers (fun _ _ _ _ _ _ us hl => match us, hl with | [_, _, _, _, _, _], _ => rfl)
      (fun vs H Q E h => by obtain ⟨d, X, vs', ds, K, _, _, _, _, _, ⟨_, _, _, _, _, h, _⟩, _⟩ := h; omega)
      fun f cdv A outer s H vs Q E hr h => by obtain ⟨d, X, vs', ds, K, _, _, _, _, _, ⟨_, _, _, _, _, h, _⟩, _⟩ := h; omega
    exact ⟨a0, ok__law_can T (n := 0) (n' := 0) (j := 1) (by omega) (by omega) hU D2 c2 c3 a0⟩
  | m + 1 => by
    obtain ⟨a, c⟩ := all_can T hU D1 D2 c1 c2 c3 m
    refine ⟨ok__law_answers T D1 c1 c a, ?_⟩
    exact ok__law_can T (n := m + 1) (n' := m) (j := 2 * m + 1) (by omega) (by omega) hU D2 c2 c3 a
theorem cl_pureD {x : Str} {st : Stmt} {N ps : List Str} {k : Nat} {Pf : List PD → (PD → Prop) → Prop} (D : Dn K mg x st) (S : FnScope N ps (defScope st)) (hb : bindsOk x st ps) (len : ∀ ds K, Pf ds K → ds.length = ps.length)
    (hbody : ∀ (f : Addr) (cdv : Value) (A : Around) (outer : List Env) (s : Shared) (H : Hp) (E : XK), Room k (A.deeper (envOfC x (defScope st) s.heap.objs.size f cdv)) → ∀ ds K', Pf ds K' →
      ∃ t, PSs (cxOf CX0 P w K mg base N x (defScope st) f cdv A outer s H E).nox (defBody st) t ∧ wpS Gm.pure t (rho N.length (ds.map .dat)) (DEp K')) : Cl P w K mg base (k + 1) x (SpP Pf) := by
  refine cl_mk D S hb (fun vs H Q E h => ?_) fun f cdv A outer s H vs Q E hr h => ?_
  · obtain ⟨A, ds, K, _, r, p, _⟩ := h
    rw [r.length]
    exact len ds K p
  · obtain ⟨A', ds, K', xd, r, p, q⟩ := h
    obtain ⟨t, a, b⟩ := hbody f cdv A outer s H E hr ds K' p
    refine ⟨t, a, run_pure xd r ?_ q b⟩
    rw [len ds K' p]
    have := congrArg List.length S.pre
    rw [List.length_take] at this
    omega
theorem wpE_callNew {G : Gm} {ρ : Rho} {t1 t2 t3 : TE} {Ex' : XK} {ties : List TieT} {U : List (Tms × List Nat)} {Pf : List PD → (Bool → Prop) → Prop} {Kd : PD → Prop} (h : wpE G t1 ρ fun d1 => wpE G t2 ρ fun d2 => wpE G t3 ρ fun d3 => Pf [d1, d2, d3] fun b => Kd (.bool b)) :
    wpE G (tCall (SpKn P w ties U Pf) [] Ex' (tCons t1 (tCons t2 (tCons t3 (tCons (tNKNew P w) tNil))))) ρ Kd := fun X o σ H V Q q =>
  h X o σ H V _ fun v1 H1 d1 f1 s1 r1 h => h X o σ H1 (V.step f1 s1) _ fun v2 H2 d2 f2 s2 r2 h => h X o σ H2 ((V.step f1 s1).step f2 s2) _ fun v3 H3 d3 f3 s3 r3 p x hx => by
    have V3 := ((V.step f1 s1).step f2 s2).step f3 s3
    have e4 : Ex H3 (upd H3 x (DkO P w x [])) := Ex.new hx
    have rr : ∀ {v : L2.V} {d : PD}, Rp (Av X o ρ) H3 v d → Rp (fun b => Av X o ρ b ∨ b = x) (upd H3 x (DkO P w x [])) v d := fun r => r.to fun b u hb n => ⟨e4 b u hb, fun z => z.elim n fun z => by rw [z, hx] at hb; cases hb⟩
    refine ⟨x, fun b => Av X o ρ b ∨ b = x, [v1, v2, v3], [d1, d2, d3], _, rfl, ⟨[], upd_same, nofun, .nil, nofun⟩, .inr rfl, fun b z => ?_, .cons (rr ((r1.fr V.nav f2).fr V.nav f3)) (.cons (rr (r2.fr V.nav f3)) (.cons (rr r3) .nil)), p, fun b H' f s k => ?_⟩
    · rcases z with z | z
      · cases e : H3 b with
        | none => exact absurd e (V3.dom z)
        | some u => rw [e4 b u e]; exact nofun
      · rw [z, upd_same]; exact nofun
    · have e5 : Ex H3 H' := fun b u hb => f b u (e4 b u hb) fun z => by rw [z, hx] at hb; cases hb
      exact q (.bl b) H' _ (((f1.trans f2).trans f3).trans e5.fr) (G.mono _ _ s3 e5) (.bl b) k
def badTie (tms : Tms) (t : TieT) : Bool := isSm tms t.1 && (isSm tms t.2.1 && decide (tAt tms t.2.1 - tAt tms t.1 < t.2.2))
def gameL (ties : List TieT) (tms : Tms) (bs : List Nat) : Bool := (ties.all fun t => !badTie tms t) && (decide (tms = List.replicate tms.length none) || canL ties bs tms)
def p_law_game (m : Nat) (ds : List PD) (K : PD → Prop) : Prop := ∃ (ties : List TieT) (tms : Tms) (bs : List Nat) (U : List (Tms × List Nat)), ds = [.tuple (ties.map et), encT tms, encB bs] ∧ meas bs ≤ m ∧ Tie0 ties tms.length ∧ okB bs ∧ tms.length ≤ 12 ∧ U.length < 16000000 ∧
  (tms ≠ List.replicate tms.length none → CanPre U ties bs tms) ∧ K (.bool (gameL ties tms bs))
abbrev s__law_game : Stmt := top 74
abbrev N__law_game : List Str := ["_law_ties_here", "_law_times_here", "_law_batches_here", "_law_one", "_law_other", "_law_weight"]
theorem sc__law_game : FnScope N__law_game ["_law_ties_here", "_law_times_here", "_law_batches_here"] (defScope s__law_game) := ⟨rfl, rfl, rfl, by decide +kernel, rfl, by decide +kernel, by decide +kernel⟩

/-- @TERM _law_game -/
theorem ok__law_game (T : Tx mg) {m : Nat} (D : Dn K mg "_law_game" s__law_game) (cc : ∀ (ties : List TieT) (U : List (Tms × List Nat)), U.length < 16000000 → Cl P w K mg base (2 * m + 2) "_law_can" (SpCan P w ties U m)) : Cl P w K mg base (2 * m + 2 + 1) "_law_game" (SpP (p_law_game m)) := by
  have sc := sc__law_game
  refine cl_pureD D sc (fun _ _ _ _ _ _ us hl => match us, hl with | [_, _, _], _ => rfl) (fun ds K h => by obtain ⟨_, _, _, _, rfl, _⟩ := h; rfl) fun f cdv A outer s H E hr => ?_
  have hu := hr.units
  rintro ds K' ⟨ties, tms, bs, U, rfl, hm, tk, okb, l12, hU, pre, k⟩
  have c__law_can := cc ties U hU
  refine ⟨_, (pss_cons (ps_for PassesOwn.never rfl (pi_tup (pv 0)) (pg_tup rfl (pgs_cons (pg_name (i := 3) sc.nd rfl (by first | exact Or.inl rfl | exact Or.inr rfl)) (pgs_cons (pg_name (i := 4) sc.nd rfl (by first | exact Or.inl rfl | exact Or.inr rfl)) (pgs_cons (pg_name (i := 5) sc.nd rfl (by first | exact Or.inl rfl | exact Or.inr rfl)) pgs_nil))))
      (pss_one (ps_if (PW.pt (pw_and (pt_cmpR op_notN (pe_ix (ixSq (F := K)) (pv 1) (pv 3) (fun _ _ => rfl)) pe_non (nomark _)) (pw_and (pt_cmpR op_notN (pe_ix (ixSq (F := K)) (pv 1) (pv 4) (fun _ _ => rfl)) pe_non (nomark _)) (pw_and1 (pt_cmpR op_lt (pe_op op_sub (pe_ix (ixSq (F := K)) (pv 1) (pv 4) (fun _ _ => rfl)) (pe_ix (ixSq (F := K)) (pv 1) (pv 3) (fun _ _ => rfl))) (pv 5) (nomark _)))))) (pss_one (ps_ret pe_bl)) pss_nil)))
    (pss_one (ps_ret (pe_or (pe_cmpR (opEq (F := K) hu) (pv 1) (pe_op (op_repA (F := K)) (pe_tup (pa_cons pe_non pa_nil)) (pe_callB (lenSq (F := K)) (by rfl) T.b_len (by decide +kernel) (pa_cons (pv 1) pa_nil))) (nomark _)) (pe_one (pe_cl c__law_can hr (by first | decide | omega) (by rfl) (pa_cons (pv 0) (pa_cons (pv 1) (pa_cons (pv 2) (pa_cons (pe_nkNew (P := P) (w := w)) pa_nil)))))))))), ?_⟩
  show wpS Gm.pure _ [.dat (.tuple (ties.map et)), .dat (encT tms), .dat (encB bs), .no, .no, .no] _
  refine wpS_seq (wpS_for (tg_tup (js := [3, 4, 5]) rfl rfl) (wpI_tup (wpE_var rfl ⟨_, rfl, fun i ρ => (∃ x y z, ρ = [.dat (.tuple (ties.map et)), .dat (encT tms), .dat (encB bs), x, y, z]) ∧ (ties.take i).all (fun t => !badTie tms t) = true, ⟨⟨_, _, _, rfl⟩, rfl⟩, ?_, ?_⟩)))
  · rintro i e ρ' hi q ⟨⟨x, y, z, rfl⟩, hall⟩
    obtain ⟨t, ht, rfl⟩ := map_get q
    obtain ⟨l1, l2⟩ := tk.ok t (List.mem_of_getElem? ht)
    refine ⟨_, rfl, ?_⟩
    show wpS Gm.pure _ [.dat (.tuple (ties.map et)), .dat (encT tms), .dat (encB bs), .dat (en t.1), .dat (en t.2.1), .dat (.int t.2.2)] _
    have g1 := get_enc (row := tms) l1
    have g2 := get_enc (row := tms) l2
    have no : badTie tms t = false → (∃ x y z, ([.dat (.tuple (ties.map et)), .dat (encT tms), .dat (encB bs), .dat (en t.1), .dat (en t.2.1), .dat (.int t.2.2)] : Rho) = [.dat (.tuple (ties.map et)), .dat (encT tms), .dat (encB bs), x, y, z]) ∧ (ties.take (i + 1)).all (fun t => !badTie tms t) = true := fun h => ⟨⟨_, _, _, rfl⟩, all_take ht _ hall (by rw [h]; rfl)⟩
    refine wpS_if (wpT_and (wpT_test (wpE_op opD_isnt (wpE_op opD_ix (wpE_var rfl (wpE_var rfl ⟨_, _, _, rfl, rfl, g1, wpE_non ⟨rfl, _, rfl, ?_⟩⟩))))))
    rw [isNon_eo]
    cases h1 : tms.getD t.1 none with
    | none => exact wpS_nil (no (by rw [badTie, isSm, h1]; rfl))
    | some t1 =>
      refine wpT_and (wpT_test (wpE_op opD_isnt (wpE_op opD_ix (wpE_var rfl (wpE_var rfl ⟨_, _, _, rfl, rfl, g2, wpE_non ⟨rfl, _, rfl, ?_⟩⟩)))))
      rw [isNon_eo]
      cases h2 : tms.getD t.2.1 none with
      | none => exact wpS_nil (no (by rw [badTie, isSm, isSm, h1, h2]; rfl))
      | some t2 =>
        have g1 : atI (tms.map eo) ((t.1 : Nat) : Int) = some (.int t1) := by rw [g1, h1]; rfl
        have g2 : atI (tms.map eo) ((t.2.1 : Nat) : Int) = some (.int t2) := by rw [g2, h2]; rfl
        have eb : badTie tms t = decide (t2 - t1 < t.2.2) := by
          have e1 : tAt tms t.1 = t1 := by rw [tAt, h1]; rfl
          have e2 : tAt tms t.2.1 = t2 := by rw [tAt, h2]; rfl
          rw [badTie, isSm, isSm, h1, h2, e1, e2]; rfl
        refine wpT_test (wpE_op opD_B0 (wpE_op opD_I0 (wpE_op opD_ix (wpE_var rfl (wpE_var rfl ⟨_, _, _, rfl, rfl, g2, wpE_op opD_ix (wpE_var rfl (wpE_var rfl ⟨_, _, _, rfl, rfl, g1, _, _, rfl, rfl, wpE_var rfl ⟨_, _, rfl, rfl, _, rfl, ?_⟩⟩))⟩)))))
        by_cases lt : t2 - t1 < t.2.2
        · rw [decide_eq_true lt, if_pos rfl]
          refine wpS_ret (wpE_bl ?_)
          have e : gameL ties tms bs = false := by
            rw [gameL, all_at ht (fun t => !badTie tms t) (by show (!badTie tms t) = false; rw [eb, decide_eq_true lt]; rfl)]; rfl
          rw [e] at k; exact k
        · rw [decide_eq_false lt, if_neg Bool.false_ne_true]
          exact wpS_nil (no (by rw [eb, decide_eq_false lt]))
  · rintro ρ' ⟨⟨x, y, z, rfl⟩, hall⟩
    rw [List.length_map, List.take_length] at hall
    have eg : gameL ties tms bs = (decide (tms = List.replicate tms.length none) || canL ties bs tms) := by rw [gameL, hall]; rfl
    refine wpS_ret (wpE_orV (wpE_op opD_eq (wpE_var rfl (wpE_op opD_repA (wpE_tup (wpA_cons (wpE_non (wpA_nil ⟨[_], rfl, le_ rfl, wpE_len (wpE.Q (wpE_var rfl ⟨_, rfl, _, _, rfl, rfl, by simp, by omega, ?_, le_ rfl, ?_⟩))⟩))))))))
    · rw [map_len]; omega
    rw [map_len, Int.toNat_natCast, none_rep]
    refine ⟨shaped_enc _, shaped_enc _, _, rfl, ?_⟩
    rw [eqv_enc]
    by_cases hz : tms = List.replicate tms.length none
    · rw [decide_eq_true hz, if_pos rfl]
      rw [eg, decide_eq_true hz, Bool.true_or] at k
      exact k
    · rw [decide_eq_false hz, if_neg Bool.false_ne_true]
      rw [eg, decide_eq_false hz, Bool.false_or] at k
      exact wpE_callNew (wpE_var rfl (wpE_var rfl (wpE_var rfl ⟨tms, bs, rfl, hm, tk, okb, l12, pre hz, k⟩)))
end

end K42
/-! text RuG -/
set_option Elab.async false
set_option linter.all false
set_option maxRecDepth 100000
set_option maxHeartbeats 2000000
/-! Promises of defs where no repr is under way; repr of data. -/
namespace K42
open PySem PySem.Spec PyProof.Rows L2
/-- a def's promise, asked only where no repr is under way -/
structure FnG (P : Program) (w : World) (K : PySem.W.Frag) (mg : Str → Option Value) (base : Heap) (k : Nat) (f : Addr) (fd : FuncData) (ps : List Str) (sp : Sp) : Prop where
  len : ∀ vs H Q E, sp vs H Q E → vs.length = ps.length
  run : ∀ (A : Around) (outer : List Env) (s : Shared) (H : Hp) (args : Args) (us : List Value) (vs : List L2.V) (Q : VK) (E : XK),
    Room k A → A.guards = some [] → Env0 P w K mg base A outer s H → BindsTo s fd args (ps.zip us) → Vals vs us → sp vs H Q E → codeAny (model P w) A (.call (.ref f) args) (CR CX0 outer P w H s Q E) s
section
variable {P : Program} {w : World} {K : PySem.W.Frag} {mg : Str → Option Value} {base : Heap} {k : Nat} {f : Addr} {fd : FuncData} {N ps : List Str} {sp : Sp} {x : Str} {st : Stmt}
theorem FunD.okG {x qual : Str} {params : Arguments} {body : List Stmt} {scope : Scope} {kws : List (Str × L2.V)} (F : FunD K x qual params body scope [] kws f fd) (S : FnScope N ps scope) (len : ∀ vs H Q E, sp vs H Q E → vs.length = ps.length)
    (hb : ∀ (cdv : Value) (A : Around) (outer : List Env) (s : Shared) (H : Hp) (vs : List L2.V) (Q : VK) (E : XK), Room k (A.deeper (envOfC qual scope s.heap.objs.size f cdv)) → (A.deeper (envOfC qual scope s.heap.objs.size f cdv)).guards = some [] → sp vs H Q E →
      ∃ t, PSs (cxOf CX0 P w K mg base N qual scope f cdv A outer s H E) body t ∧ t { nx := fun _ H' => Q .non H', rt := Q } (L2.start N vs) H) : FnG P w K mg base (k + 1) f fd ps sp := by
  obtain ⟨oc, od, dV, kV, doc, pm, an, cdv, ct, osl, rfl, lk, hcd, _, _⟩ := F.ex
  refine ⟨len, fun A outer s H args us vs Q E room gd env bind rel hsp => ?_⟩
  have frag : K.In s.heap := env.mod.kin.keeps fun b o e => (env.bs b o e).1
  have free : s.heap.NoLimit := env.mod.nolimit.keeps fun b o e => (env.bs b o e).1
  have kinds : ∀ y ∈ ps.zip us, scope.names.lookup y.1 = some .local ∨ (scope.names.lookup y.1 = some .cell ∧ ((cellsFrom (s.heap.objs.size + 1) scope.names []).lookup y.1).isSome = true) := by
    rintro ⟨n, v⟩ hy
    exact (S.par n (List.of_mem_zip hy).1).imp id fun q => ⟨q, PySem.W.cellsFrom_some _ _ _ (.inl q)⟩
  refine codeAny_call_function room.depth (frag _ _ lk) rfl S.co S.gen rfl (PySem.W.codeRec_of frag hcd) (bind _ _ _ _ (wpAny_newFunctionEnv_cells S.kind kinds fun env' he s1 inn => ?_))
  subst he
  refine ⟨free.keeps inn.toInCall.keep, codeAny_func ?_⟩
  obtain ⟨t, ht, hq⟩ := hb cdv A outer s H vs Q E (room.deeper _) gd hsp
  have inv : Inv (cxOf CX0 P w K mg base N qual scope f cdv A outer s H E) [] (L2.start N vs) H s1 := inv_start S room.hd env (len _ _ _ _ hsp) rel inn
  refine wpAny_mono (ht.run [] s1 (L2.start N vs) H _ inv hq) (fun fl s' out => ?_) fun e s' out => out
  cases fl with
  | ret u => obtain ⟨v, σ', H', J, rv, q⟩ := out; exact ⟨v, H', J.os, J.bare, J.base, J.hok, rv, q⟩
  | next => obtain ⟨σ', H', J, q⟩ := out; exact ⟨.non, H', J.os, J.bare, J.base, J.hok, rfl, q⟩
  | brk => obtain ⟨_, _, _, q⟩ := out; exact q.elim
  | cont => obtain ⟨_, _, _, q⟩ := out; exact q.elim
/-- the name x may be called where no repr is under way -/
def Cg (P : Program) (w : World) (K : PySem.W.Frag) (mg : Str → Option Value) (base : Heap) (k : Nat) (x : Str) (sp : Sp) : Prop := ∃ f fd ps, FnG P w K mg base k f fd ps sp ∧ mg x = some (.ref f) ∧ PySem.W.keepIn K (.ref f) = true ∧ Binds K fd ps []
theorem cg_mk {sp : Sp} (D : Dn K mg x st) (S : FnScope N ps (defScope st)) (hb : bindsOk x st ps) (len : ∀ vs H Q E, sp vs H Q E → vs.length = ps.length)
    (hbody : ∀ (f : Addr) (cdv : Value) (A : Around) (outer : List Env) (s : Shared) (H : Hp) (vs : List L2.V) (Q : VK) (E : XK), Room k (A.deeper (envOfC x (defScope st) s.heap.objs.size f cdv)) → (A.deeper (envOfC x (defScope st) s.heap.objs.size f cdv)).guards = some [] → sp vs H Q E →
      ∃ t, PSs (cxOf CX0 P w K mg base N x (defScope st) f cdv A outer s H E).nox (defBody st) t ∧ t { nx := fun _ H' => Q .non H', rt := Q } (L2.start N vs) H) : Cg P w K mg base (k + 1) x sp := by
  obtain ⟨f, fd, F, m⟩ := D
  refine ⟨f, fd, ps, FunD.okG F S len fun cdv A outer s H vs Q E hr hg h => ?_, m, F.kp, F.bindsN hb⟩
  obtain ⟨t, a, b⟩ := hbody f cdv A outer s H vs Q E hr hg h
  exact ⟨t, a.nox, b⟩
end
section
variable {X : Cx} {x : Str} {p pos : Pos} {e : Expr} {es : List Expr} {t : TA} {sp : Sp} {k j : Nat}
/-- f(e, ..) of such a def -/
theorem pe_cg (c : Cg X.prog X.w X.K X.mg X.base k x sp) (hr : Room j X.A) (hd : X.A.guards = some []) (hk : k ≤ j) (hg : Gl X x) (ha : PA X (e :: es) t)
    (hdb : (x == ("__debug__" : Str)) = false := by decide) (he : starEach (e :: es) X.env = (false, eval e X.env) :: starEach es X.env := by rfl) (hpl : (backTo pos (starEach es X.env)).any (·.1) = false := by rfl) :
    PE X (.Call (.Name x p) (e :: es) [] pos) (tCall sp [] E0 t) := by
  obtain ⟨f, fd, ps, F, hm, kp, b⟩ := c
  refine ⟨fun pins s σ H Q I h => wpAny_Call_Name_kw (ld_glob I hg hm (PySem.W.callWith_K (h₀ := X.base) I.ok.mod.kin kp (thn (ha.run pos pins s σ H _ I h) fun us s1 ⟨vs, H1, I1, r, q⟩ => ⟨I1.kIn, ?_⟩) he hpl) hdb)⟩
  have q : sp (vs ++ []) H1 Q E0 := q
  rw [List.append_nil] at q
  show wpAny (model X.prog X.w) X.A (call (.ref f) us) (EP X pins σ Q) X.xe s1
  have n : us.length = ps.length := by rw [← r.length]; exact F.len _ _ _ _ q
  refine wpAny_call (codeAny_mono (F.run X.A X.stack s1 H1 ⟨us, []⟩ us vs Q E0 (hr.mono hk) hd I1.env0 (by have := b s1 us I1.kIn (by rw [List.append_nil]; exact n); rw [List.append_nil] at this; exact this) r q) fun res s' out => ?_)
  cases res with
  | error e => exact pass0 pins σ H1 s1 e s' I1 out
  | ok fl =>
    cases fl with
    | ret u => exact I1.after out
    | next => exact out.elim
    | brk => exact out.elim
    | cont => exact out.elim
/-- repr of data -/
def rReprD (F : PySem.W.Frag) : List L2.V → Hp → VK → Prop := fun xs H Q => ∃ x d, xs = [x] ∧ Dp F H x d ∧ d.showable = true ∧ d.hasDict = false ∧ d.depth ≤ 60 ∧ d.shown.length ≤ sizeLine ∧ Q (.str d.shown) H
theorem call_reprD {F : PySem.W.Frag} (hu : X.A.units + 64 < cLine) (hd : X.A.guards = some []) (hK : X.K = F := by rfl) : CallR X (.builtin "repr") (rReprD F) := by
  subst hK
  intro pins s σ H xs us Q I r h
  obtain ⟨y, d, rfl, dp, sh, nd, dep, sz, q⟩ := h
  obtain ⟨u, rfl, ry⟩ := vals1 r
  obtain ⟨as, rd⟩ := Dp.reads I d y u dp ry
  have fin : ∀ h' tk u, (∀ b o, s.heap.get? b = some o → h'.get? b = some o) → EP X pins σ Q (.str d.shown u) { s with heap := h', toks := tk } := fun h' tk u k => ⟨.str d.shown, H, I.kept k, ⟨_, rfl⟩, q⟩
  have big : ∀ a : Addr, u = .ref a → wpAny (model X.prog X.w) X.A (call (.builtin "repr") [u]) (EP X pins σ Q) X.xe s := fun a e => by
    subst e
    refine repr_of_reads' rd sh (fun z => by rw [nd] at z; cases z) hd (by omega) (fun b o e => e) (fun h' u tk k => fin h' tk u k) sz
  cases dp with
  | non => cases ry; exact PySem.P.repr_of_none (fin s.heap _ _ fun _ _ e => e)
  | bl b => cases ry; exact PySem.P.repr_of_bool (fin s.heap _ _ fun _ _ e => e)
  | int i => obtain ⟨t, rfl⟩ := ry; exact PySem.P.repr_of_int (of_decide_eq_true sh) (fin s.heap _ _ fun _ _ e => e)
  | str z => obtain ⟨t, rfl⟩ := ry; exact PySem.P.repr_of_str (fin s.heap _ _ fun _ _ e => e) sz
  | lst _ _ => exact big _ ry
  | tup _ _ => exact big _ ry
end
end K42
/-! text P25 -/
set_option Elab.async false
set_option linter.all false
set_option maxRecDepth 100000
set_option maxHeartbeats 4000000
namespace K42
open PySem PySem.Spec PyProof.Rows L2

/-! The law's judgement of one table and its times. -/
section
variable {P : Program} {w : World} {K : PySem.W.Frag} {mg : Str → Option Value} {base : Heap}
theorem cg_heap {x : Str} {st : Stmt} {N ps : List Str} {k : Nat} {Pf : List PD → (Sl → Prop) → Prop} (D : Dn K mg x st) (S : FnScope N ps (defScope st)) (hb : bindsOk x st ps) (len : ∀ ds K, Pf ds K → ds.length + 1 = ps.length)
    (hbody : ∀ (f : Addr) (cdv : Value) (A : Around) (outer : List Env) (s : Shared) (H : Hp) (E : XK), Room k (A.deeper (envOfC x (defScope st) s.heap.objs.size f cdv)) → (A.deeper (envOfC x (defScope st) s.heap.objs.size f cdv)).guards = some [] →
      ∃ t, PSs (cxOf CX0 P w K mg base N x (defScope st) f cdv A outer s H E).nox (defBody st) t ∧ ∀ a c ds K, Pf ds K → wpS (Gh a c) t (rho N.length (.spc (.ref a) :: ds.map .dat)) (DEh K)) : Cg P w K mg base (k + 1) x (SpE Pf) := by
  refine cg_mk D S hb (fun vs H Q E h => ?_) fun f cdv A outer s H vs Q E hr hg h => ?_
  · obtain ⟨a, c, X, vs', ds, K, rfl, _, _, _, r, p, _⟩ := h
    rw [List.length_cons, r.length]
    exact len ds K p
  · obtain ⟨t, pt, b⟩ := hbody f cdv A outer s H E hr hg
    obtain ⟨a, c, X, vs', ds, K', rfl, s0, sub, xd, r, p, q1, q2⟩ := h
    have hl : (Sl.spc (.ref a) :: ds.map .dat).length ≤ N.length := by
      have := congrArg List.length S.pre
      have := len ds K' p
      rw [List.length_take] at *
      rw [List.length_cons, List.length_map]
      omega
    have V := env_start (G := Gh a c) (N := N) (ss := .spc (.ref a) :: ds.map .dat) s0 sub xd (.cons .spc r.ss) hl fun _ => 0
    have no : ∀ b, ¬ Own (rho N.length (.spc (.ref a) :: ds.map .dat)) (fun _ => 0) b := fun b ⟨i, es, e, _⟩ => by
      have := List.mem_of_getElem? e
      unfold rho at this
      rcases List.mem_append.mp this with z | z
      · rcases List.mem_cons.mp z with z | z
        · cases z
        · obtain ⟨_, _, z⟩ := List.mem_map.mp z
          cases z
      · cases List.eq_of_mem_replicate z
    have fc : ∀ {H'}, Fr (Ch (Gh a c) (fun _ => 0) (rho N.length (.spc (.ref a) :: ds.map .dat))) H H' → Fr (Nac a c) H H' := fun f b u h n => f b u h fun z => z.elim n (no b)
    refine ⟨t, pt, b a c ds K' p X _ _ H V _ ?_ ?_ ?_ ?_⟩
    · exact fun o' σ' H' ρ' rr V' k => q1 .non H' .none (fc rr.fr) V'.s .non k
    · intro v H' rs ok k
      obtain ⟨f, s, m⟩ := ok
      cases rs with
      | dat d => exact q1 v H' d (fc f) s m k
      | own es =>
        obtain ⟨p, ws, rfl, e, rl, np, ow⟩ := m
        exact q2 p ws H' es (ow.elim (fun z => absurd z (no p)) id) (fc f) s e rl k
      | no => exact k.elim
      | spc v => exact k.elim
    · exact fun _ _ _ _ _ _ z => z.elim
    · exact fun _ _ _ _ _ _ z => z.elim
section
variable {G : Gm} {ρ : Rho} {te : TE} {Kd : PD → Prop} {F : PySem.W.Frag}
theorem wpE_repr (h : wpE G te ρ fun d => d.canLay0 = true ∧ d.showable = true ∧ d.hasDict = false ∧ d.depth ≤ 60 ∧ d.shown.length ≤ sizeLine ∧ Kd (.str d.shown)) : wpE G (tCB (rReprD F) (tCons te tNil)) ρ Kd := fun X o σ H V Q q => h X o σ H V _ fun v H' d f s r ⟨c, sh, nd, dp, sz, k⟩ =>
  ⟨v, d, rfl, r.dp c, sh, nd, dp, sz, q _ H' _ f s (.str _) k⟩
theorem opD_neS : OpD rNe fun dx dy K => ∃ x y : Str, dx = .str x ∧ dy = .str y ∧ K (.bool (!decide (x = y))) := fun A H x y dx dy K Q dm rx ry ⟨i, j, e1, e2, k⟩ q => by
  subst e1 e2; cases rx; cases ry
  refine ⟨rfl, ?_⟩
  have e : (!decide (L2.V.str i = L2.V.str j)) = !decide (i = j) := by
    congr 1
    by_cases h : i = j
    · subst h; simp
    · rw [decide_eq_false h, decide_eq_false fun z => h (L2.V.str.inj z)]
  rw [e]
  exact q _ H _ Ex.rfl' (.bl _) k
theorem wpE_reprB (h : wpE G te ρ fun d => ∃ b, d = .bool b ∧ Kd (.str (PyData.bool b).shown)) : wpE G (tCB (rReprD F) (tCons te tNil)) ρ Kd := wpE_repr (h.imp fun d ⟨b, e, k⟩ => by
  subst e
  refine ⟨rfl, rfl, rfl, Nat.zero_le _, ?_, k⟩
  refine Nat.le_trans (show _ ≤ 5 from ?_) (by rw [sizeLine_eq]; decide)
  cases b <;> decide +kernel)
theorem shown_bool {a b : Bool} : (PyData.bool a).shown = (PyData.bool b).shown ↔ a = b := by
  cases a <;> cases b
  · simp
  · exact ⟨fun h => absurd h (by decide +kernel), fun h => by cases h⟩
  · exact ⟨fun h => absurd h (by decide +kernel), fun h => by cases h⟩
  · simp
theorem short_nat : ∀ n : Nat, n ≤ 100 → (PyData.shown (.int (n : Nat))).length ≤ 13 := by
  have h : ∀ n ∈ List.range 101, (PyData.shown (.int (n : Nat))).length ≤ 13 := by decide +kernel
  exact fun n hn => h n (List.mem_range.mpr (by omega))
theorem short_eoN {x : Option Nat} (h : ∀ y, x = some y → y ≤ 100) : (eoN x).leavesShort 13 = true := by
  cases x with
  | none => rfl
  | some y => exact decide_eq_true (short_nat y (h y rfl))
theorem small_log {n : Nat} (h : n ≤ 100) : ((n : Nat) : Int).natAbs.log2 < 1920 := by
  have h2 : ((n : Nat) : Int).natAbs = n := rfl
  rw [h2]
  have : n < 2 ^ 1920 := Nat.lt_of_le_of_lt h (by decide +kernel)
  rcases Nat.eq_zero_or_pos n with z | z
  · rw [z]; decide
  · exact (Nat.log2_lt (by omega)).mpr this
theorem show_eoN {x : Option Nat} (h : ∀ y, x = some y → y ≤ 100) : (eoN x).showable = true := by
  cases x with
  | none => rfl
  | some y => exact decide_eq_true (small_log (h y rfl))
theorem plain_eoN (x : Option Nat) : Plain 0 (eoN x) := by cases x <;> exact ⟨rfl, Nat.le_refl _⟩
theorem plain_encP (p : Option Nat × Option Nat) : Plain 1 (encP p) := plain_tup fun d hd => by
  simp only [List.mem_cons, List.not_mem_nil, or_false] at hd
  rcases hd with rfl | rfl <;> exact plain_eoN _
theorem weight_eoN {x : Option Nat} (h : ∀ y, x = some y → y ≤ 100) : (eoN x).weight ≤ 7 := by
  cases x with
  | none => decide
  | some y =>
    have h := h y rfl
    simp only [eoN, PyData.weight]
    split
    · omega
    · next z =>
      have z : y ≠ 0 := fun e => z (by rw [e]; rfl)
      have : ((y : Nat) : Int).natAbs.log2 < 7 := by
        show y.log2 < 7
        exact (Nat.log2_lt z).mpr (Nat.lt_of_le_of_lt h (by decide))
      omega
theorem wpE_reprP {p : Option Nat × Option Nat} (ok : okLim p) (h : wpE G te ρ fun d => d = encP p ∧ Kd (.str (encP p).shown)) : wpE G (tCB (rReprD F) (tCons te tNil)) ρ Kd := wpE_repr (h.imp fun d ⟨e, k⟩ => by
  subst e
  have h1 : ∀ y, p.1 = some y → y ≤ 100 := fun y e => (ok y (.inl e)).2
  have h2 : ∀ y, p.2 = some y → y ≤ 100 := fun y e => (ok y (.inr e)).2
  refine ⟨(plain_encP p).1, ?_, ?_, Nat.le_trans (plain_encP p).2 (by decide), ?_, k⟩
  · show (_ && (_ && true)) = true
    rw [show_eoN h1, show_eoN h2]; rfl
  · show (_ || (_ || false)) = false
    cases p.1 <;> cases p.2 <;> rfl
  · have := PyData.shown_le 13 (by decide) (encP p) (by
      show (_ && (_ && true)) = true
      rw [short_eoN h1, short_eoN h2]; rfl)
    have w1 := weight_eoN h1
    have w2 := weight_eoN h2
    have e : (encP p).weight ≤ 40 := by
      simp only [PyData.weight, PyData.weightAll]
      omega
    rw [sizeLine_eq]
    omega)
end
theorem eqv_eoN : ∀ x y : Option Nat, PyData.eqv (eoN x) (eoN y) = decide (x = y)
  | none, none => rfl
  | none, some _ => rfl
  | some _, none => rfl
  | some a, some b => by
    rw [show PyData.eqv (eoN (some a)) (eoN (some b)) = decide (a = b) from eqv_nat]
    by_cases h : a = b
    · subst h; simp
    · rw [decide_eq_false h, decide_eq_false fun z => h (Option.some.inj z)]
theorem eqv_encP (p q : Option Nat × Option Nat) : PyData.eqv (encP p) (encP q) = decide (p = q) := by
  show (PyData.eqv (eoN p.1) (eoN q.1) && (PyData.eqv (eoN p.2) (eoN q.2) && true)) = _
  rw [eqv_eoN, eqv_eoN]
  obtain ⟨a, b⟩ := p
  obtain ⟨c, d⟩ := q
  by_cases h1 : a = c <;> by_cases h2 : b = d <;> simp [h1, h2]
def smallB : List (List Nat) := [[], [1], [2], [1, 1], [1, 2], [2, 1], [3]]
/-- what the law wants of one table and its times, in plain terms -/
structure Fits (ties : List TieT) (n : Nat) (tms : Tms) (turn : Nat) : Prop where
  same : limL ties n tms = limitsOf ties n tms
  lim : okLim (limitsOf ties n tms)
  held : ∀ bs, okBs bs → belowP (limitsOf ties n tms) (reachOf bs) = heldL ties n tms (reachOf bs)
  game : turn < 2 → tms ≠ List.replicate n none → ∀ bs ∈ smallB, (∃ U : List (Tms × List Nat), U.length < 16000000 ∧ CanPre U ties bs tms) ∧ gameL ties tms bs = heldL ties n tms (reachOf bs)
def p_law_right (F : PySem.W.Frag) (ds : List PD) (K : Sl → Prop) : Prop := ∃ (n : Nat) (ties : List TieT) (dt : PD) (tms : Tms) (turn : Nat), TbD F n ties dt ∧ ds = [dt, .list (rowsD ties n), encT tms, en turn] ∧ tms.length = n ∧ 1 ≤ n ∧ n ≤ 12 ∧ okTm tms ∧ Tie0 ties n ∧ turn ≤ 3 ∧
  Fits ties n tms turn ∧ K (.dat (.bool true))
theorem okB_of {bs : List Nat} (h : okBs bs) : okB bs := fun b hb => by have := (h.2 b hb).2; omega
theorem meas_small : ∀ bs ∈ smallB, meas bs ≤ 7 := by decide
theorem small_ok : ∀ bs ∈ smallB, okBs bs := by
  intro bs h
  have hh : ∀ bs ∈ smallB, bs.length ≤ 60 ∧ ∀ b ∈ bs, 1 ≤ b ∧ b ≤ 100 := by decide
  exact hh bs h
theorem walks_perm {a b : List Nat} (h : a.Perm b) : walksOf a = walksOf b := by
  induction h with
  | nil => rfl
  | cons x _ ih => rw [walks_cons, walks_cons, ih]
  | swap x y l => rw [walks_cons, walks_cons, walks_cons, walks_cons, Nat.mul_assoc, Nat.mul_assoc, Nat.mul_comm (y + 1)]
  | trans _ _ h1 h2 => exact h1.trans h2
theorem cut_mem {α β : Type} {f : α → β} {xs : List α} {lo hi : Option Int} : ∃ ys : List α, cutD (xs.map f) lo hi = ys.map f ∧ (∀ y ∈ ys, y ∈ xs) ∧ ys.length ≤ xs.length := by
  refine ⟨cutD xs lo hi, ?_, fun y hy => List.mem_of_mem_drop (List.mem_of_mem_take hy), ?_⟩
  · unfold cutD
    rw [List.length_map, List.map_take, List.map_drop]
  · unfold cutD
    rw [List.length_take, List.length_drop]; omega
abbrev s__law_right : Stmt := top 76
abbrev N__law_right : List Str := ["_law_heap_here", "_law_table", "_law_rows_here", "_law_times_here", "_law_turn", "_law_due", "_law_told_here", "_law_some", "_law_batches_here", "_law_reaches_here", "_law_held_here"]
theorem sc__law_right : FnScope N__law_right ["_law_heap_here", "_law_table", "_law_rows_here", "_law_times_here", "_law_turn"] (defScope s__law_right) := ⟨rfl, rfl, rfl, by decide +kernel, rfl, by decide +kernel, by decide +kernel⟩

/-- @TERM _law_right -/
theorem ok__law_right (T : Tx mg) (D : Dn K mg "_law_right" s__law_right) (c__law_limits : Cl P w K mg base 2 "_law_limits" (SpP p_law_limits)) (c_limits : Cl P w K mg base 6 "limits" (SpP (p_limits K))) (kw_limits : Cw P w K mg base 6 "limits" "table" "times" (SpP (p_limits K)))
    (c_is_within : Cl P w K mg base 5 "is_within" (SpP p_is_within)) (kw_is_within : Cw P w K mg base 5 "is_within" "pair" "batches" (SpP p_is_within)) (c__law_near_batches : Cl P w K mg base 1 "_law_near_batches" (SpE p_law_near)) (c__law_batches : Cl P w K mg base 3 "_law_batches" (SpE p_law_batches))
    (c__law_pick : Cl P w K mg base 2 "_law_pick" SpPick) (c__law_mixed : Cl P w K mg base 2 "_law_mixed" SpMix) (c__law_reaches : Cl P w K mg base 1 "_law_reaches" (SpP p_law_reaches)) (c__law_held : Cl P w K mg base 1 "_law_held" (SpP p_law_held)) (c__law_below : Cl P w K mg base 1 "_law_below" (SpP p_law_below))
    (c__law_game : Cl P w K mg base 17 "_law_game" (SpP (p_law_game 7))) : Cg P w K mg base 19 "_law_right" (SpE (p_law_right K)) := by
  have sc := sc__law_right
  refine cg_heap D sc (fun _ _ _ _ _ _ us hl => match us, hl with | [_, _, _, _, _], _ => rfl) (fun ds K h => by obtain ⟨_, _, _, _, _, _, rfl, _⟩ := h; rfl) fun f cdv A outer s H E hr hgd => ?_
  have hu := hr.units
  refine ⟨_, (pss_cons (ps_set (i := 5) sc.nd rfl (Or.inl rfl) (pe_cl c__law_limits hr (by first | decide | omega) (by rfl) (pa_cons (pv 2) (pa_cons (pv 3) pa_nil))))
    (pss_cons (ps_set (i := 6) sc.nd rfl (Or.inl rfl) (pe_cl c_limits hr (by first | decide | omega) (by rfl) (pa_cons (pv 1) (pa_cons (pv 3) pa_nil))))
    (pss_cons (ps_if (PW.pt (pw_or (pt_cmpR op_ne (pe_callB (call_reprD (F := K) hu hgd) (by rfl) T.b_repr (by decide +kernel) (pa_cons (pv 6) pa_nil)) (pe_callB (call_reprD (F := K) hu hgd) (by rfl) T.b_repr (by decide +kernel) (pa_cons (pv 5) pa_nil)) (nomark _)) (pw_or1 (pt_cmpR (opNe (F := K) hu) (pe_cw kw_limits hr (by first | decide | omega) (by rfl) (pv 3) (pv 1)) (pv 5) (nomark _))))) (pss_one (ps_ret pe_bl)) pss_nil)
    (pss_cons (ps_set (i := 7) sc.nd rfl (Or.inl rfl) (pe_op op_cat (pe_slice sl_list (pe_cl c__law_near_batches hr (by first | decide | omega) (by rfl) (pa_cons (pv 0) (pa_cons (pv 5) pa_nil))) po_none (po_some (pe_op op_sub pe_int (pe_op op_mul pe_int (pv 4))))) (pe_lst (pa_cons (pe_cl c__law_batches hr (by first | decide | omega) (by rfl) (pa_cons (pv 0) pa_nil)) (pa_cons (pe_cl c__law_pick hr (by first | decide | omega) (by rfl) (pa_cons (pv 0) (pa_cons (pe_lst (pa_cons (pe_tup (pa_cons pe_int (pa_cons pe_int pa_nil))) (pa_cons (pe_tup (pa_cons pe_int (pa_cons pe_int pa_nil))) pa_nil))) pa_nil))) pa_nil)))))
    (pss_cons (ps_if (pt_cmpR op_lt (pv 4) pe_int (nomark _)) (pss_one (ps_set (i := 7) sc.nd rfl (Or.inl rfl) (pe_slice sl_list (pe_lst (pa_cons (pe_tup pa_nil) (pa_cons (pe_tup (pa_cons pe_int pa_nil)) (pa_cons (pe_tup (pa_cons pe_int pa_nil)) (pa_cons (pe_tup (pa_cons pe_int (pa_cons pe_int pa_nil))) (pa_cons (pe_tup (pa_cons pe_int (pa_cons pe_int pa_nil))) (pa_cons (pe_tup (pa_cons pe_int (pa_cons pe_int pa_nil))) (pa_cons (pe_tup (pa_cons pe_int pa_nil)) pa_nil)))))))) po_none (po_some (pe_op op_sub pe_int (pe_op op_mul pe_int (pv 4))))))) pss_nil)
    (pss_cons (ps_for PassesOwn.never rfl (pi_list (pv 7)) (pg_name (i := 8) sc.nd rfl (by first | exact Or.inl rfl | exact Or.inr rfl))
      (pss_cons (ps_set (i := 9) sc.nd rfl (Or.inl rfl) (pe_cl c__law_reaches hr (by first | decide | omega) (by rfl) (pa_cons (pv 8) pa_nil)))
      (pss_cons (ps_set (i := 10) sc.nd rfl (Or.inl rfl) (pe_cl c__law_held hr (by first | decide | omega) (by rfl) (pa_cons (pv 2) (pa_cons (pv 3) (pa_cons (pv 9) pa_nil)))))
      (pss_cons (ps_if (PW.pt (pw_or (pt_cmpR (opNe (F := K) hu) (pe_cl c__law_below hr (by first | decide | omega) (by rfl) (pa_cons (pv 5) (pa_cons (pv 9) pa_nil))) (pv 10) (nomark _)) (pw_or1 (pt_cmpR op_ne (pe_callB (call_reprD (F := K) hu hgd) (by rfl) T.b_repr (by decide +kernel) (pa_cons (pe_cl c_is_within hr (by first | decide | omega) (by rfl) (pa_cons (pv 6) (pa_cons (pv 8) pa_nil))) pa_nil)) (pe_callB (call_reprD (F := K) hu hgd) (by rfl) T.b_repr (by decide +kernel) (pa_cons (pv 10) pa_nil)) (nomark _))))) (pss_one (ps_ret pe_bl)) pss_nil)
      (pss_cons (ps_if (PW.pt (pw_and (pt_cmpR op_lt (pv 4) pe_int (nomark _)) (pw_and (pt_cmpR (opNe (F := K) hu) (pv 3) (pe_op (op_repA (F := K)) (pe_tup (pa_cons pe_non pa_nil)) (pe_callB (lenSq (F := K)) (by rfl) T.b_len (by decide +kernel) (pa_cons (pv 3) pa_nil))) (nomark _)) (pw_and1 (pt_cmpR (opNe (F := K) hu) (pe_cl c__law_game hr (by first | decide | omega) (by rfl) (pa_cons (pe_fld (pv 1) rfl) (pa_cons (pv 3) (pa_cons (pv 8) pa_nil)))) (pv 10) (nomark _)))))) (pss_one (ps_ret pe_bl)) pss_nil)
      (pss_one (ps_if (pt_cmpR (opNe (F := K) hu) (pe_cw kw_is_within hr (by first | decide | omega) (by rfl) (pe_callTy call_tuple_of (by rfl) T.b_tuple (by decide +kernel) (pa_cons (pe_cl c__law_mixed hr (by first | decide | omega) (by rfl) (pa_cons (pv 0) (pa_cons (pv 8) pa_nil))) pa_nil)) (pe_tup (pa_cons (pe_ix (ixSq (F := K)) (pv 5) pe_int (fun _ _ => rfl)) (pa_cons pe_non pa_nil)))) (pe_cl c__law_below hr (by first | decide | omega) (by rfl) (pa_cons (pe_tup (pa_cons (pe_ix (ixSq (F := K)) (pv 5) pe_int (fun _ _ => rfl)) (pa_cons pe_non pa_nil))) (pa_cons (pv 9) pa_nil))) (nomark _)) (pss_one (ps_ret pe_bl)) pss_nil)))))))
    (pss_one (ps_ret pe_bl)))))))), fun a c => ?_⟩
  rintro ds K' ⟨n, ties, dt, tms, turn, tb, rfl, tl, n1, n12, otm, tk, t3, ft, k⟩
  obtain ⟨C, dts, rfl, hd, tc, ok, hl⟩ := id tb
  have fsame := ft.same
  have flim := ft.lim
  have fheld := ft.held
  have fgame := ft.game
  show wpS (Gh a c) _ [.spc (.ref a), .dat (tabD C (.tuple dts) (.tuple (ties.map et))), .dat (.list (rowsD ties n)), .dat (encT tms), .dat (en turn), .no, .no, .no, .no, .no, .no] _
  refine wpS_seq (wpS_set (wpE_callP (wpA_cons (wpE_var rfl (wpA_cons (wpE_var rfl (wpA_nil ⟨[_, _], rfl, n, ties, tms, rfl, tl, n1, by omega, ?_⟩)))))))
  rw [fsame]
  refine wpS_seq (wpS_set (wpE_callP (wpA_cons (wpE_var rfl (wpA_cons (wpE_var rfl (wpA_nil ⟨[_, _], rfl, n, ties, _, tms, tb, rfl, tl, n12, otm, ?_⟩)))))))
  show wpS (Gh a c) _ [.spc (.ref a), .dat (tabD C (.tuple dts) (.tuple (ties.map et))), .dat (.list (rowsD ties n)), .dat (encT tms), .dat (en turn), .dat (encP (limitsOf ties n tms)), .dat (encP (limitsOf ties n tms)), .no, .no, .no, .no] _
  refine wpS_seq (wpS_if (wpT_or (wpT_test (wpE_op opD_neS (wpE_reprP flim (wpE_var rfl ⟨rfl, wpE_reprP flim (wpE_var rfl ⟨rfl, _, _, rfl, rfl, _, rfl, ?_⟩)⟩))))))
  rw [decide_eq_true rfl, Bool.not_true, if_neg Bool.false_ne_true]
  refine wpT_test (wpE_op opD_ne (wpE_kw (wpE_var rfl (wpE_var rfl ⟨n, ties, _, tms, tb, rfl, tl, n12, otm, wpE_var rfl ⟨(plain_encP _).shaped (by decide), (plain_encP _).shaped (by decide), _, rfl, ?_⟩⟩))))
  rw [eqv_encP, decide_eq_true rfl, Bool.not_true, if_neg Bool.false_ne_true]
  refine wpS_nil (wpS_seq (wpS_setN (lt_ rfl) (wpN_cat (wpL.imp (Kl := fun ds => ∃ bss : List (List Nat), ds = bss.map encB ∧ bss.length ≤ 8 ∧ ∀ bs ∈ bss, okBs bs) ?_ ?_))))
  · refine wpN.L (wpN_slL (wpN.L (wpN_callE rfl (wpA_cons (wpE_var rfl (wpA_nil ⟨[_], rfl, limitsOf ties n tms, rfl, flim, fun bss bl bok => ⟨_, rfl, wpO_none (wpO_some (wpE_op opD_I0 (wpE_int (wpE_op opD_I (wpE_int (wpE_var rfl ⟨_, _, rfl, rfl, .inl (by decide), _, _, rfl, rfl, _, rfl, ?_⟩))))))⟩⟩))))))
    obtain ⟨ys, e, h1, h2⟩ := cut_mem (f := encB) (xs := bss) (lo := none) (hi := some (11 - 2 * (turn : Int)))
    exact ⟨ys, e, by omega, fun bs hb => bok bs (h1 bs hb)⟩
  rintro ds ⟨bss, rfl, bl, bok⟩
  refine wpN.L (wpN_lst (wpA_cons (wpE_callE rfl (wpA_nil ⟨[], rfl, rfl, fun b1 ok1 => wpA_cons (wpE_pick rfl (wpN.R (wpN_lst (wpA_cons (wpE_tup (wpA_cons (wpE_int (wpA_cons (wpE_int (wpA_nil ⟨[_, _], rfl, le_ rfl, wpA_cons (wpE_tup (wpA_cons (wpE_int (wpA_cons (wpE_int (wpA_nil ⟨[_, _], rfl, le_ rfl, wpA_nil ⟨[_, _], rfl, le_ rfl, lt_ rfl, le_ rfl, fun d hd => ?_⟩⟩))))))⟩))))))))))⟩))))
  obtain ⟨b2, rfl, ok2⟩ : ∃ b2, d = encB b2 ∧ okBs b2 := by
    simp only [List.mem_cons, List.not_mem_nil, or_false] at hd
    rcases hd with rfl | rfl
    · exact ⟨[1, 2], rfl, small_ok _ (by decide)⟩
    · exact ⟨[2, 1], rfl, small_ok _ (by decide)⟩
  refine wpA_nil ⟨[_, _], rfl, le_ rfl, ?_, ?_⟩
  · rw [List.length_map]; show bss.length + 2 ≤ _; omega
  have e1 : bss.map encB ++ [encB b1, encB b2] = (bss ++ [b1, b2]).map encB := by rw [List.map_append]; rfl
  show wpS (Gh a c) _ [.spc (.ref a), .dat (tabD C (.tuple dts) (.tuple (ties.map et))), .dat (.list (rowsD ties n)), .dat (encT tms), .dat (en turn), .dat (encP (limitsOf ties n tms)), .dat (encP (limitsOf ties n tms)), .own (bss.map encB ++ [encB b1, encB b2]), .no, .no, .no] _
  rw [e1]
  have aok : ∀ bs ∈ bss ++ [b1, b2], okBs bs := fun bs hb => by
    rcases List.mem_append.mp hb with z | z
    · exact bok bs z
    · simp only [List.mem_cons, List.not_mem_nil, or_false] at z
      rcases z with rfl | rfl
      · exact ok1
      · exact ok2
  have al : (bss ++ [b1, b2]).length ≤ 10 := by rw [List.length_append]; show bss.length + 2 ≤ 10; omega
  generalize bss ++ [b1, b2] = all at aok al
  refine wpS_seq (wpS.imp (E := ⟨fun ρ => ∃ bss : List (List Nat), ρ = [.spc (.ref a), .dat (tabD C (.tuple dts) (.tuple (ties.map et))), .dat (.list (rowsD ties n)), .dat (encT tms), .dat (en turn), .dat (encP (limitsOf ties n tms)), .dat (encP (limitsOf ties n tms)), .own (bss.map encB), .no, .no, .no] ∧ ∀ bs ∈ bss, okBs bs ∧ (turn < 2 → bs ∈ smallB), fun _ => False, fun _ => False, fun _ => False⟩) ?_ ?_ (fun _ z => z.elim) (fun _ z => z.elim) (fun _ z => z.elim))
  · refine wpS_if (wpT_test (wpE_op opD_B0 (wpE_var rfl (wpE_int ⟨_, _, rfl, rfl, _, rfl, ?_⟩))))
    by_cases h : (turn : Int) < 2
    · rw [decide_eq_true h, if_pos rfl]
      refine wpS_setN (lt_ rfl) (wpN_slL (wpN.L (wpN_lst (wpA_cons (wpE_tup (wpA_nil ⟨[], rfl, le_ rfl, wpA_cons (wpE_tup (wpA_cons (wpE_int (wpA_nil ⟨[_], rfl, le_ rfl, wpA_cons (wpE_tup (wpA_cons (wpE_int (wpA_nil ⟨[_], rfl, le_ rfl, wpA_cons (wpE_tup (wpA_cons (wpE_int (wpA_cons (wpE_int (wpA_nil ⟨[_, _], rfl, le_ rfl, wpA_cons (wpE_tup (wpA_cons (wpE_int (wpA_cons (wpE_int (wpA_nil ⟨[_, _], rfl, le_ rfl, wpA_cons (wpE_tup (wpA_cons (wpE_int (wpA_cons (wpE_int (wpA_nil ⟨[_, _], rfl, le_ rfl, wpA_cons (wpE_tup (wpA_cons (wpE_int (wpA_nil ⟨[_], rfl, le_ rfl, wpA_nil ⟨[_, _, _, _, _, _, _], rfl, le_ rfl, wpO_none (wpO_some (wpE_op opD_I0 (wpE_int (wpE_op opD_I (wpE_int (wpE_var rfl ⟨_, _, rfl, rfl, .inl (by decide), _, _, rfl, rfl, _, rfl, ?_⟩))))))⟩⟩))))⟩))))))⟩))))))⟩))))))⟩))))⟩))))⟩))))))
      obtain ⟨ys, e, h1, h2⟩ := cut_mem (f := encB) (xs := smallB) (lo := none) (hi := some (7 - 3 * (turn : Int)))
      refine ⟨ys, ?_, fun bs hb => ⟨small_ok bs (h1 bs hb), fun _ => h1 bs hb⟩⟩
      rw [← e]; rfl
    · rw [decide_eq_false h, if_neg Bool.false_ne_true]
      exact wpS_nil ⟨all, rfl, fun bs hb => ⟨aok bs hb, fun z => absurd z (by omega)⟩⟩
  rintro ρ' ⟨bss, rfl, bok⟩
  refine wpS_free (i := 7) (ds := bss.map encB) rfl ?_
  show wpS (Gh a c) _ [.spc (.ref a), .dat (tabD C (.tuple dts) (.tuple (ties.map et))), .dat (.list (rowsD ties n)), .dat (encT tms), .dat (en turn), .dat (encP (limitsOf ties n tms)), .dat (encP (limitsOf ties n tms)), .dat (.list (bss.map encB)), .no, .no, .no] _
  refine wpS_seq (wpS_for tg_name (wpI_list (wpE_var rfl ⟨_, rfl, fun i ρ => ∃ x y z, ρ = [.spc (.ref a), .dat (tabD C (.tuple dts) (.tuple (ties.map et))), .dat (.list (rowsD ties n)), .dat (encT tms), .dat (en turn), .dat (encP (limitsOf ties n tms)), .dat (encP (limitsOf ties n tms)), .dat (.list (bss.map encB)), x, y, z], ⟨_, _, _, rfl⟩, ?_, ?_⟩)))
  · rintro i e ρ' hi q ⟨x, y, z, rfl⟩
    obtain ⟨bs, hb, rfl⟩ := map_get q
    obtain ⟨okb, sm⟩ := bok bs (List.mem_of_getElem? hb)
    have fh := fheld bs okb
    refine ⟨_, rfl, ?_⟩
    show wpS (Gh a c) _ [.spc (.ref a), .dat (tabD C (.tuple dts) (.tuple (ties.map et))), .dat (.list (rowsD ties n)), .dat (encT tms), .dat (en turn), .dat (encP (limitsOf ties n tms)), .dat (encP (limitsOf ties n tms)), .dat (.list (bss.map encB)), .dat (encB bs), y, z] _
    refine wpS_seq (wpS_set (wpE_callP (wpA_cons (wpE_var rfl (wpA_nil ⟨[_], rfl, bs, rfl, okB_of okb, ?_⟩)))))
    refine wpS_seq (wpS_set (wpE_callP (wpA_cons (wpE_var rfl (wpA_cons (wpE_var rfl (wpA_cons (wpE_var rfl (wpA_nil ⟨[_, _, _], rfl, n, ties, tms, reachOf bs, rfl, tl, n1, by omega, ?_⟩)))))))))
    show wpS (Gh a c) _ [.spc (.ref a), .dat (tabD C (.tuple dts) (.tuple (ties.map et))), .dat (.list (rowsD ties n)), .dat (encT tms), .dat (en turn), .dat (encP (limitsOf ties n tms)), .dat (encP (limitsOf ties n tms)), .dat (.list (bss.map encB)), .dat (encB bs), .dat (encR (reachOf bs)), .dat (.bool (heldL ties n tms (reachOf bs)))] _
    refine wpS_seq (wpS_if (wpT_or (wpT_test (wpE_op opD_ne (wpE_callP (wpA_cons (wpE_var rfl (wpA_cons (wpE_var rfl (wpA_nil ⟨[_, _], rfl, limitsOf ties n tms, reachOf bs, rfl, wpE_var rfl ⟨rfl, rfl, _, rfl, ?_⟩⟩))))))))))
    rw [fh, show PyData.eqv (.bool (heldL ties n tms (reachOf bs))) (.bool (heldL ties n tms (reachOf bs))) = true from beq_self_eq_true _, Bool.not_true, if_neg Bool.false_ne_true]
    refine wpT_test (wpE_op opD_neS (wpE_reprB (wpE_callP (wpA_cons (wpE_var rfl (wpA_cons (wpE_var rfl (wpA_nil ⟨[_, _], rfl, limitsOf ties n tms, bs, rfl, okb, _, rfl, wpE_reprB (wpE_var rfl ⟨_, rfl, _, _, rfl, rfl, _, rfl, ?_⟩)⟩))))))))
    rw [show belowP (limitsOf ties n tms) (walksOf bs, ringsOf bs) = heldL ties n tms (reachOf bs) from fh, decide_eq_true rfl, Bool.not_true, if_neg Bool.false_ne_true]
    refine wpS_nil (wpS_seq (wpS.imp (E := ⟨fun ρ => ρ = [.spc (.ref a), .dat (tabD C (.tuple dts) (.tuple (ties.map et))), .dat (.list (rowsD ties n)), .dat (encT tms), .dat (en turn), .dat (encP (limitsOf ties n tms)), .dat (encP (limitsOf ties n tms)), .dat (.list (bss.map encB)), .dat (encB bs), .dat (encR (reachOf bs)), .dat (.bool (heldL ties n tms (reachOf bs)))], fun _ => False, fun _ => False, fun _ => False⟩) ?_ ?_ (fun _ z => z.elim) (fun _ z => z.elim) (fun _ z => z.elim)))
    · refine wpS_if (wpT_and (wpT_test (wpE_op opD_B0 (wpE_var rfl (wpE_int ⟨_, _, rfl, rfl, _, rfl, ?_⟩)))))
      by_cases h : (turn : Int) < 2
      · rw [decide_eq_true h, if_pos rfl]
        refine wpT_and (wpT_test (wpE_op opD_ne (wpE_var rfl (wpE_op opD_repA (wpE_tup (wpA_cons (wpE_non (wpA_nil ⟨[_], rfl, le_ rfl, wpE_len (wpE.Q (wpE_var rfl ⟨_, rfl, _, _, rfl, rfl, by simp, by omega, ?_, le_ rfl, ?_⟩))⟩))))))))
        · rw [map_len]; omega
        rw [map_len, tl, Int.toNat_natCast, none_rep]
        refine ⟨shaped_enc _, shaped_enc _, _, rfl, ?_⟩
        rw [eqv_enc]
        by_cases hz : tms = List.replicate n none
        · rw [decide_eq_true hz, Bool.not_true, if_neg Bool.false_ne_true]
          exact wpS_nil rfl
        · rw [decide_eq_false hz, Bool.not_false, if_pos rfl]
          obtain ⟨⟨U, hU, pre⟩, eg⟩ := fgame (by omega) hz bs (sm (by omega))
          refine wpT_test (wpE_op opD_ne (wpE_callP (wpA_cons (wpE_ties (wpE_var rfl ⟨C, _, _, rfl, tc.cls, tc.ti, wpA_cons (wpE_var rfl (wpA_cons (wpE_var rfl (wpA_nil ⟨[_, _, _], rfl, ties, tms, bs, U, rfl, meas_small bs (sm (by omega)), by rw [tl]; exact tk, okB_of okb, by omega, hU, fun _ => pre, wpE_var rfl ⟨rfl, rfl, _, rfl, ?_⟩⟩))))⟩)))))
          rw [eg, show PyData.eqv (.bool (heldL ties n tms (reachOf bs))) (.bool (heldL ties n tms (reachOf bs))) = true from beq_self_eq_true _, Bool.not_true, if_neg Bool.false_ne_true]
          exact wpS_nil rfl
      · rw [decide_eq_false h, if_neg Bool.false_ne_true]
        exact wpS_nil rfl
    rintro ρ' rfl
    refine wpS_if (wpT_test (wpE_op opD_ne (wpE_kw (wpE_tuple (wpN.Q (wpN_mixed rfl (wpE.R (wpE_var rfl ⟨_, rfl, ?_, fun es pm => ?_⟩))))))))
    · rw [map_len]; have := okb.1; omega
    obtain ⟨bs2, rfl, pp⟩ := perm_of_map pm rfl
    refine wpE_tup (wpA_cons (wpE_op opD_ix (wpE_var rfl (wpE_int ⟨_, _, _, rfl, rfl, rfl, wpA_cons (wpE_non (wpA_nil ⟨[_, _], rfl, le_ rfl, ((limitsOf ties n tms).1, none), bs2, rfl, ⟨by rw [pp.length_eq]; exact okb.1, fun b hb => okb.2 b (pp.mem_iff.mp hb)⟩, wpE_callP (wpA_cons (wpE_tup (wpA_cons (wpE_op opD_ix (wpE_var rfl (wpE_int ⟨_, _, _, rfl, rfl, rfl, wpA_cons (wpE_non (wpA_nil ⟨[_, _], rfl, le_ rfl, wpA_cons (wpE_var rfl (wpA_nil ⟨[_, _], rfl, ((limitsOf ties n tms).1, none), reachOf bs, rfl, rfl, rfl, _, rfl, ?_⟩))⟩))⟩))))))⟩))⟩))))
    have e3 : belowP ((limitsOf ties n tms).1, none) (walksOf bs2, ringsOf bs2) = belowP ((limitsOf ties n tms).1, none) (reachOf bs) := by
      show (below1 (walksOf bs2) (limitsOf ties n tms).1 && true) = (below1 (walksOf bs) (limitsOf ties n tms).1 && true)
      rw [walks_perm pp]
    rw [e3, show PyData.eqv (.bool (belowP ((limitsOf ties n tms).1, none) (reachOf bs))) (.bool (belowP ((limitsOf ties n tms).1, none) (reachOf bs))) = true from beq_self_eq_true _, Bool.not_true, if_neg Bool.false_ne_true]
    exact wpS_nil ⟨_, _, _, rfl⟩
  · rintro ρ' ⟨x, y, z, rfl⟩
    exact wpS_ret (wpE_bl k)
end

end K42
/-! text P26 -/
set_option Elab.async false
set_option linter.all false
set_option maxRecDepth 100000
set_option maxHeartbeats 4000000
namespace K42
open PySem PySem.Spec PyProof.Rows L2

/-! The law's judgement of pairs. -/
section
variable {P : Program} {w : World} {K : PySem.W.Frag} {mg : Str → Option Value} {base : Heap}
def p_law_pairs (ds : List PD) (K : Sl → Prop) : Prop := ds = [] ∧ K (.dat (.bool true))
abbrev s__law_pairs_right : Stmt := top 77
abbrev N__law_pairs_right : List Str := ["_law_heap_here", "_law_turn", "_law_batches_here", "_law_walks", "_law_rings", "_law_pair"]
theorem sc__law_pairs_right : FnScope N__law_pairs_right ["_law_heap_here"] (defScope s__law_pairs_right) := ⟨rfl, rfl, rfl, by decide +kernel, rfl, by decide +kernel, by decide +kernel⟩

/-- @TERM _law_pairs_right -/
theorem ok__law_pairs_right (T : Tx mg) (D : Dn K mg "_law_pairs_right" s__law_pairs_right) (c__law_batches : Cl P w K mg base 3 "_law_batches" (SpE p_law_batches)) (c__law_reaches : Cl P w K mg base 1 "_law_reaches" (SpP p_law_reaches)) (c__law_below : Cl P w K mg base 1 "_law_below" (SpP p_law_below))
    (c__law_draw : Cl P w K mg base 1 "_law_draw" SpDraw) (c_is_within : Cl P w K mg base 5 "is_within" (SpP p_is_within)) : Cg P w K mg base 7 "_law_pairs_right" (SpE p_law_pairs) := by
  have sc := sc__law_pairs_right
  refine cg_heap D sc (fun _ _ _ _ _ _ us hl => match us, hl with | [_], _ => rfl) (fun ds K h => by obtain ⟨rfl, _⟩ := h; rfl) fun f cdv A outer s H E hr hgd => ?_
  have hu := hr.units
  refine ⟨_, (pss_cons (ps_for PassesOwn.never rfl (pi_range1 (by rfl) T.b_range (pa_cons pe_int pa_nil)) (pg_name (i := 1) sc.nd rfl (by first | exact Or.inl rfl | exact Or.inr rfl))
      (pss_cons (ps_set (i := 2) sc.nd rfl (Or.inl rfl) (pe_cl c__law_batches hr (by first | decide | omega) (by rfl) (pa_cons (pv 0) pa_nil)))
      (pss_cons (ps_asg (pe_cl c__law_reaches hr (by first | decide | omega) (by rfl) (pa_cons (pv 2) pa_nil)) (pg_tup rfl (pgs_cons (pg_name (i := 3) sc.nd rfl (by first | exact Or.inl rfl | exact Or.inr rfl)) (pgs_cons (pg_name (i := 4) sc.nd rfl (by first | exact Or.inl rfl | exact Or.inr rfl)) pgs_nil))))
      (pss_one (ps_for PassesOwn.never rfl (pi_list (pe_lst (pa_cons (pe_tup (pa_cons pe_non (pa_cons pe_non pa_nil))) (pa_cons (pe_tup (pa_cons (pv 3) (pa_cons pe_non pa_nil))) (pa_cons (pe_tup (pa_cons (pe_op op_add (pv 3) pe_int) (pa_cons pe_non pa_nil))) (pa_cons (pe_tup (pa_cons pe_non (pa_cons (pv 4) pa_nil))) (pa_cons (pe_tup (pa_cons pe_non (pa_cons (pe_op op_add (pv 4) pe_int) pa_nil))) (pa_cons (pe_tup (pa_cons (pe_op op_add (pv 3) pe_int) (pa_cons (pe_op op_add (pv 4) pe_int) pa_nil))) (pa_cons (pe_tup (pa_cons (pe_op op_add (pv 3) pe_int) (pa_cons (pv 4) pa_nil))) (pa_cons (pe_tup (pa_cons (pv 3) (pa_cons (pe_op op_add (pv 4) pe_int) pa_nil))) (pa_cons (pe_tup (pa_cons (pe_cl c__law_draw hr (by first | decide | omega) (by rfl) (pa_cons (pv 0) (pa_cons pe_int pa_nil))) (pa_cons (pe_cl c__law_draw hr (by first | decide | omega) (by rfl) (pa_cons (pv 0) (pa_cons pe_int pa_nil))) pa_nil))) pa_nil))))))))))) (pg_name (i := 5) sc.nd rfl (by first | exact Or.inl rfl | exact Or.inr rfl))
        (pss_one (ps_if (pt_cmpR op_ne (pe_callB (call_reprD (F := K) hu hgd) (by rfl) T.b_repr (by decide +kernel) (pa_cons (pe_cl c_is_within hr (by first | decide | omega) (by rfl) (pa_cons (pv 5) (pa_cons (pv 2) pa_nil))) pa_nil)) (pe_callB (call_reprD (F := K) hu hgd) (by rfl) T.b_repr (by decide +kernel) (pa_cons (pe_cl c__law_below hr (by first | decide | omega) (by rfl) (pa_cons (pv 5) (pa_cons (pe_tup (pa_cons (pv 3) (pa_cons (pv 4) pa_nil))) pa_nil))) pa_nil)) (nomark _)) (pss_one (ps_ret pe_bl)) pss_nil)))))))
    (pss_one (ps_ret pe_bl))), fun a c => ?_⟩
  rintro ds K' ⟨rfl, k⟩
  show wpS (Gh a c) _ [.spc (.ref a), .no, .no, .no, .no, .no] _
  refine wpS_seq (wpS_for tg_name (wpI_rng1 (wpA_cons (wpE_int (wpA_nil ⟨4, rfl, by decide, by decide, fun i ρ => ∃ u v x y z, ρ = [.spc (.ref a), u, v, x, y, z], ⟨_, _, _, _, _, rfl⟩, ?_, ?_⟩)))))
  · rintro i e ρ' hi q ⟨u, v, x, y, z, rfl⟩
    cases q
    refine ⟨_, rfl, ?_⟩
    show wpS (Gh a c) _ [.spc (.ref a), .dat (en i), v, x, y, z] _
    refine wpS_seq (wpS_set (wpE_callE rfl (wpA_nil ⟨[], rfl, rfl, fun bs ok => ?_⟩)))
    refine wpS_seq (wpS_asg (tg_tup (js := [3, 4]) rfl rfl) (wpE_callP (wpA_cons (wpE_var rfl (wpA_nil ⟨[_], rfl, bs, rfl, okB_of ok, _, rfl, ?_⟩)))))
    show wpS (Gh a c) _ [.spc (.ref a), .dat (en i), .dat (encB bs), .dat (en (reachOf bs).1), .dat (en (reachOf bs).2), z] _
    refine wpS_for tg_name (wpI_list (wpE.imp (K := fun d => ∃ ps : List (Option Nat × Option Nat), d = .list (ps.map encP)) ?_ ?_))
    · have p1 : ∀ n : Nat, PyData.int ((n : Int) + 1) = en (n + 1) := fun n => rfl
      refine wpN.E (wpN_lst (wpA_cons (wpE_tup (wpA_cons (wpE_non (wpA_cons (wpE_non (wpA_nil ⟨[_, _], rfl, le_ rfl, wpA_cons (wpE_tup (wpA_cons (wpE_var rfl (wpA_cons (wpE_non (wpA_nil ⟨[_, _], rfl, le_ rfl, wpA_cons (wpE_tup (wpA_cons (wpE_op opD_I0 (wpE_var rfl (wpE_int ⟨_, _, rfl, rfl, wpA_cons (wpE_non (wpA_nil ⟨[_, _], rfl, le_ rfl, wpA_cons (wpE_tup (wpA_cons (wpE_non (wpA_cons (wpE_var rfl (wpA_nil ⟨[_, _], rfl, le_ rfl, wpA_cons (wpE_tup (wpA_cons (wpE_non (wpA_cons (wpE_op opD_I0 (wpE_var rfl (wpE_int ⟨_, _, rfl, rfl, wpA_nil ⟨[_, _], rfl, le_ rfl, ?_⟩⟩)))))))⟩))))))⟩))⟩)))))⟩))))))⟩))))))))
      refine wpA_cons (wpE_tup (wpA_cons (wpE_op opD_I0 (wpE_var rfl (wpE_int ⟨_, _, rfl, rfl, wpA_cons (wpE_op opD_I0 (wpE_var rfl (wpE_int ⟨_, _, rfl, rfl, wpA_nil ⟨[_, _], rfl, le_ rfl, wpA_cons (wpE_tup (wpA_cons (wpE_op opD_I0 (wpE_var rfl (wpE_int ⟨_, _, rfl, rfl, wpA_cons (wpE_var rfl (wpA_nil ⟨[_, _], rfl, le_ rfl, wpA_cons (wpE_tup (wpA_cons (wpE_var rfl (wpA_cons (wpE_op opD_I0 (wpE_var rfl (wpE_int ⟨_, _, rfl, rfl, wpA_nil ⟨[_, _], rfl, le_ rfl, ?_⟩⟩)))))))⟩))⟩)))))⟩⟩)))⟩)))))
      refine wpA_cons (wpE_tup (wpA_cons (wpE_draw rfl (wpE_int ⟨_, rfl, by decide, by decide, fun r r0 r1 => wpA_cons (wpE_draw rfl (wpE_int ⟨_, rfl, by decide, by decide, fun t t0 t1 => wpA_nil ⟨[_, _], rfl, le_ rfl, wpA_nil ⟨[_, _, _, _, _, _, _, _, _], rfl, le_ rfl, ?_⟩⟩⟩))⟩))))
      obtain ⟨r, rfl⟩ := nat_of r0
      obtain ⟨t, rfl⟩ := nat_of t0
      generalize reachOf bs = W
      exact ⟨[(none, none), (some W.1, none), (some (W.1 + 1), none), (none, some W.2), (none, some (W.2 + 1)), (some (W.1 + 1), some (W.2 + 1)), (some (W.1 + 1), some W.2), (some W.1, some (W.2 + 1)), (some r, some t)], rfl⟩
    rintro d ⟨ps, rfl⟩
    refine ⟨_, rfl, fun j ρ => ∃ z, ρ = [.spc (.ref a), .dat (en i), .dat (encB bs), .dat (en (reachOf bs).1), .dat (en (reachOf bs).2), z], ⟨_, rfl⟩, ?_, ?_⟩
    · rintro j e ρ' hj q ⟨z, rfl⟩
      obtain ⟨p, hp, rfl⟩ := map_get q
      refine ⟨_, rfl, ?_⟩
      show wpS (Gh a c) _ [.spc (.ref a), .dat (en i), .dat (encB bs), .dat (en (reachOf bs).1), .dat (en (reachOf bs).2), .dat (encP p)] _
      refine wpS_if (wpT_test (wpE_op opD_neS (wpE_reprB (wpE_callP (wpA_cons (wpE_var rfl (wpA_cons (wpE_var rfl (wpA_nil ⟨[_, _], rfl, p, bs, rfl, ok, _, rfl, wpE_reprB (wpE_callP (wpA_cons (wpE_var rfl (wpA_cons (wpE_tup (wpA_cons (wpE_var rfl (wpA_cons (wpE_var rfl (wpA_nil ⟨[_, _], rfl, le_ rfl, wpA_nil ⟨[_, _], rfl, p, reachOf bs, rfl, _, rfl, _, _, rfl, rfl, _, rfl, ?_⟩⟩))))))))))⟩)))))))))
      rw [show belowP p (walksOf bs, ringsOf bs) = belowP p (reachOf bs) from rfl, decide_eq_true rfl, Bool.not_true, if_neg Bool.false_ne_true]
      exact wpS_nil ⟨_, rfl⟩
    · rintro ρ' ⟨z, rfl⟩
      exact ⟨_, _, _, _, _, rfl⟩
  · rintro ρ' ⟨u, v, x, y, z, rfl⟩
    exact wpS_ret (wpE_bl k)
end

end K42
/-! text P27 -/
set_option Elab.async false
set_option linter.all false
set_option maxRecDepth 100000
set_option maxHeartbeats 4000000
namespace K42
open PySem PySem.Spec PyProof.Rows L2

/-! The law's heap, from the script. -/
section
variable {P : Program} {w : World} {K : PySem.W.Frag} {mg : Str → Option Value} {base : Heap}
/-- the script stands still -/
def Frz (K : PySem.W.Frag) (l : Addr) (xs : List L2.V) : Prop := ∃ o its n, K.lookup l = some o ∧ o.cls = .type "list" ∧ o.data = .seq its n ∧ o.slots = #[] ∧ its.size = xs.length ∧ Vals xs its.toList
def Gs (K : PySem.W.Frag) (l : Addr) (xs : List L2.V) : Gm where
  N := fun b => b = l ∧ ¬ ∀ H : Hp, SqL K H l xs
  S := fun H => SqL K H l xs
  dom := fun H b s n e => by
    rcases s with s | s
    · rcases s with s | ⟨o, s⟩
      · rw [n.1, s] at e; cases e
      · rw [n.1, s] at e; cases e
    · exact n.2 fun H' => .inr s
  loc := fun H H' s k => by
    by_cases z : ∀ H : Hp, SqL K H l xs
    · exact z H'
    · rcases s with s | s
      · rcases s with s | ⟨o, s⟩
        · exact .inl (.inl (k _ _ s (.inl ⟨rfl, z⟩)))
        · exact .inl (.inr ⟨o, k _ _ s (.inl ⟨rfl, z⟩)⟩)
      · exact .inr s
def SpHeap (K : PySem.W.Frag) : Sp := fun vs H Q _ => ∃ (l : Addr) (ns : List Int), vs = [.ref l] ∧ SqL K H l (ns.map L2.V.int) ∧ ∀ a c H', H a = none → (∀ b u, H b = some u → b ≠ l → H' b = some u) → HpA a c H' → Q (.ref a) H'
theorem wpN_slS {l : Addr} {ns : List Int} {ρ : Rho} {i : Nat} {tl th : TO} {Kl : List PD → Prop} (hi : ρ[i]? = some (Sl.spc (.ref l))) (h : wpO (Gs K l (ns.map L2.V.int)) tl ρ fun lo => wpO (Gs K l (ns.map L2.V.int)) th ρ fun hi => Kl (cutD (ns.map PyData.int) lo hi)) :
    wpN (Gs K l (ns.map L2.V.int)) (tSl (rSlL K) (tVar i) tl th) ρ Kl := fun X o σ H V Q q => ⟨_, V.spc i _ hi, h X o σ H V _ fun lo H2 f2 s2 k => k X o σ H2 (V.step f2 s2) _ fun hh H3 f3 s3 k => by
  refine ⟨l, _, rfl, s3, fun p hp => ?_⟩
  have hp0 : H p = none := by
    cases e : H p with
    | none => rfl
    | some u => exact absurd hp (dm_of f3 s3 p (dm_of f2 s2 p (by rw [e]; exact nofun)))
  refine q p _ _ _ hp0 ((f2.trans f3).trans (Ex.new hp).fr) (Gm.mono _ _ _ s3 (Ex.new hp)) upd_same ?_ k
  exact (RpL.ofInts ns).cut lo hh⟩
abbrev s__law_heap : Stmt := top 49
abbrev N__law_heap : List Str := ["_law_script", "_law_cells", "_law_stir", "_law_cell"]
theorem sc__law_heap : FnScope N__law_heap ["_law_script"] (defScope s__law_heap) := ⟨rfl, rfl, rfl, by decide +kernel, rfl, by decide +kernel, by decide +kernel⟩

/-- @TERM _law_heap -/
theorem ok__law_heap (T : Tx mg) (D : Dn K mg "_law_heap" s__law_heap) : Cl P w K mg base 1 "_law_heap" (SpHeap K) := by
  have sc := sc__law_heap
  refine cl_mk D sc (fun _ _ _ _ _ _ us hl => match us, hl with | [_], _ => rfl) (fun vs H Q E ⟨l, ns, e, _⟩ => by rw [e]; rfl) fun f cdv A outer s H vs Q E hr h => ?_
  have hu := hr.units
  obtain ⟨l, ns, rfl, hs, q⟩ := h
  refine ⟨_, (pss_cons (ps_par (i := 1) (j := 2) (by rfl) sc.nd rfl rfl (by decide) rfl rfl (pa_cons (pe_lc (own := [("_law_cell", 3)]) (g := gName 3) (by rfl) sc.nd (pi_list (pe_slice sl_list (pv 0) po_none (po_some pe_int))) (blkOk_by (own := [("_law_cell", 3)]) (N := N__law_heap) (sc := (defScope s__law_heap)) (by decide +kernel)) (fun _ _ _ _ _ => (pg_name (i := 3) sc.nd rfl (by first | exact Or.inl rfl | exact Or.inr rfl))) (fun _ _ _ _ _ => pts_nil) (fun _ _ _ _ _ => (pe_op op_add (pe_op op_mul pe_int (pe_callB call_abs (by rfl) T.b_abs (by decide +kernel) (pa_cons (pv 3) pa_nil))) (pe_callTy call_int1 (by rfl) T.b_int (by decide +kernel) (pa_cons (pe_cmpR op_lt (pv 3) pe_int (nomark _)) pa_nil))))) (pa_cons pe_int pa_nil)) (by rfl))
    (pss_cons (ps_for PassesOwn.never rfl (pi_list (pv 1)) (pg_name (i := 3) sc.nd rfl (by first | exact Or.inl rfl | exact Or.inr rfl))
      (pss_one (ps_set (i := 2) sc.nd rfl (Or.inl rfl) (pe_op op_mod (pe_callTy call_int1 (by rfl) T.b_int (by decide +kernel) (pa_cons (pe_op op_add (pe_op op_add (pe_op op_mul (pv 2) pe_int) (pe_op op_mod (pe_callTy call_int1 (by rfl) T.b_int (by decide +kernel) (pa_cons (pv 3) pa_nil)) pe_int)) pe_int) pa_nil)) pe_int))))
    (pss_one (ps_ret (pe_lst (pa_cons (pe_revL (pe_lc (own := [("_law_cell", 3)]) (g := gName 3) (by rfl) sc.nd (pi_list (pv 1)) (blkOk_by (own := [("_law_cell", 3)]) (N := N__law_heap) (sc := (defScope s__law_heap)) (by decide +kernel)) (fun _ _ _ _ _ => (pg_name (i := 3) sc.nd rfl (by first | exact Or.inl rfl | exact Or.inr rfl))) (fun _ _ _ _ _ => (pts_one (pt_cmpR op_ge (pv 3) (pe_op op_pow pe_int pe_int) (nomark _)))) (fun _ _ _ _ _ => (pv 3)))) (pa_cons (pv 2) pa_nil))))))), ?_⟩
  have V : EnvOk (Gs K l (ns.map L2.V.int)) (Gs K l (ns.map L2.V.int)).N (fun _ => 0) (L2.start N__law_heap [.ref l]) H [.spc (.ref l), .no, .no, .no] :=
    env_start (G := Gs K l (ns.map L2.V.int)) (N := N__law_heap) (ss := [.spc (.ref l)]) hs (fun b e => e) (fun b e => Gm.dom _ _ _ hs e) (.cons .spc .nil) (le_ rfl) fun _ => 0
  refine (show wpS (Gs K l (ns.map L2.V.int)) _ [.spc (.ref l), .no, .no, .no] ⟨fun _ => False, fun r => ∃ (cells : List Int) (st : Int), r = .own [.list (cells.map .int), .int st] ∧ (∀ x ∈ cells, 0 ≤ x) ∧ 0 ≤ st ∧ cells.length ≤ 1000, fun _ => False, fun _ => False⟩ from ?_) _ _ _ H V _ ?_ ?_ ?_ ?_
  · refine wpS_seq (wpS_par (lt_ rfl) (lt_ rfl) (wpN.x (wpN_lcS tg_name (by decide) rfl (wpI_own (wpN.L (wpN_slS rfl (wpO_none (wpO_some (wpE_int ⟨_, rfl, ?_⟩)))))))))
    have ec : cutD (ns.map PyData.int) none (some 60) = (cutD ns none (some 60)).map PyData.int := by
      unfold cutD
      rw [List.length_map, List.map_take, List.map_drop]
    have cl : (cutD ns none (some 60)).length ≤ 60 := by
      unfold cutD
      rw [List.length_take]
      simp only [HT.sIx]
      rw [if_neg (by decide)]; omega
    rw [ec]
    generalize cutD ns none (some 60) = ms at cl
    refine ⟨by rw [map_len]; omega, Int, ms, .int, fun _ => true, fun i => .int (2 * (if i < 0 then -i else i) + if i < 0 then 1 else 0), ⟨map_len, fun i => List.getElem?_map ..⟩, fun j i hj => ⟨_, rfl, wpT_yes ⟨rfl, fun _ => ?_⟩⟩, wpE.x (wpE_int ?_)⟩
    · refine wpE_op opD_I0 (wpE_op opD_I (wpE_int (wpE_abs (wpE_var rfl ⟨_, rfl, _, _, rfl, rfl, .inl (by decide), wpE_int1 (wpE_op opD_B0 (wpE_var rfl (wpE_int ⟨_, _, rfl, rfl, .inr ⟨_, rfl, _, _, rfl, rfl, ?_⟩⟩)))⟩))))
      show PyData.int (2 * (if i < 0 then -i else i) + if decide (i < 0) = true then 1 else 0) = .int (2 * (if i < 0 then -i else i) + if i < 0 then 1 else 0)
      by_cases h : i < 0
      · rw [decide_eq_true h, if_pos h, if_pos h]; rfl
      · rw [decide_eq_false h, if_neg h, if_neg h]; rfl
    rw [filter_yes]
    have e2 : ms.map (fun i => PyData.int (2 * (if i < 0 then -i else i) + if i < 0 then 1 else 0)) = (ms.map fun i => 2 * (if i < 0 then -i else i) + if i < 0 then 1 else 0).map PyData.int := by rw [List.map_map]; rfl
    rw [e2]
    have pos : ∀ x ∈ ms.map fun i : Int => 2 * (if i < 0 then -i else i) + if i < 0 then 1 else 0, 0 ≤ x := fun x hx => by
      obtain ⟨i, _, rfl⟩ := List.mem_map.mp hx
      by_cases h : i < 0
      · rw [if_pos h, if_pos h]; omega
      · rw [if_neg h, if_neg h]; omega
    have cl : (ms.map fun i : Int => 2 * (if i < 0 then -i else i) + if i < 0 then 1 else 0).length ≤ 60 := by rw [List.length_map]; exact cl
    generalize (ms.map fun i : Int => 2 * (if i < 0 then -i else i) + if i < 0 then 1 else 0) = cs at pos cl
    refine wpS_free (i := 1) (ds := cs.map .int) rfl ?_
    show wpS _ _ [.spc (.ref l), .dat (.list (cs.map .int)), .dat (.int 61042), .no] _
    refine wpS_seq (wpS_for tg_name (wpI_list (wpE_var rfl ⟨_, rfl, fun i ρ => ∃ (st : Int) (x : Sl), ρ = [.spc (.ref l), .dat (.list (cs.map .int)), .dat (.int st), x] ∧ 0 ≤ st ∧ ∀ v, x ≠ .own v, ⟨_, _, rfl, by decide, nofun⟩, ?_, ?_⟩)))
    · rintro i d ρ' hi e ⟨st, x, rfl, h0, nx⟩
      obtain ⟨c, hc, rfl⟩ := map_get e
      refine ⟨_, rfl, ?_⟩
      show wpS _ _ [.spc (.ref l), .dat (.list (cs.map .int)), .dat (.int st), .dat (.int c)] _
      refine wpS_set (wpE_op opD_I (wpE_int1 (wpE_op opD_I0 (wpE_op opD_I0 (wpE_op opD_I (wpE_var rfl (wpE_int ⟨_, _, rfl, rfl, .inr (by decide), wpE_op opD_I (wpE_int1 (wpE_var rfl (.inl ⟨_, rfl, wpE_int ⟨_, _, rfl, rfl, (show (0 : Int) < 2147483563 by decide), _, _, rfl, rfl, wpE_int ⟨_, _, rfl, rfl, .inl ⟨_, rfl, wpE_int ⟨_, _, rfl, rfl, (show (0 : Int) < 2147483647 by decide), _, _, rfl, Int.emod_nonneg _ (by decide), nofun⟩⟩⟩⟩⟩)))⟩)))))))
    · rintro ρ' ⟨st, x, rfl, h0, nx⟩
      refine wpS_retN (wpN_lst (wpA_cons (wpN.E (wpN_rev (wpN.L (wpN_lcS tg_name (by decide) (noOwn1 rfl nx) (wpI_list (wpE_var rfl ⟨_, rfl, by rw [map_len]; omega, Int, cs, .int, fun c => decide (1000000000000000000 ≤ c), .int, ⟨map_len, fun i => List.getElem?_map ..⟩, fun j c hc => ⟨_, rfl, wpT_test (wpE_op opD_B0 (wpE_var rfl (wpE_op opD_I (wpE_int (wpE_int ⟨_, _, rfl, rfl, ⟨by decide, by decide, by decide⟩, _, _, rfl, rfl, _, rfl, rfl, fun _ => wpE_var rfl rfl⟩)))))⟩, wpA_cons (wpE_var rfl (wpA_nil ⟨[_, _], rfl, le_ rfl, (cs.filter fun c => decide (1000000000000000000 ≤ c)).reverse, st, ?_, ?_, h0, ?_⟩))⟩))))))))
      · rw [List.map_reverse]
      · intro x hx
        exact pos x (List.mem_filter.mp (List.mem_reverse.mp hx)).1
      · have := List.length_filter_le (fun c : Int => decide (1000000000000000000 ≤ c)) cs
        rw [List.length_reverse]; omega
  · exact fun _ _ _ _ _ _ z => z.elim
  · rintro v H' r ⟨f, s', m⟩ ⟨cells, st, rfl, h1, h2, h3⟩
    obtain ⟨p, vs, rfl, e, rl, np, ow⟩ := m
    cases rl with
    | cons r1 rl =>
      cases rl with
      | cons r2 rl =>
        cases rl
        cases r2
        cases r1 with
        | @lst c ws _ hc nc rc =>
          rw [rc.ints] at hc
          refine q p c H' (ow.elim (fun z => absurd z (no_own rfl)) id) (fun b u h n => f b u h fun z => z.elim (fun z => n z.1) fun z => absurd z (no_own rfl)) ⟨cells, st, e, hc, h1, h2, h3⟩
  · exact fun _ _ _ _ _ _ z => z.elim
  · exact fun _ _ _ _ _ _ z => z.elim
end

end K42
/-! text P28 -/
set_option Elab.async false
set_option linter.all false
set_option maxRecDepth 100000
set_option maxHeartbeats 4000000
namespace K42
open PySem PySem.Spec PyProof.Rows L2

/-! The law's bad times and bad batches. -/
section
variable {P : Program} {w : World} {K : PySem.W.Frag} {mg : Str → Option Value} {base : Heap}
/-- batches that are refused -/
def BadB (d : PD) : Prop := noTab d ∧ (∀ xs, d = .tuple xs → ∀ x ∈ xs, noTab x) ∧ areBD d = false
theorem badB_lit {d : PD} (h1 : noTab d) (h2 : ∀ xs, d = .tuple xs → ∀ x ∈ xs, noTab x) (h3 : areBD d = false) : BadB d := ⟨h1, h2, h3⟩
def p_law_bad_batches (ds : List PD) (K : PD → Prop) : Prop := ds = [] ∧ ∀ es : List PD, (∀ d ∈ es, BadB d) → es.length ≤ 10 → K (.list es)
theorem nt_tup {xs : List PD} : noTab (.tuple xs) := nofun
theorem items_nt {xs : List PD} (h : ∀ x ∈ xs, noTab x) : ∀ ys, PyData.tuple xs = .tuple ys → ∀ x ∈ ys, noTab x := fun ys e => by cases e; exact h
abbrev s__law_bad_batches : Stmt := top 68
abbrev N__law_bad_batches : List Str := []
theorem sc__law_bad_batches : FnScope N__law_bad_batches [] (defScope s__law_bad_batches) := ⟨rfl, rfl, rfl, by decide +kernel, rfl, by decide +kernel, by decide +kernel⟩

theorem ok__law_bad_batches (T : Tx mg) (D : Dn K mg "_law_bad_batches" s__law_bad_batches) : Cl P w K mg base 1 "_law_bad_batches" (SpP (p_law_bad_batches)) := by
  have sc := sc__law_bad_batches
  refine cl_pure D sc (fun _ _ _ _ _ _ us hl => match us, hl with | [], _ => rfl) (fun ds K h => by obtain ⟨rfl, _⟩ := h; rfl) fun f cdv A outer s H E hr => ?_
  have hu := hr.units
  refine ⟨_, (pss_one (ps_ret (pe_lst (pa_cons (pe_lst (pa_cons pe_int pa_nil)) (pa_cons (pe_tup (pa_cons pe_int pa_nil)) (pa_cons (pe_tup (pa_cons pe_int pa_nil)) (pa_cons (pe_tup (pa_cons pe_bl pa_nil)) (pa_cons (pe_op (op_repA (F := K)) (pe_tup (pa_cons pe_int pa_nil)) pe_int) (pa_cons pe_non (pa_cons pe_int (pa_cons pe_str (pa_cons (pe_tup (pa_cons (pe_tup (pa_cons pe_int pa_nil)) pa_nil)) (pa_cons (pe_tup (pa_cons pe_int (pa_cons (pe_op op_sub pe_int pe_int) pa_nil))) pa_nil))))))))))))), ?_⟩
  rintro ds K' ⟨rfl, k⟩
  show wpS Gm.pure _ [] _
  refine wpS_retN (wpN_lst (wpA_cons (wpN.E (wpN_lst (wpA_cons (wpE_int (wpA_nil ⟨[_], rfl, le_ rfl, wpA_cons (wpE_tup (wpA_cons (wpE_int (wpA_nil ⟨[_], rfl, le_ rfl, wpA_cons (wpE_tup (wpA_cons (wpE_int (wpA_nil ⟨[_], rfl, le_ rfl, wpA_cons (wpE_tup (wpA_cons (wpE_bl (wpA_nil ⟨[_], rfl, le_ rfl, wpA_cons (wpE_op opD_repA (wpE_tup (wpA_cons (wpE_int (wpA_nil ⟨[_], rfl, le_ rfl, wpE_int ⟨_, 61, rfl, rfl, by simp, by decide, by decide, le_ rfl, wpA_cons (wpE_non (wpA_cons (wpE_int (wpA_cons (wpE_str ?_)))))⟩⟩)))))⟩))))⟩))))⟩))))⟩)))))))
  refine wpA_cons (wpE_tup (wpA_cons (wpE_tup (wpA_cons (wpE_int (wpA_nil ⟨[_], rfl, le_ rfl, wpA_nil ⟨[_], rfl, le_ rfl, wpA_cons (wpE_tup (wpA_cons (wpE_int (wpA_cons (wpE_op opD_I0 (wpE_int (wpE_int ⟨_, _, rfl, rfl, wpA_nil ⟨[_, _], rfl, le_ rfl, wpA_nil ⟨[_, _, _, _, _, _, _, _, _, _], rfl, le_ rfl, ?_⟩⟩⟩)))))))⟩⟩))))))
  refine k _ (fun d hd => ?_) (le_ rfl)
  have e61 : (List.replicate (Int.toNat 61) [PyData.int 1]).flatten = (List.replicate 61 1).map en := one_rep 61
  rw [e61] at hd
  simp only [List.mem_cons, List.not_mem_nil, or_false] at hd
  rcases hd with rfl | rfl | rfl | rfl | rfl | rfl | rfl | rfl | rfl | rfl
  · exact ⟨nofun, nofun, rfl⟩
  · exact ⟨nofun, items_nt (by intro x hx; rw [List.mem_singleton.mp hx]; exact nofun), by decide⟩
  · exact ⟨nofun, items_nt (by intro x hx; rw [List.mem_singleton.mp hx]; exact nofun), by decide⟩
  · exact ⟨nofun, items_nt (by intro x hx; rw [List.mem_singleton.mp hx]; exact nofun), by decide⟩
  · exact ⟨nofun, items_nt (by intro x hx; obtain ⟨y, _, rfl⟩ := List.mem_map.mp hx; exact nofun), by
      have e : areBD (.tuple ((List.replicate 61 1).map en)) = (decide (((List.replicate 61 1).map en).length ≤ 60) && ((List.replicate 61 1).map en).all isBatchD) := rfl
      rw [e, List.length_map, List.length_replicate]; rfl⟩
  · exact ⟨nofun, nofun, rfl⟩
  · exact ⟨nofun, nofun, rfl⟩
  · exact ⟨nofun, nofun, rfl⟩
  · exact ⟨nofun, items_nt (by intro x hx; rw [List.mem_singleton.mp hx]; exact nofun), by decide⟩
  · exact ⟨nofun, items_nt (by intro x hx; simp only [List.mem_cons, List.not_mem_nil, or_false] at hx; rcases hx with rfl | rfl <;> exact nofun), by decide⟩
/-- times that are refused, at the place -/
def BadT (n : Nat) (d : PD) (z : Int) : Prop := noTab d ∧ ((z = -1 ∧ ∀ ds, d = .tuple ds → ds.length ≠ n) ∨
  ∃ (ds : List PD) (k : Nat) (x : PD), d = .tuple ds ∧ ds.length = n ∧ ds[k]? = some x ∧ z = k ∧ isNon x = false ∧ isTimeD x = false ∧ (∀ y ∈ ds, noTab y) ∧ ∀ i, i < k → ds[i]? = some .none)
abbrev encBT (p : PD × Int) : PD := .tuple [p.1, .int p.2]
def p_law_bad_times (ds : List PD) (K : PD → Prop) : Prop := ∃ n : Nat, ds = [en n] ∧ 1 ≤ n ∧ n ≤ 12 ∧ ∀ ps : List (PD × Int), (∀ p ∈ ps, BadT n p.1 p.2) → ps.length ≤ 10 → K (.list (ps.map encBT))
def nones (k : Nat) : List PD := List.replicate k .none
theorem nones_rep (k : Nat) : (List.replicate k [PyData.none]).flatten = nones k := by
  induction k with
  | zero => rfl
  | succ k ih => rw [List.replicate_succ, List.flatten_cons, ih]; rfl
theorem nones_cut1 {n : Nat} : cutD (nones n) (some 1) none = nones (n - 1) := by
  cases n with
  | zero => rfl
  | succ n => exact cut_1 _ _
theorem nones_cut2 {n : Nat} : cutD (nones n) (some 2) none = nones (n - 2) := by
  unfold cutD nones
  have a1 : HT.sIx (List.replicate n PyData.none).length 0 (some 2) = min 2 n := by
    rw [List.length_replicate]
    simp only [HT.sIx]
    rw [if_neg (by decide)]; rfl
  have a2 : HT.sIx (List.replicate n PyData.none).length (List.replicate n PyData.none).length none = n := by simp [HT.sIx]
  rw [a1, a2, List.drop_replicate, List.take_replicate]
  congr 1
  omega
theorem nones_get {k i : Nat} (h : i < k) : (nones k)[i]? = some .none := by
  rw [nones, List.getElem?_replicate, if_pos h]
theorem nones_nt {k : Nat} : ∀ y ∈ nones k, noTab y := fun y hy => by rw [List.eq_of_mem_replicate hy]; exact nofun
theorem bad_end {n : Nat} {x : PD} (h1 : 1 ≤ n) (nt : noTab x) (h2 : isNon x = false) (h3 : isTimeD x = false) : BadT n (.tuple (nones (n - 1) ++ [x])) ((n : Int) - 1) := by
  have l : (nones (n - 1)).length = n - 1 := List.length_replicate
  refine ⟨nofun, .inr ⟨_, n - 1, x, rfl, ?_, ?_, by omega, h2, h3, fun y hy => ?_, fun i hi => ?_⟩⟩
  · rw [List.length_append, l]; show n - 1 + 1 = n; omega
  · rw [List.getElem?_append_right (by omega), l, Nat.sub_self]; rfl
  · rcases List.mem_append.mp hy with z | z
    · exact nones_nt y z
    · rw [List.mem_singleton.mp z]; exact nt
  · rw [List.getElem?_append_left (by omega)]; exact nones_get hi
theorem bad_head {n : Nat} {x : PD} {r : List PD} (h1 : r.length + 1 = n) (nt : noTab x) (nr : ∀ y ∈ r, noTab y) (h2 : isNon x = false) (h3 : isTimeD x = false) : BadT n (.tuple (x :: r)) 0 :=
  ⟨nofun, .inr ⟨_, 0, x, rfl, by rw [List.length_cons]; exact h1, rfl, rfl, h2, h3, fun y hy => by
    rcases List.mem_cons.mp hy with z | z
    · rw [z]; exact nt
    · exact nr y z, fun i hi => absurd hi (Nat.not_lt_zero i)⟩⟩
theorem bad_shape {n : Nat} {d : PD} (nt : noTab d) (h : ∀ ds, d = .tuple ds → ds.length ≠ n) : BadT n d (-1) := ⟨nt, .inl ⟨rfl, h⟩⟩
abbrev s__law_bad_times : Stmt := top 66
abbrev N__law_bad_times : List Str := ["_law_many", "_law_none", "_law_found"]
theorem sc__law_bad_times : FnScope N__law_bad_times ["_law_many"] (defScope s__law_bad_times) := ⟨rfl, rfl, rfl, by decide +kernel, rfl, by decide +kernel, by decide +kernel⟩

theorem ok__law_bad_times (T : Tx mg) (D : Dn K mg "_law_bad_times" s__law_bad_times) : Cl P w K mg base 1 "_law_bad_times" (SpP (p_law_bad_times)) := by
  have sc := sc__law_bad_times
  refine cl_pure D sc (fun _ _ _ _ _ _ us hl => match us, hl with | [_], _ => rfl) (fun ds K h => by obtain ⟨_, rfl, _⟩ := h; rfl) fun f cdv A outer s H E hr => ?_
  have hu := hr.units
  refine ⟨_, (pss_cons (ps_set (i := 1) sc.nd rfl (Or.inl rfl) (pe_op (op_repA (F := K)) (pe_tup (pa_cons pe_non pa_nil)) (pv 0)))
    (pss_cons (ps_set (i := 2) sc.nd rfl (Or.inl rfl) (pe_lst (pa_cons (pe_tup (pa_cons (pe_callTy call_list_of (by rfl) T.b_list (by decide +kernel) (pa_cons (pv 1) pa_nil)) (pa_cons (pe_op op_sub pe_int pe_int) pa_nil))) (pa_cons (pe_tup (pa_cons (pe_op op_catA (pv 1) (pe_tup (pa_cons pe_int pa_nil))) (pa_cons (pe_op op_sub pe_int pe_int) pa_nil))) (pa_cons (pe_tup (pa_cons (pe_slice sl_tupA (pv 1) (po_some pe_int) po_none) (pa_cons (pe_op op_sub pe_int pe_int) pa_nil))) (pa_cons (pe_tup (pa_cons pe_non (pa_cons (pe_op op_sub pe_int pe_int) pa_nil))) (pa_cons (pe_tup (pa_cons pe_int (pa_cons (pe_op op_sub pe_int pe_int) pa_nil))) pa_nil)))))))
    (pss_cons (ps_set (i := 2) sc.nd rfl (Or.inl rfl) (pe_op op_cat (pv 2) (pe_lst (pa_cons (pe_tup (pa_cons (pe_op op_catA (pe_slice sl_tupA (pv 1) (po_some pe_int) po_none) (pe_tup (pa_cons pe_bl pa_nil))) (pa_cons (pe_op op_sub (pv 0) pe_int) pa_nil))) (pa_cons (pe_tup (pa_cons (pe_op op_catA (pe_tup (pa_cons pe_str pa_nil)) (pe_slice sl_tupA (pv 1) (po_some pe_int) po_none)) (pa_cons pe_int pa_nil))) (pa_cons (pe_tup (pa_cons (pe_op op_catA (pe_slice sl_tupA (pv 1) (po_some pe_int) po_none) (pe_tup (pa_cons (pe_op op_add (pe_op op_pow pe_int pe_int) pe_int) pa_nil))) (pa_cons (pe_op op_sub (pv 0) pe_int) pa_nil))) pa_nil))))))
    (pss_one (ps_ret (pe_op op_cat (pv 2) (pe_slice sl_list (pe_lst (pa_cons (pe_tup (pa_cons (pe_op op_catA (pe_tup (pa_cons (pe_op op_sub (pe_op op_sub pe_int (pe_op op_pow pe_int pe_int)) pe_int) pa_nil)) (pe_slice sl_tupA (pv 1) (po_some pe_int) po_none)) (pa_cons pe_int pa_nil))) (pa_cons (pe_tup (pa_cons (pe_op op_catA (pe_op op_catA (pe_tup (pa_cons (pe_tup (pa_cons pe_int pa_nil)) pa_nil)) (pe_slice sl_tupA (pv 1) (po_some pe_int) po_none)) (pe_tup (pa_cons pe_bl pa_nil))) (pa_cons pe_int pa_nil))) pa_nil))) po_none (po_some (pe_op op_add pe_int (pe_callTy call_int1 (by rfl) T.b_int (by decide +kernel) (pa_cons (pe_cmpR op_gt (pv 0) pe_int (nomark _)) pa_nil))))))))))), ?_⟩
  rintro ds K' ⟨n, rfl, n1, n12, k⟩
  have ln : ∀ k, (nones k).length = k := fun k => List.length_replicate
  show wpS Gm.pure _ [.dat (en n), .no, .no] _
  refine wpS_seq (wpS_set (wpE_op opD_repA (wpE_tup (wpA_cons (wpE_non (wpA_nil ⟨[_], rfl, le_ rfl, wpE_var rfl ⟨_, _, rfl, rfl, by simp, by omega, by omega, le_ rfl, ?_⟩⟩))))))
  rw [Int.toNat_natCast, nones_rep]
  show wpS Gm.pure _ [.dat (en n), .dat (.tuple (nones n)), .no] _
  have neg1 : PyData.int (0 - 1) = .int (-1) := rfl
  refine wpS_seq (wpS_setN (lt_ rfl) (wpN_lst (wpA_cons (wpE_tup (wpA_cons (wpN.E (wpN_list (wpE.Q (wpE_var rfl ⟨_, rfl, wpA_cons (wpE_op opD_I0 (wpE_int (wpE_int ⟨_, _, rfl, rfl, wpA_nil ⟨[_, _], rfl, le_ rfl, wpA_cons (wpE_tup (wpA_cons (wpE_op opD_catT (wpE_var rfl (wpE_tup (wpA_cons (wpE_int (wpA_nil ⟨[_], rfl, le_ rfl, _, _, rfl, rfl, by rw [ln]; show n + 1 ≤ _; omega, wpA_cons (wpE_op opD_I0 (wpE_int (wpE_int ⟨_, _, rfl, rfl, wpA_nil ⟨[_, _], rfl, le_ rfl, ?_⟩⟩)))⟩))))))))⟩⟩)))⟩)))))))))
  refine wpA_cons (wpE_tup (wpA_cons (wpE_slT (wpE_var rfl ⟨_, rfl, wpO_some (wpE_int ⟨_, rfl, wpO_none (wpA_cons (wpE_op opD_I0 (wpE_int (wpE_int ⟨_, _, rfl, rfl, wpA_nil ⟨[_, _], rfl, le_ rfl, wpA_cons (wpE_tup (wpA_cons (wpE_non (wpA_cons (wpE_op opD_I0 (wpE_int (wpE_int ⟨_, _, rfl, rfl, wpA_nil ⟨[_, _], rfl, le_ rfl, wpA_cons (wpE_tup (wpA_cons (wpE_int (wpA_cons (wpE_op opD_I0 (wpE_int (wpE_int ⟨_, _, rfl, rfl, wpA_nil ⟨[_, _], rfl, le_ rfl, wpA_nil ⟨[_, _, _, _, _], rfl, le_ rfl, ?_⟩⟩⟩)))))))⟩⟩)))))))⟩⟩))))⟩)⟩))))
  rw [nones_cut1]
  have ok1 : ∀ p ∈ [((.list (nones n) : PD), (-1 : Int)), (.tuple (nones n ++ [.int 1]), -1), (.tuple (nones (n - 1)), -1), (.none, -1), (.int 5, -1)], BadT n p.1 p.2 := fun p hp => by
    simp only [List.mem_cons, List.not_mem_nil, or_false] at hp
    rcases hp with rfl | rfl | rfl | rfl | rfl
    · exact bad_shape nofun nofun
    · exact bad_shape nofun fun ds e => by cases e; rw [List.length_append, ln]; show n + 1 ≠ n; omega
    · exact bad_shape nofun fun ds e => by cases e; rw [ln]; omega
    · exact bad_shape nofun nofun
    · exact bad_shape nofun nofun
  show wpS Gm.pure _ [.dat (en n), .dat (.tuple (nones n)), .own ([((.list (nones n) : PD), (-1 : Int)), (.tuple (nones n ++ [.int 1]), -1), (.tuple (nones (n - 1)), -1), (.none, -1), (.int 5, -1)].map encBT)] _
  have l1 : [((.list (nones n) : PD), (-1 : Int)), (.tuple (nones n ++ [.int 1]), -1), (.tuple (nones (n - 1)), -1), (.none, -1), (.int 5, -1)].length = 5 := rfl
  generalize [((.list (nones n) : PD), (-1 : Int)), (.tuple (nones n ++ [.int 1]), -1), (.tuple (nones (n - 1)), -1), (.none, -1), (.int 5, -1)] = p1 at ok1 l1
  refine wpS_seq (wpS_setN (lt_ rfl) (wpN_cat (wpL_var rfl (wpN.L (wpN_lst (wpA_cons (wpE_tup (wpA_cons (wpE_op opD_catT (wpE_slT (wpE_var rfl ⟨_, rfl, wpO_some (wpE_int ⟨_, rfl, wpO_none (wpE_tup (wpA_cons (wpE_bl (wpA_nil ⟨[_], rfl, le_ rfl, _, _, rfl, rfl, ?_, wpA_cons (wpE_op opD_I0 (wpE_var rfl (wpE_int ⟨_, _, rfl, rfl, wpA_nil ⟨[_, _], rfl, le_ rfl, ?_⟩⟩)))⟩))))⟩)⟩)))))))))))
  · rw [nones_cut1, ln]; show n - 1 + 1 ≤ _; omega
  refine wpA_cons (wpE_tup (wpA_cons (wpE_op opD_catT (wpE_tup (wpA_cons (wpE_str (wpA_nil ⟨[_], rfl, le_ rfl, wpE_slT (wpE_var rfl ⟨_, rfl, wpO_some (wpE_int ⟨_, rfl, wpO_none ⟨_, _, rfl, rfl, ?_, wpA_cons (wpE_int (wpA_nil ⟨[_, _], rfl, le_ rfl, ?_⟩))⟩⟩)⟩)⟩)))))))
  · rw [nones_cut1, ln]; show 1 + (n - 1) ≤ _; omega
  refine wpA_cons (wpE_tup (wpA_cons (wpE_op opD_catT (wpE_slT (wpE_var rfl ⟨_, rfl, wpO_some (wpE_int ⟨_, rfl, wpO_none (wpE_tup (wpA_cons (wpE_op opD_I0 (wpE_op opD_I (wpE_int (wpE_int ⟨_, _, rfl, rfl, ⟨by decide, by decide, by decide⟩, wpE_int ⟨_, _, rfl, rfl, wpA_nil ⟨[_], rfl, le_ rfl, _, _, rfl, rfl, ?_, wpA_cons (wpE_op opD_I0 (wpE_var rfl (wpE_int ⟨_, _, rfl, rfl, wpA_nil ⟨[_, _], rfl, le_ rfl, wpA_nil ⟨[_, _, _], rfl, le_ rfl, ?_, ?_⟩⟩⟩)))⟩⟩⟩))))))⟩)⟩)))))
  · rw [nones_cut1, ln]; show n - 1 + 1 ≤ _; omega
  · rw [List.length_map]; show p1.length + 3 ≤ _; omega
  rw [nones_cut1]
  have e2 : p1.map encBT ++ [.tuple [.tuple (nones (n - 1) ++ [.bool true]), .int ((n : Int) - 1)], .tuple [.tuple ([.str "1"] ++ nones (n - 1)), .int 0], .tuple [.tuple (nones (n - 1) ++ [.int (10 ^ (9 : Int).toNat + 1)]), .int ((n : Int) - 1)]] =
      (p1 ++ [((.tuple (nones (n - 1) ++ [.bool true]) : PD), (n : Int) - 1), (.tuple (.str "1" :: nones (n - 1)), 0), (.tuple (nones (n - 1) ++ [.int (10 ^ (9 : Int).toNat + 1)]), (n : Int) - 1)]).map encBT := by rw [List.map_append]; rfl
  show wpS Gm.pure _ [.dat (en n), .dat (.tuple (nones n)), .own (p1.map encBT ++ [.tuple [.tuple (nones (n - 1) ++ [.bool true]), .int ((n : Int) - 1)], .tuple [.tuple ([.str "1"] ++ nones (n - 1)), .int 0], .tuple [.tuple (nones (n - 1) ++ [.int (10 ^ (9 : Int).toNat + 1)]), .int ((n : Int) - 1)]])] _
  rw [e2]
  have ok2 : ∀ p ∈ p1 ++ [((.tuple (nones (n - 1) ++ [.bool true]) : PD), (n : Int) - 1), (.tuple (.str "1" :: nones (n - 1)), 0), (.tuple (nones (n - 1) ++ [.int (10 ^ (9 : Int).toNat + 1)]), (n : Int) - 1)], BadT n p.1 p.2 := fun p hp => by
    rcases List.mem_append.mp hp with z | z
    · exact ok1 p z
    · simp only [List.mem_cons, List.not_mem_nil, or_false] at z
      rcases z with rfl | rfl | rfl
      · exact bad_end n1 nofun rfl rfl
      · exact bad_head (by rw [ln]; omega) nofun nones_nt rfl rfl
      · exact bad_end n1 nofun rfl (by decide)
  have l2 : (p1 ++ [((.tuple (nones (n - 1) ++ [.bool true]) : PD), (n : Int) - 1), (.tuple (.str "1" :: nones (n - 1)), 0), (.tuple (nones (n - 1) ++ [.int (10 ^ (9 : Int).toNat + 1)]), (n : Int) - 1)]).length = 8 := by rw [List.length_append, l1]; rfl
  generalize p1 ++ [((.tuple (nones (n - 1) ++ [.bool true]) : PD), (n : Int) - 1), (.tuple (.str "1" :: nones (n - 1)), 0), (.tuple (nones (n - 1) ++ [.int (10 ^ (9 : Int).toNat + 1)]), (n : Int) - 1)] = p2 at ok2 l2
  refine wpS_retN (wpN_cat (wpL_var rfl (wpN.L (wpN_slL (wpN.L (wpN_lst (wpA_cons (wpE_tup (wpA_cons (wpE_op opD_catT (wpE_tup (wpA_cons (wpE_op opD_I0 (wpE_op opD_I0 (wpE_int (wpE_op opD_I (wpE_int (wpE_int ⟨_, _, rfl, rfl, ⟨by decide, by decide, by decide⟩, _, _, rfl, rfl, wpE_int ⟨_, _, rfl, rfl, wpA_nil ⟨[_], rfl, le_ rfl, wpE_slT (wpE_var rfl ⟨_, rfl, wpO_some (wpE_int ⟨_, rfl, wpO_none ⟨_, _, rfl, rfl, ?_, wpA_cons (wpE_int (wpA_nil ⟨[_, _], rfl, le_ rfl, ?_⟩))⟩⟩)⟩)⟩⟩⟩))))))))))))))))))
  · rw [nones_cut1, ln]; show 1 + (n - 1) ≤ _; omega
  refine wpA_cons (wpE_tup (wpA_cons (wpE_op opD_catT (wpE_op opD_catT (wpE_tup (wpA_cons (wpE_tup (wpA_cons (wpE_int (wpA_nil ⟨[_], rfl, le_ rfl, wpA_nil ⟨[_], rfl, le_ rfl, wpE_slT (wpE_var rfl ⟨_, rfl, wpO_some (wpE_int ⟨_, rfl, wpO_none ⟨_, _, rfl, rfl, ?_, wpE_tup (wpA_cons (wpE_bl (wpA_nil ⟨[_], rfl, le_ rfl, _, _, rfl, rfl, ?_, wpA_cons (wpE_int (wpA_nil ⟨[_, _], rfl, le_ rfl, wpA_nil ⟨[_, _], rfl, le_ rfl, ?_⟩⟩))⟩)))⟩⟩)⟩)⟩⟩))))))))))
  · rw [nones_cut2, ln]; show 1 + (n - 2) ≤ _; omega
  · rw [nones_cut2, List.length_append, ln]; show 1 + (n - 2) + 1 ≤ _; omega
  rw [nones_cut1, nones_cut2]
  refine wpO_none (wpO_some (wpE_op opD_I0 (wpE_int (wpE_int1 (wpE_op opD_B0 (wpE_var rfl (wpE_int ⟨_, _, rfl, rfl, .inr ⟨_, rfl, _, _, rfl, rfl, _, rfl, ?_, ?_⟩⟩)))))))
  · rw [List.length_map]
    unfold cutD
    rw [List.length_take, List.length_drop]
    show p2.length + min _ (2 - _) ≤ _
    omega
  have h1 : BadT n (.tuple (.int (0 - 10 ^ (9 : Int).toNat - 1) :: nones (n - 1))) 0 := bad_head (by rw [ln]; omega) nofun nones_nt rfl (by decide)
  by_cases hn : (1 : Int) < (n : Int)
  · have h2 : BadT n (.tuple (.tuple [.int 1] :: (nones (n - 2) ++ [.bool false]))) 0 := bad_head (by rw [List.length_append, ln]; show n - 2 + 1 + 1 = n; omega) nofun (fun y hy => by
      rcases List.mem_append.mp hy with z | z
      · exact nones_nt y z
      · rw [List.mem_singleton.mp z]; exact nofun) rfl rfl
    have := k (p2 ++ [(.tuple (.int (0 - 10 ^ (9 : Int).toNat - 1) :: nones (n - 1)), 0), (.tuple (.tuple [.int 1] :: (nones (n - 2) ++ [.bool false])), 0)]) (fun p hp => by
      rcases List.mem_append.mp hp with z | z
      · exact ok2 p z
      · simp only [List.mem_cons, List.not_mem_nil, or_false] at z
        rcases z with rfl | rfl
        · exact h1
        · exact h2) (by rw [List.length_append, l2]; exact Nat.le_refl _)
    rw [List.map_append] at this
    rw [show decide ((1 : Int) < (n : Int)) = true from decide_eq_true hn]
    exact this
  · have := k (p2 ++ [(.tuple (.int (0 - 10 ^ (9 : Int).toNat - 1) :: nones (n - 1)), 0)]) (fun p hp => by
      rcases List.mem_append.mp hp with z | z
      · exact ok2 p z
      · rw [List.mem_singleton.mp z]; exact h1) (by rw [List.length_append, l2]; show 9 ≤ 10; decide)
    rw [List.map_append] at this
    rw [show decide ((1 : Int) < (n : Int)) = false from decide_eq_false hn]
    exact this
end

end K42
/-! text RuSup -/
set_option Elab.async false
set_option linter.all false
set_option maxRecDepth 100000
set_option maxHeartbeats 2000000
/-! An own exception class over an own base over ValueError: __init__ says super().__init__(x), then self.f = x. -/
namespace K42
open PySem PySem.Spec PyProof.Rows L2
/-- what is asked of the class at C, its __init__ at fI with the cell at cc -/
structure SupI (P : Program) (K : PySem.W.Frag) (mg : Str → Option Value) (C fI cc cda : Addr) (fd : FuncData) : Prop where
  T : OexC K C
  lk : ∃ oc od osl, K.lookup fI = some ⟨oc, od, .func fd, osl⟩
  cd : PySem.W.codeIn K (.ref cda) fd.qualname = true
  file : ∃ ccl cdd vs ccs file tf, K.lookup cda = some ⟨ccl, cdd, .fields vs, ccs⟩ ∧ vs[2]? = some (.str file tf) ∧ ((P.main.file : Str) == file) = true
  cell : ∃ cl cld csl, K.lookup cc = some ⟨cl, cld, .cell (some (.ref C)), csl⟩
  opq : PySem.W.nsIn K cStatics "thirdparty.any" = some none
  along : PySem.W.ks_superIn K C C "__init__" = some (some (.builtin "ValueError.__init__"))
  ve : PySem.W.subIn K (.ref C) (.type "ValueError") = some true
  sub : PySem.W.mroIn K C (.ref C) = some true
  top : (P.main.scope.names.lookup ("super" : Str)).isSome = false
  mgs : mg "super" = none
/-- the names of such an __init__ -/
structure SupS (scope : Scope) (x : Str) : Prop where
  kind : scope.kind = .function
  co : scope.isCoroutine = false
  gen : scope.isGenerator = false
  nocell : ∀ y ∈ scope.names, y.2 ≠ .cell
  frees : ∀ y, scope.names.lookup y = some .free → y = "__class__"
  su : scope.names.lookup ("super" : Str) = some .globalImplicit
  cl : scope.names.lookup ("__class__" : Str) = some .free
  se : scope.names.lookup ("self" : Str) = some .local
  lx : scope.names.lookup x = some .local
  nx : x ≠ "self"
  d1 : (x == ("__debug__" : Str)) = false
  d2 : (x == ("__classdict__" : Str)) = false
def SpSup (K : PySem.W.Frag) (C : Addr) (f : Str) : Sp := fun vs H Q _ => ∃ (a : Addr) (v : V), vs = [.ref a, v] ∧ H a = some (exo a C none) ∧ ∀ dx, H dx = none → dx ≠ a → Q .non (upd (upd H dx (exd dx [(f, v)])) a (exo a C (some dx)))
section
variable {P : Program} {w : World} {K : PySem.W.Frag} {mg : Str → Option Value} {base : Heap} {C fI cc cda : Addr} {x fld qual : Str} {params : Arguments} {scope : Scope} {dV kV doc pm ct : Value} {an : Option Addr} {p0 p1 p2 p3 p4 p5 p6 p7 p8 p9 : Pos} {k : Nat}
abbrev supBody (x fld : Str) (p0 p1 p2 p3 p4 p5 p6 p7 p8 p9 : Pos) : List Stmt := [.Expr (.Call (.Attribute (.Call (.Name "super" p0) [] [] p1) "__init__" p2) [.Name x p3] [] p4) p5, .Assign [.Attribute (.Name "self" p6) fld p7] (.Name x p8) p9]
abbrev supFd (qual : Str) (params : Arguments) (body : List Stmt) (scope : Scope) (dV kV doc pm : Value) (an : Option Addr) (ct : Value) (cda cc : Addr) : FuncData := PySem.W.ksFn "__init__" qual params body scope dV kV doc pm an (.ref cda) ct cc
def supCx (P : Program) (w : World) (K : PySem.W.Frag) (mg : Str → Option Value) (base : Heap) (N : List Str) (env : Env) (A : Around) (outer : List Env) (s : Shared) (H : Hp) (xe : Value → Shared → Prop) : Cx where
  prog := P
  w := w
  K := K
  mg := mg
  base := base
  A := A.deeper env
  N := N
  s_0 := s
  H_0 := H
  env := env
  outer := outer
  stack := env :: outer
  ex := []
  calm := true
  fn := fun _ => false
  pn := []
  xe := xe
theorem sup_ok (S : SupI P K mg C fI cc cda (supFd qual params (supBody x fld p0 p1 p2 p3 p4 p5 p6 p7 p8 p9) scope dV kV doc pm an ct cda cc)) (L : SupS scope x) (hp : (params.posonlyargs ++ params.args).head?.map (·.arg) = some "self") (hno : PySem.W.findIn K (.ref C) fld = some none)
    (pl : Env → Sem Bool) (hc : ∀ env, eval (.Call (.Attribute (.Call (.Name "super" p0) [] [] p1) "__init__" p2) [.Name x p3] [] p4) env = (do
      let ov ← attributeBase (.Call (.Name "super" p0) [] [] p1) "__init__" env (eval (.Call (.Name "super" p0) [] [] p1) env)
      standAt p2.atName
      let (f, first) ← holding [ov] (getMethod ov "__init__" (pl env))
      callWith p4 f first (backTo p4 (starEach [.Name x p3] env)) [])) (hs : ∀ env, swapsWith (.Call (.Attribute (.Call (.Name "super" p0) [] [] p1) "__init__" p2) [.Name x p3] [] p4) none p5.line env = pure false)
    (hs2 : ∀ env, swapsWith (.Name x p8) (some (.Attribute (.Name "self" p6) fld p7)) p9.line env = pure false) :
    FnOk P w K mg base CX0 (k + 1) fI (supFd qual params (supBody x fld p0 p1 p2 p3 p4 p5 p6 p7 p8 p9) scope dV kV doc pm an ct cda cc) ["self", x] (SpSup K C fld) := by
  refine ⟨fun vs H Q E ⟨a, v, e, _⟩ => by rw [e]; rfl, fun A outer s H args us vs Q E hr e0 hb r hsp => ?_⟩
  obtain ⟨a, v, rfl, ea, q⟩ := hsp
  obtain ⟨u, rfl, rv⟩ : ∃ u, us = [.ref a, u] ∧ RelV v u := by
    cases r with
    | cons r1 r =>
      cases r with
      | cons r2 r =>
        cases r
        obtain rfl : _ = Value.ref a := r1
        exact ⟨_, rfl, r2⟩
  obtain ⟨oc, od, osl, lk⟩ := S.lk
  obtain ⟨ccl, cdd, cvs, ccs, file, tf, hcode, hvs, hfile⟩ := S.file
  obtain ⟨cl, cld, csl, hcell⟩ := S.cell
  have KX : K.In s.heap := e0.mod.kin.keeps fun b o e => (e0.bs b o e).1
  have lim : s.heap.NoLimit := e0.mod.nolimit.keeps fun b o e => (e0.bs b o e).1
  have ccN : H cc = none := (e0.bs cc _ (e0.mod.kin _ _ hcell)).2
  refine PySem.ks_codeAny_call_defAt (binds := (["self", x] : List Str).zip [.ref a, u]) hr.depth (KX _ _ lk) rfl lim (PySem.W.codeRec_of KX S.cd) rfl hb L.nocell (fun y hy => ?_) (fun h₀ hns kp => ?_) L.co L.gen L.kind
  · rcases List.mem_cons.mp hy with rfl | hy
    · exact L.se
    · rcases List.mem_cons.mp hy with rfl | hy
      · exact L.lx
      · cases hy
  have hx0 : (params.posonlyargs ++ params.args).head? ≠ none := fun z => by rw [z] at hp; cases hp
  obtain ⟨ar, har, earg⟩ : ∃ ar, (params.posonlyargs ++ params.args).head? = some ar ∧ ar.arg = "self" := by
    cases q : (params.posonlyargs ++ params.args).head? with
    | none => exact absurd q hx0
    | some ar => rw [q] at hp; exact ⟨ar, rfl, Option.some.inj hp⟩
  have m0 : (fun y => ((["self", x] : List Str).zip [Value.ref a, u]).reverse.lookup y) "self" = some (.ref a) := by
    show List.lookup ("self" : Str) ([(x, u), ("self", Value.ref a)] : List (Str × Value)) = _
    rw [List.lookup, show (("self" : Str) == x) = false from by simpa using fun z => L.nx z.symm]; rfl
  have m1 : (fun y => ((["self", x] : List Str).zip [Value.ref a, u]).reverse.lookup y) x = some u := by
    show List.lookup x ([(x, u), ("self", Value.ref a)] : List (Str × Value)) = _
    rw [List.lookup, beq_self_eq_true]
  generalize (fun y => ((["self", x] : List Str).zip [Value.ref a, u]).reverse.lookup y) = m at hns m0 m1
  generalize (s.toks + ((["self", x] : List Str).zip [Value.ref a, u]).length) = tk0
  obtain ⟨env, he⟩ : ∃ env, env = PySem.W.ksEnv qual scope s.heap.objs.size fI (.ref cda) cc := ⟨_, rfl⟩
  obtain ⟨Xc, hX⟩ : ∃ Xc, Xc = supCx P w K mg base ["self", x] env A outer s H (fun e s' => wpAny (model P w) (A.deeper env) (leaving env e) (fun _ s'' => CX0 outer H s E e s'') (fun e' s'' => CX0 outer H s E e' s'') s') := ⟨_, rfl⟩
  have I0 : Inv Xc [] (L2.start ["self", x] [.ref a, v]) H { s with heap := h₀, toks := tk0 } := by
    subst hX he
    refine ⟨⟨e0.mod, L.kind, rfl, rfl, Nat.le_refl _, fun y z c e1 e2 => ?_, fun y hy => ?_, fun y c z _ => (by cases z), fun _ => hr.hd, Around.frames_deeper e0.frames, .inr ⟨rfl, rfl⟩, fun b z => (by cases z), e0.bs, e0.bsz, fun b _ _ z => (by cases z), fun b z => (by cases z), e0.funs, e0.frf⟩,
      rfl, e0.bare, Un.kept kp, ⟨_, hns, fun i y v' e1 e2 e3 => ?_⟩, fun y c e => ?_, e0.hok.fresh (Nat.le_refl _), fun y c e => ?_, fun q hq => (by cases hq), e0.hok.kept kp, rfl⟩
    · have cc1 : ∀ y c, (PySem.W.ksEnv qual scope s.heap.objs.size fI (.ref cda) cc).cells.lookup y = some c → y = "__class__" := fun y c e => by
        have e : List.lookup y ([("__class__", cc)] : List (Str × Addr)) = some c := e
        rw [List.lookup] at e
        split at e
        · next h => exact of_decide_eq_true h
        · cases e
      rw [cc1 _ _ e1, cc1 _ _ e2]
    · have hy : scope.names.lookup y = some .cell ∨ scope.names.lookup y = some .free := hy
      rcases hy with hy | hy
      · exact absurd rfl (L.nocell _ (PySem.mem_of_lookup hy))
      · rw [L.frees y hy]
        exact ⟨cc, rfl⟩
    · match i with
      | 0 => cases e1; cases e2; exact ⟨_, rfl, .inl ⟨L.se, m0⟩⟩
      | 1 => cases e1; cases e2; exact ⟨_, rv, .inl ⟨L.lx, m1⟩⟩
      | i + 2 => cases e1
    · have e : List.lookup y ([("__class__", cc)] : List (Str × Addr)) = some c := e
      rw [List.lookup] at e
      split at e
      · cases e; exact ⟨_, _, kp _ _ (KX _ _ hcell), rfl⟩
      · cases e
    · have e : List.lookup y ([("__class__", cc)] : List (Str × Addr)) = some c := e
      rw [List.lookup] at e
      split at e
      · cases e; exact ccN
      · cases e
  subst he
  have I0' := I0
  subst hX
  obtain ⟨t1, hx⟩ := exo_at I0.hok ea
  obtain ⟨nm, q', N', bs, bm, sn, sub, ab, col, dd, k0, k1, k2, k3, k5, hC, hbm⟩ := S.T.cls
  have hcl : PySem.W.clsIn K C = some { name := nm, bases := bs, mro := .ref C :: bm, ns := N', qualname := q', hasDict := true, slotNames := sn, subclasses := sub, abstract := ab, collection := col, hasDel := false } := by unfold PySem.W.clsIn; rw [hC] <;> rfl
  have X0 : K.In h₀ := I0.kIn
  have inter := I0.quiet
  obtain ⟨mb, b1, b2⟩ := I0.mod.blt
  refine PySem.ks_wpAt_execs_cons (PySem.ks_wpAt_Expr_any (PySem.ks_wpAt_MethodCall (PySem.ks_wpAt_super_base (f := fI) (cc := cda) L.su L.cl rfl rfl (X0 _ _ lk) rfl har rfl (X0 _ _ hcode) rfl hvs hfile S.top ?_) (hc _)) inter (hs _))
  have hbs : mb "super" = some (.type "super") := (b2 "super" (by decide)).trans (by rfl)
  refine PySem.W.ks_loadName_global L.kind L.su (Calls.loadGlobal_builtin (I0.mod.glob.keeps I0.bk) S.mgs (b1.keeps I0.bk) hbs ⟨rfl, ?_⟩)
  refine wpAny_loadName_free L.kind L.cl rfl ⟨_, X0 _ _ hcell, rfl⟩ ?_
  rw [earg]
  refine wpAny_loadName_local L.kind L.se hns m0 ?_
  obtain ⟨oD, hD1, hD2⟩ : ∃ oD, h₀.get? C = some oD ∧ oD.data = .cls { name := nm, bases := bs, mro := .ref C :: bm, ns := N', qualname := q', hasDict := true, slotNames := sn, subclasses := sub, abstract := ab, collection := col, hasDel := false } := ⟨_, X0 _ _ hC, rfl⟩
  refine PySem.ks_wpAny_isType_cls hD1 hD2 ⟨rfl, ?_⟩
  refine PySem.ks_wpAny_call_super hD1 hD2 hx rfl (fun c e => by cases e) (PySem.W.looks_mroIn X0 S.sub) (fun h1 e1 k1 => ?_)
  have I1 := I0.kept (t' := tk0) k1
  have X1 : K.In h1 := I1.kIn
  have hx1 := k1 _ _ hx
  have inst : PySem.W.InstAt h1 a ({ cls := .ref C, dict := none, data := .fields #[.ref t1, .none, .none, .none, .bool false, .none] } : Obj) C none := ⟨hx1, rfl, rfl, trivial⟩
  have hI : PySem.W.Looks (model P w) h1 (isInstance (.ref a) (.type "ValueError")) true := inst.type.andThen (PySem.W.looks_subIn X1 S.ve)
  have al := S.along
  unfold PySem.W.ks_superIn at al
  rw [hcl] at al
  refine PySem.W.kxs_getMethod PySem.W.kxs_ValueError e1 (PySem.W.looks_opaque X1 S.opq) (l₀ := .ref C :: bm) (fun A Q E s k q => wpAny_bind ((PySem.W.looks_clsIn X1 hcl) A _ E s k (wpAny_pure q))) rfl X1 al hI (PySem.W.ks_ne X1 inst hcl) (by decide) ?_
  have I2 := I1.kept (t' := tk0 + 1) (h' := h1.push (PySem.W.kxs_mw "ValueError.__init__" a)) (fun b o e => Heap.get?_push_of_some _ e)
  have hu2 : (h1.push (PySem.W.kxs_mw "ValueError.__init__" a)).get? h1.objs.size = some (PySem.W.kxs_mw "ValueError.__init__" a) := Heap.get?_push_at rfl rfl
  have hu0 : H h1.objs.size = none := I1.hok.fresh (Nat.le_refl _)
  have I3 := I2.pins_of (pins' := [(h1.objs.size, PySem.W.kxs_mw "ValueError.__init__" a)]) (fun p hp => by
    rcases List.mem_singleton.mp hp with rfl
    refine ⟨hu2, hu0, fun z => ?_, I1.nofs (Nat.le_refl _), fun v z => by cases z⟩
    have := I1.lt
    rw [← z] at this
    exact absurd this (Nat.lt_irrefl _))
  refine PySem.W.kxs_callWith (i := "ValueError.__init__") (x := a) (by rfl) ?_
  have ev : PE (supCx P w K mg base ["self", x] (PySem.W.ksEnv qual scope s.heap.objs.size fI (.ref cda) cc) A outer s H (fun e s' => wpAny (model P w) (A.deeper (PySem.W.ksEnv qual scope s.heap.objs.size fI (.ref cda) cc)) (leaving (PySem.W.ksEnv qual scope s.heap.objs.size fI (.ref cda) cc) e) (fun _ s'' => CX0 outer H s E e s'') (fun e' s'' => CX0 outer H s E e' s'') s')) (.Name x p3) (tVar 1) := pe_var rfl (.inl L.lx) L.d1 L.d2
  have pa := (pa_cons ev pa_nil).run p4 _ _ (L2.start ["self", x] [.ref a, v]) H (fun vs H1 => vs = [v] ∧ H1 = H) I3 ⟨v, rfl, rfl, rfl⟩
  refine Calls.evalArgs_plain (thn pa fun us s4 ⟨vs, H4, I4, r4, q4⟩ => ?_)
  obtain ⟨rfl, e4⟩ := q4
  rw [e4] at I4
  obtain ⟨u4, rfl, ru4⟩ : ∃ u, us = [u] ∧ RelV v u := by
    cases r4 with
    | cons r1 r =>
      cases r
      exact ⟨_, rfl, r1⟩
  obtain ⟨hu4, _⟩ := I4.pin _ (List.mem_append_right _ (List.mem_singleton.mpr rfl))
  refine ⟨hu4, ?_⟩
  obtain ⟨t4, he4⟩ := exo_at I4.hok ea
  have fin : ∀ (h' : Heap) (t' : Addr), (∀ b o, b ≠ a → s4.heap.get? b = some o → h'.get? b = some o) → h'.get? a = some ({ cls := .ref C, dict := none, data := .fields #[.ref t', .none, .none, .none, .bool false, .none] } : Obj) →
      Inv (supCx P w K mg base ["self", x] (PySem.W.ksEnv qual scope s.heap.objs.size fI (.ref cda) cc) A outer s H (fun e s' => wpAny (model P w) (A.deeper (PySem.W.ksEnv qual scope s.heap.objs.size fI (.ref cda) cc)) (leaving (PySem.W.ksEnv qual scope s.heap.objs.size fI (.ref cda) cc) e) (fun _ s'' => CX0 outer H s E e s'') (fun e' s'' => CX0 outer H s E e' s'') s')) [] (L2.start ["self", x] [.ref a, v]) H { s4 with heap := h' } := fun h' t' k hx => by
    have I5 : Inv (supCx P w K mg base ["self", x] (PySem.W.ksEnv qual scope s.heap.objs.size fI (.ref cda) cc) A outer s H (fun e s' => wpAny (model P w) (A.deeper (PySem.W.ksEnv qual scope s.heap.objs.size fI (.ref cda) cc)) (leaving (PySem.W.ksEnv qual scope s.heap.objs.size fI (.ref cda) cc) e) (fun _ s'' => CX0 outer H s E e s'') (fun e' s'' => CX0 outer H s E e' s'') s')) [] (L2.start ["self", x] [.ref a, v]) H s4 := I4.pins_of (fun p hp => (by cases hp))
    have J := I5.write (t' := s4.toks) (x := a) (e := a) (o := exo a C none) (by rw [ea]; exact True.intro) (.inl rfl) k ⟨_, hx⟩ (exo_ok hx)
    have eu : upd H a (exo a C none) = H := by
      funext b
      by_cases hb : b = a
      · rw [hb, upd_same, ea]
      · rw [upd_ne hb]
    rw [eu] at J
    exact J
  refine wpAny_call (codeAny_of_tree ?_)
  show wpAny _ _ (callAny (.ref h1.objs.size) ⟨[u4], []⟩) _ _ _
  simp only [callAny]
  refine wpAny_bind (wpAny_load hu4 ?_)
  simp only [PySem.W.kxs_mw, show (Value.type "method-wrapper" == Value.type "method" || Value.type "method-wrapper" == Value.type "builtin_function_or_method" || Value.type "method-wrapper" == Value.type "method-wrapper") = true by decide, if_true]
  refine PySem.W.KFB.if_so (by decide) ?_
  obtain ⟨hp4, g4, d4, tk4, os4⟩ := s4
  refine wpAny_bind (PySem.W.check_bound_init F.excBase_ValueError.toExcCallFacts (I4.kIn _ _ hC) he4 rfl ?_)
  refine wpAny_bind (wpAny_pure (wpAny_pure ?_))
  refine ⟨plainId_quiet F.excBase_ValueError.init.plain _, codeAny_builtin F.excBase_ValueError.initEntry ?_⟩
  refine PySem.W.exc_init_tree (cls := .ref C) (t0 := t4) (dv := none) (c2 := .none) (c3 := .none) (b4 := .bool false) he4 (by show 1 ≤ sizeLine; rw [sizeLine_eq]; omega) fun h5 k5 hx5 _ => ?_
  have I6 := fin h5 _ k5 hx5
  have ev2 : PE (supCx P w K mg base ["self", x] (PySem.W.ksEnv qual scope s.heap.objs.size fI (.ref cda) cc) A outer s H (fun e s' => wpAny (model P w) (A.deeper (PySem.W.ksEnv qual scope s.heap.objs.size fI (.ref cda) cc)) (leaving (PySem.W.ksEnv qual scope s.heap.objs.size fI (.ref cda) cc) e) (fun _ s'' => CX0 outer H s E e s'') (fun e' s'' => CX0 outer H s E e' s'') s')) (.Name x p8) (tVar 1) := pe_var rfl (.inl L.lx) L.d1 L.d2
  have es2 : PE (supCx P w K mg base ["self", x] (PySem.W.ksEnv qual scope s.heap.objs.size fI (.ref cda) cc) A outer s H (fun e s' => wpAny (model P w) (A.deeper (PySem.W.ksEnv qual scope s.heap.objs.size fI (.ref cda) cc)) (leaving (PySem.W.ksEnv qual scope s.heap.objs.size fI (.ref cda) cc) e) (fun _ s'' => CX0 outer H s E e s'') (fun e' s'' => CX0 outer H s E e' s'') s')) (.Name "self" p6) (tVar 0) := pe_var rfl (.inl L.se)
  have st := (pss_one (ps_ost (f := fld) (pos := p9) (p' := p7) es2 ev2 (hs2 _))).run [] _ (L2.start ["self", x] [.ref a, v]) H { nx := fun _ H' => Q .non H', rt := fun _ _ => False } I6
    ⟨v, rfl, .ref a, rfl, a, C, rfl, S.T, hno, .inl ⟨ea, fun dx nd hda => q dx nd hda⟩⟩
  refine wpAt_of_wpAny (wpAny_mono st (fun fl s' out => ?_) fun e s' out => out)
  cases fl with
  | ret u => obtain ⟨v, σ', H', J, rv, q⟩ := out; exact q.elim
  | next => obtain ⟨σ', H', J, q⟩ := out; exact ⟨.non, H', J.os, J.bare, J.base, J.hok, rfl, q⟩
  | brk => obtain ⟨_, _, _, q⟩ := out; exact q.elim
  | cont => obtain ⟨_, _, _, q⟩ := out; exact q.elim
end
end K42
/-! text RuX -/
set_option Elab.async false
set_option linter.all false
set_option maxRecDepth 100000
set_option maxHeartbeats 2000000
/-! Data level with exceptions: promises of calls that raise. -/
namespace K42
open PySem PySem.Spec PyProof.Rows L2
/-- of an exception that leaves: its class, its fields -/
abbrev EK := Value → List (Str × L2.V) → Prop
def SpR (P : List PD → EK → Prop) : Sp := fun vs H _ E => ∃ (A : Addr → Prop) (ds : List PD) (K : EK), (∀ b, A b → H b ≠ none) ∧ RpL A H vs ds ∧ P ds K ∧
  ∀ cls dx fs H', Ex H H' → H dx = none → H' dx = some (.xd fs) → K cls fs → E cls (some dx) H'
def wpZ (G : Gm) (W : XK) (ts : TS) (ρ : Rho) (E : DE) (ex : EK) : Prop := ∀ X o σ H, EnvOk G X o σ H ρ → ∀ D : Ends,
  (∀ o' σ' H' ρ', Reach G o ρ H o' ρ' H' → EnvOk G X o' σ' H' ρ' → E.nx ρ' → D.nx σ' H') →
  (∀ v H' r, RtOk G X o ρ H v H' r → E.rt r → D.rt v H') →
  (∀ o' σ' H' ρ', Reach G o ρ H o' ρ' H' → EnvOk G X o' σ' H' ρ' → E.bk ρ' → D.bk σ' H') →
  (∀ o' σ' H' ρ', Reach G o ρ H o' ρ' H' → EnvOk G X o' σ' H' ρ' → E.ct ρ' → D.ct σ' H') →
  (∀ cls dx fs H', Fr (Ch G o ρ) H H' → G.S H' → H dx = none → H' dx = some (.xd fs) → ex cls fs → W cls (some dx) H') → ts D σ H
section
variable {G : Gm} {X : Addr → Prop} {o o' o2 : Nat → Addr} {σ : L2.St} {H H' H2 : Hp} {ρ ρ' ρ2 : Rho} {t u : TS} {ts : TS} {W : XK} {E : DE} {ex : EK} {te : TE} {tt : TT} {ta : TA} {wi : TI} {g : TG}
theorem wpS.Z (h : wpS G ts ρ E) : wpZ G W ts ρ E ex := fun X o σ H V D qn qr qb qc _ => h X o σ H V D qn qr qb qc
theorem none_bk (a : ∀ b, H b ≠ none → H' b ≠ none) {b : Addr} (h : H' b = none) : H b = none := by
  cases e : H b with
  | none => rfl
  | some v => exact absurd h (a b (by rw [e]; exact fun z => nomatch z))
theorem fr_back (a : Reach G o ρ H o' ρ' H') (f : Fr (Ch G o' ρ') H' H2) : Fr (Ch G o ρ) H H2 := fun x u h n => f x u (a.fr x u h n) fun z => by
  rcases z with z | z
  · exact n (.inl z)
  · rcases a.nw x z with z | z
    · exact n (.inr z)
    · rw [h] at z; cases z
theorem wpZ_seq (h : wpZ G W t ρ { E with nx := fun ρ' => wpZ G W u ρ' E ex } ex) : wpZ G W (tSeq t u) ρ E ex := fun X o σ H V D qn qr qb qc qx =>
  h X o σ H V { D with nx := u D } (fun o1 σ1 H1 ρ1 a1 V1 w => w X o1 σ1 H1 V1 D (fun o2 σ2 H2 ρ2 a2 V2 n => qn o2 σ2 H2 ρ2 (a1.trans a2) V2 n) (fun v H2 r a2 n => qr v H2 r (a2.back a1) n)
    (fun o2 σ2 H2 ρ2 a2 V2 n => qb o2 σ2 H2 ρ2 (a1.trans a2) V2 n) (fun o2 σ2 H2 ρ2 a2 V2 n => qc o2 σ2 H2 ρ2 (a1.trans a2) V2 n)
    (fun cls dx fs H2 f s n e k => qx cls dx fs H2 (fr_back a1 f) s (none_bk a1.dm n) e k)) qr qb qc qx
theorem wpZ_if (h : wpT G tt ρ fun b => if b = true then wpZ G W t ρ E ex else wpZ G W u ρ E ex) : wpZ G W (tIfS tt t u) ρ E ex := fun X o σ H V D qn qr qb qc qx => h X o σ H V _ fun b H' f s k => by
  have a := Reach.of (o := o) (ρ := ρ) f s
  have go : ∀ {w : TS}, wpZ G W w ρ E ex → w D σ H' := fun {w} k => k X o σ H' (V.step f s) D (fun o2 σ2 H2 ρ2 a2 V2 n => qn o2 σ2 H2 ρ2 (a.trans a2) V2 n) (fun v H2 r a2 n => qr v H2 r (a2.back a) n)
    (fun o2 σ2 H2 ρ2 a2 V2 n => qb o2 σ2 H2 ρ2 (a.trans a2) V2 n) (fun o2 σ2 H2 ρ2 a2 V2 n => qc o2 σ2 H2 ρ2 (a.trans a2) V2 n)
    (fun cls dx fs H2 f s n e k => qx cls dx fs H2 (fr_back a f) s (none_bk a.dm n) e k)
  cases b with
  | true =>
    rw [if_pos rfl] at k ⊢
    exact go k
  | false =>
    rw [if_neg Bool.false_ne_true] at k ⊢
    exact go k
theorem wpZ_for {js : List Nat} {f : PD → Option (List PD)} (hg : TgD g js f)
    (h : wpI G true wi ρ fun n item => ∃ Pv : Nat → Rho → Prop, Pv 0 ρ ∧ (∀ i d ρ', i < n → item i = some d → Pv i ρ' → ∃ ds, f d = some ds ∧ wpZ G W t (putDs ρ' js ds) { nx := Pv (i + 1), rt := E.rt, bk := E.nx, ct := Pv (i + 1) } ex) ∧ ∀ ρ', Pv n ρ' → E.nx ρ') :
    wpZ G W (tFor wi g t) ρ E ex := fun X o σ H V D qn qr _ _ qx => by
  refine h X o σ H V _ fun J n Gp Y F ws es item H1 f1 s1 S g1 hF r1 ⟨Pv, p0, turn, done⟩ => ?_
  have V1 := V.step f1 s1
  refine for_it S.walk (fun i σ' H' => ∃ o' ρ', Reach G o ρ H1 o' ρ' H' ∧ EnvOk G X o' σ' H' ρ' ∧ Pv i ρ') ⟨o, ρ, Reach.rfl', V1, p0⟩ (fun i σ' H' hi ⟨o', ρ', a, V', p⟩ => ?_) (fun i x σ' H' H'' hi ⟨o', ρ', a, V', p⟩ y => ?_) fun σ' H' ⟨o', ρ', a, V', p⟩ => ?_
  · exact S.keep H1 H' (fun b u hb e => a.fr b u e (hF b hb).2) g1
  · obtain ⟨d, ei, eX, rx⟩ := S.itm i H' x H'' _ hi y (fun b z => V'.dom z) (r1.to (reach_off V1 a))
    obtain ⟨ds, fd, wt⟩ := turn i d ρ' hi ei p
    have V2 := V'.ex eX
    have a2 : Reach G o ρ H1 o' ρ' H'' := a.trans (Reach.of eX.fr V2.s)
    refine hg _ H'' σ' x d ds _ rx fd fun ws' rw' lw => ?_
    have a3 : Reach G o ρ H1 o' (putDs ρ' js ds) H'' := a2.trans (Reach.less fun b z => own_setDs z)
    have a0 : Reach G o ρ H o' (putDs ρ' js ds) H'' := (Reach.of f1 s1).trans a3
    exact wt X o' _ H'' (V2.setVs rw') _ (fun o4 σ4 H4 ρ4 a4 V4 n4 => ⟨o4, ρ4, a3.trans a4, V4, n4⟩) (fun v H4 r a4 n4 => qr v H4 r (a4.back a0) n4)
      (fun o4 σ4 H4 ρ4 a4 V4 n4 => qn o4 σ4 H4 ρ4 (a0.trans a4) V4 n4) (fun o4 σ4 H4 ρ4 a4 V4 n4 => ⟨o4, ρ4, a3.trans a4, V4, n4⟩)
      (fun cls dx fs H2 f s n e k => qx cls dx fs H2 (fr_back a0 f) s (none_bk a0.dm n) e k)
  · exact qn o' σ' H' ρ' ((Reach.of f1 s1).trans a) V' (done ρ' p)
/-- a call that raises -/
theorem wpZ_call {P : List PD → EK → Prop} {k : TE → TS} (hk : ∀ (te : TE) D σ H, (∀ Q, te σ H Q) → k te D σ H) (h : wpA G ta ρ fun ss => ∃ ds, ss = ds.map .dat ∧ P ds ex) :
    wpZ G W (k (tCallS (SpR P) (WE fun cls d _ H => W cls d H) ta)) ρ E ex := fun X o σ H V D _ _ _ _ qx => hk _ _ _ _ fun Q => (h X o σ H V _ fun vs H1 ss f s r ⟨ds, e, p⟩ => by
  subst e
  have V1 := V.step f s
  exact ⟨Av X o ρ, ds, ex, fun b z => V1.dom z, r.dats, p, fun cls dx fs H' e n q k => qx cls dx fs H' (fun b u hb z => e b u (f b u hb fun y => z (.inl y))) (G.mono _ _ s e) (none_bk (dm_of f s) n) q k⟩)
/-- raise C(e) -/
theorem wpZ_raise {C : Addr} {fl : Str} {K : PySem.W.Frag} (h : wpA G ta ρ fun ss => ∃ d, ss = [.dat d] ∧ ∀ (v : L2.V) (A : Addr → Prop) (H : Hp), Rp A H v d → ex (.ref C) [(fl, v)]) :
    wpZ G W (fun _ σ H => tMkO C (SpSup K C fl) [] ta σ H fun cls d H' => W cls d H') ρ E ex := fun X o σ H V D _ _ _ _ qx => h X o σ H V _ fun vs H1 ss f s r ⟨d, e, k⟩ => by
  subst e
  have V1 := V.step f s
  cases r with
  | @cons v _ _ _ r r0 =>
    cases r0
    cases r with
    | dat r =>
      refine ⟨by show 1 ≤ 1000; omega, fun a na => ⟨a, v, rfl, upd_same, fun dx nd hda => ⟨rfl, dx, [(fl, v)], upd_same, ?_, ?_, ?_⟩⟩⟩
      · rw [upd_ne hda, upd_same]
      · rw [upd_ne hda] at nd; exact nd
      · rw [upd_ne hda] at nd
        have e : Ex H1 (upd (del (upd (upd (upd H1 a (exo a C none)) dx (exd dx [(fl, v)])) a (exo a C (some dx))) a) dx (.xd [(fl, v)])) := fun b u hb => by
          have ba : b ≠ a := fun z => by rw [z, na] at hb; cases hb
          have bd : b ≠ dx := fun z => by rw [z, nd] at hb; cases hb
          rw [upd_ne bd, del_ne ba, upd_ne ba, upd_ne bd, upd_ne ba]; exact hb
        exact qx _ _ _ _ (fun b u hb z => e b u (f b u hb fun y => z (.inl y))) (G.mono _ _ s e) (none_bk (dm_of f s) nd) upd_same (k v _ _ r)
end
/-! ### defs that raise -/
def DEno : DE := { nx := fun _ => False, rt := fun _ => False }
section
variable {P : Program} {w : World} {K : PySem.W.Frag} {mg : Str → Option Value} {base : Heap} {x : Str} {st : Stmt} {N ps : List Str} {k : Nat}
/-- the name x may be called, and keeps sp, which may raise -/
def Cx' (P : Program) (w : World) (K : PySem.W.Frag) (mg : Str → Option Value) (base : Heap) (k : Nat) (x : Str) (sp : Sp) : Prop := ∃ f fd ps, FnOk P w K mg base (L2.CX P w) k f fd ps sp ∧ mg x = some (.ref f) ∧ PySem.W.keepIn K (.ref f) = true ∧ Binds K fd ps []
theorem cx_mk {Pf : List PD → EK → Prop} (D : Dn K mg x st) (S : FnScope N ps (defScope st)) (hb : bindsOk x st ps) (len : ∀ ds K, Pf ds K → ds.length = ps.length)
    (hbody : ∀ (f : Addr) (cdv : Value) (A : Around) (outer : List Env) (s : Shared) (H : Hp) (E : XK), Room k (A.deeper (envOfC x (defScope st) s.heap.objs.size f cdv)) →
      ∃ t : TS, PSs (cxOf (L2.CX P w) P w K mg base N x (defScope st) f cdv A outer s H E) (defBody st) t ∧ ∀ ds K, Pf ds K → wpZ Gm.pure E t (rho N.length (ds.map .dat)) DEno K) : Cx' P w K mg base (k + 1) x (SpR Pf) := by
  obtain ⟨f, fd, F, m⟩ := D
  refine ⟨f, fd, ps, F.ok S (fun vs H Q E h => ?_) fun cdv A outer s H vs Q E hr h => ?_, m, F.kp, F.bindsN hb⟩
  · obtain ⟨A, ds, K, _, r, p, _⟩ := h
    rw [r.length]
    exact len ds K p
  · obtain ⟨t, a, b⟩ := hbody f cdv A outer s H E hr
    obtain ⟨A', ds, K', xd, r, p, q⟩ := h
    have hl : (ds.map Sl.dat).length ≤ N.length := by
      have := congrArg List.length S.pre
      have := len ds K' p
      rw [List.length_take] at *
      rw [List.length_map]
      omega
    have V : EnvOk Gm.pure A' (fun _ => 0) (L2.start N vs) H (rho N.length (ds.map .dat)) := env_start (G := Gm.pure) trivial (fun _ z => z.elim) xd r.ss hl fun _ => 0
    refine ⟨t, a, b ds K' p A' _ _ H V _ (fun _ _ _ _ _ _ z => z.elim) (fun _ _ _ _ z => z.elim) (fun _ _ _ _ _ _ z => z.elim) (fun _ _ _ _ _ _ z => z.elim) fun cls dx fs H' f' _ n e k => q cls dx fs H' (fun b u hb => f' b u hb fun z => ?_) n e k⟩
    rcases z with z | ⟨i, es, e, _⟩
    · exact z
    · have := List.mem_of_getElem? e
      unfold rho at this
      rcases List.mem_append.mp this with z | z
      · obtain ⟨_, _, z⟩ := List.mem_map.mp z
        cases z
      · cases List.eq_of_mem_replicate z
end
section
variable {X : Cx} {W : XK} {x fl : Str} {C : Addr} {e : Expr} {es : List Expr} {t : TA} {p pos pos2 : Pos} {k j : Nat} {sp : Sp}
/-- what is known of an own exception class that is raised -/
structure ExOk (P : Program) (w : World) (K : PySem.W.Frag) (mg : Str → Option Value) (base : Heap) (x : Str) (C : Addr) (fl : Str) : Prop where
  m : mg x = some (.ref C)
  T : OexC K C
  xf : XfC K C
  no : PySem.W.findIn K (.ref C) fl = some none
  ini : ∃ fI fd ps, PySem.W.findIn K (.ref C) "__init__" = some (some (.ref fI)) ∧ PySem.W.typeIn K (.ref fI) = some (.type "function") ∧ FnOk P w K mg base CX0 1 fI fd ps (SpSup K C fl) ∧ Binds K fd ps []
theorem ps_rz (Z : ExOk X.prog X.w X.K X.mg X.base x C fl) (hr : Room j X.A) (hj : 2 ≤ j) (hc : X.calm = true) (tk : Takes X (fun cls d _ H => W cls d H)) (hg : Gl X x) (ha : PA X (e :: es) t)
    (hdb : (x == ("__debug__" : Str)) = false := by decide) (he : starEach (e :: es) X.env = (false, eval e X.env) :: starEach es X.env := by rfl) (hpl : (backTo pos (starEach es X.env)).any (·.1) = false := by rfl) :
    PS X (.Raise (some (.Call (.Name x p) (e :: es) [] pos)) none pos2) (fun _ σ H => tMkO C (SpSup X.K C fl) [] t σ H fun cls d H' => W cls d H') := by
  obtain ⟨fI, fd, ps, iC, tI, F, hb⟩ := Z.ini
  exact ps_raise hc tk (pmk_oex Z.T iC tI F (hr.mono hj) hb .nil (fun _ _ _ _ _ _ _ h => h.elim) hg Z.m ha hdb he hpl)
/-- f(e, ..) of a def that raises -/
theorem pe_cx (c : Cx' X.prog X.w X.K X.mg X.base k x sp) (hr : Room j X.A) (hk : k ≤ j) (tk : Takes X (fun cls d _ H => W cls d H)) (hg : Gl X x) (ha : PA X (e :: es) t)
    (hdb : (x == ("__debug__" : Str)) = false := by decide) (he : starEach (e :: es) X.env = (false, eval e X.env) :: starEach es X.env := by rfl) (hpl : (backTo pos (starEach es X.env)).any (·.1) = false := by rfl) :
    PE X (.Call (.Name x p) (e :: es) [] pos) (tCallS sp (WE fun cls d _ H => W cls d H) t) := by
  obtain ⟨f, fd, ps, F, hm, kp, b⟩ := c
  exact pe_callS (E := WE fun cls d _ H => W cls d H) F (hr.mono hk) hg hm kp b (fun σ => passAt tk σ) ha hdb he hpl
end
end K42
/-! text P29 -/
set_option Elab.async false
set_option linter.all false
set_option maxRecDepth 100000
set_option maxHeartbeats 4000000
namespace K42
open PySem PySem.Spec PyProof.Rows L2

/-! The program's defs over data that are refused. -/
section
variable {P : Program} {w : World} {K : PySem.W.Frag} {mg : Str → Option Value} {base : Heap} {CT CN : Addr}
def p_bad_times (F : PySem.W.Frag) (C : Addr) (ds : List PD) (K : EK) : Prop := ∃ (n : Nat) (ts : List TieT) (dt d : PD) (z : Int), TbD F n ts dt ∧ ds = [dt, d] ∧ BadT n d z ∧ K (.ref C) [("at", .int z)]
theorem rp_int {A : Addr → Prop} {H : Hp} {v : L2.V} {z : Int} (r : Rp A H v (.int z)) : v = .int z := by cases r; rfl
theorem rp_str {A : Addr → Prop} {H : Hp} {v : L2.V} {z : Str} (r : Rp A H v (.str z)) : v = .str z := by cases r; rfl
theorem okx_check_times (T : Tx mg) (D : Dn K mg "check_times" s_check_times) (c_is_time : Cl P w K mg base 2 "is_time" (SpP (p_is_time))) (z_InvalidTimes : ExOk P w K mg base "InvalidTimes" CT "at") : Cx' P w K mg base 3 "check_times" (SpR (p_bad_times K CT)) := by
  have sc := sc_check_times
  refine cx_mk D sc (fun _ _ _ _ _ _ us hl => match us, hl with | [_, _], _ => rfl) (fun ds K h => by obtain ⟨_, _, _, _, _, _, rfl, _⟩ := h; rfl) fun f cdv A outer s H E hr => ?_
  have hu := hr.units
  refine ⟨_, (pss_cons (ps_if (PW.pt (pw_or (pt_not (pt_val (pe_callB call_isi (by rfl) T.b_isinstance (by decide +kernel) (pa_cons (pv 1) (pa_cons (pe_bltn (v := .ty "tuple") (by rfl) T.b_tuple (by decide +kernel) rfl) pa_nil))))) (pw_or1 (pt_cmpR (opNe (F := K) hu) (pe_callB (lenSq (F := K)) (by rfl) T.b_len (by decide +kernel) (pa_cons (pv 1) pa_nil)) (pe_callB (lenSq (F := K)) (by rfl) T.b_len (by decide +kernel) (pa_cons (pe_fld (pv 0) rfl) pa_nil)) (nomark _))))) (pss_one (ps_rz z_InvalidTimes hr (by decide) rfl (takes_of rfl rfl rfl rfl) (by rfl) (pa_cons (pe_un un_neg pe_int) pa_nil))) pss_nil)
    (pss_one (ps_for (passes_of rfl) rfl (pi_enumT (by rfl) T.b_enumerate (pa_cons (pv 1) pa_nil)) (pg_tup rfl (pgs_cons (pg_name (i := 2) sc.nd rfl (by first | exact Or.inl rfl | exact Or.inr rfl)) (pgs_cons (pg_name (i := 3) sc.nd rfl (by first | exact Or.inl rfl | exact Or.inr rfl)) pgs_nil)))
      (pss_one (ps_if (PW.pt (pw_and (pt_cmpR op_notN (pv 3) pe_non (nomark _)) (pw_and1 (pt_not (pt_val (pe_cl c_is_time hr (by first | decide | omega) (by rfl) (pa_cons (pv 3) pa_nil))))))) (pss_one (ps_rz z_InvalidTimes hr (by decide) rfl (takes_of rfl rfl rfl rfl) (by rfl) (pa_cons (pv 2) pa_nil))) pss_nil))))), ?_⟩
  rintro ds K' ⟨n, ts, dt, d, z, ⟨C, dts, rfl, hd, tc, ok, hl⟩, rfl, ⟨nt, bad⟩, k⟩
  show wpZ Gm.pure E _ [.dat (tabD C (.tuple dts) (.tuple (ts.map et))), .dat d, .no, .no] DEno K'
  have rz1 : ∀ {y : Int}, y = z → ∀ (v : L2.V) (A : Addr → Prop) (H : Hp), Rp A H v (.int y) → K' (.ref CT) [("at", v)] := fun e v A H r => by rw [rp_int r, e]; exact k
  refine wpZ_seq (wpZ_if (wpT_or (wpT_not (wpT_test (wpE_isi (wpE_var rfl ⟨_, kit_tuple nt, nt, _, rfl, ?_⟩))))))
  by_cases ht : ∃ xs, d = .tuple xs
  · obtain ⟨xs, rfl⟩ := ht
    refine wpT_test (wpE_op opD_ne (wpE_len (wpE.Q (wpE_var rfl ⟨_, rfl, wpE_len (wpE.Q (wpE_things (wpE_var rfl ⟨C, _, _, rfl, tc.cls, tc.th, _, rfl, rfl, rfl, _, rfl, ?_⟩)))⟩))))
    rw [hd, show PyData.eqv (en xs.length) (en n) = decide (xs.length = n) from eqv_nat]
    rcases bad with ⟨rfl, hn⟩ | ⟨ds, q, x, e, hl', hx, rfl, h1, h2, h3, h4⟩
    · rw [decide_eq_false (hn xs rfl), Bool.not_false, if_pos rfl]
      exact wpZ_raise (wpA_cons (wpE_un (wpE_int ⟨_, rfl, wpA_nil ⟨_, rfl, rz1 rfl⟩⟩)))
    · cases e
      rw [hl', decide_eq_true rfl, Bool.not_true, if_neg Bool.false_ne_true]
      refine wpS.Z (wpS_nil ?_)
      show wpZ Gm.pure E _ [.dat (tabD C (.tuple dts) (.tuple (ts.map et))), .dat (.tuple xs), .no, .no] DEno K'
      refine wpZ_seq (wpZ_for (tg_tup (js := [2, 3]) rfl rfl) (wpI_enumT (wpA_cons (wpE_var rfl (wpA_nil ⟨_, rfl, ?_⟩)))))
      have hq : q < xs.length := (List.getElem?_eq_some_iff.mp hx).1
      refine ⟨fun i ρ => i ≤ q ∧ ∃ a b, ρ = [.dat (tabD C (.tuple dts) (.tuple (ts.map et))), .dat (.tuple xs), a, b], ⟨Nat.zero_le _, _, _, rfl⟩, ?_, fun ρ' ⟨l, _⟩ => absurd hq (by omega)⟩
      rintro i d ρ' hi e ⟨hiq, a, b, rfl⟩
      rw [← List.map_id xs] at e
      obtain ⟨y, hy, rfl⟩ := enum_get e
      refine ⟨_, rfl, ?_⟩
      show wpZ Gm.pure E _ [.dat (tabD C (.tuple dts) (.tuple (ts.map et))), .dat (.tuple xs), .dat (en i), .dat y] _ _
      refine wpZ_seq (wpZ_if (wpT_and (wpT_test (wpE_op opD_isnt (wpE_var rfl (wpE_non ⟨rfl, _, rfl, ?_⟩))))))
      rcases Nat.lt_or_ge i q with l | l
      · have : y = .none := by have := h4 i l; rw [hy] at this; exact Option.some.inj this
        subst this
        exact wpS.Z (wpS_nil (wpS.Z (wpS_nil ⟨l, _, _, rfl⟩)))
      · have eq : i = q := by omega
        subst eq
        have : y = x := by rw [hy] at hx; exact Option.some.inj hx
        subst this
        rw [h1]
        refine wpT_not (wpT_test (wpE_callP (wpA_cons (wpE_var rfl (wpA_nil ⟨[_], rfl, _, rfl, h3 _ (List.mem_of_getElem? hx), _, rfl, ?_⟩)))))
        rw [h2]
        exact wpZ_raise (wpA_cons (wpE_var rfl (wpA_nil ⟨_, rfl, rz1 rfl⟩)))
  · have e : isTupD d = false := by cases d <;> first | rfl | exact absurd ⟨_, rfl⟩ ht
    rw [e]
    rcases bad with ⟨rfl, hn⟩ | ⟨ds, q, x, e, _⟩
    · exact wpZ_raise (wpA_cons (wpE_un (wpE_int ⟨_, rfl, wpA_nil ⟨_, rfl, rz1 rfl⟩⟩)))
    · exact absurd ⟨_, e⟩ ht
theorem okx_limits (T : Tx mg) (D : Dn K mg "limits" s_limits) (c_all_layers : Cl P w K mg base 5 "all_layers" (SpP (p_all_layers K))) (c_is_too_short : Cl P w K mg base 2 "is_too_short" (SpP (p_is_too_short))) (c_has_ring : Cl P w K mg base 2 "has_ring" (SpP (p_has_ring))) (x_check_times : Cx' P w K mg base 3 "check_times" (SpR (p_bad_times K CT))) : Cx' P w K mg base 6 "limits" (SpR (p_bad_times K CT)) := by
  have sc := sc_limits
  refine cx_mk D sc (fun _ _ _ _ _ _ us hl => match us, hl with | [_, _], _ => rfl) (fun ds K h => by obtain ⟨_, _, _, _, _, _, rfl, _⟩ := h; rfl) fun f cdv A outer s H E hr => ?_
  have hu := hr.units
  refine ⟨_, (pss_cons (ps_expr (pe_cx x_check_times hr (by first | decide | omega) (takes_of rfl rfl rfl rfl) (by rfl) (pa_cons (pv 0) (pa_cons (pv 1) pa_nil))))
    (pss_cons (ps_asg (pe_tup (pa_cons (pe_cl c_all_layers hr (by first | decide | omega) (by rfl) (pa_cons (pv 0) pa_nil)) (pa_cons (pe_callB (lenSq (F := K)) (by rfl) T.b_len (by decide +kernel) (pa_cons (pe_fld (pv 0) rfl) pa_nil)) pa_nil))) (pg_tup rfl (pgs_cons (pg_name (i := 2) sc.nd rfl (by first | exact Or.inl rfl | exact Or.inr rfl)) (pgs_cons (pg_name (i := 3) sc.nd rfl (by first | exact Or.inl rfl | exact Or.inr rfl)) pgs_nil))))
    (pss_cons (ps_setLc (i := 4) (own := [("most", 5)]) (g := gName 5) (by rfl) sc.nd rfl rfl (sw_true rfl rfl rfl (by decide +kernel)) (pi_range1 (by rfl) T.b_range (pa_cons (pe_op op_add (pe_op op_mul pe_int (pv 3)) pe_int) pa_nil)) (blkOk_by (own := [("most", 5)]) (N := N_limits) (sc := (defScope s_limits)) (by decide +kernel)) (fun _ _ _ _ _ => (pg_name (i := 5) sc.nd rfl (by first | exact Or.inl rfl | exact Or.inr rfl))) (fun _ _ _ _ _ => (pts_one (pt_val (pe_cl c_is_too_short hr (by first | decide | omega) (by rfl) (pa_cons (pv 2) (pa_cons (pv 1) (pa_cons (pv 5) pa_nil))))))) (fun _ _ _ _ _ => (pv 5)))
    (pss_cons (ps_setLc (i := 6) (own := [("most", 5)]) (g := gName 5) (by rfl) sc.nd rfl rfl (sw_true rfl rfl rfl (by decide +kernel)) (pi_range1 (by rfl) T.b_range (pa_cons (pe_op op_add (pv 3) pe_int) pa_nil)) (blkOk_by (own := [("most", 5)]) (N := N_limits) (sc := (defScope s_limits)) (by decide +kernel)) (fun _ _ _ _ _ => (pg_name (i := 5) sc.nd rfl (by first | exact Or.inl rfl | exact Or.inr rfl))) (fun _ _ _ _ _ => (pts_one (pt_val (pe_cl c_has_ring hr (by first | decide | omega) (by rfl) (pa_cons (pv 2) (pa_cons (pv 1) (pa_cons (pv 5) pa_nil))))))) (fun _ _ _ _ _ => (pv 5)))
    (pss_one (ps_ret (pe_tup (pa_cons (pe_ifExp (pt_cmpR (opEq (F := K) hu) (pv 4) (pe_lst pa_nil) (nomark _)) pe_non (pe_ix (ixSq (F := K)) (pv 4) pe_int (fun _ _ => rfl))) (pa_cons (pe_ifExp (pt_cmpR (opEq (F := K) hu) (pv 6) (pe_lst pa_nil) (nomark _)) pe_non (pe_ix (ixSq (F := K)) (pv 6) pe_int (fun _ _ => rfl))) pa_nil))))))))), ?_⟩
  rintro ds K' ⟨n, ts, dt, d, z, tb, rfl, bad, k⟩
  show wpZ Gm.pure E _ [.dat dt, .dat d, .no, .no, .no, .no, .no] DEno K'
  exact wpZ_seq (wpZ_call (k := tDrop) (fun _ _ _ _ h => h _) (wpA_cons (wpE_var rfl (wpA_cons (wpE_var rfl (wpA_nil ⟨[_, _], rfl, n, ts, dt, d, z, tb, rfl, bad, k⟩))))))
def p_bad_batches (C : Addr) (ds : List PD) (K : EK) : Prop := ∃ d, ds = [d] ∧ BadB d ∧ K (.ref C) [("word", .str "batches")]
theorem okx_check_batches (T : Tx mg) (D : Dn K mg "check_batches" s_check_batches) (c_are_batches : Cl P w K mg base 3 "are_batches" (SpP (p_are_batches))) (z_InvalidNumber : ExOk P w K mg base "InvalidNumber" CN "word") : Cx' P w K mg base 4 "check_batches" (SpR (p_bad_batches CN)) := by
  have sc := sc_check_batches
  refine cx_mk D sc (fun _ _ _ _ _ _ us hl => match us, hl with | [_], _ => rfl) (fun ds K h => by obtain ⟨_, rfl, _⟩ := h; rfl) fun f cdv A outer s H E hr => ?_
  have hu := hr.units
  refine ⟨_, (pss_one (ps_if (pt_not (pt_val (pe_cl c_are_batches hr (by first | decide | omega) (by rfl) (pa_cons (pv 0) pa_nil)))) (pss_one (ps_rz z_InvalidNumber hr (by decide) rfl (takes_of rfl rfl rfl rfl) (by rfl) (pa_cons pe_str pa_nil))) pss_nil)), ?_⟩
  rintro ds K' ⟨d, rfl, ⟨b1, b2, b3⟩, k⟩
  show wpZ Gm.pure E _ [.dat d] DEno K'
  refine wpZ_seq (wpZ_if (wpT_not (wpT_test (wpE_callP (wpA_cons (wpE_var rfl (wpA_nil ⟨[_], rfl, _, rfl, b1, b2, _, rfl, ?_⟩)))))))
  rw [b3]
  exact wpZ_raise (wpA_cons (wpE_str (wpA_nil ⟨_, rfl, fun v A H r => by rw [rp_str r]; exact k⟩)))
def p_bad_within (C : Addr) (ds : List PD) (K : EK) : Prop := ∃ p d, ds = [p, d] ∧ BadB d ∧ K (.ref C) [("word", .str "batches")]
theorem okx_is_within (T : Tx mg) (D : Dn K mg "is_within" s_is_within) (c_reaches_fit : Cl P w K mg base 2 "reaches_fit" (SpP (p_reaches_fit))) (c_walk_reach : Cl P w K mg base 1 "walk_reach" (SpP (p_walk_reach))) (c_ring_reach : Cl P w K mg base 2 "ring_reach" (SpP (p_ring_reach))) (x_check_batches : Cx' P w K mg base 4 "check_batches" (SpR (p_bad_batches CN))) : Cx' P w K mg base 5 "is_within" (SpR (p_bad_within CN)) := by
  have sc := sc_is_within
  refine cx_mk D sc (fun _ _ _ _ _ _ us hl => match us, hl with | [_, _], _ => rfl) (fun ds K h => by obtain ⟨_, _, rfl, _⟩ := h; rfl) fun f cdv A outer s H E hr => ?_
  have hu := hr.units
  refine ⟨_, (pss_cons (ps_expr (pe_cx x_check_batches hr (by first | decide | omega) (takes_of rfl rfl rfl rfl) (by rfl) (pa_cons (pv 1) pa_nil)))
    (pss_one (ps_ret (pe_cl c_reaches_fit hr (by first | decide | omega) (by rfl) (pa_cons (pv 0) (pa_cons (pe_cl c_walk_reach hr (by first | decide | omega) (by rfl) (pa_cons (pv 1) pa_nil)) (pa_cons (pe_cl c_ring_reach hr (by first | decide | omega) (by rfl) (pa_cons (pv 1) pa_nil)) pa_nil))))))), ?_⟩
  rintro ds K' ⟨p, d, rfl, bad, k⟩
  show wpZ Gm.pure E _ [.dat p, .dat d] DEno K'
  exact wpZ_seq (wpZ_call (k := tDrop) (fun _ _ _ _ h => h _) (wpA_cons (wpE_var rfl (wpA_nil ⟨[_], rfl, d, rfl, bad, k⟩))))
end

end K42
/-! text RuTry -/
set_option Elab.async false
set_option linter.all false
set_option maxRecDepth 100000
/-! Several except clauses, each with a name. -/
namespace K42
open PySem PySem.Spec PyProof.Rows L2
/-- a clause: its class, the slot of its name, what its suite reads -/
structure Clz where
  c : Value
  i : Nat
  ts : Addr → Value → Option Addr → TS
def wClz (K : PySem.W.Frag) (Wout : WX) (D : Ends) : List Clz → WX
  | [] => Wout
  | z :: r => fun cls d σ H => ∃ b, PySem.W.exmOne K cls z.c = some b ∧
      (b = true → ∀ a, H a = none → z.ts a cls d { nx := fun σ' H' => D.nx (σ'.set z.i none) H', rt := D.rt, bk := fun σ' H' => D.bk (σ'.set z.i none) H', ct := fun σ' H' => D.ct (σ'.set z.i none) H' } (σ.set z.i (some (.ref a))) H) ∧
      (b = false → wClz K Wout D r cls d σ H)
inductive ClzOk (X : Cx) : List ExceptHandler → List Clz → Prop
  | nil : ClzOk X [] []
  | cons {x n : Str} {z : Clz} {b₀ : Stmt} {suite : List Stmt} {np pos' : Pos} {hds : List ExceptHandler} {l : List Clz} (hc : Names X x z.c) (hi : X.N[z.i]? = some n) (hln : X.env.kindOf n = some .local)
      (hsu : ∀ (a : Addr) (oe : Obj) (cls : Value) (d : Option Addr) (pn : List (Addr × Obj)), Zc cls d oe → (∃ vs, oe.data = .fields vs) → PSs (X.suite a ((a, oe) :: pn)) (b₀ :: suite) (z.ts a cls d)) (r : ClzOk X hds l) :
      ClzOk X (.ExceptHandler (some (.Name x np)) (some n) (b₀ :: suite) pos' :: hds) (z :: l)
/-- the exception at a, of the class cls, its dict d, noted in the frame of X: s stands as at the raise, but for the heap h; sI is the state without the exception, B its ground -/
structure Air (X : Cx) (pins : List (Addr × Obj)) (σ : L2.St) (H : Hp) (cls : Value) (d : Option Addr) (a : Addr) (B : Heap) (sI s : Shared) (h : Heap) : Prop where
  own : X.stack = X.env :: X.outer
  frm : X.env.frame = some X.env.locals
  inv : Inv X pins σ H sI
  gnd : ∀ b o, sI.heap.get? b = some o → b ∉ frs X.stack → B.get? b = some o
  lift : sI.heap.UpToSlots h
  fly : HandSPX.FlyingZ B (X.env :: X.outer) a (Zc cls d) h
  new : H a = none
  oss : s.os = sI.os
  gens : AllBare s.gens
section
variable {X : Cx} {pins : List (Addr × Obj)} {σ : L2.St} {H : Hp} {cls : Value} {d : Option Addr} {a : Addr} {B h : Heap} {sI s : Shared} {D : Ends} {Wout : WX}
theorem Air.state (Y : Air X pins σ H cls d a B sI s h) : Inv X pins σ H { s with heap := h } := Y.inv.landed Y.gnd Y.fly.1 Y.lift Y.oss Y.gens
/-- it is no frame -/
theorem Air.far (Y : Air X pins σ H cls d a B sI s h) : a ∉ frs (X.env :: X.outer) := fun z => by
  obtain ⟨oe, vs, ge, _, de⟩ := Y.fly.there
  obtain ⟨_, o, go, no⟩ := Y.fly.2.2.1.mem z
  rw [ge] at go
  exact no vs (by rw [← Option.some.inj go]; exact de)
theorem Air.offL (Y : Air X pins σ H cls d a B sI s h) : a ≠ X.env.locals := fun z => Y.far (by
  unfold frs
  rw [List.filterMap_cons, Y.frm, ← z]
  exact List.mem_cons_self)
theorem Air.offF (Y : Air X pins σ H cls d a B sI s h) : a ∉ X.fs := fun z => Y.far (by
  unfold frs
  rw [List.filterMap_cons, Y.frm]
  exact List.mem_cons_of_mem _ z)
/-- its object, and the state of an except suite -/
theorem Air.suite (Y : Air X pins σ H cls d a B sI s h) : ∃ oe, h.get? a = some oe ∧ Zc cls d oe ∧ (∃ vs, oe.data = .fields vs) ∧ Inv (X.suite a ((a, oe) :: (X.pn ++ pins))) [] σ H { s with heap := h } := by
  obtain ⟨oe, vs, ge, ze, de⟩ := Y.fly.there
  exact ⟨oe, ge, ze, ⟨vs, de⟩, Y.state.suite ge de Y.new Y.offL Y.offF⟩
theorem Air.at_ {h' : Heap} (Y : Air X pins σ H cls d a B sI s h) (u : h.UpToSlots h') (f : HandSPX.FlyingZ B (X.env :: X.outer) a (Zc cls d) h') : Air X pins σ H cls d a B sI s h' := { Y with lift := Y.lift.trans u, fly := f }
/-- no clause is left: on it flies -/
theorem Air.gone {Q : Flow → Shared → Prop} (Y : Air X pins σ H cls d a B sI s h) (tk : Takes X Wout) (w : Wout cls d σ H) : wpAny (model X.prog X.w) X.A (handleBy (.ref a) X.env []) Q X.xe { s with heap := h } := by
  have up : wpAny (model X.prog X.w) X.A (setFlight (.ref a) (some X.env.locals)) (fun _ t => wpAny (model X.prog X.w) X.A (throw (.ref a) : Sem Flow) Q X.xe t) X.xe { s with heap := h } :=
    HandSPX.setFlight_upZ Y.fly fun h' held u => wpAny_throw (tk _ _ ⟨a, B, sI, pins, σ, H, cls, d, rfl, Y.inv, Y.gnd, Y.lift.trans u, .inr (.inr (by rw [Y.own]; exact held)), Y.new, Y.oss, Y.gens, w⟩)
  rw [← Y.frm] at up
  obtain ⟨oe, vs, T, _, _, ge, _, de, tr, _⟩ := Y.fly.2.2.2
  refine wpAny_handleBy_nil ?_
  unfold PySem.passOn
  refine wpAny_bind (wpAny_field ge de tr ?_)
  have nn : ¬ ((Value.ref T == Value.none) = true) := by simp
  rw [if_neg nn]
  first
    | exact wpAny_bind (wpAny_pure (wpAny_bind up))
    | exact wpAny_bind up
/-- a clause is asked -/
theorem Air.ask {x n : Str} {c : Value} {b : Bool} {hds : List ExceptHandler} {b₀ : Stmt} {suite : List Stmt} {np pos' : Pos} {Q : Flow → Shared → Prop} (Y : Air X pins σ H cls d a B sI s h) (hc : Names X x c) (hb : PySem.W.exmOne X.K cls c = some b)
    (no : b = false → wpAny (model X.prog X.w) X.A (handleBy (.ref a) X.env hds) Q X.xe { s with heap := h })
    (yes : b = true → codeAny (model X.prog X.w) (X.A.mark (some (.ref a))) (.handlers (.ref a) [.ExceptHandler none (some n) (b₀ :: suite) pos'] X.env)
      (fun r t => match r with | .ok f => wpAny (model X.prog X.w) X.A (do bindName X.env n .none; unbindBehindTheSuite X.env n pos') (fun _ u => Q f u) X.xe t | .error e => cameBackBy (model X.prog X.w) X.A X.env X.xe e t) { s with heap := h }) :
    wpAny (model X.prog X.w) X.A (handleBy (.ref a) X.env (.ExceptHandler (some (.Name x np)) (some n) (b₀ :: suite) pos' :: hds)) Q X.xe { s with heap := h } := by
  obtain ⟨oe, ge, ze, _, S⟩ := Y.suite
  have tells := (PySem.W.exm_one (M := model X.prog X.w) Y.state.kIn (fun A Q E s k q => wpAny_typeOf_ref (k _ _ ge) (by rw [ze.1]; exact q)) hb)
  have named : ∀ {Q E : Value → Shared → Prop}, Q c { s with heap := h } → wpAny (model X.prog X.w) (X.A.mark (some (.ref a))) (eval (.Name x np) X.env) Q E { s with heap := h } := fun q => by
    obtain ⟨g1, g2, g3⟩ := hc
    rcases g3 with g3 | ⟨g3, g4, g5⟩
    · exact ld_glob S g1 g3 q g2
    · exact ld_blt S g1 g3 g4 q g5 g2
  refine wpAny_handleBy_cons (codeAny_handlers_test (named (tells.here ?_))) nofun
  cases b with
  | true => exact yes rfl
  | false => exact no rfl
/-- a clause takes it -/
theorem Air.take {n : Str} {z : Clz} {b₀ : Stmt} {suite : List Stmt} {pos' : Pos} (Y : Air X pins σ H cls d a B sI s h) (hN : X.N.Nodup) (hi : X.N[z.i]? = some n) (hl : X.env.kindOf n = some .local)
    (hp : ∀ (a : Addr) (oe : Obj) (cls : Value) (d : Option Addr) (pn : List (Addr × Obj)), Zc cls d oe → (∃ vs, oe.data = .fields vs) → PSs (X.suite a ((a, oe) :: pn)) (b₀ :: suite) (z.ts a cls d))
    (w : z.ts a cls d { nx := fun σ' H' => D.nx (σ'.set z.i none) H', rt := D.rt, bk := fun σ' H' => D.bk (σ'.set z.i none) H', ct := fun σ' H' => D.ct (σ'.set z.i none) H' } (σ.set z.i (some (.ref a))) H) :
    codeAny (model X.prog X.w) (X.A.mark (some (.ref a))) (.handlers (.ref a) [.ExceptHandler none (some n) (b₀ :: suite) pos'] X.env)
      (fun r t => match r with | .ok f => wpAny (model X.prog X.w) X.A (do bindName X.env n .none; unbindBehindTheSuite X.env n pos') (fun _ u => SP X pins D f u) X.xe t | .error e => cameBackBy (model X.prog X.w) X.A X.env X.xe e t) { s with heap := h } := by
  refine codeAny_handlers_suite_as (HandSPX.lands_againZ Y.fly fun h' f u => ?_)
  have Y' := Y.at_ u f
  have ok := Y.inv.ok
  obtain ⟨oe, _, ze, de, S⟩ := Y'.suite
  refine store_ok (v := .ref a) (X := X.suite a ((a, oe) :: (X.pn ++ pins))) S hN hi (.inl hl) rfl (fun t T => ?_) (.inr hl)
  refine wpAny_mono ((hp a oe cls d _ ze de).run [] t _ H _ T w) (fun fl t' end_ => ?_) fun _ _ no => no.elim
  have back : ∀ {σ6 : L2.St} {H6 : Hp} {Q : Shared → Prop}, Inv (X.suite a ((a, oe) :: (X.pn ++ pins))) [] σ6 H6 t' → (∀ u, Inv X pins (σ6.set z.i none) H6 u → Q u) →
      wpAny (model X.prog X.w) X.A (do bindName X.env n .none; unbindBehindTheSuite X.env n pos') (fun _ u => Q u) X.xe t' := fun J q => gone_ok (J.unsuite ok) hN hi hl q
  match fl, end_ with
  | .next, ⟨_, _, J, q⟩ => exact back J fun u U => ⟨_, _, U, q⟩
  | .brk, ⟨_, _, J, q⟩ => exact back J fun u U => ⟨_, _, U, q⟩
  | .cont, ⟨_, _, J, q⟩ => exact back J fun u U => ⟨_, _, U, q⟩
  | .ret v, ⟨_, _, _, J, r, q⟩ => exact back J fun u U => ⟨_, _, _, U, r, q⟩
/-- the clauses, one after the other -/
theorem Air.clauses (Y : Air X pins σ H cls d a B sI s h) (hN : X.N.Nodup) (tk : Takes X Wout) {hds : List ExceptHandler} {l : List Clz} (hk : ClzOk X hds l) : wClz X.K Wout D l cls d σ H → wpAny (model X.prog X.w) X.A (handleBy (.ref a) X.env hds) (SP X pins D) X.xe { s with heap := h } := by
  induction hk with
  | nil => exact Y.gone tk
  | cons hc hi hl hp _ ih => exact fun ⟨_, hb, w, w'⟩ => Y.ask hc hb (fun e => ih (w' e)) fun e => Y.take hN hi hl hp (w e a Y.new)
end
section
variable {X : Cx} {body : List Stmt} {hds : List ExceptHandler} {h₀ : ExceptHandler} {l : List Clz} {pos : Pos} {tb : WX → TS} {Wout : WX}
/-- what is done with an exception of the body -/
abbrev onExc (X : Cx) (pins : List (Addr × Obj)) (D : Ends) (hs : List ExceptHandler) (e : Value) (s : Shared) : Prop :=
  wpAny (model X.prog X.w) X.A (noteFrame e X.env) (fun _ t => wpAny (model X.prog X.w) X.A (setFlight e none) (fun _ u => wpAny (model X.prog X.w) X.A (handleBy e X.env hs) (SP X pins D) X.xe u) X.xe t) X.xe s
theorem SP.untry {pins : List (Addr × Obj)} {D : Ends} {xe : Value → Shared → Prop} {fl : Flow} {s : Shared} (ok : X.Ok) (x : SP (X.tr (X.pn ++ pins) xe) [] D fl s) : SP X pins D fl s :=
  match fl, x with
  | .next, ⟨_, _, J, q⟩ => ⟨_, _, J.ofTry ok, q⟩
  | .brk, ⟨_, _, J, q⟩ => ⟨_, _, J.ofTry ok, q⟩
  | .cont, ⟨_, _, J, q⟩ => ⟨_, _, J.ofTry ok, q⟩
  | .ret _, ⟨_, _, _, J, r, q⟩ => ⟨_, _, _, J.ofTry ok, r, q⟩
theorem ps_try_clz (own : X.stack = X.env :: X.outer) (frm : X.env.frame = some X.env.locals) (hN : X.N.Nodup) (tk : Takes X Wout)
    (hb : ∀ (W : WX) (pn : List (Addr × Obj)) (xe : Value → Shared → Prop), Takes (X.tr pn xe) W → PassesOwn (model X.prog X.w) X.A X.env xe → PSs (X.tr pn xe) body (tb W)) (hh : ClzOk X (h₀ :: hds) l) :
    PS X (.Try body (h₀ :: hds) [] [] pos) (fun D σ H => tb (wClz X.K Wout D l) D σ H) := ⟨fun pins s σ H D I w => by
  have ok := I.ok
  have catch_ : Takes (X.tr (X.pn ++ pins) (onExc X pins D (h₀ :: hds))) (wClz X.K Wout D l) := fun e t air => by
    obtain ⟨a, B, sI, pins', σ', H', cls, d, rfl, J, gnd, up, sky, new, oss, gens, q⟩ := air
    have sky : Sky B X.stack a (Zc cls d) X.env.locals t.heap := sky
    rw [own] at sky
    exact Sky.land Zc.steady (by rw [ok.frames, own]) frm sky fun h fly u => Air.clauses ⟨own, frm, J.ofTry ok, gnd, up.trans u, fly, new, oss, gens⟩ hN tk hh q
  refine wpAny_Try_except (wpAny_mono ((hb _ _ _ catch_ PassesOwn.looking).run [] s σ H D (I.toTry _) w) (fun fl t out => ?_) fun _ _ z => z)
  have out' := SP.untry ok out
  cases fl with
  | next => exact wpAny_execs_nil out'
  | _ => exact out'⟩
end
end K42
/-! text RuLam -/
set_option Elab.async false
set_option linter.all false
set_option maxRecDepth 100000
set_option maxHeartbeats 2000000
/-! _law_told: what it makes of a lambda that raises. -/
namespace K42
open PySem PySem.Spec PyProof.Rows L2
abbrev s__law_told : Stmt := top 65
abbrev N__law_told : List Str := ["_law_deed", "error"]
theorem sc__law_told : FnScope N__law_told ["_law_deed"] (defScope s__law_told) := ⟨rfl, rfl, rfl, by decide +kernel, rfl, by decide +kernel, by decide +kernel⟩
/-- what is told of an exception -/
def Ech (CN CT : Addr) (Q : VK) : XK := fun cls d H => ∃ (v : L2.V) (fl wd : Str) (Cx : Addr), ((Cx = CT ∧ fl = "at" ∧ wd = "times") ∨ (Cx = CN ∧ fl = "word" ∧ wd = "number")) ∧ cls = .ref Cx ∧
  ∃ dd, d = some dd ∧ H dd = some (.xd [(fl, v)]) ∧ ∀ p, H p = none → Q (.ref p) (upd H p (.tup [.str wd, v]))
def TT3 (CN CT : Addr) : (XK → Hp → VK → Prop) → Hp → VK → Prop := fun tl H Q => ∀ Qn, tl (Ech CN CT Q) H Qn
structure ToldK (K : PySem.W.Frag) (mg : Str → Option Value) (CR CN CT : Addr) : Prop where
  mR : mg "Refused" = some (.ref CR)
  mN : mg "InvalidNumber" = some (.ref CN)
  mT : mg "InvalidTimes" = some (.ref CT)
  xN : XfC K CN
  xT : XfC K CT
  nN : PySem.W.findIn K (.ref CN) "word" = some none
  nT : PySem.W.findIn K (.ref CT) "at" = some none
  tR : PySem.W.exmOne K (.ref CT) (.ref CR) = some false
  tN : PySem.W.exmOne K (.ref CT) (.ref CN) = some false
  tT : PySem.W.exmOne K (.ref CT) (.ref CT) = some true
  nR : PySem.W.exmOne K (.ref CN) (.ref CR) = some false
  nN' : PySem.W.exmOne K (.ref CN) (.ref CN) = some true
theorem takes2 {X : Cx} {W : WX} {n : Nat} (hn : X.N.length = n) (t : Takes X W) : Takes X (fun cls d σ H => σ.length = n → W cls d σ H) := fun u s' ⟨a, B, sI, pins, σ, H, cls, d, e, I, nb, up, sky, na, os, ag, w⟩ =>
  t u s' ⟨a, B, sI, pins, σ, H, cls, d, e, I, nb, up, sky, na, os, ag, w (I.len.trans hn)⟩
theorem two_get {σ : L2.St} (h : σ.length = 2) {x : Option L2.V} : (σ.set 1 x)[1]? = some x := List.getElem?_set_self (by omega)
abbrev toldX (X : Cx) (g : Addr) (cdg : Value) (s : Shared) (H : Hp) : Cx := (cxOf C8.CX0 X.prog X.w X.K X.mg X.base N__law_told "_law_told" (defScope s__law_told) g cdg X.A X.stack s H C8.E0).nox
theorem told3_gives {X : Cx} {q : Str} {g CR CN CT : Addr} {cdg : Value} (Z : ToldK X.K X.mg CR CN CT) : LamX.GivesTo X N__law_told "_law_told" (defScope s__law_told) g cdg (defBody s__law_told) "_law_deed" q (TT3 CN CT) := by
  intro f c' s H Q tl act hc h
  refine ⟨_, pss_one (ps_try_clz (X := toldX X g cdg s H)
      (l := [⟨.ref CR, 1, fun _ _ _ _ _ _ => False⟩, ⟨.ref CN, 1, fun a cls d => tRet (tTup (tCons (tC (.str "number")) (tCons (tXf a cls d CN "word" (tVar 1)) tNil)))⟩, ⟨.ref CT, 1, fun a cls d => tRet (tTup (tCons (tC (.str "times")) (tCons (tXf a cls d CT "at" (tVar 1)) tNil)))⟩])
      (tb := fun W D σ H => ∃ E : XK, (∀ cls d σ' H', E cls d H' → σ'.length = 2 → W cls d σ' H') ∧ σ[0]? = some (some (.ref f)) ∧ H c' = some (LamX.CodeO c' q) ∧ ∀ Qn, tl E H Qn)
      rfl rfl sc__law_told.nd takes0 (fun W pn xe tk _ => ?_)
      (.cons ⟨by rfl, by decide, .inl Z.mR⟩ rfl (by rfl) (fun a oe cls d pn _ _ => ⟨fun _ _ _ _ _ _ h => h.elim⟩)
        (.cons ⟨by rfl, by decide, .inl Z.mN⟩ rfl (by rfl) (fun a oe cls d pn hz hf => pss_one (ps_ret (pe_tup (pa_cons pe_str (pa_cons (pe_xf (X := toldX X g cdg s H) (a := a) (pn := pn) Z.xN Z.nN hz hf (pv 1)) pa_nil)))))
          (.cons ⟨by rfl, by decide, .inl Z.mT⟩ rfl (by rfl) (fun a oe cls d pn hz hf => pss_one (ps_ret (pe_tup (pa_cons pe_str (pa_cons (pe_xf (X := toldX X g cdg s H) (a := a) (pn := pn) Z.xT Z.nT hz hf (pv 1)) pa_nil))))) .nil)))), ?_⟩
  · refine ⟨fun pins s' σ H' D I h' => ?_⟩
    obtain ⟨E, hW, h1, h2, h3⟩ := h'
    have hp := fun p1 p2 => act _ pn xe E p1 p2 (takes2 (n := 2) rfl tk) hW
    exact (pss_one (ps_ret (pe_tup (pa_cons pe_str (pa_cons (hp _ _) pa_nil))))).run pins s' σ H' D I ⟨h1, h2, h3 _⟩
  · refine ⟨Ech CN CT Q, fun cls d σ' H' ⟨v, fl, wd, Cx, hx, hcl, dd, hd, hdd, k⟩ hl => ?_, rfl, hc, h⟩
    subst hcl hd
    rcases hx with ⟨rfl, rfl, rfl⟩ | ⟨rfl, rfl, rfl⟩
    · refine ⟨false, Z.tR, nofun, fun _ => ⟨false, Z.tN, nofun, fun _ => ⟨true, Z.tT, fun _ a na => ?_, nofun⟩⟩⟩
      exact ⟨.ref a, two_get hl, rfl, rfl, dd, _, v, rfl, hdd, rfl, by show 2 ≤ sizeLine; rw [sizeLine_eq]; omega, fun p np => k p np⟩
    · refine ⟨false, Z.nR, nofun, fun _ => ⟨true, Z.nN', fun _ a na => ?_, nofun⟩⟩
      exact ⟨.ref a, two_get hl, rfl, rfl, dd, _, v, rfl, hdd, rfl, by show 2 ≤ sizeLine; rw [sizeLine_eq]; omega, fun p np => k p np⟩
/-! ### data behind a lambda that was made -/
mutual
theorem Rp.extN {A : Addr → Prop} {H H' : Hp} (e : LamX.ExtN H H') : ∀ {v : L2.V} {d : PD}, Rp A H v d → Rp A H' v d
  | _, _, .non => .non
  | _, _, .bl b => .bl b
  | _, _, .int i => .int i
  | _, _, .str x => .str x
  | _, _, .lst h n r => .lst (e _ _ h nofun) n (RpL.extN e r)
  | _, _, .tup h n r => .tup (e _ _ h nofun) n (RpL.extN e r)
  | _, _, .tab h n r t => .tab (e _ _ h nofun) n (Rp.extN e r) (Rp.extN e t)
theorem RpL.extN {A : Addr → Prop} {H H' : Hp} (e : LamX.ExtN H H') : ∀ {vs : List L2.V} {ds : List PD}, RpL A H vs ds → RpL A H' vs ds
  | _, _, .nil => .nil
  | _, _, .cons r t => .cons (Rp.extN e r) (RpL.extN e t)
end
end K42
/-! text P30 -/
set_option Elab.async false
set_option linter.all false
set_option maxRecDepth 100000
set_option maxHeartbeats 4000000
namespace K42
open PySem PySem.Spec PyProof.Rows L2

/-! The law's judgement of what is refused. -/
section
variable {P : Program} {w : World} {K : PySem.W.Frag} {mg : Str → Option Value} {base : Heap} {CT CN CR P0 c0 : Addr}
abbrev s__law_bad_right0 : Stmt := top 78
def badQ : Str := (envOfC "_law_bad_right" (defScope s__law_bad_right0) 0 0 .none).qual ++ "<lambda>"
def SpBad (F : PySem.W.Frag) (P0 : Addr) : Sp := fun vs H Q _ => ∃ (v : L2.V) (n : Nat) (ts : List TieT) (dt : PD), vs = [v, .int n] ∧ Rp (fun _ => False) H v dt ∧ TbD F n ts dt ∧ 1 ≤ n ∧ n ≤ 12 ∧ LamX.Tabs [(P0, badQ)] H ∧ ∀ H', LamX.ExtN H H' → Q (.bl true) H'
/-- a def whose code object is known -/
def DnC (K : PySem.W.Frag) (mg : Str → Option Value) (x : Str) (st : Stmt) (c : Addr) : Prop := ∃ f fd, FunD K x x (defArgs st) (defBody st) (defScope st) [] [] f fd ∧ mg x = some (.ref f) ∧ fd.code = .ref c
theorem rp_self {dv : PD} (h : (∃ z, dv = .int z) ∨ dv = .str "batches") {wd : Str} (hw : wd = "times" ∨ wd = "number") : PyData.eqv (.tuple [.str wd, dv]) (.tuple [.str wd, dv]) = true ∧ SeqAt.shaped (.tuple [.str wd, dv]) = true := by
  have c1 : Plain 0 dv := by
    rcases h with ⟨z, rfl⟩ | rfl
    · exact ⟨rfl, Nat.le_refl _⟩
    · exact ⟨by rw [PyData.canLay0]; decide +kernel, Nat.le_refl _⟩
  have c2 : Plain 0 (.str wd) := by rcases hw with rfl | rfl <;> exact ⟨by rw [PyData.canLay0]; decide +kernel, Nat.le_refl _⟩
  have sh : SeqAt.shaped (.tuple [.str wd, dv]) = true := (plain_tup (k := 0) fun d hd => by
      simp only [List.mem_cons, List.not_mem_nil, or_false] at hd
      rcases hd with rfl | rfl
      · exact c2
      · exact c1).shaped (by decide)
  rcases h with ⟨z, rfl⟩ | rfl
  · exact ⟨by simp [PyData.eqv, PyData.eqvAll], sh⟩
  · exact ⟨by simp [PyData.eqv, PyData.eqvAll], sh⟩
theorem told_ne {F : PySem.W.Frag} {T : List (Addr × Str)} {t : XK → TE} {tb : TE} {σ : L2.St} {H : Hp} {Q : Bool → Hp → Prop} {fl wd : Str} {Cx : Addr} {v : L2.V} {dv : PD} (hc : (Cx = CT ∧ fl = "at" ∧ wd = "times") ∨ (Cx = CN ∧ fl = "word" ∧ wd = "number"))
    (hv : ∀ H, Rp (fun _ => False) H v dv) (hd : (∃ z, dv = .int z) ∨ dv = .str "batches") (hT : LamX.Tabs T H)
    (ht : ∀ H1, LamX.ExtN H H1 → LamX.Tabs T H1 → ∀ (E : XK) (Qn : VK), (∀ dx H2, Ex H1 H2 → H2 dx = some (.xd [(fl, v)]) → E (.ref Cx) (some dx) H2) → t E σ H1 Qn)
    (hb : ∀ H2, LamX.ExtN H H2 → ∀ Q' : VK, (∀ y H3, Ex H2 H3 → Rp (fun _ => False) H3 y (.tuple [.str wd, dv]) → Q' y H3) → tb σ H2 Q')
    (q : ∀ H', LamX.ExtN H H' → LamX.Tabs T H' → Q false H') : tTest (tOp (rNeD F) (LamX.tLam T (TT3 CN CT) t) tb) σ H Q := by
  refine ⟨hT, fun H1 eN T1 Qn => ht H1 eN T1 _ Qn fun dx H2 e2 hx => ⟨v, fl, wd, Cx, hc, rfl, dx, rfl, hx, fun p np => ?_⟩⟩
  have e3 : Ex H1 (upd H2 p (.tup [.str wd, v])) := fun b u e => by rw [upd_ne (ne_of_none (e2 b u e) np)]; exact e2 b u e
  have n3 : LamX.ExtN H (upd H2 p (.tup [.str wd, v])) := eN.trans (LamX.ExtN.of e3)
  refine hb _ n3 _ fun y H3 e4 ry => ?_
  obtain ⟨hq, hs⟩ := rp_self hd (wd := wd) (hc.imp (·.2.2) (·.2.2))
  refine opD_ne (fun _ => False) H3 (.ref p) y (.tuple [.str wd, dv]) (.tuple [.str wd, dv]) (fun d => d = .bool false) _ (fun b z => z.elim) (.tup (e4 _ _ upd_same) id (.cons (.str _) (.cons (hv _) .nil))) ry ⟨hs, hs, by rw [hq]; rfl⟩ fun x H4 d e5 rx ed => ?_
  subst ed
  cases rx
  exact ⟨false, rfl, q H4 (n3.trans (LamX.ExtN.of fun b u e => e5 b u (e4 b u e))) (T1.ext fun b u e => e5 b u (e4 b u (e3 b u e)))⟩
/-- what the turns keep -/
structure BadInv (n : Nat) (dt : PD) (l : Addr) (ws : List L2.V) (ds : List PD) (P0 : Addr) (H0 : Hp) (σ : L2.St) (H : Hp) : Prop where
  len : σ.length = 4
  s0 : ∃ v, σ[0]? = some (some v) ∧ Rp (fun _ => False) H v dt
  s1 : σ[1]? = some (some (.int n))
  lst : H l = some (.lst ws)
  its : RpL (fun _ => False) H ws ds
  tab : LamX.Tabs [(P0, badQ)] H
  ext : LamX.ExtN H0 H
abbrev s__law_bad_right : Stmt := top 78
abbrev N__law_bad_right : List Str := ["_law_table", "_law_many", "_law_value", "_law_at"]
theorem sc__law_bad_right : FnScope N__law_bad_right ["_law_table", "_law_many"] (defScope s__law_bad_right) := ⟨rfl, rfl, rfl, by decide +kernel, rfl, by decide +kernel, by decide +kernel⟩

/-- @TERM _law_bad_right -/
theorem ok__law_bad_right (T : Tx mg) (D : DnC K mg "_law_bad_right" s__law_bad_right c0) (Dt : Dn K mg "_law_told" s__law_told) (Z : ToldK K mg CR CN CT) (TB : LamX.TabB base mg c0 P0)
    (c__law_bad_times : Cl P w K mg base 1 "_law_bad_times" (SpP p_law_bad_times)) (c__law_bad_batches : Cl P w K mg base 1 "_law_bad_batches" (SpP p_law_bad_batches))
    (x_limits : Cx' P w K mg base 6 "limits" (SpR (p_bad_times K CT))) (x_is_within : Cx' P w K mg base 5 "is_within" (SpR (p_bad_within CN))) : Cl P w K mg base 9 "_law_bad_right" (SpBad K P0) := by
  have sc := sc__law_bad_right
  obtain ⟨f, fd, F, m, hc⟩ := D
  refine ⟨f, fd, ["_law_table", "_law_many"], ?_, m, F.kp, F.bindsN fun _ _ _ _ _ _ us hl => match us, hl with | [_, _], _ => rfl⟩
  obtain ⟨oc, od, dV, kV, doc, pm, an, cdv, ct, osl, rfl, lk, hcd, _, _⟩ := F.ex
  have hc : cdv = .ref c0 := hc
  subst hc
  obtain ⟨g, gd, G, gm⟩ := Dt
  have Gb := G.bindsN (ps := ["_law_deed"]) fun _ _ _ _ _ _ us hl => match us, hl with | [_], _ => rfl
  obtain ⟨goc, god, gdV, gkV, gdoc, gpm, gan, gcdv, gct, gosl, rfl, glk, ghcd, _, _⟩ := G.ex
  have tk := And.intro gm (And.intro G.kp (And.intro glk (And.intro ghcd Gb)))
  refine fn_of lk hcd sc (fun vs H Q E h => by obtain ⟨_, _, _, _, rfl, _⟩ := h; rfl) fun A outer s H vs Q E hr h => ?_
  have hu := hr.units
  suffices hh : ∃ t, PSs (cxOf CX0 P w K mg base N__law_bad_right "_law_bad_right" (defScope s__law_bad_right) f (.ref c0) A outer s H E).nox (defBody s__law_bad_right) t ∧ t { nx := fun _ H' => Q .non H', rt := Q } (L2.start N__law_bad_right vs) H by
    obtain ⟨t, a, b⟩ := hh
    exact ⟨t, a.nox, b⟩
  refine ⟨_, (pss_cons (ps_for PassesOwn.never rfl (pi_list (pe_cl c__law_bad_times hr (by first | decide | omega) (by rfl) (pa_cons (pv 1) pa_nil))) (pg_tup rfl (pgs_cons (pg_name (i := 2) sc.nd rfl (by first | exact Or.inl rfl | exact Or.inr rfl)) (pgs_cons (pg_name (i := 3) sc.nd rfl (by first | exact Or.inl rfl | exact Or.inr rfl)) pgs_nil)))
      (pss_one (ps_if (pt_cmpR (opNe (F := K) hu) (LamX.pe_lamcall (T := [(P0, badQ)]) (TT := TT3 CN CT) (k := 6) (by rfl) tk.1 tk.2.1 tk.2.2.1 tk.2.2.2.1 tk.2.2.2.2 sc__law_told rfl (Or.inl rfl) (told3_gives Z) TB rfl (List.mem_singleton.mpr rfl) (fun p hp _ => by rw [List.mem_singleton.mp hp]; rfl) hr (LamX.lamS_by (show LamX.lamSB (defScope s__law_bad_right) _ = true from by decide +kernel)) rfl (fun _ _ _ _ _ => rfl) (fun A' o' s' H' E' f' c' hr' => (pe_cx x_limits hr' (by first | decide | omega) (takes_of rfl rfl rfl rfl) (by rfl) (pa_cons (pv 0) (pa_cons (pv 2) pa_nil))))) (pe_tup (pa_cons pe_str (pa_cons (pv 3) pa_nil))) (nomark _)) (pss_one (ps_ret pe_bl)) pss_nil)))
    (pss_cons (ps_for PassesOwn.never rfl (pi_list (pe_cl0 c__law_bad_batches hr (by first | decide | omega) (by rfl) pa_nil)) (pg_name (i := 2) sc.nd rfl (by first | exact Or.inl rfl | exact Or.inr rfl))
      (pss_one (ps_if (pt_cmpR (opNe (F := K) hu) (LamX.pe_lamcall (T := [(P0, badQ)]) (TT := TT3 CN CT) (k := 6) (by rfl) tk.1 tk.2.1 tk.2.2.1 tk.2.2.2.1 tk.2.2.2.2 sc__law_told rfl (Or.inl rfl) (told3_gives Z) TB rfl (List.mem_singleton.mpr rfl) (fun p hp _ => by rw [List.mem_singleton.mp hp]; rfl) hr (LamX.lamS_by (show LamX.lamSB (defScope s__law_bad_right) _ = true from by decide +kernel)) rfl (fun _ _ _ _ _ => rfl) (fun A' o' s' H' E' f' c' hr' => (pe_cx x_is_within hr' (by first | decide | omega) (takes_of rfl rfl rfl rfl) (by rfl) (pa_cons (pe_tup (pa_cons pe_non (pa_cons pe_int pa_nil))) (pa_cons (pv 2) pa_nil))))) (pe_tup (pa_cons pe_str (pa_cons pe_str pa_nil))) (nomark _)) (pss_one (ps_ret pe_bl)) pss_nil)))
    (pss_one (ps_ret pe_bl)))), ?_⟩
  obtain ⟨v, n, ts, dt, rfl, rv, tb, n1, n12, tabs, q⟩ := h
  have l4 : (L2.start N__law_bad_right [v, .int n]).length = 4 := rfl
  obtain ⟨X0, hX0⟩ : ∃ X0 : Addr → Prop, X0 = fun _ => False := ⟨_, rfl⟩
  -- the first loop
  refine ⟨.int n, rfl, fun _ => False, [en n], fun d => ∃ ps : List (PD × Int), d = .list (ps.map encBT) ∧ (∀ p ∈ ps, BadT n p.1 p.2), fun b z => z.elim, .cons (.int _) .nil, ⟨n, rfl, n1, n12, fun ps h _ => ⟨ps, rfl, h⟩⟩, fun u H1 d e1 r1 ⟨ps, ed, hps⟩ => ?_⟩
  subst ed
  cases r1 with
  | @lst l ws _ hl nl rl =>
  refine ⟨l, rfl, ⟨ws, .inl (.inl hl)⟩, ?_⟩
  have x1 : LamX.ExtN H H1 := LamX.ExtN.of e1
  have S := src_list (K := K) (a := l) rl.length
  refine for_it S.walk (fun i σ' H' => BadInv n dt l ws (ps.map encBT) P0 H σ' H') ⟨l4, ⟨v, rfl, rv.ex e1⟩, rfl, hl, rl, tabs.ext e1, x1⟩ (fun i σ' H' _ B => B.lst) (fun i x σ' H' H'' hi B y => ?_) fun σ' H' B => ?_
  · obtain ⟨eH, ex⟩ := y
    rw [eH]
    obtain ⟨d, hd, rd⟩ := B.its.getV ex
    obtain ⟨p, hp, rfl⟩ := map_get hd
    have bad := hps p (List.mem_of_getElem? hp)
    refine tg_tup (js := [2, 3]) rfl rfl _ H' σ' x (encBT p) [p.1, .int p.2] _ rd rfl fun us ru lu => ?_
    cases ru with
    | @cons u1 _ _ _ r1 ru =>
    cases ru with
    | @cons u2 _ _ _ r2 ru =>
    cases ru
    cases r2
    obtain ⟨v0, s0, rv0⟩ := B.s0
    have g0 : (putVs σ' [2, 3] [u1, .int p.2])[0]? = some (some v0) := by
      show ((σ'.set 2 (some u1)).set 3 (some (.int p.2)))[0]? = _
      rw [List.getElem?_set_ne (by decide), List.getElem?_set_ne (by decide)]; exact s0
    have g1 : (putVs σ' [2, 3] [u1, .int p.2])[1]? = some (some (.int n)) := by
      show ((σ'.set 2 (some u1)).set 3 (some (.int p.2)))[1]? = _
      rw [List.getElem?_set_ne (by decide), List.getElem?_set_ne (by decide)]; exact B.s1
    have g2 : (putVs σ' [2, 3] [u1, .int p.2])[2]? = some (some u1) := by
      show ((σ'.set 2 (some u1)).set 3 (some (.int p.2)))[2]? = _
      rw [List.getElem?_set_ne (by decide), List.getElem?_set_self (by rw [B.len]; decide)]
    have g3 : (putVs σ' [2, 3] [u1, .int p.2])[3]? = some (some (.int p.2)) := by
      show ((σ'.set 2 (some u1)).set 3 (some (.int p.2)))[3]? = _
      rw [List.getElem?_set_self (by rw [List.length_set, B.len]; decide)]
    have gl : (putVs σ' [2, 3] [u1, .int p.2]).length = 4 := by
      show ((σ'.set 2 (some u1)).set 3 (some (.int p.2))).length = _
      rw [List.length_set, List.length_set, B.len]
    generalize putVs σ' [2, 3] [u1, .int p.2] = τ at g0 g1 g2 g3 gl
    refine told_ne (v := .int p.2) (dv := .int p.2) (.inl ⟨rfl, rfl, rfl⟩) (fun _ => .int _) (.inl ⟨_, rfl⟩) B.tab (fun H1 eN T1 E0 Qn k => ?_) (fun H2 eN Q' k => ?_) fun H3 eN T3 => ?_
    · exact ⟨v0, g0, u1, g2, fun _ => False, [dt, p.1], fun cls fs => cls = .ref CT ∧ fs = [(("at" : Str), L2.V.int p.2)], fun b z => z.elim, .cons (rv0.extN eN) (.cons (r1.extN eN) .nil), ⟨n, ts, dt, p.1, p.2, tb, rfl, bad, rfl, rfl⟩, fun cls dx fs H4 e4 _ hx ⟨a1, a2⟩ => by
        subst a1 a2
        exact k dx H4 e4 hx⟩
    · exact ⟨.int p.2, g3, sz6 (show 2 ≤ 1000000 by decide), fun q nq => k _ _ (Ex.new nq) (.tup upd_same id (.cons (.str _) (.cons (.int _) .nil)))⟩
    · rw [if_neg Bool.false_ne_true]
      exact ⟨gl, ⟨v0, g0, rv0.extN eN⟩, g1, eN _ _ B.lst nofun, B.its.extN eN, T3, B.ext.trans eN⟩
  -- the second loop
  · refine ⟨fun _ => False, [], fun d => ∃ es : List PD, d = .list es ∧ (∀ e ∈ es, BadB e), fun b z => z.elim, .nil, ⟨rfl, fun es h _ => ⟨es, rfl, h⟩⟩, fun u H2 d e2 r2 ⟨es, ed, hes⟩ => ?_⟩
    subst ed
    cases r2 with
    | @lst l2 ws2 _ hl2 nl2 rl2 =>
    refine ⟨l2, rfl, ⟨ws2, .inl (.inl hl2)⟩, ?_⟩
    have S2 := src_list (K := K) (a := l2) rl2.length
    obtain ⟨v0, s0, rv0⟩ := B.s0
    refine for_it S2.walk (fun i σ' H' => BadInv n dt l2 ws2 es P0 H σ' H') ⟨B.len, ⟨v0, s0, rv0.ex e2⟩, B.s1, hl2, rl2, B.tab.ext e2, B.ext.trans (LamX.ExtN.of e2)⟩ (fun i σ' H' _ B => B.lst) (fun i x σ' H' H'' hi B y => ?_) fun σ' H' B => ?_
    · obtain ⟨eH, ex⟩ := y
      rw [eH]
      obtain ⟨d, hd, rd⟩ := B.its.getV ex
      have bad := hes d (List.mem_of_getElem? hd)
      obtain ⟨v0, s0, rv0⟩ := B.s0
      show tIfS _ _ _ _ (σ'.set 2 (some x)) H'
      have g0 : (σ'.set 2 (some x))[0]? = some (some v0) := by
        rw [List.getElem?_set_ne (by decide)]; exact s0
      have g1 : (σ'.set 2 (some x))[1]? = some (some (.int n)) := by
        rw [List.getElem?_set_ne (by decide)]; exact B.s1
      have g2 : (σ'.set 2 (some x))[2]? = some (some x) := List.getElem?_set_self (by rw [B.len]; decide)
      have gl : (σ'.set 2 (some x)).length = 4 := by rw [List.length_set, B.len]
      generalize σ'.set 2 (some x) = τ at g0 g1 g2 gl
      refine told_ne (v := .str "batches") (dv := .str "batches") (.inr ⟨rfl, rfl, rfl⟩) (fun _ => .str _) (.inr rfl) B.tab (fun H1 eN T1 E0 Qn k => ?_) (fun H2 eN Q' k => ?_) fun H3 eN T3 => ?_
      · refine ⟨sz6 (show 2 ≤ 1000000 by decide), fun q nq => ⟨x, g2, fun _ => False, [.tuple [.none, .int 3], d], fun cls fs => cls = .ref CN ∧ fs = [(("word" : Str), L2.V.str "batches")], fun b z => z.elim,
          .cons (.tup upd_same id (.cons .non (.cons (.int _) .nil))) (.cons ((rd.extN eN).ex (Ex.new nq)) .nil), ⟨_, d, rfl, bad, rfl, rfl⟩, fun cls dx fs H4 e4 _ hx ⟨a1, a2⟩ => by
          subst a1 a2
          exact k dx H4 (fun b u hb => e4 b u (Ex.new nq b u hb)) hx⟩⟩
      · exact ⟨sz6 (show 2 ≤ 1000000 by decide), fun q nq => k _ _ (Ex.new nq) (.tup upd_same id (.cons (.str _) (.cons (.str _) .nil)))⟩
      · rw [if_neg Bool.false_ne_true]
        exact ⟨gl, ⟨v0, g0, rv0.extN eN⟩, g1, eN _ _ B.lst nofun, B.its.extN eN, T3, B.ext.trans eN⟩
    · exact q H' B.ext
end

end K42
/-! text Math1 -/
set_option Elab.async false
set_option linter.all false
set_option maxRecDepth 100000
/-! Plain law, 1: rows grow; the two ways to tell the limits agree. -/
namespace K42
open PySem PySem.Spec PyProof.Rows L2
/-! ### first places -/
def fstP (p : Nat → Bool) (N : Nat) : Option Nat := ((List.range N).filter p).head?
theorem fst_some {p : Nat → Bool} : ∀ {N m : Nat}, fstP p N = some m ↔ m < N ∧ p m = true ∧ ∀ i, i < m → p i = false
  | 0, m => by simp [fstP]
  | N + 1, m => by
    have ih := fst_some (p := p) (N := N) (m := m)
    unfold fstP at ih ⊢
    rw [List.range_succ, List.filter_append, List.head?_append]
    cases e : ((List.range N).filter p).head? with
    | some k =>
      rw [e] at ih
      rw [Option.some_or, ih]
      constructor
      · rintro ⟨h1, h2⟩; exact ⟨by omega, h2⟩
      · rintro ⟨h1, h2, h3⟩
        refine ⟨?_, h2, h3⟩
        have hk := (fst_some (p := p) (N := N) (m := k)).mp e
        by_cases z : m = N
        · have := h3 k (by omega)
          rw [hk.2.1] at this; cases this
        · omega
    | none =>
      have all : ∀ i, i < N → p i = false := fun i hi => by
        have h0 : (List.range N).filter p = [] := List.head?_eq_none_iff.mp e
        have := List.filter_eq_nil_iff.mp h0 i (List.mem_range.mpr hi)
        simpa using this
      rw [Option.none_or]
      by_cases hN : p N = true
      · simp [hN]
        constructor
        · rintro rfl; exact ⟨Nat.lt_succ_self _, hN, all⟩
        · rintro ⟨h1, h2, h3⟩
          by_cases z : m < N
          · rw [all m z] at h2; cases h2
          · omega
      · simp [hN]
        intro h1 h2
        by_cases z : m < N
        · rw [all m z] at h2; cases h2
        · rw [show m = N by omega] at h2; exact absurd h2 hN
theorem fst_none {p : Nat → Bool} {N : Nat} : fstP p N = none ↔ ∀ i, i < N → p i = false := by
  unfold fstP
  rw [List.head?_eq_none_iff, List.filter_eq_nil_iff]
  constructor
  · intro h i hi
    simpa using h i (List.mem_range.mpr hi)
  · intro h i hi
    rw [h i (List.mem_range.mp hi)]; exact Bool.false_ne_true
theorem fst_ext {p q : Nat → Bool} {N : Nat} (h : ∀ i, i < N → p i = q i) : fstP p N = fstP q N := by
  unfold fstP
  congr 1
  exact List.filter_congr fun i hi => h i (List.mem_range.mp hi)
theorem minO_none (q : Option Nat) : minO none q = q := by cases q <;> rfl
theorem minO_assoc (a b c : Option Nat) : minO (minO a b) c = minO a (minO b c) := by
  cases a <;> cases b <;> cases c <;> simp [minO, Nat.min_assoc]
theorem fst_or {p q : Nat → Bool} {N : Nat} : fstP (fun i => p i || q i) N = minO (fstP p N) (fstP q N) := by
  cases hp : fstP p N with
  | none =>
    rw [minO_none]
    have := fst_none.mp hp
    exact fst_ext fun i hi => by rw [this i hi, Bool.false_or]
  | some a =>
    obtain ⟨a1, a2, a3⟩ := fst_some.mp hp
    cases hq : fstP q N with
    | none =>
      have := fst_none.mp hq
      rw [show minO (some a) none = some a from rfl, ← hp]
      exact fst_ext fun i hi => by rw [this i hi, Bool.or_false]
    | some b =>
      obtain ⟨b1, b2, b3⟩ := fst_some.mp hq
      show _ = some (min a b)
      rw [fst_some]
      refine ⟨by omega, ?_, fun i hi => by rw [a3 i (by omega), b3 i (by omega)]; rfl⟩
      by_cases h : a ≤ b
      · rw [Nat.min_eq_left h, a2]; rfl
      · rw [Nat.min_eq_right (by omega), b2, Bool.or_true]
theorem fst_any {q : Nat → Nat → Bool} {N : Nat} : ∀ (vs : List Nat) (acc : Option Nat), vs.foldl (fun a v => minO a (fstP (fun m => q m v) N)) acc = minO acc (fstP (fun m => vs.any fun v => q m v) N)
  | [], acc => by
    have : fstP (fun m => ([] : List Nat).any fun v => q m v) N = none := fst_none.mpr fun i _ => rfl
    rw [this]; rfl
  | v :: vs, acc => by
    rw [List.foldl_cons, fst_any vs, minO_assoc]
    congr 1
    rw [← fst_or]; rfl
/-! ### rows grow -/
theorem row_grow {ts : List TieT} {n v u k : Nat} {x : Int} (h : (rowAt ts n v k).getD u none = some x) : ∃ y, (rowAt ts n v (k + 1)).getD u none = some y ∧ x ≤ y := foldRow_keep h
theorem row_mono {ts : List TieT} {n v u k : Nat} : ∀ {j : Nat} {x : Int}, (rowAt ts n v k).getD u none = some x → ∃ y, (rowAt ts n v (k + j)).getD u none = some y ∧ x ≤ y
  | 0, x, h => ⟨x, h, Int.le_refl _⟩
  | j + 1, x, h => by
    obtain ⟨y, h1, h2⟩ := row_mono (j := j) h
    obtain ⟨z, h3, h4⟩ := row_grow h1
    exact ⟨z, h3, by omega⟩
theorem row_le {ts : List TieT} {n v u k m : Nat} {x : Int} (hk : k ≤ m) (h : (rowAt ts n v k).getD u none = some x) : ∃ y, (rowAt ts n v m).getD u none = some y ∧ x ≤ y := by
  have := row_mono (j := m - k) h
  rw [show k + (m - k) = m by omega] at this
  exact this
theorem short_mono {ts : List TieT} {n a b k m : Nat} {tms : Tms} (hk : k ≤ m) (h : shortAt ts n tms k a b = true) : shortAt ts n tms m a b = true := by
  unfold shortAt at h ⊢
  cases hx : (rowAt ts n a k).getD b none with
  | none => rw [hx] at h; cases h
  | some x =>
    rw [hx] at h
    obtain ⟨y, h1, h2⟩ := row_le hk hx
    rw [h1]
    have h := of_decide_eq_true h
    exact decide_eq_true (by omega)
theorem ring_mono {ts : List TieT} {n v k m : Nat} (hv : v < n) (hk : k ≤ m) (h : ringAt ts n k v = true) : ringAt ts n m v = true := by
  unfold ringAt at h ⊢
  obtain ⟨x, hx, _⟩ := rowAt_self (ts := ts) hv k
  obtain ⟨y, h1, h2⟩ := row_le hk hx
  rw [hx] at h
  rw [h1]
  have h : 0 < x := of_decide_eq_true h
  exact decide_eq_true (show 0 < y by omega)
theorem ring_0 {ts : List TieT} {n v : Nat} (hv : v < n) : ringAt ts n 0 v = false := by
  unfold ringAt
  rw [rowAt, row0, List.getD_eq_getElem?_getD, List.getElem?_map, List.getElem?_range hv]
  show decide (0 < ((if v = v then some (0 : Int) else none)).getD 0) = false
  rw [if_pos rfl]; rfl
theorem short_0 {ts : List TieT} {n a b : Nat} {tms : Tms} (h : shortAt ts n tms 0 a b = true) : a = b ∧ False := by
  unfold shortAt at h
  rw [rowAt, row0, List.getD_eq_getElem?_getD, List.getElem?_map] at h
  cases q : (List.range n)[b]? with
  | none => rw [q] at h; cases h
  | some i =>
    have hb : i = b := by
      obtain ⟨h1, h2⟩ := List.getElem?_eq_some_iff.mp q
      simpa using h2.symm
    rw [q] at h
    subst hb
    by_cases z : i = a
    · subst z
      have h : (match (if i = i then some (0 : Int) else none) with | none => false | some x => decide (tAt tms i - tAt tms i < x)) = true := h
      rw [if_pos rfl] at h
      have := of_decide_eq_true h
      omega
    · have h : (match (if i = a then some (0 : Int) else none) with | none => false | some x => decide (tAt tms i - tAt tms a < x)) = true := h
      rw [if_neg z] at h; cases h
/-! ### too short, held -/
theorem tooShort_iff {ts : List TieT} {n m : Nat} {tms : Tms} : tooShort ts n tms m = true ↔ ∃ a b, a < tms.length ∧ b < tms.length ∧ isSm tms a = true ∧ isSm tms b = true ∧ shortAt ts n tms m a b = true := by
  unfold tooShort comeL
  rw [List.any_eq_true]
  constructor
  · rintro ⟨a, ha, h⟩
    obtain ⟨b, hb, h⟩ := List.any_eq_true.mp h
    obtain ⟨a1, a2⟩ := List.mem_filter.mp ha
    obtain ⟨b1, b2⟩ := List.mem_filter.mp hb
    exact ⟨a, b, List.mem_range.mp a1, List.mem_range.mp b1, a2, b2, h⟩
  · rintro ⟨a, b, h1, h2, h3, h4, h5⟩
    exact ⟨a, List.mem_filter.mpr ⟨List.mem_range.mpr h1, h3⟩, List.any_eq_true.mpr ⟨b, List.mem_filter.mpr ⟨List.mem_range.mpr h2, h4⟩, h5⟩⟩
theorem hasRing_iff {ts : List TieT} {n m : Nat} {tms : Tms} : hasRing ts n tms m = true ↔ ∃ a, a < tms.length ∧ (tms.getD a none).isNone = true ∧ ringAt ts n m a = true := by
  unfold hasRing missL
  rw [List.any_eq_true]
  constructor
  · rintro ⟨a, ha, h⟩
    obtain ⟨a1, a2⟩ := List.mem_filter.mp ha
    exact ⟨a, List.mem_range.mp a1, a2, h⟩
  · rintro ⟨a, h1, h2, h3⟩
    exact ⟨a, List.mem_filter.mpr ⟨List.mem_range.mpr h1, h2⟩, h3⟩
theorem tooShort_mono {ts : List TieT} {n k m : Nat} {tms : Tms} (hk : k ≤ m) (h : tooShort ts n tms k = true) : tooShort ts n tms m = true := by
  obtain ⟨a, b, h1, h2, h3, h4, h5⟩ := tooShort_iff.mp h
  exact tooShort_iff.mpr ⟨a, b, h1, h2, h3, h4, short_mono hk h5⟩
theorem hasRing_mono {ts : List TieT} {n k m : Nat} {tms : Tms} (hn : tms.length = n) (hk : k ≤ m) (h : hasRing ts n tms k = true) : hasRing ts n tms m = true := by
  obtain ⟨a, h1, h2, h3⟩ := hasRing_iff.mp h
  exact hasRing_iff.mpr ⟨a, h1, h2, ring_mono (by omega) hk h3⟩
theorem held_iff {ts : List TieT} {n : Nat} {tms : Tms} {r : Nat × Nat} (hn : tms.length = n) : heldL ts n tms r = true ↔ tooShort ts n tms (min r.1 (2 * n + 2)) = false ∧ hasRing ts n tms (min r.2 (2 * n + 2)) = false := by
  rw [← Bool.not_eq_true, ← Bool.not_eq_true, tooShort_iff, hasRing_iff]
  unfold heldL
  rw [List.all_eq_true]
  constructor
  · intro h
    refine ⟨?_, ?_⟩
    · rintro ⟨a, b, h1, h2, h3, h4, h5⟩
      have ha := h a (List.mem_range.mpr (by omega))
      obtain ⟨_, ha⟩ := Bool.and_eq_true_iff.mp ha
      have hb := List.all_eq_true.mp ha b (List.mem_range.mpr (by omega))
      rw [shortP, h3, h4, h5] at hb
      cases hb
    · rintro ⟨a, h1, h2, h3⟩
      have ha := h a (List.mem_range.mpr (by omega))
      obtain ⟨ha, _⟩ := Bool.and_eq_true_iff.mp ha
      rw [badAt, h2, h3] at ha
      cases ha
  · rintro ⟨h1, h2⟩ a ha
    have ha := List.mem_range.mp ha
    refine Bool.and_eq_true_iff.mpr ⟨?_, List.all_eq_true.mpr fun b hb => ?_⟩
    · cases q : badAt ts n tms (min r.2 (2 * n + 2)) a with
      | false => rfl
      | true =>
        obtain ⟨q1, q2⟩ := Bool.and_eq_true_iff.mp q
        exact absurd ⟨a, by omega, q1, q2⟩ h2
    · have hb := List.mem_range.mp hb
      cases q : shortP ts n tms (min r.1 (2 * n + 2)) a b with
      | false => rfl
      | true =>
        obtain ⟨q1, q⟩ := Bool.and_eq_true_iff.mp q
        obtain ⟨q2, q3⟩ := Bool.and_eq_true_iff.mp q
        exact absurd ⟨a, b, by omega, by omega, q1, q2, q3⟩ h1
theorem hasRing_0 {ts : List TieT} {n : Nat} {tms : Tms} (hn : tms.length = n) : hasRing ts n tms 0 = false := by
  cases q : hasRing ts n tms 0 with
  | false => rfl
  | true =>
    obtain ⟨a, h1, h2, h3⟩ := hasRing_iff.mp q
    rw [ring_0 (by omega)] at h3; cases h3
theorem held_w {ts : List TieT} {n m : Nat} {tms : Tms} (hn : tms.length = n) (hm : m ≤ 2 * n) : heldL ts n tms (m, 0) = !tooShort ts n tms m := by
  have e1 : min m (2 * n + 2) = m := Nat.min_eq_left (by omega)
  have e2 : min 0 (2 * n + 2) = 0 := Nat.min_eq_left (by omega)
  have h := held_iff (ts := ts) (r := (m, 0)) hn
  simp only [e1, e2] at h
  rw [hasRing_0 hn] at h
  cases q : tooShort ts n tms m with
  | false => rw [h.mpr ⟨q, rfl⟩]; rfl
  | true =>
    cases q2 : heldL ts n tms (m, 0) with
    | false => rfl
    | true => rw [(h.mp q2).1] at q; cases q
/-- the law's limits are the program's -/
theorem limL_eq {ts : List TieT} {n : Nat} {tms : Tms} (hn : tms.length = n) : limL ts n tms = limitsOf ts n tms := by
  have h1 : firstBad ts n tms = fstP (tooShort ts n tms) (2 * n + 1) := by
    unfold firstBad
    rw [held_w hn (Nat.le_refl _)]
    cases q : tooShort ts n tms (2 * n) with
    | false =>
      show none = _
      refine (fst_none.mpr fun i hi => ?_).symm
      cases q2 : tooShort ts n tms i with
      | false => rfl
      | true => rw [tooShort_mono (by omega) q2] at q; cases q
    | true =>
      show fstP (fun m => !heldL ts n tms (m, 0)) (2 * n + 1) = _
      exact fst_ext fun i hi => by rw [held_w hn (by omega), Bool.not_not]
  have h2 : ∀ v, v < n → firstRing ts n v = fstP (fun m => ringAt ts n m v) (n + 1) := fun v hv => by
    unfold firstRing
    cases q : ringAt ts n n v with
    | true => rfl
    | false =>
      show none = _
      refine (fst_none.mpr fun i hi => ?_).symm
      cases q2 : ringAt ts n i v with
      | false => rfl
      | true => rw [ring_mono hv (by omega) q2] at q; cases q
  have h3 : ∀ (vs : List Nat) (acc : Option Nat), (∀ v ∈ vs, v < n) → vs.foldl (fun q v => minO q (firstRing ts n v)) acc = vs.foldl (fun a v => minO a (fstP (fun m => ringAt ts n m v) (n + 1))) acc := by
    intro vs
    induction vs with
    | nil => intro _ _; rfl
    | cons v vs ih =>
      intro acc h
      rw [List.foldl_cons, List.foldl_cons, h2 v (h v List.mem_cons_self)]
      exact ih _ fun u hu => h u (List.mem_cons_of_mem _ hu)
  unfold limL limitsOf
  rw [h1, h3 _ _ (fun v hv => by have := miss_lt hv; omega), fst_any, minO_none]
  rfl
end K42
/-! text Math2 -/
set_option Elab.async false
set_option linter.all false
set_option maxRecDepth 100000
/-! Plain law, 2: walks; rows are greatest weights; what is below the limits is held. -/
namespace K42
open PySem PySem.Spec PyProof.Rows L2
/-! ### walks -/
def endp : Nat → List TieT → Nat
  | v, [] => v
  | _, t :: l => endp t.2.1 l
def okw (ts : List TieT) : Nat → List TieT → Prop
  | _, [] => True
  | v, t :: l => t ∈ ts ∧ t.1 = v ∧ okw ts t.2.1 l
def wt (l : List TieT) : Int := (l.map fun t => t.2.2).sum
theorem endp_append : ∀ {l m : List TieT} {v : Nat}, endp v (l ++ m) = endp (endp v l) m
  | [], _, _ => rfl
  | t :: l, m, v => endp_append (l := l) (m := m) (v := t.2.1)
theorem okw_append {ts : List TieT} : ∀ {l m : List TieT} {v : Nat}, okw ts v (l ++ m) ↔ okw ts v l ∧ okw ts (endp v l) m
  | [], m, v => by simp [okw, endp]
  | t :: l, m, v => by
    have ih := okw_append (ts := ts) (l := l) (m := m) (v := t.2.1)
    show (t ∈ ts ∧ t.1 = v ∧ okw ts t.2.1 (l ++ m)) ↔ (t ∈ ts ∧ t.1 = v ∧ okw ts t.2.1 l) ∧ okw ts (endp t.2.1 l) m
    rw [ih]
    constructor
    · rintro ⟨a, b, c, d⟩; exact ⟨⟨a, b, c⟩, d⟩
    · rintro ⟨⟨a, b, c⟩, d⟩; exact ⟨a, b, c, d⟩
theorem wt_append {l m : List TieT} : wt (l ++ m) = wt l + wt m := by rw [wt, List.map_append, List.sum_append]; rfl
theorem wt_nil : wt [] = 0 := rfl
theorem wt_cons {t : TieT} {l : List TieT} : wt (t :: l) = t.2.2 + wt l := by rw [wt, List.map_cons, List.sum_cons]; rfl
theorem endp_lt {ts : List TieT} {n : Nat} (ok : okTs n ts) : ∀ {l : List TieT} {v : Nat}, v < n → okw ts v l → endp v l < n
  | [], v, h, _ => h
  | t :: l, v, _, ⟨h1, _, h3⟩ => endp_lt ok (l := l) (ok t h1).2 h3
/-! ### one step of a row -/
theorem fold_reach {row : Row} {t : TieT} {a : Int} (ha : row.getD t.1 none = some a) : ∀ {ts : List TieT} {f : Row}, t ∈ ts → t.2.1 < f.length → ∃ y, (ts.foldl (stepRow row) f).getD t.2.1 none = some y ∧ a + t.2.2 ≤ y
  | [], _, h, _ => by cases h
  | u :: ts, f, h, hl => by
    rcases List.mem_cons.mp h with e | e
    · subst e
      have s1 : ∃ y, (stepRow row f t).getD t.2.1 none = some y ∧ a + t.2.2 ≤ y := by
        cases hf : f.getD t.2.1 none with
        | none => rw [step_1 ha hf]; exact ⟨_, getD_set_eq hl, Int.le_refl _⟩
        | some b =>
          by_cases lt : b < a + t.2.2
          · rw [step_2 ha hf lt]; exact ⟨_, getD_set_eq hl, Int.le_refl _⟩
          · rw [step_3 ha hf lt]; exact ⟨b, hf, by omega⟩
      obtain ⟨y, h1, h2⟩ := s1
      obtain ⟨z, h3, h4⟩ := foldRow_keep (row := row) (ts := ts) h1
      exact ⟨z, h3, by omega⟩
    · exact fold_reach ha (ts := ts) (f := stepRow row f u) e (by rw [stepRow_length]; exact hl)
theorem fold_from {row : Row} {u : Nat} {x : Int} : ∀ {ts : List TieT} {f : Row}, (ts.foldl (stepRow row) f).getD u none = some x → f.getD u none = some x ∨ ∃ t ∈ ts, t.2.1 = u ∧ ∃ a, row.getD t.1 none = some a ∧ x = a + t.2.2
  | [], _, h => .inl h
  | t :: ts, f, h => by
    rcases fold_from (ts := ts) (f := stepRow row f t) h with h | ⟨s, hs, r⟩
    · have set_ : ∀ a : Int, row.getD t.1 none = some a → (f.set t.2.1 (some (a + t.2.2))).getD u none = some x → f.getD u none = some x ∨ ∃ s ∈ t :: ts, s.2.1 = u ∧ ∃ a, row.getD s.1 none = some a ∧ x = a + s.2.2 := fun a ha h => by
        by_cases e : t.2.1 = u
        · by_cases l : t.2.1 < f.length
          · rw [e] at h l
            rw [getD_set_eq l] at h
            exact .inr ⟨t, List.mem_cons_self, e, a, ha, (Option.some.inj h).symm⟩
          · rw [List.getD_eq_getElem?_getD, List.getElem?_eq_none (by rw [List.length_set]; omega)] at h; cases h
        · rw [getD_set_ne e] at h; exact .inl h
      cases ha : row.getD t.1 none with
      | none => rw [step_0 ha] at h; exact .inl h
      | some a =>
        cases hf : f.getD t.2.1 none with
        | none => rw [step_1 ha hf] at h; exact set_ a ha h
        | some b =>
          by_cases lt : b < a + t.2.2
          · rw [step_2 ha hf lt] at h; exact set_ a ha h
          · rw [step_3 ha hf lt] at h; exact .inl h
    · exact .inr ⟨s, List.mem_cons_of_mem _ hs, r⟩
/-- what stands in a row is a walk's weight -/
theorem row_walk {ts : List TieT} {n v : Nat} (hv : v < n) : ∀ {k u : Nat} {x : Int}, (rowAt ts n v k).getD u none = some x → ∃ l, okw ts v l ∧ endp v l = u ∧ l.length ≤ k ∧ wt l = x
  | 0, u, x, h => by
    rw [rowAt, row0, List.getD_eq_getElem?_getD, List.getElem?_map] at h
    cases q : (List.range n)[u]? with
    | none => rw [q] at h; cases h
    | some i =>
      have hb : i = u := by
        obtain ⟨h1, h2⟩ := List.getElem?_eq_some_iff.mp q
        simpa using h2.symm
      rw [q] at h
      have h : (if i = v then some (0 : Int) else none) = some x := h
      split at h
      · next e => cases h; exact ⟨[], trivial, by rw [← hb, e]; rfl, Nat.le_refl _, rfl⟩
      · cases h
  | k + 1, u, x, h => by
    rcases fold_from (row := rowAt ts n v k) (ts := ts) h with h | ⟨t, ht, e, a, ha, ex⟩
    · obtain ⟨l, h1, h2, h3, h4⟩ := row_walk hv h
      exact ⟨l, h1, h2, by omega, h4⟩
    · obtain ⟨l, h1, h2, h3, h4⟩ := row_walk hv ha
      refine ⟨l ++ [t], okw_append.mpr ⟨h1, ht, h2.symm, trivial⟩, ?_, ?_, ?_⟩
      · rw [endp_append]; exact e
      · rw [List.length_append]; show l.length + 1 ≤ _; omega
      · rw [wt_append, h4, ex, wt_cons, wt_nil]; omega
/-- a walk is told by the row, from its last tie -/
theorem walk_row {ts : List TieT} {n v : Nat} (ok : okTs n ts) (hv : v < n) : ∀ (k : Nat) (l : List TieT), l.length = k → okw ts v l → ∃ y, (rowAt ts n v k).getD (endp v l) none = some y ∧ wt l ≤ y
  | 0, l, h, _ => by
    rw [List.eq_nil_of_length_eq_zero h]
    obtain ⟨x, h1, h2⟩ := rowAt_self (ts := ts) hv 0
    exact ⟨x, h1, by rw [wt_nil]; exact h2⟩
  | k + 1, l, h, hw => by
    have ne : l ≠ [] := fun e => by rw [e] at h; cases h
    obtain ⟨m, t, rfl⟩ : ∃ m t, l = m ++ [t] := ⟨l.dropLast, l.getLast ne, (List.dropLast_concat_getLast ne).symm⟩
    obtain ⟨w1, w2, w3, _⟩ := okw_append.mp hw
    obtain ⟨a, h1, h2⟩ := walk_row ok hv k m (by rw [List.length_append, List.length_singleton] at h; omega) w1
    rw [← w3] at h1
    obtain ⟨y, h3, h4⟩ := fold_reach (row := rowAt ts n v k) (t := t) h1 (ts := ts) (f := rowAt ts n v k) w2 (by rw [rowAt_length]; exact (ok _ w2).2)
    refine ⟨y, ?_, ?_⟩
    · rw [endp_append]; exact h3
    · rw [wt_append, wt_cons, wt_nil]; omega
theorem short_walk {ts : List TieT} {n a b m : Nat} {tms : Tms} (ok : okTs n ts) (ha : a < n) : shortAt ts n tms m a b = true ↔ ∃ l, okw ts a l ∧ endp a l = b ∧ l.length ≤ m ∧ tAt tms b - tAt tms a < wt l := by
  unfold shortAt
  constructor
  · intro h
    cases hx : (rowAt ts n a m).getD b none with
    | none => rw [hx] at h; cases h
    | some x =>
      rw [hx] at h
      obtain ⟨l, h1, h2, h3, h4⟩ := row_walk ha hx
      exact ⟨l, h1, h2, h3, by rw [h4]; exact of_decide_eq_true h⟩
  · rintro ⟨l, h1, rfl, h3, h4⟩
    obtain ⟨y, h5, h6⟩ := walk_row ok ha l.length l rfl h1
    obtain ⟨z, h7, h8⟩ := row_le h3 h5
    rw [h7]
    exact decide_eq_true (by omega)
theorem ring_walk {ts : List TieT} {n a m : Nat} (ok : okTs n ts) (ha : a < n) : ringAt ts n m a = true ↔ ∃ l, okw ts a l ∧ endp a l = a ∧ l.length ≤ m ∧ 0 < wt l := by
  unfold ringAt
  obtain ⟨x, hx, _⟩ := rowAt_self (ts := ts) ha m
  rw [hx]
  constructor
  · intro h
    obtain ⟨l, h1, h2, h3, h4⟩ := row_walk ha hx
    exact ⟨l, h1, h2, h3, by rw [h4]; exact of_decide_eq_true h⟩
  · rintro ⟨l, h1, h2, h3, h4⟩
    obtain ⟨y, h5, h6⟩ := walk_row ok ha l.length l rfl h1
    rw [h2] at h5
    obtain ⟨z, h7, h8⟩ := row_le h3 h5
    rw [hx] at h7
    cases h7
    exact decide_eq_true (show 0 < x by omega)
end K42
/-! text Math3 -/
set_option Elab.async false
set_option linter.all false
set_option maxRecDepth 100000
/-! Plain law, 3: long walks hold a closed part; below the limits means held. -/
namespace K42
open PySem PySem.Spec PyProof.Rows L2
/-- the places of a walk -/
def vis (v : Nat) (l : List TieT) : List Nat := v :: l.map fun t => t.2.1
theorem vis_get {v : Nat} : ∀ {l : List TieT} {i : Nat}, i ≤ l.length → (vis v l)[i]? = some (endp v (l.take i))
  | l, 0, _ => rfl
  | [], i + 1, h => by simp at h
  | t :: l, i + 1, h => by
    have := vis_get (v := t.2.1) (l := l) (i := i) (by simpa using h)
    show (t.2.1 :: l.map fun t => t.2.1)[i]? = some (endp t.2.1 (l.take i))
    exact this
theorem okw_take {ts : List TieT} {v i : Nat} {l : List TieT} (h : okw ts v l) : okw ts v (l.take i) ∧ okw ts (endp v (l.take i)) (l.drop i) := by
  have e := List.take_append_drop i l
  rw [← e] at h
  exact okw_append.mp h
/-- a walk of more than n ties has a closed part of at most n ties -/
theorem closed_part {ts : List TieT} {n v : Nat} {l : List TieT} (ok : okTs n ts) (hv : v < n) (hw : okw ts v l) (hl : n ≤ l.length) : ∃ a b c, l = a ++ b ++ c ∧ b ≠ [] ∧ b.length ≤ n ∧ endp (endp v a) b = endp v a := by
  have hlen : ((vis v l).take (n + 1)).length = n + 1 := by
    rw [List.length_take, vis, List.length_cons, List.length_map]; omega
  have hmem : ∀ x ∈ (vis v l).take (n + 1), x ∈ List.range n := fun x hx => by
    obtain ⟨i, hi, e⟩ := List.getElem_of_mem (List.mem_of_mem_take hx)
    have hi' : i ≤ l.length := by rw [vis, List.length_cons, List.length_map] at hi; omega
    have := vis_get (v := v) (l := l) hi'
    rw [List.getElem?_eq_getElem hi, e] at this
    rw [Option.some.inj this]
    exact List.mem_range.mpr (endp_lt ok hv (okw_take hw).1)
  have nn : ¬ ((vis v l).take (n + 1)).Nodup := fun nd => by
    have := nodup_le nd hmem
    rw [hlen, List.length_range] at this
    omega
  have : ∃ i j, ∃ (hi : i < ((vis v l).take (n + 1)).length) (hj : j < ((vis v l).take (n + 1)).length), i < j ∧ ((vis v l).take (n + 1))[i] = ((vis v l).take (n + 1))[j] := by
    refine Classical.byContradiction fun z => nn ?_
    rw [List.nodup_iff_pairwise_ne, List.pairwise_iff_getElem]
    exact fun i j hi hj hij e => z ⟨i, j, hi, hj, hij, e⟩
  obtain ⟨i, j, hi, hj, hij, e⟩ := this
  rw [hlen] at hi hj
  rw [List.getElem_take, List.getElem_take] at e
  have gi := vis_get (v := v) (l := l) (i := i) (by omega)
  have gj := vis_get (v := v) (l := l) (i := j) (by omega)
  have li : i < (vis v l).length := by rw [vis, List.length_cons, List.length_map]; omega
  have lj : j < (vis v l).length := by rw [vis, List.length_cons, List.length_map]; omega
  rw [List.getElem?_eq_getElem li] at gi
  rw [List.getElem?_eq_getElem lj] at gj
  have ee : endp v (l.take i) = endp v (l.take j) := by rw [← Option.some.inj gi, ← Option.some.inj gj]; exact e
  have tj : l.take j = l.take i ++ (l.drop i).take (j - i) := by
    rw [show j = i + (j - i) by omega, List.take_add]
    congr 2
    omega
  refine ⟨l.take i, (l.drop i).take (j - i), l.drop j, ?_, ?_, ?_, ?_⟩
  · rw [← tj, List.take_append_drop]
  · intro z
    have := congrArg List.length z
    rw [List.length_take, List.length_drop] at this
    simp at this
    omega
  · rw [List.length_take]; omega
  · rw [← endp_append, ← tj]; exact ee.symm
/-- where no closed part of at most n ties rises, a walk may be cut to at most n ties -/
theorem cut_walk {ts : List TieT} {n v : Nat} (ok : okTs n ts) (hv : v < n) (flat : ∀ u l, u < n → okw ts u l → endp u l = u → l.length ≤ n → wt l ≤ 0) : ∀ (k : Nat) (l : List TieT), l.length ≤ k → okw ts v l → ∃ m, okw ts v m ∧ endp v m = endp v l ∧ m.length ≤ n ∧ wt l ≤ wt m
  | 0, l, h, hw => ⟨l, hw, rfl, by omega, Int.le_refl _⟩
  | k + 1, l, h, hw => by
    by_cases hl : l.length ≤ n
    · exact ⟨l, hw, rfl, hl, Int.le_refl _⟩
    · obtain ⟨a, b, c, rfl, bn, bl, be⟩ := closed_part ok hv hw (by omega)
      obtain ⟨w12, w3⟩ := okw_append.mp hw
      obtain ⟨w1, w2⟩ := okw_append.mp w12
      have wb := flat (endp v a) b (endp_lt ok hv w1) w2 be bl
      rw [endp_append, be] at w3
      have b1 : 0 < b.length := List.length_pos_iff.mpr bn
      obtain ⟨m, h1, h2, h3, h4⟩ := cut_walk ok hv flat k (a ++ c) (by rw [List.length_append, List.length_append] at h; rw [List.length_append]; omega) (okw_append.mpr ⟨w1, w3⟩)
      refine ⟨m, h1, ?_, h3, ?_⟩
      · rw [h2, endp_append, endp_append, endp_append, be]
      · rw [wt_append] at h4
        rw [wt_append, wt_append]; omega
theorem isSm_or (tms : Tms) (v : Nat) : isSm tms v = true ∨ (tms.getD v none).isNone = true := by
  unfold isSm
  cases tms.getD v none <;> simp
/-- nothing too short by W ties, no ring by R ties, R at least n: then no walk is -/
theorem all_flat {ts : List TieT} {n W : Nat} {tms : Tms} (ok : okTs n ts) (hn : tms.length = n) (hW : n ≤ W) (h1 : tooShort ts n tms W = false) (h2 : hasRing ts n tms n = false) : ∀ u l, u < n → okw ts u l → endp u l = u → l.length ≤ n → wt l ≤ 0 := fun u l hu hw he hl => by
  refine Int.not_lt.mp fun pos => ?_
  rcases isSm_or tms u with s | s
  · have : tooShort ts n tms W = true := tooShort_iff.mpr ⟨u, u, by omega, by omega, s, s, (short_walk ok hu).mpr ⟨l, hw, he, by omega, by omega⟩⟩
    rw [this] at h1; cases h1
  · have : hasRing ts n tms n = true := hasRing_iff.mpr ⟨u, by omega, s, (ring_walk ok hu).mpr ⟨l, hw, he, hl, pos⟩⟩
    rw [this] at h2; cases h2
theorem below_w {p : Nat → Bool} {N W : Nat} (mono : ∀ i j, i ≤ j → p i = true → p j = true) : below1 W (fstP p (N + 1)) = !p (min W N) := by
  cases h : fstP p (N + 1) with
  | none =>
    rw [fst_none.mp h (min W N) (by omega)]; rfl
  | some m =>
    obtain ⟨h1, h2, h3⟩ := fst_some.mp h
    show decide (W < m) = _
    by_cases z : W < m
    · rw [decide_eq_true z, h3 (min W N) (by omega)]; rfl
    · rw [decide_eq_false z, mono m (min W N) (by omega) h2]; rfl
theorem reach_rel (bs : List Nat) (ok : ∀ b ∈ bs, 1 ≤ b) : 1 ≤ walksOf bs ∧ walksOf bs ≤ 2 * ringsOf bs + 1 ∧ ringsOf bs ≤ walksOf bs := by
  induction bs with
  | nil => exact ⟨Nat.le_refl _, Nat.le_refl _, Nat.zero_le _⟩
  | cons b bs ih =>
    obtain ⟨h1, _, _⟩ := ih fun x hx => ok x (List.mem_cons_of_mem _ hx)
    have hb := ok b List.mem_cons_self
    rw [walks_cons]
    show 1 ≤ walksOf bs * (b + 1) ∧ walksOf bs * (b + 1) ≤ 2 * (b * walksOf bs) + 1 ∧ b * walksOf bs ≤ walksOf bs * (b + 1)
    have e : walksOf bs * (b + 1) = b * walksOf bs + walksOf bs := by rw [Nat.mul_add, Nat.mul_one, Nat.mul_comm]
    have e2 : walksOf bs ≤ b * walksOf bs := Nat.le_mul_of_pos_left _ hb
    rw [e]
    omega
/-- below the limits is held -/
theorem below_held {ts : List TieT} {n : Nat} {tms : Tms} {bs : List Nat} (ok : okTs n ts) (n1 : 1 ≤ n) (hn : tms.length = n) (hb : ∀ b ∈ bs, 1 ≤ b) : belowP (limitsOf ts n tms) (reachOf bs) = heldL ts n tms (reachOf bs) := by
  have e1 : below1 (walksOf bs) (limitsOf ts n tms).1 = !tooShort ts n tms (min (walksOf bs) (2 * n)) := below_w fun i j hij => tooShort_mono hij
  have e2 : below1 (ringsOf bs) (limitsOf ts n tms).2 = !hasRing ts n tms (min (ringsOf bs) n) := below_w fun i j hij => hasRing_mono hn hij
  have hl := held_iff (ts := ts) (r := reachOf bs) hn
  obtain ⟨r1, r2, r3⟩ := reach_rel bs hb
  show (below1 (walksOf bs) (limitsOf ts n tms).1 && below1 (ringsOf bs) (limitsOf ts n tms).2) = _
  rw [e1, e2]
  have hl : heldL ts n tms (reachOf bs) = true ↔ tooShort ts n tms (min (walksOf bs) (2 * n + 2)) = false ∧ hasRing ts n tms (min (ringsOf bs) (2 * n + 2)) = false := hl
  generalize walksOf bs = W at *
  generalize ringsOf bs = R at *
  rw [Bool.eq_iff_iff, hl]
  constructor
  · intro h
    obtain ⟨a1, a2⟩ := Bool.and_eq_true_iff.mp h
    have a1 : tooShort ts n tms (min W (2 * n)) = false := by simpa using a1
    have a2 : hasRing ts n tms (min R n) = false := by simpa using a2
    constructor
    · by_cases hW : W ≤ 2 * n
      · rw [Nat.min_eq_left (by omega)]; rw [Nat.min_eq_left hW] at a1; exact a1
      · rw [Nat.min_eq_right (by omega)] at a1
        have hR : min R n = n := by omega
        rw [hR] at a2
        have flat := all_flat ok hn (by omega) a1 a2
        cases q : tooShort ts n tms (min W (2 * n + 2)) with
        | false => rfl
        | true =>
          obtain ⟨a, b, la, lb, sa, sb, sh⟩ := tooShort_iff.mp q
          obtain ⟨l, w1, w2, w3, w4⟩ := (short_walk ok (by omega)).mp sh
          obtain ⟨m, m1, m2, m3, m4⟩ := cut_walk ok (by omega) flat l.length l (Nat.le_refl _) w1
          have : tooShort ts n tms (2 * n) = true := tooShort_iff.mpr ⟨a, b, la, lb, sa, sb, (short_walk ok (by omega)).mpr ⟨m, m1, by rw [m2]; exact w2, by omega, by omega⟩⟩
          rw [this] at a1; cases a1
    · by_cases hR : R ≤ n
      · rw [Nat.min_eq_left (by omega)]; rw [Nat.min_eq_left hR] at a2; exact a2
      · rw [Nat.min_eq_right (by omega)] at a2
        have flat := all_flat ok hn (show n ≤ min W (2 * n) by omega) a1 a2
        cases q : hasRing ts n tms (min R (2 * n + 2)) with
        | false => rfl
        | true =>
          obtain ⟨a, la, sa, sh⟩ := hasRing_iff.mp q
          obtain ⟨l, w1, w2, w3, w4⟩ := (ring_walk ok (by omega)).mp sh
          obtain ⟨m, m1, m2, m3, m4⟩ := cut_walk ok (by omega) flat l.length l (Nat.le_refl _) w1
          have : hasRing ts n tms n = true := hasRing_iff.mpr ⟨a, la, sa, (ring_walk ok (by omega)).mpr ⟨m, m1, by rw [m2]; exact w2, m3, by omega⟩⟩
          rw [this] at a2; cases a2
  · rintro ⟨h1, h2⟩
    have a1 : tooShort ts n tms (min W (2 * n)) = false := by
      cases q : tooShort ts n tms (min W (2 * n)) with
      | false => rfl
      | true => rw [tooShort_mono (by omega) q] at h1; cases h1
    have a2 : hasRing ts n tms (min R n) = false := by
      cases q : hasRing ts n tms (min R n) with
      | false => rfl
      | true => rw [hasRing_mono hn (by omega) q] at h2; cases h2
    rw [a1, a2]; rfl
/-- the limits are numbers from 1 -/
theorem limits_lim {ts : List TieT} {n : Nat} {tms : Tms} (hn : tms.length = n) (n12 : n ≤ 12) : okLim (limitsOf ts n tms) := fun x hx => by
  rcases hx with h | h
  · obtain ⟨h1, h2, _⟩ := fst_some.mp h
    refine ⟨?_, by omega⟩
    cases x with
    | zero =>
      obtain ⟨a, b, _, _, _, _, sh⟩ := tooShort_iff.mp h2
      exact (short_0 sh).2.elim
    | succ x => omega
  · obtain ⟨h1, h2, _⟩ := fst_some.mp h
    refine ⟨?_, by omega⟩
    cases x with
    | zero => rw [hasRing_0 hn] at h2; cases h2
    | succ x => omega
end K42
/-! text Math4 -/
set_option Elab.async false
set_option linter.all false
set_option maxRecDepth 100000
/-! Plain law, 4: the game; walks against times. -/
namespace K42
open PySem PySem.Spec PyProof.Rows L2
/-- no walk of at most W ties asks too much of times, no closed one of at most R ties at a missing place rises -/
structure OkW (ts : List TieT) (t : Tms) (W R : Nat) : Prop where
  s : ∀ a l, isSm t a = true → isSm t (endp a l) = true → okw ts a l → l.length ≤ W → wt l ≤ tAt t (endp a l) - tAt t a
  r : ∀ v l, isSm t v = false → v < t.length → okw ts v l → endp v l = v → l.length ≤ R → wt l ≤ 0
theorem sm_lt {t : Tms} {a : Nat} (h : isSm t a = true) : a < t.length := by
  refine Nat.lt_of_not_le fun z => ?_
  unfold isSm at h
  rw [List.getD_eq_getElem?_getD, List.getElem?_eq_none z] at h
  cases h
theorem sm_not {t : Tms} {v : Nat} : isSm t v = false ↔ (t.getD v none).isNone = true := by
  unfold isSm; cases t.getD v none <;> simp
theorem held_okw {ts : List TieT} {n W R : Nat} {t : Tms} (ok : okTs n ts) (hn : t.length = n) (h1 : W ≤ 2 * R + 1) (h2 : R ≤ W) : heldL ts n t (W, R) = true ↔ OkW ts t W R := by
  rw [held_iff hn]
  show (tooShort ts n t (min W (2 * n + 2)) = false ∧ hasRing ts n t (min R (2 * n + 2)) = false) ↔ _
  constructor
  · rintro ⟨a1, a2⟩
    have sh : ∀ a l, isSm t a = true → isSm t (endp a l) = true → okw ts a l → l.length ≤ min W (2 * n + 2) → wt l ≤ tAt t (endp a l) - tAt t a := fun a l sa sb hw hl => by
      refine Int.not_lt.mp fun z => ?_
      have : tooShort ts n t (min W (2 * n + 2)) = true := tooShort_iff.mpr ⟨a, endp a l, sm_lt sa, sm_lt sb, sa, sb, (short_walk ok (by have := sm_lt sa; omega)).mpr ⟨l, hw, rfl, hl, z⟩⟩
      rw [this] at a1; cases a1
    have ri : ∀ v l, isSm t v = false → v < t.length → okw ts v l → endp v l = v → l.length ≤ min R (2 * n + 2) → wt l ≤ 0 := fun v l sv hv hw he hl => by
      refine Int.not_lt.mp fun z => ?_
      have : hasRing ts n t (min R (2 * n + 2)) = true := hasRing_iff.mpr ⟨v, hv, sm_not.mp sv, (ring_walk ok (by omega)).mpr ⟨l, hw, he, hl, z⟩⟩
      rw [this] at a2; cases a2
    by_cases hW : W ≤ 2 * n + 2
    · rw [Nat.min_eq_left hW] at sh
      rw [Nat.min_eq_left (by omega)] at ri
      exact ⟨sh, ri⟩
    · rw [Nat.min_eq_right (by omega)] at a1 sh
      have a3 : hasRing ts n t n = false := by
        cases q : hasRing ts n t n with
        | false => rfl
        | true => rw [hasRing_mono hn (by omega) q] at a2; cases a2
      have flat := all_flat ok hn (show n ≤ 2 * n + 2 by omega) a1 a3
      refine ⟨fun a l sa sb hw hl => ?_, fun v l sv hv hw he hl => ?_⟩
      · obtain ⟨m, m1, m2, m3, m4⟩ := cut_walk ok (by have := sm_lt sa; omega) flat l.length l (Nat.le_refl _) hw
        have := sh a m sa (by rw [m2]; exact sb) m1 (by omega)
        rw [m2] at this
        omega
      · obtain ⟨m, m1, m2, m3, m4⟩ := cut_walk ok (by omega) flat l.length l (Nat.le_refl _) hw
        have := ri v m sv hv m1 (by rw [m2]; exact he) (by omega)
        omega
  · rintro ⟨s, r⟩
    constructor
    · cases q : tooShort ts n t (min W (2 * n + 2)) with
      | false => rfl
      | true =>
        obtain ⟨a, b, la, lb, sa, sb, sh⟩ := tooShort_iff.mp q
        obtain ⟨l, w1, rfl, w3, w4⟩ := (short_walk ok (by omega)).mp sh
        have := s a l sa sb w1 (by omega)
        omega
    · cases q : hasRing ts n t (min R (2 * n + 2)) with
      | false => rfl
      | true =>
        obtain ⟨v, lv, sv, rv⟩ := hasRing_iff.mp q
        obtain ⟨l, w1, w2, w3, w4⟩ := (ring_walk ok (by omega)).mp rv
        have := r v l (sm_not.mpr sv) lv w1 w2 (by omega)
        omega
/-- a walk cut at places that are come -/
theorem pieces {ts : List TieT} {t : Tms} {W : Nat} (h : ∀ a l, isSm t a = true → isSm t (endp a l) = true → okw ts a l → l.length ≤ W → wt l ≤ tAt t (endp a l) - tAt t a) : ∀ (k : Nat) (l : List TieT) (v : Nat), l.length ≤ (k + 1) * W → isSm t v = true → isSm t (endp v l) = true → (∀ i, 1 ≤ i → i ≤ k → i * W < l.length → isSm t (endp v (l.take (i * W))) = true) → okw ts v l → wt l ≤ tAt t (endp v l) - tAt t v
  | 0, l, v, hl, s1, s2, _, hw => h v l s1 s2 hw (by omega)
  | k + 1, l, v, hl, s1, s2, c, hw => by
    by_cases z : l.length ≤ W
    · exact h v l s1 s2 hw z
    · have c1 := c 1 (Nat.le_refl _) (by omega) (by omega)
      rw [Nat.one_mul] at c1
      obtain ⟨w1, w2⟩ := okw_take (i := W) hw
      have e := List.take_append_drop W l
      have en : endp (endp v (l.take W)) (l.drop W) = endp v l := by rw [← endp_append, e]
      have p1 := h v (l.take W) s1 c1 w1 (by rw [List.length_take]; omega)
      have k2 : (k + 1 + 1) * W = (k + 1) * W + W := by rw [Nat.add_mul (k + 1), Nat.one_mul]
      have p2 := pieces h k (l.drop W) (endp v (l.take W)) (by rw [List.length_drop]; omega) c1 (by rw [en]; exact s2) (fun i i1 i2 i3 => by
        have := c (i + 1) (by omega) (by omega) (by rw [List.length_drop] at i3; rw [Nat.add_mul, Nat.one_mul]; omega)
        rw [show (i + 1) * W = W + i * W by rw [Nat.add_mul, Nat.one_mul, Nat.add_comm], List.take_add, endp_append] at this
        exact this) w2
      rw [en] at p2
      have : wt l = wt (l.take W) + wt (l.drop W) := by rw [← wt_append, e]
      omega
/-! ### lots -/
theorem lots_gen {most : Nat} : ∀ (ms : List Nat) (f : List (List Nat)) (l : List Nat), l ∈ ms.foldl (lotStep most) f ↔ ∃ a ∈ f, ∃ b, b.Sublist ms ∧ l = a ++ b ∧ (b = [] ∨ l.length ≤ most)
  | [], f, l => by
    constructor
    · exact fun h => ⟨l, h, [], .slnil, (List.append_nil _).symm, .inl rfl⟩
    · rintro ⟨a, ha, b, hb, rfl, _⟩
      cases hb
      rw [List.append_nil]; exact ha
  | t :: ms, f, l => by
    rw [List.foldl_cons, lots_gen ms]
    constructor
    · rintro ⟨a, ha, b, hb, rfl, hl⟩
      rcases List.mem_append.mp ha with z | z
      · exact ⟨a, z, b, hb.cons _, rfl, hl⟩
      · obtain ⟨y, hy, rfl⟩ := List.mem_map.mp z
        obtain ⟨y1, y2⟩ := List.mem_filter.mp hy
        have y2 := of_decide_eq_true y2
        refine ⟨y, y1, t :: b, hb.cons_cons _, by rw [List.append_assoc]; rfl, .inr ?_⟩
        rcases hl with rfl | hl
        · rw [List.append_nil, List.length_append, List.length_singleton]; omega
        · exact hl
    · rintro ⟨a, ha, b, hb, rfl, hl⟩
      cases hb with
      | cons _ hb => exact ⟨a, List.mem_append_left _ ha, b, hb, rfl, hl⟩
      | @cons_cons b' _ _ hb =>
        have hl : (a ++ t :: b').length ≤ most := by rcases hl with z | z; cases z; exact z
        refine ⟨a ++ [t], List.mem_append_right _ (List.mem_map.mpr ⟨a, List.mem_filter.mpr ⟨ha, decide_eq_true ?_⟩, rfl⟩), b', hb, by rw [List.append_assoc]; rfl, .inr hl⟩
        rw [List.length_append, List.length_cons] at hl
        omega
theorem lots_head {most : Nat} : ∀ (ms : List Nat) (f : List (List Nat)), (∀ l ∈ f, l ≠ []) → ∃ f', ms.foldl (lotStep most) ([] :: f) = [] :: f' ∧ ∀ l ∈ f', l ≠ []
  | [], f, h => ⟨f, rfl, h⟩
  | t :: ms, f, h => by
    rw [List.foldl_cons]
    exact lots_head ms (f ++ (([] :: f).filter fun l => decide (l.length < most)).map (· ++ [t])) fun l hl => by
      rcases List.mem_append.mp hl with z | z
      · exact h l z
      · obtain ⟨y, _, rfl⟩ := List.mem_map.mp z
        simp
theorem mem_lots {most : Nat} {ms l : List Nat} : l ∈ (lotsF most ms).drop 1 ↔ l ≠ [] ∧ l.Sublist ms ∧ l.length ≤ most := by
  obtain ⟨f', e, h⟩ := lots_head (most := most) ms [] nofun
  have g := lots_gen (most := most) ms [[]] l
  unfold lotsF
  rw [e] at g ⊢
  show l ∈ f' ↔ _
  constructor
  · intro hl
    obtain ⟨a, ha, b, hb, e2, h3⟩ := g.mp (List.mem_cons_of_mem _ hl)
    rw [List.mem_singleton.mp ha, List.nil_append] at e2
    subst e2
    exact ⟨h _ hl, hb, h3.resolve_left (h _ hl)⟩
  · rintro ⟨h1, h2, h3⟩
    rcases List.mem_cons.mp (g.mpr ⟨[], List.mem_singleton.mpr rfl, l, h2, rfl, .inr h3⟩) with z | z
    · exact absurd z h1
    · exact z
/-! ### answers -/
/-- u is t with times put at the lot -/
structure Ext (lot : List Nat) (t u : Tms) : Prop where
  len : u.length = t.length
  same : ∀ i, i ∉ lot → u.getD i none = t.getD i none
  come : ∀ i ∈ lot, isSm u i = true
def NoBad (ties : List TieT) (t : Tms) : Prop := ∀ x ∈ ties, badTie t x = false
theorem getD_set {t : Tms} {v i : Nat} {x : Option Int} (hv : v < t.length) : (t.set v x).getD i none = if i = v then x else t.getD i none := by
  rw [List.getD_eq_getElem?_getD, List.getElem?_set]
  by_cases e : v = i
  · rw [if_pos e, if_pos hv, if_pos e.symm]; rfl
  · rw [if_neg e, if_neg fun z => e z.symm]; exact (List.getD_eq_getElem?_getD ..).symm
theorem loF_ge {t : Tms} {v : Nat} : ∀ {ties : List TieT} {l : Int}, l ≤ ties.foldl (loStep t v) l ∧ (∀ x ∈ ties, x.2.1 = v → ∀ y, t.getD x.1 none = some y → y + x.2.2 ≤ ties.foldl (loStep t v) l) ∧ ∀ (T : Int), l ≤ T → (∀ x ∈ ties, x.2.1 = v → ∀ y, t.getD x.1 none = some y → y + x.2.2 ≤ T) → ties.foldl (loStep t v) l ≤ T
  | [], l => ⟨Int.le_refl _, fun x h => (by cases h), fun T h _ => h⟩
  | x :: ties, l => by
    obtain ⟨h1, h2, h3⟩ := loF_ge (t := t) (v := v) (ties := ties) (l := loStep t v l x)
    have s : l ≤ loStep t v l x ∧ (x.2.1 = v → ∀ y, t.getD x.1 none = some y → y + x.2.2 ≤ loStep t v l x) ∧ ∀ T : Int, l ≤ T → (x.2.1 = v → ∀ y, t.getD x.1 none = some y → y + x.2.2 ≤ T) → loStep t v l x ≤ T := by
      unfold loStep
      by_cases e : x.2.1 = v
      · rw [if_pos e]
        cases q : t.getD x.1 none with
        | none => exact ⟨Int.le_refl _, fun _ y z => (by cases z), fun T h _ => h⟩
        | some y =>
          dsimp only
          split
          · exact ⟨by omega, fun _ y z => by cases z; exact Int.le_refl _, fun T h h2 => h2 e y rfl⟩
          · exact ⟨Int.le_refl _, fun _ y z => by cases z; omega, fun T h h2 => h⟩
      · rw [if_neg e]; exact ⟨Int.le_refl _, fun z => absurd z e, fun T h _ => h⟩
    rw [List.foldl_cons]
    refine ⟨Int.le_trans s.1 h1, fun z hz e y hy => ?_, fun T hT h => h3 T (s.2.2 T hT fun e y hy => h x List.mem_cons_self e y hy) fun z hz => h z (List.mem_cons_of_mem _ hz)⟩
    rcases List.mem_cons.mp hz with rfl | hz
    · exact Int.le_trans (s.2.1 e y hy) h1
    · exact h2 z hz e y hy
theorem hiF_le {t : Tms} {v : Nat} : ∀ {ties : List TieT} {l : Int}, ties.foldl (hiStep t v) l ≤ l ∧ (∀ x ∈ ties, x.1 = v → ∀ y, t.getD x.2.1 none = some y → ties.foldl (hiStep t v) l ≤ y - x.2.2) ∧ ∀ (T : Int), T ≤ l → (∀ x ∈ ties, x.1 = v → ∀ y, t.getD x.2.1 none = some y → T ≤ y - x.2.2) → T ≤ ties.foldl (hiStep t v) l
  | [], l => ⟨Int.le_refl _, fun x h => (by cases h), fun T h _ => h⟩
  | x :: ties, l => by
    obtain ⟨h1, h2, h3⟩ := hiF_le (t := t) (v := v) (ties := ties) (l := hiStep t v l x)
    have s : hiStep t v l x ≤ l ∧ (x.1 = v → ∀ y, t.getD x.2.1 none = some y → hiStep t v l x ≤ y - x.2.2) ∧ ∀ T : Int, T ≤ l → (x.1 = v → ∀ y, t.getD x.2.1 none = some y → T ≤ y - x.2.2) → T ≤ hiStep t v l x := by
      unfold hiStep
      by_cases e : x.1 = v
      · rw [if_pos e]
        cases q : t.getD x.2.1 none with
        | none => exact ⟨Int.le_refl _, fun _ y z => (by cases z), fun T h _ => h⟩
        | some y =>
          dsimp only
          split
          · exact ⟨by omega, fun _ y z => by cases z; exact Int.le_refl _, fun T h h2 => h2 e y rfl⟩
          · exact ⟨Int.le_refl _, fun _ y z => by cases z; omega, fun T h h2 => h⟩
      · rw [if_neg e]; exact ⟨Int.le_refl _, fun z => absurd z e, fun T h _ => h⟩
    rw [List.foldl_cons]
    refine ⟨Int.le_trans h1 s.1, fun z hz e y hy => ?_, fun T hT h => h3 T (s.2.2 T hT fun e y hy => h x List.mem_cons_self e y hy) fun z hz => h z (List.mem_cons_of_mem _ hz)⟩
    rcases List.mem_cons.mp hz with rfl | hz
    · exact Int.le_trans h1 (s.2.1 e y hy)
    · exact h2 z hz e y hy
end K42
/-! text Math5 -/
set_option Elab.async false
set_option linter.all false
set_option maxRecDepth 100000
/-! Plain law, 5: answers, hours that fit. -/
namespace K42
open PySem PySem.Spec PyProof.Rows L2
theorem sm_some {t : Tms} {i : Nat} (h : isSm t i = true) : t.getD i none = some (tAt t i) := by
  unfold isSm at h
  unfold tAt
  cases q : t.getD i none with
  | none => rw [q] at h; cases h
  | some x => rfl
theorem sm_none {t : Tms} {i : Nat} (h : isSm t i = false) : t.getD i none = none := by
  unfold isSm at h
  cases q : t.getD i none with
  | none => rfl
  | some x => rw [q] at h; cases h
theorem sm_of {t : Tms} {i : Nat} {x : Int} (h : t.getD i none = some x) : isSm t i = true ∧ tAt t i = x := by
  unfold isSm tAt; rw [h]; exact ⟨rfl, rfl⟩
theorem sm_eq {t u : Tms} {i : Nat} (h : u.getD i none = t.getD i none) : isSm u i = isSm t i ∧ tAt u i = tAt t i := by
  unfold isSm tAt; rw [h]; exact ⟨rfl, rfl⟩
theorem bad_iff {t : Tms} {x : TieT} : badTie t x = false ↔ (isSm t x.1 = true → isSm t x.2.1 = true → x.2.2 ≤ tAt t x.2.1 - tAt t x.1) := by
  unfold badTie
  cases isSm t x.1
  · simp
  · cases isSm t x.2.1
    · simp
    · simp
theorem Ext.nil {t u : Tms} (h : Ext [] t u) : u = t := by
  refine List.ext_getElem? fun i => ?_
  by_cases z : i < t.length
  · have := h.same i nofun
    rw [List.getD_eq_getElem?_getD, List.getD_eq_getElem?_getD, List.getElem?_eq_getElem z, List.getElem?_eq_getElem (by rw [h.len]; exact z)] at this
    rw [List.getElem?_eq_getElem z, List.getElem?_eq_getElem (by rw [h.len]; exact z)]
    exact congrArg some this
  · have := h.len
    rw [List.getElem?_eq_none (by omega), List.getElem?_eq_none (by omega)]
/-- times that fit are found -/
theorem answers_of {f : Tms → Bool} {ties : List TieT} {sp : Int × Int} : ∀ (lot : List Nat) (t u : Tms), Ext lot t u → lot.Nodup → (∀ i ∈ lot, isSm t i = false ∧ i < t.length) → NoBad ties u → (∀ i ∈ lot, sp.1 ≤ tAt u i ∧ tAt u i ≤ sp.2) → f u = true → answersW f ties sp lot t = true
  | [], t, u, e, _, _, _, _, h => by rw [e.nil] at h; exact h
  | v :: lot, t, u, e, nd, mi, nb, sp1, h => by
    obtain ⟨nd1, nd2⟩ := List.nodup_cons.mp nd
    obtain ⟨mv, lv⟩ := mi v List.mem_cons_self
    have uv := sm_some (e.come v List.mem_cons_self)
    have old : ∀ i y, t.getD i none = some y → u.getD i none = some y := fun i y hy => by
      rw [e.same i fun z => by rw [sm_none (mi i z).1] at hy; cases hy]; exact hy
    refine List.any_eq_true.mpr ⟨tAt u v, mem_hoursR.mpr ⟨loF_ge.2.2 _ (sp1 v List.mem_cons_self).1 fun x hx ex y hy => ?_, hiF_le.2.2 _ (sp1 v List.mem_cons_self).2 fun x hx ex y hy => ?_⟩, answers_of lot _ u ⟨by rw [List.length_set]; exact e.len, fun i hi => ?_, fun i hi => e.come i (List.mem_cons_of_mem _ hi)⟩ nd2 (fun i hi => ?_) nb (fun i hi => sp1 i (List.mem_cons_of_mem _ hi)) h⟩
    · obtain ⟨s1, s2⟩ := sm_of (old _ _ hy)
      have := bad_iff.mp (nb x hx) s1 (by rw [ex]; exact e.come v List.mem_cons_self)
      rw [ex, s2] at this
      omega
    · obtain ⟨s1, s2⟩ := sm_of (old _ _ hy)
      have := bad_iff.mp (nb x hx) (by rw [ex]; exact e.come v List.mem_cons_self) s1
      rw [ex, s2] at this
      omega
    · rw [getD_set lv]
      by_cases z : i = v
      · rw [if_pos z, z]; exact uv
      · rw [if_neg z]; exact e.same i fun q => (List.mem_cons.mp q).elim z hi
    · obtain ⟨m1, m2⟩ := mi i (List.mem_cons_of_mem _ hi)
      rw [List.length_set]
      refine ⟨?_, m2⟩
      unfold isSm
      rw [getD_set lv, if_neg fun z : i = v => nd1 (z ▸ hi)]
      exact m1
/-- what is found fits -/
theorem of_answers {f : Tms → Bool} {ties : List TieT} {sp : Int × Int} (ns : ∀ x ∈ ties, x.1 ≠ x.2.1) : ∀ (lot : List Nat) (t : Tms), lot.Nodup → (∀ i ∈ lot, isSm t i = false ∧ i < t.length) → NoBad ties t → answersW f ties sp lot t = true → ∃ u, Ext lot t u ∧ NoBad ties u ∧ f u = true
  | [], t, _, _, nb, h => ⟨t, ⟨rfl, fun _ _ => rfl, nofun⟩, nb, h⟩
  | v :: lot, t, nd, mi, nb, h => by
    obtain ⟨nd1, nd2⟩ := List.nodup_cons.mp nd
    obtain ⟨mv, lv⟩ := mi v List.mem_cons_self
    obtain ⟨x, hx, ha⟩ := List.any_eq_true.mp h
    obtain ⟨lo, hi⟩ := mem_hoursR.mp hx
    have gv : (t.set v (some x)).getD v none = some x := by rw [getD_set lv, if_pos rfl]
    have go : ∀ i, i ≠ v → (t.set v (some x)).getD i none = t.getD i none := fun i z => by rw [getD_set lv, if_neg z]
    obtain ⟨u, e, nb2, hu⟩ := of_answers ns lot (t.set v (some x)) nd2 (fun i hi => by
      obtain ⟨m1, m2⟩ := mi i (List.mem_cons_of_mem _ hi)
      rw [List.length_set, (sm_eq (go i fun z => nd1 (z ▸ hi))).1]
      exact ⟨m1, m2⟩) (fun y hy => bad_iff.mpr fun s1 s2 => by
      have nl := ns y hy
      by_cases e1 : y.1 = v
      · have q2 := sm_eq (go y.2.1 fun z => nl (e1.trans z.symm))
        rw [q2.1] at s2
        have := (hiF_le (l := sp.2)).2.1 y hy e1 _ (sm_some s2)
        have hi : x ≤ List.foldl (hiStep t v) sp.2 ties := hi
        rw [q2.2, e1, (sm_of gv).2]
        omega
      · have q1 := sm_eq (go y.1 e1)
        rw [q1.1] at s1
        by_cases e2 : y.2.1 = v
        · have := (loF_ge (l := sp.1)).2.1 y hy e2 _ (sm_some s1)
          have lo : List.foldl (loStep t v) sp.1 ties ≤ x := lo
          rw [q1.2, e2, (sm_of gv).2]
          omega
        · have q2 := sm_eq (go y.2.1 e2)
          rw [q2.1] at s2
          rw [q1.2, q2.2]
          exact bad_iff.mp (nb y hy) s1 s2) ha
    refine ⟨u, ⟨by rw [e.len, List.length_set], fun i hi => ?_, fun i hi => ?_⟩, nb2, hu⟩
    · rw [e.same i fun z => hi (List.mem_cons_of_mem _ z)]
      exact go i fun z => hi (z ▸ List.mem_cons_self)
    · rcases List.mem_cons.mp hi with rfl | hi
      · rw [(sm_eq (e.same i nd1)).1]; exact (sm_of gv).1
      · exact e.come i hi
/-! ### a potential -/
theorem int_max {S : Int → Prop} {C : Int} (hC : ∀ y, S y → y ≤ C) : ∀ (k : Nat) (x : Int), S x → (C - x).toNat ≤ k → ∃ m, S m ∧ ∀ y, S y → y ≤ m
  | 0, x, hx, hk => ⟨x, hx, fun y hy => by have := hC y hy; omega⟩
  | k + 1, x, hx, hk => by
    by_cases q : ∃ y, S y ∧ x < y
    · obtain ⟨y, hy, lt⟩ := q
      exact int_max hC k y hy (by have := hC y hy; omega)
    · exact ⟨x, hx, fun y hy => Int.not_lt.mp fun z => q ⟨y, hy, z⟩⟩
theorem wt_le {ts : List TieT} {M : Int} (hM : 0 ≤ M) (h : ∀ x ∈ ts, x.2.2 ≤ M) : ∀ {l : List TieT} {v : Nat}, okw ts v l → wt l ≤ (l.length : Int) * M
  | [], v, _ => by rw [wt_nil]; simp
  | x :: l, v, ⟨h1, _, h3⟩ => by
    have := wt_le hM h h3
    have := h x h1
    rw [wt_cons, List.length_cons, Int.natCast_add, Int.add_mul, show ((1 : Nat) : Int) = 1 from rfl, Int.one_mul]
    omega
/-- where no closed part of at most n ties rises, a walk may be cut to less than n ties -/
theorem cut_less {ts : List TieT} {n v : Nat} (ok : okTs n ts) (hv : v < n) (flat : ∀ u l, u < n → okw ts u l → endp u l = u → l.length ≤ n → wt l ≤ 0) : ∀ (k : Nat) (l : List TieT), l.length ≤ k → okw ts v l → ∃ m, okw ts v m ∧ endp v m = endp v l ∧ m.length < n ∧ wt l ≤ wt m
  | 0, l, h, hw => ⟨l, hw, rfl, by omega, Int.le_refl _⟩
  | k + 1, l, h, hw => by
    by_cases hl : l.length < n
    · exact ⟨l, hw, rfl, hl, Int.le_refl _⟩
    · obtain ⟨a, b, c, rfl, bn, bl, be⟩ := closed_part ok hv hw (by omega)
      obtain ⟨w12, w3⟩ := okw_append.mp hw
      obtain ⟨w1, w2⟩ := okw_append.mp w12
      have wb := flat (endp v a) b (endp_lt ok hv w1) w2 be bl
      rw [endp_append, be] at w3
      have b1 : 0 < b.length := List.length_pos_iff.mpr bn
      obtain ⟨m, h1, h2, h3, h4⟩ := cut_less ok hv flat k (a ++ c) (by rw [List.length_append, List.length_append] at h; rw [List.length_append]; omega) (okw_append.mpr ⟨w1, w3⟩)
      refine ⟨m, h1, ?_, h3, ?_⟩
      · rw [h2, endp_append, endp_append, endp_append, be]
      · rw [wt_append] at h4
        rw [wt_append, wt_append]; omega
theorem potential {ts : List TieT} {m : Nat} {M C : Int} (ok : okTs m ts) (hM : 0 ≤ M) (hw : ∀ x ∈ ts, x.2.2 ≤ M) (flat : ∀ u l, u < m → okw ts u l → endp u l = u → l.length ≤ m → wt l ≤ 0) (base : Nat → Int) (hC : ∀ z, base z ≤ C) : ∃ T : Nat → Int, (∀ z, z < m → base z ≤ T z) ∧ (∀ x ∈ ts, T x.1 + x.2.2 ≤ T x.2.1) ∧ ∀ z, z < m → ∃ y l, y < m ∧ okw ts y l ∧ endp y l = z ∧ l.length < m ∧ T z = base y + wt l := by
  have ex : ∀ z, ∃ T, z < m → (∃ y l, y < m ∧ okw ts y l ∧ endp y l = z ∧ l.length < m ∧ T = base y + wt l) ∧ ∀ y l, y < m → okw ts y l → endp y l = z → l.length < m → base y + wt l ≤ T := fun z => by
    by_cases hz : z < m
    · obtain ⟨T, h1, h2⟩ := int_max (S := fun T => ∃ y l, y < m ∧ okw ts y l ∧ endp y l = z ∧ l.length < m ∧ T = base y + wt l) (C := C + (m : Int) * M) (by
        rintro _ ⟨y, l, h1, h2, h3, h4, rfl⟩
        have a := hC y
        have b := wt_le hM hw h2
        have c := Int.mul_le_mul_of_nonneg_right (show (l.length : Int) ≤ (m : Int) by omega) hM
        omega) _ (base z) ⟨z, [], hz, trivial, rfl, by rw [List.length_nil]; omega, by rw [wt_nil]; omega⟩ (Nat.le_refl _)
      exact ⟨T, fun _ => ⟨h1, fun y l a b c d => h2 _ ⟨y, l, a, b, c, d, rfl⟩⟩⟩
    · exact ⟨0, fun z => absurd z hz⟩
  obtain ⟨T, hT⟩ := Classical.skolem.mp ex
  refine ⟨T, fun z hz => ?_, fun x hx => ?_, fun z hz => (hT z hz).1⟩
  · have := (hT z hz).2 z [] hz trivial rfl (by rw [List.length_nil]; omega)
    rw [wt_nil] at this
    omega
  · obtain ⟨o1, o2⟩ := ok x hx
    obtain ⟨y, l, h1, h2, h3, h4, h5⟩ := (hT x.1 o1).1
    obtain ⟨l', g1, g2, g3, g4⟩ := cut_less ok h1 flat (l ++ [x]).length (l ++ [x]) (Nat.le_refl _) (okw_append.mpr ⟨h2, hx, h3.symm, trivial⟩)
    have := (hT x.2.1 o2).2 y l' h1 g1 (by rw [g2, endp_append]; rfl) g3
    rw [wt_append, wt_cons, wt_nil] at g4
    omega
end K42
/-! text Math6 -/
set_option Elab.async false
set_option linter.all false
set_option maxRecDepth 100000
/-! Plain law, 6: what can be answered. -/
namespace K42
open PySem PySem.Spec PyProof.Rows L2
/-- hops of at most W ties between the places of a lot -/
def hops (ts : List TieT) (n W : Nat) (Z : Nat → Nat) (m : Nat) : List TieT := (List.range m).flatMap fun i => (List.range m).filterMap fun j => ((rowAt ts n (Z i) W).getD (Z j) none).map fun w => (i, j, w)
theorem mem_hops {ts : List TieT} {n W m : Nat} {Z : Nat → Nat} {x : TieT} : x ∈ hops ts n W Z m ↔ x.1 < m ∧ x.2.1 < m ∧ (rowAt ts n (Z x.1) W).getD (Z x.2.1) none = some x.2.2 := by
  unfold hops
  rw [List.mem_flatMap]
  constructor
  · rintro ⟨i, hi, h⟩
    obtain ⟨j, hj, h⟩ := List.mem_filterMap.mp h
    obtain ⟨w, hw, rfl⟩ := Option.map_eq_some_iff.mp h
    exact ⟨List.mem_range.mp hi, List.mem_range.mp hj, hw⟩
  · rintro ⟨h1, h2, h3⟩
    exact ⟨x.1, List.mem_range.mpr h1, List.mem_filterMap.mpr ⟨x.2.1, List.mem_range.mpr h2, by rw [h3]; rfl⟩⟩
theorem unhop {ts : List TieT} {n W m : Nat} {Z : Nat → Nat} (hz : ∀ i, i < m → Z i < n) : ∀ (l : List TieT) (y : Nat), y < m → okw (hops ts n W Z m) y l → ∃ l', okw ts (Z y) l' ∧ endp (Z y) l' = Z (endp y l) ∧ l'.length ≤ l.length * W ∧ wt l' = wt l
  | [], y, hy, _ => ⟨[], trivial, rfl, by rw [List.length_nil]; omega, rfl⟩
  | x :: l, y, hy, ⟨h1, h2, h3⟩ => by
    obtain ⟨a1, a2, a3⟩ := mem_hops.mp h1
    obtain ⟨p, p1, p2, p3, p4⟩ := row_walk (hz _ a1) a3
    obtain ⟨q, q1, q2, q3, q4⟩ := unhop hz l x.2.1 a2 h3
    subst h2
    refine ⟨p ++ q, okw_append.mpr ⟨p1, by rw [p2]; exact q1⟩, by rw [endp_append, p2]; exact q2, ?_, by rw [wt_append, wt_cons, p4, q4]⟩
    rw [List.length_append, List.length_cons, Nat.add_mul, Nat.one_mul]
    omega
theorem mul_le_i {a b : Nat} {M : Int} (hM : 0 ≤ M) (h : a ≤ b) : (a : Int) * M ≤ (b : Int) * M := Int.mul_le_mul_of_nonneg_right (by omega) hM
/-- the hours for a lot -/
theorem answer_ok {ts : List TieT} {n W b R : Nat} {t : Tms} {lot : List Nat} {M lo hi : Int} (ok : okTs n ts) (hn : t.length = n) (nd : lot.Nodup) (mi : ∀ i ∈ lot, isSm t i = false ∧ i < t.length) (hl : lot.length ≤ b) (h : OkW ts t (W * (b + 1)) (b * W)) (hR : R ≤ b * W)
    (hM : 0 ≤ M) (hw : ∀ x ∈ ts, x.2.2 ≤ M) (hs : ∀ p, isSm t p = true → lo ≤ tAt t p ∧ tAt t p ≤ hi) (lh : lo ≤ hi) : ∃ u, Ext lot t u ∧ OkW ts u W R ∧ ∀ i ∈ lot, lo - ((W * (b + 1) : Nat) : Int) * M ≤ tAt u i ∧ tAt u i ≤ hi + ((W * (b + 1) : Nat) : Int) * M := by
  have hWb : W * (b + 1) = b * W + W := by rw [Nat.mul_add, Nat.mul_one, Nat.mul_comm]
  have mW : ∀ k, k ≤ b → k * W ≤ b * W := fun k hk => Nat.mul_le_mul_right _ hk
  have O0 : 0 ≤ ((W * (b + 1) : Nat) : Int) * M := Int.mul_nonneg (by omega) hM
  have wl : ∀ {l : List TieT} {v k : Nat}, okw ts v l → l.length ≤ k → wt l ≤ (k : Int) * M := fun h1 h2 => Int.le_trans (wt_le hM hw h1) (mul_le_i hM h2)
  have wO : ∀ {l : List TieT} {v : Nat}, okw ts v l → l.length ≤ W * (b + 1) → wt l ≤ ((W * (b + 1) : Nat) : Int) * M := fun h1 h2 => wl h1 h2
  obtain ⟨Z, hZ⟩ : ∃ Z : Nat → Nat, Z = fun i => lot.getD i 0 := ⟨_, rfl⟩
  have Zm : ∀ i, i < lot.length → Z i ∈ lot := fun i hi => by
    rw [hZ]
    show lot.getD i 0 ∈ lot
    rw [List.getD_eq_getElem?_getD, List.getElem?_eq_getElem hi]
    exact List.getElem_mem hi
  have Zl : ∀ i, i < lot.length → Z i < n := fun i hi => by rw [← hn]; exact (mi _ (Zm i hi)).2
  have Zi : ∀ i ∈ lot, lot.idxOf i < lot.length ∧ Z (lot.idxOf i) = i := fun i hi => by
    have := List.idxOf_lt_length_of_mem hi
    refine ⟨this, ?_⟩
    rw [hZ]
    show lot.getD (lot.idxOf i) 0 = i
    rw [List.getD_eq_getElem?_getD, List.getElem?_eq_getElem this, List.getElem_idxOf]; rfl
  generalize hO : ((W * (b + 1) : Nat) : Int) * M = O at *
  -- the bases
  have bx : ∀ z, ∃ B, lo - O ≤ B ∧ (∀ p l, isSm t p = true → okw ts p l → endp p l = Z z → l.length ≤ W → tAt t p + wt l ≤ B) ∧ (B = lo - O ∨ ∃ p l, isSm t p = true ∧ okw ts p l ∧ endp p l = Z z ∧ l.length ≤ W ∧ B = tAt t p + wt l) := fun z => by
    obtain ⟨B, h1, h2⟩ := int_max (S := fun B => B = lo - O ∨ ∃ p l, isSm t p = true ∧ okw ts p l ∧ endp p l = Z z ∧ l.length ≤ W ∧ B = tAt t p + wt l) (C := hi + O) (by
      rintro y (rfl | ⟨p, l, h1, h2, h3, h4, rfl⟩)
      · omega
      · have := (hs p h1).2
        have := wO h2 (by omega)
        omega) _ (lo - O) (.inl rfl) (Nat.le_refl _)
    exact ⟨B, h2 _ (.inl rfl), fun p l a b c d => h2 _ (.inr ⟨p, l, a, b, c, d, rfl⟩), h1⟩
  obtain ⟨base, hb⟩ := Classical.skolem.mp bx
  have bC : ∀ z, base z ≤ hi + O := fun z => by
    rcases (hb z).2.2 with e | ⟨p, l, h1, h2, h3, h4, e⟩
    · omega
    · have := (hs p h1).2
      have := wO h2 (by omega)
      omega
  have hopW : ∀ x ∈ hops ts n W Z lot.length, x.2.2 ≤ O := fun x hx => by
    obtain ⟨a1, a2, a3⟩ := mem_hops.mp hx
    obtain ⟨p, p1, p2, p3, p4⟩ := row_walk (Zl _ a1) a3
    have := wO p1 (by omega)
    omega
  obtain ⟨T, t1, t2, t3⟩ := potential (m := lot.length) (ts := hops ts n W Z lot.length) (fun x hx => ⟨(mem_hops.mp hx).1, (mem_hops.mp hx).2.1⟩) O0 hopW (fun y l hy hw' he hl' => by
    obtain ⟨l', g1, g2, g3, g4⟩ := unhop Zl l y hy hw'
    rw [he] at g2
    rw [← g4]
    have := mi _ (Zm y hy)
    exact h.r (Z y) l' this.1 this.2 g1 g2 (Nat.le_trans g3 (mW _ (by omega)))) base bC
  have pre : ∀ z, z < lot.length → ∃ l', ∃ k, k < lot.length ∧ l'.length ≤ k * W ∧ ((∃ v, okw ts v l' ∧ endp v l' = Z z ∧ T z = lo - O + wt l') ∨ ∃ p l0, isSm t p = true ∧ okw ts p (l0 ++ l') ∧ endp p (l0 ++ l') = Z z ∧ l0.length ≤ W ∧ T z = tAt t p + wt (l0 ++ l')) := fun z hz => by
    obtain ⟨y, l, y1, y2, y3, y4, y5⟩ := t3 z hz
    obtain ⟨l', g1, g2, g3, g4⟩ := unhop Zl l y y1 y2
    rw [y3] at g2
    refine ⟨l', l.length, y4, g3, ?_⟩
    rcases (hb y).2.2 with e | ⟨p, l0, h1, h2, h3, h4, e⟩
    · exact .inl ⟨Z y, g1, g2, by rw [y5, e, g4]⟩
    · refine .inr ⟨p, l0, h1, okw_append.mpr ⟨h2, by rw [h3]; exact g1⟩, by rw [endp_append, h3]; exact g2, h4, ?_⟩
      rw [y5, e, wt_append, g4]; omega
  obtain ⟨u, hu⟩ : ∃ u : Tms, u = (List.range n).map fun i => if i ∈ lot then some (T (lot.idxOf i)) else t.getD i none := ⟨_, rfl⟩
  have ul : u.length = t.length := by rw [hu, List.length_map, List.length_range, hn]
  have ug : ∀ i, i < n → u.getD i none = if i ∈ lot then some (T (lot.idxOf i)) else t.getD i none := fun i hi => by
    rw [hu, List.getD_eq_getElem?_getD, List.getElem?_map, List.getElem?_range hi]; rfl
  have uo : ∀ i, i ∉ lot → u.getD i none = t.getD i none := fun i hi => by
    by_cases z : i < n
    · rw [ug i z, if_neg hi]
    · rw [List.getD_eq_getElem?_getD, List.getD_eq_getElem?_getD, List.getElem?_eq_none (by omega), List.getElem?_eq_none (by omega)]
  have ui : ∀ i ∈ lot, isSm u i = true ∧ tAt u i = T (lot.idxOf i) := fun i hi => sm_of (by rw [ug i (by rw [← hn]; exact (mi i hi).2), if_pos hi])
  refine ⟨u, ⟨ul, uo, fun i hi => (ui i hi).1⟩, ⟨fun a l sa se hw' hl' => ?_, fun v l sv hv hw' he hl' => ?_⟩, fun i hi => ?_⟩
  · by_cases za : a ∈ lot
    · obtain ⟨a1, a2⟩ := Zi a za
      rw [(ui a za).2]
      by_cases ze : endp a l ∈ lot
      · obtain ⟨e1, e2⟩ := Zi _ ze
        rw [(ui _ ze).2]
        obtain ⟨y, h5, h6⟩ := walk_row ok (by rw [← hn]; exact (mi a za).2) l.length l rfl hw'
        obtain ⟨x, h7, h8⟩ := row_le hl' h5
        have := t2 (lot.idxOf a, lot.idxOf (endp a l), x) (mem_hops.mpr ⟨a1, e1, by rw [a2, e2]; exact h7⟩)
        have : T (lot.idxOf a) + x ≤ T (lot.idxOf (endp a l)) := this
        omega
      · obtain ⟨q1, q2⟩ := sm_eq (uo _ ze)
        rw [q1] at se
        rw [q2]
        obtain ⟨l', k, hk, hk2, c | c⟩ := pre _ a1
        · obtain ⟨v, c1, c2, c3⟩ := c
          rw [a2] at c2
          have := mW k (by omega)
          have w1 := wO (l := l' ++ l) (okw_append.mpr ⟨c1, by rw [c2]; exact hw'⟩) (by rw [List.length_append]; omega)
          have := (hs _ se).1
          rw [wt_append] at w1
          omega
        · obtain ⟨p, l0, c1, c2, c3, c4, c5⟩ := c
          rw [a2] at c3
          have k1 := mW (k + 1) (by omega)
          rw [Nat.add_mul, Nat.one_mul] at k1
          have := h.s p (l0 ++ l' ++ l) c1 (by rw [endp_append, c3]; exact se) (okw_append.mpr ⟨c2, by rw [c3]; exact hw'⟩) (by rw [List.length_append, List.length_append]; omega)
          rw [endp_append, c3, wt_append] at this
          omega
    · obtain ⟨q1, q2⟩ := sm_eq (uo _ za)
      rw [q1] at sa
      rw [q2]
      by_cases ze : endp a l ∈ lot
      · obtain ⟨e1, e2⟩ := Zi _ ze
        rw [(ui _ ze).2]
        have := (hb (lot.idxOf (endp a l))).2.1 a l sa hw' e2.symm hl'
        have := t1 _ e1
        omega
      · obtain ⟨q1, q2⟩ := sm_eq (uo _ ze)
        rw [q1] at se
        rw [q2]
        exact h.s a l sa se hw' (by omega)
  · have zv : v ∉ lot := fun z => by rw [(ui v z).1] at sv; cases sv
    rw [(sm_eq (uo _ zv)).1] at sv
    exact h.r v l sv (by omega) hw' he (by omega)
  · obtain ⟨i1, i2⟩ := Zi i hi
    rw [(ui i hi).2]
    have := t1 _ i1
    have := (hb (lot.idxOf i)).1
    refine ⟨by omega, ?_⟩
    obtain ⟨l', k, hk, hk2, c | c⟩ := pre _ i1
    · obtain ⟨v, c1, c2, c3⟩ := c
      have := mW k (by omega)
      have := wO c1 (by omega)
      omega
    · obtain ⟨p, l0, c1, c2, c3, c4, c5⟩ := c
      have := mW k (by omega)
      have := wO c2 (by rw [List.length_append]; omega)
      have := (hs p c1).2
      omega
end K42
/-! text Math7 -/
set_option Elab.async false
set_option linter.all false
set_option maxRecDepth 100000
/-! Plain law, 7: the game is held where the walks are. -/
namespace K42
open PySem PySem.Spec PyProof.Rows L2
theorem mem_miss {t : Tms} {i : Nat} : i ∈ missL t ↔ i < t.length ∧ isSm t i = false := by
  unfold missL
  rw [List.mem_filter, List.mem_range, sm_not]
theorem nodup_miss (t : Tms) : (missL t).Nodup := List.Nodup.sublist List.filter_sublist List.nodup_range
theorem lot_of {t : Tms} {cuts : List Nat} {b : Nat} (hc : cuts.length ≤ b) (b1 : 1 ≤ b) (hm : missL t ≠ []) : ∃ lot, lot ≠ [] ∧ lot.Sublist (missL t) ∧ lot.length ≤ b ∧ ∀ c ∈ cuts, c < t.length → isSm t c = false → c ∈ lot := by
  by_cases e : (missL t).filter (fun c => decide (c ∈ cuts)) = []
  · obtain ⟨x, xs, ex⟩ : ∃ x xs, missL t = x :: xs := by
      cases q : missL t with
      | nil => exact absurd q hm
      | cons x xs => exact ⟨x, xs, rfl⟩
    refine ⟨[x], nofun, List.singleton_sublist.mpr (by rw [ex]; exact List.mem_cons_self), b1, fun c hc hl hs => ?_⟩
    have : c ∈ (missL t).filter (fun c => decide (c ∈ cuts)) := List.mem_filter.mpr ⟨mem_miss.mpr ⟨hl, hs⟩, decide_eq_true hc⟩
    rw [e] at this; cases this
  · refine ⟨_, e, List.filter_sublist, Nat.le_trans (nodup_le (List.Nodup.sublist List.filter_sublist (nodup_miss t)) fun x hx => of_decide_eq_true (List.mem_filter.mp hx).2) hc, fun c hc hl hs => List.mem_filter.mpr ⟨mem_miss.mpr ⟨hl, hs⟩, decide_eq_true hc⟩⟩
theorem attack_ok {ts : List TieT} {n W b : Nat} {t : Tms} (ok : okTs n ts) (hn : t.length = n) (b1 : 1 ≤ b) (hm : missL t ≠ []) (h : ∀ lot, lot ≠ [] → lot.Sublist (missL t) → lot.length ≤ b → ∃ u R, Ext lot t u ∧ OkW ts u W R) : OkW ts t (W * (b + 1)) (b * W) := by
  have key : ∀ cuts : List Nat, cuts.length ≤ b → ∃ u R, OkW ts u W R ∧ (∀ c ∈ cuts, c < n → isSm u c = true) ∧ ∀ a, isSm t a = true → isSm u a = true ∧ tAt u a = tAt t a := fun cuts hc => by
    obtain ⟨lot, l1, l2, l3, l4⟩ := lot_of (t := t) hc b1 hm
    obtain ⟨u, R, e, o⟩ := h lot l1 l2 l3
    have old : ∀ a, isSm t a = true → isSm u a = true ∧ tAt u a = tAt t a := fun a ha => by
      have na : a ∉ lot := fun z => by
        have := (mem_miss.mp (l2.subset z)).2
        rw [ha] at this; cases this
      obtain ⟨q1, q2⟩ := sm_eq (e.same a na)
      exact ⟨q1.trans ha, q2⟩
    refine ⟨u, R, o, fun c hc cn => ?_, old⟩
    cases q : isSm t c with
    | true => exact (old c q).1
    | false => exact e.come c (l4 c hc (by omega) q)
  refine ⟨fun a l sa se hw hl => ?_, fun v l sv hv hw he hl => ?_⟩
  · obtain ⟨u, R, o, c, old⟩ := key ((List.range b).map fun i => endp a (l.take ((i + 1) * W))) (by rw [List.length_map, List.length_range]; exact Nat.le_refl _)
    have := pieces o.s b l a (by rw [Nat.mul_comm]; exact hl) (old a sa).1 (old _ se).1 (fun i i1 i2 _ => c _ (List.mem_map.mpr ⟨i - 1, List.mem_range.mpr (by omega), by rw [show i - 1 + 1 = i by omega]⟩) (endp_lt ok (by rw [← hn]; exact sm_lt sa) (okw_take hw).1)) hw
    rw [(old a sa).2, (old _ se).2] at this
    exact this
  · obtain ⟨k, rfl⟩ : ∃ k, b = k + 1 := ⟨b - 1, by omega⟩
    obtain ⟨u, R, o, c, old⟩ := key ((List.range (k + 1)).map fun i => endp v (l.take (i * W))) (by rw [List.length_map, List.length_range]; exact Nat.le_refl _)
    have cv : isSm u v = true := c v (List.mem_map.mpr ⟨0, List.mem_range.mpr (by omega), by rw [Nat.zero_mul]; rfl⟩) (by omega)
    have := pieces o.s k l v hl cv (by rw [he]; exact cv) (fun i i1 i2 _ => c _ (List.mem_map.mpr ⟨i, List.mem_range.mpr (by omega), rfl⟩) (endp_lt ok (by omega) (okw_take hw).1)) hw
    rw [he] at this
    omega
theorem nobad_of {ts : List TieT} {t : Tms} {W R : Nat} (h1 : 1 ≤ W) (h : OkW ts t W R) : NoBad ts t := fun x hx => bad_iff.mpr fun s1 s2 => by
  have := h.s x.1 [x] s1 s2 ⟨hx, rfl, trivial⟩ h1
  rw [wt_cons, wt_nil] at this
  have : x.2.2 + 0 ≤ tAt t x.2.1 - tAt t x.1 := this
  omega
theorem ok_one {ts : List TieT} {t : Tms} (nb : NoBad ts t) : ∀ a l, isSm t a = true → isSm t (endp a l) = true → okw ts a l → l.length ≤ 1 → wt l ≤ tAt t (endp a l) - tAt t a
  | a, [], _, _, _, _ => by rw [wt_nil]; show (0 : Int) ≤ tAt t a - tAt t a; omega
  | a, [x], s1, s2, ⟨h1, h2, _⟩, _ => by
    subst h2
    have := bad_iff.mp (nb x h1) s1 s2
    rw [wt_cons, wt_nil]
    show x.2.2 + 0 ≤ tAt t x.2.1 - tAt t x.1
    omega
  | a, _ :: _ :: _, _, _, _, h => by rw [List.length_cons, List.length_cons] at h; omega
theorem mem_said {t : Tms} {p : Nat} (h : isSm t p = true) : tAt t p ∈ saidOf t := by
  have e := sm_some h
  have l := sm_lt h
  rw [List.getD_eq_getElem?_getD, List.getElem?_eq_getElem l] at e
  have e : t[p] = some (tAt t p) := e
  exact List.mem_filterMap.mpr ⟨some (tAt t p), e ▸ List.getElem_mem l, rfl⟩
theorem max_ge {ts : List TieT} : 0 ≤ maxI (0 :: ts.map fun t => t.2.2) ∧ ∀ x ∈ ts, x.2.2 ≤ maxI (0 :: ts.map fun t => t.2.2) := by
  have := (maxI_mem (xs := 0 :: ts.map fun t => t.2.2) nofun).2
  exact ⟨this 0 List.mem_cons_self, fun x hx => this _ (List.mem_cons_of_mem _ (List.mem_map.mpr ⟨x, hx, rfl⟩))⟩
theorem can_iff {ts : List TieT} {n : Nat} (ok : okTs n ts) (ns : ∀ x ∈ ts, x.1 ≠ x.2.1) : ∀ (bs : List Nat) (t : Tms), (∀ b ∈ bs, 1 ≤ b) → t.length = n → NoBad ts t → (∃ p, isSm t p = true) → (canL ts bs t = true ↔ OkW ts t (walksOf bs) (ringsOf bs))
  | [], t, _, hn, nb, _ => by
    refine ⟨fun _ => ⟨ok_one nb, fun v l _ _ _ _ hl => ?_⟩, fun _ => rfl⟩
    have : l = [] := List.length_eq_zero_iff.mp (Nat.le_zero.mp hl)
    subst this
    rw [wt_nil]; exact Int.le_refl _
  | b :: bs, t, hb, hn, nb, ⟨p, hp⟩ => by
    have b1 := hb b List.mem_cons_self
    have hb' : ∀ b ∈ bs, 1 ≤ b := fun x hx => hb x (List.mem_cons_of_mem _ hx)
    obtain ⟨r1, r2, r3⟩ := reach_rel bs hb'
    have hm : ∀ lot : List Nat, lot.Sublist (missL t) → ∀ i ∈ lot, isSm t i = false ∧ i < t.length := fun lot h i hi => by
      have := mem_miss.mp (h.subset hi)
      exact ⟨this.2, this.1⟩
    rw [walks_cons, show ringsOf (b :: bs) = b * walksOf bs from rfl]
    unfold canL
    by_cases z : missL t = []
    · rw [if_pos z]
      refine ⟨fun _ => ⟨fun a l sa se hw hl => ?_, fun v l sv hv _ _ _ => ?_⟩, fun _ => rfl⟩
      · exact pieces (ok_one nb) l.length l a (by omega) sa se (fun i _ _ _ => by
          cases q : isSm t (endp a (l.take (i * 1))) with
          | true => rfl
          | false =>
            have := mem_miss.mpr ⟨by rw [hn]; exact endp_lt ok (by rw [← hn]; exact sm_lt sa) (okw_take (i := i * 1) hw).1, q⟩
            rw [z] at this; cases this) hw
      · have := mem_miss.mpr ⟨hv, sv⟩
        rw [z] at this; cases this
    · rw [if_neg z, List.all_eq_true]
      constructor
      · intro h
        refine attack_ok ok hn b1 z fun lot l1 l2 l3 => ?_
        obtain ⟨u, e, nbu, hu⟩ := of_answers ns lot t (l2.nodup (nodup_miss t)) (hm lot l2) nb (h lot (mem_lots.mpr ⟨l1, l2, l3⟩))
        have pu : isSm u p = true := by
          by_cases q : p ∈ lot
          · exact e.come p q
          · rw [(sm_eq (e.same p q)).1]; exact hp
        exact ⟨u, _, e, (can_iff ok ns bs u hb' (by rw [e.len, hn]) nbu ⟨p, pu⟩).mp hu⟩
      · intro h lot hlot
        obtain ⟨l1, l2, l3⟩ := mem_lots.mp hlot
        obtain ⟨m1, m2⟩ := max_ge (ts := ts)
        have ne : saidOf t ≠ [] := fun z => by have := mem_said hp; rw [z] at this; cases this
        obtain ⟨u, e, o, sp⟩ := answer_ok (R := ringsOf bs) (lo := minI (saidOf t)) (hi := maxI (saidOf t)) ok hn (l2.nodup (nodup_miss t)) (hm lot l2) l3 h (Nat.le_trans r3 (Nat.le_mul_of_pos_left _ b1)) m1 m2 (fun q hq => ⟨(minI_mem ne).2 _ (mem_said hq), (maxI_mem ne).2 _ (mem_said hq)⟩) (Int.le_trans ((minI_mem ne).2 _ (mem_said hp)) ((maxI_mem ne).2 _ (mem_said hp)))
        have nbu := nobad_of r1 o
        have pu : isSm u p = true := by
          by_cases q : p ∈ lot
          · exact e.come p q
          · rw [(sm_eq (e.same p q)).1]; exact hp
        refine answers_of lot t u e (l2.nodup (nodup_miss t)) (hm lot l2) nbu (fun i hi => ?_) ((can_iff ok ns bs u hb' (by rw [e.len, hn]) nbu ⟨p, pu⟩).mpr o)
        have := sp i hi
        rw [← walks_cons] at this
        exact this
/-- the game's answer -/
theorem game_held {ts : List TieT} {n : Nat} {t : Tms} {bs : List Nat} (ok : okTs n ts) (ns : ∀ x ∈ ts, x.1 ≠ x.2.1) (hn : t.length = n) (hb : ∀ b ∈ bs, 1 ≤ b) (hp : t ≠ List.replicate n none) : gameL ts t bs = heldL ts n t (reachOf bs) := by
  obtain ⟨r1, r2, r3⟩ := reach_rel bs hb
  obtain ⟨p, sp⟩ : ∃ p, isSm t p = true := by
    refine Classical.byContradiction fun z => hp ?_
    refine List.eq_replicate_iff.mpr ⟨hn, fun x hx => ?_⟩
    obtain ⟨i, hi, e⟩ := List.getElem_of_mem hx
    have : isSm t i = false := by
      cases q : isSm t i with
      | false => rfl
      | true => exact absurd ⟨i, q⟩ z
    have := sm_none this
    rw [List.getD_eq_getElem?_getD, List.getElem?_eq_getElem hi, e] at this
    exact this
  rw [Bool.eq_iff_iff, show reachOf bs = (walksOf bs, ringsOf bs) from rfl, held_okw ok hn r2 r3]
  unfold gameL
  rw [Bool.and_eq_true, List.all_eq_true, hn, decide_eq_false hp, Bool.false_or]
  have nb : (∀ x ∈ ts, (!badTie t x) = true) ↔ NoBad ts t := by
    unfold NoBad
    constructor
    · exact fun h x hx => by have := h x hx; simpa using this
    · exact fun h x hx => by rw [h x hx]; rfl
  rw [nb]
  constructor
  · rintro ⟨h1, h2⟩
    exact (can_iff ok ns bs t hb hn h1 ⟨p, sp⟩).mp h2
  · intro h
    have h1 := nobad_of r1 h
    exact ⟨h1, (can_iff ok ns bs t hb hn h1 ⟨p, sp⟩).mpr h⟩
end K42
/-! text Math8 -/
set_option Elab.async false
set_option linter.all false
set_option maxRecDepth 100000
/-! Plain law, 8: the keys the game may store; all that is asked of times. -/
namespace K42
open PySem PySem.Spec PyProof.Rows L2
theorem asgs_mem {A B : Int} : ∀ (lot : List Nat) (t u : Tms), (∀ i ∈ lot, i < t.length) → u ∈ asgs A B lot t → (∀ p, isSm t p = true → isSm u p = true) ∧ ∀ l h, inTm t l h → l ≤ A → B ≤ h → inTm u l h
  | [], t, u, _, hu => by rw [List.mem_singleton.mp hu]; exact ⟨fun _ h => h, fun _ _ h _ _ => h⟩
  | v :: lot, t, u, hl, hu => by
    obtain ⟨x, hx, hu⟩ := List.mem_flatMap.mp hu
    obtain ⟨x1, x2⟩ := mem_hoursR.mp hx
    have lv := hl v List.mem_cons_self
    obtain ⟨h1, h2⟩ := asgs_mem lot (t.set v (some x)) u (fun i hi => by rw [List.length_set]; exact hl i (List.mem_cons_of_mem _ hi)) hu
    refine ⟨fun p hp => h1 p ?_, fun l h ht hA hB => h2 l h (fun j y hy => ?_) hA hB⟩
    · by_cases e : p = v
      · exact (sm_of (x := x) (by rw [getD_set lv, if_pos e])).1
      · exact ((sm_eq (t := t) (u := t.set v (some x)) (by rw [getD_set lv, if_neg e])).1).trans hp
    · rw [getD_set lv] at hy
      by_cases e : j = v
      · rw [if_pos e] at hy
        cases hy; omega
      · rw [if_neg e] at hy; exact ht j y hy
theorem flat_len {α β : Type} {f : α → List β} {k : Nat} : ∀ {xs : List α}, (∀ x ∈ xs, (f x).length ≤ k) → (xs.flatMap f).length ≤ xs.length * k
  | [], _ => by rw [List.flatMap_nil, List.length_nil]; omega
  | x :: xs, h => by
    have h1 := h x List.mem_cons_self
    have h2 := flat_len (xs := xs) fun y hy => h y (List.mem_cons_of_mem _ hy)
    rw [List.flatMap_cons, List.length_append, List.length_cons, Nat.add_mul, Nat.one_mul]
    omega
theorem asgs_len {A B : Int} {k : Nat} (hk : (B + 1 - A).toNat ≤ k) : ∀ (lot : List Nat) (t : Tms), (asgs A B lot t).length ≤ k ^ lot.length
  | [], t => Nat.le_refl _
  | v :: lot, t => by
    have := flat_len (f := fun h => asgs A B lot (t.set v (some h))) (k := k ^ lot.length) (xs := hoursR A B) fun x _ => asgs_len hk lot _
    have hr : (hoursR A B).length ≤ k := by unfold hoursR; rw [List.length_map, List.length_range]; exact hk
    rw [List.length_cons, Nat.pow_succ, Nat.mul_comm]
    exact Nat.le_trans this (Nat.mul_le_mul_right _ hr)
theorem minmax {t : Tms} {l h : Int} (ht : inTm t l h) (ne : saidOf t ≠ []) : l ≤ minI (saidOf t) ∧ maxI (saidOf t) ≤ h := by
  have all : ∀ x ∈ saidOf t, l ≤ x ∧ x ≤ h := fun x hx => by
    obtain ⟨y, hy, e⟩ := List.mem_filterMap.mp hx
    obtain ⟨i, hi, e2⟩ := List.getElem_of_mem hy
    refine ht i x ?_
    rw [List.getD_eq_getElem?_getD, List.getElem?_eq_getElem hi, e2]
    exact e
  exact ⟨(all _ (minI_mem ne).1).1, (all _ (maxI_mem ne).1).2⟩
theorem over_le {ts : List TieT} {bs : List Nat} (w6 : walksOf bs ≤ 6) (h3 : ∀ x ∈ ts, x.2.2 ≤ 3) : 0 ≤ overOf ts bs ∧ overOf ts bs ≤ 18 := by
  have h1 := (max_ge (ts := ts)).1
  have h2 : maxI (0 :: ts.map fun t => t.2.2) ≤ 3 := by
    rcases List.mem_cons.mp (maxI_mem (xs := 0 :: ts.map fun t => t.2.2) nofun).1 with e | e
    · omega
    · obtain ⟨x, hx, e⟩ := List.mem_map.mp e
      have := h3 x hx
      omega
  unfold overOf
  generalize maxI (0 :: ts.map fun t => t.2.2) = M at h1 h2
  refine ⟨Int.mul_nonneg (by omega) h1, ?_⟩
  exact Int.le_trans (Int.mul_le_mul (show ((walksOf bs : Nat) : Int) ≤ 6 by omega) h2 h1 (by omega)) (by omega)
theorem can_pre {ts : List TieT} {n : Nat} {t : Tms} (hn : t.length = n) (n5 : n ≤ 5) (h3 : ∀ x ∈ ts, x.2.2 ≤ 3) (ht : inTm t (-435) 97) (hp : ∃ p, isSm t p = true) : ∀ bs, bs ∈ smallB → ∃ U : List (Tms × List Nat), U.length < 16000000 ∧ CanPre U ts bs t := by
  obtain ⟨p, hp⟩ := hp
  have ne : ∀ {u : Tms}, isSm u p = true → saidOf u ≠ [] := fun h z => by have := mem_said h; rw [z] at this; cases this
  obtain ⟨m1, m2⟩ := minmax ht (ne hp)
  have one : ∀ b, walksOf [b] ≤ 6 → ∀ U : List (Tms × List Nat), (t, [b]) ∈ U → CanPre U ts [b] t := fun b w6 U h => by
    obtain ⟨o1, o2⟩ := over_le w6 h3
    exact ⟨h, ne hp, fun j y hy => by have := ht j y hy; omega, by omega, fun _ _ _ _ => trivial⟩
  have two : ∀ b c, walksOf [b, c] ≤ 6 → walksOf [c] ≤ 6 → b ≤ 2 → ∃ U : List (Tms × List Nat), U.length < 16000000 ∧ CanPre U ts [b, c] t := fun b c w6 w7 b2 => by
    obtain ⟨o1, o2⟩ := over_le w6 h3
    obtain ⟨o3, o4⟩ := over_le w7 h3
    have ml : (missL t).length ≤ 5 := by
      have := List.length_filter_le (fun i => (t.getD i none).isNone) (List.range t.length)
      rw [List.length_range] at this
      unfold missL
      omega
    have ll : ((lotsF b (missL t)).drop 1).length ≤ 31 := by
      have h1 := lots_len b (missL t) [[]] 1 (Nat.le_refl _)
      have h2 : 2 ^ (missL t).length ≤ 2 ^ 5 := Nat.pow_le_pow_right (by decide) ml
      have h1 : (lotsF b (missL t)).length ≤ 2 ^ (missL t).length * 1 := h1
      rw [List.length_drop]; omega
    have al : ∀ lot ∈ (lotsF b (missL t)).drop 1, (asgs (spanOf ts t [b, c]).1 (spanOf ts t [b, c]).2 lot t).length ≤ 577 ^ 2 := fun lot h => by
      obtain ⟨_, _, l3⟩ := mem_lots.mp h
      refine Nat.le_trans (asgs_len (k := 577) ?_ lot t) (Nat.pow_le_pow_right (by decide) (by omega))
      show ((maxI (saidOf t) + overOf ts [b, c]) + 1 - (minI (saidOf t) - overOf ts [b, c])).toNat ≤ 577
      omega
    refine ⟨(t, [b, c]) :: (((lotsF b (missL t)).drop 1).flatMap fun lot => asgs (spanOf ts t [b, c]).1 (spanOf ts t [b, c]).2 lot t).map fun u => (u, [c]), ?_, List.mem_cons_self, ne hp, fun j y hy => by have := ht j y hy; omega, by omega, fun lot hl u hu => ⟨?_, ?_, ?_, by omega, fun _ _ _ _ => trivial⟩⟩
    · have := flat_len al
      have := Nat.mul_le_mul_right (577 ^ 2) ll
      rw [List.length_cons, List.length_map]
      omega
    · exact List.mem_cons_of_mem _ (List.mem_map.mpr ⟨u, List.mem_flatMap.mpr ⟨lot, hl, hu⟩, rfl⟩)
    · obtain ⟨h1, _⟩ := asgs_mem lot t u (fun i hi => (mem_miss.mp ((mem_lots.mp hl).2.1.subset hi)).1) hu
      exact ne (h1 p hp)
    · obtain ⟨_, h2⟩ := asgs_mem lot t u (fun i hi => (mem_miss.mp ((mem_lots.mp hl).2.1.subset hi)).1) hu
      refine h2 _ _ (fun j y hy => ?_) ?_ ?_
      · have := ht j y hy; omega
      · show -10000000000 ≤ minI (saidOf t) - overOf ts [b, c]; omega
      · show maxI (saidOf t) + overOf ts [b, c] ≤ 10000000000; omega
  intro bs hb
  unfold smallB at hb
  simp only [List.mem_cons, List.not_mem_nil, or_false] at hb
  rcases hb with rfl | rfl | rfl | rfl | rfl | rfl | rfl
  · exact ⟨[], by decide, trivial⟩
  · exact ⟨[(t, [1])], (show 1 < 16000000 by omega), one 1 (by decide) _ List.mem_cons_self⟩
  · exact ⟨[(t, [2])], (show 1 < 16000000 by omega), one 2 (by decide) _ List.mem_cons_self⟩
  · exact two 1 1 (by decide) (by decide) (by decide)
  · exact two 1 2 (by decide) (by decide) (by decide)
  · exact two 2 1 (by decide) (by decide) (by decide)
  · exact ⟨[(t, [3])], (show 1 < 16000000 by omega), one 3 (by decide) _ List.mem_cons_self⟩
/-- all that _law_right asks -/
theorem fits_of {ts : List TieT} {n turn : Nat} {t : Tms} (n1 : 1 ≤ n) (n12 : n ≤ 12) (hn : t.length = n) (ok : ∀ x ∈ ts, okT n x) (small : turn < 2 → n ≤ 5 ∧ (∀ x ∈ ts, x.2.2 ≤ 3) ∧ inTm t (-435) 97) : Fits ts n t turn := by
  have ok' : okTs n ts := fun x hx => ⟨(ok x hx).1, (ok x hx).2.1⟩
  refine ⟨limL_eq hn, limits_lim hn n12, fun bs hb => below_held ok' n1 hn fun b h => (hb.2 b h).1, fun h2 hp bs hb => ?_⟩
  obtain ⟨n5, h3, ht⟩ := small h2
  have hs : ∃ p, isSm t p = true := by
    refine Classical.byContradiction fun z => hp (List.eq_replicate_iff.mpr ⟨hn, fun x hx => ?_⟩)
    obtain ⟨i, hi, e⟩ := List.getElem_of_mem hx
    have : isSm t i = false := by
      cases q : isSm t i with
      | false => rfl
      | true => exact absurd ⟨i, q⟩ z
    have := sm_none this
    rw [List.getD_eq_getElem?_getD, List.getElem?_eq_getElem hi, e] at this
    exact this
  exact ⟨can_pre hn n5 h3 ht hs bs hb, game_held ok' (fun x hx => (ok x hx).2.2.1) hn (fun b h => ((small_ok bs hb).2 b h).1) hp⟩
end K42
/-! text P31 -/
set_option Elab.async false
set_option linter.all false
set_option maxRecDepth 100000
set_option maxHeartbeats 4000000
namespace K42
open PySem PySem.Spec PyProof.Rows L2

/-! The law. -/
section
variable {P : Program} {w : World} {K : PySem.W.Frag} {mg : Str → Option Value} {base : Heap} {CTab fTab P0 : Addr} {fdTab : FuncData}
theorem row_bound {ts : List TieT} {n v : Nat} {W M : Int} (w0 : 0 ≤ W) (m0 : 0 ≤ M) (h : ∀ t ∈ ts, -W ≤ t.2.2 ∧ t.2.2 ≤ M) : ∀ {k u : Nat} {x : Int}, (rowAt ts n v k).getD u none = some x → -((k : Int) * W) ≤ x ∧ x ≤ (k : Int) * M
  | 0, u, x, e => by
    have e : ((List.range n).map fun i => if i = v then some (0 : Int) else none).getD u none = some x := e
    rw [List.getD_eq_getElem?_getD, List.getElem?_map] at e
    have : x = 0 := by
      cases hq : (List.range n)[u]? with
      | none => rw [hq] at e; cases e
      | some y =>
        rw [hq] at e
        have e : (if y = v then some (0 : Int) else none) = some x := e
        by_cases z : y = v
        · rw [if_pos z] at e; exact (Option.some.inj e).symm
        · rw [if_neg z] at e; cases e
    subst this
    omega
  | k + 1, u, x, e => by
    have up : ∀ C : Int, ((k + 1 : Nat) : Int) * C = (k : Int) * C + C := fun C => by push_cast; rw [Int.add_mul, Int.one_mul]
    rw [up, up]
    rcases fold_from (show ((ts.foldl (stepRow (rowAt ts n v k)) (rowAt ts n v k)).getD u none = some x) from e) with e1 | ⟨t, ht, _, a, e1, rfl⟩
    · have := row_bound w0 m0 h e1
      omega
    · have := row_bound w0 m0 h e1
      have := h t ht
      omega
theorem row_box {ts : List TieT} {n v : Nat} {W M A B : Int} {k u : Nat} {x : Int} {N : Nat} (w0 : 0 ≤ W) (m0 : 0 ≤ M) (h : ∀ t ∈ ts, -W ≤ t.2.2 ∧ t.2.2 ≤ M) (hk : k ≤ N) (hA : (N : Int) * W ≤ A) (hB : (N : Int) * M ≤ B) (e : (rowAt ts n v k).getD u none = some x) : -A ≤ x ∧ x ≤ B := by
  have b := row_bound w0 m0 h e
  have c1 : (k : Int) * W ≤ (N : Int) * W := Int.mul_le_mul_of_nonneg_right (by omega) w0
  have c2 : (k : Int) * M ≤ (N : Int) * M := Int.mul_le_mul_of_nonneg_right (by omega) m0
  omega
/-- the law's names: how many things, how great the weights are, in each turn -/
def FN (i n : Nat) : Prop := 1 ≤ n ∧ n ≤ 12 ∧ (i < 2 → n ≤ 5) ∧ (1 < i → 4 ≤ n) ∧ (i = 0 → n ≤ 4)
def FM (i : Nat) (m : Int) : Prop := 1 ≤ m ∧ m ≤ 1000000 ∧ (i < 2 → m ≤ 3) ∧ (i = 1 → m ≤ 2)
/-- the ends that a round told -/
def encE : Option (Nat × Nat) → PD
  | none => .tuple []
  | some (x, y) => .tuple [en x, en y]
abbrev LR (l a : Addr) (t m o ti ed ro ta rw ag tm ov : Sl) : Rho := [.spc (.ref l), .spc (.ref a), t, m, o, ti, ed, ro, ta, rw, ag, tm, ov, .no, .no]
theorem EnvOk.extN {a c : Addr} {X : Addr → Prop} {o : Nat → Addr} {σ : L2.St} {H H' : Hp} {ρ : Rho} (V : EnvOk (Gh a c) X o σ H ρ) (e : LamX.ExtN H H') (hx : ∀ b, X b → ∃ xs, H b = some (.lst xs)) : EnvOk (Gh a c) X o σ H' ρ where
  s := by
    obtain ⟨cells, st, h1, h2, h⟩ := V.s
    exact ⟨cells, st, e _ _ h1 nofun, e _ _ h2 nofun, h⟩
  sub := V.sub
  xdom := fun b h => by
    obtain ⟨xs, z⟩ := hx b h
    rw [e _ _ z nofun]; exact nofun
  len := V.len
  inj := V.inj
  out := V.out
  dat := fun i d h => by
    obtain ⟨v, q, r⟩ := V.dat i d h
    exact ⟨v, q, r.extN e⟩
  own := fun i ds h => by
    obtain ⟨q, vs, z, r⟩ := V.own i ds h
    exact ⟨q, vs, e _ _ z nofun, r.extN e⟩
  spc := V.spc
def ringT : List TieT := [(0, 1, 1), (1, 2, 0), (2, 3, 0), (3, 4, 0), (4, 0, 0)]
theorem lim1 : limitsOf ringT 5 (List.replicate 5 none) = (none, some 5) := by decide +kernel
theorem lim2 : limitsOf ringT 5 [some 0, none, none, none, none] = (some 5, some 5) := by decide +kernel
theorem lim3 : limitsOf ringT 5 [some 0, none, some 1, none, some 1] = (some 1, some 5) := by decide +kernel
theorem lim4 : limitsOf ringT 5 [some 0, none, some 1, some 1, none] = (some 2, some 5) := by decide +kernel
def ringN : List Str := ["a", "b", "c", "d", "e"]
theorem ringN_ok : okNs ringN := by
  refine ⟨by decide, by decide, fun x hx => ?_, fun i x y h1 h2 => ?_⟩
  · simp only [ringN, List.mem_cons, List.not_mem_nil, or_false] at hx
    rcases hx with rfl | rfl | rfl | rfl | rfl <;> exact ⟨by decide +kernel, by decide +kernel, by decide +kernel⟩
  · match i with
    | 0 => cases h1; cases h2; decide +kernel
    | 1 => cases h1; cases h2; decide +kernel
    | 2 => cases h1; cases h2; decide +kernel
    | 3 => cases h1; cases h2; decide +kernel
    | 4 => cases h2
    | i + 5 => cases h1
theorem ringT_ok : okTis 5 ringT := by
  refine ⟨by decide, fun t ht => ?_⟩
  simp only [ringT, List.mem_cons, List.not_mem_nil, or_false] at ht
  rcases ht with rfl | rfl | rfl | rfl | rfl <;> exact ⟨by decide, by decide, by decide, by decide, by decide⟩
theorem okTm_small {tms : Tms} (h : tms.all (fun x => match x with | none => true | some i => decide ((if i < 0 then -i else i) ≤ 1000000000)) = true) : okTm tms := fun x hx i e => by
  have := List.all_eq_true.mp h x hx
  subst e
  exact of_decide_eq_true this
theorem next_raw {u : TS} {D : Ends} {σ : L2.St} {H : Hp} (h : u D σ H) : tNext { D with nx := u D } σ H := h
theorem asg_raw {te : TE} {i : Nat} {u : TS} {D : Ends} {σ : L2.St} {H : Hp} (h : te σ H fun v H' => u D (σ.set i (some v)) H') : tSeq (tAsg te (gName i)) u D σ H := h
def SpLaw (F : PySem.W.Frag) (P0 : Addr) : Sp := fun vs H Q _ => ∃ (l : Addr) (ns : List Int), vs = [.ref l] ∧ SqL F H l (ns.map L2.V.int) ∧ l ≠ P0 ∧ H P0 = some (.tbl #[]) ∧ ∀ H', Q (.bl true) H'
abbrev s_law : Stmt := top 79
abbrev N_law : List Str := ["_law_script", "_law_heap_here", "_law_turn", "_law_many", "_law_most", "_law_ties_here", "_law_ends", "_law_room", "_law_table", "_law_rows_here", "_law_again", "_law_times_here", "_law_over", "_law_thing", "_law_ring_here"]
theorem sc_law : FnScope N_law ["_law_script"] (defScope s_law) := ⟨rfl, rfl, rfl, by decide +kernel, rfl, by decide +kernel, by decide +kernel⟩

/-- @TERM law -/
theorem ok_law (T : Tx mg) (D : Dn K mg "law" s_law) (CTB : ClT P w K mg base 4 CTab fTab fdTab) (c__law_heap : Cl P w K mg base 1 "_law_heap" (SpHeap K)) (c__law_pick : Cl P w K mg base 2 "_law_pick" SpPick) (c__law_draw : Cl P w K mg base 1 "_law_draw" SpDraw)
    (c__law_ties : Cl P w K mg base 5 "_law_ties" (SpE p_law_ties)) (c__law_round : Cl P w K mg base 3 "_law_round" (SpE p_law_round)) (c__law_names : Cl P w K mg base 3 "_law_names" (SpE p_law_names)) (c__law_all_rows : Cl P w K mg base 2 "_law_all_rows" (SpP p_law_all_rows))
    (c__law_times : Cl P w K mg base 3 "_law_times" (SpE p_law_times)) (c__law_bad_right : Cl P w K mg base 9 "_law_bad_right" (SpBad K P0)) (c_limits : Cl P w K mg base 6 "limits" (SpP (p_limits K))) (c_is_within : Cl P w K mg base 5 "is_within" (SpP p_is_within))
    (c__law_right : Cg P w K mg base 19 "_law_right" (SpE (p_law_right K))) (c__law_pairs_right : Cg P w K mg base 7 "_law_pairs_right" (SpE p_law_pairs)) : Cg P w K mg base 20 "law" (SpLaw K P0) := by
  have sc := sc_law
  refine cg_mk D sc (fun _ _ _ _ _ _ us hl => match us, hl with | [_], _ => rfl) (fun vs H Q E ⟨l, ns, e, _⟩ => by rw [e]; rfl) fun f cdv A outer s H vs Q E hr hgd h => ?_
  have hu := hr.units
  refine ⟨_, (pss_cons (ps_set (i := 1) sc.nd rfl (Or.inl rfl) (pe_cl c__law_heap hr (by first | decide | omega) (by rfl) (pa_cons (pv 0) pa_nil)))
    (pss_cons (ps_for PassesOwn.never rfl (pi_range1 (by rfl) T.b_range (pa_cons pe_int pa_nil)) (pg_name (i := 2) sc.nd rfl (by first | exact Or.inl rfl | exact Or.inr rfl))
      (pss_cons (ps_set (i := 3) sc.nd rfl (Or.inl rfl) (pe_cl c__law_pick hr (by first | decide | omega) (by rfl) (pa_cons (pv 1) (pa_cons (pe_ix (ixSq (F := K)) (pe_lst (pa_cons (pe_lst (pa_cons pe_int (pa_cons pe_int (pa_cons pe_int (pa_cons pe_int (pa_cons pe_int pa_nil)))))) (pa_cons (pe_lst (pa_cons pe_int (pa_cons pe_int pa_nil))) (pa_cons (pe_lst (pa_cons pe_int (pa_cons pe_int (pa_cons pe_int pa_nil)))) (pa_cons (pe_lst (pa_cons pe_int (pa_cons pe_int (pa_cons pe_int pa_nil)))) pa_nil))))) (pv 2) (fun _ _ => rfl)) pa_nil))))
      (pss_cons (ps_set (i := 4) sc.nd rfl (Or.inl rfl) (pe_cl c__law_pick hr (by first | decide | omega) (by rfl) (pa_cons (pv 1) (pa_cons (pe_ix (ixSq (F := K)) (pe_lst (pa_cons (pe_lst (pa_cons pe_int (pa_cons pe_int pa_nil))) (pa_cons (pe_lst (pa_cons pe_int (pa_cons pe_int pa_nil))) (pa_cons (pe_lst (pa_cons pe_int (pa_cons pe_int pa_nil))) (pa_cons (pe_lst (pa_cons pe_int (pa_cons (pe_op op_pow pe_int pe_int) pa_nil))) pa_nil))))) (pv 2) (fun _ _ => rfl)) pa_nil))))
      (pss_cons (ps_asg (pe_tup (pa_cons (pe_cl c__law_ties hr (by first | decide | omega) (by rfl) (pa_cons (pv 1) (pa_cons (pv 3) (pa_cons (pv 4) pa_nil)))) (pa_cons (pe_tup pa_nil) (pa_cons pe_int pa_nil)))) (pg_tup rfl (pgs_cons (pg_name (i := 5) sc.nd rfl (by first | exact Or.inl rfl | exact Or.inr rfl)) (pgs_cons (pg_name (i := 6) sc.nd rfl (by first | exact Or.inl rfl | exact Or.inr rfl)) (pgs_cons (pg_name (i := 7) sc.nd rfl (by first | exact Or.inl rfl | exact Or.inr rfl)) pgs_nil)))))
      (pss_cons (ps_if (PW.pt (pw_and (pt_cmpR op_gt (pv 2) pe_int (nomark _)) (pw_and1 (pt_cmpR (opEq (F := K) hu) (pe_cl c__law_draw hr (by first | decide | omega) (by rfl) (pa_cons (pv 1) (pa_cons pe_int pa_nil))) pe_int (nomark _))))) (pss_one (ps_asg (pe_cl c__law_round hr (by first | decide | omega) (by rfl) (pa_cons (pv 1) (pa_cons (pv 3) pa_nil))) (pg_tup rfl (pgs_cons (pg_name (i := 5) sc.nd rfl (by first | exact Or.inl rfl | exact Or.inr rfl)) (pgs_cons (pg_name (i := 6) sc.nd rfl (by first | exact Or.inl rfl | exact Or.inr rfl)) (pgs_cons (pg_name (i := 7) sc.nd rfl (by first | exact Or.inl rfl | exact Or.inr rfl)) pgs_nil)))))) pss_nil)
      (pss_cons (ps_set (i := 8) sc.nd rfl (Or.inl rfl) (pe_mkT CTB hr (by first | decide | omega) (by rfl) (pa_cons (pe_cl c__law_names hr (by first | decide | omega) (by rfl) (pa_cons (pv 1) (pa_cons (pv 3) pa_nil))) (pa_cons (pe_callTy call_tuple_of (by rfl) T.b_tuple (by decide +kernel) (pa_cons (pv 5) pa_nil)) pa_nil))))
      (pss_cons (ps_set (i := 9) sc.nd rfl (Or.inl rfl) (pe_cl c__law_all_rows hr (by first | decide | omega) (by rfl) (pa_cons (pv 3) (pa_cons (pe_fld (pv 8) rfl) pa_nil))))
      (pss_cons (ps_for PassesOwn.never rfl (pi_range1 (by rfl) T.b_range (pa_cons (pe_ifExp (pt_cmpR op_lt (pv 2) pe_int (nomark _)) pe_int pe_int) pa_nil)) (pg_name (i := 10) sc.nd rfl (by first | exact Or.inl rfl | exact Or.inr rfl))
        (pss_cons (ps_set (i := 11) sc.nd rfl (Or.inl rfl) (pe_cl c__law_times hr (by first | decide | omega) (by rfl) (pa_cons (pv 1) (pa_cons (pv 9) pa_nil))))
        (pss_cons (ps_if (PW.pt (pw_and (pt_cmpR (opNe (F := K) hu) (pv 6) (pe_tup pa_nil) (nomark _)) (pw_and1 (pt_cmpR op_gt (pe_cl c__law_draw hr (by first | decide | omega) (by rfl) (pa_cons (pv 1) (pa_cons pe_int pa_nil))) pe_int (nomark _))))) (pss_cons (ps_set (i := 12) sc.nd rfl (Or.inr rfl) (pe_op op_add (pv 7) (pe_cl c__law_pick hr (by first | decide | omega) (by rfl) (pa_cons (pv 1) (pa_cons (pe_lst (pa_cons pe_int (pa_cons pe_int (pa_cons pe_int pa_nil)))) pa_nil)))))
          (pss_one (ps_set (i := 11) sc.nd rfl (Or.inl rfl) (pe_callTy call_tuple_of (by rfl) T.b_tuple (by decide +kernel) (pa_cons (pe_lc (own := [("_law_thing", 13)]) (g := gName 13) (by rfl) sc.nd (pi_range1 (by rfl) T.b_range (pa_cons (pv 3) pa_nil)) (blkOk_by (own := [("_law_thing", 13)]) (N := N_law) (sc := (defScope s_law)) (by decide +kernel)) (fun _ _ _ _ _ => (pg_name (i := 13) sc.nd rfl (by first | exact Or.inl rfl | exact Or.inr rfl))) (fun _ _ _ _ _ => pts_nil) (fun _ _ _ _ _ => (pe_ifExp (pt_cmpR (opEq (F := K) hu) (pv 13) (pe_ix (ixSq (F := K)) (pv 6) pe_int (fun _ _ => rfl)) (nomark _)) pe_int (pe_ifExp (pt_cmpR (opEq (F := K) hu) (pv 13) (pe_ix (ixSq (F := K)) (pv 6) pe_int (fun _ _ => rfl)) (nomark _)) (pe_op op_add pe_int (pv 12)) pe_non)))) pa_nil))))) pss_nil)
        (pss_one (ps_if (pt_not (pt_val (pe_cg c__law_right hr hgd (by first | decide | omega) (by rfl) (pa_cons (pv 1) (pa_cons (pv 8) (pa_cons (pv 9) (pa_cons (pv 11) (pa_cons (pv 2) pa_nil)))))))) (pss_one (ps_ret pe_bl)) pss_nil)))))
      (pss_one (ps_if (PW.pt (pw_and (pt_cmpR (opEq (F := K) hu) (pv 2) pe_int (nomark _)) (pw_and1 (pt_not (pt_val (pe_cg c__law_right hr hgd (by first | decide | omega) (by rfl) (pa_cons (pv 1) (pa_cons (pv 8) (pa_cons (pv 9) (pa_cons (pe_op (op_repA (F := K)) (pe_tup (pa_cons pe_non pa_nil)) (pv 3)) (pa_cons (pv 2) pa_nil))))))))))) (pss_one (ps_ret pe_bl)) pss_nil))))))))))
    (pss_cons (ps_if (PW.pt (pw_or (pt_not (pt_val (pe_cl c__law_bad_right hr (by first | decide | omega) (by rfl) (pa_cons (pv 8) (pa_cons (pv 3) pa_nil))))) (pw_or1 (pt_not (pt_val (pe_cg c__law_pairs_right hr hgd (by first | decide | omega) (by rfl) (pa_cons (pv 1) pa_nil))))))) (pss_one (ps_ret pe_bl)) pss_nil)
    (pss_cons (ps_set (i := 14) sc.nd rfl (Or.inl rfl) (pe_mkT CTB hr (by first | decide | omega) (by rfl) (pa_cons (pe_tup (pa_cons pe_str (pa_cons pe_str (pa_cons pe_str (pa_cons pe_str (pa_cons pe_str pa_nil)))))) (pa_cons (pe_tup (pa_cons (pe_tup (pa_cons pe_int (pa_cons pe_int (pa_cons pe_int pa_nil)))) (pa_cons (pe_tup (pa_cons pe_int (pa_cons pe_int (pa_cons pe_int pa_nil)))) (pa_cons (pe_tup (pa_cons pe_int (pa_cons pe_int (pa_cons pe_int pa_nil)))) (pa_cons (pe_tup (pa_cons pe_int (pa_cons pe_int (pa_cons pe_int pa_nil)))) (pa_cons (pe_tup (pa_cons pe_int (pa_cons pe_int (pa_cons pe_int pa_nil)))) pa_nil)))))) pa_nil))))
    (pss_cons (ps_if (PW.pt (pw_or (pt_cmpR (opNe (F := K) hu) (pe_cl c_limits hr (by first | decide | omega) (by rfl) (pa_cons (pv 14) (pa_cons (pe_op (op_repA (F := K)) (pe_tup (pa_cons pe_non pa_nil)) pe_int) pa_nil))) (pe_tup (pa_cons pe_non (pa_cons pe_int pa_nil))) (nomark _)) (pw_or1 (pt_cmpR (opNe (F := K) hu) (pe_cl c_limits hr (by first | decide | omega) (by rfl) (pa_cons (pv 14) (pa_cons (pe_tup (pa_cons pe_int (pa_cons pe_non (pa_cons pe_non (pa_cons pe_non (pa_cons pe_non pa_nil)))))) pa_nil))) (pe_tup (pa_cons pe_int (pa_cons pe_int pa_nil))) (nomark _))))) (pss_one (ps_ret pe_bl)) pss_nil)
    (pss_cons (ps_if (PW.pt (pw_or (pt_cmpR (opNe (F := K) hu) (pe_cl c_limits hr (by first | decide | omega) (by rfl) (pa_cons (pv 14) (pa_cons (pe_tup (pa_cons pe_int (pa_cons pe_non (pa_cons pe_int (pa_cons pe_non (pa_cons pe_int pa_nil)))))) pa_nil))) (pe_tup (pa_cons pe_int (pa_cons pe_int pa_nil))) (nomark _)) (pw_or1 (pt_cmpR (opNe (F := K) hu) (pe_cl c_limits hr (by first | decide | omega) (by rfl) (pa_cons (pv 14) (pa_cons (pe_tup (pa_cons pe_int (pa_cons pe_non (pa_cons pe_int (pa_cons pe_int (pa_cons pe_non pa_nil)))))) pa_nil))) (pe_tup (pa_cons pe_int (pa_cons pe_int pa_nil))) (nomark _))))) (pss_one (ps_ret pe_bl)) pss_nil)
    (pss_one (ps_ret (pe_and (pe_cl c_is_within hr (by first | decide | omega) (by rfl) (pa_cons (pe_tup (pa_cons pe_non (pa_cons pe_int pa_nil))) (pa_cons (pe_tup (pa_cons pe_int (pa_cons pe_int pa_nil))) pa_nil))) (pe_and (pe_not (pe_cl c_is_within hr (by first | decide | omega) (by rfl) (pa_cons (pe_tup (pa_cons pe_non (pa_cons pe_int pa_nil))) (pa_cons (pe_tup (pa_cons pe_int (pa_cons pe_int pa_nil))) pa_nil)))) (pe_one (pe_cl c_is_within hr (by first | decide | omega) (by rfl) (pa_cons (pe_tup (pa_cons pe_int (pa_cons pe_int pa_nil))) (pa_cons (pe_tup (pa_cons pe_int (pa_cons pe_int pa_nil))) pa_nil)))))))))))))), ?_⟩
  obtain ⟨l, ns, rfl, hs, lP, hP, q⟩ := h
  refine asg_raw ⟨.ref l, rfl, l, ns, rfl, hs, fun a c H1 na fr hp => ?_⟩
  have hP1 : H1 P0 = some (.tbl #[]) := fr _ _ hP fun z => lP z.symm
  have nP : ¬ Nac a c P0 := by
    obtain ⟨cells, st, h1, h2, _⟩ := hp
    rintro (z | z)
    · rw [← z, hP1] at h1; cases h1
    · rw [← z, hP1] at h2; cases h2
  have tc := CTB.c
  have V : EnvOk (Gh a c) (Nac a c) (fun _ => 0) (L2.start N_law [.ref l, .ref a]) H1 (LR l a .no .no .no .no .no .no .no .no .no .no .no) :=
    env_start (G := Gh a c) (N := N_law) (ss := [.spc (.ref l), .spc (.ref a)]) hp (fun b e => e) (fun b e => Gm.dom _ _ _ hp e) (.cons .spc (.cons .spc .nil)) (le_ rfl) fun _ => 0
  refine run_seq (E := ⟨fun ρ => ∃ t n o ti ed ro dt rw ag tm ov ts, ρ = LR l a t (.dat (en n)) o ti ed ro (.dat dt) rw ag tm ov ∧ TbD K n ts dt ∧ 1 ≤ n ∧ n ≤ 12, fun _ => False, fun _ => False, fun _ => False⟩) ?_ V (fun _ z => z) (fun _ z => z) (fun _ z => z) fun o2 σ2 H2 ρ2 a2 V2 e2 => ?_
  · refine wpS_for tg_name (wpI_rng1 (wpA_cons (wpE_int (wpA_nil ⟨4, rfl, by decide, by decide, fun i ρ => ∃ t m o ti ed ro ta rw ag tm ov, ρ = LR l a t m o ti ed ro ta rw ag tm ov ∧ (0 < i → ∃ n ts dt, m = .dat (en n) ∧ ta = .dat dt ∧ TbD K n ts dt ∧ 1 ≤ n ∧ n ≤ 12), ⟨_, _, _, _, _, _, _, _, _, _, _, rfl, fun z => absurd z (by decide)⟩, ?_, ?_⟩))))
    · rintro i d ρ' hi e ⟨t0, m0, o0, ti0, ed0, ro0, ta0, rw0, ag0, tm0, ov0, rfl, _⟩
      cases e
      have hi : i < 4 := hi
      refine ⟨_, rfl, ?_⟩
      show wpS (Gh a c) _ (LR l a (.dat (en i)) m0 o0 ti0 ed0 ro0 ta0 rw0 ag0 tm0 ov0) _
      refine wpS_seq (wpS_set (wpE.imp (K := fun d => ∃ n, d = en n ∧ FN i n) ?_ ?_))
      · refine wpE_pick rfl (wpE.R (wpE_op opD_ix (wpN.E (wpN_lst ?_))))
        refine wpA_cons (wpN.E (wpN_lst (wpA_cons (wpE_int (wpA_cons (wpE_int (wpA_cons (wpE_int (wpA_cons (wpE_int (wpA_cons (wpE_int (wpA_nil ⟨[_, _, _, _, _], rfl, le_ rfl, wpA_cons (wpN.E (wpN_lst (wpA_cons (wpE_int (wpA_cons (wpE_int (wpA_nil ⟨[_, _], rfl, le_ rfl, ?_⟩)))))))⟩)))))))))))))
        refine wpA_cons (wpN.E (wpN_lst (wpA_cons (wpE_int (wpA_cons (wpE_int (wpA_cons (wpE_int (wpA_nil ⟨[_, _, _], rfl, le_ rfl, wpA_cons (wpN.E (wpN_lst (wpA_cons (wpE_int (wpA_cons (wpE_int (wpA_cons (wpE_int (wpA_nil ⟨[_, _, _], rfl, le_ rfl, wpA_nil ⟨[_, _, _, _], rfl, le_ rfl, wpE_var rfl ?_⟩⟩)))))))))⟩)))))))))
        have hh : i = 0 ∨ i = 1 ∨ i = 2 ∨ i = 3 := by omega
        rcases hh with rfl | rfl | rfl | rfl
        · refine ⟨_, _, _, rfl, rfl, rfl, _, rfl, lt_ rfl, le_ rfl, fun d hd => ?_⟩
          simp only [List.mem_cons, List.not_mem_nil, or_false] at hd
          rcases hd with rfl | rfl | rfl | rfl | rfl
          · exact ⟨4, rfl, by unfold FN; omega⟩
          · exact ⟨3, rfl, by unfold FN; omega⟩
          · exact ⟨4, rfl, by unfold FN; omega⟩
          · exact ⟨2, rfl, by unfold FN; omega⟩
          · exact ⟨1, rfl, by unfold FN; omega⟩
        · refine ⟨_, _, _, rfl, rfl, rfl, _, rfl, lt_ rfl, le_ rfl, fun d hd => ?_⟩
          simp only [List.mem_cons, List.not_mem_nil, or_false] at hd
          rcases hd with rfl | rfl
          · exact ⟨5, rfl, by unfold FN; omega⟩
          · exact ⟨4, rfl, by unfold FN; omega⟩
        · refine ⟨_, _, _, rfl, rfl, rfl, _, rfl, lt_ rfl, le_ rfl, fun d hd => ?_⟩
          simp only [List.mem_cons, List.not_mem_nil, or_false] at hd
          rcases hd with rfl | rfl | rfl
          · exact ⟨5, rfl, by unfold FN; omega⟩
          · exact ⟨6, rfl, by unfold FN; omega⟩
          · exact ⟨7, rfl, by unfold FN; omega⟩
        · refine ⟨_, _, _, rfl, rfl, rfl, _, rfl, lt_ rfl, le_ rfl, fun d hd => ?_⟩
          simp only [List.mem_cons, List.not_mem_nil, or_false] at hd
          rcases hd with rfl | rfl | rfl
          · exact ⟨12, rfl, by unfold FN; omega⟩
          · exact ⟨9, rfl, by unfold FN; omega⟩
          · exact ⟨10, rfl, by unfold FN; omega⟩
      rintro d ⟨n, rfl, fn⟩
      show wpS (Gh a c) _ (LR l a (.dat (en i)) (.dat (en n)) o0 ti0 ed0 ro0 ta0 rw0 ag0 tm0 ov0) _
      refine wpS_seq (wpS_set (wpE.imp (K := fun d => ∃ m : Int, d = .int m ∧ FM i m) ?_ ?_))
      · refine wpE_pick rfl (wpE.R (wpE_op opD_ix (wpN.E (wpN_lst ?_))))
        refine wpA_cons (wpN.E (wpN_lst (wpA_cons (wpE_int (wpA_cons (wpE_int (wpA_nil ⟨[_, _], rfl, le_ rfl, wpA_cons (wpN.E (wpN_lst (wpA_cons (wpE_int (wpA_cons (wpE_int (wpA_nil ⟨[_, _], rfl, le_ rfl, ?_⟩)))))))⟩)))))))
        refine wpA_cons (wpN.E (wpN_lst (wpA_cons (wpE_int (wpA_cons (wpE_int (wpA_nil ⟨[_, _], rfl, le_ rfl, wpA_cons (wpN.E (wpN_lst (wpA_cons (wpE_int (wpA_cons (wpE_op opD_I (wpE_int (wpE_int ⟨_, _, rfl, rfl, ⟨by decide, by decide, by decide⟩, wpA_nil ⟨[_, _], rfl, le_ rfl, wpA_nil ⟨[_, _, _, _], rfl, le_ rfl, wpE_var rfl ?_⟩⟩⟩))))))))⟩)))))))
        have hh : i = 0 ∨ i = 1 ∨ i = 2 ∨ i = 3 := by omega
        rcases hh with rfl | rfl | rfl | rfl
        · refine ⟨_, _, _, rfl, rfl, rfl, _, rfl, lt_ rfl, le_ rfl, fun d hd => ?_⟩
          simp only [List.mem_cons, List.not_mem_nil, or_false] at hd
          rcases hd with rfl | rfl
          · exact ⟨3, rfl, by unfold FM; omega⟩
          · exact ⟨1, rfl, by unfold FM; omega⟩
        · refine ⟨_, _, _, rfl, rfl, rfl, _, rfl, lt_ rfl, le_ rfl, fun d hd => ?_⟩
          simp only [List.mem_cons, List.not_mem_nil, or_false] at hd
          rcases hd with rfl | rfl
          · exact ⟨2, rfl, by unfold FM; omega⟩
          · exact ⟨1, rfl, by unfold FM; omega⟩
        · refine ⟨_, _, _, rfl, rfl, rfl, _, rfl, lt_ rfl, le_ rfl, fun d hd => ?_⟩
          simp only [List.mem_cons, List.not_mem_nil, or_false] at hd
          rcases hd with rfl | rfl
          · exact ⟨4, rfl, by unfold FM; omega⟩
          · exact ⟨40, rfl, by unfold FM; omega⟩
        · refine ⟨_, _, _, rfl, rfl, rfl, _, rfl, lt_ rfl, le_ rfl, fun d hd => ?_⟩
          simp only [List.mem_cons, List.not_mem_nil, or_false] at hd
          rcases hd with rfl | rfl
          · exact ⟨5, rfl, by unfold FM; omega⟩
          · exact ⟨1000000, rfl, by unfold FM; omega⟩
      rintro d ⟨m, rfl, fm⟩
      show wpS (Gh a c) _ (LR l a (.dat (en i)) (.dat (en n)) (.dat (.int m)) ti0 ed0 ro0 ta0 rw0 ag0 tm0 ov0) _
      obtain ⟨n1, n12, n5, n4, n40⟩ := id fn
      obtain ⟨m1, m6, m3, m2⟩ := id fm
      have prod : i < 2 → (n : Int) * m + 2 ≤ 14 := fun h => by
        rcases (show i = 0 ∨ i = 1 by omega) with rfl | rfl
        · have := n40 rfl
          have := m3 h
          have : (n : Int) * m ≤ 4 * 3 := Int.mul_le_mul (by omega) (by omega) (by omega) (by omega)
          omega
        · have := n5 h
          have := m2 rfl
          have : (n : Int) * m ≤ 5 * 2 := Int.mul_le_mul (by omega) (by omega) (by omega) (by omega)
          omega
      refine wpS_seq (wpS_asg (tg_tup (js := [5, 6, 7]) rfl rfl) (wpE_tup (wpA_cons (wpN.E (wpN_callE rfl (wpA_cons (wpE_var rfl (wpA_cons (wpE_var rfl (wpA_nil ⟨[_, _], rfl, n, m, rfl, n1, n12, m1, m6, fun ts tl tok => ⟨_, rfl, wpA_cons (wpE_tup (wpA_nil ⟨[], rfl, le_ rfl, wpA_cons (wpE_int (wpA_nil ⟨[_, _, _], rfl, le_ rfl, _, rfl, ?_⟩))⟩))⟩⟩))))))))))
      show wpS (Gh a c) _ (LR l a (.dat (en i)) (.dat (en n)) (.dat (.int m)) (.dat (.list (ts.map et))) (.dat (encE none)) (.dat (.int 0)) ta0 rw0 ag0 tm0 ov0) _
      have tk0 : ∀ t ∈ ts, okT n t := fun t ht => (tok t ht).1
      have tw0 : i < 2 → ∀ t ∈ ts, -14 ≤ t.2.2 ∧ t.2.2 ≤ 3 := fun h t ht => by
        obtain ⟨_, q1, q2⟩ := tok t ht
        have := prod h
        have := m3 h
        omega
      refine wpS_seq (wpS.imp (E := ⟨fun ρ => ∃ (ts : List TieT) (ed : Option (Nat × Nat)) (rm : Int), ρ = LR l a (.dat (en i)) (.dat (en n)) (.dat (.int m)) (.dat (.list (ts.map et))) (.dat (encE ed)) (.dat (.int rm)) ta0 rw0 ag0 tm0 ov0 ∧ ts.length ≤ 60 ∧ (∀ t ∈ ts, okT n t) ∧ (i < 2 → ∀ t ∈ ts, -14 ≤ t.2.2 ∧ t.2.2 ≤ 3) ∧ -1000 ≤ rm ∧ rm ≤ 1000 ∧ (i < 2 → ed = none), fun _ => False, fun _ => False, fun _ => False⟩) ?_ ?_ (fun _ z => z.elim) (fun _ z => z.elim) (fun _ z => z.elim))
      · refine wpS_if (wpT_and (wpT_test (wpE_op opD_B0 (wpE_var rfl (wpE_int ⟨_, _, rfl, rfl, _, rfl, ?_⟩)))))
        by_cases h : (1 : Int) < (i : Int)
        · rw [decide_eq_true h, if_pos rfl]
          refine wpT_test (wpE_op opD_eq (wpE_draw rfl (wpE_int ⟨_, rfl, by decide, by decide, fun r r0 r1 => wpE_int ⟨rfl, rfl, _, rfl, ?_⟩⟩)))
          split
          · refine wpS_asg (tg_tup (js := [5, 6, 7]) rfl rfl) (wpE_callE rfl (wpA_cons (wpE_var rfl (wpA_nil ⟨[_], rfl, n, rfl, n4 (by omega), n12, fun ts2 o1 o2 x tl2 tok2 h1 h2 x0 x1 => ⟨_, rfl, ts2, some (o1, o2), x, rfl, tl2, tok2, fun z => absurd z (by omega), x0, x1, fun z => absurd z (by omega)⟩⟩))))
          · exact wpS_nil ⟨ts, none, 0, rfl, tl, tk0, tw0, by decide, by decide, fun _ => rfl⟩
        · rw [decide_eq_false h, if_neg Bool.false_ne_true]
          exact wpS_nil ⟨ts, none, 0, rfl, tl, tk0, tw0, by decide, by decide, fun _ => rfl⟩
      clear tk0 tw0 tok tl ts
      rintro ρ' ⟨ts, ed, rm, rfl, tl, tok, tw, r0, r1, ed0⟩
      have oks : okTs n ts := fun t ht => ⟨(tok t ht).1, (tok t ht).2.1⟩
      refine wpS_seq (wpS_set (wpE_mkT tc (wpA_cons (wpE_callE rfl (wpA_cons (wpE_var rfl (wpA_nil ⟨[_], rfl, n, rfl, n1, n12, fun nm nok nl => wpA_cons (wpE_tuple (wpE.Q (wpE_var rfl ⟨_, rfl, wpA_nil ⟨nm, ts, rfl, nok, ⟨tl, by rw [nl]; exact tok⟩, ?_⟩⟩)))⟩)))))))
      show wpS (Gh a c) _ (LR l a (.dat (en i)) (.dat (en n)) (.dat (.int m)) (.dat (.list (ts.map et))) (.dat (encE ed)) (.dat (.int rm)) (.dat (tabD CTab (.tuple (nm.map .str)) (.tuple (ts.map et)))) rw0 ag0 tm0 ov0) _
      have tbd : TbD K n ts (tabD CTab (.tuple (nm.map .str)) (.tuple (ts.map et))) := ⟨CTab, nm.map .str, rfl, by rw [List.length_map]; exact nl, tc, oks, by omega⟩
      have tie0 : Tie0 ts n := ⟨oks, fun t ht => (tok t ht).2.2.2, tl⟩
      refine wpS_seq (wpS_set (wpE_callP (wpA_cons (wpE_var rfl (wpA_cons (wpE_ties (wpE_var rfl ⟨CTab, _, _, rfl, tc.cls, tc.ti, wpA_nil ⟨[_, _], rfl, n, ts, rfl, oks, by omega, ?_⟩⟩)))))))
      show wpS (Gh a c) _ (LR l a (.dat (en i)) (.dat (en n)) (.dat (.int m)) (.dat (.list (ts.map et))) (.dat (encE ed)) (.dat (.int rm)) (.dat (tabD CTab (.tuple (nm.map .str)) (.tuple (ts.map et)))) (.dat (.list (rowsD ts n))) ag0 tm0 ov0) _
      obtain ⟨dt, hdt⟩ : ∃ dt, dt = tabD CTab (.tuple (nm.map .str)) (.tuple (ts.map et)) := ⟨_, rfl⟩
      rw [← hdt] at tbd ⊢
      have small : ∀ tms : Tms, (i < 2 → inTm tms (-435) 97) → i < 2 → n ≤ 5 ∧ (∀ x ∈ ts, x.2.2 ≤ 3) ∧ inTm tms (-435) 97 := fun tms h z => ⟨n5 z, fun x hx => (tw z x hx).2, h z⟩
      obtain ⟨R, hR⟩ : ∃ R : Sl → Sl → Sl → Rho, R = fun ag tm ov => LR l a (.dat (en i)) (.dat (en n)) (.dat (.int m)) (.dat (.list (ts.map et))) (.dat (encE ed)) (.dat (.int rm)) (.dat dt) (.dat (.list (rowsD ts n))) ag tm ov := ⟨_, rfl⟩
      refine wpS_seq (wpS.imp (E := ⟨fun ρ => ∃ ag tm ov, ρ = R ag tm ov, fun _ => False, fun _ => False, fun _ => False⟩) ?_ ?_ (fun _ z => z.elim) (fun _ z => z.elim) (fun _ z => z.elim))
      · refine wpS_for tg_name (wpI_rng1 (wpA_cons (wpE.imp (K := fun d => ∃ j : Int, d = .int j ∧ 0 ≤ j ∧ j ≤ 2) ?_ ?_)))
        · refine wpE_if (wpT_test (wpE_op opD_B0 (wpE_var rfl (wpE_int ⟨_, _, rfl, rfl, _, rfl, ?_⟩))))
          split
          · exact wpE_int ⟨2, rfl, by decide, by decide⟩
          · exact wpE_int ⟨1, rfl, by decide, by decide⟩
        rintro d ⟨j, rfl, j0, j2⟩
        refine wpA_nil ⟨j, rfl, by omega, by omega, fun _ ρ => ∃ ag tm ov, ρ = R ag tm ov, ⟨_, _, _, by rw [hR]⟩, ?_, fun _ z => z⟩
        rintro q d ρ' hq e ⟨ag, tm, ov, rfl⟩
        cases e
        refine ⟨_, rfl, ?_⟩
        rw [hR]
        show wpS (Gh a c) _ (LR l a (.dat (en i)) (.dat (en n)) (.dat (.int m)) (.dat (.list (ts.map et))) (.dat (encE ed)) (.dat (.int rm)) (.dat dt) (.dat (.list (rowsD ts n))) (.dat (en q)) tm ov) _
        have nb : ∃ A B : Int, 0 ≤ A ∧ A ≤ 20000000 ∧ 0 ≤ B ∧ B ≤ 20000000 ∧ (∀ v k j x, k ≤ 3 ∨ k ≤ n → (rowAt ts n v k).getD j none = some x → -A ≤ x ∧ x ≤ B) ∧ (i < 2 → -435 ≤ -(5 + (n : Int) * (A + 1)) ∧ 7 + (n : Int) * (B + 3) ≤ 97) := by
          by_cases h : i < 2
          · have := n5 h
            refine ⟨70, 15, by decide, by decide, by decide, by decide, fun v k j x hk e => row_box (W := 14) (M := 3) (N := 5) (by decide) (by decide) (tw h) (by omega) (by decide) (by decide) e, fun _ => ?_⟩
            omega
          · exact ⟨12000000, 12000000, by decide, by decide, by decide, by decide, fun v k j x hk e => row_box (W := 1000000) (M := 1000000) (N := 12) (by decide) (by decide) (fun t ht => (tok t ht).2.2.2) (by omega) (by decide) (by decide) e, fun z => absurd z h⟩
        obtain ⟨A, B, A0, A1, B0, B1, box, bound⟩ := nb
        refine wpS_seq (wpS_set (wpE_callE rfl (wpA_cons (wpE_var rfl (wpA_nil ⟨[_], rfl, n, ts, A, B, rfl, n1, n12, A0, A1, B0, B1, box, fun tms tl2 otm itm => ?_⟩)))))
        show wpS (Gh a c) _ (LR l a (.dat (en i)) (.dat (en n)) (.dat (.int m)) (.dat (.list (ts.map et))) (.dat (encE ed)) (.dat (.int rm)) (.dat dt) (.dat (.list (rowsD ts n))) (.dat (en q)) (.dat (encT tms)) ov) _
        refine wpS_seq (wpS.imp (E := ⟨fun ρ => ∃ (tms : Tms) (ov : Sl), ρ = LR l a (.dat (en i)) (.dat (en n)) (.dat (.int m)) (.dat (.list (ts.map et))) (.dat (encE ed)) (.dat (.int rm)) (.dat dt) (.dat (.list (rowsD ts n))) (.dat (en q)) (.dat (encT tms)) ov ∧ tms.length = n ∧ okTm tms ∧ (i < 2 → inTm tms (-435) 97), fun _ => False, fun _ => False, fun _ => False⟩) ?_ ?_ (fun _ z => z.elim) (fun _ z => z.elim) (fun _ z => z.elim))
        · have asis : wpS (Gh a c) tNext (LR l a (.dat (en i)) (.dat (en n)) (.dat (.int m)) (.dat (.list (ts.map et))) (.dat (encE ed)) (.dat (.int rm)) (.dat dt) (.dat (.list (rowsD ts n))) (.dat (en q)) (.dat (encT tms)) ov)
              ⟨fun ρ => ∃ (tms : Tms) (ov : Sl), ρ = LR l a (.dat (en i)) (.dat (en n)) (.dat (.int m)) (.dat (.list (ts.map et))) (.dat (encE ed)) (.dat (.int rm)) (.dat dt) (.dat (.list (rowsD ts n))) (.dat (en q)) (.dat (encT tms)) ov ∧ tms.length = n ∧ okTm tms ∧ (i < 2 → inTm tms (-435) 97), fun _ => False, fun _ => False, fun _ => False⟩ :=
            wpS_nil ⟨tms, ov, rfl, tl2, otm, fun h => itm.mono (bound h).1 (bound h).2⟩
          have she : SeqAt.shaped (encE ed) = true := by
            cases ed with
            | none => exact (plain_tup (k := 0) fun d hd => by cases hd).shaped (by decide)
            | some p => exact (plain_tup (k := 0) fun d hd => by
                simp only [List.mem_cons, List.not_mem_nil, or_false] at hd
                rcases hd with rfl | rfl <;> exact ⟨rfl, Nat.le_refl _⟩).shaped (by decide)
          refine wpS_if (wpT_and (wpT_test (wpE_op opD_ne (wpE_var rfl (wpE_tup (wpA_nil ⟨[], rfl, le_ rfl, she, (plain_tup (k := 0) fun d hd => by cases hd).shaped (by decide), _, rfl, ?_⟩))))))
          cases ed with
          | none =>
            rw [show PyData.eqv (encE none) (.tuple []) = true by simp [encE, PyData.eqv, PyData.eqvAll], Bool.not_true, if_neg Bool.false_ne_true]
            exact asis
          | some p =>
            obtain ⟨o1, o2⟩ := p
            rw [show PyData.eqv (encE (some (o1, o2))) (.tuple []) = false by simp [encE, PyData.eqv, PyData.eqvAll], Bool.not_false, if_pos rfl]
            have hi2 : ¬ i < 2 := fun z => by have := ed0 z; cases this
            refine wpT_test (wpE_op opD_B0 (wpE_draw rfl (wpE_int ⟨_, rfl, by decide, by decide, fun r r0 r1 => wpE_int ⟨_, _, rfl, rfl, _, rfl, ?_⟩⟩)))
            split
            · refine wpS_seq (wpS_set (wpE_op opD_I0 (wpE_var rfl (wpE_pick rfl (wpN.R (wpN_lst (wpA_cons (wpE_int (wpA_cons (wpE_int (wpA_cons (wpE_int (wpA_nil ⟨[_, _, _], rfl, le_ rfl, lt_ rfl, le_ rfl, fun d hd => ?_⟩)))))))))))))
              obtain ⟨z, rfl, z0, z1⟩ : ∃ z : Int, d = .int z ∧ 0 ≤ z ∧ z ≤ 1 := by
                simp only [List.mem_cons, List.not_mem_nil, or_false] at hd
                rcases hd with rfl | rfl | rfl
                · exact ⟨0, rfl, by decide, by decide⟩
                · exact ⟨0, rfl, by decide, by decide⟩
                · exact ⟨1, rfl, by decide, by decide⟩
              refine ⟨_, _, rfl, rfl, ?_⟩
              show wpS (Gh a c) _ (LR l a (.dat (en i)) (.dat (en n)) (.dat (.int m)) (.dat (.list (ts.map et))) (.dat (encE (some (o1, o2)))) (.dat (.int rm)) (.dat dt) (.dat (.list (rowsD ts n))) (.dat (en q)) (.dat (encT tms)) (.dat (.int (rm + z)))) _
              obtain ⟨F, hF⟩ : ∃ F : Nat → Option Int, F = fun v => if v = o1 then some 5 else if v = o2 then some (5 + (rm + z)) else none := ⟨_, rfl⟩
              have F1 : ∀ v, v = o1 → F v = some 5 := fun v h => by rw [hF]; exact if_pos h
              have F2 : ∀ v, v ≠ o1 → v = o2 → F v = some (5 + (rm + z)) := fun v h h2 => by rw [hF]; exact (if_neg h).trans (if_pos h2)
              have F3 : ∀ v, v ≠ o1 → v ≠ o2 → F v = none := fun v h h2 => by rw [hF]; exact (if_neg h).trans (if_neg h2)
              refine wpS_set (wpE_tuple (wpN.Q (wpN_lcF tg_name (by decide) rfl (wpI_rng1 (wpA_cons (wpE_var rfl (wpA_nil ⟨_, rfl, by omega, by omega, by omega, fun _ => true, fun v => eo (F v), ?_, ?_⟩)))))))
              · intro v d hv e
                cases e
                refine ⟨_, rfl, wpT_yes ⟨rfl, fun _ => ?_⟩⟩
                show wpE (Gh a c) _ [.spc (.ref l), .spc (.ref a), .dat (en i), .dat (en n), .dat (.int m), .dat (.list (ts.map et)), .dat (encE (some (o1, o2))), .dat (.int rm), .dat dt, .dat (.list (rowsD ts n)), .dat (en q), .dat (encT tms), .dat (.int (rm + z)), .dat (en v), .no] _
                refine wpE_if (wpT_test (wpE_op opD_eq (wpE_var rfl (wpE_op opD_ix (wpE_var rfl (wpE_int ⟨[en o1, en o2], _, en o1, rfl, rfl, rfl, rfl, rfl, _, rfl, ?_⟩))))))
                rw [show PyData.eqv (en v) (en o1) = decide (v = o1) from eqv_nat]
                by_cases h1 : v = o1
                · rw [decide_eq_true h1, if_pos rfl]
                  exact wpE_int (by show _ = eo (F v); rw [F1 v h1]; rfl)
                · rw [decide_eq_false h1, if_neg Bool.false_ne_true]
                  refine wpE_if (wpT_test (wpE_op opD_eq (wpE_var rfl (wpE_op opD_ix (wpE_var rfl (wpE_int ⟨[en o1, en o2], _, en o2, rfl, rfl, rfl, rfl, rfl, _, rfl, ?_⟩))))))
                  rw [show PyData.eqv (en v) (en o2) = decide (v = o2) from eqv_nat]
                  by_cases h2 : v = o2
                  · rw [decide_eq_true h2, if_pos rfl]
                    exact wpE_op opD_I0 (wpE_int (wpE_var rfl ⟨_, _, rfl, rfl, by show _ = eo (F v); rw [F2 v h1 h2]; rfl⟩))
                  · rw [decide_eq_false h2, if_neg Bool.false_ne_true]
                    exact wpE_non (by show _ = eo (F v); rw [F3 v h1 h2]; rfl)
              · have e : (List.range n).map (fun v => eo (F v)) = ((List.range n).map F).map eo := by rw [List.map_map]; rfl
                rw [filter_yes, Int.toNat_natCast, e]
                refine ⟨(List.range n).map F, .dat (.int (rm + z)), rfl, by rw [List.length_map, List.length_range], fun x hx y ey => ?_, fun h => absurd h hi2⟩
                obtain ⟨v, _, e2⟩ := List.mem_map.mp hx
                rw [ey] at e2
                by_cases h1 : v = o1
                · rw [F1 v h1] at e2
                  cases e2; decide
                · by_cases h2 : v = o2
                  · rw [F2 v h1 h2] at e2
                    cases e2
                    split <;> omega
                  · rw [F3 v h1 h2] at e2; cases e2
            · exact asis
        clear itm otm tl2 tms
        rintro ρ' ⟨tms, ov2, rfl, tl2, otm, itm⟩
        refine wpS_if (wpT_not (wpT_B (wpE_callE rfl (wpA_cons (wpE_var rfl (wpA_cons (wpE_var rfl (wpA_cons (wpE_var rfl (wpA_cons (wpE_var rfl (wpA_nil ⟨[_, _, _, _], rfl, n, ts, dt, tms, i, tbd, rfl, tl2, n1, n12, otm, tie0, by omega, fits_of n1 n12 tl2 tok (small tms itm), true, rfl, ?_⟩))))))))))))
        exact wpS_nil ⟨_, _, _, rfl⟩
      rintro ρ' ⟨ag, tm, ov, rfl⟩
      rw [hR]
      show wpS (Gh a c) _ (LR l a (.dat (en i)) (.dat (en n)) (.dat (.int m)) (.dat (.list (ts.map et))) (.dat (encE ed)) (.dat (.int rm)) (.dat dt) (.dat (.list (rowsD ts n))) ag tm ov) _
      have fin : ∃ t m' o ti ed' ro ta rw ag' tm' ov', LR l a (.dat (en i)) (.dat (en n)) (.dat (.int m)) (.dat (.list (ts.map et))) (.dat (encE ed)) (.dat (.int rm)) (.dat dt) (.dat (.list (rowsD ts n))) ag tm ov = LR l a t m' o ti ed' ro ta rw ag' tm' ov' ∧ (0 < i + 1 → ∃ n ts dt, m' = .dat (en n) ∧ ta = .dat dt ∧ TbD K n ts dt ∧ 1 ≤ n ∧ n ≤ 12) :=
        ⟨_, _, _, _, _, _, _, _, _, _, _, rfl, fun _ => ⟨n, ts, dt, rfl, rfl, tbd, n1, n12⟩⟩
      refine wpS_if (wpT_and (wpT_test (wpE_op opD_eq (wpE_var rfl (wpE_int ⟨rfl, rfl, _, rfl, ?_⟩)))))
      rw [show PyData.eqv (en i) (.int 2) = decide (i = 2) from eqv_nat (b := 2)]
      by_cases h : i = 2
      · rw [decide_eq_true h, if_pos rfl]
        refine wpT_not (wpT_B (wpE_callE rfl (wpA_cons (wpE_var rfl (wpA_cons (wpE_var rfl (wpA_cons (wpE_op opD_repA (wpE_tup (wpA_cons (wpE_non (wpA_nil ⟨[_], rfl, le_ rfl, wpE_var rfl ⟨_, _, rfl, rfl, by simp, by omega, by omega, le_ rfl, wpA_cons (wpE_var rfl (wpA_nil ⟨[_, _, _, _], rfl, n, ts, dt, List.replicate n none, i, tbd, ?_, by simp, n1, n12, ?_, tie0, by omega, fits_of n1 n12 (by simp) tok (small _ fun z => absurd z (by omega)), true, rfl, wpS_nil fin⟩))⟩⟩))))))))))))
        · rw [Int.toNat_natCast, none_rep]
        · intro x hx y ey
          rw [List.eq_of_mem_replicate hx] at ey
          cases ey
      · rw [decide_eq_false h, if_neg Bool.false_ne_true]
        exact wpS_nil fin
    · rintro ρ' ⟨t, m, o, ti, ed, ro, ta, rw, ag, tm, ov, rfl, h⟩
      obtain ⟨n, ts, dt, rfl, rfl, tb, n1, n12⟩ := h (by decide)
      exact ⟨_, _, _, _, _, _, _, _, _, _, _, _, rfl, tb, n1, n12⟩
  · obtain ⟨t, n, o, ti, ed, ro, dt, rw, ag, tm, ov, ts, rfl, tb, n1, n12⟩ := e2
    have hP2 : H2 P0 = some (.tbl #[]) := a2.fr _ _ hP1 fun z => z.elim nP fun z => no_own (by rfl) z
    obtain ⟨vt, hvt, rvt⟩ := V2.dat 8 _ rfl
    obtain ⟨vn, hvn, rvn⟩ := V2.dat 3 _ rfl
    cases rvn
    have tabs : LamX.Tabs [(P0, badQ)] H2 := fun p hp => by
      rw [List.mem_singleton.mp hp]
      exact LamX.TabS.nil hP2
    have hx : ∀ b, Nac a c b → ∃ xs, H2 b = some (.lst xs) := fun b z => by
      obtain ⟨cells, st, h1, h2, _⟩ := V2.s
      rcases z with z | z
      · exact ⟨_, by rw [z]; exact h1⟩
      · exact ⟨_, by rw [z]; exact h2⟩
    refine ⟨vt, hvt, .int n, hvn, vt, n, ts, dt, rfl, rvt.sub fun b z => z.elim, tb, n1, n12, tabs, fun H3 eN => ⟨true, rfl, ?_⟩⟩
    have V3 := V2.extN eN hx
    refine L2.iteF ?_
    have tst : wpT (Gh a c) (tNot (tB (tCall (SpE p_law_pairs) [] E0 (tCons (tVar 1) tNil)))) (LR l a t (.dat (en n)) o ti ed ro (.dat dt) rw ag tm ov) (fun b => b = false) := wpT_not (wpT_B (wpE_callE rfl (wpA_nil ⟨[], rfl, rfl, true, rfl, rfl⟩)))
    refine tst _ _ _ _ V3 _ fun b H4 f4 s4 eb => ?_
    subst eb
    refine L2.iteF (next_raw (u := tSeq _ _) ?_)
    have V4 := V3.step f4 s4
    refine (show wpS (Gh a c) _ (LR l a t (.dat (en n)) o ti ed ro (.dat dt) rw ag tm ov) ⟨fun _ => False, fun r => r = .dat (.bool true), fun _ => False, fun _ => False⟩ from ?_) _ _ _ _ V4 _ (fun _ _ _ _ _ _ z => z.elim) (fun v H' r ok e => ?_) (fun _ _ _ _ _ _ z => z.elim) (fun _ _ _ _ _ _ z => z.elim)
    · have tup3 : ∀ {x y z : Int} {ρ : Rho} {Kd : PD → Prop}, Kd (.tuple [.int x, .int y, .int z]) → wpE (Gh a c) (tTup (tCons (tC (.int x)) (tCons (tC (.int y)) (tCons (tC (.int z)) tNil)))) ρ Kd := fun k =>
        wpE_tup (wpA_cons (wpE_int (wpA_cons (wpE_int (wpA_cons (wpE_int (wpA_nil ⟨[_, _, _], rfl, le_ rfl, k⟩)))))))
      refine wpS_seq (wpS_set (wpE_mkT tc (wpA_cons (wpE_tup (wpA_cons (wpE_str (wpA_cons (wpE_str (wpA_cons (wpE_str (wpA_cons (wpE_str (wpA_cons (wpE_str (wpA_nil ⟨[_, _, _, _, _], rfl, le_ rfl, wpA_cons (wpE_tup (wpA_cons (tup3 (wpA_cons (tup3 (wpA_cons (tup3 (wpA_cons (tup3 (wpA_cons (tup3 (wpA_nil ⟨[_, _, _, _, _], rfl, le_ rfl, wpA_nil ⟨ringN, ringT, by rfl, ringN_ok, ringT_ok, ?_⟩⟩))))))))))))⟩)))))))))))))))
      have tbr : TbD K 5 ringT (tabD CTab (.tuple (ringN.map .str)) (.tuple (ringT.map et))) := ⟨CTab, ringN.map .str, rfl, rfl, tc, fun t ht => ⟨(ringT_ok.2 t ht).1, (ringT_ok.2 t ht).2.1⟩, by omega⟩
      show wpS (Gh a c) _ [.spc (.ref l), .spc (.ref a), t, .dat (en n), o, ti, ed, ro, .dat dt, rw, ag, tm, ov, .no, .dat (tabD CTab (.tuple (ringN.map .str)) (.tuple (ringT.map et)))] _
      obtain ⟨dr, hdr⟩ : ∃ dr, dr = tabD CTab (.tuple (ringN.map .str)) (.tuple (ringT.map et)) := ⟨_, rfl⟩
      rw [← hdr] at tbr ⊢
      have shp : ∀ p, SeqAt.shaped (encP p) = true := fun p => (plain_encP p).shaped (by decide)
      have lim : ∀ {tms : Tms} {p q : Option Nat × Option Nat} {ta tb : TE} {Kb : Bool → Prop}, tms.length = 5 → okTm tms → limitsOf ringT 5 tms = p → (∀ {Kd : PD → Prop}, Kd (encT tms) → wpE (Gh a c) ta [.spc (.ref l), .spc (.ref a), t, .dat (en n), o, ti, ed, ro, .dat dt, rw, ag, tm, ov, .no, .dat dr] Kd) →
          (∀ {Kd : PD → Prop}, Kd (encP p) → wpE (Gh a c) tb [.spc (.ref l), .spc (.ref a), t, .dat (en n), o, ti, ed, ro, .dat dt, rw, ag, tm, ov, .no, .dat dr] Kd) → Kb false →
          wpT (Gh a c) (tTest (tOp (rNeD K) (tCall (SpP (p_limits K)) [] E0 (tCons (tVar 14) (tCons ta tNil))) tb)) [.spc (.ref l), .spc (.ref a), t, .dat (en n), o, ti, ed, ro, .dat dt, rw, ag, tm, ov, .no, .dat dr] Kb := fun {tms p q ta tb Kb} h5 hok hl ha hb k =>
        wpT_test (wpE_op opD_ne (wpE_callP (wpA_cons (wpE_var rfl (wpA_cons (ha (wpA_nil ⟨[_, _], rfl, 5, ringT, dr, tms, tbr, rfl, h5, by omega, hok, hb (by
          rw [hl]
          refine ⟨shp _, shp _, _, rfl, ?_⟩
          rw [eqv_encP, decide_eq_true rfl]; exact k)⟩)))))))
      have tN : ∀ {y : Int} {m : Nat} {ρ : Rho} {Kd : PD → Prop}, y = m → Kd (encP (none, some m)) → wpE (Gh a c) (tTup (tCons (tC .non) (tCons (tC (.int y)) tNil))) ρ Kd := fun e k => wpE_tup (wpA_cons (wpE_non (wpA_cons (wpE_int (wpA_nil ⟨[_, _], rfl, le_ rfl, by rw [e]; exact k⟩)))))
      have t2 : ∀ {x y : Int} {u m : Nat} {ρ : Rho} {Kd : PD → Prop}, x = u → y = m → Kd (encP (some u, some m)) → wpE (Gh a c) (tTup (tCons (tC (.int x)) (tCons (tC (.int y)) tNil))) ρ Kd := fun e1 e2 k => wpE_tup (wpA_cons (wpE_int (wpA_cons (wpE_int (wpA_nil ⟨[_, _], rfl, le_ rfl, by rw [e1, e2]; exact k⟩)))))
      have tB : ∀ {x y : Int} {u m : Nat} {ρ : Rho} {Kd : PD → Prop}, x = u → y = m → Kd (encB [u, m]) → wpE (Gh a c) (tTup (tCons (tC (.int x)) (tCons (tC (.int y)) tNil))) ρ Kd := fun e1 e2 k => wpE_tup (wpA_cons (wpE_int (wpA_cons (wpE_int (wpA_nil ⟨[_, _], rfl, le_ rfl, by rw [e1, e2]; exact k⟩)))))
      refine wpS_seq (wpS_if (wpT_or (lim (tms := List.replicate 5 none) (q := (none, none)) (by simp) (okTm_small (by decide)) lim1 (fun k => wpE_op opD_repA (wpE_tup (wpA_cons (wpE_non (wpA_nil ⟨[_], rfl, le_ rfl, wpE_int ⟨_, _, rfl, rfl, by simp, by decide, by decide, le_ rfl, k⟩⟩))))) (fun k => tN rfl k) ?_)))
      refine L2.iteF (lim (tms := [some 0, none, none, none, none]) (q := (none, none)) rfl (okTm_small (by decide)) lim2 (fun k => wpE_tup (wpA_cons (wpE_int (wpA_cons (wpE_non (wpA_cons (wpE_non (wpA_cons (wpE_non (wpA_cons (wpE_non (wpA_nil ⟨[_, _, _, _, _], rfl, le_ rfl, k⟩)))))))))))) (fun k => t2 rfl rfl k) (L2.iteF (wpS_nil ?_)))
      refine wpS_seq (wpS_if (wpT_or (lim (tms := [some 0, none, some 1, none, some 1]) (q := (none, none)) rfl (okTm_small (by decide)) lim3 (fun k => wpE_tup (wpA_cons (wpE_int (wpA_cons (wpE_non (wpA_cons (wpE_int (wpA_cons (wpE_non (wpA_cons (wpE_int (wpA_nil ⟨[_, _, _, _, _], rfl, le_ rfl, k⟩)))))))))))) (fun k => t2 rfl rfl k) ?_)))
      refine L2.iteF (lim (tms := [some 0, none, some 1, some 1, none]) (q := (none, none)) rfl (okTm_small (by decide)) lim4 (fun k => wpE_tup (wpA_cons (wpE_int (wpA_cons (wpE_non (wpA_cons (wpE_int (wpA_cons (wpE_int (wpA_cons (wpE_non (wpA_nil ⟨[_, _, _, _, _], rfl, le_ rfl, k⟩)))))))))))) (fun k => t2 rfl rfl k) (L2.iteF (wpS_nil ?_)))
      have ok23 : okBs [2, 3] := ⟨by decide, by decide⟩
      have ok32 : okBs [3, 2] := ⟨by decide, by decide⟩
      refine wpS_ret (wpE_andV (wpE_callP (wpA_cons (tN (m := 9) rfl (wpA_cons (tB (u := 2) (m := 3) rfl rfl (wpA_nil ⟨[_, _], rfl, (none, some 9), [2, 3], rfl, ok23, true, rfl, ?_⟩)))))))
      refine wpE_andV (wpE_notV (wpE_callP (wpA_cons (tN (m := 9) rfl (wpA_cons (tB (u := 3) (m := 2) rfl rfl (wpA_nil ⟨[_, _], rfl, (none, some 9), [3, 2], rfl, ok32, false, rfl, true, rfl, ?_⟩)))))))
      exact wpE_callP (wpA_cons (t2 (u := 13) (m := 10) rfl rfl (wpA_cons (tB (u := 3) (m := 2) rfl rfl (wpA_nil ⟨[_, _], rfl, (some 13, some 10), [3, 2], rfl, ok32, rfl⟩)))))
    · subst e
      obtain ⟨_, _, r⟩ := ok
      cases r
      exact q H'
end

end K42
/-! text Hd -/
set_option Elab.async false
set_option linter.all false
set_option maxRecDepth 100000
set_option maxHeartbeats 0
/-! The head: what stands behind the program's top. -/
namespace K42
open PySem PySem.Spec PyProof.Rows L2
abbrev Frg := PySem.W.Frag
/-- the maker of the class x -/
def iniA (K : Frg) (x : Str) : Addr := He.ma K (He.ga K x) "__init__"
/-- the cell of its __class__ -/
def celA (K : Frg) (x : Str) : Addr := match K.lookup (iniA K x) with
  | some ⟨_, _, .func fd, _⟩ => (match fd.closure with
    | [(_, c)] => c
    | _ => 0)
  | _ => 0
abbrev FnN : Type := Option (Str × Str × Arguments × FuncBody × Scope × Addr × List Str × Addr)
def fnN (K : Frg) (x : Str) : FnN := match K.lookup (iniA K x) with
  | some ⟨_, _, .func fd, _⟩ => some (fd.name, fd.qualname, fd.params, fd.body, fd.scope, fd.globals, fd.closure.map (·.1), fd.builtins)
  | _ => none
def valN (q : Str) (st : Stmt) : FnN := some ("__init__", q, defArgs st, .stmts (defBody st), defScope st, mainGlobals, ["__class__"], builtinsNs)
/-- the class at C: an own exception over ValueError -/
def oexB (K : Frg) (C : Addr) : Bool := match K.lookup C with
  | some ⟨.type t, _, .cls cd, sl⟩ => decide (t = "type") && ((match cd.mro with
      | .ref c :: bm => decide (c = C) && PySem.HandSPX.refsVE bm
      | _ => false) && (cd.hasDict && (!cd.hasDel && (match sl.toList with
      | [_, _, _, _, some (.builtin n), _] => decide (n = "ValueError.__new__")
      | _ => false))))
  | _ => false
def filB (f : Str) (K : Frg) (cda : Addr) : Bool := match K.lookup cda with
  | some ⟨_, _, .fields vs, _⟩ => (match (vs[2]? : Option Value) with
    | some (.str g _) => f == g
    | _ => false)
  | _ => false
def celB (K : Frg) (cc C : Addr) : Bool := match K.lookup cc with
  | some ⟨_, _, .cell (some (.ref D)), _⟩ => decide (D = C)
  | _ => false
/-- its maker's code, defaults, closure -/
def iniB (f : Str) (K : Frg) (x : Str) : Bool := match K.lookup (iniA K x) with
  | some ⟨_, _, .func fd, _⟩ => (match fd.code with
    | .ref cda => PySem.W.codeIn K (.ref cda) fd.qualname && filB f K cda
    | _ => false) && ((match fd.defaults with
    | .none => true
    | _ => false) && celB K (celA K x) (He.ga K x))
  | _ => false
def xcB (f : Str) (K : Frg) (x fl : Str) : Bool :=
  oexB K (He.ga K x) && (He.eqO (PySem.W.findIn K (.ref (He.ga K x)) "__setattr__") (some (some (.builtin "object.__setattr__"))) && (decide (PySem.W.subIn K (.ref (He.ga K x)) (.type "BaseException") = some true) && (decide (PySem.W.typeIn K (.ref (He.ga K x)) = some (.type "type")) &&
  (PySem.W.keepIn K (.ref (He.ga K x)) && (xfB K (He.ga K x) && (He.eqO (PySem.W.findIn K (.ref (He.ga K x)) fl) (some none) && (He.eqO (PySem.W.findIn K (.ref (He.ga K x)) "__init__") (some (some (.ref (iniA K x)))) &&
  (decide (PySem.W.typeIn K (.ref (iniA K x)) = some (.type "function")) && (iniB f K x && (He.eqO (PySem.W.nsIn K cStatics "thirdparty.any") (some none) && (He.eqO (PySem.W.ks_superIn K (He.ga K x) (He.ga K x) "__init__") (some (some (.builtin "ValueError.__init__"))) &&
  (decide (PySem.W.subIn K (.ref (He.ga K x)) (.type "ValueError") = some true) && decide (PySem.W.mroIn K (He.ga K x) (.ref (He.ga K x)) = some true)))))))))))))
def fa0 : List He.Fa := [.free "len", .free "tuple", .free "list", .free "range", .free "enumerate", .free "min", .free "max", .free "abs", .free "sum", .free "any", .free "all", .free "sorted", .free "isinstance", .free "int", .free "str", .free "bool", .free "repr", .free "super", .int "LONGEST_NAME" 6, .int "MOST_LAYERS" 100, .int "MOST_TIME" 1000000000, .int "MOST_BATCHES" 60, .int "MOST_IN_BATCH" 100, .int "MOST_THINGS" 12, .int "MOST_TIES" 60]
def fa1 : List He.Fa := [.int "MOST_WEIGHT" 1000000, .str "LETTERS" "abcdefghijklmnopqrstuvwxyz", .glo "Table", .glo "InvalidTimes", .glo "InvalidNumber", .glo "Refused", .glo "is_integer", .glo "is_number", .glo "is_name", .glo "is_ascending", .glo "need_number", .glo "start_row", .glo "next_row", .glo "thing_layers", .glo "layer_at", .glo "all_layers", .glo "walk_reach", .glo "ring_reach", .glo "is_time", .glo "check_times", .glo "are_batches", .glo "check_batches", .glo "come", .glo "missing", .glo "is_too_short"]
def fa2 : List He.Fa := [.glo "has_ring", .glo "limits", .glo "is_below", .glo "reaches_fit", .glo "is_within", .glo "are_things", .glo "is_tie", .glo "_law_heap", .glo "_law_draw", .glo "_law_pick", .glo "_law_mixed", .glo "_law_names", .glo "_law_tame", .glo "_law_row", .glo "_law_ring", .glo "_law_ties", .glo "_law_reaches", .glo "_law_rows", .glo "_law_all_rows", .glo "_law_times", .glo "_law_held", .glo "_law_limits", .glo "_law_below", .glo "_law_told", .glo "_law_bad_times"]
def fa3 : List He.Fa := [.glo "_law_batches", .glo "_law_bad_batches", .glo "_law_round", .glo "_law_lots", .glo "_law_hours", .glo "_law_answers", .glo "_law_can", .glo "_law_game", .glo "_law_near_batches", .glo "_law_right", .glo "_law_pairs_right", .glo "_law_bad_right", .glo "law", .cls "Table", .noat "Table" "things", .noat "Table" "ties", .mkr "Table", .exm "InvalidTimes" "Refused" false, .exm "InvalidTimes" "InvalidNumber" false, .exm "InvalidTimes" "InvalidTimes" true, .exm "InvalidNumber" "Refused" false, .exm "InvalidNumber" "InvalidNumber" true]
def fa : List He.Fa := fa0 ++ fa1 ++ fa2 ++ fa3
def dfn (x : Str) (i : Nat) : He.DefD := ⟨(x, none), x, x, defArgs (top i), defBody (top i), defScope (top i), [], []⟩
def dTab : He.DefD := ⟨("Table", some "__init__"), "__init__", "Table.__init__", defArgs (inClass (top 47) 0), defBody (inClass (top 47) 0), defScope (inClass (top 47) 0), [], []⟩
def fn0 : List He.DefD := [dfn "is_integer" 9, dfn "is_number" 10, dfn "is_name" 11, dfn "is_ascending" 12, dfn "need_number" 13, dfn "start_row" 16, dfn "next_row" 17, dfn "thing_layers" 18, dfn "layer_at" 19, dfn "all_layers" 20, dfn "walk_reach" 22, dfn "ring_reach" 23, dfn "is_time" 28, dfn "check_times" 29, dfn "are_batches" 30, dfn "check_batches" 31, dfn "come" 32, dfn "missing" 33, dfn "is_too_short" 35, dfn "has_ring" 36]
def fn1 : List He.DefD := [dfn "limits" 37, dfn "is_below" 38, dfn "reaches_fit" 39, dfn "is_within" 40, dfn "are_things" 45, dfn "is_tie" 46, dfn "_law_heap" 49, dfn "_law_draw" 50, dfn "_law_pick" 51, dfn "_law_mixed" 52, dfn "_law_names" 53, dfn "_law_tame" 54, dfn "_law_row" 55, dfn "_law_ring" 56, dfn "_law_ties" 57, dfn "_law_reaches" 58, dfn "_law_rows" 59, dfn "_law_all_rows" 60, dfn "_law_times" 61, dfn "_law_held" 62]
def fn2 : List He.DefD := [dfn "_law_limits" 63, dfn "_law_below" 64, dfn "_law_told" 65, dfn "_law_bad_times" 66, dfn "_law_batches" 67, dfn "_law_bad_batches" 68, dfn "_law_round" 69, dfn "_law_lots" 70, dfn "_law_hours" 71, dfn "_law_answers" 72, dfn "_law_can" 73, dfn "_law_game" 74, dfn "_law_near_batches" 75, dfn "_law_right" 76, dfn "_law_pairs_right" 77, dfn "_law_bad_right" 78, dfn "law" 79, dTab]
def fn : List He.DefD := fn0 ++ fn1 ++ fn2
def nm0 : List PySem.Str := ["HourError", "InvalidTable", "InvalidTimes", "InvalidNumber", "Refused", "LETTERS", "LONGEST_NAME", "is_integer", "is_number", "is_name", "is_ascending", "need_number", "MOST_LAYERS", "start_row", "next_row", "thing_layers", "layer_at", "all_layers", "walk_reach", "ring_reach", "MOST_TIME", "MOST_BATCHES", "MOST_IN_BATCH", "is_time", "check_times", "are_batches", "check_batches", "come", "missing", "is_too_short"]
def nm1 : List PySem.Str := ["has_ring", "limits", "is_below", "reaches_fit", "is_within", "MOST_THINGS", "MOST_TIES", "MOST_WEIGHT", "are_things", "is_tie", "Table", "_law_heap", "_law_draw", "_law_pick", "_law_mixed", "_law_names", "_law_tame", "_law_row", "_law_ring", "_law_ties", "_law_reaches", "_law_rows", "_law_all_rows", "_law_times", "_law_held", "_law_limits", "_law_below", "_law_told", "_law_bad_times", "_law_batches"]
def nm2 : List PySem.Str := ["_law_bad_batches", "_law_round", "_law_lots", "_law_hours", "_law_answers", "_law_can", "_law_game", "_law_near_batches", "_law_right", "_law_pairs_right", "_law_bad_right"]
def names : List PySem.Str := nm0 ++ nm1 ++ nm2

abbrev R : PySem.W.OpenRow := PySem.W.OpenLaw.row PySem.Challenge.rw_saidatonce_k42_whole_two_limits_tell_all
def fileN : Str := R.prog.main.file
def tf0 : List He.Defn := [("_law_bad_right", none)]
def exB (K : Frg) : Bool := xcB fileN K "InvalidTimes" "at" && xcB fileN K "InvalidNumber" "word"
abbrev AlO : Type := He.AlD × List FnN × Bool
def frO (g : Addr → Option Obj) : Frg := He.frT g (cStatics :: He.asD g 5)
def obsK (g : Addr → Option Obj) (K : Frg) : AlO := (He.obsD fa fn K, [fnN K "InvalidTimes", fnN K "InvalidNumber"], exB K && He.tabsB g tf0 K)
def obsO (g : Addr → Option Obj) : AlO := obsK g (frO g)
def valO : AlO := (He.valD fn, [valN "InvalidTimes.__init__" (inClass (top 3) 0), valN "InvalidNumber.__init__" (inClass (top 4) 0)], true)
/-- what the end leans on -/
structure SaysO (h : Heap) (K : Frg) : Prop where
  d : He.SaysD fa fn K
  n : [fnN K "InvalidTimes", fnN K "InvalidNumber"] = [valN "InvalidTimes.__init__" (inClass (top 3) 0), valN "InvalidNumber.__init__" (inClass (top 4) 0)]
  ex : exB K = true
  hd : PySem.W.codeHdIn K (He.cT K ("_law_bad_right", none)).1 (He.cT K ("_law_bad_right", none)).2 = true
  out : K.lookup (He.cT K ("_law_bad_right", none)).2 = none
  empty : h.get? (He.cT K ("_law_bad_right", none)).2 = some { cls := .none, data := .fields #[] }
theorem saysO_of {h : Heap} (e : obsO h.get? = valO) : SaysO h (frO h.get?) := by
  have e1 : He.obsD fa fn (frO h.get?) = He.valD fn := congrArg (fun z : AlO => z.1) e
  have e2 : [fnN (frO h.get?) "InvalidTimes", fnN (frO h.get?) "InvalidNumber"] = _ := congrArg (fun z : AlO => z.2.1) e
  have e3 : (exB (frO h.get?) && He.tabsB h.get? tf0 (frO h.get?)) = true := congrArg (fun z : AlO => z.2.2) e
  obtain ⟨h1, h2⟩ := He.ba e3
  obtain ⟨h3, h4⟩ := He.ba (List.all_eq_true.mp h2 ("_law_bad_right", none) (List.mem_singleton.mpr rfl))
  cases q : h.get? (He.cT (frO h.get?) ("_law_bad_right", none)).2 with
  | none => rw [q] at h4; cases h4
  | some o =>
    rw [q] at h4
    exact ⟨e1, e2, h1, h3, He.frT_none q h4, by rw [q, He.emptyTab_eq h4]⟩
def hkO : PySem.W.Hook where
  α := AlO
  obs := fun s => obsO s.heap.get?
  val := fun _ => valO
  says := fun _ h => ∃ K : Frg, K.In h ∧ SaysO h K
  of := fun _ _ e => ⟨_, He.frT_in, saysO_of e⟩
  keeps := fun _ _ _ ⟨K, hK, c⟩ k => ⟨K, PySem.W.Frag.In.keeps hK k, ⟨c.d, c.n, c.ex, c.hd, c.out, k _ _ c.empty⟩⟩
def obT (s : PySem.W.SharedT) : AlO := obsO (HandSHeadRun.getT s)
theorem obT_eq (s : PySem.W.SharedT) : obT s = hkO.obs s.abs := by
  have e : HandSHeadRun.getT s = s.abs.heap.get? := funext (HandSHeadRun.getT_eq s)
  show obsO (HandSHeadRun.getT s) = obsO s.abs.heap.get?
  rw [e]
theorem run (w : World) : HandSHeadRun.RunEq R (PySem.W.view R.prog [79]) hkO obT 6000 names w := by
  intro os
  kernel_rfl
end K42
/-! text Fin -/
set_option Elab.async false
set_option linter.all false
set_option maxRecDepth 100000
set_option maxHeartbeats 4000000
/-! All promises over the head's facts. -/
namespace K42
open PySem PySem.Spec PyProof.Rows L2
section
variable {P : Program} {w : World} {K : PySem.W.Frag} {mg : Str → Option Value} {base h : Heap}
theorem dn_of (c : SaysO h K) (X : K.In h) (G : h.Ns mainGlobals mg) {x : Str} {i j k : Nat} (h1 : fn[j]? = some (dfn x i)) (h2 : fa[k]? = some (.glo x)) : Dn K mg x (top i) := by
  obtain ⟨fd, F⟩ := c.d.def_ j h1
  exact ⟨_, fd, F, He.glo_ok X G (c.d.fact k h2)⟩
theorem tx_of (c : SaysO h K) (X : K.In h) (G : h.Ns mainGlobals mg) : Tx mg where
  b_len := He.free_ok X G (c.d.fact 0 (f := .free "len") rfl)
  b_tuple := He.free_ok X G (c.d.fact 1 (f := .free "tuple") rfl)
  b_list := He.free_ok X G (c.d.fact 2 (f := .free "list") rfl)
  b_range := He.free_ok X G (c.d.fact 3 (f := .free "range") rfl)
  b_enumerate := He.free_ok X G (c.d.fact 4 (f := .free "enumerate") rfl)
  b_min := He.free_ok X G (c.d.fact 5 (f := .free "min") rfl)
  b_max := He.free_ok X G (c.d.fact 6 (f := .free "max") rfl)
  b_abs := He.free_ok X G (c.d.fact 7 (f := .free "abs") rfl)
  b_sum := He.free_ok X G (c.d.fact 8 (f := .free "sum") rfl)
  b_any := He.free_ok X G (c.d.fact 9 (f := .free "any") rfl)
  b_all := He.free_ok X G (c.d.fact 10 (f := .free "all") rfl)
  b_sorted := He.free_ok X G (c.d.fact 11 (f := .free "sorted") rfl)
  b_isinstance := He.free_ok X G (c.d.fact 12 (f := .free "isinstance") rfl)
  b_int := He.free_ok X G (c.d.fact 13 (f := .free "int") rfl)
  b_str := He.free_ok X G (c.d.fact 14 (f := .free "str") rfl)
  b_bool := He.free_ok X G (c.d.fact 15 (f := .free "bool") rfl)
  b_repr := He.free_ok X G (c.d.fact 16 (f := .free "repr") rfl)
  LETTERS := by obtain ⟨t, e⟩ := He.str_ok X G (c.d.fact 26 (f := .str "LETTERS" "abcdefghijklmnopqrstuvwxyz") rfl); exact ⟨_, e, ⟨t, rfl⟩⟩
  LONGEST_NAME := by obtain ⟨t, e⟩ := He.int_ok X G (c.d.fact 18 (f := .int "LONGEST_NAME" 6) rfl); exact ⟨_, e, ⟨t, rfl⟩⟩
  MOST_LAYERS := by obtain ⟨t, e⟩ := He.int_ok X G (c.d.fact 19 (f := .int "MOST_LAYERS" 100) rfl); exact ⟨_, e, ⟨t, rfl⟩⟩
  MOST_TIME := by obtain ⟨t, e⟩ := He.int_ok X G (c.d.fact 20 (f := .int "MOST_TIME" 1000000000) rfl); exact ⟨_, e, ⟨t, rfl⟩⟩
  MOST_BATCHES := by obtain ⟨t, e⟩ := He.int_ok X G (c.d.fact 21 (f := .int "MOST_BATCHES" 60) rfl); exact ⟨_, e, ⟨t, rfl⟩⟩
  MOST_IN_BATCH := by obtain ⟨t, e⟩ := He.int_ok X G (c.d.fact 22 (f := .int "MOST_IN_BATCH" 100) rfl); exact ⟨_, e, ⟨t, rfl⟩⟩
  MOST_THINGS := by obtain ⟨t, e⟩ := He.int_ok X G (c.d.fact 23 (f := .int "MOST_THINGS" 12) rfl); exact ⟨_, e, ⟨t, rfl⟩⟩
  MOST_TIES := by obtain ⟨t, e⟩ := He.int_ok X G (c.d.fact 24 (f := .int "MOST_TIES" 60) rfl); exact ⟨_, e, ⟨t, rfl⟩⟩
  MOST_WEIGHT := by obtain ⟨t, e⟩ := He.int_ok X G (c.d.fact 25 (f := .int "MOST_WEIGHT" 1000000) rfl); exact ⟨_, e, ⟨t, rfl⟩⟩
/-! ### own exceptions -/
theorem oexB_ok {C : Addr} (q : oexB K C = true) : ∃ nm qn N bs bm sn sub ab col dd k0 k1 k2 k3 k5, K.lookup C = some (excClassObj nm qn C N bs bm true sn sub ab col dd k0 k1 k2 k3 k5 "ValueError.__new__") ∧ PySem.HandSPX.refsVE bm = true := by
  unfold oexB at q
  split at q
  · rename_i t dd cd sl ho
    obtain ⟨q1, r1⟩ := He.ba q
    obtain ⟨q2, r2⟩ := He.ba r1
    obtain ⟨q3, r3⟩ := He.ba r2
    obtain ⟨q4, q5⟩ := He.ba r3
    clear r1 r2 r3 q
    obtain rfl := of_decide_eq_true q1
    obtain ⟨nm, bs, mro, ns, qn, hd, sn, sub, ab, col, del⟩ := cd
    dsimp only at q2 q3 q4
    subst q3
    split at q2
    · rename_i c bm
      obtain ⟨q6, q7⟩ := He.ba q2
      obtain rfl := of_decide_eq_true q6
      split at q5
      · rename_i k0 k1 k2 k3 n k5 hs
        obtain rfl := of_decide_eq_true q5
        obtain rfl : del = false := by simpa using q4
        have hsl : sl = #[k0, k1, k2, k3, some (.builtin "ValueError.__new__"), k5] := by
          obtain ⟨l⟩ := sl
          simp only at hs
          rw [hs]
        subst hsl
        exact ⟨nm, qn, ns, bs, bm, sn, sub, ab, col, dd, k0, k1, k2, k3, k5, ho, q7⟩
      · cases q5
    · cases q2
  · cases q
theorem filB_ok {f : Str} {cda : Addr} (q : filB f K cda = true) : ∃ ccl cdd vs ccs file tf, K.lookup cda = some ⟨ccl, cdd, .fields vs, ccs⟩ ∧ vs[2]? = some (.str file tf) ∧ (f == file) = true := by
  unfold filB at q
  split at q
  · rename_i a b vs d ho
    split at q
    · rename_i g t hv
      exact ⟨a, b, vs, d, g, t, ho, hv, q⟩
    · cases q
  · cases q
theorem celB_ok {cc C : Addr} (q : celB K cc C = true) : ∃ cl cld csl, K.lookup cc = some ⟨cl, cld, .cell (some (.ref C)), csl⟩ := by
  unfold celB at q
  split at q
  · rename_i a b D d ho
    obtain rfl := of_decide_eq_true q
    exact ⟨a, b, d, ho⟩
  · cases q
/-- the maker of such a class, as its function stands -/
theorem iniB_ok {f x q : Str} {st : Stmt} (i : iniB f K x = true) (n : fnN K x = valN q st) : ∃ (oc : Value) (od : Option Addr) (osl : Array (Option Value)) (kV doc pm ct : Value) (an : Option Addr) (cda cc : Addr),
    K.lookup (iniA K x) = some ⟨oc, od, .func (supFd q (defArgs st) (defBody st) (defScope st) .none kV doc pm an ct cda cc), osl⟩ ∧ PySem.W.codeIn K (.ref cda) q = true ∧ filB f K cda = true ∧ celB K cc (He.ga K x) = true := by
  unfold iniB at i
  unfold fnN at n
  cases z : K.lookup (iniA K x) with
  | none => rw [z] at i; cases i
  | some o =>
    obtain ⟨oc, od, dt, osl⟩ := o
    rw [z] at i n
    cases dt with
    | func fd =>
      obtain ⟨n1, n2, n3, n4, n5, n6, n7, n8, n9, n10, n11, n12, n13, n14, n15⟩ := fd
      have e : (some (n1, n2, n3, n4, n5, n6, n7.map (·.1), n15) : FnN) = some (("__init__" : Str), q, defArgs st, FuncBody.stmts (defBody st), defScope st, mainGlobals, [("__class__" : Str)], builtinsNs) := n
      simp only [Option.some.injEq, Prod.mk.injEq] at e
      obtain ⟨h1, h2, h3, h4, h5, h6, h7, h8⟩ := e
      subst h1 h2 h3 h4 h5 h6 h8
      obtain ⟨cc, rfl⟩ : ∃ cc, n7 = [(("__class__" : Str), cc)] := by
        cases n7 with
        | nil => exact absurd (congrArg List.length h7) (by simp)
        | cons p r =>
          cases r with
          | nil =>
            obtain ⟨y, cc⟩ := p
            exact ⟨cc, by rw [show y = ("__class__" : Str) from (List.cons.inj h7).1]⟩
          | cons p2 r => exact absurd (congrArg List.length h7) (by simp)
      have cell : celA K x = cc := by unfold celA; rw [z]
      rw [cell] at i
      obtain ⟨i1, i2⟩ := He.ba i
      obtain ⟨i3, i4⟩ := He.ba i2
      dsimp only at i1 i3
      cases n13 with
      | ref cda =>
        obtain ⟨i5, i6⟩ := He.ba i1
        cases n8 with
        | none => exact ⟨oc, od, osl, n9, n10, n11, n14, n12, cda, cc, rfl, i5, i6, i4⟩
        | _ => cases i3
      | _ => cases i1
    | _ => cases i
abbrev PP : Program := R.prog
theorem sup_names {scope : Scope} {x : Str} (h1 : scope.kind = .function) (h2 : scope.isCoroutine = false) (h3 : scope.isGenerator = false) (h4 : ∀ y ∈ scope.names, y.2 ≠ .cell) (h5 : ∀ y ∈ scope.names, y.2 = .free → y.1 = "__class__")
    (h6 : scope.names.lookup ("super" : Str) = some .globalImplicit) (h7 : scope.names.lookup ("__class__" : Str) = some .free) (h8 : scope.names.lookup ("self" : Str) = some .local) (h9 : scope.names.lookup x = some .local) (h10 : x ≠ "self")
    (h11 : (x == ("__debug__" : Str)) = false) (h12 : (x == ("__classdict__" : Str)) = false) : SupS scope x := ⟨h1, h2, h3, h4, fun y h => h5 _ (PySem.mem_of_lookup h) rfl, h6, h7, h8, h9, h10, h11, h12⟩
theorem ls_at : SupS (defScope (inClass (top 3) 0)) "at" := sup_names rfl rfl rfl (by decide +kernel) (by decide +kernel) rfl rfl rfl rfl (by decide) (by decide) (by decide)
theorem ls_word : SupS (defScope (inClass (top 4) 0)) "word" := sup_names rfl rfl rfl (by decide +kernel) (by decide +kernel) rfl rfl rfl rfl (by decide) (by decide) (by decide)
theorem top_super : (PP.main.scope.names.lookup ("super" : Str)).isSome = false := by decide +kernel
theorem exok {x fl q : Str} {st : Stmt} (c : SaysO h K) (X : K.In h) (G : h.Ns mainGlobals mg) (b : xcB fileN K x fl = true) (n : fnN K x = valN q st) (m : mg x = some (.ref (He.ga K x)))
    (hf : ∀ (kV doc pm ct : Value) (an : Option Addr) (cda cc : Addr), SupI PP K mg (He.ga K x) (iniA K x) cc cda (supFd q (defArgs st) (defBody st) (defScope st) .none kV doc pm an ct cda cc) → PySem.W.findIn K (.ref (He.ga K x)) fl = some none →
      ∃ ps, FnOk PP w K mg base CX0 1 (iniA K x) (supFd q (defArgs st) (defBody st) (defScope st) .none kV doc pm an ct cda cc) ps (SpSup K (He.ga K x) fl) ∧ Binds K (supFd q (defArgs st) (defBody st) (defScope st) .none kV doc pm an ct cda cc) ps []) :
    ExOk PP w K mg base x (He.ga K x) fl := by
  unfold xcB at b
  obtain ⟨b1, b⟩ := He.ba b
  obtain ⟨b2, b⟩ := He.ba b
  obtain ⟨b3, b⟩ := He.ba b
  obtain ⟨b4, b⟩ := He.ba b
  obtain ⟨b5, b⟩ := He.ba b
  obtain ⟨b6, b⟩ := He.ba b
  obtain ⟨b7, b⟩ := He.ba b
  obtain ⟨b8, b⟩ := He.ba b
  obtain ⟨b9, b⟩ := He.ba b
  obtain ⟨b10, b⟩ := He.ba b
  obtain ⟨b11, b⟩ := He.ba b
  obtain ⟨b12, b⟩ := He.ba b
  obtain ⟨b13, b14⟩ := He.ba b
  have T : OexC K (He.ga K x) := ⟨oexB_ok b1, He.eqO_ok b2, of_decide_eq_true b3, of_decide_eq_true b4, b5⟩
  obtain ⟨oc, od, osl, kV, doc, pm, ct, an, cda, cc, lk, cd, fil, cel⟩ := iniB_ok b10 n
  have S : SupI PP K mg (He.ga K x) (iniA K x) cc cda (supFd q (defArgs st) (defBody st) (defScope st) .none kV doc pm an ct cda cc) :=
    ⟨T, ⟨oc, od, osl, lk⟩, cd, filB_ok fil, celB_ok cel, He.eqO_ok b11, He.eqO_ok b12, of_decide_eq_true b13, of_decide_eq_true b14, top_super, (He.free_ok X G (c.d.fact 17 (f := .free "super") rfl))⟩
  obtain ⟨ps, F, B⟩ := hf kV doc pm ct an cda cc S (He.eqO_ok b7)
  exact ⟨m, T, xfB_ok b6, He.eqO_ok b7, iniA K x, _, ps, He.eqO_ok b8, of_decide_eq_true b9, F, B⟩
theorem fnN_two (c : SaysO h K) : fnN K "InvalidTimes" = valN "InvalidTimes.__init__" (inClass (top 3) 0) ∧ fnN K "InvalidNumber" = valN "InvalidNumber.__init__" (inClass (top 4) 0) := by
  have e := c.n
  exact ⟨(List.cons.inj e).1, (List.cons.inj (List.cons.inj e).2).1⟩
theorem ex_times (c : SaysO h K) (X : K.In h) (G : h.Ns mainGlobals mg) : ExOk PP w K mg base "InvalidTimes" (He.ga K "InvalidTimes") "at" :=
  exok c X G (He.ba c.ex).1 (fnN_two c).1 (He.glo_ok X G (c.d.fact 28 (f := .glo "InvalidTimes") rfl)) fun kV doc pm ct an cda cc S hno => ⟨["self", "at"], sup_ok (k := 0) S ls_at rfl hno _ (fun _ => by rfl) (fun _ => by rfl) (fun _ => by rfl), Binds.all fun us hl => match us, hl with | [_, _], _ => rfl⟩
theorem ex_number (c : SaysO h K) (X : K.In h) (G : h.Ns mainGlobals mg) : ExOk PP w K mg base "InvalidNumber" (He.ga K "InvalidNumber") "word" :=
  exok c X G (He.ba c.ex).2 (fnN_two c).2 (He.glo_ok X G (c.d.fact 29 (f := .glo "InvalidNumber") rfl)) fun kV doc pm ct an cda cc S hno => ⟨["self", "word"], sup_ok (k := 0) S ls_word rfl hno _ (fun _ => by rfl) (fun _ => by rfl) (fun _ => by rfl), Binds.all fun us hl => match us, hl with | [_, _], _ => rfl⟩
theorem told_k (w : World) (c : SaysO h K) (X : K.In h) (G : h.Ns mainGlobals mg) : ToldK K mg (He.ga K "Refused") (He.ga K "InvalidNumber") (He.ga K "InvalidTimes") := by
  have zT : ExOk PP w K mg h "InvalidTimes" (He.ga K "InvalidTimes") "at" := ex_times c X G
  have zN : ExOk PP w K mg h "InvalidNumber" (He.ga K "InvalidNumber") "word" := ex_number c X G
  exact ⟨(He.glo_ok X G (c.d.fact 30 (f := .glo "Refused") rfl)), zN.m, zT.m, zN.xf, zT.xf, zN.no, zT.no, He.exm_ok (c.d.fact 92 (f := .exm "InvalidTimes" "Refused" false) rfl), He.exm_ok (c.d.fact 93 (f := .exm "InvalidTimes" "InvalidNumber" false) rfl), He.exm_ok (c.d.fact 94 (f := .exm "InvalidTimes" "InvalidTimes" true) rfl), He.exm_ok (c.d.fact 95 (f := .exm "InvalidNumber" "Refused" false) rfl), He.exm_ok (c.d.fact 96 (f := .exm "InvalidNumber" "InvalidNumber" true) rfl)⟩
theorem dnc_bad (c : SaysO h K) (X : K.In h) (G : h.Ns mainGlobals mg) : DnC K mg "_law_bad_right" s__law_bad_right (He.cT K ("_law_bad_right", none)).1 := by
  obtain ⟨fd, F⟩ := c.d.def_ 55 (d := dfn "_law_bad_right" 78) rfl
  refine ⟨_, fd, F, (He.glo_ok X G (c.d.fact 86 (f := .glo "_law_bad_right") rfl)), ?_⟩
  obtain ⟨oc, od, dV, kV, doc, pm, an, cdv, ct, osl, rfl, lk, hcd, _, _⟩ := F.ex
  obtain ⟨q, rfl⟩ := He.codeIn_ref hcd
  have e : He.codeOf K ("_law_bad_right", none) = q := He.codeOf_eq lk rfl
  show Value.ref q = Value.ref (He.codeOf K ("_law_bad_right", none))
  rw [e]
theorem law_all (c : SaysO h K) (X : K.In h) (G : h.Ns mainGlobals mg) (TB : LamX.TabB base mg (He.cT K ("_law_bad_right", none)).1 (He.cT K ("_law_bad_right", none)).2) : Cg PP w K mg base 20 "law" (SpLaw K (He.cT K ("_law_bad_right", none)).2) := by
  have T := tx_of c X G
  have zT : ExOk PP w K mg base "InvalidTimes" (He.ga K "InvalidTimes") "at" := ex_times c X G
  have zN : ExOk PP w K mg base "InvalidNumber" (He.ga K "InvalidNumber") "word" := ex_number c X G
  have k_come : Cl PP w K mg base _ _ _ := ok_come T (dn_of c X G (x := "come") (i := 32) (j := 16) (k := 47) rfl rfl)
  have k_missing : Cl PP w K mg base _ _ _ := ok_missing T (dn_of c X G (x := "missing") (i := 33) (j := 17) (k := 48) rfl rfl)
  have k_integer : Cl PP w K mg base _ _ _ := ok_is_integer T (dn_of c X G (x := "is_integer") (i := 9) (j := 0) (k := 31) rfl rfl)
  have k_number : Cl PP w K mg base _ _ _ := ok_is_number T (dn_of c X G (x := "is_number") (i := 10) (j := 1) (k := 32) rfl rfl) k_integer
  have k_start : Cl PP w K mg base _ _ _ := ok_start_row T (dn_of c X G (x := "start_row") (i := 16) (j := 5) (k := 36) rfl rfl)
  have k_next : Cl PP w K mg base _ _ _ := ok_next_row T (dn_of c X G (x := "next_row") (i := 17) (j := 6) (k := 37) rfl rfl)
  have k_need : Cl PP w K mg base _ _ _ := ok_need_number T (dn_of c X G (x := "need_number") (i := 13) (j := 4) (k := 35) rfl rfl) k_number
  have k_layers : Cl PP w K mg base _ _ _ := ok_thing_layers T (dn_of c X G (x := "thing_layers") (i := 18) (j := 7) (k := 38) rfl rfl) k_need k_start k_next
  have k_at : Cl PP w K mg base _ _ _ := ok_layer_at T (dn_of c X G (x := "layer_at") (i := 19) (j := 8) (k := 39) rfl rfl)
  have k_every : Cl PP w K mg base _ _ _ := ok_all_layers T (dn_of c X G (x := "all_layers") (i := 20) (j := 9) (k := 40) rfl rfl) k_layers
  have k_walk : Cl PP w K mg base _ _ _ := ok_walk_reach T (dn_of c X G (x := "walk_reach") (i := 22) (j := 10) (k := 41) rfl rfl)
  have k_ring : Cl PP w K mg base _ _ _ := ok_ring_reach T (dn_of c X G (x := "ring_reach") (i := 23) (j := 11) (k := 42) rfl rfl) k_walk
  have k_below : Cl PP w K mg base _ _ _ := ok_is_below T (dn_of c X G (x := "is_below") (i := 38) (j := 21) (k := 52) rfl rfl)
  have k_fit : Cl PP w K mg base _ _ _ := ok_reaches_fit T (dn_of c X G (x := "reaches_fit") (i := 39) (j := 22) (k := 53) rfl rfl) k_below
  have k_time : Cl PP w K mg base _ _ _ := ok_is_time T (dn_of c X G (x := "is_time") (i := 28) (j := 12) (k := 43) rfl rfl) k_integer
  have k_check : Cl PP w K mg base _ _ _ := ok_check_times T (dn_of c X G (x := "check_times") (i := 29) (j := 13) (k := 44) rfl rfl) k_time
  have k_areb : Cl PP w K mg base _ _ _ := ok_are_batches T (dn_of c X G (x := "are_batches") (i := 30) (j := 14) (k := 45) rfl rfl) k_number
  have k_checkb : Cl PP w K mg base _ _ _ := ok_check_batches T (dn_of c X G (x := "check_batches") (i := 31) (j := 15) (k := 46) rfl rfl) k_areb
  have k_within : Cl PP w K mg base _ _ _ := ok_is_within T (dn_of c X G (x := "is_within") (i := 40) (j := 23) (k := 54) rfl rfl) k_checkb k_fit k_walk k_ring
  have kw_within : Cw PP w K mg base _ _ _ _ _ := kw_is_within T (dn_of c X G (x := "is_within") (i := 40) (j := 23) (k := 54) rfl rfl) k_checkb k_fit k_walk k_ring
  have k_short : Cl PP w K mg base _ _ _ := ok_is_too_short T (dn_of c X G (x := "is_too_short") (i := 35) (j := 18) (k := 49) rfl rfl) k_come k_at
  have k_hring : Cl PP w K mg base _ _ _ := ok_has_ring T (dn_of c X G (x := "has_ring") (i := 36) (j := 19) (k := 50) rfl rfl) k_missing k_at
  have k_limits : Cl PP w K mg base _ _ _ := ok_limits T (dn_of c X G (x := "limits") (i := 37) (j := 20) (k := 51) rfl rfl) k_check k_every k_short k_hring
  have kw_lim : Cw PP w K mg base _ _ _ _ _ := kw_limits T (dn_of c X G (x := "limits") (i := 37) (j := 20) (k := 51) rfl rfl) k_check k_every k_short k_hring
  have k_name : Cl PP w K mg base _ _ _ := ok_is_name T (dn_of c X G (x := "is_name") (i := 11) (j := 2) (k := 33) rfl rfl)
  have k_asc : Cl PP w K mg base _ _ _ := ok_is_ascending T (dn_of c X G (x := "is_ascending") (i := 12) (j := 3) (k := 34) rfl rfl)
  have k_things : Cl PP w K mg base _ _ _ := ok_are_things T (dn_of c X G (x := "are_things") (i := 45) (j := 24) (k := 55) rfl rfl) k_name k_asc
  have k_tie : Cl PP w K mg base _ _ _ := ok_is_tie T (dn_of c X G (x := "is_tie") (i := 46) (j := 25) (k := 56) rfl rfl) k_integer
  have x_check : Cx' PP w K mg base _ _ _ := okx_check_times T (dn_of c X G (x := "check_times") (i := 29) (j := 13) (k := 44) rfl rfl) k_time zT
  have x_lim : Cx' PP w K mg base _ _ _ := okx_limits T (dn_of c X G (x := "limits") (i := 37) (j := 20) (k := 51) rfl rfl) k_every k_short k_hring x_check
  have x_checkb : Cx' PP w K mg base _ _ _ := okx_check_batches T (dn_of c X G (x := "check_batches") (i := 31) (j := 15) (k := 46) rfl rfl) k_areb zN
  have x_within : Cx' PP w K mg base _ _ _ := okx_is_within T (dn_of c X G (x := "is_within") (i := 40) (j := 23) (k := 54) rfl rfl) k_fit k_walk k_ring x_checkb
  obtain ⟨fdT, FT⟩ := (c.d.def_ 57 (d := dTab) rfl)
  have CTB : ClT PP w K mg base 4 (He.ga K "Table") (He.fAd K ("Table", some "__init__")) fdT := ⟨He.mkr_ok (c.d.fact 91 (f := .mkr "Table") rfl), ok_Table T FT k_things k_tie, (He.glo_ok X G (c.d.fact 27 (f := .glo "Table") rfl)), FT.bindsN fun _ _ _ _ _ _ us hl => match us, hl with | [_, _, _], _ => rfl,
    ⟨He.cls_ok (c.d.fact 88 (f := .cls "Table") rfl), He.noat_ok (c.d.fact 89 (f := .noat "Table" "things") rfl), He.noat_ok (c.d.fact 90 (f := .noat "Table" "ties") rfl)⟩⟩
  have l_heap : Cl PP w K mg base _ _ _ := ok__law_heap T (dn_of c X G (x := "_law_heap") (i := 49) (j := 26) (k := 57) rfl rfl)
  have l_draw : Cl PP w K mg base _ _ _ := ok__law_draw T (dn_of c X G (x := "_law_draw") (i := 50) (j := 27) (k := 58) rfl rfl)
  have l_pick : Cl PP w K mg base _ _ _ := ok__law_pick T (dn_of c X G (x := "_law_pick") (i := 51) (j := 28) (k := 59) rfl rfl) l_draw
  have l_mixed : Cl PP w K mg base _ _ _ := ok__law_mixed T (dn_of c X G (x := "_law_mixed") (i := 52) (j := 29) (k := 60) rfl rfl) l_draw
  have l_names : Cl PP w K mg base _ _ _ := ok__law_names T (dn_of c X G (x := "_law_names") (i := 53) (j := 30) (k := 61) rfl rfl) l_draw l_pick
  have l_tame : Cl PP w K mg base _ _ _ := ok__law_tame T (dn_of c X G (x := "_law_tame") (i := 54) (j := 31) (k := 62) rfl rfl) l_draw l_pick
  have l_row : Cl PP w K mg base _ _ _ := ok__law_row T (dn_of c X G (x := "_law_row") (i := 55) (j := 32) (k := 63) rfl rfl) l_draw l_mixed
  have l_ring : Cl PP w K mg base _ _ _ := ok__law_ring T (dn_of c X G (x := "_law_ring") (i := 56) (j := 33) (k := 64) rfl rfl) l_draw l_mixed l_pick l_tame
  have l_ties : Cl PP w K mg base _ _ _ := ok__law_ties T (dn_of c X G (x := "_law_ties") (i := 57) (j := 34) (k := 65) rfl rfl) l_draw l_mixed l_pick l_tame l_row l_ring
  have l_batches : Cl PP w K mg base _ _ _ := ok__law_batches T (dn_of c X G (x := "_law_batches") (i := 67) (j := 44) (k := 75) rfl rfl) l_draw l_pick
  have l_round : Cl PP w K mg base _ _ _ := ok__law_round T (dn_of c X G (x := "_law_round") (i := 69) (j := 46) (k := 77) rfl rfl) l_draw l_pick l_mixed
  have l_reaches : Cl PP w K mg base _ _ _ := ok__law_reaches T (dn_of c X G (x := "_law_reaches") (i := 58) (j := 35) (k := 66) rfl rfl)
  have l_rows : Cl PP w K mg base _ _ _ := ok__law_rows T (dn_of c X G (x := "_law_rows") (i := 59) (j := 36) (k := 67) rfl rfl)
  have l_allrows : Cl PP w K mg base _ _ _ := ok__law_all_rows T (dn_of c X G (x := "_law_all_rows") (i := 60) (j := 37) (k := 68) rfl rfl) l_rows
  have l_below : Cl PP w K mg base _ _ _ := ok__law_below T (dn_of c X G (x := "_law_below") (i := 64) (j := 41) (k := 72) rfl rfl)
  have l_held : Cl PP w K mg base _ _ _ := ok__law_held T (dn_of c X G (x := "_law_held") (i := 62) (j := 39) (k := 70) rfl rfl)
  have l_limits : Cl PP w K mg base _ _ _ := ok__law_limits T (dn_of c X G (x := "_law_limits") (i := 63) (j := 40) (k := 71) rfl rfl) l_held
  have l_lots : Cl PP w K mg base _ _ _ := ok__law_lots T (dn_of c X G (x := "_law_lots") (i := 70) (j := 47) (k := 78) rfl rfl)
  have l_hours : Cl PP w K mg base _ _ _ := ok__law_hours T (dn_of c X G (x := "_law_hours") (i := 71) (j := 48) (k := 79) rfl rfl)
  have l_near : Cl PP w K mg base _ _ _ := ok__law_near_batches T (dn_of c X G (x := "_law_near_batches") (i := 75) (j := 52) (k := 83) rfl rfl)
  have l_times : Cl PP w K mg base _ _ _ := ok__law_times T (dn_of c X G (x := "_law_times") (i := 61) (j := 38) (k := 69) rfl rfl) l_draw l_pick l_mixed
  have l_game : Cl PP w K mg base 17 "_law_game" (SpP (p_law_game 7)) := ok__law_game T (m := 7) (dn_of c X G (x := "_law_game") (i := 74) (j := 51) (k := 82) rfl rfl) fun ties U hU => (all_can T hU (dn_of c X G (x := "_law_answers") (i := 72) (j := 49) (k := 80) rfl rfl) (dn_of c X G (x := "_law_can") (i := 73) (j := 50) (k := 81) rfl rfl) l_hours l_reaches l_lots 7).2
  have l_right : Cg PP w K mg base _ _ _ := ok__law_right T (dn_of c X G (x := "_law_right") (i := 76) (j := 53) (k := 84) rfl rfl) l_limits k_limits kw_lim k_within kw_within l_near l_batches l_pick l_mixed l_reaches l_held l_below l_game
  have l_pairs : Cg PP w K mg base _ _ _ := ok__law_pairs_right T (dn_of c X G (x := "_law_pairs_right") (i := 77) (j := 54) (k := 85) rfl rfl) l_batches l_reaches l_below l_draw k_within
  have l_badt : Cl PP w K mg base _ _ _ := ok__law_bad_times T (dn_of c X G (x := "_law_bad_times") (i := 66) (j := 43) (k := 74) rfl rfl)
  have l_badb : Cl PP w K mg base _ _ _ := ok__law_bad_batches T (dn_of c X G (x := "_law_bad_batches") (i := 68) (j := 45) (k := 76) rfl rfl)
  have l_bad : Cl PP w K mg base _ _ _ := ok__law_bad_right T (dnc_bad c X G) (dn_of c X G (x := "_law_told") (i := 65) (j := 42) (k := 73) rfl rfl) (told_k w c X G) TB l_badt l_badb x_lim x_within
  exact ok_law T (dn_of c X G (x := "law") (i := 79) (j := 56) (k := 87) rfl rfl) CTB l_heap l_pick l_draw l_ties l_round l_names l_allrows l_times l_bad k_limits k_within l_right l_pairs
end
end K42
/-! text RuEnd -/
set_option Elab.async false
set_option linter.all false
set_option maxRecDepth 100000
set_option maxHeartbeats 2000000
/-! The end: the law called by the head's caller, where no repr is under way; one table of code objects. -/
namespace K42
open PySem PySem.Spec PyProof.Rows L2
section
variable {P : Program} {w : World} {K : PySem.W.Frag} {mg mb : Str → Option Value} {a P0 c0 : Addr} {s₁ : Shared} {vs : List Value} {ns : List Int}
/-- the script's object -/
abbrev scO (vs : List Value) : Obj := { cls := .type "list", data := .seq vs.toArray }
abbrev noT : Obj := { cls := .none, data := .fields #[] }
/-- what is tracked at the law's call: the table; the script, if K does not hold it -/
def Hs (K : PySem.W.Frag) (a P0 : Addr) (vs : List Value) (ns : List Int) : Hp := fun b => if b = P0 then some (.tbl #[]) else if b = a ∧ (K.lookup a).isNone = true then some (.frz (scO vs) (.lst (ns.map V.int))) else none
theorem hs_tab : Hs K a P0 vs ns P0 = some (.tbl #[]) := if_pos rfl
theorem hs_cases {b : Addr} {u : HO} (h : Hs K a P0 vs ns b = some u) : (b = P0 ∧ u = .tbl #[]) ∨ (b = a ∧ K.lookup a = none ∧ u = .frz (scO vs) (.lst (ns.map V.int))) := by
  unfold Hs at h
  by_cases e : b = P0
  · rw [if_pos e] at h
    exact .inl ⟨e, (Option.some.inj h).symm⟩
  · rw [if_neg e] at h
    by_cases e2 : b = a ∧ (K.lookup a).isNone = true
    · rw [if_pos e2] at h
      exact .inr ⟨e2.1, Option.isNone_iff_eq_none.mp e2.2, (Option.some.inj h).symm⟩
    · rw [if_neg e2] at h; cases h
/-- neither the script's kind of object nor the table's -/
def Off (o : Obj) : Prop := (∀ xs n, o.data ≠ .seq xs n) ∧ o.data ≠ .fields #[]
theorem hs_off (ha : s₁.heap.get? a = some (scO vs)) (hT : s₁.heap.get? P0 = some noT) {b : Addr} {o : Obj} (e : s₁.heap.get? b = some o) (n : Off o) : Hs K a P0 vs ns b = none := by
  cases h : Hs K a P0 vs ns b with
  | none => rfl
  | some u =>
    rcases hs_cases h with ⟨rfl, _⟩ | ⟨rfl, _⟩
    · rw [hT] at e; cases e; exact absurd rfl n.2
    · rw [ha] at e; cases e; exact absurd rfl (n.1 _ _)
theorem off_dict {o : Obj} {es : Array DictEntry} {ep : Nat} (h : o.data = .dict es ep) : Off o := ⟨fun _ _ z => (by rw [h] at z; cases z), fun z => (by rw [h] at z; cases z)⟩
theorem law_callG {k : Nat} {fa : Addr} {x : Str} {sp : Sp} (KX : K.In s₁.heap) (gl : s₁.heap.Ns mainGlobals mg) (bl : s₁.heap.Ns builtinsNs mb) (bb : ∀ x : Str, x ≠ "__name__" → mb x = bootBuiltins x) (nl : s₁.heap.NoLimit) (ng : s₁.gens = #[])
    (hT : s₁.heap.get? P0 = some noT) (nT : K.lookup P0 = none) (C : PySem.W.CodeHd s₁.heap c0 P0)
    (bm : ∃ (m : Addr) (ob : Obj), mg "__builtins__" = some (.ref m) ∧ m ≠ builtinsNs ∧ s₁.heap.get? m = some ob ∧ ob.cls = .type "module" ∧ ob.dict = some builtinsNs ∧ ob.data = .plain)
    (ha : s₁.heap.get? a = some (scO vs)) (hi : IntsAre vs ns) (hl : ns.length ≤ sizeLine) (hr : Room k callerA)
    (F : ∀ base : Heap, K.In base → base.Ns mainGlobals mg → LamX.TabB base mg c0 P0 → Cg P w K mg base k x sp) (hm : mg x = some (.ref fa))
    (hsp : ∀ H : Hp, H P0 = some (.tbl #[]) → a ≠ P0 → SqL K H a (ns.map V.int) → sp [.ref a] H (fun v _ => v = .bl true) E0) :
    codeAny (model P w) callerA (.call (.ref fa) ⟨[.ref a], []⟩) (fun r s' => r = .ok (.ret (.bool true)) ∧ OldK s₁.heap s'.heap ∧ s'.os = s₁.os ∧ AllBare s'.gens) s₁ := by
  have rv := vals_ints hi
  have aP : a ≠ P0 := fun z => by rw [z, hT] at ha; cases ha
  have hH : Hs K a P0 vs ns P0 = some (.tbl #[]) := hs_tab
  have scr : SqL K (Hs K a P0 vs ns) a (ns.map V.int) := by
    cases q : K.lookup a with
    | none => exact .inl (.inr ⟨scO vs, by unfold Hs; rw [if_neg aP, if_pos ⟨rfl, by rw [q]; rfl⟩]⟩)
    | some o =>
      have e := KX a o q
      rw [ha] at e
      cases e
      exact .inr ⟨_, vs.toArray, _, q, rfl, rfl, rfl, by rw [List.size_toArray, hi.length]; exact hl, by simpa using rv⟩
  have good : HOk P w (Hs K a P0 vs ns) s₁.heap := fun b u h => by
    rcases hs_cases h with ⟨rfl, rfl⟩ | ⟨rfl, _, rfl⟩
    · exact hT
    · exact ⟨ha, by rw [List.length_map]; exact hl, vs, _, rv, ha⟩
  have see : ∀ {b : Addr} {o : Obj}, s₁.heap.get? b = some o → Off o → (hidT s₁.heap (Hs K a P0 vs ns)).get? b = some o := fun e n => hidT_get e (hs_off ha hT e n)
  have names : ∀ {b : Addr} {m : Str → Option Value}, s₁.heap.Ns b m → (hidT s₁.heap (Hs K a P0 vs ns)).Ns b m := fun {b m} h => by
    obtain ⟨o, es, ep, e, d, r⟩ := h
    exact ⟨o, es, ep, see e (off_dict d), d, r⟩
  have inK : K.In (hidT s₁.heap (Hs K a P0 vs ns)) := fun b o e => hidT_get (KX b o e) (by
    cases q : Hs K a P0 vs ns b with
    | none => rfl
    | some u =>
      rcases hs_cases q with ⟨rfl, _⟩ | ⟨rfl, z, _⟩
      · rw [nT] at e; cases e
      · rw [z] at e; cases e)
  have md : L2.Mod K mg (hidT s₁.heap (Hs K a P0 vs ns)) := by
    obtain ⟨mc, n1, n2⟩ := nl
    exact ⟨inK, names gl, ⟨mb, names bl, bb⟩, mc, names n1, n2⟩
  have tb : LamX.TabB (hidT s₁.heap (Hs K a P0 vs ns)) mg c0 P0 := by
    refine ⟨?_, ?_, fun z => ?_⟩
    · obtain ⟨o, us, file, tf, flags, tg, inF, text, tt, e1, r1, r2, r3, rest⟩ := C
      refine ⟨o, us, file, tf, flags, tg, inF, text, tt, see e1 ⟨fun _ _ z => (by rw [r2] at z; cases z), fun z => ?_⟩, r1, r2, r3, rest⟩
      rw [r2] at z
      cases z
      simp at r3
    · obtain ⟨m, ob, b1, b2, b3, b4, b5, b6⟩ := bm
      have of : Off ob := ⟨fun _ _ z => (by rw [b6] at z; cases z), fun z => (by rw [b6] at z; cases z)⟩
      refine ⟨m, ob, b1, b2, fun q => ?_, fun q => ?_, see b3 of, b4, b5, b6⟩
      · obtain ⟨o, es, ep, e, d, _⟩ := gl
        rw [q, e] at b3
        cases b3
        rw [d] at b6; cases b6
      · rw [q, hT] at b3
        cases b3; cases b6
    · obtain ⟨o, es, ep, e, d, _⟩ := gl
      rw [z, hT] at e
      cases e; cases d
  have e0 : Env0 P w K mg (hidT s₁.heap (Hs K a P0 vs ns)) callerA [] s₁ (Hs K a P0 vs ns) :=
    ⟨rfl, md, fun b o e => of_hidT e, Nat.le_of_eq (hidT_size _ _), trivial, fun b hb => (by cases (show b ∈ ([] : List Addr) from hb)), good, .of_eq ng⟩
  obtain ⟨f, fd, ps, FG, hm2, _, hb⟩ := F _ inK (names gl) tb
  rw [hm] at hm2
  cases hm2
  have hs := hsp _ hH aP scr
  have len := FG.len _ _ _ _ hs
  have bind := hb s₁ [.ref a] KX len
  refine codeAny_mono (FG.run callerA [] s₁ _ ⟨[.ref a], []⟩ [.ref a] [.ref a] _ _ hr rfl e0 (by rw [List.append_nil] at bind; exact bind) (.cons rfl .nil) hs) fun r s' h => ?_
  match r, h with
  | .error e, h => exact (show False from h).elim
  | .ok .next, h => exact (show False from h).elim
  | .ok .brk, h => exact (show False from h).elim
  | .ok .cont, h => exact (show False from h).elim
  | .ok (.ret u), h =>
    obtain ⟨v, H', os, bare, un, good', r', q⟩ := h
    have q : v = .bl true := q
    subst q
    obtain rfl : u = Value.bool true := r'
    obtain ⟨more, tm⟩ := un.tbls P0 #[] hH
    have tm' : s'.heap.get? P0 = some { cls := .none, data := .fields (#[] ++ more) } := good' P0 _ tm
    have same : ∀ b o, b ≠ P0 → s₁.heap.get? b = some o → s'.heap.get? b = some o := fun b o nb e => by
      cases q : Hs K a P0 vs ns b with
      | none => exact un.keep b o e q (fun z => by cases (show b ∈ ([] : List Addr) from z)) (by simp)
      | some y =>
        rcases hs_cases q with ⟨z, _⟩ | ⟨rfl, _, rfl⟩
        · exact absurd z nb
        · obtain ⟨e1, _⟩ := good b _ q
          obtain ⟨e2, _⟩ := good' b _ (un.frzs b _ _ q)
          rw [e] at e1
          cases e1
          exact e2
    refine ⟨rfl, ⟨fun b o e => ?_, fun b o e => ?_⟩, os, bare⟩
    · by_cases nb : b = P0
      · rw [nb] at e ⊢
        rw [hT] at e
        cases e
        exact .inr (.inl ⟨(C.tab hT).isCodeTable, rfl, #[], _, rfl, tm'⟩)
      · exact .inl (same b o nb e)
    · by_cases nb : b = P0
      · rw [nb]; exact ⟨_, tm'⟩
      · exact ⟨o, same b o nb e⟩
end
end K42
/-! text Last -/
set_option Elab.async false
set_option linter.all false
set_option maxRecDepth 100000
set_option maxHeartbeats 8000000
open PySem PySem.W PySem.Calls PyProof.Rows
theorem PySem.Challenge.cw_saidatonce_k42_whole_two_limits_tell_all_holds : PySem.Challenge.rw_saidatonce_k42_whole_two_limits_tell_all.Holds := by
  w_on; o_law
  refine HandSHeadRun.head_any (r := K42.R) (q := view K42.R.prog [79]) (H := K42.hkO) (ob := K42.obT) (M := 6000) (loose := K42.names) (d := HandSHeadRun.topDef K42.R.prog 79) (kwd := []) K42.obT_eq
    (by kernel_rfl) (fun s => by kernel_rfl) K42.run (by kernel_rfl) (by kernel_rfl) (by kernel_rfl) (by rfl) (by first | assumption | decide +kernel) (by decide +kernel) ⟨rfl, rfl, rfl, rfl, rfl, by decide +kernel⟩ ?hw ?hc
  case hw => w_witness2
  case hc =>
    refine Att.attach_callB (l := PySem.Challenge.rw_saidatonce_k42_whole_two_limits_tell_all) (n := 63) rfl (by kernel_rfl) fun w s₀ s₁ mg mb fa o pm cd doc a vs ns G Y ho hd hcd hmg0 hobj hints hlen hbits hg => ?_
    obtain ⟨K, KX, c⟩ := Y
    have hmg : mg ("law" : PySem.Str) = some (.ref fa) := by
      have e : (HandSHeadRun.topDef K42.R.prog 79).name = ("law" : PySem.Str) := by kernel_rfl
      rw [← e]
      exact hmg0
    exact K42.law_callG (k := 20) (x := "law") KX G.T.g G.T.b G.T.builtins G.T.nolimit hg c.empty c.out (PySem.W.codeHd_of_K KX c.hd) G.T.bmain hobj hints (Nat.le_trans hlen (by rw [sizeLine_eq]; decide)) ⟨rfl, by decide, by decide⟩
      (fun base inb gl tb => K42.law_all c KX G.T.g tb) hmg fun H hH hne hS => ⟨a, ns, rfl, hS, hne, hH, fun _ => rfl⟩
