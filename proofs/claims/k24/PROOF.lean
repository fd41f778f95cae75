import PyProof.Rows.All
import HandS.ForMost
import HandS.ForExc
import HandS.IsInst
import HandS.Style
import HandS.Deep
import HandS.Walk
import HandS.TryMany
import HandS.Conv
import HandS.Wide
import HandS.ExcIs
import HandS.TupAny
import HandS.TupMul
import HandS.TupLe
import PySem.Challenge.RW_lightwrit_k24_fractions
import Wide.All
import OpenK.AllK
import Wide.FinOn
import HandS.EndBits
set_option Elab.async false
set_option linter.all false
set_option maxRecDepth 100000
set_option maxHeartbeats 8000000
namespace DL
open PySem PySem.Spec PyProof.Rows L2 


/-! ### data as trees -/
inductive D where
  | non | bl (b : Bool) | int (i : Int) | str (x : Str)
  | tup (xs : List D) | lst (xs : List D)
  | ins (c : Nat) (ns : List Str) (vs : List D)
  | dic (ks vs : List D)
  | scr (xs : List D)

inductive R (α : Type) where | ok (a : α) | exn (c : Nat) | bad
def R.bind {α β : Type} (r : R α) (f : α → R β) : R β := match r with | .ok a => f a | .exn c => .exn c | .bad => .bad
@[simp] theorem R.bind_ok {α β : Type} (a : α) (f : α → R β) : (R.ok a).bind f = f a := Eq.trans rfl rfl
@[simp] theorem R.bind_exn {α β : Type} (c : Nat) (f : α → R β) : (R.exn c).bind f = .exn c := Eq.trans rfl rfl
@[simp] theorem R.bind_bad {α β : Type} (f : α → R β) : (R.bad : R α).bind f = .bad := Eq.trans rfl rfl

/-- the key of a dict as a datum -/
def dKey : Key → D
  | .inl i => .int i
  | .inr x => .str x
def DicAt (H : Hp) (a : Addr) (ks : List D) (vs : List V) : Prop :=
  (∃ kk : List Key, ks = kk.map dKey ∧ kk.length = vs.length ∧ Rd H a (.dK (kk.zip vs))) ∨
  (∃ kk : List (List Key), ks = kk.map (fun k => D.tup (k.map dKey)) ∧ kk.length = vs.length ∧ Rd H a (.dT (kk.zip vs)))

section
variable (K : PySem.W.Frag) (cad : Nat → Addr)
mutual
/-- the value v stands for the datum; no list, dict or instance in it is one of U -/
def Rep (U : List Addr) (H : Hp) : D → V → Prop
  | .non, v => v = .non
  | .bl b, v => v = .bl b
  | .int i, v => v = .int i
  | .str x, v => v = .str x
  | .tup xs, v => ∃ a vs, v = .ref a ∧ SqT K H a vs ∧ Reps U H xs vs
  | .lst xs, v => ∃ a vs, v = .ref a ∧ a ∉ U ∧ H a = some (.lst vs) ∧ Reps U H xs vs
  | .ins c ns ds, v => ∃ a dx vs, v = .ref a ∧ a ∉ U ∧ H a = some (.ins (cad c) dx (ns.zip vs)) ∧ ns.length = vs.length ∧ Reps U H ds vs
  | .dic ks ds, v => ∃ a vs, v = .ref a ∧ a ∉ U ∧ DicAt H a ks vs ∧ Reps U H ds vs
  | .scr xs, v => ∃ a vs, v = .ref a ∧ a ∉ U ∧ SqL K H a vs ∧ Reps U H xs vs
def Reps (U : List Addr) (H : Hp) : List D → List V → Prop
  | [], vs => vs = []
  | d :: ds, vs => ∃ v r, vs = v :: r ∧ Rep U H d v ∧ Reps U H ds r
end
end

/-- what is looked at by Rep -/
def Ob : HO → Prop
  | .lst _ => True
  | .tup _ => True
  | .dK _ => True
  | .dT _ => True
  | _ => False
structure Ext (U : List Addr) (H H' : Hp) : Prop where
  rd : ∀ b u, b ∉ U → Ob u → Rd H b u → Rd H' b u
  ins : ∀ b C dx fs, b ∉ U → H b = some (.ins C dx fs) → H' b = some (.ins C dx fs)
  lst : ∀ b xs, b ∉ U → H b = some (.lst xs) → H' b = some (.lst xs)
theorem Ext.refl (U : List Addr) (H : Hp) : Ext U H H := ⟨fun _ _ _ _ h => h, fun _ _ _ _ _ h => h, fun _ _ _ h => h⟩
theorem Ext.trans {U : List Addr} {H H1 H2 : Hp} (a : Ext U H H1) (b : Ext U H1 H2) : Ext U H H2 :=
  ⟨fun c u n o h => b.rd c u n o (a.rd c u n o h), fun c C dx fs n h => b.ins c C dx fs n (a.ins c C dx fs n h), fun c xs n h => b.lst c xs n (a.lst c xs n h)⟩
theorem Ext.mono {U U' : List Addr} {H H' : Hp} (a : Ext U H H') (h : ∀ x ∈ U, x ∈ U') : Ext U' H H' :=
  ⟨fun c u n o => a.rd c u (fun z => n (h c z)) o, fun c C dx fs n => a.ins c C dx fs fun z => n (h c z), fun c xs n => a.lst c xs fun z => n (h c z)⟩
theorem Ext.all {H H' : Hp} (a : Ext [] H H') (U : List Addr) : Ext U H H' := a.mono fun x h => by cases h
theorem Rd.tracked {H : Hp} {a : Addr} {u : HO} (h : Rd H a u) : H a ≠ none := by
  rcases h with h | ⟨o, h⟩ <;> rw [h] <;> simp
theorem Ext.new {H : Hp} {p : Addr} {o : HO} (h : H p = none) : Ext [] H (upd H p o) := by
  have ne : ∀ b, H b ≠ none → b ≠ p := fun b hb e => hb (by rw [e]; exact h)
  refine ⟨fun b u _ _ r => ?_, fun b C dx fs _ r => ?_, fun b xs _ r => by rw [upd_ne (ne b (by rw [r]; simp))]; exact r⟩
  · have := ne b (Rd.tracked r)
    rcases r with r | ⟨o', r⟩
    · exact .inl (by rw [upd_ne this]; exact r)
    · exact .inr ⟨o', by rw [upd_ne this]; exact r⟩
  · rw [upd_ne (ne b (by rw [r]; simp))]; exact r
theorem Ext.write {U : List Addr} {H : Hp} {p : Addr} {o : HO} (h : p ∈ U) : Ext U H (upd H p o) := by
  refine ⟨fun b u n _ r => ?_, fun b C dx fs n r => ?_, fun b xs n r => by rw [upd_ne (fun e => n (by rw [e]; exact h))]; exact r⟩
  · have : b ≠ p := fun e => n (e ▸ h)
    rcases r with r | ⟨o', r⟩
    · exact .inl (by rw [upd_ne this]; exact r)
    · exact .inr ⟨o', by rw [upd_ne this]; exact r⟩
  · have : b ≠ p := fun e => n (e ▸ h)
    rw [upd_ne this]; exact r
theorem Ext.seqT {K : PySem.W.Frag} {U : List Addr} {H H' : Hp} {a : Addr} {xs : List V} (e : Ext [] H H') (h : SqT K H a xs) : SqT K H' a xs := by
  rcases h with h | h
  · exact .inl (e.rd _ _ (by simp) trivial h)
  · exact .inr h
theorem Ext.seqL {K : PySem.W.Frag} {U : List Addr} {H H' : Hp} {a : Addr} {xs : List V} (e : Ext U H H') (n : a ∉ U) (h : SqL K H a xs) : SqL K H' a xs := by
  rcases h with h | h
  · exact .inl (e.rd _ _ n trivial h)
  · exact .inr h
/-- tuples are never written: this holds of U's members as well, which are no tuples -/
def NoTup (U : List Addr) (H : Hp) : Prop := ∀ a ∈ U, (∃ u, Ob u ∧ (∀ xs, u ≠ .tup xs) ∧ Rd H a u) ∨ ∃ C dx fs, H a = some (.ins C dx fs)
/-- nothing stands at a yet -/
def NewAt (H : Hp) (a : Addr) : Prop := (∀ u, Ob u → ¬ Rd H a u) ∧ ∀ C dx fs, H a ≠ some (.ins C dx fs)
theorem NewAt.of {H : Hp} {a : Addr} (h : H a = none) : NewAt H a := ⟨fun u _ r => Rd.tracked r h, fun C dx fs e => by rw [h] at e; cases e⟩
theorem NewAt.back {H H' : Hp} {a : Addr} (e : Ext [] H H') (h : NewAt H' a) : NewAt H a :=
  ⟨fun u o r => h.1 u o (e.rd a u (by simp) o r), fun C dx fs r => h.2 C dx fs (e.ins a C dx fs (by simp) r)⟩
theorem NoTup.notNew {U : List Addr} {H : Hp} {a : Addr} (t : NoTup U H) (n : NewAt H a) : a ∉ U := fun h => by
  rcases t a h with ⟨u, o, _, r⟩ | ⟨C, dx, fs, r⟩
  · exact n.1 u o r
  · exact n.2 C dx fs r
theorem NoTup.ext {U : List Addr} {H H' : Hp} (t : NoTup U H) (e : Ext [] H H') : NoTup U H' := fun a h => by
  rcases t a h with ⟨u, o, n, r⟩ | ⟨C, dx, fs, r⟩
  · exact .inl ⟨u, o, n, e.rd a u (by simp) o r⟩
  · exact .inr ⟨C, dx, fs, e.ins a C dx fs (by simp) r⟩
theorem Rd.uniq {H : Hp} {a : Addr} {u u' : HO} (h : Rd H a u) (h' : Rd H a u') (o : Ob u) (o' : Ob u') : u = u' := by
  rcases h with h | ⟨x, h⟩ <;> rcases h' with h' | ⟨x', h'⟩ <;> rw [h] at h'
  · exact Option.some.inj h'
  · have := Option.some.inj h'; subst this; exact o.elim
  · have := Option.some.inj h'; subst this; exact o'.elim
  · have := Option.some.inj h'; injection this
theorem Rd.noIns {H : Hp} {a : Addr} {u : HO} {C dx : Addr} {fs : List (Str × V)} (h : Rd H a u) (o : Ob u) (h' : H a = some (.ins C dx fs)) : False := by
  rcases h with h | ⟨x, h⟩
  · rw [h] at h'; cases h'; exact o
  · rw [h] at h'; cases h'
/-- no tuple stands at one of these -/
def NT (U : List Addr) (H : Hp) : Prop := ∀ a ∈ U, ∀ xs, ¬ Rd H a (.tup xs)
theorem NoTup.nt {U : List Addr} {H : Hp} (t : NoTup U H) : NT U H := fun a hu xs h => by
  rcases t a hu with ⟨u, o, n, r⟩ | ⟨C, dx, fs, r⟩
  · exact n xs (Rd.uniq r h o trivial)
  · exact Rd.noIns h trivial r
theorem NT.cons {U : List Addr} {H : Hp} {p : Addr} (t : NT U H) (n : NewAt H p) : NT (p :: U) H := fun a hu xs h => by
  rcases List.mem_cons.mp hu with rfl | hu
  · exact n.1 (.tup xs) trivial h
  · exact t a hu xs h
theorem NT.seqT {K : PySem.W.Frag} {U : List Addr} {H H' : Hp} {a : Addr} {xs : List V} (t : NT U H) (e : Ext U H H') (h : SqT K H a xs) : SqT K H' a xs := by
  rcases h with h | h
  · exact .inl (e.rd _ _ (fun hu => t a hu xs h) trivial h)
  · exact .inr h
theorem DicAt.ext {U : List Addr} {H H' : Hp} {a : Addr} {ks : List D} {vs : List V} (e : Ext U H H') (n : a ∉ U) (h : DicAt H a ks vs) : DicAt H' a ks vs := by
  rcases h with ⟨kk, h1, h2, h3⟩ | ⟨kk, h1, h2, h3⟩
  · exact .inl ⟨kk, h1, h2, e.rd _ _ n trivial h3⟩
  · exact .inr ⟨kk, h1, h2, e.rd _ _ n trivial h3⟩

section
variable {K : PySem.W.Frag} {cad : Nat → Addr}
mutual
theorem Rep.ext {U : List Addr} {H H' : Hp} (t : NT U H) (e : Ext U H H') : ∀ (d : D) (v : V), Rep K cad U H d v → Rep K cad U H' d v
  | .non, v, h => h
  | .bl b, v, h => h
  | .int i, v, h => h
  | .str x, v, h => h
  | .tup xs, v, h => by
    simp only [Rep] at h ⊢
    obtain ⟨a, vs, h1, h2, h3⟩ := h
    exact ⟨a, vs, h1, t.seqT e h2, Reps.ext t e xs vs h3⟩
  | .lst xs, v, h => by
    simp only [Rep] at h ⊢
    obtain ⟨a, vs, h1, n, h2, h3⟩ := h
    exact ⟨a, vs, h1, n, e.lst _ _ n h2, Reps.ext t e xs vs h3⟩
  | .ins c ns ds, v, h => by
    simp only [Rep] at h ⊢
    obtain ⟨a, dx, vs, h1, n, h2, h3, h4⟩ := h
    exact ⟨a, dx, vs, h1, n, e.ins _ _ _ _ n h2, h3, Reps.ext t e ds vs h4⟩
  | .dic ks ds, v, h => by
    simp only [Rep] at h ⊢
    obtain ⟨a, vs, h1, n, h2, h3⟩ := h
    exact ⟨a, vs, h1, n, h2.ext e n, Reps.ext t e ds vs h3⟩
  | .scr xs, v, h => by
    simp only [Rep] at h ⊢
    obtain ⟨a, vs, h1, n, h2, h3⟩ := h
    exact ⟨a, vs, h1, n, e.seqL n h2, Reps.ext t e xs vs h3⟩
theorem Reps.ext {U : List Addr} {H H' : Hp} (t : NT U H) (e : Ext U H H') : ∀ (ds : List D) (vs : List V), Reps K cad U H ds vs → Reps K cad U H' ds vs
  | [], vs, h => h
  | d :: ds, vs, h => by
    simp only [Reps] at h ⊢
    obtain ⟨v, r, h1, h2, h3⟩ := h
    exact ⟨v, r, h1, Rep.ext t e d v h2, Reps.ext t e ds r h3⟩
end
mutual
theorem Rep.sub {U U' : List Addr} {H : Hp} (s : ∀ a ∈ U', a ∈ U) : ∀ (d : D) (v : V), Rep K cad U H d v → Rep K cad U' H d v
  | .non, v, h => h
  | .bl b, v, h => h
  | .int i, v, h => h
  | .str x, v, h => h
  | .tup xs, v, h => by
    simp only [Rep] at h ⊢
    obtain ⟨a, vs, h1, h2, h3⟩ := h
    exact ⟨a, vs, h1, h2, Reps.sub s xs vs h3⟩
  | .lst xs, v, h => by
    simp only [Rep] at h ⊢
    obtain ⟨a, vs, h1, n, h2, h3⟩ := h
    exact ⟨a, vs, h1, fun z => n (s a z), h2, Reps.sub s xs vs h3⟩
  | .ins c ns ds, v, h => by
    simp only [Rep] at h ⊢
    obtain ⟨a, dx, vs, h1, n, h2, h3, h4⟩ := h
    exact ⟨a, dx, vs, h1, fun z => n (s a z), h2, h3, Reps.sub s ds vs h4⟩
  | .dic ks ds, v, h => by
    simp only [Rep] at h ⊢
    obtain ⟨a, vs, h1, n, h2, h3⟩ := h
    exact ⟨a, vs, h1, fun z => n (s a z), h2, Reps.sub s ds vs h3⟩
  | .scr xs, v, h => by
    simp only [Rep] at h ⊢
    obtain ⟨a, vs, h1, n, h2, h3⟩ := h
    exact ⟨a, vs, h1, fun z => n (s a z), h2, Reps.sub s xs vs h3⟩
theorem Reps.sub {U U' : List Addr} {H : Hp} (s : ∀ a ∈ U', a ∈ U) : ∀ (ds : List D) (vs : List V), Reps K cad U H ds vs → Reps K cad U' H ds vs
  | [], vs, h => h
  | d :: ds, vs, h => by
    simp only [Reps] at h ⊢
    obtain ⟨v, r, h1, h2, h3⟩ := h
    exact ⟨v, r, h1, Rep.sub s d v h2, Reps.sub s ds r h3⟩
end
/-- a is not in K -/
def OffK (K : PySem.W.Frag) (a : Addr) : Prop := K.lookup a = none
mutual
theorem Rep.grow {U : List Addr} {H : Hp} {p : Addr} (n : NewAt H p) (k : OffK K p) : ∀ (d : D) (v : V), Rep K cad U H d v → Rep K cad (p :: U) H d v
  | .non, v, h => h
  | .bl b, v, h => h
  | .int i, v, h => h
  | .str x, v, h => h
  | .tup xs, v, h => by
    simp only [Rep] at h ⊢
    obtain ⟨a, vs, h1, h2, h3⟩ := h
    exact ⟨a, vs, h1, h2, Reps.grow n k xs vs h3⟩
  | .lst xs, v, h => by
    simp only [Rep] at h ⊢
    obtain ⟨a, vs, h1, m, h2, h3⟩ := h
    refine ⟨a, vs, h1, fun z => ?_, h2, Reps.grow n k xs vs h3⟩
    rcases List.mem_cons.mp z with rfl | z
    · exact n.1 (.lst vs) trivial (.inl h2)
    · exact m z
  | .ins c ns ds, v, h => by
    simp only [Rep] at h ⊢
    obtain ⟨a, dx, vs, h1, m, h2, h3, h4⟩ := h
    refine ⟨a, dx, vs, h1, fun z => ?_, h2, h3, Reps.grow n k ds vs h4⟩
    rcases List.mem_cons.mp z with rfl | z
    · exact n.2 _ _ _ h2
    · exact m z
  | .dic ks ds, v, h => by
    simp only [Rep] at h ⊢
    obtain ⟨a, vs, h1, m, h2, h3⟩ := h
    refine ⟨a, vs, h1, fun z => ?_, h2, Reps.grow n k ds vs h3⟩
    rcases List.mem_cons.mp z with rfl | z
    · rcases h2 with ⟨kk, _, _, h2⟩ | ⟨kk, _, _, h2⟩
      · exact n.1 (.dK (kk.zip vs)) trivial h2
      · exact n.1 (.dT (kk.zip vs)) trivial h2
    · exact m z
  | .scr xs, v, h => by
    simp only [Rep] at h ⊢
    obtain ⟨a, vs, h1, m, h2, h3⟩ := h
    refine ⟨a, vs, h1, fun z => ?_, h2, Reps.grow n k xs vs h3⟩
    rcases List.mem_cons.mp z with rfl | z
    · rcases h2 with h2 | ⟨o, _, _, h2, _⟩
      · exact n.1 (.lst vs) trivial h2
      · rw [show K.lookup a = none from k] at h2; cases h2
    · exact m z
theorem Reps.grow {U : List Addr} {H : Hp} {p : Addr} (n : NewAt H p) (k : OffK K p) : ∀ (ds : List D) (vs : List V), Reps K cad U H ds vs → Reps K cad (p :: U) H ds vs
  | [], vs, h => h
  | d :: ds, vs, h => by
    simp only [Reps] at h ⊢
    obtain ⟨v, r, h1, h2, h3⟩ := h
    exact ⟨v, r, h1, Rep.grow n k d v h2, Reps.grow n k ds r h3⟩
end
end

/-! ### slots -/
inductive Sl where | un | im (d : D) | ow (d : D)
abbrev Envd := List Sl

section
variable (K : PySem.W.Frag) (cad : Nat → Addr)
/-- an owned container at a -/
def Own (U : List Addr) (H : Hp) (a : Addr) : D → Prop
  | .lst xs => ∃ vs, H a = some (.lst vs) ∧ Reps K cad U H xs vs
  | .dic ks ds => ∃ vs, ((∃ kk : List Key, ks = kk.map dKey ∧ kk.length = vs.length ∧ H a = some (.dK (kk.zip vs))) ∨
      (∃ kk : List (List Key), ks = kk.map (fun k => D.tup (k.map dKey)) ∧ kk.length = vs.length ∧ H a = some (.dT (kk.zip vs)))) ∧ Reps K cad U H ds vs
  | _ => False
def SlRep (U : List Addr) (H : Hp) (o : Option (Option V)) : Sl → Prop
  | .un => True
  | .im d => ∃ v, o = some (some v) ∧ Rep K cad U H d v
  | .ow d => ∃ a, o = some (some (.ref a)) ∧ a ∈ U ∧ Own K cad U H a d
/-- as Rep, but the container itself may be one of U -/
def RepB (U : List Addr) (H : Hp) : D → V → Prop
  | .lst xs, v => ∃ a vs, v = .ref a ∧ H a = some (.lst vs) ∧ Reps K cad U H xs vs
  | .dic ks ds, v => ∃ a vs, v = .ref a ∧ DicAt H a ks vs ∧ Reps K cad U H ds vs
  | d, v => Rep K cad U H d v
def RepM (b : Bool) (U : List Addr) (H : Hp) (d : D) (v : V) : Prop := if b = true then RepB K cad U H d v else Rep K cad U H d v
structure ERep (U : List Addr) (env : Envd) (σ : L2.St) (H : Hp) : Prop where
  nt : NoTup U H
  sl : ∀ (i : Nat) (s : Sl), env[i]? = some s → SlRep K cad U H (σ[i]?) s
  dst : ∀ (i j : Nat) (d e : D) (a : Addr), env[i]? = some (.ow d) → env[j]? = some (.ow e) → σ[i]? = some (some (.ref a)) → σ[j]? = some (some (.ref a)) → i = j
  len : env.length = σ.length
end

section
variable {K : PySem.W.Frag} {cad : Nat → Addr} {U : List Addr} {H H' : Hp} {env : Envd} {σ : L2.St}
theorem Rep.toB {d : D} {v : V} (h : Rep K cad U H d v) : RepB K cad U H d v := by
  cases d <;> simp only [RepB] <;> first | exact h | skip
  all_goals simp only [Rep] at h
  · obtain ⟨a, vs, h1, _, h2, h3⟩ := h
    exact ⟨a, vs, h1, h2, h3⟩
  · obtain ⟨a, vs, h1, _, h2, h3⟩ := h
    exact ⟨a, vs, h1, h2, h3⟩
theorem Rep.toM {b : Bool} {d : D} {v : V} (h : Rep K cad U H d v) : RepM K cad b U H d v := by
  unfold RepM; split
  · exact h.toB
  · exact h
theorem RepM.toB {b : Bool} {d : D} {v : V} (h : RepM K cad b U H d v) : RepB K cad U H d v := by
  unfold RepM at h; split at h
  · exact h
  · exact h.toB
theorem RepM.of (h : RepM K cad false U H d v) : Rep K cad U H d v := h
theorem DicAt.ext0 {a : Addr} {ks : List D} {vs : List V} (e : Ext [] H H') (h : DicAt H a ks vs) : DicAt H' a ks vs := h.ext e (by simp)
theorem RepB.ext {d : D} {v : V} (t : NoTup U H) (e : Ext [] H H') (h : RepB K cad U H d v) : RepB K cad U H' d v := by
  cases d <;> simp only [RepB] at h ⊢ <;> first | exact Rep.ext t.nt (e.all U) _ _ h | skip
  · obtain ⟨a, vs, h1, h2, h3⟩ := h
    exact ⟨a, vs, h1, e.lst _ _ (by simp) h2, Reps.ext t.nt (e.all U) _ _ h3⟩
  · obtain ⟨a, vs, h1, h2, h3⟩ := h
    exact ⟨a, vs, h1, h2.ext0 e, Reps.ext t.nt (e.all U) _ _ h3⟩
theorem RepM.ext {b : Bool} {d : D} {v : V} (t : NoTup U H) (e : Ext [] H H') (h : RepM K cad b U H d v) : RepM K cad b U H' d v := by
  unfold RepM at h ⊢; split at h
  · rename_i hb; rw [if_pos hb]; exact h.ext t e
  · rename_i hb; rw [if_neg hb]; exact Rep.ext t.nt (e.all U) _ _ h
theorem Rd.of_eq {a : Addr} {o : HO} (h : H a = some o) : Rd H a o := .inl h
/-- an owned list or dict is kept as it is where nothing that is looked at changes -/
def KeepO (U : List Addr) (H H' : Hp) : Prop := ∀ a o, a ∈ U → H a = some o → H' a = some o
/-- expressions leave all as it is -/
structure Ex (U : List Addr) (H H' : Hp) : Prop where
  ext : Ext [] H H'
  keep : KeepO U H H'
theorem Ex.refl (U : List Addr) (H : Hp) : Ex U H H := ⟨Ext.refl _ _, fun _ _ _ h => h⟩
theorem Ex.trans {H1 H2 : Hp} (a : Ex U H H1) (b : Ex U H1 H2) : Ex U H H2 := ⟨a.ext.trans b.ext, fun c o h e => b.keep c o h (a.keep c o h e)⟩
theorem Ex.new {p : Addr} {o : HO} (h : H p = none) : Ex U H (upd H p o) := ⟨Ext.new h, fun a o' _ e => by rw [upd_ne (ne_of_none e h)]; exact e⟩
theorem Own.ext {a : Addr} {d : D} (t : NoTup U H) (e : Ext U H H') (k : ∀ o, H a = some o → H' a = some o) (h : Own K cad U H a d) : Own K cad U H' a d := by
  cases d <;> simp only [Own] at h ⊢
  · obtain ⟨vs, h1, h2⟩ := h
    exact ⟨vs, k _ h1, Reps.ext t.nt e _ _ h2⟩
  · obtain ⟨vs, h1, h2⟩ := h
    refine ⟨vs, ?_, Reps.ext t.nt e _ _ h2⟩
    rcases h1 with ⟨kk, q1, q2, q3⟩ | ⟨kk, q1, q2, q3⟩
    · exact .inl ⟨kk, q1, q2, k _ q3⟩
    · exact .inr ⟨kk, q1, q2, k _ q3⟩
theorem SlRep.ext {o : Option (Option V)} {s : Sl} (t : NoTup U H) (e : Ex U H H') (h : SlRep K cad U H o s) : SlRep K cad U H' o s := by
  cases s with
  | un => exact h
  | im d => obtain ⟨v, h1, h2⟩ := h; exact ⟨v, h1, Rep.ext t.nt (e.ext.all U) _ _ h2⟩
  | ow d => obtain ⟨a, h1, h2, h3⟩ := h; exact ⟨a, h1, h2, Own.ext t (e.ext.all U) (fun o q => e.keep a o h2 q) h3⟩
theorem ERep.ext (R : ERep K cad U env σ H) (e : Ex U H H') : ERep K cad U env σ H' :=
  ⟨R.nt.ext e.ext, fun i s h => (R.sl i s h).ext R.nt e, R.dst, R.len⟩
end

/-! ### readings -/
structure LW where
  K : PySem.W.Frag
  cad : Nat → Addr
section
variable (L : LW) (W : WX)
abbrev OffAll (K : PySem.W.Frag) (H : Hp) : Prop := ∀ a, H a ≠ none → K.lookup a = none
def post (b : Bool) (U : List Addr) (σ : L2.St) (H : Hp) (r : R D) (Q : VK) : Prop := match r with
  | .ok d => ∀ H' v, Ex U H H' → RepM L.K L.cad b U H' d v → Q v H'
  | .exn c => ∀ H', Ex U H H' → W (.ref (L.cad c)) none σ H'
  | .bad => False
/-- an expression's reading -/
def tM (b : Bool) (r : Envd → R D) : TE := fun σ H Q => ∃ U env, ERep L.K L.cad U env σ H ∧ post L W b U σ H (r env) Q
def postT (U : List Addr) (σ : L2.St) (H : Hp) (r : R Bool) (Q : Bool → Hp → Prop) : Prop := match r with
  | .ok d => ∀ H', Ex U H H' → Q d H'
  | .exn c => ∀ H', Ex U H H' → W (.ref (L.cad c)) none σ H'
  | .bad => False
def tT (r : Envd → R Bool) : TT := fun σ H Q => ∃ U env, ERep L.K L.cad U env σ H ∧ postT L W U σ H (r env) Q
def postA (b : Bool) (U : List Addr) (σ : L2.St) (H : Hp) (r : R (List D)) (Q : List V → Hp → Prop) : Prop := match r with
  | .ok ds => ∀ H' vs, Ex U H H' → Paired (RepM L.K L.cad b U H') ds vs → Q vs H'
  | .exn c => ∀ H', Ex U H H' → W (.ref (L.cad c)) none σ H'
  | .bad => False
def tAs (b : Bool) (r : Envd → R (List D)) : TA := fun σ H Q => ∃ U env, ERep L.K L.cad U env σ H ∧ postA L W b U σ H (r env) Q
end
section
variable {X : Cx}
theorem offAll {pins : List (Addr × Obj)} {σ : L2.St} {H : Hp} {s : Shared} (I : Inv X pins σ H s) : OffAll X.K H := fun a h => by
  cases e : X.K.lookup a with
  | none => rfl
  | some o => exact absurd (I.bs a o (I.ok.mod.kin a o e)).2 h
theorem PE.by {e : Expr} {t t' : TE} (h : PE X e t) (w : ∀ σ H Q, OffAll X.K H → t' σ H Q → t σ H fun v H' => OffAll X.K H' → Q v H') : PE X e t' :=
  ⟨fun pins s σ H Q I q => thn (h.run pins s σ H _ I (w σ H Q (offAll I) q)) fun _ _ ⟨v, H', I', r, z⟩ => ⟨v, H', I', r, z (offAll I')⟩⟩
theorem PT.by {e : Expr} {t t' : TT} (h : PT X e t) (w : ∀ σ H Q, OffAll X.K H → t' σ H Q → t σ H fun v H' => OffAll X.K H' → Q v H') : PT X e t' :=
  ⟨fun pins s σ H Q I q => thn (h.run pins s σ H _ I (w σ H Q (offAll I) q)) fun _ _ ⟨H', I', z⟩ => ⟨H', I', z (offAll I')⟩⟩
theorem PA.by {e : List Expr} {t t' : TA} (h : PA X e t) (w : ∀ σ H Q, OffAll X.K H → t' σ H Q → t σ H fun v H' => OffAll X.K H' → Q v H') : PA X e t' :=
  ⟨fun pos pins s σ H Q I q => thn (h.run pos pins s σ H _ I (w σ H Q (offAll I) q)) fun _ _ ⟨vs, H', I', r, z⟩ => ⟨vs, H', I', r, z (offAll I')⟩⟩
theorem PS.by {e : Stmt} {t t' : TS} (h : PS X e t) (w : ∀ D σ H, OffAll X.K H → t' D σ H → t D σ H) : PS X e t' :=
  ⟨fun pins s σ H D I q => h.run pins s σ H D I (w D σ H (offAll I) q)⟩
theorem PSs.by {e : List Stmt} {t t' : TS} (h : PSs X e t) (w : ∀ D σ H, OffAll X.K H → t' D σ H → t D σ H) : PSs X e t' :=
  ⟨fun pins s σ H D I q => h.run pins s σ H D I (w D σ H (offAll I) q)⟩
end
section
variable {L : LW} {W : WX} {U : List Addr} {σ : L2.St} {H : Hp} {env : Envd}
theorem post_bind {b b' : Bool} {r : R D} {f : D → R D} {Q : VK} (h : post L W b' U σ H (r.bind f) Q) :
    post L W b U σ H r fun v H1 => ∃ d, r = .ok d ∧ Ex U H H1 ∧ RepM L.K L.cad b U H1 d v ∧ post L W b' U σ H1 (f d) Q := by
  cases r with
  | ok d =>
    intro H1 v e1 r1
    refine ⟨d, rfl, e1, r1, ?_⟩
    rw [R.bind_ok] at h
    cases q : f d with
    | ok d2 => rw [q] at h; exact fun H2 v2 e2 r2 => h H2 v2 (e1.trans e2) r2
    | exn c => rw [q] at h; exact fun H2 e2 => h H2 (e1.trans e2)
    | bad => rw [q] at h; exact h
  | exn c => exact h
  | bad => exact h
theorem post_imp {b : Bool} {r : R D} {Q Q' : VK} (h : post L W b U σ H r Q) (w : ∀ v H', Q v H' → Q' v H') : post L W b U σ H r Q' := by
  cases r with
  | ok d => exact fun H1 v e1 r1 => w _ _ (h H1 v e1 r1)
  | exn c => exact h
  | bad => exact h
/-- the general step: from an expression's datum on -/
theorem tM_bind {b b' : Bool} {ra : Envd → R D} {f : D → R D} {Q : VK} (E : ERep L.K L.cad U env σ H) (h : post L W b' U σ H ((ra env).bind f) Q)
    {Q' : VK} (w : ∀ d v H1, Ex U H H1 → ERep L.K L.cad U env σ H1 → RepM L.K L.cad b U H1 d v → post L W b' U σ H1 (f d) Q → Q' v H1) : tM L W b ra σ H Q' :=
  ⟨U, env, E, post_imp (post_bind (b := b) h) fun v H1 ⟨d, _, e1, r1, p⟩ => w d v H1 e1 (E.ext e1) r1 p⟩
end
end DL
namespace DL
open PySem PySem.Spec PyProof.Rows L2 

/-! ### operators over data -/
abbrev SZ : Nat := 16777216
theorem SZ_eq : sizeLine = SZ := by decide
mutual
def D.py : D → PyData
  | .non => .none | .bl b => .bool b | .int i => .int i | .str x => .str x
  | .tup xs => .tuple (D.pys xs) | .lst xs => .list (D.pys xs)
  | .ins _ _ _ => .dict [] | .dic _ _ => .dict [] | .scr _ => .dict []
def D.pys : List D → List PyData
  | [] => []
  | x :: xs => D.py x :: D.pys xs
end
def guard {α : Type} (b : Bool) (r : R α) : R α := match b with | true => r | false => .bad
@[simp] theorem guard_true {α : Type} (r : R α) : guard true r = r := Eq.trans rfl rfl
@[simp] theorem guard_false {α : Type} (r : R α) : guard false r = .bad := Eq.trans rfl rfl
theorem guard_of {α : Type} {b : Bool} {r : R α} (h : b = true) : guard b r = r := by rw [h]; rfl
def mulOk (i j : Int) : Bool := decide (i.natAbs < 2 ^ 64) || decide (j.natAbs < 2 ^ 64) || decide (i.natAbs.log2 + j.natAbs.log2 < 1000000)
def divOk (j : Int) : Bool := decide (j ≠ 0) && (decide (j.natAbs < 1073741824) || (decide (0 < j) && decide (j.natAbs.log2 < 9000)))
def powOk (i j : Int) : Bool := decide (0 ≤ j) && decide (j ≤ 1000000) && decide (i.natAbs < 2 ^ 64)
def opAdd : D → D → R D
  | .int i, .int j => .ok (.int (i + j))
  | .str x, .str y => guard (decide (x.length + y.length ≤ SZ)) (.ok (.str (x ++ y)))
  | .lst xs, .lst ys => guard (decide (xs.length + ys.length ≤ SZ)) (.ok (.lst (xs ++ ys)))
  | .tup xs, .tup ys => guard (decide (xs.length + ys.length ≤ SZ)) (.ok (.tup (xs ++ ys)))
  | _, _ => .bad
def opSub : D → D → R D
  | .int i, .int j => .ok (.int (i - j))
  | _, _ => .bad
def opMul : D → D → R D
  | .int i, .int j => guard (mulOk i j) (.ok (.int (i * j)))
  | .lst xs, .int k => guard (decide (0 ≤ k) && decide (k ≤ 1000) && decide (xs.length * k.toNat ≤ SZ)) (.ok (.lst (List.replicate k.toNat xs).flatten))
  | .tup xs, .int k => guard (decide (2 ≤ k) && decide (k ≤ 1000) && decide (xs ≠ []) && decide (xs.length ≤ 1000)) (.ok (.tup (List.replicate k.toNat xs).flatten))
  | _, _ => .bad
def opFdiv : D → D → R D
  | .int i, .int j => guard (divOk j) (.ok (.int (i.fdiv j)))
  | _, _ => .bad
def opMod : D → D → R D
  | .int i, .int j => guard (decide (j ≠ 0)) (.ok (.int (i.fmod j)))
  | _, _ => .bad
def opPow : D → D → R D
  | .int i, .int j => guard (powOk i j) (.ok (.int (i ^ j.toNat)))
  | _, _ => .bad
def D.flat : D → Bool
  | .non => true | .bl _ => true | .int _ => true | .str _ => true | _ => false
mutual
def D.isData : D → Bool
  | .non => true | .bl _ => true | .int _ => true | .str _ => true
  | .tup xs => D.areData xs | .lst xs => D.areData xs
  | _ => false
def D.areData : List D → Bool
  | [] => true
  | x :: xs => D.isData x && D.areData xs
end
def eqOk (x : D) : Bool := D.isData x && SeqAt.shaped x.py
def eqD (x y : D) : Bool := PyData.eqv x.py y.py
def opEq (x y : D) : R D := guard (eqOk x && eqOk y) (.ok (.bl (eqD x y)))
def opNe (x y : D) : R D := guard (eqOk x && eqOk y) (.ok (.bl (!eqD x y)))
def cmpI (p : Int → Int → Bool) : D → D → R D
  | .int i, .int j => .ok (.bl (p i j))
  | _, _ => .bad
def opLt : D → D → R D
  | .int i, .int j => .ok (.bl (decide (i < j)))
  | _, _ => .bad
def opLe : D → D → R D := cmpI fun i j => decide (i ≤ j)
def opGt : D → D → R D := cmpI fun i j => decide (j < i)
def opGe : D → D → R D := cmpI fun i j => decide (j ≤ i)
def opIs : D → D → R D
  | .bl a, .bl b => .ok (.bl (decide (a = b)))
  | .non, .non => .ok (.bl true)
  | .bl _, .non => .ok (.bl false) | .int _, .non => .ok (.bl false) | .str _, .non => .ok (.bl false)
  | .tup _, .non => .ok (.bl false) | .lst _, .non => .ok (.bl false) | .ins _ _ _, .non => .ok (.bl false) | .dic _ _, .non => .ok (.bl false) | .scr _, .non => .ok (.bl false)
  | _, _ => .bad
def D.items : D → Option (List D)
  | .tup xs => some xs | .lst xs => some xs | _ => none
def opIn (x y : D) : R D := match x, y with
  | .str a, .str b => .ok (.bl (!(Builtin.Str.occurrences b a 0 b.length 1).isEmpty))
  | x, .lst ys => guard (eqOk x && eqOk (.lst ys)) (.ok (.bl (ys.any fun y => eqD y x)))
  | x, .tup ys => guard (x.flat && ys.all D.flat) (.ok (.bl (ys.any fun y => eqD y x)))
  | _, _ => .bad
def R.not : R D → R D
  | .ok (.bl b) => .ok (.bl (!b))
  | .ok _ => .bad
  | .exn c => .exn c
  | .bad => .bad
def opIsNot (x y : D) : R D := (opIs x y).not
def opNotIn (x y : D) : R D := (opIn x y).not
def ixD (x y : D) : R D := match x, y with
  | .lst xs, .int i => match atI xs i with | some d => .ok d | none => .bad
  | .tup xs, .int i => match atI xs i with | some d => .ok d | none => .bad
  | .scr xs, .int i => match atI xs i with | some d => .ok d | none => .bad
  | .str x, .int i => match atI x.cps.toList i with | some c => guard (decide (x.length ≤ SZ)) (.ok (.str ⟨#[c]⟩)) | none => .bad
  | _, _ => .bad
def negD : D → R D
  | .int i => .ok (.int (-i))
  | _ => .bad
def cutD (xs : List D) (lo hi : Option Int) : List D := (xs.drop (HT.sIx xs.length 0 lo)).take (HT.sIx xs.length xs.length hi - HT.sIx xs.length 0 lo)
def slD (x : D) (lo hi : Option Int) : R D := match x with
  | .lst xs => .ok (.lst (cutD xs lo hi))
  | .scr xs => .ok (.lst (cutD xs lo hi))
  | .tup xs => .ok (.tup (cutD xs lo hi))
  | _ => .bad

/-! ### their readings -/
section
variable (K : PySem.W.Frag) (cad : Nat → Addr)
def postV (U : List Addr) (H : Hp) (r : R D) (Q : VK) : Prop := match r with
  | .ok d => ∀ H' v, Ex U H H' → Rep K cad U H' d v → Q v H'
  | _ => False
def rD2 (f : D → D → R D) : R2 := fun x y H Q => ∃ U d e, NoTup U H ∧ RepB K cad U H d x ∧ RepB K cad U H e y ∧ postV K cad U H (f d e) Q
end
section
variable {X : Cx} {cad : Nat → Addr}
theorem OpR.or {f : Value → Value → Sem Value} {r r' : R2} (h : OpR X f r) (h' : OpR X f r') : OpR X f fun x y H Q => r x y H Q ∨ r' x y H Q :=
  fun pins s σ H x y v u Q I rx ry q => q.elim (h pins s σ H x y v u Q I rx ry) (h' pins s σ H x y v u Q I rx ry)
theorem OpR.by {f : Value → Value → Sem Value} {r r' : R2} (h : OpR X f r) (w : ∀ x y H Q, r' x y H Q → r x y H Q) : OpR X f r' :=
  fun pins s σ H x y v u Q I rx ry q => h pins s σ H x y v u Q I rx ry (w x y H Q q)
theorem postV.guard {K : PySem.W.Frag} {U : List Addr} {H : Hp} {b : Bool} {r : R D} {Q : VK} (h : postV K cad U H (guard b r) Q) : b = true ∧ postV K cad U H r Q := by
  cases b with
  | true => exact ⟨rfl, h⟩
  | false => exact False.elim h
theorem postV.now {K : PySem.W.Frag} {U : List Addr} {H : Hp} {d : D} {Q : VK} (h : postV K cad U H (.ok d) Q) {v : V} (r : Rep K cad U H d v) : Q v H := h H v (Ex.refl _ _) r
theorem Reps.length {K : PySem.W.Frag} {U : List Addr} {H : Hp} : ∀ {ds : List D} {vs : List V}, Reps K cad U H ds vs → ds.length = vs.length
  | [], vs, h => by simp only [Reps] at h; rw [h]; rfl
  | d :: ds, vs, h => by
    simp only [Reps] at h
    obtain ⟨v, r, h1, h2, h3⟩ := h
    rw [h1, List.length_cons, List.length_cons, Reps.length h3]
theorem Reps.append {K : PySem.W.Frag} {U : List Addr} {H : Hp} : ∀ {ds es : List D} {vs ws : List V}, Reps K cad U H ds vs → Reps K cad U H es ws → Reps K cad U H (ds ++ es) (vs ++ ws)
  | [], es, vs, ws, h, k => by simp only [Reps] at h; rw [h]; exact k
  | d :: ds, es, vs, ws, h, k => by
    simp only [Reps, List.cons_append] at h ⊢
    obtain ⟨v, r, h1, h2, h3⟩ := h
    exact ⟨v, r ++ ws, by rw [h1]; rfl, h2, Reps.append h3 k⟩
theorem Reps.rep {K : PySem.W.Frag} {U : List Addr} {H : Hp} {ds : List D} {vs : List V} (h : Reps K cad U H ds vs) : ∀ k : Nat, Reps K cad U H (List.replicate k ds).flatten (List.replicate k vs).flatten
  | 0 => by simp [Reps]
  | k + 1 => by rw [List.replicate_succ, List.replicate_succ, List.flatten_cons, List.flatten_cons]; exact Reps.append h (Reps.rep h k)
theorem Reps.get {K : PySem.W.Frag} {U : List Addr} {H : Hp} : ∀ {ds : List D} {vs : List V} {i : Nat} {d : D}, Reps K cad U H ds vs → ds[i]? = some d → ∃ v, vs[i]? = some v ∧ Rep K cad U H d v
  | [], vs, i, d, h, e => by simp at e
  | x :: ds, vs, 0, d, h, e => by
    simp only [Reps] at h
    obtain ⟨v, r, h1, h2, h3⟩ := h
    simp at e; subst e
    exact ⟨v, by rw [h1]; rfl, h2⟩
  | x :: ds, vs, i + 1, d, h, e => by
    simp only [Reps] at h
    obtain ⟨v, r, h1, h2, h3⟩ := h
    obtain ⟨w, q1, q2⟩ := Reps.get (i := i) h3 (by simpa using e)
    exact ⟨w, by rw [h1]; simpa using q1, q2⟩
theorem Reps.getV {K : PySem.W.Frag} {U : List Addr} {H : Hp} : ∀ {ds : List D} {vs : List V} {i : Nat} {v : V}, Reps K cad U H ds vs → vs[i]? = some v → ∃ d, ds[i]? = some d ∧ Rep K cad U H d v
  | [], vs, i, d, h, e => by simp only [Reps] at h; rw [h] at e; simp at e
  | x :: ds, vs, 0, v, h, e => by
    simp only [Reps] at h
    obtain ⟨w, r, h1, h2, h3⟩ := h
    rw [h1] at e; simp at e; subst e
    exact ⟨x, rfl, h2⟩
  | x :: ds, vs, i + 1, v, h, e => by
    simp only [Reps] at h
    obtain ⟨w, r, h1, h2, h3⟩ := h
    rw [h1] at e
    obtain ⟨d, q1, q2⟩ := Reps.getV (i := i) h3 (by simpa using e)
    exact ⟨d, by simpa using q1, q2⟩
theorem Reps.take {K : PySem.W.Frag} {U : List Addr} {H : Hp} : ∀ {ds : List D} {vs : List V} (n : Nat), Reps K cad U H ds vs → Reps K cad U H (ds.take n) (vs.take n)
  | _, _, 0, _ => by simp [Reps]
  | [], vs, n + 1, h => by simp only [Reps] at h; rw [h]; simp [Reps]
  | x :: ds, vs, n + 1, h => by
    simp only [Reps] at h
    obtain ⟨w, r, h1, h2, h3⟩ := h
    rw [h1, List.take_succ_cons, List.take_succ_cons]
    simp only [Reps]
    exact ⟨w, _, rfl, h2, Reps.take n h3⟩
theorem Reps.drop {K : PySem.W.Frag} {U : List Addr} {H : Hp} : ∀ {ds : List D} {vs : List V} (n : Nat), Reps K cad U H ds vs → Reps K cad U H (ds.drop n) (vs.drop n)
  | _, _, 0, h => by simpa using h
  | [], vs, n + 1, h => by simp only [Reps] at h; rw [h]; simp [Reps]
  | x :: ds, vs, n + 1, h => by
    simp only [Reps] at h
    obtain ⟨w, r, h1, h2, h3⟩ := h
    rw [h1, List.drop_succ_cons, List.drop_succ_cons]
    exact Reps.drop n h3
theorem Reps.cut {K : PySem.W.Frag} {U : List Addr} {H : Hp} {ds : List D} {vs : List V} (h : Reps K cad U H ds vs) (lo hi : Option Int) : Reps K cad U H (cutD ds lo hi) (cutV vs lo hi) := by
  unfold cutD cutV
  rw [h.length]
  exact Reps.take _ (Reps.drop _ h)
theorem Reps.atI {K : PySem.W.Frag} {U : List Addr} {H : Hp} {ds : List D} {vs : List V} {i : Int} {d : D} (h : Reps K cad U H ds vs) (e : L2.atI ds i = some d) : ∃ v, L2.atI vs i = some v ∧ Rep K cad U H d v := by
  unfold L2.atI at e ⊢
  rw [← h.length]
  cases q : ixN ds.length i with
  | none => rw [q] at e; cases e
  | some j =>
    rw [q] at e
    exact h.get (show ds[j]? = some d from e)
/-- a datum's own value, by cases -/
theorem repB_int {K : PySem.W.Frag} {U : List Addr} {H : Hp} {i : Int} {v : V} (h : RepB K cad U H (.int i) v) : v = .int i := by simpa [RepB, Rep] using h
theorem repB_str {K : PySem.W.Frag} {U : List Addr} {H : Hp} {i : Str} {v : V} (h : RepB K cad U H (.str i) v) : v = .str i := by simpa [RepB, Rep] using h
theorem repB_bl {K : PySem.W.Frag} {U : List Addr} {H : Hp} {i : Bool} {v : V} (h : RepB K cad U H (.bl i) v) : v = .bl i := by simpa [RepB, Rep] using h
theorem repB_non {K : PySem.W.Frag} {U : List Addr} {H : Hp} {v : V} (h : RepB K cad U H .non v) : v = .non := by simpa [RepB, Rep] using h
theorem repB_lst {K : PySem.W.Frag} {U : List Addr} {H : Hp} {xs : List D} {v : V} (h : RepB K cad U H (.lst xs) v) : ∃ a vs, v = .ref a ∧ H a = some (.lst vs) ∧ Reps K cad U H xs vs := by simpa [RepB] using h
theorem repB_tup {K : PySem.W.Frag} {U : List Addr} {H : Hp} {xs : List D} {v : V} (h : RepB K cad U H (.tup xs) v) : ∃ a vs, v = .ref a ∧ SqT K H a vs ∧ Reps K cad U H xs vs := by simpa [RepB, Rep] using h
theorem repB_scr {K : PySem.W.Frag} {U : List Addr} {H : Hp} {xs : List D} {v : V} (h : RepB K cad U H (.scr xs) v) : ∃ a vs, v = .ref a ∧ a ∉ U ∧ SqL K H a vs ∧ Reps K cad U H xs vs := by simpa [RepB, Rep] using h
theorem rep_int {K : PySem.W.Frag} {U : List Addr} {H : Hp} (i : Int) : Rep K cad U H (.int i) (.int i) := by simp [Rep]
theorem rep_str {K : PySem.W.Frag} {U : List Addr} {H : Hp} (i : Str) : Rep K cad U H (.str i) (.str i) := by simp [Rep]
theorem rep_bl {K : PySem.W.Frag} {U : List Addr} {H : Hp} (i : Bool) : Rep K cad U H (.bl i) (.bl i) := by simp [Rep]
theorem rep_non {K : PySem.W.Frag} {U : List Addr} {H : Hp} : Rep K cad U H .non .non := by simp [Rep]
/-- a new list, a new tuple -/
theorem postV.newL {K : PySem.W.Frag} {U : List Addr} {H : Hp} {xs : List D} {vs : List V} {Q : VK} (t : NoTup U H) (h : postV K cad U H (.ok (.lst xs)) Q) (r : Reps K cad U H xs vs) {p : Addr} (hp : H p = none) : Q (.ref p) (upd H p (.lst vs)) := by
  refine h _ _ (Ex.new hp) ?_
  simp only [Rep]
  exact ⟨p, vs, rfl, t.notNew (.of hp), upd_same, Reps.ext t.nt ((Ext.new hp).all U) _ _ r⟩
theorem postV.newT {K : PySem.W.Frag} {U : List Addr} {H : Hp} {xs : List D} {vs : List V} {Q : VK} (t : NoTup U H) (h : postV K cad U H (.ok (.tup xs)) Q) (r : Reps K cad U H xs vs) {p : Addr} (hp : H p = none) : Q (.ref p) (upd H p (.tup vs)) := by
  refine h _ _ (Ex.new hp) ?_
  simp only [Rep]
  exact ⟨p, vs, rfl, SqT.of upd_same, Reps.ext t.nt ((Ext.new hp).all U) _ _ r⟩
theorem rep_tup {K : PySem.W.Frag} {U : List Addr} {H : Hp} {xs : List D} {vs : List V} {a : Addr} (h : SqT K H a vs) (r : Reps K cad U H xs vs) : Rep K cad U H (.tup xs) (.ref a) := by
  simp only [Rep]; exact ⟨a, vs, rfl, h, r⟩

theorem opr_add : OpR X (binaryOp .Add) (rD2 X.K cad opAdd) := by
  refine OpR.by (OpR.or op_add (OpR.or op_add_str (OpR.or op_cat op_catA))) ?_
  rintro x y H Q ⟨U, d, e, t, rx, ry, h⟩
  cases d <;> cases e <;> simp only [opAdd] at h <;> try exact False.elim h
  · rw [repB_int rx, repB_int ry]; exact .inl ⟨_, _, rfl, rfl, h.now (rep_int _)⟩
  · rw [repB_str rx, repB_str ry]
    obtain ⟨g, h⟩ := h.guard
    exact .inr (.inl ⟨_, _, rfl, rfl, by rw [SZ_eq]; exact of_decide_eq_true g, h.now (rep_str _)⟩)
  · obtain ⟨g, h⟩ := h.guard
    obtain ⟨a, vs, rfl, q1, q2⟩ := repB_tup rx
    obtain ⟨b, ws, rfl, p1, p2⟩ := repB_tup ry
    have g := of_decide_eq_true g
    refine .inr (.inr (.inr ⟨a, b, vs, ws, rfl, rfl, q1, p1, by rw [SZ_eq, ← q2.length, ← p2.length]; exact g, fun z => ?_, fun _ z => ?_, fun _ _ p hp => h.newT t (Reps.append q2 p2) hp⟩))
    · subst z
      refine h.now (rep_tup p1 ?_)
      have := q2.length
      have e : _ = [] := List.eq_nil_of_length_eq_zero this
      rw [e]; exact p2
    · subst z
      refine h.now (rep_tup q1 ?_)
      have := p2.length
      have e : _ = [] := List.eq_nil_of_length_eq_zero this
      rw [e, List.append_nil]; exact q2
  · obtain ⟨g, h⟩ := h.guard
    obtain ⟨a, vs, rfl, q1, q2⟩ := repB_lst rx
    obtain ⟨b, ws, rfl, p1, p2⟩ := repB_lst ry
    have g := of_decide_eq_true g
    exact .inr (.inr (.inl ⟨a, b, vs, ws, rfl, rfl, q1, p1, by rw [SZ_eq, ← q2.length, ← p2.length]; exact g, fun p hp => h.newL t (Reps.append q2 p2) hp⟩))
theorem opr_sub : OpR X (binaryOp .Sub) (rD2 X.K cad opSub) := by
  refine OpR.by op_sub ?_
  rintro x y H Q ⟨U, d, e, t, rx, ry, h⟩
  cases d <;> cases e <;> simp only [opSub] at h <;> try exact False.elim h
  rw [repB_int rx, repB_int ry]; exact ⟨_, _, rfl, rfl, h.now (rep_int _)⟩
theorem natAbs64 {i : Int} (h : i.natAbs < 2 ^ 64) : -(2 ^ 64) < i ∧ i < 2 ^ 64 := by omega
theorem opr_mul : OpR X (binaryOp .Mult) (rD2 X.K cad opMul) := by
  refine OpR.by (OpR.or op_mul (OpR.or op_mulW (OpR.or op_rep op_repT))) ?_
  rintro x y H Q ⟨U, d, e, t, rx, ry, h⟩
  cases d <;> cases e <;> simp only [opMul] at h <;> try exact False.elim h
  · rw [repB_int rx, repB_int ry]
    obtain ⟨g, h⟩ := h.guard
    have q := h.now (rep_int _)
    simp only [mulOk, Bool.or_eq_true, decide_eq_true_eq] at g
    rcases g with (g | g) | g
    · exact .inl ⟨_, _, rfl, rfl, .inl (natAbs64 g), q⟩
    · exact .inl ⟨_, _, rfl, rfl, .inr (natAbs64 g), q⟩
    · exact .inr (.inl ⟨_, _, rfl, rfl, g, q⟩)
  · rw [repB_int ry]
    obtain ⟨g, h⟩ := h.guard
    obtain ⟨a, vs, rfl, q1, q2⟩ := repB_tup rx
    simp only [Bool.and_eq_true, decide_eq_true_eq] at g
    obtain ⟨⟨⟨g1, g2⟩, g3⟩, g4⟩ := g
    refine .inr (.inr (.inr ⟨a, _, vs, rfl, rfl, q1, fun z => g3 ?_, g1, g2, by rw [← q2.length]; exact g4, fun p hp => h.newT t (Reps.rep q2 _) hp⟩))
    subst z
    exact List.eq_nil_of_length_eq_zero q2.length
  · rw [repB_int ry]
    obtain ⟨g, h⟩ := h.guard
    obtain ⟨a, vs, rfl, q1, q2⟩ := repB_lst rx
    simp only [Bool.and_eq_true, decide_eq_true_eq] at g
    obtain ⟨⟨g1, g2⟩, g3⟩ := g
    exact .inr (.inr (.inl ⟨a, _, vs, rfl, rfl, q1, by omega, by omega, by rw [SZ_eq, ← q2.length]; exact g3, fun p hp => h.newL t (Reps.rep q2 _) hp⟩))
theorem opr_fdiv : OpR X (binaryOp .FloorDiv) (rD2 X.K cad opFdiv) := by
  refine OpR.by (OpR.or op_fdivN op_fdivW) ?_
  rintro x y H Q ⟨U, d, e, t, rx, ry, h⟩
  cases d <;> cases e <;> simp only [opFdiv] at h <;> try exact False.elim h
  rw [repB_int rx, repB_int ry]
  obtain ⟨g, h⟩ := h.guard
  have q := h.now (rep_int _)
  simp only [divOk, Bool.or_eq_true, Bool.and_eq_true, decide_eq_true_eq] at g
  obtain ⟨g0, g | ⟨g1, g2⟩⟩ := g
  · exact .inl ⟨_, _, rfl, rfl, ⟨g0, g⟩, q⟩
  · refine .inr ⟨_, _, rfl, rfl, ⟨g1, g2⟩, ?_⟩
    show Q (V.int (_ / _)) H
    rw [← Int.fdiv_eq_ediv_of_nonneg _ (show 0 ≤ _ from Int.le_of_lt g1)]; exact q
theorem opr_mod : OpR X (binaryOp .Mod) (rD2 X.K cad opMod) := by
  refine OpR.by op_modN ?_
  rintro x y H Q ⟨U, d, e, t, rx, ry, h⟩
  cases d <;> cases e <;> simp only [opMod] at h <;> try exact False.elim h
  rw [repB_int rx, repB_int ry]
  obtain ⟨g, h⟩ := h.guard
  exact ⟨_, _, rfl, rfl, of_decide_eq_true g, h.now (rep_int _)⟩
theorem opr_pow : OpR X (binaryOp .Pow) (rD2 X.K cad opPow) := by
  refine OpR.by op_pow ?_
  rintro x y H Q ⟨U, d, e, t, rx, ry, h⟩
  cases d <;> cases e <;> simp only [opPow] at h <;> try exact False.elim h
  rw [repB_int rx, repB_int ry]
  obtain ⟨g, h⟩ := h.guard
  simp only [powOk, Bool.and_eq_true, decide_eq_true_eq] at g
  exact ⟨_, _, rfl, rfl, ⟨g.1.1, g.1.2, g.2⟩, h.now (rep_int _)⟩
/-! equality -/
mutual
theorem dp_of {K : PySem.W.Frag} {U : List Addr} {H : Hp} : ∀ (d : D) (v : V), D.isData d = true → Rep K cad U H d v → Dp K H v d.py
  | .non, v, _, h => by simp only [Rep] at h; subst h; exact .non
  | .bl b, v, _, h => by simp only [Rep] at h; subst h; exact .bl b
  | .int i, v, _, h => by simp only [Rep] at h; subst h; exact .int i
  | .str x, v, _, h => by simp only [Rep] at h; subst h; exact .str x
  | .tup xs, v, p, h => by
    simp only [Rep] at h
    obtain ⟨a, vs, rfl, h1, h2⟩ := h
    exact .tup h1 (dps_of xs vs (by simpa [D.isData] using p) h2)
  | .lst xs, v, p, h => by
    simp only [Rep] at h
    obtain ⟨a, vs, rfl, _, h1, h2⟩ := h
    exact .lst (SqL.of h1) (dps_of xs vs (by simpa [D.isData] using p) h2)
  | .ins c ns vs, v, p, h => by simp [D.isData] at p
  | .dic ks vs, v, p, h => by simp [D.isData] at p
  | .scr vs, v, p, h => by simp [D.isData] at p
theorem dps_of {K : PySem.W.Frag} {U : List Addr} {H : Hp} : ∀ (ds : List D) (vs : List V), D.areData ds = true → Reps K cad U H ds vs → DpAll K H vs (D.pys ds)
  | [], vs, _, h => by simp only [Reps] at h; subst h; exact .nil
  | d :: ds, vs, p, h => by
    simp only [Reps] at h
    obtain ⟨v, r, rfl, h1, h2⟩ := h
    have p' : D.isData d = true ∧ D.areData ds = true := by simpa [D.areData] using p
    exact .cons (dp_of d v p'.1 h1) (dps_of ds r p'.2 h2)
end
theorem dpB_of {K : PySem.W.Frag} {U : List Addr} {H : Hp} {d : D} {v : V} (p : D.isData d = true) (h : RepB K cad U H d v) : Dp K H v d.py := by
  cases d with
  | lst xs =>
    obtain ⟨a, vs, rfl, h1, h2⟩ := repB_lst h
    exact .lst (SqL.of h1) (dps_of xs vs (by simpa [D.isData] using p) h2)
  | dic ks vs => simp [D.isData] at p
  | _ => exact dp_of (U := U) (cad := cad) _ _ p (by simpa [RepB] using h)
theorem eqOk_and {x y : D} (h : (eqOk x && eqOk y) = true) : (D.isData x = true ∧ SeqAt.shaped x.py = true) ∧ (D.isData y = true ∧ SeqAt.shaped y.py = true) := by
  simpa [eqOk, Bool.and_eq_true] using h
theorem opr_eq (hu : X.A.units + 64 < cLine) : OpR X (compareOp .Eq) (rD2 X.K cad opEq) := by
  refine OpR.by (op_eqD hu) ?_
  rintro x y H Q ⟨U, d, e, t, rx, ry, h⟩
  obtain ⟨g, h⟩ := h.guard
  obtain ⟨⟨g1, g2⟩, g3, g4⟩ := eqOk_and g
  exact ⟨_, _, dpB_of g1 rx, dpB_of g3 ry, g2, g4, h.now (rep_bl _)⟩
theorem opr_ne (hu : X.A.units + 64 < cLine) : OpR X (compareOp .NotEq) (rD2 X.K cad opNe) := by
  refine OpR.by (op_neD hu) ?_
  rintro x y H Q ⟨U, d, e, t, rx, ry, h⟩
  obtain ⟨g, h⟩ := h.guard
  obtain ⟨⟨g1, g2⟩, g3, g4⟩ := eqOk_and g
  exact ⟨_, _, dpB_of g1 rx, dpB_of g3 ry, g2, g4, h.now (rep_bl _)⟩
theorem opr_lt : OpR X (compareOp .Lt) (rD2 X.K cad opLt) := by
  refine OpR.by op_lt ?_
  rintro x y H Q ⟨U, d, e, t, rx, ry, h⟩
  cases d <;> cases e <;> simp only [opLt] at h <;> try exact False.elim h
  rw [repB_int rx, repB_int ry]; exact ⟨_, _, rfl, rfl, h.now (rep_bl _)⟩
theorem opr_le : OpR X (compareOp .LtE) (rD2 X.K cad opLe) := by
  refine OpR.by op_le ?_
  rintro x y H Q ⟨U, d, e, t, rx, ry, h⟩
  cases d <;> cases e <;> simp only [opLe, cmpI] at h <;> try exact False.elim h
  rw [repB_int rx, repB_int ry]; exact ⟨_, _, rfl, rfl, h.now (rep_bl _)⟩
theorem opr_gt : OpR X (compareOp .Gt) (rD2 X.K cad opGt) := by
  refine OpR.by op_gt ?_
  rintro x y H Q ⟨U, d, e, t, rx, ry, h⟩
  cases d <;> cases e <;> simp only [opGt, cmpI] at h <;> try exact False.elim h
  rw [repB_int rx, repB_int ry]; exact ⟨_, _, rfl, rfl, h.now (rep_bl _)⟩
theorem opr_ge : OpR X (compareOp .GtE) (rD2 X.K cad opGe) := by
  refine OpR.by op_ge ?_
  rintro x y H Q ⟨U, d, e, t, rx, ry, h⟩
  cases d <;> cases e <;> simp only [opGe, cmpI] at h <;> try exact False.elim h
  rw [repB_int rx, repB_int ry]; exact ⟨_, _, rfl, rfl, h.now (rep_bl _)⟩
theorem repB_notNone {K : PySem.W.Frag} {U : List Addr} {H : Hp} {d : D} {v : V} (h : RepB K cad U H d v) (n : d ≠ .non) : decide (v = .non) = false := by
  cases d with
  | non => exact absurd rfl n
  | bl b => rw [repB_bl h]; rfl
  | int b => rw [repB_int h]; rfl
  | str b => rw [repB_str h]; rfl
  | tup xs => obtain ⟨a, vs, rfl, _⟩ := repB_tup h; rfl
  | lst xs => obtain ⟨a, vs, rfl, _⟩ := repB_lst h; rfl
  | scr xs => obtain ⟨a, vs, rfl, _⟩ := repB_scr h; rfl
  | ins c ns vs => simp only [RepB, Rep] at h; obtain ⟨a, dx, vs, rfl, _⟩ := h; rfl
  | dic c ns => simp only [RepB] at h; obtain ⟨a, vs, rfl, _⟩ := h; rfl
theorem opr_is : OpR X (compareOp .Is) (rD2 X.K cad opIs) := by
  refine OpR.by (OpR.or op_isBl op_isN) ?_
  rintro x y H Q ⟨U, d, e, t, rx, ry, h⟩
  cases e <;> first
    | (rename_i b
       cases d <;> simp only [opIs] at h <;> first | exact False.elim h | skip
       rw [repB_bl rx, repB_bl ry]; exact .inl ⟨_, _, rfl, rfl, h.now (rep_bl _)⟩)
    | (rw [repB_non ry]
       refine .inr ⟨rfl, ?_⟩
       by_cases n : d = .non
       · subst n
         rw [repB_non rx]
         simp only [opIs] at h
         exact h.now (rep_bl _)
       · rw [repB_notNone rx n]
         cases d <;> simp only [opIs] at h <;> first | exact absurd rfl n | exact h.now (rep_bl _))
    | (cases d <;> simp only [opIs] at h <;> exact False.elim h)

theorem postV.not {K : PySem.W.Frag} {U : List Addr} {H : Hp} {r : R D} {Q : VK} (h : postV K cad U H r.not Q) : ∃ b, r = .ok (.bl b) ∧ Q (.bl (!b)) H := by
  cases r with
  | ok d => cases d <;> simp only [R.not] at h <;> first | exact False.elim h | exact ⟨_, rfl, h.now (rep_bl _)⟩
  | exn c => exact False.elim h
  | bad => exact False.elim h
theorem opr_isnot : OpR X (compareOp .IsNot) (rD2 X.K cad opIsNot) := by
  refine OpR.by (OpR.or op_notBl op_notN) ?_
  rintro x y H Q ⟨U, d, e, t, rx, ry, h⟩
  obtain ⟨b, hb, q⟩ := postV.not h
  cases e <;> first
    | (rename_i b'
       cases d <;> simp only [opIs] at hb <;> first | (cases hb; done) | skip
       rw [repB_bl rx, repB_bl ry]
       cases hb
       exact .inl ⟨_, _, rfl, rfl, q⟩)
    | (rw [repB_non ry]
       refine .inr ⟨rfl, ?_⟩
       by_cases n : d = .non
       · subst n
         rw [repB_non rx]
         simp only [opIs] at hb
         cases hb
         exact q
       · rw [repB_notNone rx n]
         cases d <;> simp only [opIs] at hb <;> first | exact absurd rfl n | (cases hb; exact q))
    | (cases d <;> simp only [opIs] at hb <;> (cases hb; done))
theorem flat_dp {K : PySem.W.Frag} {U : List Addr} {H : Hp} {d : D} {v : V} (f : d.flat = true) (h : RepB K cad U H d v) : flatV v = true := by
  cases d <;> simp only [D.flat] at f <;> first | (cases f; done) | skip
  · rw [repB_non h]; rfl
  · rw [repB_bl h]; rfl
  · rw [repB_int h]; rfl
  · rw [repB_str h]; rfl
theorem eqV_D {K : PySem.W.Frag} {U : List Addr} {H : Hp} {d e : D} {v u : V} (f : d.flat = true) (g : e.flat = true) (h : RepB K cad U H d v) (k : RepB K cad U H e u) : eqV v u = eqD d e := by
  cases d <;> simp only [D.flat] at f <;> first | (cases f; done) | skip
  all_goals cases e <;> simp only [D.flat] at g <;> first | (cases g; done) | skip
  all_goals first | rw [repB_non h] | rw [repB_bl h] | rw [repB_int h] | rw [repB_str h]
  all_goals first | rw [repB_non k] | rw [repB_bl k] | rw [repB_int k] | rw [repB_str k]
  all_goals simp [eqV, eqD, D.py, PyData.eqv]
theorem all_flat {K : PySem.W.Frag} {U : List Addr} {H : Hp} : ∀ {ds : List D} {vs : List V}, ds.all D.flat = true → Reps K cad U H ds vs → vs.all flatV = true
  | [], vs, _, h => by simp only [Reps] at h; rw [h]; rfl
  | d :: ds, vs, f, h => by
    simp only [Reps] at h
    obtain ⟨v, r, rfl, h1, h2⟩ := h
    rw [List.all_cons, Bool.and_eq_true] at f
    rw [List.all_cons, Bool.and_eq_true]
    exact ⟨flat_dp f.1 h1.toB, all_flat f.2 h2⟩
theorem inV_D {K : PySem.W.Frag} {U : List Addr} {H : Hp} {e : D} {u : V} (g : e.flat = true) (k : RepB K cad U H e u) : ∀ {ds : List D} {vs : List V}, ds.all D.flat = true → Reps K cad U H ds vs → inV u vs = ds.any fun y => eqD y e
  | [], vs, _, h => by simp only [Reps] at h; rw [h]; rfl
  | d :: ds, vs, f, h => by
    simp only [Reps] at h
    obtain ⟨v, r, rfl, h1, h2⟩ := h
    rw [List.all_cons, Bool.and_eq_true] at f
    have ih := inV_D g k f.2 h2
    unfold inV at ih ⊢
    rw [List.any_cons, List.any_cons, ih, eqV_D f.1 g h1.toB k]
theorem pys_map : ∀ ds : List D, D.pys ds = ds.map D.py
  | [] => by simp [D.pys]
  | d :: ds => by simp [D.pys, pys_map ds]
theorem any_py (ds : List D) (x : D) : (D.pys ds).any (fun z => PyData.eqv z x.py) = ds.any fun y => eqD y x := by
  rw [pys_map, List.any_map]; rfl
theorem in_shape {x y : D} {b : Bool} (h : opIn x y = .ok (.bl b)) :
    (∃ p q, x = .str p ∧ y = .str q ∧ b = (!(Builtin.Str.occurrences q p 0 q.length 1).isEmpty)) ∨
    (∃ ys, y = .lst ys ∧ (eqOk x && eqOk (.lst ys)) = true ∧ b = ys.any fun z => eqD z x) ∨
    (∃ ys, y = .tup ys ∧ (x.flat && ys.all D.flat) = true ∧ b = ys.any fun z => eqD z x) := by
  have gd : ∀ {c : Bool} {r : R D} {z : D}, guard c r = .ok z → c = true ∧ r = .ok z := fun {c r z} h => by
    cases c with
    | true => exact ⟨rfl, h⟩
    | false => cases h
  cases y <;> cases x <;> simp only [opIn] at h <;> first
    | (cases h; done)
    | (cases h; exact .inl ⟨_, _, rfl, rfl, rfl⟩)
    | (obtain ⟨g, h⟩ := gd h; cases h; exact .inr (.inl ⟨_, rfl, g, rfl⟩))
    | (obtain ⟨g, h⟩ := gd h; cases h; exact .inr (.inr ⟨_, rfl, g, rfl⟩))
theorem opIn_only {x y : D} : (∃ b, opIn x y = .ok (.bl b)) ∨ opIn x y = .bad := by
  have gd : ∀ {c : Bool} {b : Bool}, (∃ b', guard c (R.ok (D.bl b)) = .ok (.bl b')) ∨ guard c (R.ok (D.bl b)) = .bad := fun {c b} => by
    cases c with
    | true => exact .inl ⟨_, rfl⟩
    | false => exact .inr rfl
  cases y <;> cases x <;> simp only [opIn] <;> first | exact gd | exact .inr rfl | exact .inl ⟨_, rfl⟩ | exact .inr trivial | simp
theorem opr_in (hu : X.A.units + 65 < cLine) : OpR X (compareOp .In) (rD2 X.K cad opIn) := by
  refine OpR.by (OpR.or op_in_str (OpR.or (op_inD hu) op_in_seq)) ?_
  rintro x y H Q ⟨U, d, e, t, rx, ry, h⟩
  rcases opIn_only (x := d) (y := e) with ⟨b, hb⟩ | hb
  · rw [hb] at h
    have q := h.now (rep_bl _)
    rcases in_shape hb with ⟨p, z, rfl, rfl, rfl⟩ | ⟨ys, rfl, g, rfl⟩ | ⟨ys, rfl, g, rfl⟩
    · rw [repB_str rx, repB_str ry]; exact .inl ⟨_, _, rfl, rfl, q⟩
    · obtain ⟨⟨g1, g2⟩, g3, g4⟩ := eqOk_and g
      exact .inr (.inl ⟨d.py, D.pys ys, dpB_of g1 rx, dpB_of g3 ry, g2, g4, by rw [any_py]; exact q⟩)
    · rw [Bool.and_eq_true] at g
      obtain ⟨a, vs, rfl, q1, q2⟩ := repB_tup ry
      exact .inr (.inr ⟨a, vs, rfl, .inr q1, flat_dp g.1 rx, all_flat g.2 q2, by rw [if_neg (by simp), inV_D g.1 rx g.2 q2]; exact q⟩)
  · rw [hb] at h; exact False.elim h
theorem opr_notIn (hu : X.A.units + 65 < cLine) : OpR X (compareOp .NotIn) (rD2 X.K cad opNotIn) := by
  refine OpR.by (OpR.or op_notIn_str (OpR.or (op_notInD hu) op_notIn_seq)) ?_
  rintro x y H Q ⟨U, d, e, t, rx, ry, h⟩
  obtain ⟨b, hb, q⟩ := postV.not h
  rcases in_shape hb with ⟨p, z, rfl, rfl, rfl⟩ | ⟨ys, rfl, g, rfl⟩ | ⟨ys, rfl, g, rfl⟩
  · rw [repB_str rx, repB_str ry]; exact .inl ⟨_, _, rfl, rfl, q⟩
  · obtain ⟨⟨g1, g2⟩, g3, g4⟩ := eqOk_and g
    exact .inr (.inl ⟨d.py, D.pys ys, dpB_of g1 rx, dpB_of g3 ry, g2, g4, by rw [any_py]; exact q⟩)
  · rw [Bool.and_eq_true] at g
    obtain ⟨a, vs, rfl, q1, q2⟩ := repB_tup ry
    exact .inr (.inr ⟨a, vs, rfl, .inr q1, flat_dp g.1 rx, all_flat g.2 q2, by rw [if_pos rfl, inV_D g.1 rx g.2 q2]; exact q⟩)
/-! subscripts, slices -/
theorem ixr : IxR X (rD2 X.K cad ixD) := by
  refine fun value slice pins s σ H x y v u Q I rv ru q => ix_seq value slice pins s σ H x y v u Q I rv ru ?_
  obtain ⟨U, d, e, t, rx, ry, h⟩ := q
  cases d <;> cases e <;> simp only [ixD] at h <;> try exact False.elim h
  all_goals rw [repB_int ry]
  · split at h
    · rename_i c hc
      obtain ⟨g, h⟩ := h.guard
      rw [repB_str rx]
      exact .inr (.inr ⟨_, _, c, rfl, rfl, by rw [SZ_eq]; exact of_decide_eq_true g, hc, h.now (rep_str _)⟩)
    · exact False.elim h
  · split at h
    · rename_i c hc
      obtain ⟨a, vs, rfl, q1, q2⟩ := repB_tup rx
      obtain ⟨w, p1, p2⟩ := q2.atI hc
      exact .inr (.inl ⟨a, vs, _, w, rfl, rfl, q1, p1, h.now p2⟩)
    · exact False.elim h
  · split at h
    · rename_i c hc
      obtain ⟨a, vs, rfl, q1, q2⟩ := repB_lst rx
      obtain ⟨w, p1, p2⟩ := q2.atI hc
      exact .inl ⟨a, vs, _, w, rfl, rfl, SqL.of q1, p1, h.now p2⟩
    · exact False.elim h
  · split at h
    · rename_i c hc
      obtain ⟨a, vs, rfl, _, q1, q2⟩ := repB_scr rx
      obtain ⟨w, p1, p2⟩ := q2.atI hc
      exact .inl ⟨a, vs, _, w, rfl, rfl, q1, p1, h.now p2⟩
    · exact False.elim h
def rSlD (K : PySem.W.Frag) (cad : Nat → Addr) : V → Option Int → Option Int → Hp → VK → Prop := fun x lo hi H Q => ∃ U d, NoTup U H ∧ RepB K cad U H d x ∧ postV K cad U H (slD d lo hi) Q
theorem slr : SlR X (rSlD X.K cad) := by
  refine fun pins s σ H x v vl vu lo hi sl Q I rv hs p1 p2 q => SlR.or sl_list sl_tupA pins s σ H x v vl vu lo hi sl Q I rv hs p1 p2 ?_
  obtain ⟨U, d, t, rx, h⟩ := q
  cases d <;> simp only [slD] at h <;> try exact False.elim h
  · obtain ⟨a, vs, rfl, q1, q2⟩ := repB_tup rx
    refine .inr ⟨a, vs, rfl, q1, fun z => ?_, fun _ p hp => h.newT t (q2.cut lo hi) hp⟩
    refine h.now (rep_tup q1 ?_)
    have e : cutV vs lo hi = vs := by
      unfold cutV; rw [z.1, z.2]; simp
    have := q2.cut lo hi
    rw [e] at this
    exact this
  · obtain ⟨a, vs, rfl, q1, q2⟩ := repB_lst rx
    exact .inl ⟨a, vs, rfl, SqL.of q1, fun p hp => h.newL t (q2.cut lo hi) hp⟩
  · obtain ⟨a, vs, rfl, _, q1, q2⟩ := repB_scr rx
    exact .inl ⟨a, vs, rfl, q1, fun p hp => h.newL t (q2.cut lo hi) hp⟩
end
end DL
namespace DL
open PySem PySem.Spec PyProof.Rows L2 

/-! ### the small language -/
inductive Op2 where
  | add | sub | mul | fdiv | mod | pow | eq | ne | lt | le | gt | ge | is | isnot | isin | notin
  deriving DecidableEq
/-- built-ins, by values -/
inductive Bi where
  | len | abs | int | min2 | max2 | sum | all | any | tuple | list | maxl | minl
  deriving DecidableEq
/-- a class named in isinstance -/
inductive Ty where
  | b (n : String)
  | own (c : Nat)
  deriving DecidableEq
/-- what is walked -/
inductive Ik where
  | seq | range1 | range2 | enum | zip
  deriving DecidableEq
inductive Tg where
  | nm (i : Nat)
  | tp (ts : List Tg)
inductive E where
  | lit (d : D) | var (i : Nat) | glob (j : Nat)
  | bin (op : Op2) (a b : E) | chain (p q : Op2) (a b c : E)
  | neg (a : E) | not (a : E) | and (a b : E) | or (a b : E) | ite (c a b : E)
  | tup (es : List E) | lst (es : List E)
  | idx (a b : E) | sl (a lo hi : E) | rev (a : E) | mulL (a b : E)
  | call (j : Nat) (es : List E)
  | bi (b : Bi) (es : List E)
  | isi (a : E) (t : Ty)
  | lc (vs : List Nat) (tg : Tg) (k : Ik) (its : List E) (cond : List E) (elt : E)
  | fld (a : E) (f : Str)
inductive S where
  | set (i : Nat) (e : E) | own (i : Nat) (e : E)
  | par (is : List Nat) (es : List E) | asg (tg : Tg) (e : E)
  | frz (i : Nat) | ex (e : E) | ret (e : E) | retN
  | ite (c : E) (a b : List S)
  | floop (tg : Tg) (k : Ik) (its : List E) (body : List S)
  | wloop (c : E) (body : List S)
  | brk | cont | pass
  | app (i : Nat) (e : E)
  | sti (i : Nat) (x e : E)
  | aug (i : Nat) (op : Op2) (e : E)
  | raise (c : Nat)
  | tryR (body : List S) (hs : List (Nat × D))

/-! ### its meaning -/
def op2 : Op2 → D → D → R D
  | .add => opAdd | .sub => opSub | .mul => opMul | .fdiv => opFdiv | .mod => opMod | .pow => opPow
  | .eq => opEq | .ne => opNe | .lt => opLt | .le => opLe | .gt => opGt | .ge => opGe
  | .is => opIs | .isnot => opIsNot | .isin => opIn | .notin => opNotIn
def D.ints? : List D → Option (List Int)
  | [] => some []
  | .int i :: r => (D.ints? r).map (i :: ·)
  | _ :: _ => none
def D.bls? : List D → Option (List Bool)
  | [] => some []
  | .bl i :: r => (D.bls? r).map (i :: ·)
  | _ :: _ => none
def listMax : List Int → Int
  | [] => 0
  | [x] => x
  | x :: y :: r => let m := listMax (y :: r); if x < m then m else x
def listMin : List Int → Int
  | [] => 0
  | [x] => x
  | x :: y :: r => let m := listMin (y :: r); if m < x then m else x
def biD : Bi → List D → R D
  | .len, [.lst xs] => .ok (.int xs.length)
  | .len, [.tup xs] => .ok (.int xs.length)
  | .len, [.scr xs] => .ok (.int xs.length)
  | .len, [.str x] => guard (decide (x.length ≤ SZ)) (.ok (.int x.length))
  | .abs, [.int i] => .ok (.int (if i < 0 then -i else i))
  | .int, [.int i] => .ok (.int i)
  | .int, [.bl b] => .ok (.int (if b then 1 else 0))
  | .min2, [.int i, .int j] => .ok (.int (if j < i then j else i))
  | .max2, [.int i, .int j] => .ok (.int (if j > i then j else i))
  | .sum, [.lst xs] => match D.ints? xs with | some ns => .ok (.int ns.sum) | none => .bad
  | .maxl, [.lst xs] => match D.ints? xs with | some ns => guard (!ns.isEmpty) (.ok (.int (listMax ns))) | none => .bad
  | .minl, [.lst xs] => match D.ints? xs with | some ns => guard (!ns.isEmpty) (.ok (.int (listMin ns))) | none => .bad
  | .all, [.lst xs] => match D.bls? xs with | some bs => .ok (.bl (bs.all id)) | none => .bad
  | .any, [.lst xs] => match D.bls? xs with | some bs => .ok (.bl (bs.any id)) | none => .bad
  | .tuple, [.lst xs] => .ok (.tup xs)
  | .tuple, [.tup xs] => .ok (.tup xs)
  | .list, [.lst xs] => .ok (.lst xs)
  | .list, [.tup xs] => .ok (.lst xs)
  | .list, [.scr xs] => .ok (.lst xs)
  | _, _ => .bad
/-- isinstance -/
def isiD (d : D) (t : Ty) : R D := match t with
  | .b n => match d with
    | .non => .ok (.bl false)
    | .bl _ => .ok (.bl (n == "bool" || n == "int"))
    | .int _ => .ok (.bl (n == "int"))
    | .str _ => .ok (.bl (n == "str"))
    | .tup _ => .ok (.bl (n == "tuple"))
    | .lst _ => .ok (.bl (n == "list"))
    | _ => .bad
  | .own _ => .bad
def slot (b : Bool) (env : Envd) (i : Nat) : R D := match env[i]? with
  | some (.im d) => .ok d
  | some (.ow d) => if b then .ok d else .bad
  | _ => .bad
def partI (d : D) : R (Option Int) := match d with
  | .int i => .ok (some i)
  | _ => .bad
def rangeD (lo : Int) (n : Nat) : List D := (List.range n).map fun (i : Nat) => D.int (lo + i)
def ivOk (i : Int) : Bool := decide (-(2 ^ 62) ≤ i) && decide (i < 2 ^ 62)
def enumD (i : Nat) : List D → List D
  | [] => []
  | d :: r => .tup [.int i, d] :: enumD (i + 1) r
def zipD : List D → List D → List D
  | a :: r, b :: s => .tup [a, b] :: zipD r s
  | _, _ => []
def seqD : D → R (List D)
  | .lst xs => .ok xs
  | .tup xs => .ok xs
  | .str x => .ok (x.cps.toList.map fun c => .str ⟨#[c]⟩)
  | _ => .bad
def itemsD : Ik → List D → R (List D)
  | .seq, [d] => seqD d
  | .range1, [.int j] => guard (ivOk j) (.ok (rangeD 0 j.toNat))
  | .range2, [.int i, .int j] => guard (ivOk i && ivOk j) (.ok (rangeD i (j - i).toNat))
  | .enum, [.lst xs] => .ok (enumD 0 xs)
  | .zip, [.lst xs, .lst ys] => .ok (zipD xs ys)
  | _, _ => .bad
mutual
def Tg.put : Tg → D → Envd → Option Envd
  | .nm i, d, env => some (env.set i (.im d))
  | .tp ts, .tup ds, env => Tg.puts ts ds env
  | .tp _, _, _ => none
def Tg.puts : List Tg → List D → Envd → Option Envd
  | [], [], env => some env
  | t :: ts, d :: ds, env => match Tg.put t d env with | some env' => Tg.puts ts ds env' | none => none
  | _, _, _ => none
end
def wipeD (env : Envd) : List Nat → Envd
  | [] => env
  | v :: vs => (wipeD env vs).set v .un
def R.toB (r : R D) : R Bool := match r with
  | .ok (.bl b) => .ok b
  | .ok _ => .bad
  | .exn c => .exn c
  | .bad => .bad
/-- within a comprehension nothing may be raised -/
def R.calm {α : Type} (r : R α) : R α := match r with | .exn _ => .bad | r => r
/-- the elements of a comprehension -/
def compD (put : D → Option Envd) (cond : Envd → R Bool) (elt : Envd → R D) : List D → R (List D)
  | [] => .ok []
  | d :: r => match put d with
    | none => .bad
    | some env => (cond env).calm.bind fun b =>
      if b then (elt env).calm.bind fun y => (compD put cond elt r).bind fun ys => .ok (y :: ys) else compD put cond elt r
def opMulL : D → D → R D
  | .lst xs, .int k => guard (decide (0 ≤ k) && decide (k ≤ 1000) && decide (xs.length * k.toNat ≤ SZ)) (.ok (.lst (List.replicate k.toNat xs).flatten))
  | _, _ => .bad
def lcD (t : Tg) (vs : List Nat) (rc : Envd → R Bool) (re : Envd → R D) (env : Envd) (xs : List D) : R D :=
  (compD (fun d => t.put d (wipeD env vs)) rc re xs).bind fun ys => guard (decide (ys.length ≤ SZ)) (.ok (.lst ys))
def revD : D → R D
  | .lst xs => .ok (.lst xs.reverse)
  | _ => .bad
abbrev Fns := List (List D → R D)
/-- a slice's part: None written where it is left out -/
def partE (e : E) (r : R D) : R (Option Int) := match e with
  | .lit .non => .ok none
  | _ => r.bind partI
def globD (Gs : List D) (j : Nat) : R D := match Gs[j]? with | some d => .ok d | none => .bad
def callD (F : List (List D → R D)) (j : Nat) (ds : List D) : R D := match F[j]? with | some f => f ds | none => .bad
def andR (x : R D) (y : R D) : R D := x.bind fun d => match d with | .bl true => y | .bl false => .ok (.bl false) | _ => .bad
def orR (x : R D) (y : R D) : R D := x.bind fun d => match d with | .bl true => .ok (.bl true) | .bl false => y | _ => .bad
def iteR (c x y : R D) : R D := c.bind fun d => match d with | .bl true => x | .bl false => y | _ => .bad
@[simp] theorem andR_true (y : R D) : andR (.ok (.bl true)) y = y := Eq.trans rfl rfl
@[simp] theorem andR_false (y : R D) : andR (.ok (.bl false)) y = .ok (.bl false) := Eq.trans rfl rfl
@[simp] theorem orR_true (y : R D) : orR (.ok (.bl true)) y = .ok (.bl true) := Eq.trans rfl rfl
@[simp] theorem orR_false (y : R D) : orR (.ok (.bl false)) y = y := Eq.trans rfl rfl
@[simp] theorem iteR_true (x y : R D) : iteR (.ok (.bl true)) x y = x := Eq.trans rfl rfl
@[simp] theorem iteR_false (x y : R D) : iteR (.ok (.bl false)) x y = y := Eq.trans rfl rfl
section
variable (F : Fns) (Gs : List D)
mutual
def ev (b : Bool) : E → Envd → R D
  | .lit d, _ => .ok d
  | .var i, env => slot b env i
  | .glob j, env => globD Gs j
  | .bin op x y, env => (ev true x env).bind fun d => (ev true y env).bind fun e => op2 op d e
  | .chain p q x y z, env => (ev true x env).bind fun d => (ev true y env).bind fun e => andR (op2 p d e) ((ev true z env).bind fun f => op2 q e f)
  | .neg x, env => (ev true x env).bind negD
  | .not x, env => (ev false x env).not
  | .and x y, env => andR (ev false x env) (ev false y env)
  | .or x y, env => orR (ev false x env) (ev false y env)
  | .ite c x y, env => iteR (ev false c env) (ev false x env) (ev false y env)
  | .tup es, env => (evs false es env).bind fun ds => guard (decide (ds.length ≤ SZ)) (.ok (.tup ds))
  | .lst es, env => (evs false es env).bind fun ds => guard (decide (ds.length ≤ SZ)) (.ok (.lst ds))
  | .idx x y, env => (ev true x env).bind fun d => (ev true y env).bind fun e => ixD d e
  | .sl x lo hi, env => (ev true x env).bind fun d => (partE lo (ev false lo env)).bind fun l => (partE hi (ev false hi env)).bind fun h => slD d l h
  | .rev x, env => (ev true x env).bind revD
  | .mulL x y, env => (ev true x env).bind fun d => (ev true y env).bind fun e => opMulL d e
  | .call j es, env => (evs false es env).bind fun ds => callD F j ds
  | .bi f es, env => (evs true es env).bind fun ds => biD f ds
  | .isi x t, env => (ev true x env).bind fun d => isiD d t
  | .lc vs tg k its cond elt, env => (evs true its env).bind fun ds => (itemsD k ds).bind fun xs => lcD tg vs (fun e => evc cond e) (fun e => ev false elt e) env xs
  | .fld x f, env => (ev true x env).bind fun d => match d with
    | .ins c ns vs => match (ns.zip vs).lookup f with | some v => .ok v | none => .bad
    | _ => .bad
def evs (b : Bool) : List E → Envd → R (List D)
  | [], _ => .ok []
  | e :: es, env => (ev b e env).bind fun d => (evs b es env).bind fun ds => .ok (d :: ds)
/-- the tests of a comprehension -/
def evc : List E → Envd → R Bool
  | [], _ => .ok true
  | [e], env => (ev false e env).toB
  | _, _ => .bad
end
end

/-! ### statements -/
inductive T where
  | nx (env : Envd) | bk (env : Envd) | ct (env : Envd) | rt (d : D) | exn (c : Nat) (env : Envd) | bad
def T.then (t : T) (f : Envd → T) : T := match t with
  | .nx env => f env
  | t => t
@[simp] theorem T.then_nx (env : Envd) (f : Envd → T) : (T.nx env).then f = f env := Eq.trans rfl rfl
@[simp] theorem T.then_bk (env : Envd) (f : Envd → T) : (T.bk env).then f = .bk env := Eq.trans rfl rfl
@[simp] theorem T.then_ct (env : Envd) (f : Envd → T) : (T.ct env).then f = .ct env := Eq.trans rfl rfl
@[simp] theorem T.then_rt (d : D) (f : Envd → T) : (T.rt d).then f = .rt d := Eq.trans rfl rfl
@[simp] theorem T.then_exn (c : Nat) (env : Envd) (f : Envd → T) : (T.exn c env).then f = .exn c env := Eq.trans rfl rfl
@[simp] theorem T.then_bad (f : Envd → T) : T.bad.then f = .bad := Eq.trans rfl rfl
/-- from an expression's datum -/
def R.st {α : Type} (r : R α) (env : Envd) (f : α → T) : T := match r with
  | .ok a => f a
  | .exn c => .exn c env
  | .bad => .bad
@[simp] theorem R.st_ok {α : Type} (a : α) (env : Envd) (f : α → T) : (R.ok a).st env f = f a := Eq.trans rfl rfl
@[simp] theorem R.st_exn {α : Type} (c : Nat) (env : Envd) (f : α → T) : (R.exn c : R α).st env f = .exn c env := Eq.trans rfl rfl
@[simp] theorem R.st_bad {α : Type} (env : Envd) (f : α → T) : (R.bad : R α).st env f = .bad := Eq.trans rfl rfl
/-- a for loop's turns -/
def loopD (put : D → Envd → Option Envd) (body : Envd → T) : List D → Envd → T
  | [], env => .nx env
  | d :: r, env => match put d env with
    | none => .bad
    | some e1 => match body e1 with
      | .nx e2 => loopD put body r e2
      | .ct e2 => loopD put body r e2
      | .bk e2 => .nx e2
      | t => t
/-- a while loop with at most n turns -/
def whileN (c : Envd → R Bool) (body : Envd → T) : Nat → Envd → Option T
  | 0, _ => none
  | n + 1, env => match c env with
    | .ok true => match body env with
      | .nx e2 => whileN c body n e2
      | .ct e2 => whileN c body n e2
      | .bk e2 => some (.nx e2)
      | t => some t
    | .ok false => some (.nx env)
    | .exn k => some (.exn k env)
    | .bad => some .bad
theorem whileN_mono {c : Envd → R Bool} {body : Envd → T} {t : T} : ∀ {n m : Nat} {env : Envd}, n ≤ m → whileN c body n env = some t → whileN c body m env = some t
  | 0, _, _, _, h => by simp [whileN] at h
  | n + 1, 0, _, h, _ => by omega
  | n + 1, m + 1, env, h, e => by
    unfold whileN at e ⊢
    cases hc : c env with
    | ok b =>
      rw [hc] at e
      cases b with
      | true =>
        simp only at e ⊢
        cases hb : body env <;> rw [hb] at e <;> simp only at e ⊢ <;> first | exact whileN_mono (Nat.le_of_succ_le_succ h) e | exact e
      | false => exact e
    | exn k => rw [hc] at e; exact e
    | bad => rw [hc] at e; exact e
open Classical in
noncomputable def whileD (c : Envd → R Bool) (body : Envd → T) (env : Envd) : T :=
  if h : ∃ n t, whileN c body n env = some t then Classical.choose (Classical.choose_spec h) else .bad
theorem whileD_of {c : Envd → R Bool} {body : Envd → T} {env : Envd} {n : Nat} {t : T} (h : whileN c body n env = some t) : whileD c body env = t := by
  have hx : ∃ n t, whileN c body n env = some t := ⟨n, t, h⟩
  unfold whileD
  rw [dif_pos hx]
  have q := Classical.choose_spec (Classical.choose_spec hx)
  rcases Nat.le_total n (Classical.choose hx) with le | le
  · exact Option.some.inj (q.symm.trans (whileN_mono le h))
  · exact Option.some.inj ((whileN_mono le q).symm.trans h)
theorem whileD_ex {c : Envd → R Bool} {body : Envd → T} {env : Envd} (h : whileD c body env ≠ .bad) : ∃ n, whileN c body n env = some (whileD c body env) := by
  by_cases hx : ∃ n t, whileN c body n env = some t
  · obtain ⟨n, t, q⟩ := hx
    exact ⟨n, by rw [whileD_of q]; exact q⟩
  · unfold whileD at h
    rw [dif_neg hx] at h
    exact absurd rfl h
theorem whileN_succ (c : Envd → R Bool) (body : Envd → T) (n : Nat) (env : Envd) : whileN c body (n + 1) env = match c env with
    | .ok true => (match body env with
      | .nx e2 => whileN c body n e2
      | .ct e2 => whileN c body n e2
      | .bk e2 => some (.nx e2)
      | t => some t)
    | .ok false => some (.nx env)
    | .exn k => some (.exn k env)
    | .bad => some .bad := rfl
/-- one turn -/
theorem whileD_eq (c : Envd → R Bool) (body : Envd → T) (env : Envd) : whileD c body env = match c env with
    | .ok true => (match body env with
      | .nx e2 => whileD c body e2
      | .ct e2 => whileD c body e2
      | .bk e2 => .nx e2
      | t => t)
    | .ok false => .nx env
    | .exn k => .exn k env
    | .bad => .bad := by
  have step : ∀ e2, (∀ n, whileN c body (n + 1) env = whileN c body n e2) → whileD c body env = whileD c body e2 := fun e2 h => by
    by_cases hx : ∃ n t, whileN c body n e2 = some t
    · obtain ⟨n, t, q⟩ := hx
      rw [whileD_of q]
      exact whileD_of (n := n + 1) ((h n).trans q)
    · have hy : ¬ ∃ n t, whileN c body n env = some t := fun ⟨n, t, q⟩ => by
        cases n with
        | zero => simp [whileN] at q
        | succ n => exact hx ⟨n, t, (h n).symm.trans q⟩
      unfold whileD
      rw [dif_neg hx, dif_neg hy]
  cases hc : c env with
  | ok b =>
    cases b with
    | true =>
      simp only
      cases hb : body env with
      | nx e2 => simp only; exact step e2 fun n => by rw [whileN_succ, hc, hb]
      | ct e2 => simp only; exact step e2 fun n => by rw [whileN_succ, hc, hb]
      | bk e2 => simp only; exact whileD_of (n := 1) (by rw [whileN_succ, hc, hb])
      | rt d => simp only; exact whileD_of (n := 1) (by rw [whileN_succ, hc, hb])
      | exn k e2 => simp only; exact whileD_of (n := 1) (by rw [whileN_succ, hc, hb])
      | bad => simp only; exact whileD_of (n := 1) (by rw [whileN_succ, hc, hb])
    | false => exact whileD_of (n := 1) (by rw [whileN_succ, hc])
  | exn k => exact whileD_of (n := 1) (by rw [whileN_succ, hc])
  | bad => exact whileD_of (n := 1) (by rw [whileN_succ, hc])
/-- all names at once -/
def setsD (env : Envd) : List Nat → List D → Option Envd
  | [], [] => some env
  | i :: is, d :: ds => setsD (env.set i (.im d)) is ds
  | _, _ => none
def freezeD (env : Envd) (i : Nat) : Envd := match env[i]? with
  | some (.ow d) => env.set i (.im d)
  | _ => env
/-- x.append(y) upon an owned list -/
def appS (env : Envd) (i : Nat) (r : R D) : T := match env[i]? with
  | some (.ow (.lst xs)) => r.st env fun y => match decide (xs.length < SZ) with | true => .nx (env.set i (.ow (.lst (xs ++ [y])))) | false => .bad
  | _ => .bad
/-- x[k] = y upon an owned list -/
def stiS (env : Envd) (i : Nat) (r : R D) (y : D) : T := match env[i]? with
  | some (.ow (.lst xs)) => r.st env fun k => match k with
    | .int k => (match ixN xs.length k with
      | some j => .nx (env.set i (.ow (.lst (xs.set j y))))
      | none => .bad)
    | _ => .bad
  | _ => .bad
def augD : Op2 → D → D → R D
  | .add, .int i, .int j => .ok (.int (i + j))
  | .sub, .int i, .int j => .ok (.int (i - j))
  | _, _, _ => .bad
/-- what the clauses of a try do with an exception of the class c: none, an answer, or on -/
def clause (sub : Nat → Nat → Option Bool) (c : Nat) (env : Envd) : List (Nat × D) → T
  | [] => .exn c env
  | (k, d) :: r => match sub c k with
    | some true => .rt d
    | some false => clause sub c env r
    | none => .bad
def T.caught (sub : Nat → Nat → Option Bool) (hs : List (Nat × D)) (t : T) : T := match t with
  | .exn c e => clause sub c e hs
  | t => t
section
variable (F : Fns) (Gs : List D) (sub : Nat → Nat → Option Bool)
mutual
noncomputable def exS : S → Envd → T
  | .set i e, env => (ev F Gs false e env).st env fun d => .nx (env.set i (.im d))
  | .own i e, env => (ev F Gs false e env).st env fun d => .nx (env.set i (.ow d))
  | .par is es, env => (evs F Gs false es env).st env fun ds => match setsD env is ds with | some e => .nx e | none => .bad
  | .asg tg e, env => (ev F Gs false e env).st env fun d => match tg.put d env with | some e => .nx e | none => .bad
  | .frz i, env => .nx (freezeD env i)
  | .ex e, env => (ev F Gs false e env).st env fun _ => .nx env
  | .ret e, env => (ev F Gs false e env).st env fun d => .rt d
  | .retN, _ => .rt .non
  | .ite c a b, env => (ev F Gs false c env).toB.st env fun k => match k with | true => exSs a env | false => exSs b env
  | .floop tg k its body, env => (evs F Gs false its env).st env fun ds => (itemsD k ds).st env fun xs => loopD (fun d e => tg.put d e) (fun e => exSs body e) xs env
  | .wloop c body, env => whileD (fun e => (ev F Gs false c e).toB) (fun e => exSs body e) env
  | .brk, env => .bk env
  | .cont, env => .ct env
  | .pass, env => .nx env
  | .app i e, env => appS env i (ev F Gs false e env)
  | .sti i x e, env => (ev F Gs false e env).st env fun d => stiS env i (ev F Gs false x env) d
  | .aug i op e, env => (slot false env i).st env fun d => (ev F Gs true e env).st env fun y => (augD op d y).st env fun z => .nx (env.set i (.im z))
  | .raise c, env => .exn c env
  | .tryR body hs, env => (exSs body env).caught sub hs
noncomputable def exSs : List S → Envd → T
  | [], env => .nx env
  | s :: ss, env => (exS s env).then fun e => exSs ss e
end
/-- a def's body upon its arguments -/
noncomputable def runD (body : List S) (np n : Nat) (args : List D) : R D :=
  match decide (args.length = np) with
  | false => .bad
  | true => match exSs F Gs sub body (args.map Sl.im ++ List.replicate (n - args.length) .un) with
  | .nx _ => .ok .non
  | .rt d => .ok d
  | .exn c _ => .exn c
  | _ => .bad
end
end DL
namespace DL
open PySem PySem.Spec PyProof.Rows L2 

/-! ### built-ins by values -/
section
variable (K : PySem.W.Frag) (cad : Nat → Addr)
def rBi (f : List D → R D) : List V → Hp → VK → Prop := fun vs H Q => ∃ U ds, NoTup U H ∧ Paired (RepB K cad U H) ds vs ∧ postV K cad U H (f ds) Q
end
section
variable {X : Cx} {cad : Nat → Addr} {K : PySem.W.Frag} {U : List Addr} {H : Hp}
theorem CallR.or2 {f : Value} {r r' : List V → Hp → VK → Prop} (h : CallR X f r) (h' : CallR X f r') : CallR X f fun xs H Q => r xs H Q ∨ r' xs H Q :=
  fun pins s σ H xs us Q I r q => q.elim (h pins s σ H xs us Q I r) (h' pins s σ H xs us Q I r)
theorem CallR.by {f : Value} {r r' : List V → Hp → VK → Prop} (h : CallR X f r) (w : ∀ xs H Q, r' xs H Q → r xs H Q) : CallR X f r' :=
  fun pins s σ H xs us Q I rv q => h pins s σ H xs us Q I rv (w xs H Q q)
theorem pair1 {F : D → V → Prop} {d : D} {vs : List V} (h : Paired F [d] vs) : ∃ v, vs = [v] ∧ F d v := by
  cases h with
  | cons r t => cases t; exact ⟨_, rfl, r⟩
theorem pair2 {F : D → V → Prop} {d e : D} {vs : List V} (h : Paired F [d, e] vs) : ∃ v u, vs = [v, u] ∧ F d v ∧ F e u := by
  cases h with
  | cons r t =>
    obtain ⟨u, rfl, q⟩ := pair1 t
    exact ⟨_, _, rfl, r, q⟩
/-- one argument alone has a value -/
theorem postV.some {r : R D} {Q : VK} (h : postV K cad U H r Q) : ∃ d, r = .ok d := by
  cases r with
  | ok d => exact ⟨d, rfl⟩
  | exn c => exact False.elim h
  | bad => exact False.elim h
theorem rep_ints : ∀ {xs : List D} {ns : List Int} {vs : List V}, D.ints? xs = some ns → Reps K cad U H xs vs → vs = ns.map V.int
  | [], ns, vs, e, h => by
    simp only [D.ints?, Option.some.injEq] at e; subst e
    simp only [Reps] at h; rw [h]; rfl
  | x :: xs, ns, vs, e, h => by
    cases x <;> simp only [D.ints?] at e <;> first | (cases e; done) | skip
    rename_i i
    cases q : D.ints? xs with
    | none => rw [q] at e; cases e
    | some ms =>
      rw [q] at e
      cases e
      simp only [Reps] at h
      obtain ⟨v, r, rfl, h1, h2⟩ := h
      simp only [Rep] at h1
      rw [h1, rep_ints q h2]; rfl
theorem rep_bls : ∀ {xs : List D} {ns : List Bool} {vs : List V}, D.bls? xs = some ns → Reps K cad U H xs vs → vs = ns.map V.bl
  | [], ns, vs, e, h => by
    simp only [D.bls?, Option.some.injEq] at e; subst e
    simp only [Reps] at h; rw [h]; rfl
  | x :: xs, ns, vs, e, h => by
    cases x <;> simp only [D.bls?] at e <;> first | (cases e; done) | skip
    rename_i i
    cases q : D.bls? xs with
    | none => rw [q] at e; cases e
    | some ms =>
      rw [q] at e
      cases e
      simp only [Reps] at h
      obtain ⟨v, r, rfl, h1, h2⟩ := h
      simp only [Rep] at h1
      rw [h1, rep_bls q h2]; rfl
theorem listMax_mem : ∀ {l : List Int}, l ≠ [] → listMax l ∈ l
  | [], h => absurd rfl h
  | [x], _ => by simp [listMax]
  | x :: y :: r, _ => by
    simp only [listMax]
    split
    · exact List.mem_cons_of_mem _ (listMax_mem (by simp))
    · exact List.mem_cons_self
theorem listMax_le : ∀ {l : List Int} {a : Int}, a ∈ l → a ≤ listMax l
  | [], _, h => by cases h
  | [x], a, h => by simp at h; simp [listMax, h]
  | x :: y :: r, a, h => by
    simp only [listMax]
    rcases List.mem_cons.mp h with rfl | h
    · split <;> omega
    · have := listMax_le h
      split <;> omega
theorem listMin_mem : ∀ {l : List Int}, l ≠ [] → listMin l ∈ l
  | [], h => absurd rfl h
  | [x], _ => by simp [listMin]
  | x :: y :: r, _ => by
    simp only [listMin]
    split
    · exact List.mem_cons_of_mem _ (listMin_mem (by simp))
    · exact List.mem_cons_self
theorem listMin_le : ∀ {l : List Int} {a : Int}, a ∈ l → listMin l ≤ a
  | [], _, h => by cases h
  | [x], a, h => by simp at h; simp [listMin, h]
  | x :: y :: r, a, h => by
    simp only [listMin]
    rcases List.mem_cons.mp h with rfl | h
    · split <;> omega
    · have := listMin_le h
      split <;> omega
theorem ne_empty {ns : List Int} (h : (!ns.isEmpty) = true) : ns ≠ [] := fun e => by subst e; simp at h

theorem cb_len : CallR X (.builtin "len") (rBi X.K cad (biD .len)) := by
  refine CallR.by call_len ?_
  rintro vs H Q ⟨U, ds, t, r, h⟩
  obtain ⟨z, hz⟩ := h.some
  cases r with
  | nil => simp [biD] at hz
  | cons r1 r2 =>
    rename_i d v ds' vs'
    cases r2 with
    | cons _ _ => cases d <;> simp [biD] at hz
    | nil =>
      cases d <;> simp only [biD] at h <;> try exact False.elim h
      · rw [repB_str r1]
        obtain ⟨g, h⟩ := h.guard
        exact ⟨_, _, rfl, ⟨by rw [SZ_eq]; exact of_decide_eq_true g, rfl⟩, h.now (rep_int _)⟩
      · obtain ⟨a, vs, rfl, q1, q2⟩ := repB_tup r1
        exact ⟨_, _, rfl, .inr ⟨vs, q1, rfl⟩, by rw [← q2.length]; exact h.now (rep_int _)⟩
      · obtain ⟨a, vs, rfl, q1, q2⟩ := repB_lst r1
        exact ⟨_, _, rfl, .inl ⟨vs, SqL.of q1, rfl⟩, by rw [← q2.length]; exact h.now (rep_int _)⟩
      · obtain ⟨a, vs, rfl, _, q1, q2⟩ := repB_scr r1
        exact ⟨_, _, rfl, .inl ⟨vs, q1, rfl⟩, by rw [← q2.length]; exact h.now (rep_int _)⟩
theorem cb_abs : CallR X (.builtin "abs") (rBi X.K cad (biD .abs)) := by
  refine CallR.by call_abs ?_
  rintro vs H Q ⟨U, ds, t, r, h⟩
  obtain ⟨z, hz⟩ := h.some
  cases r with
  | nil => simp [biD] at hz
  | cons r1 r2 =>
    rename_i d v ds' vs'
    cases r2 with
    | cons _ _ => cases d <;> simp [biD] at hz
    | nil =>
      cases d <;> simp only [biD] at h <;> try exact False.elim h
      rw [repB_int r1]
      exact ⟨_, rfl, h.now (rep_int _)⟩
theorem cb_int : CallR X (.type "int") (rBi X.K cad (biD .int)) := by
  refine CallR.by call_int1 ?_
  rintro vs H Q ⟨U, ds, t, r, h⟩
  obtain ⟨z, hz⟩ := h.some
  cases r with
  | nil => simp [biD] at hz
  | cons r1 r2 =>
    rename_i d v ds' vs'
    cases r2 with
    | cons _ _ => cases d <;> simp [biD] at hz
    | nil =>
      cases d <;> simp only [biD] at h <;> try exact False.elim h
      · rw [repB_bl r1]
        exact .inr ⟨_, rfl, h.now (rep_int _)⟩
      · rw [repB_int r1]
        exact .inl ⟨_, rfl, h.now (rep_int _)⟩
theorem two_of {f : D → D → R D} {g : List D → R D} (hg : ∀ d e, g [d, e] = f d e) (h0 : g [] = .bad) (h1 : ∀ d, g [d] = .bad) (h3 : ∀ a b c l, g (a :: b :: c :: l) = .bad) {ds : List D} {z : D} (h : g ds = .ok z) : ∃ d e, ds = [d, e] ∧ f d e = .ok z := by
  match ds with
  | [] => rw [h0] at h; cases h
  | [d] => rw [h1] at h; cases h
  | [d, e] => exact ⟨d, e, rfl, by rw [← hg]; exact h⟩
  | a :: b :: c :: l => rw [h3] at h; cases h
theorem biD_min2 {ds : List D} {z : D} (h : biD .min2 ds = .ok z) : ∃ i j, ds = [.int i, .int j] ∧ z = .int (if j < i then j else i) := by
  match ds with
  | [] => simp [biD] at h
  | [d] => cases d <;> simp [biD] at h
  | [d, e] => cases d <;> cases e <;> simp [biD] at h; exact ⟨_, _, rfl, h.symm⟩
  | a :: b :: c :: l => cases a <;> cases b <;> simp [biD] at h
theorem biD_max2 {ds : List D} {z : D} (h : biD .max2 ds = .ok z) : ∃ i j, ds = [.int i, .int j] ∧ z = .int (if j > i then j else i) := by
  match ds with
  | [] => simp [biD] at h
  | [d] => cases d <;> simp [biD] at h
  | [d, e] => cases d <;> cases e <;> simp [biD] at h; exact ⟨_, _, rfl, h.symm⟩
  | a :: b :: c :: l => cases a <;> cases b <;> simp [biD] at h
theorem cb_min2 (hc : X.calm = true) : CallR X (.builtin "min") (rBi X.K cad (biD .min2)) := by
  refine CallR.by (call_min2 hc) ?_
  rintro vs H Q ⟨U, ds, t, r, h⟩
  obtain ⟨z, hz⟩ := h.some
  obtain ⟨i, j, rfl, rfl⟩ := biD_min2 hz
  rw [hz] at h
  obtain ⟨v, u, rfl, r1, r2⟩ := pair2 r
  rw [repB_int r1, repB_int r2]
  exact ⟨_, _, rfl, h.now (rep_int _)⟩
theorem cb_max2 (hc : X.calm = true) : CallR X (.builtin "max") (rBi X.K cad (biD .max2)) := by
  refine CallR.by (call_max2 hc) ?_
  rintro vs H Q ⟨U, ds, t, r, h⟩
  obtain ⟨z, hz⟩ := h.some
  obtain ⟨i, j, rfl, rfl⟩ := biD_max2 hz
  rw [hz] at h
  obtain ⟨v, u, rfl, r1, r2⟩ := pair2 r
  rw [repB_int r1, repB_int r2]
  exact ⟨_, _, rfl, h.now (rep_int _)⟩
theorem gd_ok {α : Type} {c : Bool} {r : R α} {z : α} (h : guard c r = .ok z) : c = true ∧ r = .ok z := by
  cases c with
  | true => exact ⟨rfl, h⟩
  | false => cases h
theorem biD_l1 {b : Bi} (hb : b = .sum ∨ b = .all ∨ b = .any ∨ b = .maxl ∨ b = .minl) {ds : List D} {z : D} (h : biD b ds = .ok z) : ∃ xs, ds = [.lst xs] := by
  match ds with
  | [] => rcases hb with rfl | rfl | rfl | rfl | rfl <;> simp [biD] at h
  | [d] => rcases hb with rfl | rfl | rfl | rfl | rfl <;> cases d <;> simp [biD] at h <;> exact ⟨_, rfl⟩
  | a :: b :: l => rcases hb with rfl | rfl | rfl | rfl | rfl <;> cases a <;> simp [biD] at h
theorem cb_sum (hc : X.calm = true) : CallR X (.builtin "sum") (rBi X.K cad (biD .sum)) := by
  refine CallR.by (cr_sum hc) ?_
  rintro vs H Q ⟨U, ds, t, r, h⟩
  obtain ⟨z, hz⟩ := h.some
  obtain ⟨xs, rfl⟩ := biD_l1 (.inl rfl) hz
  obtain ⟨v, rfl, r1⟩ := pair1 r
  obtain ⟨a, vs, rfl, q1, q2⟩ := repB_lst r1
  simp only [biD] at h
  split at h
  · rename_i ns hn
    rw [rep_ints hn q2] at q1
    exact ⟨a, ns, rfl, SqL.of q1, h.now (rep_int _)⟩
  · exact False.elim h
theorem cb_all (hc : X.calm = true) : CallR X (.builtin "all") (rBi X.K cad (biD .all)) := by
  refine CallR.by (cr_all hc) ?_
  rintro vs H Q ⟨U, ds, t, r, h⟩
  obtain ⟨z, hz⟩ := h.some
  obtain ⟨xs, rfl⟩ := biD_l1 (.inr (.inl rfl)) hz
  obtain ⟨v, rfl, r1⟩ := pair1 r
  obtain ⟨a, vs, rfl, q1, q2⟩ := repB_lst r1
  simp only [biD] at h
  split at h
  · rename_i ns hn
    rw [rep_bls hn q2] at q1
    exact ⟨a, ns, rfl, SqL.of q1, h.now (rep_bl _)⟩
  · exact False.elim h
theorem cb_any (hc : X.calm = true) : CallR X (.builtin "any") (rBi X.K cad (biD .any)) := by
  refine CallR.by (cr_any hc) ?_
  rintro vs H Q ⟨U, ds, t, r, h⟩
  obtain ⟨z, hz⟩ := h.some
  obtain ⟨xs, rfl⟩ := biD_l1 (.inr (.inr (.inl rfl))) hz
  obtain ⟨v, rfl, r1⟩ := pair1 r
  obtain ⟨a, vs, rfl, q1, q2⟩ := repB_lst r1
  simp only [biD] at h
  split at h
  · rename_i ns hn
    rw [rep_bls hn q2] at q1
    exact ⟨a, ns, rfl, SqL.of q1, h.now (rep_bl _)⟩
  · exact False.elim h
theorem cb_maxl (hc : X.calm = true) : CallR X (.builtin "max") (rBi X.K cad (biD .maxl)) := by
  refine CallR.by (cr_max hc) ?_
  rintro vs H Q ⟨U, ds, t, r, h⟩
  obtain ⟨z, hz⟩ := h.some
  obtain ⟨xs, rfl⟩ := biD_l1 (.inr (.inr (.inr (.inl rfl)))) hz
  obtain ⟨v, rfl, r1⟩ := pair1 r
  obtain ⟨a, vs, rfl, q1, q2⟩ := repB_lst r1
  simp only [biD] at h
  split at h
  · rename_i ns hn
    obtain ⟨g, h⟩ := h.guard
    have ne := ne_empty g
    rw [rep_ints hn q2] at q1
    refine ⟨a, ns, rfl, SqL.of q1, List.length_pos_iff.mpr ne, fun m h1 h2 => ?_⟩
    have e : m = listMax ns := Int.le_antisymm (listMax_le h1) (h2 _ (listMax_mem ne))
    rw [e]; exact h.now (rep_int _)
  · exact False.elim h
theorem cb_minl (hc : X.calm = true) : CallR X (.builtin "min") (rBi X.K cad (biD .minl)) := by
  refine CallR.by (cr_min hc) ?_
  rintro vs H Q ⟨U, ds, t, r, h⟩
  obtain ⟨z, hz⟩ := h.some
  obtain ⟨xs, rfl⟩ := biD_l1 (.inr (.inr (.inr (.inr rfl)))) hz
  obtain ⟨v, rfl, r1⟩ := pair1 r
  obtain ⟨a, vs, rfl, q1, q2⟩ := repB_lst r1
  simp only [biD] at h
  split at h
  · rename_i ns hn
    obtain ⟨g, h⟩ := h.guard
    have ne := ne_empty g
    rw [rep_ints hn q2] at q1
    refine ⟨a, ns, rfl, SqL.of q1, List.length_pos_iff.mpr ne, fun m h1 h2 => ?_⟩
    have e : m = listMin ns := Int.le_antisymm (h2 _ (listMin_mem ne)) (listMin_le h1)
    rw [e]; exact h.now (rep_int _)
  · exact False.elim h
theorem biD_tup {ds : List D} {z : D} (h : biD .tuple ds = .ok z) : ∃ xs, (ds = [.lst xs] ∨ ds = [.tup xs]) ∧ z = .tup xs := by
  match ds with
  | [] => simp [biD] at h
  | [d] => cases d <;> simp [biD] at h <;> first | exact ⟨_, .inl rfl, h.symm⟩ | exact ⟨_, .inr rfl, h.symm⟩
  | a :: b :: l => cases a <;> simp [biD] at h
theorem biD_list {ds : List D} {z : D} (h : biD .list ds = .ok z) : ∃ xs, (ds = [.lst xs] ∨ ds = [.tup xs] ∨ ds = [.scr xs]) ∧ z = .lst xs := by
  match ds with
  | [] => simp [biD] at h
  | [d] => cases d <;> simp [biD] at h <;> first | exact ⟨_, .inl rfl, h.symm⟩ | exact ⟨_, .inr (.inl rfl), h.symm⟩ | exact ⟨_, .inr (.inr rfl), h.symm⟩
  | a :: b :: l => cases a <;> simp [biD] at h
theorem cb_tuple : CallR X (.type "tuple") (rBi X.K cad (biD .tuple)) := by
  refine CallR.by call_tuple_of ?_
  rintro vs H Q ⟨U, ds, t, r, h⟩
  obtain ⟨z, hz⟩ := h.some
  obtain ⟨xs, e, rfl⟩ := biD_tup hz
  rw [hz] at h
  rcases e with rfl | rfl
  · obtain ⟨v, rfl, r1⟩ := pair1 r
    obtain ⟨a, vs, rfl, q1, q2⟩ := repB_lst r1
    exact ⟨a, vs, rfl, .inl ⟨SqL.of q1, fun l hl => h.newT t q2 hl⟩⟩
  · obtain ⟨v, rfl, r1⟩ := pair1 r
    obtain ⟨a, vs, rfl, q1, q2⟩ := repB_tup r1
    exact ⟨a, vs, rfl, .inr ⟨q1, h.now (rep_tup q1 q2)⟩⟩
theorem cb_list : CallR X (.type "list") (rBi X.K cad (biD .list)) := by
  refine CallR.by call_list_of ?_
  rintro vs H Q ⟨U, ds, t, r, h⟩
  obtain ⟨z, hz⟩ := h.some
  obtain ⟨xs, e, rfl⟩ := biD_list hz
  rw [hz] at h
  rcases e with rfl | rfl | rfl
  · obtain ⟨v, rfl, r1⟩ := pair1 r
    obtain ⟨a, vs, rfl, q1, q2⟩ := repB_lst r1
    exact ⟨a, vs, rfl, .inl (SqL.of q1), fun l hl => h.newL t q2 hl⟩
  · obtain ⟨v, rfl, r1⟩ := pair1 r
    obtain ⟨a, vs, rfl, q1, q2⟩ := repB_tup r1
    exact ⟨a, vs, rfl, .inr q1, fun l hl => h.newL t q2 hl⟩
  · obtain ⟨v, rfl, r1⟩ := pair1 r
    obtain ⟨a, vs, rfl, _, q1, q2⟩ := repB_scr r1
    exact ⟨a, vs, rfl, .inl q1, fun l hl => h.newL t q2 hl⟩
/-! isinstance -/
theorem tyx_of {d : D} {v : V} (r : RepB K cad U H d v) : match d with
    | .non => TyX K H v (.type "NoneType") | .bl _ => TyX K H v (.type "bool") | .int _ => TyX K H v (.type "int") | .str _ => TyX K H v (.type "str")
    | .tup _ => TyX K H v (.type "tuple") | .lst _ => TyX K H v (.type "list") | _ => True := by
  cases d <;> simp only
  · rw [repB_non r]; exact .base .non
  · rw [repB_bl r]; exact .base (.bl _)
  · rw [repB_int r]; exact .base (.int _)
  · rw [repB_str r]; exact .base (.str _)
  · obtain ⟨a, vs, rfl, q1, q2⟩ := repB_tup r
    rcases q1 with (q | ⟨o, q⟩) | ⟨o, its, n, q, c, _⟩
    · exact .base (.tup q)
    · exact .fTuple q
    · exact .kTuple q c
  · obtain ⟨a, vs, rfl, q1, q2⟩ := repB_lst r
    exact .base (.lst q1)
def tyNames : List String := ["int", "bool", "str", "tuple", "list", "dict"]
theorem kitB_none : ∀ n ∈ tyNames, kitB "NoneType" n = some false := by decide +kernel
theorem kitB_bool : ∀ n ∈ tyNames, kitB "bool" n = some (n == "bool" || n == "int") := by decide +kernel
theorem kitB_int : ∀ n ∈ tyNames, kitB "int" n = some (n == "int") := by decide +kernel
theorem kitB_str : ∀ n ∈ tyNames, kitB "str" n = some (n == "str") := by decide +kernel
theorem kitB_tup : ∀ n ∈ tyNames, kitB "tuple" n = some (n == "tuple") := by decide +kernel
theorem kitB_lst : ∀ n ∈ tyNames, kitB "list" n = some (n == "list") := by decide +kernel
def rIsiD (K : PySem.W.Frag) (cad : Nat → Addr) (n : String) : List V → Hp → VK → Prop := fun vs H Q => ∃ U d v, vs = [v, .ty n] ∧ NoTup U H ∧ RepB K cad U H d v ∧ postV K cad U H (isiD d (.b n)) Q
theorem cb_isi {n : String} (hn : n ∈ tyNames) : CallR X (.builtin "isinstance") (rIsiD X.K cad n) := by
  refine CallR.by call_isi ?_
  rintro vs H Q ⟨U, d, v, rfl, t, r, h⟩
  have ty := tyx_of r
  cases d <;> simp only [isiD] at h ty <;> try exact False.elim h
  · exact ⟨v, .ty n, _, _, _, rfl, .ty n, ty, kit_ty (kitB_none n hn), h.now (rep_bl _)⟩
  · exact ⟨v, .ty n, _, _, _, rfl, .ty n, ty, kit_ty (kitB_bool n hn), h.now (rep_bl _)⟩
  · exact ⟨v, .ty n, _, _, _, rfl, .ty n, ty, kit_ty (kitB_int n hn), h.now (rep_bl _)⟩
  · exact ⟨v, .ty n, _, _, _, rfl, .ty n, ty, kit_ty (kitB_str n hn), h.now (rep_bl _)⟩
  · exact ⟨v, .ty n, _, _, _, rfl, .ty n, ty, kit_ty (kitB_tup n hn), h.now (rep_bl _)⟩
  · exact ⟨v, .ty n, _, _, _, rfl, .ty n, ty, kit_ty (kitB_lst n hn), h.now (rep_bl _)⟩
end
end DL
namespace DL
open PySem PySem.Spec PyProof.Rows L2 

/-! ### is this text that term? -/
/-- what the top has: the defs' names and their functions, constants, classes, built-ins that stand -/
structure Tab where
  fns : List Str
  gls : List Str
  cls : List Str
  bts : List Str
structure Cc where
  T : Tab
  N : List Str
  sc : Scope
  own : Str → Bool
def noStar : PySem.Expr → Bool
  | .Starred _ _ => false
  | _ => true
def visB (sc : Scope) (x : Str) : Bool := match sc.names.lookup x with
  | some .local => true | some .cell => true | some .free => true | _ => false
def glB (sc : Scope) (x : Str) : Bool := match sc.names.lookup x with
  | some .globalImplicit => true | _ => false
def locB (sc : Scope) (x : Str) : Bool := match sc.names.lookup x with
  | some .local => true | _ => false
def stB (c : Cc) (x : Str) : Bool := match c.sc.names.lookup x with
  | some .local => true | some .cell => c.own x | _ => false
def dbgB (x : Str) : Bool := !(x == ("__debug__" : Str)) && !(x == ("__classdict__" : Str))
def eqS (a b : Str) : Bool := decide (a = b)
def litB : D → Const → Bool
  | .int i, .int j => decide (i = j)
  | .bl a, .bool b => a == b
  | .non, .none => true
  | .str x, .str y => eqS x y
  | _, _ => false
def opB : Op2 → Operator → Bool
  | .add, .Add => true | .sub, .Sub => true | .mul, .Mult => true | .fdiv, .FloorDiv => true | .mod, .Mod => true | .pow, .Pow => true
  | _, _ => false
def cmpB : Op2 → CmpOp → Bool
  | .eq, .Eq => true | .ne, .NotEq => true | .lt, .Lt => true | .le, .LtE => true | .gt, .Gt => true | .ge, .GtE => true
  | .is, .Is => true | .isnot, .IsNot => true | .isin, .In => true | .notin, .NotIn => true
  | _, _ => false
def biN : Bi → Str
  | .len => "len" | .abs => "abs" | .int => "int" | .min2 => "min" | .max2 => "max" | .sum => "sum" | .all => "all" | .any => "any"
  | .tuple => "tuple" | .list => "list" | .maxl => "max" | .minl => "min"
def nameAt (l : List Str) (i : Nat) (x : Str) : Bool := match l[i]? with
  | some y => eqS y x
  | none => false
def notSlice : PySem.Expr → Bool
  | .Slice _ _ _ _ => false
  | _ => true
def ownsOf (N : List Str) (vs : List Nat) : List (Str × Nat) := vs.map fun i => ((N[i]?).getD Str.empty, i)
def blkCc (c : Cc) (scope : Scope) : Cc := { c with sc := relS scope c.sc, own := fun x => scope.names.lookup x == some .cell }
mutual
def chkTg (c : Cc) : Tg → PySem.Expr → Bool
  | .nm i, .Name x _ => nameAt c.N i x && stB c x
  | .tp ts, .Tuple ps _ _ => chkTgs c ts ps
  | _, _ => false
def chkTgs (c : Cc) : List Tg → List PySem.Expr → Bool
  | [], [] => true
  | t :: ts, p :: ps => noStar p && chkTg c t p && chkTgs c ts ps
  | _, _ => false
end
def glN (c : Cc) (x : Str) : Bool := glB c.sc x && dbgB x
def btN (c : Cc) (x n : Str) : Bool := eqS x n && glB c.sc n && c.T.bts.contains n
def isTup : PySem.Expr → Bool
  | .Tuple _ _ _ => true
  | _ => false
mutual
/-- the slots of a target -/
def Tg.slots : Tg → List Nat
  | .nm i => [i]
  | .tp ts => Tg.slotss ts
def Tg.slotss : List Tg → List Nat
  | [] => []
  | t :: ts => Tg.slots t ++ Tg.slotss ts
end
def vsB (vs : List Nat) (tg : Tg) : Bool := tg.slots.all fun i => vs.contains i
def plainE : PySem.Expr → Bool
  | .Constant _ _ _ => false | .Name _ _ => true | _ => true
mutual
def chkE : Nat → Cc → E → PySem.Expr → Bool
  | 0, _, _, _ => false
  | n + 1, c, e, pe => match e with
    | .lit d => (match pe with
      | .Constant k _ _ => litB d k
      | _ => false)
    | .var i => (match pe with
      | .Name x _ => nameAt c.N i x && visB c.sc x && dbgB x
      | _ => false)
    | .glob j => (match pe with
      | .Name x _ => nameAt c.T.gls j x && glN c x
      | _ => false)
    | .bin op a b => (match pe with
      | .BinOp p o q _ => opB op o && chkE n c a p && chkE n c b q
      | .Compare p [o] [q] _ => cmpB op o && !behindInMarks o q && chkE n c a p && chkE n c b q
      | _ => false)
    | .chain o1 o2 a b d => (match pe with
      | .Compare p [q1, q2] [r, s] _ => cmpB o1 q1 && cmpB o2 q2 && !lastMarks [q1, q2] [r, s] && chkE n c a p && chkE n c b r && chkE n c d s
      | _ => false)
    | .neg a => (match pe with
      | .UnaryOp .USub p _ => chkE n c a p
      | _ => false)
    | .not a => (match pe with
      | .UnaryOp .Not p _ => chkE n c a p
      | _ => false)
    | .and a b => (match pe with
      | .BoolOp .And [p, q] _ => chkE n c a p && chkE n c b q
      | .BoolOp .And (p :: q :: q2 :: r) pos => chkE n c a p && chkE n c b (.BoolOp .And (q :: q2 :: r) pos)
      | _ => false)
    | .or a b => (match pe with
      | .BoolOp .Or [p, q] _ => chkE n c a p && chkE n c b q
      | .BoolOp .Or (p :: q :: q2 :: r) pos => chkE n c a p && chkE n c b (.BoolOp .Or (q :: q2 :: r) pos)
      | _ => false)
    | .ite a b d => (match pe with
      | .IfExp p q r _ => chkE n c a p && chkE n c b q && chkE n c d r
      | _ => false)
    | .tup es => (match pe with
      | .Tuple ps _ _ => chkEs n c es ps
      | _ => false)
    | .lst es => (match pe with
      | .List ps _ => chkEs n c es ps
      | _ => false)
    | .idx a b => (match pe with
      | .Subscript p q _ => notSlice q && chkE n c a p && chkE n c b q
      | _ => false)
    | .sl a lo hi => (match pe with
      | .Subscript p (.Slice l h none _) _ => chkE n c a p && chkO n c lo l && chkO n c hi h
      | _ => false)
    | .rev a => (match pe with
      | .Subscript p (.Slice none none (some (.UnaryOp .USub (.Constant (.int 1) _ _) _)) _) _ => chkE n c a p
      | _ => false)
    | .mulL a b => (match pe with
      | .BinOp p .Mult q _ => chkE n c a p && chkE n c b q
      | _ => false)
    | .call j es => (match pe with
      | .Call (.Name x _) (p :: ps) [] _ => nameAt c.T.fns j x && glN c x && chkEs n c es (p :: ps)
      | _ => false)
    | .bi b es => (match pe with
      | .Call (.Name x _) (p :: ps) [] _ => btN c x (biN b) && chkEs n c es (p :: ps)
      | _ => false)
    | .isi a (.b m) => (match pe with
      | .Call (.Name x _) [p, .Name y _] [] _ => btN c x "isinstance" && btN c y (Str.ofString m) && tyNames.contains m && noStar p && chkE n c a p
      | _ => false)
    | .lc vs tg k its cond elt => (match pe with
      | .ListComp p [⟨t, i, fs, 0⟩] scope _ =>
        blkC c.N c.sc scope (ownsOf c.N vs) && chkI n c t k its i && vsB vs tg && chkTg (blkCc c scope) tg t && chkC n (blkCc c scope) cond fs && chkE n (blkCc c scope) elt p
      | _ => false)
    | _ => false
def chkEs : Nat → Cc → List E → List PySem.Expr → Bool
  | 0, _, _, _ => false
  | n + 1, c, es, ps => match es, ps with
    | [], [] => true
    | e :: es, p :: ps => noStar p && chkE n c e p && chkEs n c es ps
    | _, _ => false
/-- a slice's part -/
def chkO : Nat → Cc → E → Option PySem.Expr → Bool
  | 0, _, _, _ => false
  | n + 1, c, e, o => match o with
    | none => (match e with
      | .lit .non => true
      | _ => false)
    | some p => (match e with
      | .lit .non => false
      | e => chkE n c e p)
def chkI : Nat → Cc → PySem.Expr → Ik → List E → PySem.Expr → Bool
  | 0, _, _, _, _, _ => false
  | n + 1, c, t, k, es, pe => match k, es, pe with
    | .seq, [e], p => chkE n c e p
    | .range1, es, .Call (.Name x _) [p] [] _ => btN c x "range" && chkEs n c es [p]
    | .range2, es, .Call (.Name x _) [p, q] [] _ => btN c x "range" && chkEs n c es [p, q]
    | .enum, es, .Call (.Name x _) [p] [] _ => isTup t && btN c x "enumerate" && chkEs n c es [p]
    | .zip, es, .Call (.Name x _) [p, q] [] _ => isTup t && btN c x "zip" && chkEs n c es [p, q]
    | _, _, _ => false
/-- the tests of a comprehension: none or one -/
def chkC : Nat → Cc → List E → List PySem.Expr → Bool
  | 0, _, _, _ => false
  | n + 1, c, es, ps => match es, ps with
    | [], [] => true
    | [e], [p] => chkE n c e p
    | _, _ => false
end
end DL
namespace DL
open PySem PySem.Spec PyProof.Rows L2 

/-! ### operators raise nothing -/
def Calm (r : R D) : Prop := ∀ c, r ≠ .exn c
theorem Calm.ok (d : D) : Calm (.ok d) := fun _ h => by cases h
theorem Calm.bad : Calm .bad := fun _ h => by cases h
theorem Calm.guard {b : Bool} {r : R D} (h : Calm r) : Calm (guard b r) := by cases b <;> first | exact h | exact .bad
theorem Calm.not {r : R D} (h : Calm r) : Calm r.not := by
  cases r with
  | ok d => cases d <;> first | exact .ok _ | exact .bad
  | exn c => exact absurd rfl (h c)
  | bad => exact .bad
theorem calm_is (d e : D) : Calm (opIs d e) := by
  cases e <;> cases d <;> simp only [opIs] <;> first | exact .ok _ | exact .bad
theorem calm_in (d e : D) : Calm (opIn d e) := by
  cases e <;> cases d <;> simp only [opIn] <;> first | exact .ok _ | exact .bad | exact (Calm.ok _).guard
theorem op2_calm (op : Op2) (d e : D) : Calm (op2 op d e) := by
  cases op <;> simp only [op2]
  · cases d <;> cases e <;> simp only [opAdd] <;> first | exact .ok _ | exact .bad | exact (Calm.ok _).guard
  · cases d <;> cases e <;> simp only [opSub] <;> first | exact .ok _ | exact .bad
  · cases d <;> cases e <;> simp only [opMul] <;> first | exact .ok _ | exact .bad | exact (Calm.ok _).guard
  · cases d <;> cases e <;> simp only [opFdiv] <;> first | exact .bad | exact (Calm.ok _).guard
  · cases d <;> cases e <;> simp only [opMod] <;> first | exact .bad | exact (Calm.ok _).guard
  · cases d <;> cases e <;> simp only [opPow] <;> first | exact .bad | exact (Calm.ok _).guard
  · exact (Calm.ok _).guard
  · exact (Calm.ok _).guard
  · cases d <;> cases e <;> simp only [opLt] <;> first | exact .ok _ | exact .bad
  · cases d <;> cases e <;> simp only [opLe, cmpI] <;> first | exact .ok _ | exact .bad
  · cases d <;> cases e <;> simp only [opGt, cmpI] <;> first | exact .ok _ | exact .bad
  · cases d <;> cases e <;> simp only [opGe, cmpI] <;> first | exact .ok _ | exact .bad
  · exact calm_is d e
  · exact (calm_is d e).not
  · exact calm_in d e
  · exact (calm_in d e).not
theorem ix_calm (d e : D) : Calm (ixD d e) := by
  cases d <;> cases e <;> simp only [ixD] <;> first | exact .bad | skip
  all_goals split <;> first | exact .ok _ | exact .bad | exact (Calm.ok _).guard
theorem sl_calm (d : D) (lo hi : Option Int) : Calm (slD d lo hi) := by
  cases d <;> simp only [slD] <;> first | exact .ok _ | exact .bad
theorem isi_calm (d : D) (t : Ty) : Calm (isiD d t) := by
  cases t <;> cases d <;> simp only [isiD] <;> first | exact .ok _ | exact .bad
theorem bi_calm (b : Bi) (ds : List D) : Calm (biD b ds) := by
  unfold biD
  split <;> first | exact .ok _ | exact .bad | exact (Calm.ok _).guard | skip
  all_goals split <;> first | exact .ok _ | exact .bad | exact (Calm.ok _).guard

section
variable {X : Cx} {cad : Nat → Addr} {W : WX} {b : Bool}
abbrev LX (X : Cx) (cad : Nat → Addr) : LW := ⟨X.K, cad⟩
abbrev PM (X : Cx) (cad : Nat → Addr) (W : WX) (b : Bool) (pe : PySem.Expr) (r : Envd → R D) : Prop := PE X pe (tM (LX X cad) W b r)
theorem post_V {U : List Addr} {σ : L2.St} {H : Hp} {r : R D} {Q : VK} {b : Bool} (c : Calm r) (h : post (LX X cad) W b U σ H r Q) : postV X.K cad U H r Q := by
  cases r with
  | ok d => exact fun H' v e q => h H' v e q.toM
  | exn k => exact absurd rfl (c k)
  | bad => exact h
theorem postV_imp {K : PySem.W.Frag} {U : List Addr} {H : Hp} {r : R D} {Q Q' : VK} (h : postV K cad U H r Q) (w : ∀ v H', Q v H' → Q' v H') : postV K cad U H r Q' := by
  cases r with
  | ok d => exact fun H' v e q => w _ _ (h H' v e q)
  | exn k => exact h
  | bad => exact h
/-- nothing happens -/
theorem post_pure {U : List Addr} {σ : L2.St} {H : Hp} {d : D} {Q : VK} {b : Bool} {v : V} (h : post (LX X cad) W b U σ H (.ok d) Q) (r : Rep X.K cad U H d v) : Q v H := h H v (Ex.refl _ _) r.toM

theorem sd_int {i : Int} {j : Nat} {pos : Pos} : PM X cad W b (.Constant (.int i) j pos) (fun _ => .ok (.int i)) :=
  PE.by pe_int fun σ H Q o ⟨U, env, E, p⟩ => fun _ => post_pure p (rep_int i)
theorem sd_bl {i : Bool} {j : Nat} {pos : Pos} : PM X cad W b (.Constant (.bool i) j pos) (fun _ => .ok (.bl i)) :=
  PE.by pe_bl fun σ H Q o ⟨U, env, E, p⟩ => fun _ => post_pure p (rep_bl i)
theorem sd_non {j : Nat} {pos : Pos} : PM X cad W b (.Constant .none j pos) (fun _ => .ok .non) :=
  PE.by pe_non fun σ H Q o ⟨U, env, E, p⟩ => fun _ => post_pure p rep_non
theorem sd_str {i : Str} {j : Nat} {pos : Pos} : PM X cad W b (.Constant (.str i) j pos) (fun _ => .ok (.str i)) :=
  PE.by pe_str fun σ H Q o ⟨U, env, E, p⟩ => fun _ => post_pure p (rep_str i)
theorem sd_var {i : Nat} {x : Str} {pos : Pos} (hN : X.N[i]? = some x) (hv : Vis X.env.scope x) (hd : (x == ("__debug__" : Str)) = false) (hcd : (x == ("__classdict__" : Str)) = false) :
    PM X cad W b (.Name x pos) (fun env => slot b env i) := by
  refine PE.by (pe_var (i := i) hN hv hd hcd) fun σ H Q o h => ?_
  obtain ⟨U, env, E, p⟩ := h
  dsimp only at p
  unfold slot at p
  cases q : env[i]? with
  | none => rw [q] at p; exact False.elim p
  | some s =>
    have sr := E.sl i s q
    rw [q] at p
    cases s with
    | un => exact False.elim p
    | im d =>
      obtain ⟨v, h1, h2⟩ := sr
      exact ⟨v, h1, fun _ => post_pure p h2⟩
    | ow d =>
      obtain ⟨a, h1, h2, h3⟩ := sr
      cases b with
      | false => exact False.elim p
      | true =>
        refine ⟨_, h1, fun _ => p H _ (Ex.refl _ _) ?_⟩
        show RepM X.K cad true U H d (.ref a)
        unfold RepM
        rw [if_pos rfl]
        cases d <;> simp only [Own] at h3 <;> first | exact False.elim h3 | skip
        · obtain ⟨vs, q1, q2⟩ := h3
          simp only [RepB]; exact ⟨a, vs, rfl, q1, q2⟩
        · obtain ⟨vs, q1, q2⟩ := h3
          simp only [RepB]
          refine ⟨a, vs, rfl, ?_, q2⟩
          rcases q1 with ⟨kk, z1, z2, z3⟩ | ⟨kk, z1, z2, z3⟩
          · exact .inl ⟨kk, z1, z2, .inl z3⟩
          · exact .inr ⟨kk, z1, z2, .inl z3⟩
theorem sd_glob {x : Str} {v : V} {u : Value} {d : D} {pos : Pos} (hg : Gl X x) (hm : X.mg x = some u) (r : RelV v u) (hd : (x == ("__debug__" : Str)) = false) (hr : ∀ U H, Rep X.K cad U H d v) :
    PM X cad W b (.Name x pos) (fun _ => .ok d) :=
  PE.by (pe_glob hg hm r hd) fun σ H Q o ⟨U, env, E, p⟩ => fun _ => post_pure p (hr U H)
variable {p q s : PySem.Expr} {pos : Pos} {ra rb rc : Envd → R D}
theorem sd_op {f : D → D → R D} {t : R2 → TE → TE → TE} {pe : PySem.Expr} {r : R2} (hr : r = rD2 X.K cad f) (hf : ∀ d e, Calm (f d e)) (h : PE X pe (tOp r (tM (LX X cad) W true ra) (tM (LX X cad) W true rb))) :
    PM X cad W b pe (fun env => (ra env).bind fun d => (rb env).bind fun e => f d e) := by
  subst hr
  refine PE.by h fun σ H Q o hq => ?_
  obtain ⟨U, env, E, p⟩ := hq
  dsimp only at p
  refine tM_bind (b := true) E p fun d v H1 e1 E1 r1 p1 => ?_
  refine tM_bind (b := true) E1 p1 fun e u H2 e2 E2 r2 p2 => ?_
  exact ⟨U, d, e, E2.nt, (r1.ext E1.nt e2.ext).toB, r2.toB, postV_imp (post_V (hf d e) p2) fun v H' q _ => q⟩
/-- the reading of an operator -/
theorem le_op {f : D → D → R D} (hf : ∀ d e, Calm (f d e)) {σ : L2.St} {H : Hp} {Q : VK} (h : tM (LX X cad) W b (fun env => (ra env).bind fun d => (rb env).bind fun e => f d e) σ H Q) :
    tOp (rD2 X.K cad f) (tM (LX X cad) W true ra) (tM (LX X cad) W true rb) σ H Q := by
  obtain ⟨U, env, E, p⟩ := h
  dsimp only at p
  refine tM_bind (b := true) E p fun d v H1 e1 E1 r1 p1 => ?_
  refine tM_bind (b := true) E1 p1 fun e u H2 e2 E2 r2 p2 => ?_
  exact ⟨U, d, e, E2.nt, (r1.ext E1.nt e2.ext).toB, r2.toB, post_V (hf d e) p2⟩
theorem PE.le {e : PySem.Expr} {t t' : TE} (h : PE X e t) (w : ∀ σ H Q, t' σ H Q → t σ H Q) : PE X e t' := ⟨fun pins s σ H Q I q => h.run pins s σ H Q I (w σ H Q q)⟩
theorem PT.le {e : PySem.Expr} {t t' : TT} (h : PT X e t) (w : ∀ σ H Q, t' σ H Q → t σ H Q) : PT X e t' := ⟨fun pins s σ H Q I q => h.run pins s σ H Q I (w σ H Q q)⟩
theorem PA.le {e : List PySem.Expr} {t t' : TA} (h : PA X e t) (w : ∀ σ H Q, t' σ H Q → t σ H Q) : PA X e t' := ⟨fun pos pins s σ H Q I q => h.run pos pins s σ H Q I (w σ H Q q)⟩
theorem sd_bin {op : Operator} {f : D → D → R D} (ho : OpR X (binaryOp op) (rD2 X.K cad f)) (hf : ∀ d e, Calm (f d e)) (ha : PM X cad W true p ra) (hb : PM X cad W true q rb) :
    PM X cad W b (.BinOp p op q pos) (fun env => (ra env).bind fun d => (rb env).bind fun e => f d e) :=
  PE.le (pe_op ho ha hb) fun σ H Q h => le_op hf h
theorem sd_cmp {op : CmpOp} {f : D → D → R D} (ho : OpR X (compareOp op) (rD2 X.K cad f)) (hf : ∀ d e, Calm (f d e)) (ha : PM X cad W true p ra) (hb : PM X cad W true q rb) (hm : behindInMarks op q = false) :
    PM X cad W b (.Compare p [op] [q] pos) (fun env => (ra env).bind fun d => (rb env).bind fun e => f d e) :=
  PE.le (pe_cmpR ho ha hb hm) fun σ H Q h => le_op hf h
/-- a test by its value -/
theorem tT_tM {r : Envd → R D} {σ : L2.St} {H : Hp} {Q : Bool → Hp → Prop} (h : tT (LX X cad) W (fun env => (r env).toB) σ H Q) : tM (LX X cad) W false r σ H fun v H' => ∃ k, v = .bl k ∧ Q k H' := by
  obtain ⟨U, env, E, p⟩ := h
  dsimp only at p
  refine ⟨U, env, E, ?_⟩
  cases e : r env with
  | ok d =>
    rw [e] at p
    cases d <;> simp only [R.toB] at p <;> first | exact False.elim p | skip
    rename_i k
    intro H1 v e1 r1
    have : v = .bl k := repB_bl r1.toB
    exact ⟨k, this, p H1 e1⟩
  | exn c => rw [e] at p; exact p
  | bad => rw [e] at p; exact p
theorem st_cmp {op : CmpOp} {f : D → D → R D} (ho : OpR X (compareOp op) (rD2 X.K cad f)) (hf : ∀ d e, Calm (f d e)) (ha : PM X cad W true p ra) (hb : PM X cad W true q rb) (hm : behindInMarks op q = false) :
    PT X (.Compare p [op] [q] pos) (tT (LX X cad) W fun env => ((ra env).bind fun d => (rb env).bind fun e => f d e).toB) :=
  PT.le (pt_cmpR ho ha hb hm) fun σ H Q h => le_op (b := false) hf (tT_tM h)
theorem st_val {pe : PySem.Expr} {r : Envd → R D} (h : PM X cad W false pe r) (he : ∀ whole, isTrue pe X.env whole = (do let v ← whole; standAt pe.pos; holding [v] (truthy v))) :
    PT X pe (tT (LX X cad) W fun env => (r env).toB) :=
  PT.le (pt_val h he) fun σ H Q h => tT_tM h
/-- two comparisons in a row -/
theorem le_chain {f g : D → D → R D} (hf : ∀ d e, Calm (f d e)) (hg : ∀ d e, Calm (g d e)) {σ : L2.St} {H : Hp} {Q : VK}
    (h : tM (LX X cad) W b (fun env => (ra env).bind fun d => (rb env).bind fun e => andR (f d e) ((rc env).bind fun z => g e z)) σ H Q) :
    tChain (rD2 X.K cad f) (rD2 X.K cad g) (tM (LX X cad) W true ra) (tM (LX X cad) W true rb) (tM (LX X cad) W true rc) σ H Q := by
  obtain ⟨U, env, E, p⟩ := h
  dsimp only at p
  refine tM_bind (b := true) E p fun d v H1 e1 E1 r1 p1 => ?_
  refine tM_bind (b := true) E1 p1 fun e u H2 e2 E2 r2 p2 => ?_
  refine ⟨U, d, e, E2.nt, (r1.ext E1.nt e2.ext).toB, r2.toB, ?_⟩
  have p3 := post_V (X := X) (hf d e) (post_bind (b := false) p2)
  refine postV_imp p3 fun v3 H3 hq => ?_
  obtain ⟨z, ez, e3, r3, p4⟩ := hq
  cases z <;> first | exact False.elim p4 | skip
  rename_i k
  refine ⟨k, repB_bl r3.toB, ?_⟩
  cases k with
  | true =>
    rw [if_pos rfl]
    have E3 := E2.ext e3
    refine tM_bind (b := true) E3 p4 fun z w H4 e4 E4 r4 p5 => ?_
    exact ⟨U, e, z, E4.nt, ((r2.ext E2.nt e3.ext).ext E3.nt e4.ext).toB, r4.toB, post_V (hg e z) p5⟩
  | false =>
    rw [if_neg (by simp)]
    exact post_pure p4 (rep_bl false)
theorem sd_chain {o1 o2 : CmpOp} {f g : D → D → R D} (h1 : OpR X (compareOp o1) (rD2 X.K cad f)) (h2 : OpR X (compareOp o2) (rD2 X.K cad g)) (hf : ∀ d e, Calm (f d e)) (hg : ∀ d e, Calm (g d e))
    (ha : PM X cad W true p ra) (hb : PM X cad W true q rb) (hc : PM X cad W true s rc) (hm : lastMarks [o1, o2] [q, s] = false) :
    PM X cad W b (.Compare p [o1, o2] [q, s] pos) (fun env => (ra env).bind fun d => (rb env).bind fun e => andR (f d e) ((rc env).bind fun z => g e z)) :=
  PE.le (pe_chain h1 h2 ha hb hc hm) fun σ H Q h => le_chain hf hg h
theorem st_chain {o1 o2 : CmpOp} {f g : D → D → R D} (h1 : OpR X (compareOp o1) (rD2 X.K cad f)) (h2 : OpR X (compareOp o2) (rD2 X.K cad g)) (hf : ∀ d e, Calm (f d e)) (hg : ∀ d e, Calm (g d e))
    (ha : PM X cad W true p ra) (hb : PM X cad W true q rb) (hc : PM X cad W true s rc) (hm : lastMarks [o1, o2] [q, s] = false) :
    PT X (.Compare p [o1, o2] [q, s] pos) (tT (LX X cad) W fun env => ((ra env).bind fun d => (rb env).bind fun e => andR (f d e) ((rc env).bind fun z => g e z)).toB) :=
  PT.le (pt_chain h1 h2 ha hb hc hm) fun σ H Q h => le_chain (b := false) hf hg (tT_tM h)
theorem sd_neg (ha : PM X cad W true p ra) : PM X cad W b (.UnaryOp .USub p pos) (fun env => (ra env).bind negD) := by
  refine PE.le (pe_un un_neg ha) fun σ H Q h => ?_
  obtain ⟨U, env, E, p⟩ := h
  dsimp only at p
  refine tM_bind (b := true) E p fun d v H1 e1 E1 r1 p1 => ?_
  cases d <;> simp only [negD] at p1 <;> first | exact False.elim p1 | skip
  exact ⟨_, repB_int r1.toB, post_pure p1 (rep_int _)⟩
theorem R.not_bind (r : R D) : r.not = r.bind fun d => match d with | .bl b => .ok (.bl (!b)) | _ => .bad := by
  cases r with
  | ok d => cases d <;> rfl
  | exn c => rfl
  | bad => rfl
theorem sd_not (ha : PM X cad W false p ra) : PM X cad W b (.UnaryOp .Not p pos) (fun env => (ra env).not) := by
  refine PE.le (pe_not ha) fun σ H Q h => ?_
  obtain ⟨U, env, E, p⟩ := h
  dsimp only at p
  rw [R.not_bind] at p
  refine tM_bind (b := false) E p fun d v H1 e1 E1 r1 p1 => ?_
  cases d <;> simp only at p1 <;> first | exact False.elim p1 | skip
  exact ⟨_, repB_bl r1.toB, post_pure p1 (rep_bl _)⟩
theorem st_not (ha : PT X p (tT (LX X cad) W fun env => (ra env).toB)) : PT X (.UnaryOp .Not p pos) (tT (LX X cad) W fun env => ((ra env).not).toB) := by
  refine PT.le (pt_not ha) fun σ H Q h => ?_
  obtain ⟨U, env, E, p⟩ := h
  dsimp only at p
  refine ⟨U, env, E, ?_⟩
  dsimp only
  cases e : ra env with
  | ok d =>
    rw [e] at p
    cases d <;> first | exact False.elim p | exact fun H1 e1 => p H1 e1
  | exn c => rw [e] at p; exact p
  | bad => rw [e] at p; exact p
theorem post_mode {U : List Addr} {σ : L2.St} {H : Hp} {r : R D} {Q : VK} (h : post (LX X cad) W b U σ H r Q) : post (LX X cad) W false U σ H r Q := by
  cases r with
  | ok d => exact fun H' v e q => h H' v e (RepM.of q).toM
  | exn c => exact h
  | bad => exact h
theorem sd_and {rest : List PySem.Expr} (ha : PM X cad W false p ra) (hb : PM X cad W false (.BoolOp .And (q :: rest) pos) rb) : PM X cad W b (.BoolOp .And (p :: q :: rest) pos) (fun env => andR (ra env) (rb env)) := by
  refine PE.le (pe_and ha hb) fun σ H Q h => ?_
  obtain ⟨U, env, E, p⟩ := h
  dsimp only at p
  refine tM_bind (b := false) E p fun d v H1 e1 E1 r1 p1 => ?_
  cases d <;> first | exact False.elim p1 | skip
  rename_i k
  refine ⟨k, repB_bl r1.toB, ?_⟩
  cases k with
  | true => rw [if_pos rfl]; exact ⟨U, env, E1, post_mode p1⟩
  | false => rw [if_neg (by simp)]; exact post_pure p1 (rep_bl false)
theorem sd_or {rest : List PySem.Expr} (ha : PM X cad W false p ra) (hb : PM X cad W false (.BoolOp .Or (q :: rest) pos) rb) : PM X cad W b (.BoolOp .Or (p :: q :: rest) pos) (fun env => orR (ra env) (rb env)) := by
  refine PE.le (pe_or ha hb) fun σ H Q h => ?_
  obtain ⟨U, env, E, p⟩ := h
  dsimp only at p
  refine tM_bind (b := false) E p fun d v H1 e1 E1 r1 p1 => ?_
  cases d <;> first | exact False.elim p1 | skip
  rename_i k
  refine ⟨k, repB_bl r1.toB, ?_⟩
  cases k with
  | true => rw [if_pos rfl]; exact post_pure p1 (rep_bl true)
  | false => rw [if_neg (by simp)]; exact ⟨U, env, E1, post_mode p1⟩
theorem sd_one {op : PySem.BoolOp} (ha : PM X cad W b p ra) : PM X cad W b (.BoolOp op [p] pos) ra := pe_one ha
theorem postT_bind {U : List Addr} {σ : L2.St} {H : Hp} {x : R Bool} {f : Bool → R Bool} {Q : Bool → Hp → Prop} (h : postT (LX X cad) W U σ H (x.bind f) Q) :
    postT (LX X cad) W U σ H x fun k H1 => Ex U H H1 ∧ postT (LX X cad) W U σ H1 (f k) Q := by
  cases x with
  | ok k =>
    intro H1 e1
    refine ⟨e1, ?_⟩
    rw [R.bind_ok] at h
    cases q : f k with
    | ok d2 => rw [q] at h; exact fun H2 e2 => h H2 (e1.trans e2)
    | exn c => rw [q] at h; exact fun H2 e2 => h H2 (e1.trans e2)
    | bad => rw [q] at h; exact h
  | exn c => exact h
  | bad => exact h
theorem tT_bind {U : List Addr} {env : Envd} {σ : L2.St} {H : Hp} {x : Envd → R Bool} {f : Bool → R Bool} {Q Q' : Bool → Hp → Prop} (E : ERep X.K cad U env σ H) (h : postT (LX X cad) W U σ H ((x env).bind f) Q)
    (w : ∀ k H1, Ex U H H1 → ERep X.K cad U env σ H1 → postT (LX X cad) W U σ H1 (f k) Q → Q' k H1) : tT (LX X cad) W x σ H Q' := by
  refine ⟨U, env, E, ?_⟩
  have p := postT_bind h
  cases e : x env with
  | ok k => rw [e] at p; exact fun H1 e1 => w k H1 e1 (E.ext e1) (p H1 e1).2
  | exn c => rw [e] at p; exact p
  | bad => rw [e] at p; exact p
theorem andR_toB (x y : R D) : (andR x y).toB = x.toB.bind fun k => if k = true then y.toB else .ok false := by
  cases x with
  | ok d =>
    cases d <;> first | rfl | skip
    rename_i k
    cases k <;> rfl
  | exn c => rfl
  | bad => rfl
theorem orR_toB (x y : R D) : (orR x y).toB = x.toB.bind fun k => if k = true then .ok true else y.toB := by
  cases x with
  | ok d =>
    cases d <;> first | rfl | skip
    rename_i k
    cases k <;> rfl
  | exn c => rfl
  | bad => rfl
abbrev PTM (X : Cx) (cad : Nat → Addr) (W : WX) (pe : PySem.Expr) (r : Envd → R D) : Prop := PT X pe (tT (LX X cad) W fun env => (r env).toB)
abbrev PWM (X : Cx) (cad : Nat → Addr) (W : WX) (pe : PySem.Expr) (r : Envd → R D) : Prop := PW X pe (tT (LX X cad) W fun env => (r env).toB)
theorem PW.le {e : PySem.Expr} {t t' : TT} (h : PW X e t) (w : ∀ σ H Q, t' σ H Q → t σ H Q) : PW X e t' := ⟨fun whole pins s σ H Q I q => h.run whole pins s σ H Q I (w σ H Q q)⟩
theorem sw_and {rest : List PySem.Expr} (ha : PTM X cad W p ra) (hb : PWM X cad W (.BoolOp .And (q :: rest) pos) rb) : PWM X cad W (.BoolOp .And (p :: q :: rest) pos) (fun env => andR (ra env) (rb env)) := by
  refine PW.le (pw_and ha hb) fun σ H Q h => ?_
  obtain ⟨U, env, E, p⟩ := h
  dsimp only at p
  rw [andR_toB] at p
  refine tT_bind E p fun k H1 e1 E1 p1 => ?_
  cases k with
  | true => rw [if_pos rfl] at p1 ⊢; exact ⟨U, env, E1, p1⟩
  | false => rw [if_neg (by simp)] at p1 ⊢; exact p1 H1 (Ex.refl _ _)
theorem sw_or {rest : List PySem.Expr} (ha : PTM X cad W p ra) (hb : PWM X cad W (.BoolOp .Or (q :: rest) pos) rb) : PWM X cad W (.BoolOp .Or (p :: q :: rest) pos) (fun env => orR (ra env) (rb env)) := by
  refine PW.le (pw_or ha hb) fun σ H Q h => ?_
  obtain ⟨U, env, E, p⟩ := h
  dsimp only at p
  rw [orR_toB] at p
  refine tT_bind E p fun k H1 e1 E1 p1 => ?_
  cases k with
  | true => rw [if_pos rfl] at p1 ⊢; exact p1 H1 (Ex.refl _ _)
  | false => rw [if_neg (by simp)] at p1 ⊢; exact ⟨U, env, E1, p1⟩
theorem iteR_eq (c x y : R D) : iteR c x y = match c.toB with | .ok true => x | .ok false => y | .exn k => .exn k | .bad => .bad := by
  cases c with
  | ok d =>
    cases d <;> first | rfl | skip
    rename_i k
    cases k <;> rfl
  | exn c => rfl
  | bad => rfl
theorem sd_ite (hc : PTM X cad W s rc) (ha : PM X cad W false p ra) (hb : PM X cad W false q rb) : PM X cad W b (.IfExp s p q pos) (fun env => iteR (rc env) (ra env) (rb env)) := by
  refine PE.le (pe_ifExp hc ha hb) fun σ H Q h => ?_
  obtain ⟨U, env, E, p⟩ := h
  dsimp only at p
  rw [iteR_eq] at p
  refine ⟨U, env, E, ?_⟩
  dsimp only
  cases e : (rc env).toB with
  | ok k =>
    rw [e] at p
    intro H1 e1
    have mv : ∀ {r : R D}, post (LX X cad) W b U σ H r Q → post (LX X cad) W false U σ H1 r Q := fun {r} h => by
      cases r with
      | ok d => exact fun H2 v e2 q => h H2 v (e1.trans e2) (RepM.of q).toM
      | exn c => exact fun H2 e2 => h H2 (e1.trans e2)
      | bad => exact h
    cases k with
    | true => rw [if_pos rfl]; exact ⟨U, env, E.ext e1, mv p⟩
    | false => rw [if_neg (by simp)]; exact ⟨U, env, E.ext e1, mv p⟩
  | exn c => rw [e] at p; exact p
  | bad => rw [e] at p; exact p
theorem iteR_toB (c x y : R D) : (iteR c x y).toB = c.toB.bind fun k => if k = true then x.toB else y.toB := by
  cases c with
  | ok d =>
    cases d <;> first | rfl | skip
    rename_i k
    cases k <;> rfl
  | exn c => rfl
  | bad => rfl
/-- isTrue of a conditional expression -/
def tIfT (t : TT) (ta tb : TT) : TT := fun σ H Q => t σ H fun c H1 => if c = true then ta σ H1 Q else tb σ H1 Q
theorem pt_ifExp {c a b : PySem.Expr} {tc ta tb : TT} (hc : PT X c tc) (ha : PT X a ta) (hb : PT X b tb) : PT X (.IfExp c a b pos) (tIfT tc ta tb) := by
  refine ⟨fun pins s σ H Q I h => ?_⟩
  show wpAny _ _ (do if ← isTrue c X.env (eval c X.env) then isTrue a X.env (eval a X.env) else isTrue b X.env (eval b X.env)) _ _ s
  refine wpAny_bind (thn (hc.run pins s σ H _ I h) fun k s1 hk => ?_)
  obtain ⟨H1, I1, q1⟩ := hk
  cases k with
  | true => exact ha.run pins s1 σ H1 Q I1 q1
  | false => exact hb.run pins s1 σ H1 Q I1 q1
theorem st_ite (hc : PTM X cad W s rc) (ha : PTM X cad W p ra) (hb : PTM X cad W q rb) : PTM X cad W (.IfExp s p q pos) (fun env => iteR (rc env) (ra env) (rb env)) := by
  refine PT.le (pt_ifExp hc ha hb) fun σ H Q h => ?_
  obtain ⟨U, env, E, p⟩ := h
  dsimp only at p
  rw [iteR_toB] at p
  refine tT_bind E p fun k H1 e1 E1 p1 => ?_
  cases k with
  | true => rw [if_pos rfl] at p1 ⊢; exact ⟨U, env, E1, p1⟩
  | false => rw [if_neg (by simp)] at p1 ⊢; exact ⟨U, env, E1, p1⟩
end
end DL
namespace DL
open PySem PySem.Spec PyProof.Rows L2 

/-! ### lists of expressions -/
section
variable {X : Cx} {cad : Nat → Addr} {W : WX} {b : Bool}
theorem star1 {e : PySem.Expr} (h : noStar e = true) (es : List PySem.Expr) (env : Env) : starEach (e :: es) env = (false, eval e env) :: starEach es env := by
  cases e <;> first | rfl | (simp [noStar] at h)
def noStars : List PySem.Expr → Bool
  | [] => true
  | e :: es => noStar e && noStars es
theorem stars {pos : Pos} (env : Env) : ∀ {es : List PySem.Expr}, noStars es = true → (backTo pos (starEach es env)).any (·.1) = false
  | [], _ => rfl
  | e :: es, h => by
    rw [noStars, Bool.and_eq_true] at h
    rw [star1 h.1]
    show (backTo pos ((false, eval e env) :: starEach es env)).any (·.1) = false
    have ih := stars (pos := pos) env h.2
    simp only [backTo, List.map_cons, List.any_cons, Bool.false_or] at ih ⊢
    exact ih
theorem paired_reps {K : PySem.W.Frag} {U : List Addr} {H : Hp} : ∀ {ds : List D} {vs : List V}, Paired (Rep K cad U H) ds vs → Reps K cad U H ds vs
  | _, _, .nil => by simp [Reps]
  | _, _, .cons r t => by simp only [Reps]; exact ⟨_, _, rfl, r, paired_reps t⟩
theorem paired_repsM {K : PySem.W.Frag} {U : List Addr} {H : Hp} {ds : List D} {vs : List V} (h : Paired (RepM K cad false U H) ds vs) : Reps K cad U H ds vs := paired_reps h
theorem Paired.mapQ {α β : Type} {F G : α → β → Prop} : ∀ {l₁ : List α} {l₂ : List β}, Paired F l₁ l₂ → (∀ a b, F a b → G a b) → Paired G l₁ l₂
  | _, _, .nil, _ => .nil
  | _, _, .cons r t, f => .cons (f _ _ r) (Paired.mapQ t f)
abbrev PAM (X : Cx) (cad : Nat → Addr) (W : WX) (b : Bool) (ps : List PySem.Expr) (r : Envd → R (List D)) : Prop := PA X ps (tAs (LX X cad) W b r)
theorem sa_nil : PAM X cad W b [] (fun _ => .ok []) := PA.le pa_nil fun σ H Q ⟨U, env, E, p⟩ => p H [] (Ex.refl _ _) .nil
theorem sa_cons {p : PySem.Expr} {ps : List PySem.Expr} {r : Envd → R D} {rs : Envd → R (List D)} (hp : PM X cad W b p r) (hps : PAM X cad W b ps rs) (hs : noStar p = true) :
    PAM X cad W b (p :: ps) (fun env => (r env).bind fun d => (rs env).bind fun ds => .ok (d :: ds)) := by
  refine PA.le (pa_cons hp hps (star1 hs ps X.env)) fun σ H Q h => ?_
  obtain ⟨U, env, E, p⟩ := h
  dsimp only at p
  refine ⟨U, env, E, ?_⟩
  cases e : r env with
  | exn c => rw [e] at p; exact p
  | bad => rw [e] at p; exact p
  | ok d =>
    rw [e] at p
    intro H1 v e1 r1
    have E1 := E.ext e1
    refine ⟨U, env, E1, ?_⟩
    rw [R.bind_ok] at p
    cases es : rs env with
    | exn c => rw [es] at p; exact fun H2 e2 => p H2 (e1.trans e2)
    | bad => rw [es] at p; exact p
    | ok ds =>
      rw [es] at p
      exact fun H2 vs e2 r2 => p H2 (v :: vs) (e1.trans e2) (.cons (r1.ext E1.nt e2.ext) r2)
theorem postA_bind {U : List Addr} {σ : L2.St} {H : Hp} {r : R (List D)} {f : List D → R D} {Q : VK} {b b' : Bool} (h : post (LX X cad) W b' U σ H (r.bind f) Q) :
    postA (LX X cad) W b U σ H r fun vs H1 => ∃ ds, r = .ok ds ∧ Ex U H H1 ∧ Paired (RepM X.K cad b U H1) ds vs ∧ post (LX X cad) W b' U σ H1 (f ds) Q := by
  cases r with
  | ok d =>
    intro H1 v e1 r1
    refine ⟨d, rfl, e1, r1, ?_⟩
    rw [R.bind_ok] at h
    cases q : f d with
    | ok d2 => rw [q] at h; exact fun H2 v2 e2 r2 => h H2 v2 (e1.trans e2) r2
    | exn c => rw [q] at h; exact fun H2 e2 => h H2 (e1.trans e2)
    | bad => rw [q] at h; exact h
  | exn c => exact h
  | bad => exact h
theorem postA_imp {U : List Addr} {σ : L2.St} {H : Hp} {r : R (List D)} {Q Q' : List V → Hp → Prop} (h : postA (LX X cad) W b U σ H r Q) (w : ∀ v H', Q v H' → Q' v H') : postA (LX X cad) W b U σ H r Q' := by
  cases r with
  | ok d => exact fun H1 v e1 r1 => w _ _ (h H1 v e1 r1)
  | exn c => exact h
  | bad => exact h
theorem tA_bind {b' : Bool} {U : List Addr} {σ : L2.St} {H : Hp} {env : Envd} {rs : Envd → R (List D)} {f : List D → R D} {Q : VK} (E : ERep X.K cad U env σ H) (h : post (LX X cad) W b' U σ H ((rs env).bind f) Q)
    {Q' : List V → Hp → Prop} (w : ∀ ds vs H1, Ex U H H1 → ERep X.K cad U env σ H1 → Paired (RepM X.K cad b U H1) ds vs → post (LX X cad) W b' U σ H1 (f ds) Q → Q' vs H1) : tAs (LX X cad) W b rs σ H Q' :=
  ⟨U, env, E, postA_imp (postA_bind (b := b) h) fun vs H1 ⟨ds, _, e1, r1, p⟩ => w ds vs H1 e1 (E.ext e1) r1 p⟩
variable {ps : List PySem.Expr} {rs : Envd → R (List D)} {pos : Pos} {p q : PySem.Expr} {ra rb rc : Envd → R D}
theorem sd_tup {k : Nat} (h : PAM X cad W false ps rs) : PM X cad W b (.Tuple ps k pos) (fun env => (rs env).bind fun ds => guard (decide (ds.length ≤ SZ)) (.ok (.tup ds))) := by
  refine PE.le (pe_tup h) fun σ H Q hq => ?_
  obtain ⟨U, env, E, p⟩ := hq
  refine tA_bind (b := false) E p fun ds vs H1 e1 E1 r1 p1 => ?_
  have p2 := post_V (X := X) (Calm.guard (Calm.ok (.tup ds))) p1
  obtain ⟨g, p2⟩ := p2.guard
  have rr := paired_repsM r1
  exact ⟨by rw [SZ_eq, ← rr.length]; exact of_decide_eq_true g, fun a ha => p2.newT E1.nt rr ha⟩
theorem sd_lst (h : PAM X cad W false ps rs) : PM X cad W b (.List ps pos) (fun env => (rs env).bind fun ds => guard (decide (ds.length ≤ SZ)) (.ok (.lst ds))) := by
  refine PE.le (pe_lst h) fun σ H Q hq => ?_
  obtain ⟨U, env, E, p⟩ := hq
  refine tA_bind (b := false) E p fun ds vs H1 e1 E1 r1 p1 => ?_
  have p2 := post_V (X := X) (Calm.guard (Calm.ok (.lst ds))) p1
  obtain ⟨g, p2⟩ := p2.guard
  have rr := paired_repsM r1
  exact ⟨by rw [SZ_eq, ← rr.length]; exact of_decide_eq_true g, fun a ha => p2.newL E1.nt rr ha⟩
theorem plainIx {e : PySem.Expr} (h : notSlice e = true) : PlainIx e := by
  cases e <;> first | (intro o i; rfl) | (simp [notSlice] at h)
theorem sd_idx (ha : PM X cad W true p ra) (hb : PM X cad W true q rb) (hs : notSlice q = true) : PM X cad W b (.Subscript p q pos) (fun env => (ra env).bind fun d => (rb env).bind fun e => ixD d e) :=
  PE.le (pe_ix (ixr (cad := cad)) ha hb (plainIx hs)) fun σ H Q h => le_op ix_calm h
/-- a slice's part -/
abbrev POM (X : Cx) (cad : Nat → Addr) (W : WX) (o : Option PySem.Expr) (r : Envd → R (Option Int)) : Prop :=
  PO X o fun σ H Q => ∃ U env, ERep X.K cad U env σ H ∧ match r env with
    | .ok z => ∀ H', Ex U H H' → Q z H'
    | .exn c => ∀ H', Ex U H H' → W (.ref (cad c)) none σ H'
    | .bad => False
theorem PO.le {o : Option PySem.Expr} {t t' : TO} (h : PO X o t) (w : ∀ σ H Q, t' σ H Q → t σ H Q) : PO X o t' := ⟨fun pins s σ H Q I q => h.run pins s σ H Q I (w σ H Q q)⟩
theorem so_none : POM X cad W none (fun _ => .ok none) := PO.le po_none fun σ H Q ⟨U, env, E, p⟩ => p H (Ex.refl _ _)
theorem so_some (ha : PM X cad W false p ra) : POM X cad W (some p) (fun env => (ra env).bind partI) := by
  refine PO.le (po_some ha) fun σ H Q h => ?_
  obtain ⟨U, env, E, pp⟩ := h
  dsimp only at pp
  refine ⟨U, env, E, ?_⟩
  cases e : ra env with
  | exn c => rw [e] at pp; exact pp
  | bad => rw [e] at pp; exact pp
  | ok d =>
    rw [e, R.bind_ok] at pp
    intro H1 v e1 r1
    cases d <;> simp only [partI] at pp <;> first | exact False.elim pp | exact ⟨_, repB_int r1.toB, pp H1 e1⟩
theorem sd_sl {l h : Option PySem.Expr} {p2 : Pos} {rb rc : Envd → R (Option Int)} (ha : PM X cad W true p ra) (hl : POM X cad W l rb) (hh : POM X cad W h rc) :
    PM X cad W b (.Subscript p (.Slice l h none p2) pos) (fun env => (ra env).bind fun d => (rb env).bind fun l => (rc env).bind fun h => slD d l h) := by
  refine PE.le (pe_slice (slr (cad := cad)) ha hl hh) fun σ H Q h => ?_
  obtain ⟨U, env, E, pp⟩ := h
  refine tM_bind (b := true) E pp fun d v H1 e1 E1 r1 p1 => ?_
  refine ⟨U, env, E1, ?_⟩
  cases el : rb env with
  | exn c => rw [el] at p1; exact p1
  | bad => rw [el] at p1; exact p1
  | ok zl =>
    rw [el, R.bind_ok] at p1
    intro H2 e2
    refine ⟨U, env, E1.ext e2, ?_⟩
    cases eh : rc env with
    | exn c => rw [eh] at p1; exact fun H3 e3 => p1 H3 (e2.trans e3)
    | bad => rw [eh] at p1; exact False.elim p1
    | ok zh =>
      rw [eh, R.bind_ok] at p1
      intro H3 e3
      refine ⟨U, d, E1.nt.ext (e2.trans e3).ext, (r1.ext E1.nt (e2.trans e3).ext).toB, ?_⟩
      have p2 := post_V (X := X) (sl_calm d zl zh) p1
      cases es : slD d zl zh with
      | ok z => rw [es] at p2; exact fun H4 v e4 r4 => p2 H4 v ((e2.trans e3).trans e4) r4
      | exn c => exact absurd es (sl_calm d zl zh c)
      | bad => rw [es] at p2; exact p2
theorem reps_reverse {K : PySem.W.Frag} {U : List Addr} {H : Hp} : ∀ {ds : List D} {vs : List V}, Reps K cad U H ds vs → Reps K cad U H ds.reverse vs.reverse
  | [], vs, h => by simp only [Reps] at h; rw [h]; simp [Reps]
  | d :: ds, vs, h => by
    simp only [Reps] at h
    obtain ⟨v, r, rfl, h1, h2⟩ := h
    rw [List.reverse_cons, List.reverse_cons]
    refine Reps.append (reps_reverse h2) ?_
    simp only [Reps]; exact ⟨v, [], rfl, h1, rfl⟩
theorem sd_rev {k : Nat} {p1 p2 p3 : Pos} (ha : PM X cad W true p ra) : PM X cad W b (.Subscript p (.Slice none none (some (.UnaryOp .USub (.Constant (.int 1) k p1) p2)) p3) pos) (fun env => (ra env).bind revD) := by
  refine PE.le (pe_revL ha) fun σ H Q h => ?_
  obtain ⟨U, env, E, pp⟩ := h
  refine tM_bind (b := true) E pp fun d v H1 e1 E1 r1 p1 => ?_
  cases d <;> first | exact False.elim p1 | skip
  obtain ⟨a, vs, rfl, q1, q2⟩ := repB_lst r1.toB
  refine ⟨a, vs, rfl, SqL.of q1, fun x hx => ?_⟩
  have p2 := post_V (X := X) (Calm.ok _) p1
  refine p2.newL E1.nt (vs := vs.reverse) ?_ hx
  exact reps_reverse q2
/-! calls -/
end
/-- what a def promises: its function of data -/
def spD (K : PySem.W.Frag) (cad : Nat → Addr) (np : Nat) (Φ : List D → R D) : Sp := fun vs H Q E => vs.length = np ∧ ∃ U ds, NoTup U H ∧ Reps K cad U H ds vs ∧ post ⟨K, cad⟩ (fun cls d _ H => E cls d H) false U [] H (Φ ds) Q
/-- a def of the top that keeps its function -/
structure FnI (P : Program) (w : World) (K : PySem.W.Frag) (mg : Str → Option Value) (base : Heap) (cad : Nat → Addr) (k : Nat) (x : Str) (Φ : List D → R D) : Prop where
  dbg : (x == ("__debug__" : Str)) = false
  ex : ∃ (f : Addr) (fd : FuncData) (ps : List Str), mg x = some (.ref f) ∧ PySem.W.keepIn K (.ref f) = true ∧ Binds K fd ps [] ∧ FnOk P w K mg base (L2.CX P w) k f fd ps (spD K cad ps.length Φ) ∧ ∀ ds, Φ ds ≠ .bad → ds.length = ps.length
section
variable {X : Cx} {cad : Nat → Addr} {W : WX} {b : Bool} {p : PySem.Expr} {ps : List PySem.Expr} {rs : Envd → R (List D)} {pos p0 : Pos} {ra : Envd → R D}
theorem sd_call {x : Str} {k : Nat} {Φ : List D → R D} (F : FnI X.prog X.w X.K X.mg X.base cad k x Φ) (hr : Room k X.A) (hg : Gl X x) (tk : Takes X W) (ha : PAM X cad W false (p :: ps) rs) (hs : noStars (p :: ps) = true) :
    PM X cad W b (.Call (.Name x p0) (p :: ps) [] pos) (fun env => (rs env).bind Φ) := by
  obtain ⟨f, fd, pn, hm, hk, hb, G, hlen⟩ := F.ex
  rw [noStars, Bool.and_eq_true] at hs
  refine PE.le (pe_callS G hr hg hm hk hb (fun σ => passAt tk σ) ha F.dbg (star1 hs.1 ps X.env) (stars X.env hs.2)) fun σ H Q h => ?_
  obtain ⟨U, env, E, pp⟩ := h
  refine tA_bind (b := false) E pp fun ds vs H1 e1 E1 r1 p1 => ?_
  have rr := paired_repsM r1
  have nb : Φ ds ≠ .bad := fun e => by rw [e] at p1; exact p1
  refine ⟨by rw [← rr.length]; exact hlen ds nb, U, ds, E1.nt, rr, ?_⟩
  cases e : Φ ds with
  | ok d => rw [e] at p1; exact fun H2 v e2 r2 => p1 H2 v e2 (RepM.of r2).toM
  | exn c => rw [e] at p1; exact fun H2 e2 => p1 H2 e2
  | bad => exact absurd e nb
/-- a built-in function, a built-in class -/
theorem le_bi {f : List D → R D} (hf : ∀ ds, Calm (f ds)) {σ : L2.St} {H : Hp} {Q : VK} (h : tM (LX X cad) W b (fun env => (rs env).bind f) σ H Q) : tCB (rBi X.K cad f) (tAs (LX X cad) W true rs) σ H Q := by
  obtain ⟨U, env, E, pp⟩ := h
  refine tA_bind (b := true) E pp fun ds vs H1 e1 E1 r1 p1 => ?_
  exact ⟨U, ds, E1.nt, Paired.mapQ r1 fun d v q => q.toB, post_V (hf ds) p1⟩
theorem sd_biB {x : Str} {id : String} {f : List D → R D} (hc : CallR X (.builtin id) (rBi X.K cad f)) (hf : ∀ ds, Calm (f ds)) (hg : Gl X x) (hm : X.mg x = none) (hv : bootBuiltins x = some (.builtin id)) (ha : PAM X cad W true (p :: ps) rs) (hs : noStars (p :: ps) = true)
    (hn : x ≠ "__name__") (hd : (x == ("__debug__" : Str)) = false) : PM X cad W b (.Call (.Name x p0) (p :: ps) [] pos) (fun env => (rs env).bind f) := by
  rw [noStars, Bool.and_eq_true] at hs
  exact PE.le (pe_callB hc hg hm hv ha hn hd (star1 hs.1 ps X.env) (stars X.env hs.2)) fun σ H Q h => le_bi hf h
theorem sd_biT {x : Str} {id : String} {f : List D → R D} (hc : CallR X (.type id) (rBi X.K cad f)) (hf : ∀ ds, Calm (f ds)) (hg : Gl X x) (hm : X.mg x = none) (hv : bootBuiltins x = some (.type id)) (ha : PAM X cad W true (p :: ps) rs) (hs : noStars (p :: ps) = true)
    (hn : x ≠ "__name__") (hd : (x == ("__debug__" : Str)) = false) : PM X cad W b (.Call (.Name x p0) (p :: ps) [] pos) (fun env => (rs env).bind f) := by
  rw [noStars, Bool.and_eq_true] at hs
  exact PE.le (pe_callTy hc hg hm hv ha hn hd (star1 hs.1 ps X.env) (stars X.env hs.2)) fun σ H Q h => le_bi hf h
/-- isinstance -/
theorem sd_isi {y : Str} {n : String} {p1 : Pos} (hn : n ∈ tyNames) (hy : bootBuiltins y = some (.type n)) (hg : Gl X "isinstance") (hm : X.mg "isinstance" = none) (hgy : Gl X y) (hmy : X.mg y = none) (hny : y ≠ "__name__") (hdy : (y == ("__debug__" : Str)) = false)
    (ha : PM X cad W true p ra) (hs : noStar p = true) : PM X cad W b (.Call (.Name "isinstance" p0) [p, .Name y p1] [] pos) (fun env => (ra env).bind fun d => isiD d (.b n)) := by
  have hy' : PE X (.Name y p1) (tC (.ty n)) := pe_bltn hgy hmy hy rfl hny hdy
  refine PE.le (pe_callB (cb_isi (cad := cad) hn) hg hm (by decide +kernel) (pa_cons ha (pa_cons hy' pa_nil) (star1 hs _ X.env)) (by decide) (by decide) (star1 hs _ X.env) (stars X.env rfl)) fun σ H Q h => ?_
  obtain ⟨U, env, E, pp⟩ := h
  refine tM_bind (b := true) E pp fun d v H1 e1 E1 r1 p1 => ?_
  exact ⟨U, d, v, rfl, E1.nt, r1.toB, post_V (isi_calm d _) p1⟩
end
end DL
namespace DL
open PySem PySem.Spec PyProof.Rows L2 

/-! ### what is walked -/
section
variable {K : PySem.W.Frag} {cad : Nat → Addr}
mutual
theorem Rep.sup {U S : List Addr} {H : Hp} (h : ∀ a ∈ S, a ∈ U ∨ (NewAt H a ∧ OffK K a)) : ∀ (d : D) (v : V), Rep K cad U H d v → Rep K cad S H d v
  | .non, v, h => h
  | .bl b, v, h => h
  | .int i, v, h => h
  | .str x, v, h => h
  | .tup xs, v, r => by
    simp only [Rep] at r ⊢
    obtain ⟨a, vs, h1, h2, h3⟩ := r
    exact ⟨a, vs, h1, h2, Reps.sup h xs vs h3⟩
  | .lst xs, v, r => by
    simp only [Rep] at r ⊢
    obtain ⟨a, vs, h1, m, h2, h3⟩ := r
    refine ⟨a, vs, h1, fun z => ?_, h2, Reps.sup h xs vs h3⟩
    rcases h a z with z | ⟨n, k⟩
    · exact m z
    · exact n.1 (.lst vs) trivial (.inl h2)
  | .ins c ns ds, v, r => by
    simp only [Rep] at r ⊢
    obtain ⟨a, dx, vs, h1, m, h2, h3, h4⟩ := r
    refine ⟨a, dx, vs, h1, fun z => ?_, h2, h3, Reps.sup h ds vs h4⟩
    rcases h a z with z | ⟨n, k⟩
    · exact m z
    · exact n.2 _ _ _ h2
  | .dic ks ds, v, r => by
    simp only [Rep] at r ⊢
    obtain ⟨a, vs, h1, m, h2, h3⟩ := r
    refine ⟨a, vs, h1, fun z => ?_, h2, Reps.sup h ds vs h3⟩
    rcases h a z with z | ⟨n, k⟩
    · exact m z
    · rcases h2 with ⟨kk, _, _, h2⟩ | ⟨kk, _, _, h2⟩
      · exact n.1 (.dK (kk.zip vs)) trivial h2
      · exact n.1 (.dT (kk.zip vs)) trivial h2
  | .scr xs, v, r => by
    simp only [Rep] at r ⊢
    obtain ⟨a, vs, h1, m, h2, h3⟩ := r
    refine ⟨a, vs, h1, fun z => ?_, h2, Reps.sup h xs vs h3⟩
    rcases h a z with z | ⟨n, k⟩
    · exact m z
    · rcases h2 with h2 | ⟨o, _, _, h2, _⟩
      · exact n.1 (.lst vs) trivial h2
      · rw [show K.lookup a = none from k] at h2; cases h2
theorem Reps.sup {U S : List Addr} {H : Hp} (h : ∀ a ∈ S, a ∈ U ∨ (NewAt H a ∧ OffK K a)) : ∀ (ds : List D) (vs : List V), Reps K cad U H ds vs → Reps K cad S H ds vs
  | [], vs, r => r
  | d :: ds, vs, r => by
    simp only [Reps] at r ⊢
    obtain ⟨v, s, h1, h2, h3⟩ := r
    exact ⟨v, s, h1, Rep.sup h d v h2, Reps.sup h ds s h3⟩
end
end
/-- a state on the way: since H1 only what stands at S has been changed; S' is what may be changed now -/
structure Way (K : PySem.W.Frag) (b : Bool) (U : List Addr) (H1 : Hp) (S S' : List Addr) (H : Hp) : Prop where
  s1 : ∀ a ∈ S, NewAt H1 a ∨ (b = false ∧ a ∈ U)
  s2 : ∀ a ∈ S', a ∈ U ∨ (NewAt H1 a ∧ OffK K a)
  s3 : ∀ a ∈ S, a ∈ S'
  ext : Ext S H1 H
  nt : NT S' H
structure Wk (K : PySem.W.Frag) (cad : Nat → Addr) (b : Bool) (U : List Addr) (J : It) (ds : List D) (H1 : Hp) : Prop where
  ex : ∃ G Y, Walk J ds.length G Y ∧ (∀ S H, (∀ a ∈ S, NewAt H1 a ∨ (b = false ∧ a ∈ U)) → Ext S H1 H → G H) ∧
    (∀ (i : Nat) S S' H x H', i < ds.length → Way K b U H1 S S' H → Y i H x H' → (Ex S' H H' ∧ ∃ d, ds[i]? = some d ∧ Rep K cad S' H' d x)) ∧
    ∀ (i : Nat) H x H', Y i H x H' → ∀ c o, H c = some o → H' c = some o
section
variable {K : PySem.W.Frag} {cad : Nat → Addr} {b : Bool} {U : List Addr} {H1 : Hp}
theorem NT.of {S : List Addr} (t : NT U H1) (h : ∀ a ∈ S, a ∈ U ∨ NewAt H1 a) : NT S H1 := fun a ha xs r => by
  rcases h a ha with h | h
  · exact t a h xs r
  · exact h.1 (.tup xs) trivial r
theorem Way.rep {S S' : List Addr} {H : Hp} (w : Way K b U H1 S S' H) (t : NT U H1) {d : D} {v : V} (r : Rep K cad U H1 d v) : Rep K cad S' H d v :=
  Rep.ext (t.of fun a ha => (w.s2 a ha).imp id And.left) (w.ext.mono w.s3) _ _ (Rep.sup w.s2 _ _ r)
theorem repM_lst {xs : List D} {v : V} (h : RepM K cad b U H1 (.lst xs) v) : ∃ a vs, v = .ref a ∧ (b = false → a ∉ U) ∧ H1 a = some (.lst vs) ∧ Reps K cad U H1 xs vs := by
  cases b with
  | true =>
    obtain ⟨a, vs, h1, h2, h3⟩ := repB_lst (show RepB K cad U H1 (.lst xs) v from h)
    exact ⟨a, vs, h1, fun z => (by cases z), h2, h3⟩
  | false =>
    have h : Rep K cad U H1 (.lst xs) v := h
    simp only [Rep] at h
    obtain ⟨a, vs, h1, n, h2, h3⟩ := h
    exact ⟨a, vs, h1, fun _ => n, h2, h3⟩
theorem off_of {S : List Addr} (s1 : ∀ a ∈ S, NewAt H1 a ∨ (b = false ∧ a ∈ U)) {a : Addr} {vs : List V} (n : b = false → a ∉ U) (e : H1 a = some (.lst vs)) : a ∉ S := fun h => by
  rcases s1 a h with z | ⟨z1, z2⟩
  · exact z.1 (.lst vs) trivial (.inl e)
  · exact n z1 z2
theorem lst_of {S : List Addr} {H : Hp} (s1 : ∀ a ∈ S, NewAt H1 a ∨ (b = false ∧ a ∈ U)) (ext : Ext S H1 H) {a : Addr} {vs : List V} (n : b = false → a ∉ U) (e : H1 a = some (.lst vs)) : SqL K H a vs :=
  SqL.of (ext.lst a vs (off_of s1 n e) e)
theorem wk_list (t : NT U H1) {xs : List D} {a : Addr} {vs : List V} (n : b = false → a ∉ U) (e : H1 a = some (.lst vs)) (r : Reps K cad U H1 xs vs) : Wk K cad b U (Itl K a) xs H1 := by
  refine ⟨_, _, by rw [r.length]; exact walk_list (K := K) (a := a) (xs := vs), fun S H s1 ext => lst_of s1 ext n e, ?_, by rintro i H x H' ⟨rfl, _⟩ c o h; exact h⟩
  rintro i S S' H x H' hi w ⟨rfl, hx⟩
  obtain ⟨d, h1, h2⟩ := r.getV hx
  exact ⟨Ex.refl _ _, d, h1, w.rep t h2⟩
theorem wk_tup (t : NT U H1) {xs : List D} {a : Addr} {vs : List V} (e : SqT K H1 a vs) (r : Reps K cad U H1 xs vs) : Wk K cad b U (Itt K a) xs H1 := by
  refine ⟨_, _, by rw [r.length]; exact walk_tup (K := K) (a := a) (xs := vs), fun S H s1 ext => ?_, ?_, by rintro i H x H' ⟨rfl, _⟩ c o h; exact h⟩
  · exact NT.seqT (t.of fun a ha => (s1 a ha).elim .inr fun z => .inl z.2) ext e
  · rintro i S S' H x H' hi w ⟨rfl, hx⟩
    obtain ⟨d, h1, h2⟩ := r.getV hx
    exact ⟨Ex.refl _ _, d, h1, w.rep t h2⟩
theorem wk_str {z : Str} : Wk K cad b U (Its z) (z.cps.toList.map fun c => .str ⟨#[c]⟩) H1 := by
  refine ⟨_, _, by simpa using walk_str (z := z), fun _ _ _ _ => trivial, ?_, by rintro i H x H' ⟨rfl, _⟩ c o h; exact h⟩
  rintro i S S' H x H' hi w ⟨rfl, c, hc, rfl⟩
  refine ⟨Ex.refl _ _, _, ?_, rep_str _⟩
  rw [List.getElem?_map, Array.getElem?_toList, hc]; rfl
theorem wk_range {lo : Int} {n : Nat} : Wk K cad b U (Itr lo n) (rangeD lo n) H1 := by
  refine ⟨_, _, by simpa [rangeD] using walk_range (lo := lo) (n := n), fun _ _ _ _ => trivial, ?_, by rintro i H x H' ⟨rfl, _⟩ c o h; exact h⟩
  rintro i S S' H x H' hi w ⟨rfl, rfl⟩
  have hi' : i < n := by simpa [rangeD] using hi
  refine ⟨Ex.refl _ _, _, ?_, rep_int _⟩
  rw [rangeD, List.getElem?_map, List.getElem?_range hi']; rfl
theorem enumD_get : ∀ (xs : List D) (k i : Nat), (enumD k xs)[i]? = xs[i]?.map fun d => .tup [.int ((k + i : Nat) : Int), d]
  | [], k, i => by simp [enumD]
  | x :: xs, k, 0 => by simp [enumD]
  | x :: xs, k, i + 1 => by
    have := enumD_get xs (k + 1) i
    simp only [enumD, List.getElem?_cons_succ, this]
    have e : k + 1 + i = k + (i + 1) := by omega
    rw [e]
theorem enumD_len : ∀ (xs : List D) (k : Nat), (enumD k xs).length = xs.length
  | [], k => rfl
  | x :: xs, k => by simp [enumD, enumD_len xs (k + 1)]
theorem rep_pair {S : List Addr} {H : Hp} {T : Addr} {d e : D} {x y : V} (nt : NT S H) (hT : H T = none) (hx : Rep K cad S H d x) (hy : Rep K cad S H e y) : Rep K cad S (upd H T (.tup [x, y])) (.tup [d, e]) (.ref T) := by
  refine rep_tup (SqT.of upd_same) ?_
  simp only [Reps]
  exact ⟨x, [y], rfl, Rep.ext nt ((Ext.new hT).all S) _ _ hx, y, [], rfl, Rep.ext nt ((Ext.new hT).all S) _ _ hy, rfl⟩
theorem wk_enum (t : NT U H1) {xs : List D} {a : Addr} {vs : List V} (n : b = false → a ∉ U) (e : H1 a = some (.lst vs)) (r : Reps K cad U H1 xs vs) : Wk K cad b U (Ite K a) (enumD 0 xs) H1 := by
  refine ⟨_, _, by rw [enumD_len, r.length]; exact walk_enum (K := K) (a := a) (xs := vs), fun S H s1 ext => lst_of s1 ext n e, ?_, by rintro i H x H' ⟨T, u, v, _, hT, q, _⟩ c o h; rw [q, upd_ne (ne_of_none h hT)]; exact h⟩
  rintro i S S' H x H' hi w ⟨T, u, v, rfl, hT, rfl, h1, h2⟩
  cases h1
  obtain ⟨d, g1, g2⟩ := r.getV h2
  refine ⟨Ex.new hT, .tup [.int i, d], ?_, rep_pair (w.nt) hT (rep_int _) (w.rep t g2)⟩
  rw [enumD_get, g1]; simp [Nat.zero_add]
theorem zipD_get : ∀ (xs ys : List D) (i : Nat) (d e : D), xs[i]? = some d → ys[i]? = some e → (zipD xs ys)[i]? = some (.tup [d, e])
  | [], _, _, _, _, h, _ => by simp at h
  | _ :: _, [], _, _, _, _, h => by simp at h
  | x :: xs, y :: ys, 0, d, e, h, h' => by simp at h h'; subst h; subst h'; rfl
  | x :: xs, y :: ys, i + 1, d, e, h, h' => by
    simp only [zipD, List.getElem?_cons_succ] at h h' ⊢
    exact zipD_get xs ys i d e h h'
theorem zipD_len : ∀ (xs ys : List D), (zipD xs ys).length = min xs.length ys.length
  | [], _ => by simp [zipD]
  | _ :: _, [] => by simp [zipD]
  | x :: xs, y :: ys => by simp only [zipD, List.length_cons, zipD_len xs ys]; omega
theorem wk_zip (t : NT U H1) {xs ys : List D} {a a2 : Addr} {vs ws : List V} (n : b = false → a ∉ U) (n2 : b = false → a2 ∉ U) (e : H1 a = some (.lst vs)) (e2 : H1 a2 = some (.lst ws)) (r : Reps K cad U H1 xs vs) (r2 : Reps K cad U H1 ys ws)
    : Wk K cad b U (Itz K a a2) (zipD xs ys) H1 := by
  refine ⟨_, _, walk_zip (K := K) (a := a) (b := a2) (xs := vs) (ys := ws) (by rw [zipD_len, r.length, r2.length]), fun S H s1 ext => ⟨lst_of s1 ext n e, lst_of s1 ext n2 e2⟩, ?_, by rintro i H x H' ⟨T, u, v, _, hT, q, _⟩ c o h; rw [q, upd_ne (ne_of_none h hT)]; exact h⟩
  rintro i S S' H x H' hi w ⟨T, u, v, rfl, hT, rfl, h1, h2⟩
  obtain ⟨d, g1, g2⟩ := r.getV h1
  obtain ⟨d', g1', g2'⟩ := r2.getV h2
  exact ⟨Ex.new hT, _, zipD_get _ _ _ _ _ g1 g1', rep_pair (w.nt) hT (w.rep t g2) (w.rep t g2')⟩
end

/-! ### iterables -/
section
variable {X : Cx} {cad : Nat → Addr} {W : WX} {b : Bool}
def tI (L : LW) (W : WX) (b : Bool) (r : Envd → R (List D)) : TI := fun σ H Rk => ∃ U env, ERep L.K L.cad U env σ H ∧ match r env with
  | .ok xs => ∀ H1 J, Ex U H H1 → Wk L.K L.cad b U J xs H1 → Rk J H1
  | .exn c => ∀ H', Ex U H H' → W (.ref (L.cad c)) none σ H'
  | .bad => False
theorem PI.le {tg it : PySem.Expr} {t t' : TI} (h : PI X tg it t) (w : ∀ σ H Q, t' σ H Q → t σ H Q) : PI X tg it t' := ⟨fun pins s σ H Q I q => h.run pins s σ H Q I (w σ H Q q)⟩
theorem PI.or {tg it : PySem.Expr} {t t' : TI} (h : PI X tg it t) (h' : PI X tg it t') : PI X tg it fun σ H R => t σ H R ∨ t' σ H R :=
  ⟨fun pins s σ H R I q => q.elim (h.run pins s σ H R I) (h'.run pins s σ H R I)⟩
/-- a value to be walked: all that may be walked, at once -/
def iAny (K : PySem.W.Frag) (te : TE) : TI := fun σ H R => te σ H fun v H1 => (∃ a, v = .ref a ∧ (∃ xs, SqL K H1 a xs) ∧ R (Itl K a) H1) ∨ (∃ a, v = .ref a ∧ (∃ xs, SqT K H1 a xs) ∧ R (Itt K a) H1) ∨ (∃ x, v = .str x ∧ R (Its x) H1)
theorem pi_any {tg e : PySem.Expr} {te : TE} (he : PE X e te) : PI X tg e (iAny X.K te) := by
  refine ⟨fun pins s σ H R I h => ?_⟩
  refine thn (he.run pins s σ H _ I h) fun v s1 hv => ?_
  obtain ⟨y, H1, I1, r1, q⟩ := hv
  rcases q with ⟨a, rfl, q1, q2⟩ | ⟨a, rfl, q1, q2⟩ | ⟨x, rfl, q2⟩
  · obtain ⟨xs, hq⟩ := q1
    cases r1
    obtain ⟨its, rv, p, hz⟩ := I1.list hq
    refine wpAny_pyIter_list p.isList ?_
    refine ⟨s1.heap.objs.size, [s1.heap.objs.size], _, _, H1, rfl, I1.kept (t' := s1.toks) fun b o e => Heap.get?_push_of_some _ e, turn_list a _, ⟨_, Heap.get?_push_size _ rfl, rfl, rfl⟩, fun b hb => ?_, q2⟩
    have e : b = s1.heap.objs.size := by simpa using hb
    subst e
    exact I1.fpOk (Nat.le_refl _) (I1.hok.fresh (Nat.le_refl _))
  · obtain ⟨xs, hq⟩ := q1
    cases r1
    obtain ⟨its, rv, p, hz⟩ := I1.tuple hq
    refine wpAny_pyIter_tuple (show s1.heap.IsTuple a its.toArray from p) ?_
    refine ⟨s1.heap.objs.size, [s1.heap.objs.size], _, _, H1, rfl, I1.kept (t' := s1.toks) fun b o e => Heap.get?_push_of_some _ e, turn_tuple a _, ⟨_, Heap.get?_push_size _ rfl, rfl, rfl⟩, fun b hb => ?_, q2⟩
    have e : b = s1.heap.objs.size := by simpa using hb
    subst e
    exact I1.fpOk (Nat.le_refl _) (I1.hok.fresh (Nat.le_refl _))
  · obtain ⟨t, rfl⟩ := r1
    cases ha : x.cps.all (· < 128)
    · exact wpAny_pyIter_wide ha (pi_one (tk := s1.toks) I1 _ (turn_str _ x t "str_iterator" (.inr rfl)) ⟨_, Heap.get?_push_size _ rfl, rfl, rfl⟩ q2)
    · exact wpAny_pyIter_ascii ha (pi_one (tk := s1.toks) I1 _ (turn_str _ x t "str_ascii_iterator" (.inl rfl)) ⟨_, Heap.get?_push_size _ rfl, rfl, rfl⟩ q2)
/-- from a datum to what is walked -/
theorem tI_M {ra : Envd → R D} {f : D → R (List D)} {σ : L2.St} {H : Hp} {Rk : It → Hp → Prop} (hf : ∀ d c, f d ≠ .exn c) (h : tI (LX X cad) W b (fun env => (ra env).bind f) σ H Rk) {Q : VK}
    (w : ∀ U d v H1 xs, NoTup U H1 → RepM X.K cad b U H1 d v → f d = .ok xs → (∀ J, Wk X.K cad b U J xs H1 → Rk J H1) → Q v H1) : tM (LX X cad) W b ra σ H Q := by
  obtain ⟨U, env, E, p⟩ := h
  dsimp only at p
  refine ⟨U, env, E, ?_⟩
  cases e : ra env with
  | exn c => rw [e] at p; exact p
  | bad => rw [e] at p; exact p
  | ok d =>
    rw [e, R.bind_ok] at p
    cases e2 : f d with
    | exn c => exact absurd e2 (hf d c)
    | bad => rw [e2] at p; exact False.elim p
    | ok xs =>
      rw [e2] at p
      exact fun H1 v e1 r1 => w U d v H1 xs (E.ext e1).nt r1 e2 fun J k => p H1 J e1 k
theorem seqD_calm (d : D) (c : Nat) : seqD d ≠ .exn c := by cases d <;> simp [seqD]
theorem si_seq {tg p : PySem.Expr} {ra : Envd → R D} (ha : PM X cad W b p ra) : PI X tg p (tI (LX X cad) W b fun env => (ra env).bind seqD) := by
  refine PI.le (pi_any ha) fun σ H Rk h => ?_
  refine tI_M seqD_calm h fun U d v H1 xs t r e k => ?_
  cases d <;> simp only [seqD] at e <;> first | (cases e; done) | skip
  · cases e
    rw [repB_str r.toB]
    exact .inr (.inr ⟨_, rfl, k _ wk_str⟩)
  · cases e
    obtain ⟨a, vs, rfl, q1, q2⟩ := repB_tup r.toB
    exact .inr (.inl ⟨a, rfl, ⟨vs, q1⟩, k _ (wk_tup t.nt q1 q2)⟩)
  · cases e
    obtain ⟨a, vs, rfl, n, q1, q2⟩ := repM_lst r
    exact .inl ⟨a, rfl, ⟨vs, SqL.of q1⟩, k _ (wk_list t.nt n q1 q2)⟩
/-- from a list of data -/
theorem tI_A {rs : Envd → R (List D)} {f : List D → R (List D)} {σ : L2.St} {H : Hp} {Rk : It → Hp → Prop} (hf : ∀ d c, f d ≠ .exn c) (h : tI (LX X cad) W b (fun env => (rs env).bind f) σ H Rk) {Q : List V → Hp → Prop}
    (w : ∀ U ds vs H1 xs, NoTup U H1 → Paired (RepM X.K cad b U H1) ds vs → f ds = .ok xs → (∀ J, Wk X.K cad b U J xs H1 → Rk J H1) → Q vs H1) : tAs (LX X cad) W b rs σ H Q := by
  obtain ⟨U, env, E, p⟩ := h
  dsimp only at p
  refine ⟨U, env, E, ?_⟩
  cases e : rs env with
  | exn c => rw [e] at p; exact p
  | bad => rw [e] at p; exact p
  | ok d =>
    rw [e, R.bind_ok] at p
    cases e2 : f d with
    | exn c => exact absurd e2 (hf d c)
    | bad => rw [e2] at p; exact False.elim p
    | ok xs =>
      rw [e2] at p
      exact fun H1 v e1 r1 => w U d v H1 xs (E.ext e1).nt r1 e2 fun J k => p H1 J e1 k
theorem ivOk_of {i : Int} (h : ivOk i = true) : -(2 ^ 62) ≤ i ∧ i < 2 ^ 62 := by simpa [ivOk, Bool.and_eq_true] using h
theorem pairM_int {K : PySem.W.Frag} {U : List Addr} {H : Hp} {i : Int} {v : V} (h : RepM K cad b U H (.int i) v) : v = .int i := repB_int h.toB
theorem itemsD_calm (k : Ik) (ds : List D) (c : Nat) : itemsD k ds ≠ .exn c := by
  unfold itemsD
  split
  · exact seqD_calm _ c
  · rename_i j; cases ivOk j <;> simp [guard]
  · rename_i i j; cases (ivOk i && ivOk j) <;> simp [guard]
  · simp
  · simp
  · simp
theorem range1_of {ds : List D} {xs : List D} (h : itemsD .range1 ds = .ok xs) : ∃ j, ds = [.int j] ∧ ivOk j = true ∧ xs = rangeD 0 j.toNat := by
  match ds with
  | [] => simp [itemsD] at h
  | [d] =>
    cases d <;> simp only [itemsD] at h <;> first | (cases h; done) | skip
    obtain ⟨g, h⟩ := gd_ok h
    cases h
    exact ⟨_, rfl, g, rfl⟩
  | d :: e :: l => cases d <;> simp [itemsD] at h
theorem range2_of {ds : List D} {xs : List D} (h : itemsD .range2 ds = .ok xs) : ∃ i j, ds = [.int i, .int j] ∧ ivOk i = true ∧ ivOk j = true ∧ xs = rangeD i (j - i).toNat := by
  match ds with
  | [] => simp [itemsD] at h
  | [d] => cases d <;> simp [itemsD] at h
  | [d, e] =>
    cases d <;> cases e <;> simp only [itemsD] at h <;> first | (cases h; done) | skip
    obtain ⟨g, h⟩ := gd_ok h
    cases h
    rw [Bool.and_eq_true] at g
    exact ⟨_, _, rfl, g.1, g.2, rfl⟩
  | d :: e :: f :: l => cases d <;> cases e <;> simp [itemsD] at h
theorem enum_of {ds : List D} {xs : List D} (h : itemsD .enum ds = .ok xs) : ∃ l, ds = [.lst l] ∧ xs = enumD 0 l := by
  match ds with
  | [] => simp [itemsD] at h
  | [d] => cases d <;> simp only [itemsD] at h <;> first | (cases h; done) | (cases h; exact ⟨_, rfl, rfl⟩)
  | d :: e :: l => cases d <;> simp [itemsD] at h
theorem zip_of {ds : List D} {xs : List D} (h : itemsD .zip ds = .ok xs) : ∃ l l', ds = [.lst l, .lst l'] ∧ xs = zipD l l' := by
  match ds with
  | [] => simp [itemsD] at h
  | [d] => cases d <;> simp [itemsD] at h
  | [d, e] => cases d <;> cases e <;> simp only [itemsD] at h <;> first | (cases h; done) | (cases h; exact ⟨_, _, rfl, rfl⟩)
  | d :: e :: f :: l => cases d <;> cases e <;> simp [itemsD] at h
variable {tg p q : PySem.Expr} {p0 pos : Pos} {rs : Envd → R (List D)}
theorem si_range1 (hg : Gl X "range") (hm : X.mg "range" = none) (ha : PAM X cad W b [p] rs) (hs : noStar p = true) : PI X tg (.Call (.Name "range" p0) [p] [] pos) (tI (LX X cad) W b fun env => (rs env).bind (itemsD .range1)) := by
  refine PI.le (pi_range1 hg hm ha (by rw [star1 hs]; rfl)) fun σ H Rk h => ?_
  refine tI_A (itemsD_calm _) h fun U ds vs H1 xs t r e k => ?_
  obtain ⟨j, rfl, g, rfl⟩ := range1_of e
  obtain ⟨v, rfl, r1⟩ := pair1 r
  rw [pairM_int r1]
  exact ⟨j, rfl, (ivOk_of g).1, (ivOk_of g).2, k _ wk_range⟩
theorem si_range2 (hg : Gl X "range") (hm : X.mg "range" = none) (ha : PAM X cad W b [p, q] rs) (hs : noStar p = true) (hs2 : noStar q = true) : PI X tg (.Call (.Name "range" p0) [p, q] [] pos) (tI (LX X cad) W b fun env => (rs env).bind (itemsD .range2)) := by
  refine PI.le (pi_range2 hg hm ha (by rw [star1 hs, star1 hs2]; rfl) (by rw [star1 hs2]; rfl)) fun σ H Rk h => ?_
  refine tI_A (itemsD_calm _) h fun U ds vs H1 xs t r e k => ?_
  obtain ⟨i, j, rfl, g, g2, rfl⟩ := range2_of e
  obtain ⟨v, u, rfl, r1, r2⟩ := pair2 r
  rw [pairM_int r1, pairM_int r2]
  exact ⟨i, j, rfl, ⟨(ivOk_of g).1, (ivOk_of g).2, (ivOk_of g2).1, (ivOk_of g2).2⟩, k _ wk_range⟩
theorem si_enum {elts : List PySem.Expr} {kk : Nat} {tpos : Pos} (hg : Gl X "enumerate") (hm : X.mg "enumerate" = none) (ha : PAM X cad W b [p] rs) (hs : noStar p = true) :
    PI X (.Tuple elts kk tpos) (.Call (.Name "enumerate" p0) [p] [] pos) (tI (LX X cad) W b fun env => (rs env).bind (itemsD .enum)) := by
  refine PI.le (pi_enum hg hm ha (by rw [star1 hs]; rfl)) fun σ H Rk h => ?_
  refine tI_A (itemsD_calm _) h fun U ds vs H1 xs t r e k => ?_
  obtain ⟨l, rfl, rfl⟩ := enum_of e
  obtain ⟨v, rfl, r1⟩ := pair1 r
  obtain ⟨a, ws, rfl, n, q1, q2⟩ := repM_lst r1
  exact ⟨a, ws, rfl, SqL.of q1, k _ (wk_enum t.nt n q1 q2)⟩
theorem si_zip {elts : List PySem.Expr} {kk : Nat} {tpos : Pos} (hg : Gl X "zip") (hm : X.mg "zip" = none) (ha : PAM X cad W b [p, q] rs) (hs : noStar p = true) (hs2 : noStar q = true) :
    PI X (.Tuple elts kk tpos) (.Call (.Name "zip" p0) [p, q] [] pos) (tI (LX X cad) W b fun env => (rs env).bind (itemsD .zip)) := by
  refine PI.le (pi_zip hg hm ha (by rw [star1 hs]) (by rw [star1 hs2]; rfl)) fun σ H Rk h => ?_
  refine tI_A (itemsD_calm _) h fun U ds vs H1 xs t r e k => ?_
  obtain ⟨l, l', rfl, rfl⟩ := zip_of e
  obtain ⟨v, u, rfl, r1, r2⟩ := pair2 r
  obtain ⟨a, ws, rfl, n, q1, q2⟩ := repM_lst r1
  obtain ⟨a', ws', rfl, n', q1', q2'⟩ := repM_lst r2
  exact ⟨a, a', ws, ws', rfl, SqL.of q1, SqL.of q1', k _ (wk_zip t.nt n n' q1 q1' q2 q2')⟩
end
end DL
namespace DL
open PySem PySem.Spec PyProof.Rows L2 

/-! ### targets -/
theorem lget_set {α : Type} (l : List α) (i j : Nat) (a : α) : (l.set i a)[j]? = if i = j then (if j < l.length then some a else none) else l[j]? := by
  rw [List.getElem?_set]
  split
  · rename_i h; subst h; split <;> simp_all
  · rfl
section
variable {K : PySem.W.Frag} {cad : Nat → Addr}
theorem ERep.set {U : List Addr} {env : Envd} {σ : L2.St} {H : Hp} (E : ERep K cad U env σ H) (i : Nat) {d : D} {v : V} (r : Rep K cad U H d v) : ERep K cad U (env.set i (.im d)) (σ.set i (some v)) H := by
  refine ⟨E.nt, fun j s h => ?_, fun j k d e a h1 h2 h3 h4 => ?_, by rw [List.length_set, List.length_set]; exact E.len⟩
  · rw [lget_set] at h ⊢
    by_cases hij : i = j
    · subst hij
      rw [if_pos rfl] at h ⊢
      by_cases hl : i < env.length
      · rw [if_pos hl] at h
        cases h
        rw [if_pos (by rw [← E.len]; exact hl)]
        exact ⟨v, rfl, r⟩
      · rw [if_neg hl] at h; cases h
    · rw [if_neg hij] at h ⊢
      exact E.sl j s h
  · rw [lget_set] at h1 h2 h3 h4
    have hj : i ≠ j := fun z => by subst z; rw [if_pos rfl] at h1; split at h1 <;> cases h1
    have hk : i ≠ k := fun z => by subst z; rw [if_pos rfl] at h2; split at h2 <;> cases h2
    rw [if_neg hj] at h1 h3
    rw [if_neg hk] at h2 h4
    exact E.dst j k d e a h1 h2 h3 h4
theorem wipeD_len (env : Envd) : ∀ vs : List Nat, (wipeD env vs).length = env.length
  | [] => rfl
  | v :: vs => by simp [wipeD, wipeD_len env vs]
theorem ERep.wipe {U : List Addr} {env : Envd} {σ : L2.St} {H : Hp} (E : ERep K cad U env σ H) : ∀ vs : List Nat, ERep K cad U (wipeD env vs) (wipe σ vs) H
  | [] => E
  | i :: vs => by
    have E := ERep.wipe E vs
    refine ⟨E.nt, fun j s h => ?_, fun j k d e a h1 h2 h3 h4 => ?_, by simp only [wipeD, L2.wipe, List.length_set]; exact E.len⟩
    · simp only [wipeD, L2.wipe] at h ⊢
      rw [lget_set] at h ⊢
      by_cases hij : i = j
      · subst hij
        rw [if_pos rfl] at h
        by_cases hl : i < (wipeD env vs).length
        · rw [if_pos hl] at h; cases h; exact trivial
        · rw [if_neg hl] at h; cases h
      · rw [if_neg hij] at h ⊢
        exact E.sl j s h
    · simp only [wipeD, L2.wipe] at h1 h2 h3 h4
      rw [lget_set] at h1 h2 h3 h4
      have hj : i ≠ j := fun z => by subst z; rw [if_pos rfl] at h1; split at h1 <;> cases h1
      have hk : i ≠ k := fun z => by subst z; rw [if_pos rfl] at h2; split at h2 <;> cases h2
      rw [if_neg hj] at h1 h3
      rw [if_neg hk] at h2 h4
      exact E.dst j k d e a h1 h2 h3 h4
def gT (K : PySem.W.Frag) (cad : Nat → Addr) (tg : Tg) : TG := fun v σ H Q => ∃ U env d env', ERep K cad U env σ H ∧ Rep K cad U H d v ∧ tg.put d env = some env' ∧
  ∀ σ', ERep K cad U env' σ' H → (∀ i, i ∉ tg.slots → σ'[i]? = σ[i]?) → σ'.length = σ.length → Q σ' H
def gTs (K : PySem.W.Frag) (cad : Nat → Addr) (ts : List Tg) : TGs := fun vs σ H Q => ∃ U env ds env', ERep K cad U env σ H ∧ Reps K cad U H ds vs ∧ Tg.puts ts ds env = some env' ∧
  ∀ σ', ERep K cad U env' σ' H → (∀ i, i ∉ Tg.slotss ts → σ'[i]? = σ[i]?) → σ'.length = σ.length → Q σ' H
end
section
variable {X : Cx} {cad : Nat → Addr}
theorem PG.le {e : PySem.Expr} {t t' : TG} (h : PG X e t) (w : ∀ v σ H Q, t' v σ H Q → t v σ H Q) : PG X e t' := ⟨fun pins s σ H v u Q I r q => h.run pins s σ H v u Q I r (w v σ H Q q)⟩
theorem PGs.le {e : List PySem.Expr} {t t' : TGs} (h : PGs X e t) (w : ∀ v σ H Q, t' v σ H Q → t v σ H Q) : PGs X e t' := ⟨fun pins s σ H v u Q I r q => h.run pins s σ H v u Q I r (w v σ H Q q)⟩
theorem PG.off {e : PySem.Expr} {t : TG} (h : PG X e t) : PG X e fun v σ H Q => OffAll X.K H → t v σ H Q := ⟨fun pins s σ H v u Q I r q => h.run pins s σ H v u Q I r (q (offAll I))⟩
theorem assign1 {e : PySem.Expr} (h : noStar e = true) (es : List PySem.Expr) (env : Env) : assignEach (e :: es) env = (false, assign e env) :: assignEach es env := by
  cases e <;> first | rfl | (simp [noStar] at h)
theorem assigns {env : Env} : ∀ {es : List PySem.Expr}, noStars es = true → (assignEach es env).length = es.length ∧ (assignEach es env).findIdx? (·.1) = none
  | [], _ => ⟨rfl, rfl⟩
  | e :: es, h => by
    rw [noStars, Bool.and_eq_true] at h
    rw [assign1 h.1]
    have ih := assigns (env := env) h.2
    exact ⟨by simp [ih.1], by simp [List.findIdx?_cons, ih.2]⟩
theorem sg_name {i : Nat} {x : Str} {pos : Pos} (hN : X.N.Nodup) (hi : X.N[i]? = some x) (hx : Loc X.env.scope x) (hf : X.fn x = true ∨ X.env.scope.names.lookup x = some .local) : PG X (.Name x pos) (gT X.K cad (.nm i)) := by
  refine PG.le (pg_name hN hi hx hf) fun v σ H Q h => ?_
  obtain ⟨U, env, d, env', E, r, p, k⟩ := h
  simp only [Tg.put, Option.some.injEq] at p
  subst p
  refine k _ (E.set i r) (fun j hj => ?_) (by rw [List.length_set])
  rw [lget_set, if_neg (fun z => hj (by rw [z]; simp [Tg.slots]))]
theorem sgs_nil : PGs X [] (gTs X.K cad []) := by
  refine PGs.le pgs_nil fun vs σ H Q h => ?_
  obtain ⟨U, env, ds, env', E, r, p, k⟩ := h
  cases ds with
  | nil =>
    simp only [Tg.puts, Option.some.injEq] at p
    subst p
    simp only [Reps] at r
    exact ⟨r, k σ E (fun _ _ => rfl) rfl⟩
  | cons d ds => simp [Tg.puts] at p
theorem sgs_cons {e : PySem.Expr} {es : List PySem.Expr} {t : Tg} {ts : List Tg} (h1 : PG X e (gT X.K cad t)) (h2 : PGs X es (gTs X.K cad ts)) (hs : noStar e = true) : PGs X (e :: es) (gTs X.K cad (t :: ts)) := by
  refine PGs.le (pgs_cons h1 h2 (by rw [assign1 hs]; rfl)) fun vs σ H Q h => ?_
  obtain ⟨U, env, ds, env', E, r, p, k⟩ := h
  cases ds with
  | nil => simp [Tg.puts] at p
  | cons d ds =>
    simp only [Reps] at r
    obtain ⟨v, rr, rfl, r1, r2⟩ := r
    simp only [Tg.puts] at p
    cases q : t.put d env with
    | none => rw [q] at p; cases p
    | some env1 =>
      rw [q] at p
      refine ⟨v, rr, rfl, U, env, d, env1, E, r1, q, fun σ1 E1 f1 l1 => ?_⟩
      refine ⟨U, env1, ds, env', E1, r2, p, fun σ2 E2 f2 l2 => k σ2 E2 (fun i hi => ?_) (l2.trans l1)⟩
      simp only [Tg.slotss, List.mem_append, not_or] at hi
      rw [f2 i hi.2, f1 i hi.1]
theorem puts_len : ∀ {ts : List Tg} {ds : List D} {env env' : Envd}, Tg.puts ts ds env = some env' → ds.length = ts.length
  | [], [], _, _, _ => rfl
  | [], _ :: _, _, _, h => by simp [Tg.puts] at h
  | _ :: _, [], _, _, h => by simp [Tg.puts] at h
  | t :: ts, d :: ds, env, env', h => by
    simp only [Tg.puts] at h
    cases q : t.put d env with
    | none => rw [q] at h; cases h
    | some e => rw [q] at h; simp [puts_len h]
theorem sg_tup {es : List PySem.Expr} {ts : List Tg} {k : Nat} {pos : Pos} (hc : X.calm = true) (h : PGs X es (gTs X.K cad ts)) (hs : noStars es = true) (hl : es.length = ts.length) : PG X (.Tuple es k pos) (gT X.K cad (.tp ts)) := by
  refine PG.le (pg_tup (n := es.length) hc h (assigns hs).1 (assigns hs).2) fun v σ H Q h => ?_
  obtain ⟨U, env, d, env', E, r, p, k⟩ := h
  cases d <;> simp only [Tg.put] at p <;> first | (cases p; done) | skip
  rename_i ds
  obtain ⟨a, vs, rfl, q1, q2⟩ := repB_tup r.toB
  refine ⟨a, vs, rfl, q1, by rw [← q2.length, puts_len p, hl], U, env, ds, env', E, q2, p, fun σ' E' f l => k σ' E' (fun i hi => f i (by simpa [Tg.slots] using hi)) l⟩
end

/-! ### new things -/
section
variable (L : LW) (W : WX)
def postF (U : List Addr) (σ : L2.St) (H : Hp) (r : R D) (Q : VK) : Prop := match r with
  | .ok d => ∀ H' a, Ex U H H' → NewAt H a → OffK L.K a → Own L.K L.cad (a :: U) H' a d → NoTup (a :: U) H' → Q (.ref a) H'
  | .exn c => ∀ H', Ex U H H' → W (.ref (L.cad c)) none σ H'
  | .bad => False
/-- a reading of an expression that makes a new list or dict -/
def tF (r : Envd → R D) : TE := fun σ H Q => ∃ U env, ERep L.K L.cad U env σ H ∧ postF L W U σ H (r env) Q
end
section
variable {X : Cx} {cad : Nat → Addr} {W : WX} {b : Bool}
theorem own_rep {K : PySem.W.Frag} {U : List Addr} {H' : Hp} {a : Addr} {d : D} (n : a ∉ U) (o : Own K cad (a :: U) H' a d) : Rep K cad U H' d (.ref a) := by
  cases d <;> simp only [Own] at o <;> first | exact False.elim o | skip
  · obtain ⟨vs, h1, h2⟩ := o
    simp only [Rep]
    exact ⟨a, vs, rfl, n, h1, Reps.sub (fun x hx => List.mem_cons_of_mem _ hx) _ _ h2⟩
  · obtain ⟨vs, h1, h2⟩ := o
    simp only [Rep]
    refine ⟨a, vs, rfl, n, ?_, Reps.sub (fun x hx => List.mem_cons_of_mem _ hx) _ _ h2⟩
    rcases h1 with ⟨kk, q1, q2, q3⟩ | ⟨kk, q1, q2, q3⟩
    · exact .inl ⟨kk, q1, q2, .inl q3⟩
    · exact .inr ⟨kk, q1, q2, .inl q3⟩
theorem tM_tF {r : Envd → R D} {σ : L2.St} {H : Hp} {Q : VK} (h : tM (LX X cad) W b r σ H Q) : tF (LX X cad) W r σ H Q := by
  obtain ⟨U, env, E, p⟩ := h
  refine ⟨U, env, E, ?_⟩
  cases e : r env with
  | ok d => rw [e] at p; exact fun H' a e1 n k o t => p H' _ e1 (own_rep (E.nt.notNew n) o).toM
  | exn c => rw [e] at p; exact p
  | bad => rw [e] at p; exact p
theorem PE.ofF {pe : PySem.Expr} {r : Envd → R D} (h : PE X pe (tF (LX X cad) W r)) : PM X cad W b pe r := PE.le h fun σ H Q q => tM_tF q
theorem noTup_new {U : List Addr} {H H' : Hp} {a : Addr} {vs : List V} (t : NoTup U H) (e : Ext [] H H') (h : H' a = some (.lst vs)) : NoTup (a :: U) H' := fun x hx => by
  rcases List.mem_cons.mp hx with rfl | hx
  · exact .inl ⟨.lst vs, trivial, fun xs z => (nomatch z), .inl h⟩
  · exact (t.ext e) x hx
/-- a new list, laid at once -/
theorem postF.newL {U : List Addr} {σ : L2.St} {H H1 : Hp} {xs : List D} {vs : List V} {Q : VK} (t : NoTup U H1) (e : Ex U H H1) (h : postF (LX X cad) W U σ H (.ok (.lst xs)) Q) (r : Reps X.K cad U H1 xs vs) {p : Addr} (hp : H1 p = none)
    (o : OffAll X.K (upd H1 p (.lst vs))) : Q (.ref p) (upd H1 p (.lst vs)) := by
  have n := NewAt.of hp
  have k : OffK X.K p := o p (by rw [upd_same]; simp)
  refine h _ p (e.trans (Ex.new hp)) (n.back e.ext) k ?_ (noTup_new t (Ext.new hp) upd_same)
  simp only [Own]
  exact ⟨vs, upd_same, Reps.ext (t.nt.cons n) ((Ext.new hp).all _) _ _ (Reps.grow n k _ _ r)⟩
theorem fr_lst {ps : List PySem.Expr} {rs : Envd → R (List D)} {pos : Pos} (h : PAM X cad W false ps rs) : PE X (.List ps pos) (tF (LX X cad) W fun env => (rs env).bind fun ds => guard (decide (ds.length ≤ SZ)) (.ok (.lst ds))) := by
  refine PE.by (pe_lst h) fun σ H Q o hq => ?_
  obtain ⟨U, env, E, p⟩ := hq
  dsimp only at p
  refine ⟨U, env, E, ?_⟩
  cases e : rs env with
  | exn c => rw [e] at p; exact p
  | bad => rw [e] at p; exact p
  | ok ds =>
    rw [e, R.bind_ok] at p
    intro H1 vs e1 r1
    have rr := paired_repsM r1
    cases g : decide (ds.length ≤ SZ) with
    | false => rw [g] at p; exact False.elim p
    | true =>
      rw [g] at p
      exact ⟨by rw [SZ_eq, ← rr.length]; exact of_decide_eq_true g, fun a ha o' => postF.newL (E.ext e1).nt e1 p rr ha o'⟩
theorem fr_list {x : Str} {p : PySem.Expr} {rs : Envd → R (List D)} {p0 pos : Pos} (hg : Gl X "list") (hm : X.mg "list" = none) (ha : PAM X cad W true [p] rs) (hs : noStar p = true) :
    PE X (.Call (.Name "list" p0) [p] [] pos) (tF (LX X cad) W fun env => (rs env).bind (biD .list)) := by
  refine PE.by (pe_callTy call_list_of hg hm (by decide +kernel) ha (by decide) (by decide) (star1 hs [] X.env) rfl) fun σ H Q o hq => ?_
  obtain ⟨U, env, E, p⟩ := hq
  dsimp only at p
  refine ⟨U, env, E, ?_⟩
  cases e : rs env with
  | exn c => rw [e] at p; exact p
  | bad => rw [e] at p; exact p
  | ok ds =>
    rw [e, R.bind_ok] at p
    intro H1 vs e1 r1
    have t1 := (E.ext e1).nt
    cases hz : biD .list ds with
    | exn c => exact absurd hz (bi_calm .list ds c)
    | bad => rw [hz] at p; exact False.elim p
    | ok z =>
      rw [hz] at p
      obtain ⟨xs, ed, rfl⟩ := biD_list hz
      rcases ed with rfl | rfl | rfl
      · obtain ⟨v, rfl, r2⟩ := pair1 r1
        obtain ⟨a, vs, rfl, q1, q2⟩ := repB_lst r2.toB
        exact ⟨a, vs, rfl, .inl (SqL.of q1), fun l hl o' => postF.newL t1 e1 p q2 hl o'⟩
      · obtain ⟨v, rfl, r2⟩ := pair1 r1
        obtain ⟨a, vs, rfl, q1, q2⟩ := repB_tup r2.toB
        exact ⟨a, vs, rfl, .inr q1, fun l hl o' => postF.newL t1 e1 p q2 hl o'⟩
      · obtain ⟨v, rfl, r2⟩ := pair1 r1
        obtain ⟨a, vs, rfl, _, q1, q2⟩ := repB_scr r2.toB
        exact ⟨a, vs, rfl, .inl q1, fun l hl o' => postF.newL t1 e1 p q2 hl o'⟩
/-- a list times an int -/
theorem fr_mul {p q : PySem.Expr} {pos : Pos} {ra rb : Envd → R D} (ha : PM X cad W true p ra) (hb : PM X cad W true q rb) :
    PE X (.BinOp p .Mult q pos) (tF (LX X cad) W fun env => (ra env).bind fun d => (rb env).bind fun e => opMulL d e) := by
  refine PE.by (pe_op op_rep ha hb) fun σ H Q o hq => ?_
  obtain ⟨U, env, E, p⟩ := hq
  dsimp only at p
  refine ⟨U, env, E, ?_⟩
  cases e : ra env with
  | exn c => rw [e] at p; exact p
  | bad => rw [e] at p; exact p
  | ok d =>
    rw [e, R.bind_ok] at p
    intro H1 v e1 r1
    have E1 := E.ext e1
    refine ⟨U, env, E1, ?_⟩
    cases e2 : rb env with
    | exn c => rw [e2] at p; exact fun H2 q => p H2 (e1.trans q)
    | bad => rw [e2] at p; exact p
    | ok d2 =>
      rw [e2, R.bind_ok] at p
      intro H2 u q2 r2
      have t2 := (E1.ext q2).nt
      cases d <;> cases d2 <;> first | exact False.elim p | skip
      rename_i xs k
      simp only [opMulL] at p
      cases g : (decide (0 ≤ k) && decide (k ≤ 1000) && decide (xs.length * k.toNat ≤ SZ)) with
      | false => rw [g] at p; exact False.elim p
      | true =>
        rw [g] at p
        simp only [Bool.and_eq_true, decide_eq_true_eq] at g
        obtain ⟨⟨g1, g2⟩, g3⟩ := g
        obtain ⟨a, vs, rfl, s1, s2⟩ := repB_lst (r1.ext E1.nt q2.ext).toB
        rw [repB_int r2.toB]
        exact ⟨a, k, vs, rfl, rfl, s1, by omega, by omega, by rw [SZ_eq, ← s2.length]; exact g3, fun x hx o' => postF.newL t2 (e1.trans q2) p (Reps.rep s2 _) hx o'⟩
end
end DL
namespace DL
open PySem PySem.Spec PyProof.Rows L2 

/-! ### comprehensions -/
abbrev W0 : WX := fun _ _ _ _ => False
section
variable {X : Cx} {cad : Nat → Addr} {W : WX} {b : Bool}
theorem wipe_eq {σ σ2 : L2.St} {vs : List Nat} (h : ∀ i, i ∉ vs → σ2[i]? = (wipe σ vs)[i]?) (hl : σ2.length = (wipe σ vs).length) : wipe σ2 vs = wipe σ vs := by
  have hn : ∀ (τ : L2.St) (us : List Nat) (i : Nat), i ∈ us → i < τ.length → (wipe τ us)[i]? = some none := by
    intro τ us
    induction us with
    | nil => intro i hi; cases hi
    | cons u us ih =>
      intro i hi hl
      unfold wipe
      rw [lget_set]
      by_cases e : u = i
      · rw [if_pos e, if_pos (by rw [wipe_length]; exact hl)]
      · rw [if_neg e]
        rcases List.mem_cons.mp hi with z | z
        · exact absurd z.symm e
        · exact ih i z hl
  refine List.ext_getElem? fun i => ?_
  by_cases hi : i ∈ vs
  · by_cases hl2 : i < σ.length
    · rw [hn σ vs i hi hl2, hn σ2 vs i hi (by rw [hl, wipe_length]; exact hl2)]
    · rw [List.getElem?_eq_none (by rw [wipe_length, hl, wipe_length]; omega), List.getElem?_eq_none (by rw [wipe_length]; omega)]
  · rw [wipe_out hi, wipe_out hi, h i hi, wipe_out hi]
theorem compD_cons_ok {put : D → Option Envd} {cond : Envd → R Bool} {elt : Envd → R D} {d : D} {r ys : List D} (h : compD put cond elt (d :: r) = .ok ys) :
    ∃ env, put d = some env ∧ ((∃ y zs, cond env = .ok true ∧ elt env = .ok y ∧ compD put cond elt r = .ok zs ∧ ys = y :: zs) ∨ (cond env = .ok false ∧ compD put cond elt r = .ok ys)) := by
  unfold compD at h
  cases p : put d with
  | none => rw [p] at h; cases h
  | some env =>
    rw [p] at h
    dsimp only at h
    refine ⟨env, rfl, ?_⟩
    cases c : cond env with
    | exn k => rw [c] at h; cases h
    | bad => rw [c] at h; cases h
    | ok k =>
      rw [c] at h
      cases k with
      | false => exact .inr ⟨rfl, h⟩
      | true =>
        simp only [R.calm, R.bind_ok, if_true] at h
        cases e : elt env with
        | exn k => rw [e] at h; cases h
        | bad => rw [e] at h; cases h
        | ok y =>
          rw [e] at h
          simp only [R.calm, R.bind_ok] at h
          cases e2 : compD put cond elt r with
          | exn k => rw [e2] at h; cases h
          | bad => rw [e2] at h; cases h
          | ok zs =>
            rw [e2] at h
            cases h
            exact .inl ⟨y, zs, rfl, rfl, rfl, rfl⟩
theorem ERep.later {K : PySem.W.Frag} {U : List Addr} {env : Envd} {σ : L2.St} {H1 H : Hp} {a : Addr} {acc : List V} (E : ERep K cad U env σ H1) (n : NewAt H1 a) (k : OffK K a) (e : Ext [a] H1 H) (kp : KeepO U H1 H) (h : H a = some (.lst acc)) :
    ERep K cad (a :: U) env σ H := by
  have nu : a ∉ U := E.nt.notNew n
  have e' : Ext (a :: U) H1 H := e.mono fun x hx => by
    have : x = a := by simpa using hx
    rw [this]; exact List.mem_cons_self
  have nt : NT (a :: U) H1 := E.nt.nt.cons n
  refine ⟨fun x hx => ?_, fun i s hs => ?_, E.dst, E.len⟩
  · rcases List.mem_cons.mp hx with rfl | hx
    · exact .inl ⟨.lst acc, trivial, fun xs z => (nomatch z), .inl h⟩
    · have hx' : x ∉ [a] := fun z => nu (by have : x = a := by simpa using z
                                            rw [← this]; exact hx)
      rcases E.nt x hx with ⟨u, o, q, r⟩ | ⟨C, dx, fs, r⟩
      · exact .inl ⟨u, o, q, e.rd x u hx' o r⟩
      · exact .inr ⟨C, dx, fs, e.ins x C dx fs hx' r⟩
  · have sr := E.sl i s hs
    cases s with
    | un => exact trivial
    | im d =>
      obtain ⟨v, h1, h2⟩ := sr
      exact ⟨v, h1, Rep.ext nt e' _ _ (Rep.grow n k _ _ h2)⟩
    | ow d =>
      obtain ⟨x, h1, h2, h3⟩ := sr
      refine ⟨x, h1, List.mem_cons_of_mem _ h2, ?_⟩
      cases d <;> simp only [Own] at h3 ⊢ <;> first | exact h3 | skip
      · obtain ⟨vs, q1, q2⟩ := h3
        exact ⟨vs, kp x _ h2 q1, Reps.ext nt e' _ _ (Reps.grow n k _ _ q2)⟩
      · obtain ⟨vs, q1, q2⟩ := h3
        refine ⟨vs, ?_, Reps.ext nt e' _ _ (Reps.grow n k _ _ q2)⟩
        rcases q1 with ⟨kk, z1, z2, z3⟩ | ⟨kk, z1, z2, z3⟩
        · exact .inl ⟨kk, z1, z2, kp x _ h2 z3⟩
        · exact .inr ⟨kk, z1, z2, kp x _ h2 z3⟩
/-- the list of a comprehension, so far -/
structure Lc (K : PySem.W.Frag) (cad : Nat → Addr) (U : List Addr) (H1 : Hp) (a : Addr) (put : D → Option Envd) (cond : Envd → R Bool) (elt : Envd → R D) (xs ys : List D) (i : Nat) (H : Hp) : Prop where
  ex : ∃ acc done rest, H a = some (.lst acc) ∧ done.length = acc.length ∧ (OffK K a → Reps K cad (a :: U) H done acc) ∧ compD put cond elt (xs.drop i) = .ok rest ∧ done ++ rest = ys
  ext : Ext [a] H1 H
  keep : KeepO U H1 H
theorem comp_core {K : PySem.W.Frag} {U : List Addr} {env : Envd} {σ : L2.St} {H1 : Hp} {a : Addr} {J : It} {xs ys : List D} {tg : Tg} {rc : Envd → R Bool} {re : Envd → R D} {vs : List Nat} {Qd : Hp → Prop}
    (E : ERep K cad U env σ H1) (wk : Wk K cad true U J xs H1) (hv : ∀ i ∈ tg.slots, i ∈ vs) (hc : compD (fun d => tg.put d (wipeD env vs)) rc re xs = .ok ys) (hl : ys.length ≤ SZ) (ha : H1 a = none)
    (hQ : ∀ H' acc, H' a = some (.lst acc) → (OffK K a → Reps K cad (a :: U) H' ys acc) → Ext [a] H1 H' → KeepO U H1 H' → Qd H') :
    ∃ Wn : Nat → Nat → Hp → Prop, (∃ m, Wn 0 m (upd H1 a (.lst []))) ∧ ∀ i m H, Wn i m H → (J.stop i H ∧ Qd H) ∨ (J.go i H ∧ ∃ Nx : Hp → Prop, (∀ H', Nx H' → ∃ m', m' < m ∧ Wn (i + 1) m' H') ∧
      ∀ x H', J.yld i H x H' → (OffAll K H' → gT K cad tg x (wipe σ vs) H' fun σ2 H2 => wipe σ2 vs = wipe σ vs ∧ tT ⟨K, cad⟩ W0 rc σ2 H2 fun b H3 => if b = true then tM ⟨K, cad⟩ W0 false re σ2 H3 fun y H4 => ∃ acc, H4 a = some (.lst acc) ∧ acc.length < sizeLine ∧ Nx (upd H4 a (.lst (acc ++ [y]))) else Nx H3)) := by
  obtain ⟨G, Y, w, hG, hY, hK⟩ := wk.ex
  have n : NewAt H1 a := NewAt.of ha
  have one : ∀ x : Addr, x ∈ [a] → x = a := fun x hx => by simpa using hx
  have gG : ∀ i H, i ≤ xs.length → Lc K cad U H1 a (fun d => tg.put d (wipeD env vs)) rc re xs ys i H → G H := fun i H _ z =>
    hG [a] H (fun x hx => .inl (by rw [one x hx]; exact n)) z.ext
  refine lc_it w (g := fun v σ H Q => OffAll K H → gT K cad tg v σ H Q) (Lc K cad U H1 a (fun d => tg.put d (wipeD env vs)) rc re xs ys) ?_ gG ?_ ?_
  · refine ⟨⟨[], [], ys, upd_same, rfl, fun _ => by simp [Reps], by simpa using hc, rfl⟩, (Ext.write (by simp)), fun x o hx e => ?_⟩
    rw [upd_ne (fun z => by rw [z, ha] at e; cases e)]; exact e
  · intro i x H H' hi z hy off
    obtain ⟨acc, done, rest, h1, h2, h3, h4, h5⟩ := z.ex
    have k : OffK K a := off a (by rw [hK i H x H' hy a _ h1]; simp)
    have E1 : ERep K cad (a :: U) env σ H := ERep.later E n k z.ext z.keep h1
    have way : Way K true U H1 [a] (a :: U) H := by
      refine ⟨fun x hx => .inl (by rw [one x hx]; exact n), fun x hx => ?_, fun x hx => by rw [one x hx]; exact List.mem_cons_self, z.ext, E1.nt.nt⟩
      rcases List.mem_cons.mp hx with rfl | hx
      · exact .inr ⟨n, k⟩
      · exact .inl hx
    obtain ⟨e1, d, g1, g2⟩ := hY i [a] (a :: U) H x H' hi way hy
    have E2 := (E1.ext e1).wipe vs
    have dr : xs.drop i = d :: xs.drop (i + 1) := by
      obtain ⟨hi2, e⟩ := List.getElem?_eq_some_iff.mp g1
      rw [List.drop_eq_getElem_cons hi2, e]
    rw [dr] at h4
    obtain ⟨env1, hp, hcase⟩ := compD_cons_ok h4
    refine ⟨a :: U, wipeD env vs, d, env1, E2, g2, hp, fun σ2 E3 f2 l2 => ⟨wipe_eq (fun i hi => f2 i fun z => hi (hv i z)) l2, a :: U, env1, E3, ?_⟩⟩
    have kp : ∀ {H5 : Hp}, Ex (a :: U) H' H5 → H5 a = some (.lst acc) := fun e5 => e5.keep a _ List.mem_cons_self (e1.keep a _ List.mem_cons_self h1)
    have ku : ∀ {H5 : Hp}, Ex (a :: U) H' H5 → KeepO U H1 H5 := fun e5 x o hx q => e5.keep x _ (List.mem_cons_of_mem _ hx) (e1.keep x _ (List.mem_cons_of_mem _ hx) (z.keep x o hx q))
    rcases hcase with ⟨y, zs, c1, c2, c3, c4⟩ | ⟨c1, c2⟩
    · rw [c1]
      intro H3 e3
      rw [if_pos rfl]
      refine ⟨a :: U, env1, E3.ext e3, ?_⟩
      rw [c2]
      intro H4 v e4 r4
      have e34 := e3.trans e4
      have r4 : Rep K cad (a :: U) H4 y v := r4
      have lenz : acc.length < sizeLine := by
        have q := congrArg List.length h5
        rw [List.length_append, c4, List.length_cons] at q
        rw [SZ_eq]; omega
      refine ⟨acc, kp e34, lenz, ⟨acc ++ [v], done ++ [y], zs, upd_same, by simp [h2], fun _ => ?_, c3, ?_⟩, ?_, ?_⟩
      · have nt4 := ((E3.ext e3).ext e4).nt
        have rd : Reps K cad (a :: U) H4 done acc := Reps.ext (E1.ext e1).nt.nt (e34.ext.all _) _ _ (Reps.ext E1.nt.nt (e1.ext.all _) _ _ (h3 k))
        have wr : Ext (a :: U) H4 (upd H4 a (.lst (acc ++ [v]))) := Ext.write List.mem_cons_self
        refine Reps.append (Reps.ext nt4.nt wr _ _ rd) ?_
        simp only [Reps]
        exact ⟨v, [], rfl, Rep.ext nt4.nt wr _ _ r4, rfl⟩
      · rw [List.append_assoc, ← h5, c4]; rfl
      · exact ((z.ext.trans (e1.ext.all _)).trans (e34.ext.all _)).trans (Ext.write (by simp))
      · intro x o hx q
        have : x ≠ a := fun z => by rw [z, ha] at q; cases q
        rw [upd_ne this]
        exact ku e34 x o hx q
    · rw [c1]
      intro H3 e3
      rw [if_neg (by simp)]
      refine ⟨⟨acc, done, rest, kp e3, h2, fun _ => ?_, c2, h5⟩, (z.ext.trans (e1.ext.all _)).trans (e3.ext.all _), ku e3⟩
      exact Reps.ext (E1.ext e1).nt.nt (e3.ext.all _) _ _ (Reps.ext E1.nt.nt (e1.ext.all _) _ _ (h3 k))
  · intro H z
    obtain ⟨acc, done, rest, h1, h2, h3, h4, h5⟩ := z.ex
    rw [List.drop_length] at h4
    simp only [compD, R.ok.injEq] at h4
    subst h4
    rw [List.append_nil] at h5
    subst h5
    exact hQ H acc h1 h3 z.ext z.keep
theorem ext_drop {H1 H' : Hp} {a : Addr} (n : NewAt H1 a) (e : Ext [a] H1 H') : Ext [] H1 H' := by
  have ne : ∀ x, (∃ u, Ob u ∧ Rd H1 x u) ∨ (∃ C dx fs, H1 x = some (.ins C dx fs)) → x ∉ [a] := fun x h hx => by
    have : x = a := by simpa using hx
    subst this
    rcases h with ⟨u, o, r⟩ | ⟨C, dx, fs, r⟩
    · exact n.1 u o r
    · exact n.2 _ _ _ r
  exact ⟨fun x u _ o r => e.rd x u (ne x (.inl ⟨u, o, r⟩)) o r, fun x C dx fs _ r => e.ins x C dx fs (ne x (.inr ⟨C, dx, fs, r⟩)) r, fun x xs _ r => e.lst x xs (ne x (.inl ⟨.lst xs, trivial, .inl r⟩)) r⟩
variable {elt tg it : PySem.Expr} {ifs : List PySem.Expr} {scope : Scope} {own : List (Str × Nat)} {pos : Pos} {t : Tg} {r : Envd → R (List D)} {rc : Envd → R Bool} {re : Envd → R D}
theorem compD_calm {put : D → Option Envd} {cond : Envd → R Bool} {elt : Envd → R D} : ∀ (xs : List D) (c : Nat), compD put cond elt xs ≠ .exn c
  | [], c => by simp [compD]
  | d :: xs, c => by
    intro h
    unfold compD at h
    cases p : put d with
    | none => rw [p] at h; cases h
    | some env =>
      rw [p] at h
      dsimp only at h
      cases e : cond env with
      | exn k => rw [e] at h; cases h
      | bad => rw [e] at h; cases h
      | ok k =>
        rw [e] at h
        cases k with
        | false => exact compD_calm xs c h
        | true =>
          simp only [R.calm, R.bind_ok, if_true] at h
          cases e2 : elt env with
          | exn k => rw [e2] at h; cases h
          | bad => rw [e2] at h; cases h
          | ok y =>
            rw [e2] at h
            simp only [R.calm, R.bind_ok] at h
            cases e3 : compD put cond elt xs with
            | exn k => exact compD_calm xs k e3
            | bad => rw [e3] at h; cases h
            | ok zs => rw [e3] at h; cases h
theorem le_lc {σ : L2.St} {H : Hp} {Q : VK} (o : OffAll X.K H) (hv : ∀ i ∈ t.slots, i ∈ own.map (·.2))
    (h : tF (LX X cad) W (fun env => (r env).bind fun xs => lcD t (own.map (·.2)) rc re env xs) σ H Q) :
    tLc (tI (LX X cad) W true r) (fun v σ H Q => OffAll X.K H → gT X.K cad t v σ H Q) (tT (LX X cad) W0 rc) (tM (LX X cad) W0 false re) (own.map (·.2)) σ H (fun v H' => OffAll X.K H' → Q v H') := by
  obtain ⟨U, env, E, p⟩ := h
  dsimp only at p
  refine ⟨U, env, E, ?_⟩
  cases e : r env with
  | exn c => rw [e] at p; exact p
  | bad => rw [e] at p; exact p
  | ok xs =>
    rw [e, R.bind_ok] at p
    intro H1 J e1 wk a ha
    unfold lcD at p
    cases hc : compD (fun d => t.put d (wipeD env (own.map (·.2)))) rc re xs with
    | exn c => exact absurd hc (compD_calm xs c)
    | bad => rw [hc] at p; exact False.elim p
    | ok ys =>
      rw [hc, R.bind_ok] at p
      cases g : decide (ys.length ≤ SZ) with
      | false => rw [g] at p; exact False.elim p
      | true =>
        rw [g] at p
        have E1 := E.ext e1
        have n := NewAt.of ha
        refine comp_core E1 wk hv hc (of_decide_eq_true g) ha fun H' acc h1 h2 h3 h4 o' => ?_
        have k : OffK X.K a := o' a (by rw [h1]; simp)
        have e0 := ext_drop n h3
        refine p H' a (e1.trans ⟨e0, h4⟩) (n.back e1.ext) k ?_ (noTup_new E1.nt e0 h1)
        simp only [Own]
        exact ⟨acc, h1, h2 k⟩
theorem fr_lc (hc : X.calm = true) (hN : X.N.Nodup) (hi : PI X tg it (tI (LX X cad) W true r)) (ok : BlkOk X.N X.env.scope scope own) (hv : ∀ i ∈ t.slots, i ∈ own.map (·.2))
    (hg : ∀ (s : Shared) (H : Hp) (C : Addr) (cl : List (Str × Addr)) (fp : List Addr), PG (X.blk s H scope (compEnvC scope cl C X.env) fp) tg (gT X.K cad t))
    (ht : ∀ (s : Shared) (H : Hp) (C : Addr) (cl : List (Str × Addr)) (fp : List Addr), PTs (X.blk s H scope (compEnvC scope cl C X.env) fp) ifs (tT (LX X cad) W0 rc))
    (he : ∀ (s : Shared) (H : Hp) (C : Addr) (cl : List (Str × Addr)) (fp : List Addr), PM (X.blk s H scope (compEnvC scope cl C X.env) fp) cad W0 false elt re)
    (hs : ∀ x, foldedSetIterable it X.env x = pure x) : PE X (.ListComp elt [⟨tg, it, ifs, 0⟩] scope pos) (tF (LX X cad) W fun env => (r env).bind fun xs => lcD t (own.map (·.2)) rc re env xs) :=
  PE.by (pe_lc hc hN hi ok (fun s H C cl fp => PG.off (hg s H C cl fp)) ht he hs) fun σ H Q o h => le_lc o hv h
end
end DL
namespace DL
open PySem PySem.Spec PyProof.Rows L2 

/-! ### expressions: the text does what the term means -/
structure GW where
  P : Program
  w : World
  K : PySem.W.Frag
  mg : Str → Option Value
  base : Heap
  cad : Nat → Addr
  k : Nat
/-- an own class of exceptions -/
structure ClsI (g : GW) (x : Str) (C : Addr) : Prop where
  dbg : (x == ("__debug__" : Str)) = false
  gP : g.mg x = some (.ref C)
  xP : PySem.W.excIn g.K C [.type "ValueError", .type "Exception", .type "BaseException", .type "object"] "ValueError.__new__" = true
  kP : PySem.W.keepIn g.K (.ref C) = true
  bP : PySem.W.subIn g.K (.ref C) (.type "BaseException") = some true
  tP : PySem.W.typeIn g.K (.ref C) = some (.type "type")
/-- what the top holds, for a table -/
structure GOk (g : GW) (T : Tab) (F : Fns) (Gs : List D) : Prop where
  fn : ∀ (j : Nat) x Φ, T.fns[j]? = some x → F[j]? = some Φ → FnI g.P g.w g.K g.mg g.base g.cad g.k x Φ
  gl : ∀ (j : Nat) x d, T.gls[j]? = some x → Gs[j]? = some d → ∃ u v, g.mg x = some u ∧ RelV v u ∧ ∀ U H, Rep g.K g.cad U H d v
  bt : ∀ x ∈ T.bts, g.mg x = none
  len : T.fns.length = F.length
structure Good (g : GW) (c : Cc) (W : WX) (X : Cx) : Prop where
  eP : X.prog = g.P
  ew : X.w = g.w
  eK : X.K = g.K
  em : X.mg = g.mg
  eb : X.base = g.base
  eN : X.N = c.N
  nd : X.N.Nodup
  calm : X.calm = true
  room : Room g.k X.A
  esc : X.env.scope = c.sc
  own : ∀ x, c.own x = true → X.fn x = true
  tk : Takes X W
section
variable {g : GW} {c : Cc} {W : WX} {X : Cx} {F : Fns} {Gs : List D}
theorem nameAt_eq {l : List Str} {i : Nat} {x : Str} (h : nameAt l i x = true) : l[i]? = some x := by
  unfold nameAt at h
  split at h
  · rename_i y hy
    rw [hy, of_decide_eq_true (show decide (y = x) = true from h)]
  · cases h
theorem dbg_of {x : Str} (h : dbgB x = true) : (x == ("__debug__" : Str)) = false ∧ (x == ("__classdict__" : Str)) = false := by
  unfold dbgB at h
  rw [Bool.and_eq_true] at h
  exact ⟨by simpa using h.1, by simpa using h.2⟩
theorem Good.vis (G : Good g c W X) {x : Str} (h : visB c.sc x = true) : Vis X.env.scope x := by
  unfold visB at h
  rw [G.esc]
  split at h
  · exact .inl ‹_›
  · exact .inr (.inl ‹_›)
  · exact .inr (.inr ‹_›)
  · cases h
theorem Good.gl (G : Good g c W X) {x : Str} (h : glB c.sc x = true) : Gl X x := by
  unfold glB at h
  show X.env.scope.names.lookup x = some .globalImplicit
  rw [G.esc]
  split at h
  · assumption
  · cases h
theorem Good.room65 (G : Good g c W X) : X.A.units + 65 < cLine := by have := G.room.un; omega
theorem Good.fnI (G : Good g c W X) {x : Str} {Φ : List D → R D} (h : FnI g.P g.w g.K g.mg g.base g.cad g.k x Φ) : FnI X.prog X.w X.K X.mg X.base g.cad g.k x Φ := by
  rw [G.eP, G.ew, G.eK, G.em, G.eb]; exact h
theorem bt_of (ok : GOk g c.T F Gs) (G : Good g c W X) {x n : Str} (h : btN c x n = true) : x = n ∧ Gl X n ∧ X.mg n = none := by
  unfold btN at h
  simp only [Bool.and_eq_true] at h
  obtain ⟨⟨h1, h2⟩, h3⟩ := h
  refine ⟨of_decide_eq_true h1, G.gl h2, ?_⟩
  rw [G.em]
  exact ok.bt n (List.contains_iff_mem.mp h3)
theorem Good.blk (G : Good g c W X) {scope : Scope} (s : Shared) (H : Hp) (C : Addr) (cl : List (Str × Addr)) (fp : List Addr) : Good g (blkCc c scope) W0 (X.blk s H scope (compEnvC scope cl C X.env) fp) where
  eP := G.eP
  ew := G.ew
  eK := G.eK
  em := G.em
  eb := G.eb
  eN := G.eN
  nd := G.nd
  calm := G.calm
  room := G.room
  esc := by
    show relabel scope X.env = relS scope c.sc
    rw [← G.esc]; rfl
  own := fun x h => h
  tk := takes0
theorem opr2 (G : Good g c W X) {op : Op2} {o : Operator} (h : opB op o = true) : OpR X (binaryOp o) (rD2 X.K g.cad (op2 op)) := by
  cases op <;> cases o <;> first | (simp [opB] at h; done) | exact opr_add | exact opr_sub | exact opr_mul | exact opr_fdiv | exact opr_mod | exact opr_pow
theorem cmp2 (G : Good g c W X) {op : Op2} {o : CmpOp} (h : cmpB op o = true) : OpR X (compareOp o) (rD2 X.K g.cad (op2 op)) := by
  have u := G.room65
  have u' : X.A.units + 64 < cLine := by omega
  cases op <;> cases o <;> first | (simp [cmpB] at h; done) | exact opr_eq u' | exact opr_ne u' | exact opr_lt | exact opr_le | exact opr_gt | exact opr_ge | exact opr_is | exact opr_isnot | exact opr_in u | exact opr_notIn u
theorem bi_snd (ok : GOk g c.T F Gs) (G : Good g c W X) {x : Str} {b0 : Bool} {bi : Bi} {p : PySem.Expr} {ps : List PySem.Expr} {rs : Envd → R (List D)} {p0 pos : Pos} (h : btN c x (biN bi) = true) (ha : PAM X g.cad W true (p :: ps) rs) (hs : noStars (p :: ps) = true) :
    PM X g.cad W b0 (.Call (.Name x p0) (p :: ps) [] pos) (fun env => (rs env).bind (biD bi)) := by
  obtain ⟨rfl, h1, h2⟩ := bt_of ok G h
  cases bi
  · exact sd_biB cb_len (bi_calm _) h1 h2 (by decide +kernel) ha hs (by decide) (by decide)
  · exact sd_biB cb_abs (bi_calm _) h1 h2 (by decide +kernel) ha hs (by decide) (by decide)
  · exact sd_biT cb_int (bi_calm _) h1 h2 (by decide +kernel) ha hs (by decide) (by decide)
  · exact sd_biB (cb_min2 G.calm) (bi_calm _) h1 h2 (by decide +kernel) ha hs (by decide) (by decide)
  · exact sd_biB (cb_max2 G.calm) (bi_calm _) h1 h2 (by decide +kernel) ha hs (by decide) (by decide)
  · exact sd_biB (cb_sum G.calm) (bi_calm _) h1 h2 (by decide +kernel) ha hs (by decide) (by decide)
  · exact sd_biB (cb_all G.calm) (bi_calm _) h1 h2 (by decide +kernel) ha hs (by decide) (by decide)
  · exact sd_biB (cb_any G.calm) (bi_calm _) h1 h2 (by decide +kernel) ha hs (by decide) (by decide)
  · exact sd_biT cb_tuple (bi_calm _) h1 h2 (by decide +kernel) ha hs (by decide) (by decide)
  · exact sd_biT cb_list (bi_calm _) h1 h2 (by decide +kernel) ha hs (by decide) (by decide)
  · exact sd_biB (cb_maxl G.calm) (bi_calm _) h1 h2 (by decide +kernel) ha hs (by decide) (by decide)
  · exact sd_biB (cb_minl G.calm) (bi_calm _) h1 h2 (by decide +kernel) ha hs (by decide) (by decide)
theorem boot_ty : ∀ n ∈ tyNames, bootBuiltins (Str.ofString n) = some (.type n) ∧ (Str.ofString n) ≠ "__name__" ∧ ((Str.ofString n) == ("__debug__" : Str)) = false := by decide +kernel
mutual
theorem tg_snd (G : Good g c W X) : ∀ (t : Tg) (p : PySem.Expr), chkTg c t p = true → PG X p (gT X.K g.cad t)
  | .nm i, p, h => by
    cases p <;> simp only [chkTg] at h <;> first | (cases h; done) | skip
    rw [Bool.and_eq_true] at h
    obtain ⟨h1, h2⟩ := h
    have e := nameAt_eq h1
    rw [← G.eN] at e
    unfold stB at h2
    split at h2
    · rename_i k
      rw [← G.esc] at k
      exact sg_name G.nd e (.inl k) (.inr k)
    · rename_i k
      rw [← G.esc] at k
      exact sg_name G.nd e (.inr k) (.inl (G.own _ h2))
    · cases h2
  | .tp ts, p, h => by
    cases p <;> simp only [chkTg] at h <;> first | (cases h; done) | skip
    rename_i es k pos
    obtain ⟨h1, h2, h3⟩ := tgs_snd G ts es h
    exact sg_tup G.calm h1 h2 h3
theorem tgs_snd (G : Good g c W X) : ∀ (ts : List Tg) (ps : List PySem.Expr), chkTgs c ts ps = true → PGs X ps (gTs X.K g.cad ts) ∧ noStars ps = true ∧ ps.length = ts.length
  | [], [], _ => ⟨sgs_nil, rfl, rfl⟩
  | [], _ :: _, h => by simp [chkTgs] at h
  | _ :: _, [], h => by simp [chkTgs] at h
  | t :: ts, p :: ps, h => by
    simp only [chkTgs, Bool.and_eq_true] at h
    obtain ⟨⟨h1, h2⟩, h3⟩ := h
    obtain ⟨q1, q2, q3⟩ := tgs_snd G ts ps h3
    exact ⟨sgs_cons (tg_snd G t p h2) q1 h1, by rw [noStars, h1, q2]; rfl, by simp [q3]⟩
end
end
end DL
namespace DL
open PySem PySem.Spec PyProof.Rows L2 

theorem R.bind_assoc {α β γ : Type} (x : R α) (f : α → R β) (k : β → R γ) : (x.bind f).bind k = x.bind fun a => (f a).bind k := by cases x <;> rfl
theorem evs_one (F : Fns) (Gs : List D) (b : Bool) (e : E) (env : Envd) : (evs F Gs b [e] env).bind (itemsD .seq) = (ev F Gs b e env).bind seqD := by
  simp only [evs]
  cases ev F Gs b e env <;> rfl
section
variable (F : Fns) (Gs : List D) (b : Bool)
theorem ev_lit (d) : ev F Gs b (.lit d) = fun _ => .ok d := by funext env; simp only [ev]
theorem ev_var (i) : ev F Gs b (.var i) = fun env => slot b env i := by funext env; simp only [ev]
theorem ev_glob (j) : ev F Gs b (.glob j) = fun _ => globD Gs j := by funext env; simp only [ev]
theorem ev_bin (op x y) : ev F Gs b (.bin op x y) = fun env => (ev F Gs true x env).bind fun d => (ev F Gs true y env).bind fun e => op2 op d e := by funext env; simp only [ev]
theorem ev_chain (p q x y z) : ev F Gs b (.chain p q x y z) = fun env => (ev F Gs true x env).bind fun d => (ev F Gs true y env).bind fun e => andR (op2 p d e) ((ev F Gs true z env).bind fun f => op2 q e f) := by funext env; simp only [ev]
theorem ev_neg (x) : ev F Gs b (.neg x) = fun env => (ev F Gs true x env).bind negD := by funext env; simp only [ev]
theorem ev_not (x) : ev F Gs b (.not x) = fun env => (ev F Gs false x env).not := by funext env; simp only [ev]
theorem ev_and (x y) : ev F Gs b (.and x y) = fun env => andR (ev F Gs false x env) (ev F Gs false y env) := by funext env; simp only [ev]
theorem ev_or (x y) : ev F Gs b (.or x y) = fun env => orR (ev F Gs false x env) (ev F Gs false y env) := by funext env; simp only [ev]
theorem ev_ite (c x y) : ev F Gs b (.ite c x y) = fun env => iteR (ev F Gs false c env) (ev F Gs false x env) (ev F Gs false y env) := by funext env; simp only [ev]
theorem ev_tup (es) : ev F Gs b (.tup es) = fun env => (evs F Gs false es env).bind fun ds => guard (decide (ds.length ≤ SZ)) (.ok (.tup ds)) := by funext env; simp only [ev]
theorem ev_lst (es) : ev F Gs b (.lst es) = fun env => (evs F Gs false es env).bind fun ds => guard (decide (ds.length ≤ SZ)) (.ok (.lst ds)) := by funext env; simp only [ev]
theorem ev_idx (x y) : ev F Gs b (.idx x y) = fun env => (ev F Gs true x env).bind fun d => (ev F Gs true y env).bind fun e => ixD d e := by funext env; simp only [ev]
theorem ev_sl (x lo hi) : ev F Gs b (.sl x lo hi) = fun env => (ev F Gs true x env).bind fun d => (partE lo (ev F Gs false lo env)).bind fun l => (partE hi (ev F Gs false hi env)).bind fun h => slD d l h := by funext env; simp only [ev]
theorem ev_rev (x) : ev F Gs b (.rev x) = fun env => (ev F Gs true x env).bind revD := by funext env; simp only [ev]
theorem ev_mulL (x y) : ev F Gs b (.mulL x y) = fun env => (ev F Gs true x env).bind fun d => (ev F Gs true y env).bind fun e => opMulL d e := by funext env; simp only [ev]
theorem ev_call (j es) : ev F Gs b (.call j es) = fun env => (evs F Gs false es env).bind fun ds => callD F j ds := by funext env; simp only [ev]
theorem ev_bi (f es) : ev F Gs b (.bi f es) = fun env => (evs F Gs true es env).bind fun ds => biD f ds := by funext env; simp only [ev]
theorem ev_isi (x t) : ev F Gs b (.isi x t) = fun env => (ev F Gs true x env).bind fun d => isiD d t := by funext env; simp only [ev]
theorem ev_lc (vs tg k its cond elt) : ev F Gs b (.lc vs tg k its cond elt) = fun env => (evs F Gs true its env).bind fun ds => (itemsD k ds).bind fun xs => lcD tg vs (fun e => evc F Gs cond e) (fun e => ev F Gs false elt e) env xs := by funext env; simp only [ev]
theorem evs_nil : evs F Gs b [] = fun _ => .ok [] := by funext env; simp only [evs]
theorem evs_cons (e es) : evs F Gs b (e :: es) = fun env => (ev F Gs b e env).bind fun d => (evs F Gs b es env).bind fun ds => .ok (d :: ds) := by funext env; simp only [evs]
theorem evc_nil : evc F Gs [] = fun _ => .ok true := by funext env; simp only [evc]
theorem evc_one (e) : evc F Gs [e] = fun env => (ev F Gs false e env).toB := by funext env; simp only [evc]
end
section
variable (g : GW) (T : Tab) (F : Fns) (Gs : List D)
structure SndE (n : Nat) : Prop where
  e : ∀ (c : Cc) (e : E) (pe : PySem.Expr), c.T = T → chkE n c e pe = true → ∀ (W : WX) (X : Cx), Good g c W X → (∀ b, PM X g.cad W b pe (ev F Gs b e)) ∧ PTM X g.cad W pe (ev F Gs false e) ∧ (∀ o ps p, pe = .BoolOp o ps p → PWM X g.cad W pe (ev F Gs false e))
  es : ∀ (c : Cc) (es : List E) (ps : List PySem.Expr), c.T = T → chkEs n c es ps = true → ∀ (W : WX) (X : Cx), Good g c W X → noStars ps = true ∧ ∀ b, PAM X g.cad W b ps (evs F Gs b es)
  o : ∀ (c : Cc) (e : E) (o : Option PySem.Expr), c.T = T → chkO n c e o = true → ∀ (W : WX) (X : Cx), Good g c W X → POM X g.cad W o (fun env => partE e (ev F Gs false e env))
  i : ∀ (c : Cc) (t : PySem.Expr) (k : Ik) (es : List E) (pe : PySem.Expr), c.T = T → chkI n c t k es pe = true → ∀ (W : WX) (X : Cx), Good g c W X → (∀ b, PI X t pe (tI (LX X g.cad) W b fun env => (evs F Gs b es env).bind (itemsD k))) ∧ ∀ x, foldedSetIterable pe X.env x = pure x
  c : ∀ (c : Cc) (es : List E) (ps : List PySem.Expr), c.T = T → chkC n c es ps = true → ∀ (W : WX) (X : Cx), Good g c W X → PTs X ps (tT (LX X g.cad) W fun env => evc F Gs es env)
end
section
variable {g : GW} {T : Tab} {F : Fns} {Gs : List D}
theorem chk_noSet {n : Nat} {c : Cc} {e : E} {pe : PySem.Expr} (h : chkE n c e pe = true) (env : Env) (x : Value) : foldedSetIterable pe env x = pure x := by
  cases pe <;> first | rfl | skip
  cases n with
  | zero => simp [chkE] at h
  | succ n =>
    cases e <;> simp only [chkE] at h <;> first | (cases h; done) | skip
    rename_i a t
    cases t <;> simp only [chkE] at h <;> cases h
theorem lit_snd {X : Cx} {cad : Nat → Addr} {W : WX} {d : D} {k : Const} {j : Nat} {pos : Pos} (h : litB d k = true) (b : Bool) : PM X cad W b (.Constant k j pos) (fun _ => .ok d) := by
  cases d <;> cases k <;> first | (simp [litB] at h; done) | skip
  · exact sd_non
  · have e := (beq_iff_eq.mp (show (_ == _) = true from h)); subst e; exact sd_bl
  · have e := of_decide_eq_true (show decide _ = true from h); subst e; exact sd_int
  · have e := of_decide_eq_true (show decide _ = true from h); subst e; exact sd_str
theorem sndE_succ (ok : GOk g T F Gs) (n : Nat) (S : SndE g T F Gs n) : ∀ (c : Cc) (e : E) (pe : PySem.Expr), c.T = T → chkE (n + 1) c e pe = true → ∀ (W : WX) (X : Cx), Good g c W X →
    (∀ b, PM X g.cad W b pe (ev F Gs b e)) ∧ PTM X g.cad W pe (ev F Gs false e) ∧ (∀ o ps p, pe = .BoolOp o ps p → PWM X g.cad W pe (ev F Gs false e)) := by
  intro c e pe hT h W X G
  have two : ∀ {pe : PySem.Expr} {r : Bool → Envd → R D}, (∀ b, PM X g.cad W b pe (r b)) → (∀ whole, isTrue pe X.env whole = (do let v ← whole; standAt pe.pos; holding [v] (truthy v))) → (∀ o ps p, pe ≠ .BoolOp o ps p) →
      (∀ b, PM X g.cad W b pe (r b)) ∧ PTM X g.cad W pe (r false) ∧ (∀ o ps p, pe = .BoolOp o ps p → PWM X g.cad W pe (r false)) :=
    fun h1 h2 h3 => ⟨h1, st_val (h1 false) h2, fun o ps p z => absurd z (h3 o ps p)⟩
  have ok' : GOk g c.T F Gs := by rw [hT]; exact ok
  have bad : ∀ {b : Bool} {pe : PySem.Expr}, PM X g.cad W b pe (fun _ => .bad) := fun {b pe} => ⟨fun pins s σ H Q I hq => by obtain ⟨_, _, _, z⟩ := hq; exact False.elim z⟩
  cases e with
  | lit d =>
    simp only [chkE] at h
    split at h <;> first | (cases h; done) | skip
    simp only [ev_lit]
    exact two (fun b => lit_snd h b) (by intro _; rfl) (by intro o ps p z; cases z)
  | var i =>
    simp only [chkE] at h
    split at h <;> first | (cases h; done) | skip
    simp only [Bool.and_eq_true] at h
    obtain ⟨⟨h1, h2⟩, h3⟩ := h
    have e1 := nameAt_eq h1
    rw [← G.eN] at e1
    simp only [ev_var]
    exact two (r := fun b env => slot b env i) (fun b => sd_var e1 (G.vis h2) (dbg_of h3).1 (dbg_of h3).2) (by intro _; rfl) (by intro o ps p z; cases z)
  | glob j =>
    simp only [chkE] at h
    split at h <;> first | (cases h; done) | skip
    rename_i x pos
    simp only [glN, Bool.and_eq_true] at h
    obtain ⟨h1, h2, h3⟩ := h
    have e1 := nameAt_eq h1
    simp only [ev_glob]
    refine two (r := fun b env => globD Gs j) (fun b => ?_) (by intro _; rfl) (by intro o ps p z; cases z)
    unfold globD
    cases q : Gs[j]? with
    | none => exact bad
    | some d =>
      obtain ⟨u, v, q1, q2, q3⟩ := ok'.gl j x d e1 q
      rw [← G.em] at q1
      exact sd_glob (G.gl h2) q1 q2 (dbg_of h3).1 (by rw [G.eK]; exact q3)
  | bin op a b =>
    simp only [ev_bin]
    simp only [chkE] at h
    split at h <;> first | (cases h; done) | skip
    · simp only [Bool.and_eq_true] at h
      obtain ⟨⟨h1, h2⟩, h3⟩ := h
      have A := S.e c _ _ hT h2 W X G
      have B := S.e c _ _ hT h3 W X G
      exact two (r := fun _ env => (ev F Gs true a env).bind fun d => (ev F Gs true b env).bind fun e => op2 op d e) (fun _ => sd_bin (opr2 G h1) (op2_calm op) (A.1 true) (B.1 true)) (by intro _; rfl) (by intro o ps p z; cases z)
    · simp only [Bool.and_eq_true, Bool.not_eq_true'] at h
      obtain ⟨⟨⟨h1, h2⟩, h3⟩, h4⟩ := h
      have A := S.e c _ _ hT h3 W X G
      have B := S.e c _ _ hT h4 W X G
      exact ⟨fun _ => sd_cmp (cmp2 G h1) (op2_calm op) (A.1 true) (B.1 true) h2, st_cmp (cmp2 G h1) (op2_calm op) (A.1 true) (B.1 true) h2, by intro o ps p z; cases z⟩
  | chain o1 o2 a b d =>
    simp only [ev_chain]
    simp only [chkE] at h
    split at h <;> first | (cases h; done) | skip
    simp only [Bool.and_eq_true, Bool.not_eq_true'] at h
    obtain ⟨⟨⟨⟨⟨h1, h2⟩, h3⟩, h4⟩, h5⟩, h6⟩ := h
    have A := S.e c _ _ hT h4 W X G
    have B := S.e c _ _ hT h5 W X G
    have C := S.e c _ _ hT h6 W X G
    exact ⟨fun _ => sd_chain (cmp2 G h1) (cmp2 G h2) (op2_calm o1) (op2_calm o2) (A.1 true) (B.1 true) (C.1 true) h3, st_chain (cmp2 G h1) (cmp2 G h2) (op2_calm o1) (op2_calm o2) (A.1 true) (B.1 true) (C.1 true) h3, by intro o ps p z; cases z⟩
  | neg a =>
    simp only [ev_neg]
    simp only [chkE] at h
    split at h <;> first | (cases h; done) | skip
    have A := S.e c _ _ hT h W X G
    exact two (r := fun _ env => (ev F Gs true a env).bind negD) (fun _ => sd_neg (A.1 true)) (by intro _; rfl) (by intro o ps p z; cases z)
  | not a =>
    simp only [ev_not]
    simp only [chkE] at h
    split at h <;> first | (cases h; done) | skip
    have A := S.e c _ _ hT h W X G
    exact ⟨fun _ => sd_not (A.1 false), st_not A.2.1, by intro o ps p z; cases z⟩
  | and a b =>
    simp only [ev_and]
    simp only [chkE] at h
    split at h <;> first | (cases h; done) | skip
    · rw [Bool.and_eq_true] at h
      have A := S.e c _ _ hT h.1 W X G
      have B := S.e c _ _ hT h.2 W X G
      exact ⟨fun _ => sd_and (A.1 false) (sd_one (B.1 false)), L2.PW.pt (sw_and A.2.1 (pw_and1 B.2.1)), fun o ps p z => by cases z; exact sw_and A.2.1 (pw_and1 B.2.1)⟩
    · rw [Bool.and_eq_true] at h
      have A := S.e c _ _ hT h.1 W X G
      have B := S.e c _ _ hT h.2 W X G
      exact ⟨fun _ => sd_and (A.1 false) (B.1 false), L2.PW.pt (sw_and A.2.1 (B.2.2 _ _ _ rfl)), fun o ps p z => by cases z; exact sw_and A.2.1 (B.2.2 _ _ _ rfl)⟩
  | or a b =>
    simp only [ev_or]
    simp only [chkE] at h
    split at h <;> first | (cases h; done) | skip
    · rw [Bool.and_eq_true] at h
      have A := S.e c _ _ hT h.1 W X G
      have B := S.e c _ _ hT h.2 W X G
      exact ⟨fun _ => sd_or (A.1 false) (sd_one (B.1 false)), L2.PW.pt (sw_or A.2.1 (pw_or1 B.2.1)), fun o ps p z => by cases z; exact sw_or A.2.1 (pw_or1 B.2.1)⟩
    · rw [Bool.and_eq_true] at h
      have A := S.e c _ _ hT h.1 W X G
      have B := S.e c _ _ hT h.2 W X G
      exact ⟨fun _ => sd_or (A.1 false) (B.1 false), L2.PW.pt (sw_or A.2.1 (B.2.2 _ _ _ rfl)), fun o ps p z => by cases z; exact sw_or A.2.1 (B.2.2 _ _ _ rfl)⟩
  | ite a b d =>
    simp only [ev_ite]
    simp only [chkE] at h
    split at h <;> first | (cases h; done) | skip
    simp only [Bool.and_eq_true] at h
    have A := S.e c _ _ hT h.1.1 W X G
    have B := S.e c _ _ hT h.1.2 W X G
    have C := S.e c _ _ hT h.2 W X G
    exact ⟨fun _ => sd_ite A.2.1 (B.1 false) (C.1 false), st_ite A.2.1 B.2.1 C.2.1, by intro o ps p z; cases z⟩
  | tup es =>
    simp only [ev_tup]
    simp only [chkE] at h
    split at h <;> first | (cases h; done) | skip
    have A := S.es c _ _ hT h W X G
    exact two (r := fun _ env => (evs F Gs false es env).bind fun ds => guard (decide (ds.length ≤ SZ)) (.ok (.tup ds))) (fun _ => sd_tup (A.2 false)) (by intro _; rfl) (by intro o ps p z; cases z)
  | lst es =>
    simp only [ev_lst]
    simp only [chkE] at h
    split at h <;> first | (cases h; done) | skip
    have A := S.es c _ _ hT h W X G
    exact two (r := fun _ env => (evs F Gs false es env).bind fun ds => guard (decide (ds.length ≤ SZ)) (.ok (.lst ds))) (fun _ => sd_lst (A.2 false)) (by intro _; rfl) (by intro o ps p z; cases z)
  | idx a b =>
    simp only [ev_idx]
    simp only [chkE] at h
    split at h <;> first | (cases h; done) | skip
    simp only [Bool.and_eq_true] at h
    have A := S.e c _ _ hT h.1.2 W X G
    have B := S.e c _ _ hT h.2 W X G
    exact two (r := fun _ env => (ev F Gs true a env).bind fun d => (ev F Gs true b env).bind fun e => ixD d e) (fun _ => sd_idx (A.1 true) (B.1 true) h.1.1) (by intro _; rfl) (by intro o ps p z; cases z)
  | sl a lo hi =>
    simp only [ev_sl]
    simp only [chkE] at h
    split at h <;> first | (cases h; done) | skip
    simp only [Bool.and_eq_true] at h
    have A := S.e c _ _ hT h.1.1 W X G
    have B := S.o c _ _ hT h.1.2 W X G
    have C := S.o c _ _ hT h.2 W X G
    exact two (r := fun _ env => (ev F Gs true a env).bind fun d => (partE lo (ev F Gs false lo env)).bind fun l => (partE hi (ev F Gs false hi env)).bind fun h => slD d l h) (fun _ => sd_sl (A.1 true) B C) (by intro _; rfl) (by intro o ps p z; cases z)
  | rev a =>
    simp only [ev_rev]
    simp only [chkE] at h
    split at h <;> first | (cases h; done) | skip
    have A := S.e c _ _ hT h W X G
    exact two (r := fun _ env => (ev F Gs true a env).bind revD) (fun _ => sd_rev (A.1 true)) (by intro _; rfl) (by intro o ps p z; cases z)
  | mulL a b =>
    simp only [ev_mulL]
    simp only [chkE] at h
    split at h <;> first | (cases h; done) | skip
    simp only [Bool.and_eq_true] at h
    have A := S.e c _ _ hT h.1 W X G
    have B := S.e c _ _ hT h.2 W X G
    exact two (r := fun _ env => (ev F Gs true a env).bind fun d => (ev F Gs true b env).bind fun e => opMulL d e) (fun _ => PE.ofF (fr_mul (A.1 true) (B.1 true))) (by intro _; rfl) (by intro o ps p z; cases z)
  | call j es =>
    simp only [ev_call]
    simp only [chkE] at h
    split at h <;> first | (cases h; done) | skip
    simp only [Bool.and_eq_true, glN] at h
    obtain ⟨⟨h1, h2, h3⟩, h4⟩ := h
    have A := S.es c _ _ hT h4 W X G
    refine two (r := fun _ env => (evs F Gs false es env).bind fun ds => callD F j ds) (fun b => ?_) (by intro _; rfl) (by intro o ps p z; cases z)
    cases q : F[j]? with
    | none =>
      exfalso
      have h5 := nameAt_eq h1
      have h6 := (List.getElem?_eq_some_iff.mp h5).1
      have h7 := List.getElem?_eq_none_iff.mp q
      have h8 := ok'.len
      omega
    | some Φ =>
      have e : callD F j = Φ := by funext ds; unfold callD; rw [q]
      rw [e]
      exact sd_call (G.fnI (ok'.fn j _ Φ (nameAt_eq h1) q)) G.room (G.gl h2) G.tk (A.2 false) A.1
  | bi f es =>
    simp only [ev_bi]
    simp only [chkE] at h
    split at h <;> first | (cases h; done) | skip
    simp only [Bool.and_eq_true] at h
    have A := S.es c _ _ hT h.2 W X G
    exact two (r := fun _ env => (evs F Gs true es env).bind fun ds => biD f ds) (fun b => bi_snd ok' G h.1 (A.2 true) A.1) (by intro _; rfl) (by intro o ps p z; cases z)
  | isi a t =>
    simp only [ev_isi]
    cases t with
    | own c2 => simp only [chkE] at h; exact Bool.noConfusion h
    | b m =>
      simp only [chkE] at h
      split at h <;> first | (cases h; done) | skip
      simp only [Bool.and_eq_true] at h
      obtain ⟨⟨⟨⟨h1, h2⟩, h3⟩, h4⟩, h5⟩ := h
      obtain ⟨rfl, i1, i2⟩ := bt_of ok' G h1
      obtain ⟨rfl, j1, j2⟩ := bt_of ok' G h2
      have mem := List.contains_iff_mem.mp h3
      obtain ⟨b1, b2, b3⟩ := boot_ty _ mem
      have A := S.e c _ _ hT h5 W X G
      exact two (r := fun _ env => (ev F Gs true a env).bind fun d => isiD d (.b _)) (fun _ => sd_isi mem b1 i1 i2 j1 j2 b2 b3 (A.1 true) h4) (by intro _; rfl) (by intro o ps p z; cases z)
  | lc vs tg k its cond elt =>
    simp only [ev_lc]
    simp only [chkE] at h
    split at h <;> first | (cases h; done) | skip
    simp only [Bool.and_eq_true] at h
    obtain ⟨⟨⟨⟨⟨h1, h2⟩, h3⟩, h4⟩, h5⟩, h6⟩ := h
    rename_i pelt ptg pit pfs scope pos
    obtain ⟨I, hs⟩ := S.i c _ _ _ _ hT h2 W X G
    have own : (ownsOf c.N vs).map (·.2) = vs := by simp [ownsOf, List.map_map, Function.comp_def]
    have ok2 : BlkOk X.N X.env.scope scope (ownsOf c.N vs) := by rw [G.eN, G.esc]; exact blkOk_by h1
    have sl : ∀ i ∈ tg.slots, i ∈ (ownsOf c.N vs).map (·.2) := fun i hi => by
      rw [own]
      have := List.all_eq_true.mp (show (tg.slots.all fun i => vs.contains i) = true from h3) i hi
      exact List.contains_iff_mem.mp this
    have fr := fr_lc (cad := g.cad) (W := W) (pos := pos) G.calm G.nd (I true) ok2 sl
      (fun s H C cl fp => tg_snd (G.blk s H C cl fp) tg _ h4)
      (fun s H C cl fp => S.c (blkCc c _) _ _ hT h5 W0 _ (G.blk s H C cl fp))
      (fun s H C cl fp => (S.e (blkCc c _) _ _ hT h6 W0 _ (G.blk s H C cl fp)).1 false) hs
    rw [own] at fr
    have e : (fun env => ((evs F Gs true its env).bind (itemsD k)).bind fun xs => lcD tg vs (fun e => evc F Gs cond e) (ev F Gs false elt) env xs) =
        fun env => (evs F Gs true its env).bind fun ds => (itemsD k ds).bind fun xs => lcD tg vs (fun e => evc F Gs cond e) (fun e => ev F Gs false elt e) env xs := by
      funext env; rw [R.bind_assoc]
    exact two (r := fun _ env => (evs F Gs true its env).bind fun ds => (itemsD k ds).bind fun xs => lcD tg vs (fun e => evc F Gs cond e) (fun e => ev F Gs false elt e) env xs) (fun b => by rw [← e]; exact PE.ofF fr) (by intro _; rfl) (by intro o ps p z; cases z)
  | fld a f => simp [chkE] at h
theorem snd_zero : SndE g T F Gs 0 :=
  ⟨fun _ _ _ _ h => by simp [chkE] at h, fun _ _ _ _ h => by simp [chkEs] at h, fun _ _ _ _ h => by simp [chkO] at h, fun _ _ _ _ _ _ h => by simp [chkI] at h, fun _ _ _ _ h => by simp [chkC] at h⟩
theorem snd_succ (ok : GOk g T F Gs) (n : Nat) (S : SndE g T F Gs n) : SndE g T F Gs (n + 1) := by
  refine ⟨sndE_succ ok n S, ?_, ?_, ?_, ?_⟩
  · intro c es ps hT h W X G
    simp only [chkEs] at h
    split at h <;> first | (cases h; done) | skip
    · exact ⟨rfl, fun b => by rw [evs_nil]; exact sa_nil⟩
    · simp only [Bool.and_eq_true] at h
      have A := S.e c _ _ hT h.1.2 W X G
      have B := S.es c _ _ hT h.2 W X G
      exact ⟨by rw [noStars, h.1.1, B.1]; rfl, fun b => by rw [evs_cons]; exact sa_cons (A.1 b) (B.2 b) h.1.1⟩
  · intro c e o hT h W X G
    cases o with
    | none =>
      simp only [chkO] at h
      split at h <;> first | (cases h; done) | skip
      exact so_none
    | some p =>
      simp only [chkO] at h
      split at h <;> first | (cases h; done) | skip
      rename_i hne
      have A := S.e c _ _ hT h W X G
      have e2 : (fun env => partE e (ev F Gs false e env)) = fun env => (ev F Gs false e env).bind partI := by
        funext env
        unfold partE
        split
        · exact absurd rfl hne
        · rfl
      rw [e2]
      exact so_some (A.1 false)
  · intro c t k es pe hT h W X G
    have ok' : GOk g c.T F Gs := by rw [hT]; exact ok
    simp only [chkI] at h
    split at h <;> first | (cases h; done) | skip
    · rename_i e
      have A := S.e c _ _ hT h W X G
      refine ⟨fun b => ?_, chk_noSet h X.env⟩
      have e2 : (fun env => (evs F Gs b [e] env).bind (itemsD .seq)) = fun env => (ev F Gs b e env).bind seqD := by funext env; exact evs_one F Gs b e env
      rw [e2]
      exact si_seq (A.1 b)
    · rw [Bool.and_eq_true] at h
      obtain ⟨rfl, i1, i2⟩ := bt_of ok' G h.1
      have A := S.es c _ _ hT h.2 W X G
      have ns : noStar _ = true := (Bool.and_eq_true_iff.mp A.1).1
      exact ⟨fun b => si_range1 i1 i2 (A.2 b) ns, fun _ => rfl⟩
    · rw [Bool.and_eq_true] at h
      obtain ⟨rfl, i1, i2⟩ := bt_of ok' G h.1
      have A := S.es c _ _ hT h.2 W X G
      have ns := Bool.and_eq_true_iff.mp A.1
      have ns2 := Bool.and_eq_true_iff.mp ns.2
      exact ⟨fun b => si_range2 i1 i2 (A.2 b) ns.1 ns2.1, fun _ => rfl⟩
    · simp only [Bool.and_eq_true] at h
      obtain ⟨⟨h1, h2⟩, h3⟩ := h
      obtain ⟨rfl, i1, i2⟩ := bt_of ok' G h2
      have A := S.es c _ _ hT h3 W X G
      have ns : noStar _ = true := (Bool.and_eq_true_iff.mp A.1).1
      cases t <;> simp only [isTup] at h1 <;> first | (cases h1; done) | skip
      exact ⟨fun b => si_enum i1 i2 (A.2 b) ns, fun _ => rfl⟩
    · simp only [Bool.and_eq_true] at h
      obtain ⟨⟨h1, h2⟩, h3⟩ := h
      obtain ⟨rfl, i1, i2⟩ := bt_of ok' G h2
      have A := S.es c _ _ hT h3 W X G
      have ns := Bool.and_eq_true_iff.mp A.1
      have ns2 := Bool.and_eq_true_iff.mp ns.2
      cases t <;> simp only [isTup] at h1 <;> first | (cases h1; done) | skip
      exact ⟨fun b => si_zip i1 i2 (A.2 b) ns.1 ns2.1, fun _ => rfl⟩
  · intro c es ps hT h W X G
    simp only [chkC] at h
    split at h <;> first | (cases h; done) | skip
    · rw [evc_nil]
      exact ⟨fun pins s σ H Q I hq => by
        obtain ⟨U, env, E, p⟩ := hq
        exact pts_nil.run pins s σ H Q I (p H (Ex.refl _ _))⟩
    · have A := S.e c _ _ hT h W X G
      rw [evc_one]
      exact pts_one A.2.1
theorem sndE (ok : GOk g T F Gs) : ∀ n, SndE g T F Gs n
  | 0 => snd_zero
  | n + 1 => snd_succ ok n (sndE ok n)
end
end DL
namespace DL
open PySem PySem.Spec PyProof.Rows L2 

/-! ### statements -/
section
variable (K : PySem.W.Frag) (cad : Nat → Addr) (U0 : List Addr) (H0 : Hp) (Ms : List (List Addr × Hp))
/-- since a marked state only what might be changed then, and what is new, has been changed -/
structure Mon (m : List Addr × Hp) (U : List Addr) (H : Hp) : Prop where
  un : ∀ a ∈ U, a ∈ m.1 ∨ (NewAt m.2 a ∧ OffK K a)
  ext : Ext m.1 m.2 H
  nt : NoTup m.1 H
structure BU (U : List Addr) (env : Envd) (σ : L2.St) (H : Hp) : Prop where
  E : ERep K cad U env σ H
  ex : Ex U0 H0 H
  u0 : ∀ a ∈ U0, a ∈ U
  un : ∀ a ∈ U, a ∈ U0 ∨ NewAt H0 a
  ow : ∀ (i : Nat) (d : D) (a : Addr), env[i]? = some (.ow d) → σ[i]? = some (some (.ref a)) → NewAt H0 a ∧ a ∉ U0
  mon : ∀ m ∈ Ms, Mon K m U H
def Bst (env : Envd) (σ : L2.St) (H : Hp) : Prop := ∃ U, BU K cad U0 H0 Ms U env σ H
end
/-- what is wanted at the end of a statement -/
def fin (L : LW) (W : WX) (U0 : List Addr) (H0 : Hp) (Ms : List (List Addr × Hp)) (D : Ends) (t : T) : Prop := match t with
  | .nx e => ∀ σ' H', Bst L.K L.cad U0 H0 Ms e σ' H' → D.nx σ' H'
  | .bk e => ∀ σ' H', Bst L.K L.cad U0 H0 Ms e σ' H' → D.bk σ' H'
  | .ct e => ∀ σ' H', Bst L.K L.cad U0 H0 Ms e σ' H' → D.ct σ' H'
  | .rt d => ∀ H' v, Ex U0 H0 H' → Rep L.K L.cad U0 H' d v → D.rt v H'
  | .exn c e => ∀ σ' H', Bst L.K L.cad U0 H0 Ms e σ' H' → W (.ref (L.cad c)) none σ' H'
  | .bad => False
def tSt (L : LW) (W : WX) (U0 : List Addr) (H0 : Hp) (f : Envd → T) : TS := fun D σ H => ∃ Ms env, Bst L.K L.cad U0 H0 Ms env σ H ∧ fin L W U0 H0 Ms D (f env)
section
variable {K : PySem.W.Frag} {cad : Nat → Addr} {U0 : List Addr} {H0 : Hp} {Ms : List (List Addr × Hp)} {U : List Addr} {env : Envd} {σ : L2.St} {H : Hp}
theorem BU.ext {H1 : Hp} (B : BU K cad U0 H0 Ms U env σ H) (e : Ex U H H1) : BU K cad U0 H0 Ms U env σ H1 :=
  ⟨B.E.ext e, B.ex.trans ⟨e.ext, fun a o ha q => e.keep a o (B.u0 a ha) q⟩, B.u0, B.un, B.ow, fun m hm => ⟨(B.mon m hm).un, (B.mon m hm).ext.trans (e.ext.all _), (B.mon m hm).nt.ext e.ext⟩⟩
theorem BU.set (B : BU K cad U0 H0 Ms U env σ H) (i : Nat) {d : D} {v : V} (r : Rep K cad U H d v) : BU K cad U0 H0 Ms U (env.set i (.im d)) (σ.set i (some v)) H := by
  refine ⟨B.E.set i r, B.ex, B.u0, B.un, fun j e a h1 h2 => ?_, B.mon⟩
  rw [lget_set] at h1 h2
  have hj : i ≠ j := fun z => by subst z; rw [if_pos rfl] at h1; split at h1 <;> cases h1
  rw [if_neg hj] at h1 h2
  exact B.ow j e a h1 h2
theorem BU.rep0 (B : BU K cad U0 H0 Ms U env σ H) {d : D} {v : V} (r : Rep K cad U H d v) : Rep K cad U0 H d v := Rep.sub B.u0 _ _ r
/-- an owned container is made -/
theorem BU.own (B : BU K cad U0 H0 Ms U env σ H) (i : Nat) {H1 : Hp} {a : Addr} {d : D} (e : Ex U H H1) (n : NewAt H a) (k : OffK K a) (o : Own K cad (a :: U) H1 a d) (t : NoTup (a :: U) H1) :
    BU K cad U0 H0 Ms (a :: U) (env.set i (.ow d)) (σ.set i (some (.ref a))) H1 := by
  have nu : a ∉ U := B.E.nt.notNew n
  have n0 : NewAt H0 a := n.back B.ex.ext
  have nt := B.E.nt.nt.cons n
  refine ⟨⟨t, fun j s h => ?_, fun j l d' e' x h1 h2 h3 h4 => ?_, by rw [List.length_set, List.length_set]; exact B.E.len⟩, B.ex.trans ⟨e.ext, fun x o hx q => e.keep x o (B.u0 x hx) q⟩, fun x hx => List.mem_cons_of_mem _ (B.u0 x hx),
    fun x hx => ?_, fun j d' x h1 h2 => ?_, fun m hm => ?_⟩
  · rw [lget_set] at h ⊢
    by_cases hij : i = j
    · subst hij
      rw [if_pos rfl] at h ⊢
      by_cases hl : i < env.length
      · rw [if_pos hl] at h
        cases h
        rw [if_pos (by rw [← B.E.len]; exact hl)]
        exact ⟨a, rfl, List.mem_cons_self, o⟩
      · rw [if_neg hl] at h; cases h
    · rw [if_neg hij] at h ⊢
      have sr := B.E.sl j s h
      cases s with
      | un => exact trivial
      | im d' =>
        obtain ⟨v, h1, h2⟩ := sr
        exact ⟨v, h1, Rep.ext nt (e.ext.all _) _ _ (Rep.grow n k _ _ h2)⟩
      | ow d' =>
        obtain ⟨x, h1, h2, h3⟩ := sr
        refine ⟨x, h1, List.mem_cons_of_mem _ h2, ?_⟩
        cases d' <;> simp only [Own] at h3 ⊢ <;> first | exact h3 | skip
        · obtain ⟨vs, q1, q2⟩ := h3
          exact ⟨vs, e.keep x _ h2 q1, Reps.ext nt (e.ext.all _) _ _ (Reps.grow n k _ _ q2)⟩
        · obtain ⟨vs, q1, q2⟩ := h3
          refine ⟨vs, ?_, Reps.ext nt (e.ext.all _) _ _ (Reps.grow n k _ _ q2)⟩
          rcases q1 with ⟨kk, z1, z2, z3⟩ | ⟨kk, z1, z2, z3⟩
          · exact .inl ⟨kk, z1, z2, e.keep x _ h2 z3⟩
          · exact .inr ⟨kk, z1, z2, e.keep x _ h2 z3⟩
  · rw [lget_set] at h1 h2 h3 h4
    have old : ∀ m d'', (if i = m then (if m < env.length then some (Sl.ow d) else none) else env[m]?) = some (.ow d'') → (if i = m then (if m < σ.length then some (some (V.ref a)) else none) else σ[m]?) = some (some (.ref x)) → (i = m ∧ x = a) ∨ (i ≠ m ∧ env[m]? = some (.ow d'') ∧ σ[m]? = some (some (.ref x)) ∧ x ∈ U) := fun m d'' q1 q2 => by
      by_cases hm : i = m
      · rw [if_pos hm] at q2
        split at q2
        · cases q2; exact .inl ⟨hm, rfl⟩
        · cases q2
      · rw [if_neg hm] at q1 q2
        refine .inr ⟨hm, q1, q2, ?_⟩
        obtain ⟨y, z1, z2, z3⟩ := B.E.sl m _ q1
        rw [q2] at z1
        cases z1
        exact z2
    rcases old j d' h1 h3 with ⟨a1, a2⟩ | ⟨a1, a2, a3, a4⟩
    · rcases old l e' h2 h4 with ⟨b1, b2⟩ | ⟨b1, b2, b3, b4⟩
      · exact a1.symm.trans b1
      · exact absurd (a2 ▸ b4) nu
    · rcases old l e' h2 h4 with ⟨b1, b2⟩ | ⟨b1, b2, b3, b4⟩
      · exact absurd (b2 ▸ a4) nu
      · exact B.E.dst j l d' e' x a2 b2 a3 b3
  · rcases List.mem_cons.mp hx with rfl | hx
    · exact .inr n0
    · exact B.un x hx
  · rw [lget_set] at h1 h2
    by_cases hij : i = j
    · rw [if_pos hij] at h2
      split at h2
      · cases h2; exact ⟨n0, fun z => nu (B.u0 _ z)⟩
      · cases h2
    · rw [if_neg hij] at h1 h2
      exact B.ow j d' x h1 h2
  · have M := B.mon m hm
    refine ⟨fun x hx => ?_, M.ext.trans (e.ext.all _), M.nt.ext e.ext⟩
    rcases List.mem_cons.mp hx with rfl | hx
    · by_cases hm1 : x ∈ m.1
      · exact .inl hm1
      · exact .inr ⟨⟨fun u q r => n.1 u q (M.ext.rd x u hm1 q r), fun C dx fs r => n.2 C dx fs (M.ext.ins x C dx fs hm1 r)⟩, k⟩
    · exact M.un x hx
/-- an owned container is written -/
theorem BU.write (B : BU K cad U0 H0 Ms U env σ H) {i : Nat} {d d' : D} {a : Addr} {o : HO} (h1 : env[i]? = some (.ow d)) (h2 : σ[i]? = some (some (.ref a))) (ha : a ∈ U)
    (nto : (∃ u, Ob u ∧ (∀ xs, u ≠ .tup xs) ∧ Rd (upd H a o) a u)) (ow : Own K cad U (upd H a o) a d') : BU K cad U0 H0 Ms U (env.set i (.ow d')) σ (upd H a o) := by
  have wr : Ext U H (upd H a o) := Ext.write ha
  obtain ⟨n0, nu0⟩ := B.ow i d a h1 h2
  have nt : NoTup U (upd H a o) := fun x hx => by
    by_cases e : x = a
    · subst e; exact .inl nto
    · rcases B.E.nt x hx with ⟨u, q1, q2, q3⟩ | ⟨C, dx, fs, q⟩
      · refine .inl ⟨u, q1, q2, ?_⟩
        rcases q3 with q3 | ⟨z, q3⟩
        · exact .inl (by rw [upd_ne e]; exact q3)
        · exact .inr ⟨z, by rw [upd_ne e]; exact q3⟩
      · exact .inr ⟨C, dx, fs, by rw [upd_ne e]; exact q⟩
  have n' : ∀ b u, Ob u → Rd H0 b u → b ≠ a := fun b u q r z => by subst z; exact n0.1 u q r
  have e0 : Ext [] H0 (upd H a o) := by
    refine ⟨fun b u _ q r => ?_, fun b C dx fs _ r => ?_, fun b xs _ r => ?_⟩
    · have := B.ex.ext.rd b u (by simp) q r
      have ne := n' b u q r
      rcases this with z | ⟨y, z⟩
      · exact .inl (by rw [upd_ne ne]; exact z)
      · exact .inr ⟨y, by rw [upd_ne ne]; exact z⟩
    · rw [upd_ne (fun z => by subst z; exact n0.2 _ _ _ r)]
      exact B.ex.ext.ins b C dx fs (by simp) r
    · rw [upd_ne (n' b (.lst xs) trivial (.inl r))]
      exact B.ex.ext.lst b xs (by simp) r
  refine ⟨⟨nt, fun j s h => ?_, fun j l e1 e2 x q1 q2 q3 q4 => ?_, by rw [List.length_set]; exact B.E.len⟩, ⟨e0, fun x z hx q => ?_⟩, B.u0, B.un, fun j e x q1 q2 => ?_, fun m hm => ?_⟩
  · rw [lget_set] at h
    by_cases hij : i = j
    · subst hij
      rw [if_pos rfl] at h
      split at h
      · cases h; exact ⟨a, h2, ha, ow⟩
      · cases h
    · rw [if_neg hij] at h
      have sr := B.E.sl j s h
      cases s with
      | un => exact trivial
      | im e =>
        obtain ⟨v, q1, q2⟩ := sr
        exact ⟨v, q1, Rep.ext B.E.nt.nt wr _ _ q2⟩
      | ow e =>
        obtain ⟨x, q1, q2, q3⟩ := sr
        have nx : x ≠ a := fun z => hij (B.E.dst i j d e a h1 h h2 (by rw [← z]; exact q1))
        exact ⟨x, q1, q2, Own.ext B.E.nt wr (fun o' q => by rw [upd_ne nx]; exact q) q3⟩
  · rw [lget_set] at q1 q2
    have back : ∀ m e', (if i = m then (if m < env.length then some (Sl.ow d') else none) else env[m]?) = some (.ow e') → ∃ e'', env[m]? = some (.ow e'') := fun m e' q => by
      by_cases hm : i = m
      · exact ⟨d, hm ▸ h1⟩
      · rw [if_neg hm] at q; exact ⟨e', q⟩
    obtain ⟨f1, g1⟩ := back j e1 q1
    obtain ⟨f2, g2⟩ := back l e2 q2
    exact B.E.dst j l f1 f2 x g1 g2 q3 q4
  · rw [upd_ne (fun y => nu0 (by rw [← y]; exact hx))]
    exact B.ex.keep x z hx q
  · rw [lget_set] at q1
    by_cases hij : i = j
    · exact B.ow j d x (hij ▸ h1) q2
    · rw [if_neg hij] at q1; exact B.ow j e x q1 q2
  · have M := B.mon m hm
    refine ⟨M.un, ?_, fun x hx => ?_⟩
    · rcases M.un a ha with z | ⟨z, _⟩
      · exact M.ext.trans (Ext.write z)
      · have ne : ∀ b u, Ob u → Rd m.2 b u → b ≠ a := fun b u q r y => by subst y; exact z.1 u q r
        refine ⟨fun b u nb q r => ?_, fun b C dx fs nb r => ?_, fun b xs nb r => ?_⟩
        · have := M.ext.rd b u nb q r
          rcases this with y | ⟨w, y⟩
          · exact .inl (by rw [upd_ne (ne b u q r)]; exact y)
          · exact .inr ⟨w, by rw [upd_ne (ne b u q r)]; exact y⟩
        · rw [upd_ne (fun y => by subst y; exact z.2 _ _ _ r)]
          exact M.ext.ins b C dx fs nb r
        · rw [upd_ne (ne b (.lst xs) trivial (.inl r))]
          exact M.ext.lst b xs nb r
    · by_cases y : x = a
      · subst y; exact .inl nto
      · rcases M.nt x hx with ⟨u, q1, q2, q3⟩ | ⟨C, dx, fs, q⟩
        · refine .inl ⟨u, q1, q2, ?_⟩
          rcases q3 with q3 | ⟨z, q3⟩
          · exact .inl (by rw [upd_ne y]; exact q3)
          · exact .inr ⟨z, by rw [upd_ne y]; exact q3⟩
        · exact .inr ⟨C, dx, fs, by rw [upd_ne y]; exact q⟩
/-- an owned container is given away -/
theorem BU.freeze (B : BU K cad U0 H0 Ms U env σ H) (i : Nat) : ∃ U', BU K cad U0 H0 Ms U' (freezeD env i) σ H := by
  unfold freezeD
  split
  · rename_i d h1
    obtain ⟨a, h2, ha, o⟩ := B.E.sl i _ h1
    obtain ⟨n0, nu0⟩ := B.ow i d a h1 h2
    have sb : ∀ x ∈ U.filter (fun x => decide (x ≠ a)), x ∈ U := fun x hx => (List.mem_filter.mp hx).1
    refine ⟨U.filter fun x => decide (x ≠ a), ⟨fun x hx => B.E.nt x (sb x hx), fun j s h => ?_, fun j l e1 e2 x q1 q2 q3 q4 => ?_, by rw [List.length_set]; exact B.E.len⟩, B.ex,
      fun x hx => List.mem_filter.mpr ⟨B.u0 x hx, decide_eq_true fun z => nu0 (z ▸ hx)⟩, fun x hx => B.un x (sb x hx), fun j e x q1 q2 => ?_, fun m hm => ⟨fun x hx => (B.mon m hm).un x (sb x hx), (B.mon m hm).ext, (B.mon m hm).nt⟩⟩
    · rw [lget_set] at h
      by_cases hij : i = j
      · subst hij
        rw [if_pos rfl] at h
        split at h
        · cases h
          refine ⟨.ref a, h2, ?_⟩
          have na : a ∉ U.filter fun x => decide (x ≠ a) := fun z => by
            have := of_decide_eq_true (List.mem_filter.mp z).2
            exact this rfl
          cases d <;> simp only [Own] at o <;> first | exact False.elim o | skip
          · obtain ⟨vs, q1, q2⟩ := o
            simp only [Rep]
            exact ⟨a, vs, rfl, na, q1, Reps.sub sb _ _ q2⟩
          · obtain ⟨vs, q1, q2⟩ := o
            simp only [Rep]
            refine ⟨a, vs, rfl, na, ?_, Reps.sub sb _ _ q2⟩
            rcases q1 with ⟨kk, z1, z2, z3⟩ | ⟨kk, z1, z2, z3⟩
            · exact .inl ⟨kk, z1, z2, .inl z3⟩
            · exact .inr ⟨kk, z1, z2, .inl z3⟩
        · cases h
      · rw [if_neg hij] at h
        have sr := B.E.sl j s h
        cases s with
        | un => exact trivial
        | im e =>
          obtain ⟨v, q1, q2⟩ := sr
          exact ⟨v, q1, Rep.sub sb _ _ q2⟩
        | ow e =>
          obtain ⟨x, q1, q2, q3⟩ := sr
          have nx : x ≠ a := fun z => hij (B.E.dst i j d e a h1 h h2 (by rw [← z]; exact q1))
          refine ⟨x, q1, List.mem_filter.mpr ⟨q2, decide_eq_true nx⟩, ?_⟩
          cases e <;> simp only [Own] at q3 ⊢ <;> first | exact q3 | skip
          · obtain ⟨vs, z1, z2⟩ := q3
            exact ⟨vs, z1, Reps.sub sb _ _ z2⟩
          · obtain ⟨vs, z1, z2⟩ := q3
            exact ⟨vs, z1, Reps.sub sb _ _ z2⟩
    · rw [lget_set] at q1 q2
      have back : ∀ m e', (if i = m then (if m < env.length then some (Sl.im d) else none) else env[m]?) = some (.ow e') → env[m]? = some (.ow e') := fun m e' q => by
        by_cases hm : i = m
        · rw [if_pos hm] at q; split at q <;> cases q
        · rw [if_neg hm] at q; exact q
      exact B.E.dst j l e1 e2 x (back j e1 q1) (back l e2 q2) q3 q4
    · rw [lget_set] at q1
      by_cases hij : i = j
      · rw [if_pos hij] at q1; split at q1 <;> cases q1
      · rw [if_neg hij] at q1; exact B.ow j e x q1 q2
  · exact ⟨U, B⟩
end
end DL
namespace DL
open PySem PySem.Spec PyProof.Rows L2 

section
variable {X : Cx} {cad : Nat → Addr} {W : WX} {U0 : List Addr} {H0 : Hp} {Ms : List (List Addr × Hp)} {b : Bool}
/-- ends at which nothing of the written part is tracked -/
def off (K : PySem.W.Frag) (D : Ends) : Ends := { nx := fun σ H => OffAll K H → D.nx σ H, rt := fun v H => OffAll K H → D.rt v H, bk := fun σ H => OffAll K H → D.bk σ H, ct := fun σ H => OffAll K H → D.ct σ H }
theorem SP.off {pins : List (Addr × Obj)} {D : Ends} {f : Flow} {s : Shared} (h : SP X pins (off X.K D) f s) : SP X pins D f s := by
  cases f with
  | next => obtain ⟨σ, H, I, q⟩ := h; exact ⟨σ, H, I, q (offAll I)⟩
  | brk => obtain ⟨σ, H, I, q⟩ := h; exact ⟨σ, H, I, q (offAll I)⟩
  | cont => obtain ⟨σ, H, I, q⟩ := h; exact ⟨σ, H, I, q (offAll I)⟩
  | ret u => obtain ⟨v, σ, H, I, r, q⟩ := h; exact ⟨v, σ, H, I, r, q (offAll I)⟩
theorem PS.off {st : Stmt} {t t' : TS} (h : PS X st t) (w : ∀ D σ H, OffAll X.K H → t' D σ H → t (off X.K D) σ H) : PS X st t' :=
  ⟨fun pins s σ H D I q => thn (h.run pins s σ H _ I (w D σ H (offAll I) q)) fun f s' z => SP.off z⟩
theorem PS.le {st : Stmt} {t t' : TS} (h : PS X st t) (w : ∀ D σ H, t' D σ H → t D σ H) : PS X st t' := ⟨fun pins s σ H D I q => h.run pins s σ H D I (w D σ H q)⟩
theorem PSs.le {st : List Stmt} {t t' : TS} (h : PSs X st t) (w : ∀ D σ H, t' D σ H → t D σ H) : PSs X st t' := ⟨fun pins s σ H D I q => h.run pins s σ H D I (w D σ H q)⟩
abbrev PSt (X : Cx) (cad : Nat → Addr) (W : WX) (U0 : List Addr) (H0 : Hp) (st : Stmt) (f : Envd → T) : Prop := PS X st (tSt (LX X cad) W U0 H0 f)
abbrev PSSt (X : Cx) (cad : Nat → Addr) (W : WX) (U0 : List Addr) (H0 : Hp) (st : List Stmt) (f : Envd → T) : Prop := PSs X st (tSt (LX X cad) W U0 H0 f)
theorem fin_bad {D : Ends} (h : fin (LX X cad) W U0 H0 Ms D .bad) : False := h
/-- an expression at a statement's head -/
theorem st_M {U : List Addr} {env : Envd} {σ : L2.St} {H : Hp} {D : Ends} {r : Envd → R D'} {k : D' → T} (B : BU X.K cad U0 H0 Ms U env σ H) (h : fin (LX X cad) W U0 H0 Ms D ((r env).st env k)) :
    (∃ d, r env = .ok d ∧ fin (LX X cad) W U0 H0 Ms D (k d)) ∨ (∃ c, r env = .exn c ∧ ∀ H', Ex U H H' → W (.ref (cad c)) none σ H') := by
  cases e : r env with
  | ok d => rw [e] at h; exact .inl ⟨d, rfl, h⟩
  | exn c => rw [e] at h; exact .inr ⟨c, rfl, fun H' e' => h σ H' ⟨U, B.ext e'⟩⟩
  | bad => rw [e] at h; exact h.elim
theorem tM_st {U : List Addr} {env : Envd} {σ : L2.St} {H : Hp} {D : Ends} {r : Envd → R DL.D} {k : DL.D → T} {Q : VK} (B : BU X.K cad U0 H0 Ms U env σ H) (h : fin (LX X cad) W U0 H0 Ms D ((r env).st env k))
    (w : ∀ d v H1, Ex U H H1 → BU X.K cad U0 H0 Ms U env σ H1 → RepM X.K cad b U H1 d v → fin (LX X cad) W U0 H0 Ms D (k d) → Q v H1) : tM (LX X cad) W b r σ H Q := by
  refine ⟨U, env, B.E, ?_⟩
  rcases st_M B h with ⟨d, e, p⟩ | ⟨c, e, p⟩
  · rw [e]; exact fun H1 v e1 r1 => w d v H1 e1 (B.ext e1) r1 p
  · rw [e]; exact p
theorem tF_st {U : List Addr} {env : Envd} {σ : L2.St} {H : Hp} {D : Ends} {r : Envd → R DL.D} {k : DL.D → T} {Q : VK} (B : BU X.K cad U0 H0 Ms U env σ H) (h : fin (LX X cad) W U0 H0 Ms D ((r env).st env k))
    (w : ∀ d a H1, Ex U H H1 → NewAt H a → OffK X.K a → Own X.K cad (a :: U) H1 a d → NoTup (a :: U) H1 → fin (LX X cad) W U0 H0 Ms D (k d) → Q (.ref a) H1) : tF (LX X cad) W r σ H Q := by
  refine ⟨U, env, B.E, ?_⟩
  rcases st_M B h with ⟨d, e, p⟩ | ⟨c, e, p⟩
  · rw [e]; exact fun H1 a e1 n o w1 t => w d a H1 e1 n o w1 t p
  · rw [e]; exact p
theorem tA_st {U : List Addr} {env : Envd} {σ : L2.St} {H : Hp} {D : Ends} {r : Envd → R (List DL.D)} {k : List DL.D → T} {Q : List V → Hp → Prop} (B : BU X.K cad U0 H0 Ms U env σ H) (h : fin (LX X cad) W U0 H0 Ms D ((r env).st env k))
    (w : ∀ d v H1, Ex U H H1 → BU X.K cad U0 H0 Ms U env σ H1 → Paired (RepM X.K cad b U H1) d v → fin (LX X cad) W U0 H0 Ms D (k d) → Q v H1) : tAs (LX X cad) W b r σ H Q := by
  refine ⟨U, env, B.E, ?_⟩
  rcases st_M B h with ⟨d, e, p⟩ | ⟨c, e, p⟩
  · rw [e]; exact fun H1 v e1 r1 => w d v H1 e1 (B.ext e1) r1 p
  · rw [e]; exact p
theorem tT_st {U : List Addr} {env : Envd} {σ : L2.St} {H : Hp} {D : Ends} {r : Envd → R Bool} {k : Bool → T} {Q : Bool → Hp → Prop} (B : BU X.K cad U0 H0 Ms U env σ H) (h : fin (LX X cad) W U0 H0 Ms D ((r env).st env k))
    (w : ∀ d H1, BU X.K cad U0 H0 Ms U env σ H1 → fin (LX X cad) W U0 H0 Ms D (k d) → Q d H1) : tT (LX X cad) W r σ H Q := by
  refine ⟨U, env, B.E, ?_⟩
  rcases st_M B h with ⟨d, e, p⟩ | ⟨c, e, p⟩
  · rw [e]; exact fun H1 e1 => w d H1 (B.ext e1) p
  · rw [e]; exact p
variable {p q : PySem.Expr} {pos pos' : Pos} {i j : Nat} {x y : Str} {r ra rb : Envd → R DL.D}
/-- name = value -/
theorem ss_set (hN : X.N.Nodup) (hi : X.N[i]? = some x) (hx : Loc X.env.scope x) (hf : X.fn x = true ∨ X.env.scope.names.lookup x = some .local) (he : PM X cad W false p r) (hs : swapsWith p (some (.Name x pos')) pos.line X.env = pure false) :
    PSt X cad W U0 H0 (.Assign [.Name x pos'] p pos) (fun env => (r env).st env fun d => .nx (env.set i (.im d))) := by
  refine PS.le (ps_set hN hi hx he hs hf) fun D σ H h => ?_
  obtain ⟨Ms, env, ⟨U, B⟩, h⟩ := h
  exact tM_st (b := false) B h fun d v H1 e1 B1 r1 k => k _ _ ⟨U, B1.set i (RepM.of r1)⟩
/-- name = a new list -/
theorem ss_own (hN : X.N.Nodup) (hi : X.N[i]? = some x) (hx : Loc X.env.scope x) (hf : X.fn x = true ∨ X.env.scope.names.lookup x = some .local) (he : PE X p (tF (LX X cad) W r)) (hs : swapsWith p (some (.Name x pos')) pos.line X.env = pure false) :
    PSt X cad W U0 H0 (.Assign [.Name x pos'] p pos) (fun env => (r env).st env fun d => .nx (env.set i (.ow d))) := by
  refine PS.le (ps_set hN hi hx he hs hf) fun D σ H h => ?_
  obtain ⟨Ms, env, ⟨U, B⟩, h⟩ := h
  exact tF_st B h fun d a H1 e1 n o w1 t k => k _ _ ⟨a :: U, B.own i e1 n o w1 t⟩
/-- name = [.. for ..] -/
theorem ss_setLc {elt tg it : PySem.Expr} {ifs : List PySem.Expr} {scope : Scope} {own : List (Str × Nat)} {spos : Pos} {t : Tg} {rs : Envd → R (List DL.D)} {rc : Envd → R Bool} {re : Envd → R DL.D} {ow : Bool}
    (hc : X.calm = true) (hN : X.N.Nodup) (hy : X.N[i]? = some y) (hyl : X.env.scope.names.lookup y = some .local)
    (hsw : swapsWith (.ListComp elt [⟨tg, it, ifs, 0⟩] scope pos) (some (.Name y pos')) spos.line X.env = pure true)
    (hi : PI X tg it (tI (LX X cad) W true rs)) (ok : BlkOk X.N X.env.scope scope own) (hv : ∀ i ∈ t.slots, i ∈ own.map (·.2))
    (hg : ∀ (s : Shared) (H : Hp) (C : Addr) (cl : List (Str × Addr)) (fp : List Addr), PG (X.blk s H scope (compEnvC scope cl C X.env) fp) tg (gT X.K cad t))
    (ht : ∀ (s : Shared) (H : Hp) (C : Addr) (cl : List (Str × Addr)) (fp : List Addr), PTs (X.blk s H scope (compEnvC scope cl C X.env) fp) ifs (tT (LX X cad) W0 rc))
    (he : ∀ (s : Shared) (H : Hp) (C : Addr) (cl : List (Str × Addr)) (fp : List Addr), PM (X.blk s H scope (compEnvC scope cl C X.env) fp) cad W0 false elt re)
    (hs : ∀ x, foldedSetIterable it X.env x = pure x) :
    PSt X cad W U0 H0 (.Assign [.Name y pos'] (.ListComp elt [⟨tg, it, ifs, 0⟩] scope pos) spos)
      (fun env => ((rs env).bind fun xs => lcD t (own.map (·.2)) rc re env xs).st env fun d => .nx (env.set i (if ow then .ow d else .im d))) := by
  refine PS.off (ps_setLc (g := fun v σ H Q => OffAll X.K H → gT X.K cad t v σ H Q) hc hN hy hyl hsw hi ok (fun s H C cl fp => PG.off (hg s H C cl fp)) (te := tM (LX X cad) W0 false re) ht he hs) fun D σ H o h => ?_
  obtain ⟨Ms, env, ⟨U, B⟩, h⟩ := h
  refine le_lc (W := W) (Q := fun v H' => D.nx (σ.set i (some v)) H') o hv ?_
  cases ow with
  | true => exact tF_st B h fun d a H1 e1 n o w1 t k => k _ _ ⟨a :: U, B.own i e1 n o w1 t⟩
  | false => exact tF_st B h fun d a H1 e1 n o w1 t k => k _ _ ⟨U, (B.ext e1).set i (own_rep (B.E.nt.notNew n) w1)⟩
/-- a, b = x, y -/
theorem ss_par2 {px py pt pt2 : Pos} {kt k2 : Nat} {rs : Envd → R (List DL.D)} (hc : X.calm = true) (hN : X.N.Nodup) (hi : X.N[i]? = some x) (hj : X.N[j]? = some y) (hij : i ≠ j)
    (hx : X.env.scope.names.lookup x = some .local) (hy : X.env.scope.names.lookup y = some .local) (ha : PAM X cad W false [p, q] rs)
    (hw : swappedStores [.Tuple [.Name x px, .Name y py] kt pt] (.Tuple [p, q] k2 pt2) X.env = pure (some [x, y])) :
    PSt X cad W U0 H0 (.Assign [.Tuple [.Name x px, .Name y py] kt pt] (.Tuple [p, q] k2 pt2) pos) (fun env => (rs env).st env fun ds => match setsD env [i, j] ds with | some e => .nx e | none => .bad) := by
  refine PS.le (ps_par hc hN hi hj hij hx hy ha hw) fun D σ H h => ?_
  obtain ⟨Ms, env, ⟨U, B⟩, h⟩ := h
  refine tA_st (b := false) B h fun ds vs H1 e1 B1 r1 k => ?_
  match ds with
  | [] => exact False.elim k
  | [d] => exact False.elim k
  | [d, e] =>
    obtain ⟨v, u, rfl, r2, r3⟩ := pair2 r1
    exact ⟨v, u, rfl, k _ _ ⟨U, (B1.set i (RepM.of r2)).set j (RepM.of r3)⟩⟩
  | d :: e :: f :: l => exact False.elim k
theorem ss_par3 {l : Nat} {z : Str} {s : PySem.Expr} {px py pz pt pt2 : Pos} {kt k2 : Nat} {rs : Envd → R (List DL.D)} (hc : X.calm = true) (hN : X.N.Nodup) (hi : X.N[i]? = some x) (hj : X.N[j]? = some y) (hl : X.N[l]? = some z) (hij : i ≠ j) (hil : i ≠ l) (hjl : j ≠ l)
    (hx : X.env.scope.names.lookup x = some .local) (hy : X.env.scope.names.lookup y = some .local) (hz : X.env.scope.names.lookup z = some .local) (ha : PAM X cad W false [p, q, s] rs)
    (hw : swappedStores [.Tuple [.Name x px, .Name y py, .Name z pz] kt pt] (.Tuple [p, q, s] k2 pt2) X.env = pure (some [x, y, z])) :
    PSt X cad W U0 H0 (.Assign [.Tuple [.Name x px, .Name y py, .Name z pz] kt pt] (.Tuple [p, q, s] k2 pt2) pos) (fun env => (rs env).st env fun ds => match setsD env [i, j, l] ds with | some e => .nx e | none => .bad) := by
  refine PS.le (ps_par3 hc hN hi hj hl hij hil hjl hx hy hz ha hw) fun D σ H h => ?_
  obtain ⟨Ms, env, ⟨U, B⟩, h⟩ := h
  refine tA_st (b := false) B h fun ds vs H1 e1 B1 r1 k => ?_
  match ds with
  | [] => exact False.elim k
  | [d] => exact False.elim k
  | [d, e] => exact False.elim k
  | [d, e, f] =>
    cases r1 with
    | cons r2 r3 =>
      obtain ⟨v, u, rfl, r4, r5⟩ := pair2 r3
      exact ⟨_, v, u, rfl, k _ _ ⟨U, ((B1.set i (RepM.of r2)).set j (RepM.of r4)).set l (RepM.of r5)⟩⟩
  | d :: e :: f :: g :: l => exact False.elim k
mutual
theorem put_out : ∀ (t : Tg) {d : DL.D} {env env' : Envd}, t.put d env = some env' → (∀ i, i ∉ t.slots → env'[i]? = env[i]?) ∧ (∀ i e, i ∈ t.slots → env'[i]? ≠ some (.ow e))
  | .nm i, d, env, env', h => by
    simp only [Tg.put, Option.some.injEq] at h
    subst h
    refine ⟨fun j hj => ?_, fun j e hj => ?_⟩
    · rw [lget_set, if_neg (fun z => hj (by rw [z]; simp [Tg.slots]))]
    · have : j = i := by simpa [Tg.slots] using hj
      subst this
      rw [lget_set, if_pos rfl]
      split <;> simp
  | .tp ts, d, env, env', h => by
    cases d <;> simp only [Tg.put] at h <;> first | (cases h; done) | skip
    simp only [Tg.slots]
    exact puts_out ts h
theorem puts_out : ∀ (ts : List Tg) {ds : List DL.D} {env env' : Envd}, Tg.puts ts ds env = some env' → (∀ i, i ∉ Tg.slotss ts → env'[i]? = env[i]?) ∧ (∀ i e, i ∈ Tg.slotss ts → env'[i]? ≠ some (.ow e))
  | [], [], env, env', h => by
    simp only [Tg.puts, Option.some.injEq] at h
    subst h
    exact ⟨fun _ _ => rfl, fun i e hi => by simp [Tg.slotss] at hi⟩
  | [], _ :: _, _, _, h => by simp [Tg.puts] at h
  | _ :: _, [], _, _, h => by simp [Tg.puts] at h
  | t :: ts, d :: ds, env, env', h => by
    simp only [Tg.puts] at h
    cases q : t.put d env with
    | none => rw [q] at h; cases h
    | some e1 =>
      rw [q] at h
      obtain ⟨a1, a2⟩ := put_out t q
      obtain ⟨b1, b2⟩ := puts_out ts h
      simp only [Tg.slotss]
      refine ⟨fun i hi => ?_, fun i e hi => ?_⟩
      · simp only [List.mem_append, not_or] at hi
        rw [b1 i hi.2, a1 i hi.1]
      · by_cases hb : i ∈ Tg.slotss ts
        · exact b2 i e hb
        · rw [b1 i hb]
          exact a2 i e (by rcases List.mem_append.mp hi with z | z; exact z; exact absurd z hb)
end
theorem BU.put {U : List Addr} {env env' : Envd} {σ σ' : L2.St} {H : Hp} {t : Tg} {d : DL.D} {K : PySem.W.Frag} (B : BU K cad U0 H0 Ms U env σ H) (h : t.put d env = some env') (E : ERep K cad U env' σ' H) (f : ∀ i, i ∉ t.slots → σ'[i]? = σ[i]?) : BU K cad U0 H0 Ms U env' σ' H := by
  obtain ⟨a1, a2⟩ := put_out t h
  refine ⟨E, B.ex, B.u0, B.un, fun i e a h1 h2 => ?_, B.mon⟩
  by_cases hi : i ∈ t.slots
  · exact absurd h1 (a2 i e hi)
  · rw [a1 i hi] at h1
    rw [f i hi] at h2
    exact B.ow i e a h1 h2
theorem ss_asg {tg : PySem.Expr} {t : Tg} (he : PM X cad W false p r) (hg : PG X tg (gT X.K cad t)) (hs : swapsWithSole [tg] p pos.line X.env = pure false) (hw : swappedStores [tg] p X.env = pure none) (h1 : (assignEach [tg] X.env).map (·.2) = [assign tg X.env]) :
    PSt X cad W U0 H0 (.Assign [tg] p pos) (fun env => (r env).st env fun d => match t.put d env with | some e => .nx e | none => .bad) := by
  refine PS.le (ps_asg he hg hs hw h1) fun D σ H h => ?_
  obtain ⟨Ms, env, ⟨U, B⟩, h⟩ := h
  refine tM_st (b := false) B h fun d v H1 e1 B1 r1 k => ?_
  cases q : t.put d env with
  | none => rw [q] at k; exact False.elim k
  | some env' =>
    rw [q] at k
    exact ⟨U, env, d, env', B1.E, RepM.of r1, q, fun σ' E' f l => k σ' H1 ⟨U, B1.put q E' f⟩⟩
theorem ss_ex (he : PM X cad W false p r) (hs : swapsWith p none pos.line X.env = pure false) : PSt X cad W U0 H0 (.Expr p pos) (fun env => (r env).st env fun _ => .nx env) := by
  refine PS.le (ps_expr he hs) fun D σ H h => ?_
  obtain ⟨Ms, env, ⟨U, B⟩, h⟩ := h
  exact tM_st (b := false) B h fun d v H1 e1 B1 r1 k => k _ _ ⟨U, B1⟩
theorem ss_ret (he : PM X cad W false p r) : PSt X cad W U0 H0 (.Return (some p) pos) (fun env => (r env).st env fun d => .rt d) := by
  refine PS.le (ps_ret he) fun D σ H h => ?_
  obtain ⟨Ms, env, ⟨U, B⟩, h⟩ := h
  exact tM_st (b := false) B h fun d v H1 e1 B1 r1 k => k _ _ B1.ex (B1.rep0 (RepM.of r1))
theorem ss_retN : PSt X cad W U0 H0 (.Return none pos) (fun _ => .rt .non) := by
  refine PS.le ps_retN fun D σ H h => ?_
  obtain ⟨Ms, env, ⟨U, B⟩, h⟩ := h
  exact h _ _ B.ex rep_non
theorem ss_ite {c : PySem.Expr} {sa sb : List Stmt} {rc : Envd → R Bool} {fa fb : Envd → T} (hc : PT X c (tT (LX X cad) W rc)) (ha : PSSt X cad W U0 H0 sa fa) (hb : PSSt X cad W U0 H0 sb fb) :
    PSt X cad W U0 H0 (.If c sa sb pos) (fun env => (rc env).st env fun k => match k with | true => fa env | false => fb env) := by
  refine PS.le (ps_if hc ha hb) fun D σ H h => ?_
  obtain ⟨Ms, env, ⟨U, B⟩, h⟩ := h
  refine tT_st B h fun d H1 B1 k => ?_
  cases d with
  | true => rw [if_pos rfl]; exact ⟨Ms, env, ⟨U, B1⟩, k⟩
  | false => rw [if_neg (by simp)]; exact ⟨Ms, env, ⟨U, B1⟩, k⟩
theorem ss_pass : PSt X cad W U0 H0 (.Pass pos) (fun env => .nx env) := PS.le ps_pass fun D σ H ⟨Ms, env, B, h⟩ => h σ H B
theorem ss_brk : PSt X cad W U0 H0 (.Break pos) (fun env => .bk env) := PS.le ps_break fun D σ H ⟨Ms, env, B, h⟩ => h σ H B
theorem ss_cont : PSt X cad W U0 H0 (.Continue pos) (fun env => .ct env) := PS.le ps_continue fun D σ H ⟨Ms, env, B, h⟩ => h σ H B
/-- one after another -/
theorem sss_nil : PSSt X cad W U0 H0 [] (fun env => .nx env) := PSs.le pss_nil fun D σ H ⟨Ms, env, B, h⟩ => h σ H B
theorem sss_cons {st : Stmt} {sts : List Stmt} {f k : Envd → T} (h1 : PSt X cad W U0 H0 st f) (h2 : PSSt X cad W U0 H0 sts k) : PSSt X cad W U0 H0 (st :: sts) (fun env => (f env).then k) := by
  refine PSs.le (pss_cons h1 h2) fun D σ H h => ?_
  obtain ⟨Ms, env, B, h⟩ := h
  refine ⟨Ms, env, B, ?_⟩
  dsimp only at h
  cases e : f env with
  | nx e' => rw [e] at h; exact fun σ' H' B' => ⟨Ms, e', B', h⟩
  | bk e' => rw [e] at h; exact h
  | ct e' => rw [e] at h; exact h
  | rt d => rw [e] at h; exact h
  | exn c e' => rw [e] at h; exact h
  | bad => rw [e] at h; exact h
theorem sss_frz {sts : List Stmt} {k : Envd → T} (h2 : PSSt X cad W U0 H0 sts k) (i : Nat) : PSSt X cad W U0 H0 sts (fun env => k (freezeD env i)) :=
  PSs.le h2 fun D σ H ⟨Ms, env, ⟨U, B⟩, h⟩ => let ⟨U', B'⟩ := B.freeze i; ⟨Ms, freezeD env i, ⟨U', B'⟩, h⟩
/-- for -/
theorem loopD_cons {put : DL.D → Envd → Option Envd} {body : Envd → T} {d : DL.D} {r : List DL.D} {env : Envd} : loopD put body (d :: r) env = match put d env with
    | none => .bad
    | some e1 => match body e1 with
      | .nx e2 => loopD put body r e2
      | .ct e2 => loopD put body r e2
      | .bk e2 => .nx e2
      | t => t := rfl
theorem ss_for {tg it : PySem.Expr} {t : Tg} {body : List Stmt} {rs : Envd → R (List DL.D)} {f : Envd → T} (hp : PassesOwn (model X.prog X.w) X.A X.env X.xe) (hc : X.calm = true) (hi : PI X tg it (tI (LX X cad) W false rs)) (hg : PG X tg (gT X.K cad t)) (hb : PSSt X cad W U0 H0 body f)
    (hs : ∀ x, foldedSetIterable it X.env x = pure x) :
    PSt X cad W U0 H0 (.For tg it body [] pos) (fun env => (rs env).st env fun xs => loopD (fun d e => t.put d e) f xs env) := by
  refine PS.off (ps_for hp hc hi (PG.off hg) hb hs) fun D σ H o h => ?_
  obtain ⟨Ms, env, ⟨U, B⟩, h⟩ := h
  refine ⟨U, env, B.E, ?_⟩
  rcases st_M B h with ⟨xs, e, k⟩ | ⟨c, e, k⟩
  · rw [e]
    intro H1 J e1 wk
    obtain ⟨G, Y, w, hG, hY, hK⟩ := wk.ex
    have B1 := B.ext e1
    have nt1 := B1.E.nt
    have B2 : BU X.K cad U0 H0 ((U, H1) :: Ms) U env σ H1 := ⟨B1.E, B1.ex, B1.u0, B1.un, B1.ow, fun m hm => by
      rcases List.mem_cons.mp hm with rfl | hm
      · exact ⟨fun a ha => .inl ha, Ext.refl _ _, nt1⟩
      · exact B1.mon m hm⟩
    have drop : ∀ {e' : Envd} {σ' : L2.St} {H' : Hp}, Bst X.K cad U0 H0 ((U, H1) :: Ms) e' σ' H' → Bst X.K cad U0 H0 Ms e' σ' H' := fun ⟨U', Z⟩ => ⟨U', Z.E, Z.ex, Z.u0, Z.un, Z.ow, fun m hm => Z.mon m (List.mem_cons_of_mem _ hm)⟩
    refine for_it w (g := fun v σ H Q => OffAll X.K H → gT X.K cad t v σ H Q) (tb := tSt (LX X cad) W U0 H0 f) (D := off X.K D) (fun i σ' H' => ∃ env', Bst X.K cad U0 H0 ((U, H1) :: Ms) env' σ' H' ∧ loopD (fun d e => t.put d e) f (xs.drop i) env' = loopD (fun d e => t.put d e) f xs env)
      ⟨env, ⟨U, B2⟩, by rw [List.drop_zero]⟩ ?_ ?_ ?_
    · rintro i σ' H' hi ⟨env', ⟨U', Z⟩, _⟩
      have M := Z.mon _ List.mem_cons_self
      exact hG U H' (fun a ha => .inr ⟨rfl, ha⟩) M.ext
    · rintro i x σ' H' H2 hi ⟨env', ⟨U', Z⟩, hl⟩ hy
      have M := Z.mon _ List.mem_cons_self
      have nt' : NoTup (U ++ U') H' := fun a ha => by
        rcases List.mem_append.mp ha with z | z
        · exact M.nt a z
        · exact Z.E.nt a z
      have way : Way X.K false U H1 U (U ++ U') H' := ⟨fun a ha => .inr ⟨rfl, ha⟩, fun a ha => by
        rcases List.mem_append.mp ha with z | z
        · exact .inl z
        · exact M.un a z, fun a ha => List.mem_append.mpr (.inl ha), M.ext, nt'.nt⟩
      obtain ⟨e2, d, g1, g2⟩ := hY i U (U ++ U') H' x H2 hi way hy
      have e2' : Ex U' H' H2 := ⟨e2.ext, fun a o ha q => e2.keep a o (List.mem_append.mpr (.inr ha)) q⟩
      have g2' : Rep X.K cad U' H2 d x := Rep.sub (fun a ha => List.mem_append.mpr (.inr ha)) _ _ g2
      have Z2 := Z.ext e2'
      have dr : xs.drop i = d :: xs.drop (i + 1) := by
        obtain ⟨hi2, e⟩ := List.getElem?_eq_some_iff.mp g1
        rw [List.drop_eq_getElem_cons hi2, e]
      rw [dr, loopD_cons] at hl
      intro o2
      cases q : t.put d env' with
      | none =>
        rw [q] at hl
        rw [← hl] at k
        exact False.elim k
      | some env1 =>
        rw [q] at hl
        dsimp only at hl
        refine ⟨U', env', d, env1, Z2.E, g2', q, fun σ2 E2 f2 l2 => ⟨(U, H1) :: Ms, env1, ⟨U', Z2.put q E2 f2⟩, ?_⟩⟩
        cases e3 : f env1 with
        | nx e4 => rw [e3] at hl; exact fun σ3 H3 B3 => ⟨e4, B3, hl⟩
        | ct e4 => rw [e3] at hl; exact fun σ3 H3 B3 => ⟨e4, B3, hl⟩
        | bk e4 => rw [e3] at hl; rw [← hl] at k; exact fun σ3 H3 B3 _ => k σ3 H3 (drop B3)
        | rt v => rw [e3] at hl; rw [← hl] at k; exact fun H3 v3 e5 r5 _ => k H3 v3 e5 r5
        | exn c e4 => rw [e3] at hl; rw [← hl] at k; exact fun σ3 H3 B3 => k σ3 H3 (drop B3)
        | bad => rw [e3] at hl; rw [← hl] at k; exact False.elim k
    · rintro σ' H' ⟨env', Z, hl⟩ _
      rw [List.drop_length] at hl
      rw [← hl] at k
      exact k σ' H' (drop Z)
  · rw [e]; exact k
/-- while -/
theorem ss_while {c : PySem.Expr} {body : List Stmt} {rc : Envd → R Bool} {f : Envd → T} (hp : PassesOwn (model X.prog X.w) X.A X.env X.xe) (hc : PT X c (tT (LX X cad) W rc)) (hb : PSSt X cad W U0 H0 body f) :
    PSt X cad W U0 H0 (.While c body [] pos) (fun env => whileD rc f env) := by
  refine PS.le (ps_while hp hc hb) fun D σ H h => ?_
  obtain ⟨Ms, env, B, h⟩ := h
  dsimp only at h
  have nb : whileD rc f env ≠ .bad := fun z => by rw [z] at h; exact h
  obtain ⟨n, hn⟩ := whileD_ex nb
  refine ⟨fun m σ' H' => ∃ env', Bst X.K cad U0 H0 Ms env' σ' H' ∧ whileN rc f m env' = some (whileD rc f env), ⟨n, env, B, hn⟩, ?_⟩
  rintro m σ' H' ⟨env', ⟨U, Z⟩, hm⟩
  cases m with
  | zero => simp [whileN] at hm
  | succ m =>
    rw [whileN_succ] at hm
    refine ⟨U, env', Z.E, ?_⟩
    cases e : rc env' with
    | exn k =>
      rw [e] at hm
      have := Option.some.inj hm
      rw [← this] at h
      exact fun H2 e2 => h σ' H2 ⟨U, Z.ext e2⟩
    | bad =>
      rw [e] at hm
      have := Option.some.inj hm
      rw [← this] at h
      exact False.elim h
    | ok b =>
      rw [e] at hm
      intro H2 e2
      have Z2 := Z.ext e2
      cases b with
      | false =>
        rw [if_neg (by simp)]
        have := Option.some.inj hm
        rw [← this] at h
        exact h σ' H2 ⟨U, Z2⟩
      | true =>
        rw [if_pos rfl]
        dsimp only at hm
        refine ⟨fun σ3 H3 => ∃ env3, Bst X.K cad U0 H0 Ms env3 σ3 H3 ∧ whileN rc f m env3 = some (whileD rc f env), fun σ3 H3 ⟨e3, B3, h3⟩ => ⟨m, Nat.lt_succ_self m, e3, B3, h3⟩, Ms, env', ⟨U, Z2⟩, ?_⟩
        cases e3 : f env' with
        | nx e4 => rw [e3] at hm; exact fun σ3 H3 B3 => ⟨e4, B3, hm⟩
        | ct e4 => rw [e3] at hm; exact fun σ3 H3 B3 => ⟨e4, B3, hm⟩
        | bk e4 => rw [e3] at hm; have := Option.some.inj hm; rw [← this] at h; exact h
        | rt v => rw [e3] at hm; have := Option.some.inj hm; rw [← this] at h; exact h
        | exn c e4 => rw [e3] at hm; have := Option.some.inj hm; rw [← this] at h; exact h
        | bad => rw [e3] at hm; have := Option.some.inj hm; rw [← this] at h; exact False.elim h
/-- x.append(e) -/
theorem ss_app {p0 apos cpos : Pos} (hN : X.N[i]? = some x) (hv : Vis X.env.scope x) (hd : (x == ("__debug__" : Str)) = false) (hcd : (x == ("__classdict__" : Str)) = false) (he : PM X cad W false p r) (hs : noStar p = true) (hl : (apos.endLine == cpos.line) = true) :
    PSt X cad W U0 H0 (.Expr (.Call (.Attribute (.Name x p0) "append" apos) [p] [] cpos) pos) (fun env => appS env i (r env)) := by
  refine PS.le (ps_expr (pe_bm PySem.F.plainAttrs_list PySem.F.slot_list_append PySem.F.type_list_append mt_append (pe_var (i := i) hN hv hd hcd) (pa_cons he pa_nil (star1 hs [] X.env)) rfl (by rw [star1 hs]; rfl) hl (star1 hs [] X.env) rfl)) fun D σ H h => ?_
  obtain ⟨Ms, env, ⟨U, B⟩, h⟩ := h
  dsimp only at h
  unfold appS at h
  split at h <;> first | exact False.elim h | skip
  rename_i xs h1
  obtain ⟨a, h2, ha, ow⟩ := B.E.sl i _ h1
  simp only [Own] at ow
  obtain ⟨vs, q1, q2⟩ := ow
  refine ⟨_, h2, .inl ⟨rfl, vs, SqL.of q1⟩, ?_⟩
  refine tM_st (b := false) B h fun d v H1 e1 B1 r1 k => ?_
  have q1' : H1 a = some (.lst vs) := e1.keep a _ ha q1
  have q2' := Reps.ext B.E.nt.nt (e1.ext.all _) _ _ q2
  cases g : decide (xs.length < SZ) with
  | false => rw [g] at k; exact False.elim k
  | true =>
    rw [g] at k
    refine ⟨a, vs, v, rfl, rfl, q1', by rw [SZ_eq, ← q2.length]; exact of_decide_eq_true g, k _ _ ⟨U, B1.write h1 h2 ha ⟨.lst (vs ++ [v]), trivial, fun xs z => (nomatch z), .inl upd_same⟩ ?_⟩⟩
    simp only [Own]
    refine ⟨_, upd_same, ?_⟩
    have wr : Ext U H1 (upd H1 a (.lst (vs ++ [v]))) := Ext.write ha
    refine Reps.append (Reps.ext B1.E.nt.nt wr _ _ q2') ?_
    simp only [Reps]
    exact ⟨v, [], rfl, Rep.ext B1.E.nt.nt wr _ _ (RepM.of r1), rfl⟩
theorem reps_set {K : PySem.W.Frag} {U : List Addr} {H : Hp} {d : DL.D} {v : V} (r : Rep K cad U H d v) : ∀ {ds : List DL.D} {vs : List V} (j : Nat), Reps K cad U H ds vs → Reps K cad U H (ds.set j d) (vs.set j v)
  | [], vs, j, h => by simp only [Reps] at h; rw [h]; simp [Reps]
  | x :: ds, vs, 0, h => by
    simp only [Reps] at h
    obtain ⟨w, s, rfl, h1, h2⟩ := h
    simp only [List.set_cons_zero, Reps]
    exact ⟨v, s, rfl, r, h2⟩
  | x :: ds, vs, j + 1, h => by
    simp only [Reps] at h
    obtain ⟨w, s, rfl, h1, h2⟩ := h
    simp only [List.set_cons_succ, Reps]
    exact ⟨w, _, rfl, h1, reps_set r j h2⟩
/-- x[k] = e -/
theorem ss_sti {p0 spos : Pos} (hN : X.N[i]? = some x) (hv : Vis X.env.scope x) (hd : (x == ("__debug__" : Str)) = false) (hcd : (x == ("__classdict__" : Str)) = false) (he : PM X cad W false p ra) (hx : PM X cad W false q rb) (hq : notSlice q = true) (hs : swapsWithSole [.Subscript (.Name x p0) q spos] p pos.line X.env = pure false) (hw : swappedStores [.Subscript (.Name x p0) q spos] p X.env = pure none) :
    PSt X cad W U0 H0 (.Assign [.Subscript (.Name x p0) q spos] p pos) (fun env => (ra env).st env fun d => stiS env i (rb env) d) := by
  refine PS.le (ps_asg he (pg_sub (pe_var (i := i) hN hv hd hcd) hx set_list (by intro v; cases q <;> first | rfl | (simp [notSlice] at hq))) hs hw) fun D σ H h => ?_
  obtain ⟨Ms, env, ⟨U, B⟩, h⟩ := h
  refine tM_st (b := false) B h fun d v H1 e1 B1 r1 k => ?_
  unfold stiS at k
  split at k <;> first | exact False.elim k | skip
  rename_i xs h1
  obtain ⟨a, h2, ha, ow⟩ := B1.E.sl i _ h1
  simp only [Own] at ow
  obtain ⟨vs, q1, q2⟩ := ow
  refine ⟨_, h2, ?_⟩
  refine tM_st (b := false) B1 k fun d2 v2 H2 e2 B2 r2 k2 => ?_
  cases d2 <;> first | exact False.elim k2 | skip
  rename_i z
  dsimp only at k2
  cases g : ixN xs.length z with
  | none => rw [g] at k2; exact False.elim k2
  | some j =>
    rw [g] at k2
    have q1' : H2 a = some (.lst vs) := e2.keep a _ ha q1
    have q2' := Reps.ext B1.E.nt.nt (e2.ext.all _) _ _ q2
    rw [repB_int r2.toB]
    refine ⟨a, vs, z, j, rfl, rfl, q1', by rw [← q2.length]; exact g, k2 _ _ ⟨U, B2.write h1 h2 ha ⟨.lst (vs.set j v), trivial, fun xs z => (nomatch z), .inl upd_same⟩ ?_⟩⟩
    simp only [Own]
    have wr : Ext U H2 (upd H2 a (.lst (vs.set j v))) := Ext.write ha
    exact ⟨_, upd_same, Reps.ext B2.E.nt.nt wr _ _ (reps_set (Rep.ext B1.E.nt.nt (e2.ext.all _) _ _ (RepM.of r1)) j q2')⟩
/-- x += e, x -= e (ints) -/
theorem ss_aug {op : Op2} {o : Operator} (h0 : (op = .add ∧ o = .Add) ∨ (op = .sub ∧ o = .Sub)) (hN : X.N.Nodup) (hi : X.N[i]? = some x) (hx : Loc X.env.scope x) (hf : X.fn x = true ∨ X.env.scope.names.lookup x = some .local) (he : PM X cad W true p r) :
    PSt X cad W U0 H0 (.AugAssign (.Name x pos') o p pos) (fun env => (slot false env i).st env fun d => (r env).st env fun y => (augD op d y).st env fun z => .nx (env.set i (.im z))) := by
  have rule : PS X (.AugAssign (.Name x pos') o p pos) (tAug i (tM (LX X cad) W true r) (ipI fun a c => if op = .add then a + c else a - c)) := by
    rcases h0 with ⟨rfl, rfl⟩ | ⟨rfl, rfl⟩
    · exact ps_aug hN hi hx he ip_add hf
    · exact ps_aug hN hi hx he ip_sub hf
  refine PS.le rule fun D σ H h => ?_
  obtain ⟨Ms, env, ⟨U, B⟩, h⟩ := h
  dsimp only at h
  unfold slot at h
  cases e : env[i]? with
  | none => rw [e] at h; exact False.elim h
  | some s =>
    rw [e] at h
    cases s with
    | un => exact False.elim h
    | ow d => exact False.elim h
    | im d =>
      obtain ⟨v, h1, h2⟩ := B.E.sl i _ e
      refine ⟨v, h1, ?_⟩
      refine tM_st (b := true) B h fun y w H1 e1 B1 r1 k => ?_
      have hd : ∃ a c, d = .int a ∧ y = .int c ∧ augD op d y = .ok (.int (if op = .add then a + c else a - c)) := by
        rcases h0 with ⟨rfl, _⟩ | ⟨rfl, _⟩
        · cases d <;> cases y <;> first | exact False.elim k | exact ⟨_, _, rfl, rfl, rfl⟩
        · cases d <;> cases y <;> first | exact False.elim k | exact ⟨_, _, rfl, rfl, rfl⟩
      obtain ⟨a, c, rfl, rfl, ee⟩ := hd
      rw [ee] at k
      refine ⟨a, c, repB_int h2.toB, repB_int r1.toB, k _ _ ⟨U, B1.set i (rep_int _)⟩⟩
end
end DL
namespace DL
open PySem PySem.Spec PyProof.Rows L2 

/-! ### exceptions -/
/-- what the classes are to one another -/
structure COk (g : GW) (T : Tab) (sub : Nat → Nat → Option Bool) : Prop where
  cl : ∀ (c : Nat) x, T.cls[c]? = some x → ClsI g x (g.cad c)
  exm : ∀ k c b, sub k c = some b → PySem.W.exmOne g.K (.ref (g.cad k)) (.ref (g.cad c)) = some b
section
variable {X : Cx} {g : GW} {W : WX} {U0 : List Addr} {H0 : Hp}
theorem ss_raise {x m : Str} {c j : Nat} {p p2 pos pos2 : Pos} (eK : X.K = g.K) (em : X.mg = g.mg) (hc : X.calm = true) (tk : Takes X W) (C : ClsI g x (g.cad c)) (hg : Gl X x) :
    PSt X g.cad W U0 H0 (.Raise (some (.Call (.Name x p) [.Constant (.str m) j p2] [] pos)) none pos2) (fun env => .exn c env) := by
  refine PS.le (ps_raise hc tk (pmk_own PySem.F.excBase_ValueError (by rw [eK]; exact C.xP) (by rw [em]; exact C.gP) (by rw [eK]; exact C.kP) (raises_own (by rw [eK]; exact C.bP) (by rw [eK]; exact C.tP)) hg C.dbg)) fun D σ H h => ?_
  obtain ⟨Ms, env, B, h⟩ := h
  exact h σ H B
/-- what is returned by a clause's suite: a written datum -/
def retB : DL.D → List Stmt → Bool
  | d, [.Return (some (.Constant k _ _)) _] => litB d k
  | _, _ => false
def litV : DL.D → V
  | .int i => .int i | .bl b => .bl b | .str x => .str x | _ => .non
theorem litB_rep {K : PySem.W.Frag} {cad : Nat → Addr} {U : List Addr} {H : Hp} {d : DL.D} {k : Const} (h : litB d k = true) : Rep K cad U H d (litV d) := by
  cases d <;> cases k <;> first | (simp [litB] at h; done) | simp [litV, Rep]
theorem ret_suite {d : DL.D} {suite : List Stmt} (h : retB d suite = true) (X : Cx) : ∃ b₀ rest, suite = b₀ :: rest ∧ PSs X suite (tRet (tC (litV d))) := by
  unfold retB at h
  split at h <;> first | (cases h; done) | skip
  rename_i k j p q
  refine ⟨_, _, rfl, ?_⟩
  cases d <;> cases k <;> first | (simp [litB] at h; done) | skip
  · exact pss_one (ps_ret pe_non)
  · have e := (beq_iff_eq.mp (show (_ == _) = true from h)); subst e; exact pss_one (ps_ret pe_bl)
  · have e := of_decide_eq_true (show decide _ = true from h); subst e; exact pss_one (ps_ret pe_int)
  · have e := of_decide_eq_true (show decide _ = true from h); subst e; exact pss_one (ps_ret pe_str)
/-- the clauses -/
def chkH (T : Tab) (sc : Scope) (p : Nat × DL.D) : ExceptHandler → Bool
  | .ExceptHandler (some (.Name x _)) none suite _ => nameAt T.cls p.1 x && glB sc x && retB p.2 suite
  | _ => false
def chkHs (T : Tab) (sc : Scope) : List (Nat × DL.D) → List ExceptHandler → Bool
  | [], [] => true
  | p :: r, h :: hs => chkH T sc p h && chkHs T sc r hs
  | _, _ => false
def hdl (g : GW) (hs : List (Nat × DL.D)) : List (Value × (Addr → Value → Option Addr → TS)) := hs.map fun p => (.ref (g.cad p.1), fun _ _ _ => tRet (tC (litV p.2)))
theorem hds_ok {T : Tab} {sub : Nat → Nat → Option Bool} (co : COk g T sub) (em : X.mg = g.mg) {sc : Scope} (hgl : ∀ x, glB sc x = true → Gl X x) : ∀ (hs : List (Nat × DL.D)) (eh : List ExceptHandler), chkHs T sc hs eh = true → HdsOk X eh (hdl g hs)
  | [], [], _ => .nil
  | [], _ :: _, h => by simp [chkHs] at h
  | _ :: _, [], h => by simp [chkHs] at h
  | p :: r, eh :: ehs, h => by
    simp only [chkHs, Bool.and_eq_true] at h
    obtain ⟨h1, h2⟩ := h
    have ih := hds_ok co em hgl r ehs h2
    unfold chkH at h1
    split at h1 <;> first | (cases h1; done) | skip
    simp only [Bool.and_eq_true] at h1
    obtain ⟨⟨q1, q2⟩, q3⟩ := h1
    have C := co.cl _ _ (nameAt_eq q1)
    obtain ⟨b₀, rest, rfl, _⟩ := ret_suite q3 X
    refine .cons (c := .ref (g.cad p.1)) ⟨hgl _ q2, C.dbg, .inl (by rw [em]; exact C.gP)⟩ (fun a oe cls d pn _ _ => ?_) ih
    obtain ⟨_, _, e, q⟩ := ret_suite q3 (X.suite a ((a, oe) :: pn))
    exact q
theorem litB_any {d : DL.D} {suite : List Stmt} (h : retB d suite = true) : ∃ k, litB d k = true := by
  unfold retB at h
  split at h <;> first | (cases h; done) | exact ⟨_, h⟩
/-- what the clauses want of an exception -/
theorem many_ok {T : Tab} {sub : Nat → Nat → Option Bool} (co : COk g T sub) (eK : X.K = g.K) {sc : Scope} {Ms : List (List Addr × Hp)} {D : Ends} : ∀ (hs : List (Nat × DL.D)) (eh : List ExceptHandler), chkHs T sc hs eh = true → ∀ (c : Nat) (e : Envd),
    fin (LX X g.cad) W U0 H0 Ms D (clause sub c e hs) → ∀ σ' H', Bst X.K g.cad U0 H0 Ms e σ' H' → wMany X.K W D (hdl g hs) (.ref (g.cad c)) none σ' H'
  | [], [], _, c, e, h, σ', H', B => h σ' H' B
  | [], _ :: _, h, _, _, _, _, _, _ => by simp [chkHs] at h
  | _ :: _, [], h, _, _, _, _, _, _ => by simp [chkHs] at h
  | p :: r, eh :: ehs, hc, c, e, h, σ', H', B => by
    simp only [chkHs, Bool.and_eq_true] at hc
    obtain ⟨h1, h2⟩ := hc
    unfold clause at h
    show ∃ b, PySem.W.exmOne X.K (.ref (g.cad c)) (.ref (g.cad p.1)) = some b ∧ (b = true → ∀ a, H' a = none → tRet (tC (litV p.2)) D σ' H') ∧ (b = false → wMany X.K W D (hdl g r) (.ref (g.cad c)) none σ' H')
    cases q : sub c p.1 with
    | none => rw [q] at h; exact False.elim h
    | some b =>
      rw [q] at h
      refine ⟨b, by rw [eK]; exact co.exm c p.1 b q, fun hb a _ => ?_, fun hb => ?_⟩
      · subst hb
        obtain ⟨U, Z⟩ := B
        unfold chkH at h1
        split at h1 <;> first | (cases h1; done) | skip
        simp only [Bool.and_eq_true] at h1
        obtain ⟨k, hk⟩ := litB_any h1.2
        exact h H' _ Z.ex (litB_rep hk)
      · subst hb
        exact many_ok co eK r ehs h2 c e h σ' H' B
theorem ss_tryR {T : Tab} {sub : Nat → Nat → Option Bool} (co : COk g T sub) (eK : X.K = g.K) (em : X.mg = g.mg) {sc : Scope} (hgl : ∀ x, glB sc x = true → Gl X x) {hs : List (Nat × DL.D)} {h₀ : ExceptHandler} {eh : List ExceptHandler} {body : List Stmt} {pos : Pos} {f : Envd → DL.T}
    (hx : X.stack = X.env :: X.outer) (hf : X.env.frame = some X.env.locals) (tk : Takes X W) (hh : chkHs T sc hs (h₀ :: eh) = true)
    (hb : ∀ (W' : WX) (pn : List (Addr × Obj)) (xe : Value → Shared → Prop), Takes (X.tr pn xe) W' → PassesOwn (model X.prog X.w) X.A X.env xe → PSSt (X.tr pn xe) g.cad W' U0 H0 body f) :
    PSt X g.cad W U0 H0 (.Try body (h₀ :: eh) [] [] pos) (fun env => (f env).caught sub hs) := by
  refine PS.le (ps_try_many (Wout := W) (tb := fun W' => tSt (LX X g.cad) W' U0 H0 f) hx hf tk hb (hds_ok co em hgl hs _ hh)) fun D σ H h => ?_
  obtain ⟨Ms, env, B, h⟩ := h
  refine ⟨Ms, env, B, ?_⟩
  dsimp only at h
  cases e : f env with
  | nx e' => rw [e] at h; exact h
  | bk e' => rw [e] at h; exact h
  | ct e' => rw [e] at h; exact h
  | rt d => rw [e] at h; exact h
  | bad => rw [e] at h; exact h
  | exn c e' =>
    rw [e] at h
    exact fun σ' H' B' => many_ok co eK hs _ hh c e' h σ' H' B'
end
end DL
namespace DL
open PySem PySem.Spec PyProof.Rows L2 
def noComp : PySem.Expr → Bool
  | .ListComp .. => false | .SetComp .. => false | .DictComp .. => false
  | _ => true
theorem swaps_no {p : PySem.Expr} (h : noComp p = true) (t : Option PySem.Expr) (l : Nat) (env : Env) : swapsWith p t l env = pure false := by
  cases p <;> first | rfl | (simp [noComp] at h)
theorem swaps_cell {elt : PySem.Expr} {gs : List Comprehension} {scope : Scope} {cp py : Pos} {x : Str} {l : Nat} {env : Env} (h : locB env.scope x = false) : swapsWith (.ListComp elt gs scope cp) (some (.Name x py)) l env = pure false := by
  have e : (env.kindOf x == some NameKind.local) = false := by
    unfold locB at h
    show (env.scope.names.lookup x == some NameKind.local) = false
    split at h
    · cases h
    · rename_i hne
      exact beq_eq_false_iff_ne.mpr hne
  simp [swapsWith, e]
theorem swaps_sub {p o i : PySem.Expr} {sp : Pos} {l : Nat} {env : Env} : swapsWithSole [.Subscript o i sp] p l env = pure false := by
  cases p <;> rfl
theorem swaps_tup {p : PySem.Expr} {ts : List PySem.Expr} {k : Nat} {tp : Pos} {l : Nat} {env : Env} : swapsWithSole [.Tuple ts k tp] p l env = pure false := by
  cases p <;> rfl
theorem stores_sub {p o i : PySem.Expr} {sp : Pos} {env : Env} : swappedStores [.Subscript o i sp] p env = pure none := by
  cases p <;> rfl
def tupNames (sc : Scope) (ts : List PySem.Expr) : List Str :=
  let line := (ts.head?.map (·.pos.line)).getD 0
  ts.filterMap fun
    | .Name id pos => if sc.names.lookup id == some .local && pos.line == line then some id else none
    | _ => none
/-- the stores are in order -/
def plainStores (sc : Scope) (ts : List PySem.Expr) (p : PySem.Expr) : Bool := match p with
  | .Tuple vs _ _ => !(ts.length == 2 || ts.length == 3) || vs.length != ts.length || (noStars vs && ((tupNames sc ts).length != ts.length || vs.all (foldedForSure 8)))
  | _ => true
theorem starred_none : ∀ {vs : List PySem.Expr}, noStars vs = true → (vs.any fun | .Starred .. => true | _ => false) = false
  | [], _ => rfl
  | v :: vs, h => by
    rw [noStars, Bool.and_eq_true] at h
    rw [List.any_cons, starred_none h.2, Bool.or_false]
    cases v <;> first | rfl | (simp [noStar] at h)
theorem stores_plain {sc : Scope} {ts : List PySem.Expr} {p : PySem.Expr} {k : Nat} {tp : Pos} {env : Env} (hsc : env.scope = sc) (h : plainStores sc ts p = true) : swappedStores [.Tuple ts k tp] p env = pure none := by
  subst hsc
  cases p <;> first | rfl | skip
  rename_i vs k2 p2
  unfold plainStores at h
  simp only [Bool.or_eq_true, Bool.and_eq_true] at h
  have fm : (List.filterMap (fun x => match x with
      | Expr.Name id pos => if (env.kindOf id == some NameKind.local && pos.line == (Option.map (fun x => x.pos.line) ts.head?).getD 0) = true then some id else none
      | _ => none) ts) = tupNames env.scope ts := rfl
  rcases h with (h | h) | ⟨hs, h⟩
  · simp only [swappedStores]
    rw [if_pos (by rw [h]; rfl)]
  · simp only [swappedStores]
    rw [if_pos (by rw [h]; simp)]
  · simp only [swappedStores]
    split
    · rfl
    · refine (if_neg (fun z => Bool.noConfusion ((starred_none hs).symm.trans z))).trans ?_
      rcases h with h | h
      · exact if_pos (by rw [Bool.or_eq_true]; exact .inl h)
      · split <;> first | rfl | exact if_pos h
/-- two local names swapped -/
def swap2 (sc : Scope) (x y : Str) (px py : Pos) (p q : PySem.Expr) : Bool :=
  (match sc.kind with | .function => true | _ => false) && locB sc x && locB sc y && !(eqS x y) && decide (py.line = px.line) && noStars [p, q] && !([p, q].all (foldedForSure 8)) && !([p, q].all (constantsAlone 8))
theorem loc_eq {sc : Scope} {x : Str} (h : locB sc x = true) : sc.names.lookup x = some .local := by
  unfold locB at h
  split at h
  · assumption
  · cases h
theorem stores2 {sc : Scope} {x y : Str} {px py tp p2 : Pos} {p q : PySem.Expr} {k k2 : Nat} {env : Env} (hsc : env.scope = sc) (h : swap2 sc x y px py p q = true) :
    swappedStores [.Tuple [.Name x px, .Name y py] k tp] (.Tuple [p, q] k2 p2) env = pure (some [x, y]) := by
  subst hsc
  unfold swap2 at h
  simp only [Bool.and_eq_true, Bool.not_eq_true', decide_eq_true_eq] at h
  obtain ⟨⟨⟨⟨⟨⟨⟨h1, h2⟩, h3⟩, h4⟩, h5⟩, h6⟩, h7⟩, h8⟩ := h
  have hk : env.scope.kind = .function := by
    cases e : env.scope.kind <;> rw [e] at h1 <;> first | rfl | (simp at h1)
  have l1 : env.kindOf x = some .local := loc_eq h2
  have l2 : env.kindOf y = some .local := loc_eq h3
  have ne : x ≠ y := of_decide_eq_false h4
  have bk : env.blockKind = .function := by simp [Env.blockKind, hk, ScopeKind.isAnnotationScope]
  have st := starred_none h6
  have names : tupNames env.scope [.Name x px, .Name y py] = [x, y] := by
    have l1' : env.scope.names.lookup x = some .local := l1
    have l2' : env.scope.names.lookup y = some .local := l2
    have hl : ((Expr.Name x px).pos).line = px.line := rfl
    simp [tupNames, l1', l2', hl, h5]
  have dd : ([x, y] : List Str).eraseDups = [x, y] := by
    have : (y == x) = false := by simpa using Ne.symm ne
    simp [List.eraseDups_cons, this, List.filter]
  simp only [swappedStores]
  refine (if_neg (by simp [bk])).trans ?_
  refine (if_neg (fun z => Bool.noConfusion ((starred_none h6).symm.trans z))).trans ?_
  have hn : ∀ l : List Str, l = [x, y] → (l.length != 2 || l.eraseDups.length != l.length) = false := fun l e => by subst e; rw [dd]; rfl
  refine (if_neg (fun z => Bool.noConfusion ((hn _ names).symm.trans z))).trans ?_
  refine (if_neg (by rw [h7]; simp)).trans ?_
  refine (if_neg (by rw [h8]; simp)).trans ?_
  exact congrArg (fun l => pure (some l)) names
/-- three -/
def swap3 (sc : Scope) (x y z : Str) (px py pz : Pos) (p q r : PySem.Expr) : Bool :=
  (match sc.kind with | .function => true | _ => false) && locB sc x && locB sc y && locB sc z && !(eqS x y) && !(eqS x z) && !(eqS y z) && decide (py.line = px.line) && decide (pz.line = px.line) && noStars [p, q, r] && !([p, q, r].all (foldedForSure 8)) && !([p, q, r].all (constantsAlone 8))
theorem stores3 {sc : Scope} {x y z : Str} {px py pz tp p2 : Pos} {p q r : PySem.Expr} {k k2 : Nat} {env : Env} (hsc : env.scope = sc) (h : swap3 sc x y z px py pz p q r = true) :
    swappedStores [.Tuple [.Name x px, .Name y py, .Name z pz] k tp] (.Tuple [p, q, r] k2 p2) env = pure (some [x, y, z]) := by
  subst hsc
  unfold swap3 at h
  simp only [Bool.and_eq_true, Bool.not_eq_true', decide_eq_true_eq] at h
  obtain ⟨⟨⟨⟨⟨⟨⟨⟨⟨⟨⟨h1, h2⟩, h3⟩, h3z⟩, h4⟩, h4b⟩, h4c⟩, h5⟩, h5z⟩, h6⟩, h7⟩, h8⟩ := h
  have hk : env.scope.kind = .function := by
    cases e : env.scope.kind <;> rw [e] at h1 <;> first | rfl | (simp at h1)
  have ne : x ≠ y := of_decide_eq_false h4
  have ne2 : x ≠ z := of_decide_eq_false h4b
  have ne3 : y ≠ z := of_decide_eq_false h4c
  have bk : env.blockKind = .function := by simp [Env.blockKind, hk, ScopeKind.isAnnotationScope]
  have names : tupNames env.scope [.Name x px, .Name y py, .Name z pz] = [x, y, z] := by
    have hl : ((Expr.Name x px).pos).line = px.line := rfl
    simp [tupNames, loc_eq h2, loc_eq h3, loc_eq h3z, hl, h5, h5z]
  have dd : ([x, y, z] : List Str).eraseDups = [x, y, z] := by
    have e1 : (y == x) = false := by simpa using Ne.symm ne
    have e2 : (z == x) = false := by simpa using Ne.symm ne2
    have e3 : (z == y) = false := by simpa using Ne.symm ne3
    simp [List.eraseDups_cons, e1, e2, e3, List.filter]
  simp only [swappedStores]
  refine (if_neg (by simp [bk])).trans ?_
  refine (if_neg (fun z => Bool.noConfusion ((starred_none h6).symm.trans z))).trans ?_
  have hn : ∀ l : List Str, l = [x, y, z] → (l.length != 3 || l.eraseDups.length != l.length) = false := fun l e => by subst e; rw [dd]; rfl
  refine (if_neg (fun z => Bool.noConfusion ((hn _ names).symm.trans z))).trans ?_
  refine (if_neg (by rw [h7]; simp)).trans ?_
  refine (if_neg (by rw [h8]; simp)).trans ?_
  exact congrArg (fun l => pure (some l)) names
end DL
namespace DL
open PySem PySem.Spec PyProof.Rows L2 

/-! ### is this block that term? -/
/-- expressions that make a new list -/
def freshE : E → Bool
  | .lst _ => true
  | .bi .list [_] => true
  | .lc _ _ _ _ _ _ => true
  | .mulL _ _ => true
  | _ => false
/-- a comprehension stored without its own frame -/
def lcSwap (c : Cc) (x : Str) (py : Pos) (scope : Scope) (cp : Pos) : Bool :=
  (match c.sc.kind with | .function => true | _ => false) && locB c.sc x && (py.line == cp.line) && !(scope.names.any fun (n, k) => n == x && (k == .local || k == .cell))
def swOk (c : Cc) (x : Str) (py : Pos) : PySem.Expr → Bool
  | .ListComp _ _ scope cp => lcSwap c x py scope cp || !(locB c.sc x)
  | pe => noComp pe
mutual
def chkS : Nat → Cc → S → Stmt → Bool
  | 0, _, _, _ => false
  | n + 1, c, s, st => match s with
    | .set i e => (match st with
      | .Assign [.Name x py] pe _ => nameAt c.N i x && stB c x && chkE n c e pe && swOk c x py pe
      | _ => false)
    | .own i e => (match st with
      | .Assign [.Name x py] pe _ => nameAt c.N i x && stB c x && freshE e && chkE n c e pe && swOk c x py pe
      | _ => false)
    | .par is es => (match st with
      | .Assign [.Tuple [.Name x px, .Name y py] _ _] (.Tuple [p, q] _ _) _ => (match is with
        | [i, j] => nameAt c.N i x && nameAt c.N j y && swap2 c.sc x y px py p q && chkEs n c es [p, q]
        | _ => false)
      | .Assign [.Tuple [.Name x px, .Name y py, .Name z pz] _ _] (.Tuple [p, q, r] _ _) _ => (match is with
        | [i, j, l] => nameAt c.N i x && nameAt c.N j y && nameAt c.N l z && swap3 c.sc x y z px py pz p q r && chkEs n c es [p, q, r]
        | _ => false)
      | _ => false)
    | .asg tg e => (match st with
      | .Assign [.Tuple ts k tp] pe _ => plainStores c.sc ts pe && chkTg c tg (.Tuple ts k tp) && chkE n c e pe
      | _ => false)
    | .frz _ => false
    | .ex e => (match st with
      | .Expr pe _ => noComp pe && chkE n c e pe
      | _ => false)
    | .ret e => (match st with
      | .Return (some pe) _ => chkE n c e pe
      | _ => false)
    | .retN => (match st with
      | .Return none _ => true
      | _ => false)
    | .ite e a b => (match st with
      | .If pe pa pb _ => chkE n c e pe && chkSs n c a pa && chkSs n c b pb
      | _ => false)
    | .floop tg k its body => (match st with
      | .For t it pb [] _ => chkI n c t k its it && chkTg c tg t && chkSs n c body pb
      | _ => false)
    | .wloop e body => (match st with
      | .While pe pb [] _ => chkE n c e pe && chkSs n c body pb
      | _ => false)
    | .brk => (match st with
      | .Break _ => true
      | _ => false)
    | .cont => (match st with
      | .Continue _ => true
      | _ => false)
    | .pass => (match st with
      | .Pass _ => true
      | _ => false)
    | .app i e => (match st with
      | .Expr (.Call (.Attribute (.Name x _) m ap) [pe] [] cp) _ => eqS m "append" && nameAt c.N i x && visB c.sc x && dbgB x && (ap.endLine == cp.line) && noStar pe && chkE n c e pe
      | _ => false)
    | .sti i x e => (match st with
      | .Assign [.Subscript (.Name y _) px _] pe _ => nameAt c.N i y && visB c.sc y && dbgB y && notSlice px && chkE n c x px && chkE n c e pe
      | _ => false)
    | .aug i op e => (match st with
      | .AugAssign (.Name x _) o pe _ => nameAt c.N i x && stB c x && (match op, o with | .add, .Add => true | .sub, .Sub => true | _, _ => false) && chkE n c e pe
      | _ => false)
    | .raise k => (match st with
      | .Raise (some (.Call (.Name x _) [.Constant (.str _) _ _] [] _)) none _ => nameAt c.T.cls k x && glB c.sc x
      | _ => false)
    | .tryR body hs => (match st with
      | .Try pb (h :: eh) [] [] _ => chkSs n c body pb && chkHs c.T c.sc hs (h :: eh)
      | _ => false)
def chkSs : Nat → Cc → List S → List Stmt → Bool
  | 0, _, _, _ => false
  | n + 1, c, ss, sts => match ss with
    | [] => (match sts with
      | [] => true
      | _ => false)
    | .frz _ :: ss => chkSs n c ss sts
    | s :: ss => (match sts with
      | st :: sts => chkS n c s st && chkSs n c ss sts
      | [] => false)
end
structure GoodS (g : GW) (c : Cc) (W : WX) (X : Cx) : Prop extends Good g c W X where
  hx : X.stack = X.env :: X.outer
  hf : X.env.frame = some X.env.locals
  ps : PassesOwn (model X.prog X.w) X.A X.env X.xe
section
variable (g : GW) (T : Tab) (F : Fns) (Gs : List DL.D) (sub : Nat → Nat → Option Bool)
structure SndS (n : Nat) : Prop where
  s : ∀ (c : Cc) (s : S) (st : Stmt), c.T = T → chkS n c s st = true → ∀ (W : WX) (X : Cx) (U0 : List Addr) (H0 : Hp), GoodS g c W X → PSt X g.cad W U0 H0 st (exS F Gs sub s)
  ss : ∀ (c : Cc) (ss : List S) (sts : List Stmt), c.T = T → chkSs n c ss sts = true → ∀ (W : WX) (X : Cx) (U0 : List Addr) (H0 : Hp), GoodS g c W X → PSSt X g.cad W U0 H0 sts (exSs F Gs sub ss)
end
section
variable (F : Fns) (Gs : List DL.D) (sub : Nat → Nat → Option Bool)
theorem exS_set (i e) : exS F Gs sub (.set i e) = fun env => (ev F Gs false e env).st env fun d => .nx (env.set i (.im d)) := by funext env; simp only [exS]
theorem exS_own (i e) : exS F Gs sub (.own i e) = fun env => (ev F Gs false e env).st env fun d => .nx (env.set i (.ow d)) := by funext env; simp only [exS]
theorem exS_par (is es) : exS F Gs sub (.par is es) = fun env => (evs F Gs false es env).st env fun ds => match setsD env is ds with | some e => .nx e | none => .bad := by funext env; simp only [exS] <;> rfl
theorem exS_asg (tg e) : exS F Gs sub (.asg tg e) = fun env => (ev F Gs false e env).st env fun d => match tg.put d env with | some e => .nx e | none => .bad := by funext env; simp only [exS] <;> rfl
theorem exS_frz (i) : exS F Gs sub (.frz i) = fun env => .nx (freezeD env i) := by funext env; simp only [exS]
theorem exS_ex (e) : exS F Gs sub (.ex e) = fun env => (ev F Gs false e env).st env fun _ => .nx env := by funext env; simp only [exS]
theorem exS_ret (e) : exS F Gs sub (.ret e) = fun env => (ev F Gs false e env).st env fun d => .rt d := by funext env; simp only [exS]
theorem exS_retN : exS F Gs sub .retN = fun _ => .rt .non := by funext env; simp only [exS]
theorem exS_ite (c a b) : exS F Gs sub (.ite c a b) = fun env => (ev F Gs false c env).toB.st env fun k => match k with | true => exSs F Gs sub a env | false => exSs F Gs sub b env := by funext env; simp only [exS] <;> rfl
theorem exS_floop (tg k its body) : exS F Gs sub (.floop tg k its body) = fun env => (evs F Gs false its env).st env fun ds => (itemsD k ds).st env fun xs => loopD (fun d e => tg.put d e) (fun e => exSs F Gs sub body e) xs env := by funext env; simp only [exS]
theorem exS_wloop (c body) : exS F Gs sub (.wloop c body) = fun env => whileD (fun e => (ev F Gs false c e).toB) (fun e => exSs F Gs sub body e) env := by funext env; simp only [exS]
theorem exS_brk : exS F Gs sub .brk = fun env => .bk env := by funext env; simp only [exS]
theorem exS_cont : exS F Gs sub .cont = fun env => .ct env := by funext env; simp only [exS]
theorem exS_pass : exS F Gs sub .pass = fun env => .nx env := by funext env; simp only [exS]
theorem exS_app (i e) : exS F Gs sub (.app i e) = fun env => appS env i (ev F Gs false e env) := by funext env; simp only [exS]
theorem exS_sti (i x e) : exS F Gs sub (.sti i x e) = fun env => (ev F Gs false e env).st env fun d => stiS env i (ev F Gs false x env) d := by funext env; simp only [exS]
theorem exS_aug (i op e) : exS F Gs sub (.aug i op e) = fun env => (slot false env i).st env fun d => (ev F Gs true e env).st env fun y => (augD op d y).st env fun z => .nx (env.set i (.im z)) := by funext env; simp only [exS]
theorem exS_raise (c) : exS F Gs sub (.raise c) = fun env => .exn c env := by funext env; simp only [exS]
theorem exS_tryR (body hs) : exS F Gs sub (.tryR body hs) = fun env => (exSs F Gs sub body env).caught sub hs := by funext env; simp only [exS]
theorem exSs_nil : exSs F Gs sub [] = fun env => .nx env := by funext env; simp only [exSs]
theorem exSs_cons (s ss) : exSs F Gs sub (s :: ss) = fun env => (exS F Gs sub s env).then fun e => exSs F Gs sub ss e := by funext env; simp only [exSs]
end
end DL
namespace DL
open PySem PySem.Spec PyProof.Rows L2 
theorem eqS_eq {a b : Str} (h : eqS a b = true) : a = b := of_decide_eq_true h
section
variable {g : GW} {T : Tab} {F : Fns} {Gs : List DL.D} {sub : Nat → Nat → Option Bool} {W : WX} {X : Cx} {c : Cc} {U0 : List Addr} {H0 : Hp}
theorem Good.st (G : Good g c W X) {x : Str} (h : stB c x = true) : Loc X.env.scope x ∧ (X.fn x = true ∨ X.env.scope.names.lookup x = some .local) := by
  unfold stB at h
  split at h
  · rename_i k
    rw [← G.esc] at k
    exact ⟨.inl k, .inr k⟩
  · rename_i k
    rw [← G.esc] at k
    exact ⟨.inr k, .inl (G.own _ h)⟩
  · cases h
theorem Good.at (G : Good g c W X) {i : Nat} {x : Str} (h : nameAt c.N i x = true) : X.N[i]? = some x := by rw [G.eN]; exact nameAt_eq h
theorem Good.ne (G : Good g c W X) {i j : Nat} {x y : Str} (h : X.N[i]? = some x) (k : X.N[j]? = some y) (ne : x ≠ y) : i ≠ j := fun e => ne (by subst e; exact Option.some.inj (h.symm.trans k))
/-- a comprehension, new -/
theorem lc_snd (ok : GOk g T F Gs) {n : Nat} (S : SndE g T F Gs n) (hT : c.T = T) (G : Good g c W X) {vs : List Nat} {tg : Tg} {k : Ik} {its cond : List E} {elt : E} {pe : PySem.Expr} (h : chkE (n + 1) c (.lc vs tg k its cond elt) pe = true) :
    PE X pe (tF (LX X g.cad) W (ev F Gs false (.lc vs tg k its cond elt))) := by
  simp only [chkE] at h
  split at h <;> first | (cases h; done) | skip
  simp only [Bool.and_eq_true] at h
  obtain ⟨⟨⟨⟨⟨h1, h2⟩, h3⟩, h4⟩, h5⟩, h6⟩ := h
  rename_i pelt ptg pit pfs scope pos
  obtain ⟨I, hs⟩ := S.i c _ _ _ _ hT h2 W X G
  have own : (ownsOf c.N vs).map (·.2) = vs := by simp [ownsOf, List.map_map, Function.comp_def]
  have ok2 : BlkOk X.N X.env.scope scope (ownsOf c.N vs) := by rw [G.eN, G.esc]; exact blkOk_by h1
  have sl : ∀ i ∈ tg.slots, i ∈ (ownsOf c.N vs).map (·.2) := fun i hi => by
    rw [own]
    have := List.all_eq_true.mp (show (tg.slots.all fun i => vs.contains i) = true from h3) i hi
    exact List.contains_iff_mem.mp this
  have fr := fr_lc (cad := g.cad) (W := W) (pos := pos) G.calm G.nd (I true) ok2 sl
    (fun s H C cl fp => tg_snd (G.blk s H C cl fp) tg _ h4)
    (fun s H C cl fp => S.c (blkCc c _) _ _ hT h5 W0 _ (G.blk s H C cl fp))
    (fun s H C cl fp => (S.e (blkCc c _) _ _ hT h6 W0 _ (G.blk s H C cl fp)).1 false) hs
  rw [own] at fr
  have e : (fun env => ((evs F Gs true its env).bind (itemsD k)).bind fun xs => lcD tg vs (fun e => evc F Gs cond e) (ev F Gs false elt) env xs) =
      ev F Gs false (.lc vs tg k its cond elt) := by
    rw [ev_lc]; funext env; rw [R.bind_assoc]
  rw [← e]; exact fr
/-- a comprehension stored without its own frame -/
theorem lcSet_snd (ok : GOk g T F Gs) {n : Nat} (S : SndE g T F Gs n) (hT : c.T = T) (G : Good g c W X) {vs : List Nat} {tg : Tg} {k : Ik} {its cond : List E} {elt : E} {pelt : PySem.Expr} {gs : List Comprehension} {scope : Scope} {cp py spos : Pos} {i : Nat} {x : Str} {ow : Bool}
    (h : chkE (n + 1) c (.lc vs tg k its cond elt) (.ListComp pelt gs scope cp) = true) (hi : X.N[i]? = some x) (hw : lcSwap c x py scope cp = true) :
    PSt X g.cad W U0 H0 (.Assign [.Name x py] (.ListComp pelt gs scope cp) spos) (fun env => (ev F Gs false (.lc vs tg k its cond elt) env).st env fun d => .nx (env.set i (if ow then .ow d else .im d))) := by
  unfold lcSwap at hw
  simp only [Bool.and_eq_true, Bool.not_eq_true'] at hw
  obtain ⟨⟨⟨w1, w2⟩, w3⟩, w4⟩ := hw
  have hk : X.env.scope.kind = .function := by
    rw [G.esc]
    cases e : c.sc.kind <;> rw [e] at w1 <;> first | rfl | (simp at w1)
  have hl : X.env.scope.names.lookup x = some .local := by rw [G.esc]; exact loc_eq w2
  have hsw := sw_true (elt := pelt) (gs := gs) (scope := scope) (pos := cp) (py := py) (l := spos.line) hk hl w3 w4
  simp only [chkE] at h
  split at h <;> first | (cases h; done) | skip
  rename_i heq
  cases heq
  simp only [Bool.and_eq_true] at h
  obtain ⟨⟨⟨⟨⟨h1, h2⟩, h3⟩, h4⟩, h5⟩, h6⟩ := h
  obtain ⟨I, hs⟩ := S.i c _ _ _ _ hT h2 W X G
  have own : (ownsOf c.N vs).map (·.2) = vs := by simp [ownsOf, List.map_map, Function.comp_def]
  have ok2 : BlkOk X.N X.env.scope scope (ownsOf c.N vs) := by rw [G.eN, G.esc]; exact blkOk_by h1
  have sl : ∀ i ∈ tg.slots, i ∈ (ownsOf c.N vs).map (·.2) := fun i hi => by
    rw [own]
    have := List.all_eq_true.mp (show (tg.slots.all fun i => vs.contains i) = true from h3) i hi
    exact List.contains_iff_mem.mp this
  have fr := ss_setLc (cad := g.cad) (W := W) (U0 := U0) (H0 := H0) (ow := ow) G.calm G.nd hi hl hsw (I true) ok2 sl
    (fun s H C cl fp => tg_snd (G.blk s H C cl fp) tg _ h4)
    (fun s H C cl fp => S.c (blkCc c _) _ _ hT h5 W0 _ (G.blk s H C cl fp))
    (fun s H C cl fp => (S.e (blkCc c _) _ _ hT h6 W0 _ (G.blk s H C cl fp)).1 false) hs
  rw [own] at fr
  have e : (fun env => ((evs F Gs true its env).bind (itemsD k)).bind fun xs => lcD tg vs (fun e => evc F Gs cond e) (ev F Gs false elt) env xs) =
      ev F Gs false (.lc vs tg k its cond elt) := by
    rw [ev_lc]; funext env; rw [R.bind_assoc]
  rw [← e]; exact fr
/-- what makes a new list makes a new list -/
theorem fresh_snd (ok : GOk g T F Gs) {n : Nat} (hT : c.T = T) (G : Good g c W X) {e : E} {pe : PySem.Expr} (hf : freshE e = true) (h : chkE n c e pe = true) : PE X pe (tF (LX X g.cad) W (ev F Gs false e)) := by
  have ok' : GOk g c.T F Gs := by rw [hT]; exact ok
  cases n with
  | zero => simp [chkE] at h
  | succ n =>
    have S := sndE ok n
    unfold freshE at hf
    split at hf <;> first | (cases hf; done) | skip
    · rw [ev_lst]
      simp only [chkE] at h
      split at h <;> first | (cases h; done) | skip
      exact fr_lst ((S.es c _ _ hT h W X G).2 false)
    · rw [ev_bi]
      simp only [chkE] at h
      split at h <;> first | (cases h; done) | skip
      rename_i _ _ _ ps _
      simp only [Bool.and_eq_true] at h
      obtain ⟨i0, i1, i2⟩ := bt_of ok' G h.1
      have A := S.es c _ _ hT h.2 W X G
      have ns := Bool.and_eq_true_iff.mp A.1
      subst i0
      cases ps with
      | nil => exact fr_list (x := "list") i1 i2 (A.2 true) ns.1
      | cons q r =>
        exfalso
        have h2 := h.2
        cases n with
        | zero => simp [chkEs] at h2
        | succ n =>
          simp only [chkEs, Bool.and_eq_true] at h2
          cases n with
          | zero => simp [chkEs] at h2
          | succ n => simp [chkEs] at h2
    · exact lc_snd ok S hT G h
    · rw [ev_mulL]
      simp only [chkE] at h
      split at h <;> first | (cases h; done) | skip
      simp only [Bool.and_eq_true] at h
      exact fr_mul ((S.e c _ _ hT h.1 W X G).1 true) ((S.e c _ _ hT h.2 W X G).1 true)
theorem chk_lc {n : Nat} {e : E} {pelt : PySem.Expr} {gs : List Comprehension} {scope : Scope} {cp : Pos} (h : chkE n c e (.ListComp pelt gs scope cp) = true) : ∃ vs tg k its cond elt m, e = .lc vs tg k its cond elt ∧ n = m + 1 := by
  cases n with
  | zero => simp [chkE] at h
  | succ n =>
    cases e <;> first | exact ⟨_, _, _, _, _, _, _, rfl, rfl⟩ | skip
    all_goals first | (simp [chkE] at h; done) | skip
    rename_i a t
    cases t <;> simp [chkE] at h
theorem set_snd (ok : GOk g T F Gs) {n : Nat} (hT : c.T = T) (G : Good g c W X) {e : E} {pe : PySem.Expr} {i : Nat} {x : Str} {py pos : Pos} (h1 : nameAt c.N i x = true) (h2 : stB c x = true) (h3 : chkE n c e pe = true)
    (h4 : swOk c x py pe = true) : PSt X g.cad W U0 H0 (.Assign [.Name x py] pe pos) (exS F Gs sub (.set i e)) := by
  have gs := G.st h2
  rw [exS_set]
  have A := ((sndE ok n).e c _ _ hT h3 W X G).1 false
  unfold swOk at h4
  split at h4
  · rw [Bool.or_eq_true] at h4
    rcases h4 with h4 | h4
    · obtain ⟨vs, tg, k, its, cond, elt, m, rfl, rfl⟩ := chk_lc h3
      exact lcSet_snd (ow := false) ok (sndE ok m) hT G h3 (G.at h1) h4
    · exact ss_set G.nd (G.at h1) gs.1 gs.2 A (swaps_cell (by rw [G.esc]; simpa using h4))
  · exact ss_set G.nd (G.at h1) gs.1 gs.2 A (swaps_no h4 _ _ _)
theorem own_snd (ok : GOk g T F Gs) {n : Nat} (hT : c.T = T) (G : Good g c W X) {e : E} {pe : PySem.Expr} {i : Nat} {x : Str} {py pos : Pos} (h1 : nameAt c.N i x = true) (h2 : stB c x = true) (hf : freshE e = true) (h3 : chkE n c e pe = true)
    (h4 : swOk c x py pe = true) : PSt X g.cad W U0 H0 (.Assign [.Name x py] pe pos) (exS F Gs sub (.own i e)) := by
  have gs := G.st h2
  rw [exS_own]
  have A := fresh_snd ok hT G hf h3
  unfold swOk at h4
  split at h4
  · rw [Bool.or_eq_true] at h4
    rcases h4 with h4 | h4
    · obtain ⟨vs, tg, k, its, cond, elt, m, rfl, rfl⟩ := chk_lc h3
      exact lcSet_snd (ow := true) ok (sndE ok m) hT G h3 (G.at h1) h4
    · exact ss_own G.nd (G.at h1) gs.1 gs.2 A (swaps_cell (by rw [G.esc]; simpa using h4))
  · exact ss_own G.nd (G.at h1) gs.1 gs.2 A (swaps_no h4 _ _ _)
theorem GoodS.tr (G : GoodS g c W X) {W' : WX} {pn : List (Addr × Obj)} {xe : Value → Shared → Prop} (tk : Takes (X.tr pn xe) W') (ps : PassesOwn (model X.prog X.w) X.A X.env xe) : GoodS g c W' (X.tr pn xe) where
  eP := G.eP
  ew := G.ew
  eK := G.eK
  em := G.em
  eb := G.eb
  eN := G.eN
  nd := G.nd
  calm := G.calm
  room := G.room
  esc := G.esc
  own := G.own
  tk := tk
  hx := G.hx
  hf := G.hf
  ps := ps
theorem sndS_zero : SndS g T F Gs sub 0 := ⟨fun _ _ _ _ h => by simp [chkS] at h, fun _ _ _ _ h => by simp [chkSs] at h⟩
theorem sndS_succ (ok : GOk g T F Gs) (co : COk g T sub) (n : Nat) (S : SndS g T F Gs sub n) : ∀ (c : Cc) (s : DL.S) (st : Stmt), c.T = T → chkS (n + 1) c s st = true → ∀ (W : WX) (X : Cx) (U0 : List Addr) (H0 : Hp), GoodS g c W X → PSt X g.cad W U0 H0 st (exS F Gs sub s) := by
  intro c s st hT h W X U0 H0 G
  have SE := sndE ok n
  have ok' : GOk g c.T F Gs := by rw [hT]; exact ok
  cases s with
  | set i e =>
    simp only [chkS] at h
    split at h <;> first | (cases h; done) | skip
    simp only [Bool.and_eq_true] at h
    exact set_snd ok hT G.toGood h.1.1.1 h.1.1.2 h.1.2 h.2
  | own i e =>
    simp only [chkS] at h
    split at h <;> first | (cases h; done) | skip
    simp only [Bool.and_eq_true] at h
    exact own_snd ok hT G.toGood h.1.1.1.1 h.1.1.1.2 h.1.1.2 h.1.2 h.2
  | par is es =>
    rw [exS_par]
    simp only [chkS] at h
    split at h <;> first | (cases h; done) | skip
    · split at h <;> first | (cases h; done) | skip
      simp only [Bool.and_eq_true] at h
      obtain ⟨⟨⟨h1, h2⟩, h3⟩, h4⟩ := h
      have A := SE.es c _ _ hT h4 W X G.toGood
      have h3' := h3
      unfold swap2 at h3'
      simp only [Bool.and_eq_true, Bool.not_eq_true', decide_eq_true_eq] at h3'
      obtain ⟨⟨⟨⟨⟨⟨⟨z1, z2⟩, z3⟩, z4⟩, z5⟩, z6⟩, z7⟩, z8⟩ := h3'
      have ij := G.toGood.ne (G.toGood.at h1) (G.toGood.at h2) (of_decide_eq_false z4)
      exact ss_par2 G.calm G.nd (G.toGood.at h1) (G.toGood.at h2) ij (by rw [G.esc]; exact loc_eq z2) (by rw [G.esc]; exact loc_eq z3) (A.2 false) (stores2 G.esc h3)
    · split at h <;> first | (cases h; done) | skip
      simp only [Bool.and_eq_true] at h
      obtain ⟨⟨⟨⟨h1, h2⟩, hl⟩, h3⟩, h4⟩ := h
      have A := SE.es c _ _ hT h4 W X G.toGood
      have h3' := h3
      unfold swap3 at h3'
      simp only [Bool.and_eq_true, Bool.not_eq_true', decide_eq_true_eq] at h3'
      obtain ⟨⟨⟨⟨⟨⟨⟨⟨⟨⟨⟨z1, z2⟩, z3⟩, z3z⟩, z4⟩, z4b⟩, z4c⟩, z5⟩, z5z⟩, z6⟩, z7⟩, z8⟩ := h3'
      have ij := G.toGood.ne (G.toGood.at h1) (G.toGood.at h2) (of_decide_eq_false z4)
      have il := G.toGood.ne (G.toGood.at h1) (G.toGood.at hl) (of_decide_eq_false z4b)
      have jl := G.toGood.ne (G.toGood.at h2) (G.toGood.at hl) (of_decide_eq_false z4c)
      exact ss_par3 G.calm G.nd (G.toGood.at h1) (G.toGood.at h2) (G.toGood.at hl) ij il jl (by rw [G.esc]; exact loc_eq z2) (by rw [G.esc]; exact loc_eq z3) (by rw [G.esc]; exact loc_eq z3z) (A.2 false) (stores3 G.esc h3)
  | asg tg e =>
    rw [exS_asg]
    simp only [chkS] at h
    split at h <;> first | (cases h; done) | skip
    simp only [Bool.and_eq_true] at h
    exact ss_asg ((SE.e c _ _ hT h.2 W X G.toGood).1 false) (tg_snd G.toGood tg _ h.1.2) swaps_tup (stores_plain G.esc h.1.1) rfl
  | frz i => simp [chkS] at h
  | ex e =>
    rw [exS_ex]
    simp only [chkS] at h
    split at h <;> first | (cases h; done) | skip
    simp only [Bool.and_eq_true] at h
    exact ss_ex ((SE.e c _ _ hT h.2 W X G.toGood).1 false) (swaps_no h.1 _ _ _)
  | ret e =>
    rw [exS_ret]
    simp only [chkS] at h
    split at h <;> first | (cases h; done) | skip
    exact ss_ret ((SE.e c _ _ hT h W X G.toGood).1 false)
  | retN =>
    rw [exS_retN]
    simp only [chkS] at h
    split at h <;> first | (cases h; done) | skip
    exact ss_retN
  | ite e a b =>
    rw [exS_ite]
    simp only [chkS] at h
    split at h <;> first | (cases h; done) | skip
    simp only [Bool.and_eq_true] at h
    exact ss_ite (SE.e c _ _ hT h.1.1 W X G.toGood).2.1 (S.ss c _ _ hT h.1.2 W X U0 H0 G) (S.ss c _ _ hT h.2 W X U0 H0 G)
  | floop tg k its body =>
    rw [exS_floop]
    simp only [chkS] at h
    split at h <;> first | (cases h; done) | skip
    simp only [Bool.and_eq_true] at h
    have I := SE.i c _ _ _ _ hT h.1.1 W X G.toGood
    have A := ss_for (pos := by assumption) G.ps G.calm (I.1 false) (tg_snd G.toGood tg _ h.1.2) (S.ss c _ _ hT h.2 W X U0 H0 G) I.2
    refine PS.le A fun D σ H q => ?_
    obtain ⟨Ms, env, B, q⟩ := q
    refine ⟨Ms, env, B, ?_⟩
    dsimp only at q ⊢
    cases e : evs F Gs false its env <;> rw [e] at q <;> exact q
  | wloop e body =>
    rw [exS_wloop]
    simp only [chkS] at h
    split at h <;> first | (cases h; done) | skip
    simp only [Bool.and_eq_true] at h
    exact ss_while G.ps (SE.e c _ _ hT h.1 W X G.toGood).2.1 (S.ss c _ _ hT h.2 W X U0 H0 G)
  | brk =>
    rw [exS_brk]
    simp only [chkS] at h
    split at h <;> first | (cases h; done) | skip
    exact ss_brk
  | cont =>
    rw [exS_cont]
    simp only [chkS] at h
    split at h <;> first | (cases h; done) | skip
    exact ss_cont
  | pass =>
    rw [exS_pass]
    simp only [chkS] at h
    split at h <;> first | (cases h; done) | skip
    exact ss_pass
  | app i e =>
    rw [exS_app]
    simp only [chkS] at h
    split at h <;> first | (cases h; done) | skip
    simp only [Bool.and_eq_true] at h
    obtain ⟨⟨⟨⟨⟨⟨h1, h2⟩, h3⟩, h4⟩, h5⟩, h6⟩, h7⟩ := h
    have e1 := eqS_eq h1
    subst e1
    exact ss_app (G.toGood.at h2) (G.toGood.vis h3) (dbg_of h4).1 (dbg_of h4).2 ((SE.e c _ _ hT h7 W X G.toGood).1 false) h6 h5
  | sti i x e =>
    rw [exS_sti]
    simp only [chkS] at h
    split at h <;> first | (cases h; done) | skip
    simp only [Bool.and_eq_true] at h
    obtain ⟨⟨⟨⟨⟨h1, h2⟩, h3⟩, h4⟩, h5⟩, h6⟩ := h
    exact ss_sti (G.toGood.at h1) (G.toGood.vis h2) (dbg_of h3).1 (dbg_of h3).2 ((SE.e c _ _ hT h6 W X G.toGood).1 false) ((SE.e c _ _ hT h5 W X G.toGood).1 false) h4 swaps_sub stores_sub
  | aug i op e =>
    rw [exS_aug]
    simp only [chkS] at h
    split at h <;> first | (cases h; done) | skip
    simp only [Bool.and_eq_true] at h
    obtain ⟨⟨⟨h1, h2⟩, h3⟩, h4⟩ := h
    have gs := G.toGood.st h2
    refine ss_aug ?_ G.nd (G.toGood.at h1) gs.1 gs.2 ((SE.e c _ _ hT h4 W X G.toGood).1 true)
    split at h3
    · exact .inl ⟨rfl, rfl⟩
    · exact .inr ⟨rfl, rfl⟩
    · cases h3
  | raise k =>
    rw [exS_raise]
    simp only [chkS] at h
    split at h <;> first | (cases h; done) | skip
    simp only [Bool.and_eq_true] at h
    rw [hT] at h
    exact ss_raise G.eK G.em G.calm G.tk (co.cl _ _ (nameAt_eq h.1)) (G.toGood.gl h.2)
  | tryR body hs =>
    rw [exS_tryR]
    simp only [chkS] at h
    split at h <;> first | (cases h; done) | skip
    simp only [Bool.and_eq_true] at h
    have h2 := h.2
    rw [hT] at h2
    exact ss_tryR co G.eK G.em (fun x hx => G.toGood.gl hx) G.hx G.hf G.tk h2 fun W' pn xe tk ps => S.ss c _ _ hT h.1 W' _ U0 H0 (G.tr tk ps)
theorem sndS_step (ok : GOk g T F Gs) (co : COk g T sub) (n : Nat) (S : SndS g T F Gs sub n) : SndS g T F Gs sub (n + 1) := by
  refine ⟨sndS_succ ok co n S, ?_⟩
  intro c ss sts hT h W X U0 H0 G
  cases ss with
  | nil =>
    rw [exSs_nil]
    simp only [chkSs] at h
    split at h <;> first | (cases h; done) | skip
    exact sss_nil
  | cons s ss =>
    rw [exSs_cons]
    by_cases hf : ∃ i, s = .frz i
    · obtain ⟨i, rfl⟩ := hf
      simp only [chkSs] at h
      have A := S.ss c _ _ hT h W X U0 H0 G
      rw [exS_frz]
      exact sss_frz A i
    · have h2 : ∃ st r, sts = st :: r ∧ chkS n c s st = true ∧ chkSs n c ss r = true := by
        cases sts with
        | nil => cases s <;> first | (exact absurd ⟨_, rfl⟩ hf) | (simp [chkSs] at h)
        | cons st r => exact ⟨st, r, rfl, by cases s <;> first | (exact absurd ⟨_, rfl⟩ hf) | (simp only [chkSs, Bool.and_eq_true] at h; exact h)⟩
      obtain ⟨st, r, rfl, h1, h2⟩ := h2
      exact sss_cons (S.s c _ _ hT h1 W X U0 H0 G) (S.ss c _ _ hT h2 W X U0 H0 G)
theorem sndS (ok : GOk g T F Gs) (co : COk g T sub) : ∀ n, SndS g T F Gs sub n
  | 0 => sndS_zero
  | n + 1 => sndS_step ok co n (sndS ok co n)
end
end DL
namespace DL
open PySem PySem.Spec PyProof.Rows L2 

/-! ### a def -/
def fnScopeB (N P : List Str) (sc : Scope) : Bool :=
  (match sc.kind with | .function => true | _ => false) && !sc.isCoroutine && !sc.isGenerator && decide N.Nodup && decide (N.take P.length = P) &&
  P.all (fun x => match sc.names.lookup x with | some .local => true | some .cell => true | _ => false) && sc.names.all fun y => match y.2 with | .free => false | _ => true
theorem fnScope_by {N P : List Str} {sc : Scope} (h : fnScopeB N P sc = true) : FnScope N P sc := by
  unfold fnScopeB at h
  simp only [Bool.and_eq_true, Bool.not_eq_true', decide_eq_true_eq, List.all_eq_true] at h
  obtain ⟨⟨⟨⟨⟨⟨h1, h2⟩, h3⟩, h4⟩, h5⟩, h6⟩, h7⟩ := h
  refine ⟨?_, h2, h3, h4, h5, fun x hx => ?_, fun y hy e => ?_⟩
  · cases e : sc.kind <;> rw [e] at h1 <;> first | rfl | (simp at h1)
  · have := h6 x hx
    split at this
    · exact .inl ‹_›
    · exact .inr ‹_›
    · cases this
  · have := h7 y hy
    rw [e] at this
    cases this
structure FD where
  x : Str
  N : List Str
  ps : List Str
  ir : List DL.S
def FD.chk (T : Tab) (n : Nat) (fd : FD) (st : Stmt) : Bool :=
  dbgB fd.x && fnScopeB fd.N fd.ps (defScope st) && chkSs n ⟨T, fd.N, defScope st, fun _ => true⟩ fd.ir (defBody st)
theorem erep_start {K : PySem.W.Frag} {cad : Nat → Addr} {U : List Addr} {H : Hp} {N : List Str} {ds : List DL.D} {vs : List V} (nt : NoTup U H) (r : Reps K cad U H ds vs) : ERep K cad U (ds.map Sl.im ++ List.replicate (N.length - ds.length) .un) (L2.start N vs) H := by
  have hl := r.length
  refine ⟨nt, fun j s h => ?_, fun j l d e a h1 _ _ _ => ?_, by unfold L2.start; rw [List.length_append, List.length_append, List.length_map, List.length_map, List.length_replicate, List.length_replicate, hl]⟩
  · unfold L2.start
    by_cases hj : j < ds.length
    · rw [List.getElem?_append_left (by simpa using hj), List.getElem?_map] at h
      obtain ⟨d, hd⟩ : ∃ d, ds[j]? = some d := ⟨_, List.getElem?_eq_getElem hj⟩
      rw [hd] at h
      cases h
      obtain ⟨v, hv, rv⟩ := r.get hd
      exact ⟨v, by rw [List.getElem?_append_left (by rw [List.length_map, ← hl]; exact hj), List.getElem?_map, hv]; rfl, rv⟩
    · rw [List.getElem?_append_right (by simpa using hj), List.getElem?_replicate] at h
      split at h <;> cases h
      exact trivial
  · by_cases hj : j < ds.length
    · rw [List.getElem?_append_left (by simpa using hj), List.getElem?_map] at h1
      obtain ⟨d, hd⟩ : ∃ d, ds[j]? = some d := ⟨_, List.getElem?_eq_getElem hj⟩
      rw [hd] at h1
      cases h1
    · rw [List.getElem?_append_right (by simpa using hj), List.getElem?_replicate] at h1
      split at h1 <;> cases h1
section
variable {g : GW} {T : Tab} {F : Fns} {Gs : List DL.D} {sub : Nat → Nat → Option Bool}
/-- a def that is checked means what its term means -/
theorem fn_ok (ok : GOk g T F Gs) (co : COk g T sub) {n : Nat} {fd : FD} {st : Stmt} {qual : Str} {f : Addr} {fdat : FuncData} (hc : fd.chk T n st = true)
    (Fn : Fun g.K fd.x qual st f fdat) :
    FnOk g.P g.w g.K g.mg g.base (L2.CX g.P g.w) (g.k + 1) f fdat fd.ps (spD g.K g.cad fd.ps.length (runD F Gs sub fd.ir fd.ps.length fd.N.length)) := by
  unfold FD.chk at hc
  simp only [Bool.and_eq_true] at hc
  obtain ⟨⟨h1, h2⟩, h3⟩ := hc
  have S := fnScope_by h2
  refine Fun.okX Fn S (fun vs H Q E h => h.1) fun cdv A outer s H vs Q E hr hsp => ?_
  · obtain ⟨hl, U, ds, nt, rp, hp⟩ := hsp
    have tk : Takes (cxOf (L2.CX g.P g.w) g.P g.w g.K g.mg g.base fd.N qual (defScope st) f cdv A outer s H E) (fun cls d _ H => E cls d H) := takes_of rfl rfl rfl (E₁ := fun e' s'' => L2.CX g.P g.w outer H s E e' s'') rfl
    have ps : PassesOwn (model g.P g.w) (A.deeper (envOfC qual (defScope st) s.heap.objs.size f cdv)) (envOfC qual (defScope st) s.heap.objs.size f cdv) (cxOf (L2.CX g.P g.w) g.P g.w g.K g.mg g.base fd.N qual (defScope st) f cdv A outer s H E).xe :=
      passes_of (X := cxOf (L2.CX g.P g.w) g.P g.w g.K g.mg g.base fd.N qual (defScope st) f cdv A outer s H E) rfl
    have G : GoodS g ⟨T, fd.N, defScope st, fun _ => true⟩ (fun cls d _ H => E cls d H) (cxOf (L2.CX g.P g.w) g.P g.w g.K g.mg g.base fd.N qual (defScope st) f cdv A outer s H E) :=
      { eP := rfl, ew := rfl, eK := rfl, em := rfl, eb := rfl, eN := rfl, nd := S.nd, calm := rfl, room := hr, esc := rfl, own := fun _ _ => rfl, tk := tk, hx := rfl, hf := rfl, ps := ps }
    refine ⟨_, (sndS ok co n).ss _ _ _ rfl h3 _ _ U H G, [], ds.map Sl.im ++ List.replicate (fd.N.length - ds.length) .un, ?_, ?_⟩
    · have er := erep_start (N := fd.N) nt rp
      refine ⟨U, er, Ex.refl _ _, fun a h => h, fun a h => .inl h, fun i d a q _ => ?_, fun m hm => absurd hm (by simp)⟩
      exfalso
      by_cases hj : i < ds.length
      · rw [List.getElem?_append_left (by simpa using hj), List.getElem?_map] at q
        obtain ⟨d, hd⟩ : ∃ d, ds[i]? = some d := ⟨_, List.getElem?_eq_getElem hj⟩
        rw [hd] at q
        cases q
      · rw [List.getElem?_append_right (by simpa using hj), List.getElem?_replicate] at q
        split at q <;> cases q
    · have hd : decide (ds.length = fd.ps.length) = true := decide_eq_true (by rw [rp.length, hl])
      unfold runD at hp
      rw [hd] at hp
      dsimp only at hp
      generalize exSs F Gs sub fd.ir (ds.map Sl.im ++ List.replicate (fd.N.length - ds.length) .un) = t at hp ⊢
      cases t with
      | nx e => exact fun σ' H' ⟨U', B⟩ => hp H' _ B.ex (rep_non (cad := g.cad) (K := g.K) (U := U) (H := H'))
      | rt d => exact fun H' v ex r => hp H' v ex r
      | exn c e => exact fun σ' H' ⟨U', B⟩ => hp H' B.ex
      | bk e => exact False.elim hp
      | ct e => exact False.elim hp
      | bad => exact False.elim hp
theorem fn_snd (ok : GOk g T F Gs) (co : COk g T sub) {n : Nat} {fd : FD} {st : Stmt} {qual : Str} {f : Addr} {fdat : FuncData} (hc : fd.chk T n st = true)
    (Fn : Fun g.K fd.x qual st f fdat) (hm : g.mg fd.x = some (.ref f)) (hk : PySem.W.keepIn g.K (.ref f) = true) (hb : Binds g.K fdat fd.ps []) :
    FnI g.P g.w g.K g.mg g.base g.cad (g.k + 1) fd.x (runD F Gs sub fd.ir fd.ps.length fd.N.length) := by
  have A := fn_ok ok co hc Fn
  unfold FD.chk at hc
  simp only [Bool.and_eq_true] at hc
  refine ⟨(dbg_of hc.1.1).1, f, fdat, fd.ps, hm, hk, hb, A, fun ds hb => ?_⟩
  · unfold runD at hb
    cases e : decide (ds.length = fd.ps.length) with
    | false => rw [e] at hb; exact absurd rfl hb
    | true => exact of_decide_eq_true e
theorem FnI.mono {P : Program} {w : World} {K : PySem.W.Frag} {mg : Str → Option Value} {base : Heap} {cad : Nat → Addr} {j k : Nat} {x : Str} {Φ : List DL.D → R DL.D} (h : FnI P w K mg base cad j x Φ) (le : j ≤ k) : FnI P w K mg base cad k x Φ :=
  ⟨h.dbg, let ⟨f, fd, ps, a, b, c, d, e⟩ := h.ex; ⟨f, fd, ps, a, b, c, d.mono le, e⟩⟩
end
end DL
namespace DL
open PySem PySem.Spec PyProof.Rows L2 

/-! ### the top, and the law's end -/
def gw (P : Program) (w : World) (K : PySem.W.Frag) (mg : Str → Option Value) (base : Heap) (cs : List Addr) (k : Nat) : GW := ⟨P, w, K, mg, base, fun i => cs.getD i 0, k⟩
/-- a def as it stands behind the top -/
structure FnF (K : PySem.W.Frag) (x : Str) (st : Stmt) (f : Addr) (fdat : FuncData) (ps : List Str) : Prop where
  a : PySem.W.nsIn K mainGlobals x = some (some (.ref f))
  fn : Fun K x x st f fdat
  ba : ∀ us : List Value, us.length = ps.length → bindArgs fdat ⟨us, []⟩ = pure (ps.zip us)
theorem FnF.bi {K : PySem.W.Frag} {x : Str} {st : Stmt} {f : Addr} {fdat : FuncData} {ps : List Str} (F : FnF K x st f fdat ps) : Binds K fdat ps [] := .all F.ba
theorem FnF.of {K : PySem.W.Frag} {x : Str} {st : Stmt} {f : Addr} {oc : Value} {od an : Option Addr} {osl : Array (Option Value)} {kV doc pm cdv ct : Value} {ps : List Str} (a : PySem.W.nsIn K mainGlobals x = some (some (.ref f)))
    (l : K.lookup f = some ⟨oc, od, .func (PySem.W.fnOf x x (defArgs st) (defBody st) (defScope st) .none kV doc pm an cdv ct), osl⟩) (c : PySem.W.codeIn K cdv x = true) (k : PySem.W.keepIn K (.ref f) = true)
    (h : ∀ (kV doc pm : Value) (an : Option Addr) (cdv ct : Value) (us : List Value), us.length = ps.length → bindArgs (PySem.W.fnOf x x (defArgs st) (defBody st) (defScope st) .none kV doc pm an cdv ct) ⟨us, []⟩ = pure (ps.zip us)) :
    FnF K x st f (PySem.W.fnOf x x (defArgs st) (defBody st) (defScope st) .none kV doc pm an cdv ct) ps :=
  ⟨a, fun_mk l c k, h kV doc pm an cdv ct⟩
mutual
/-- what a global name holds, in the written part -/
def repK (K : PySem.W.Frag) : DL.D → Value → Bool
  | .non, .none => true
  | .bl a, .bool b => a == b
  | .int i, .int j _ => decide (i = j)
  | .str x, .str y _ => decide (x = y)
  | .tup xs, .ref p => (match K.lookup p with
    | some ⟨.type n, _, .seq its _, _⟩ => (n == "tuple") && decide (its.size ≤ sizeLine) && repKs K xs its.toList
    | _ => false)
  | _, _ => false
def repKs (K : PySem.W.Frag) : List DL.D → List Value → Bool
  | [], [] => true
  | d :: ds, u :: us => repK K d u && repKs K ds us
  | _, _ => false
end
section
variable {K : PySem.W.Frag} {cad : Nat → Addr} {H : Hp}
mutual
theorem repK_snd : ∀ (d : DL.D) (u : Value), repK K d u = true → ∃ v, RelV v u ∧ ∀ U H, Rep K cad U H d v
  | .non, u, h => by
    cases u <;> first | (simp [repK] at h; done) | exact ⟨.non, rfl, fun U H => rep_non (cad := cad) (K := K) (U := U) (H := H)⟩
  | .bl a, u, h => by
    cases u <;> first | (simp [repK] at h; done) | skip
    rename_i b
    have e : a = b := by simpa [repK] using h
    subst e
    exact ⟨.bl a, rfl, fun U H => by simp [Rep]⟩
  | .int i, u, h => by
    cases u <;> first | (simp [repK] at h; done) | skip
    have e := of_decide_eq_true (by simpa only [repK] using h)
    exact ⟨.int i, ⟨_, by rw [e]⟩, fun U H => by simp [Rep]⟩
  | .str x, u, h => by
    cases u <;> first | (simp [repK] at h; done) | skip
    have e := of_decide_eq_true (by simpa only [repK] using h)
    exact ⟨.str x, ⟨_, by rw [e]⟩, fun U H => by simp [Rep]⟩
  | .tup xs, u, h => by
    cases u <;> simp only [repK] at h <;> first | (cases h; done) | skip
    rename_i p
    split at h <;> first | (cases h; done) | skip
    rename_i lk
    simp only [Bool.and_eq_true, decide_eq_true_eq, beq_iff_eq] at h
    obtain ⟨⟨rfl, h2⟩, h3⟩ := h
    obtain ⟨vs, q1, q2⟩ := repKs_snd xs _ h3
    exact ⟨.ref p, rfl, fun U H => by simp only [Rep]; exact ⟨p, vs, rfl, .inr ⟨_, _, _, lk, rfl, rfl, h2, q1⟩, q2 U H⟩⟩
  | .scr _, u, h => by cases u <;> simp [repK] at h
  | .lst _, u, h => by cases u <;> simp [repK] at h
  | .ins _ _ _, u, h => by cases u <;> simp [repK] at h
  | .dic _ _, u, h => by cases u <;> simp [repK] at h
theorem repKs_snd : ∀ (ds : List DL.D) (us : List Value), repKs K ds us = true → ∃ vs, Vals vs us ∧ ∀ U H, Reps K cad U H ds vs
  | [], [], _ => ⟨[], .nil, fun U H => by simp [Reps]⟩
  | [], _ :: _, h => by simp [repKs] at h
  | _ :: _, [], h => by simp [repKs] at h
  | d :: ds, u :: us, h => by
    simp only [repKs, Bool.and_eq_true] at h
    obtain ⟨v, q1, q2⟩ := repK_snd d u h.1
    obtain ⟨vs, q3, q4⟩ := repKs_snd ds us h.2
    exact ⟨v :: vs, .cons q1 q3, fun U H => by simp only [Reps]; exact ⟨v, vs, rfl, q2 U H, q4 U H⟩⟩
end
end
/-- global names with their data -/
def glK (K : PySem.W.Frag) : List Str → List DL.D → Bool
  | [], _ => true
  | x :: xs, d :: ds => (match PySem.W.nsIn K mainGlobals x with
    | some (some u) => repK K d u
    | _ => false) && glK K xs ds
  | _ :: _, [] => true
theorem glK_at {K : PySem.W.Frag} : ∀ (xs : List Str) (ds : List DL.D), glK K xs ds = true → ∀ (j : Nat) x d, xs[j]? = some x → ds[j]? = some d → ∃ u, PySem.W.nsIn K mainGlobals x = some (some u) ∧ repK K d u = true
  | [], _, _, j, x, d, h1, _ => by simp at h1
  | _ :: _, [], _, j, x, d, _, h2 => by simp at h2
  | y :: xs, e :: ds, h, 0, x, d, h1, h2 => by
    simp only [glK, Bool.and_eq_true] at h
    simp at h1 h2
    subst h1 h2
    have h := h.1
    split at h
    · exact ⟨_, ‹_›, h⟩
    · cases h
  | y :: xs, e :: ds, h, j + 1, x, d, h1, h2 => by
    simp only [glK, Bool.and_eq_true] at h
    exact glK_at xs ds h.2 j x d (by simpa using h1) (by simpa using h2)
def btK (K : PySem.W.Frag) (xs : List Str) : Bool := xs.all fun x => match PySem.W.nsIn K mainGlobals x with
  | some none => true
  | _ => false
/-- an own class of exceptions -/
def clsK (K : PySem.W.Frag) (x : Str) (C : Addr) : Bool :=
  !(x == ("__debug__" : Str)) && PySem.W.excIn K C [.type "ValueError", .type "Exception", .type "BaseException", .type "object"] "ValueError.__new__" && PySem.W.keepIn K (.ref C) &&
  (match PySem.W.subIn K (.ref C) (.type "BaseException") with | some true => true | _ => false) && (match PySem.W.typeIn K (.ref C) with | some (.type n) => n == "type" | _ => false) &&
  (match PySem.W.nsIn K mainGlobals x with | some (some (.ref a)) => decide (a = C) | _ => false)
def clsKs (K : PySem.W.Frag) : List Str → List Addr → Bool
  | [], [] => true
  | x :: xs, C :: cs => clsK K x C && clsKs K xs cs
  | _, _ => false
theorem clsKs_at {K : PySem.W.Frag} : ∀ (xs : List Str) (cs : List Addr), clsKs K xs cs = true → ∀ (j : Nat) x, xs[j]? = some x → clsK K x (cs.getD j 0) = true
  | [], [], _, j, x, h => by simp at h
  | [], _ :: _, h, _, _, _ => by simp [clsKs] at h
  | _ :: _, [], h, _, _, _ => by simp [clsKs] at h
  | y :: xs, C :: cs, h, 0, x, h1 => by
    simp only [clsKs, Bool.and_eq_true] at h
    simp at h1
    subst h1
    exact h.1
  | y :: xs, C :: cs, h, j + 1, x, h1 => by
    simp only [clsKs, Bool.and_eq_true] at h
    exact clsKs_at xs cs h.2 j x (by simpa using h1)
/-- which class is below which -/
def subT (tab : List (List Bool)) (i j : Nat) : Option Bool := (tab[i]?).bind fun r => r[j]?
def subK (K : PySem.W.Frag) (cs : List Addr) (tab : List (List Bool)) : Bool :=
  (List.range tab.length).all fun i => (List.range tab.length).all fun j => match subT tab i j with
    | none => true
    | some b => (match PySem.W.exmOne K (.ref (cs.getD i 0)) (.ref (cs.getD j 0)) with | some b' => b == b' | none => false)
def sqT (tab : List (List Bool)) : Bool := tab.all fun r => decide (r.length ≤ tab.length)
section
variable {P : Program} {w : World} {K : PySem.W.Frag} {mg : Str → Option Value} {base h : Heap} {cs : List Addr} {k n : Nat} {fs gls cls bts : List Str} {F : Fns} {Gs : List DL.D} {tab : List (List Bool)}
theorem gl_of (X : K.In h) (G : h.Ns mainGlobals mg) (g : glK K gls Gs = true) (j : Nat) (x : Str) (d : DL.D) (h1 : gls[j]? = some x) (h2 : Gs[j]? = some d) (cad : Nat → Addr) : ∃ u v, mg x = some u ∧ RelV v u ∧ ∀ U H, Rep K cad U H d v := by
  obtain ⟨u, q1, q2⟩ := glK_at gls Gs g j x d h1 h2
  obtain ⟨v, q3, q4⟩ := repK_snd (cad := cad) d u q2
  exact ⟨u, v, PySem.W.mg_of X G q1, q3, q4⟩
theorem bt_of' (X : K.In h) (G : h.Ns mainGlobals mg) (b : btK K bts = true) : ∀ x ∈ bts, mg x = none := fun x hx => by
  have := List.all_eq_true.mp (show (bts.all _) = true from b) x hx
  split at this
  · exact PySem.W.mg_none_of X G ‹_›
  · cases this
theorem gok_nil (X : K.In h) (G : h.Ns mainGlobals mg) (g : glK K gls Gs = true) (b : btK K bts = true) : GOk (gw P w K mg base cs 0) ⟨[], gls, cls, bts⟩ [] Gs where
  fn := fun j x Φ h1 _ => by simp at h1
  gl := fun j x d h1 h2 => gl_of X G g j x d h1 h2 _
  bt := bt_of' X G b
  len := rfl
theorem cok_of (X : K.In h) (G : h.Ns mainGlobals mg) (c : clsKs K cls cs = true) (s : subK K cs tab = true) (sq : sqT tab = true) : COk (gw P w K mg base cs k) ⟨fs, gls, cls, bts⟩ (subT tab) where
  cl := fun j x h1 => by
    have q := clsKs_at cls cs c j x h1
    unfold clsK at q
    simp only [Bool.and_eq_true, Bool.not_eq_true'] at q
    obtain ⟨⟨⟨⟨⟨q1, q2⟩, q3⟩, q4⟩, q5⟩, q6⟩ := q
    refine ⟨q1, ?_, q2, q3, ?_, ?_⟩
    · split at q6
      · rename_i a e
        have := of_decide_eq_true q6
        subst this
        exact PySem.W.mg_of X G e
      · cases q6
    · split at q4
      · assumption
      · cases q4
    · split at q5
      · rename_i m e
        have e2 : m = "type" := by simpa using q5
        subst e2
        exact e
      · cases q5
  exm := fun i j b hb => by
    unfold subT at hb
    cases e : tab[i]? with
    | none => rw [e] at hb; cases hb
    | some r =>
      have hr : r.length ≤ tab.length := of_decide_eq_true (List.all_eq_true.mp (show (tab.all _) = true from sq) r (List.mem_of_getElem? e))
      rw [e] at hb
      have hb : r[j]? = some b := hb
      have i1 := (List.getElem?_eq_some_iff.mp e).1
      have j1 := (List.getElem?_eq_some_iff.mp hb).1
      have q := List.all_eq_true.mp (List.all_eq_true.mp (show ((List.range tab.length).all _) = true from s) i (List.mem_range.mpr i1)) j (List.mem_range.mpr (Nat.lt_of_lt_of_le j1 hr))
      have e3 : subT tab i j = some b := by unfold subT; rw [e]; exact hb
      rw [e3] at q
      simp only at q
      split at q
      · rename_i b' e4
        have : b = b' := by simpa using q
        subst this
        exact e4
      · cases q
theorem gok_step (X : K.In h) (G : h.Ns mainGlobals mg) {sub : Nat → Nat → Option Bool} {fd : FD} {st : Stmt} {f : Addr} {fdat : FuncData} (ok : GOk (gw P w K mg base cs k) ⟨fs, gls, cls, bts⟩ F Gs) (co : COk (gw P w K mg base cs k) ⟨fs, gls, cls, bts⟩ sub)
    (hc : fd.chk ⟨fs, gls, cls, bts⟩ n st = true) (Fn : FnF K fd.x st f fdat fd.ps) :
    GOk (gw P w K mg base cs (k + 1)) ⟨fs ++ [fd.x], gls, cls, bts⟩ (F ++ [runD F Gs sub fd.ir fd.ps.length fd.N.length]) Gs where
  fn := fun j x Φ h1 h2 => by
    have hl : fs.length = F.length := ok.len
    dsimp only at h1
    by_cases hj : j < fs.length
    · rw [List.getElem?_append_left hj] at h1
      rw [List.getElem?_append_left (by omega)] at h2
      exact (ok.fn j x Φ h1 h2).mono (Nat.le_succ k)
    · rw [List.getElem?_append_right (by omega)] at h1 h2
      have e0 : j - fs.length = 0 := by
        cases e : j - fs.length with
        | zero => rfl
        | succ m => rw [e] at h1; simp at h1
      have e1 : j - F.length = 0 := by omega
      rw [e0] at h1
      rw [e1] at h2
      simp at h1 h2
      subst h1 h2
      exact fn_snd ok co hc Fn.fn (PySem.W.mg_of X G Fn.a) Fn.fn.kp Fn.bi
  gl := ok.gl
  bt := ok.bt
  len := by simpa using ok.len
/-- the law's promise -/
def spLaw (K : PySem.W.Frag) : Sp := fun vs H Q _ => ∃ (a : Addr) (ns : List Int), vs = [.ref a] ∧ SqL K H a (ns.map V.int) ∧ ns.length ≤ 63 ∧ (∀ z ∈ ns, Builtin.Int.intBits z ≤ 1048576) ∧ ∀ H', Q (.bl true) H'
def scrD (ns : List Int) : DL.D := .scr (ns.map DL.D.int)
theorem reps_ints {cad : Nat → Addr} {U : List Addr} {H : Hp} : ∀ ns : List Int, Reps K cad U H (ns.map DL.D.int) (ns.map V.int)
  | [] => by simp [Reps]
  | n :: r => by simp only [List.map_cons, Reps]; exact ⟨_, _, rfl, by simp [Rep], reps_ints r⟩
theorem law_fn (X : K.In h) (G : h.Ns mainGlobals mg) {sub : Nat → Nat → Option Bool} {fd : FD} {st : Stmt} {f : Addr} {fdat : FuncData} (ok : GOk (gw P w K mg base cs k) ⟨fs, gls, cls, bts⟩ F Gs) (co : COk (gw P w K mg base cs k) ⟨fs, gls, cls, bts⟩ sub)
    (hc : fd.chk ⟨fs, gls, cls, bts⟩ n st = true) (Fn : FnF K fd.x st f fdat fd.ps) (hp : fd.ps.length = 1)
    (law : ∀ ns : List Int, ns.length ≤ 63 → (∀ z ∈ ns, Builtin.Int.intBits z ≤ 1048576) → runD F Gs sub fd.ir 1 fd.N.length [scrD ns] = .ok (.bl true)) :
    FnOk P w K mg base (L2.CX P w) (k + 1) f fdat fd.ps (spLaw K) := by
  refine (fn_ok ok co hc Fn.fn).imp fun vs H Q E hs => ?_
  obtain ⟨a, ns, rfl, h2, h3, h4, h5⟩ := hs
  refine ⟨by rw [hp]; rfl, [], [scrD ns], fun x hx => absurd hx (by simp), ?_, ?_⟩
  · simp only [Reps, scrD, Rep]
    exact ⟨_, _, rfl, ⟨a, _, rfl, by simp, h2, reps_ints ns⟩, rfl⟩
  · rw [hp, law ns h3 h4]
    intro H' v _ r
    have e : v = .bl true := by
      have r := RepM.of r
      simpa [Rep] using r
    subst e
    exact h5 H'
theorem cx_none {P : Program} {w : World} {outer : List Env} {H : Hp} {s s' : Shared} {e : Value} (h : L2.CX P w outer H s (fun _ _ _ => False) e s') : False := by
  obtain ⟨a, B, H', cls, d, _, _, _, _, _, _, _, z⟩ := h
  exact z
end
end DL
namespace DL
open PySem PySem.Spec PyProof.Rows L2 

/-! ### plain work with terms: rules for simp -/
section
variable (F : Fns) (Gs : List DL.D) (sub : Nat → Nat → Option Bool) (b : Bool) (env : Envd)
@[simp] theorem e_lit (d) : ev F Gs b (.lit d) env = .ok d := by rw [ev_lit]
@[simp] theorem e_var (i) : ev F Gs b (.var i) env = slot b env i := by rw [ev_var]
@[simp] theorem e_glob (j) : ev F Gs b (.glob j) env = globD Gs j := by rw [ev_glob]
@[simp] theorem e_bin (op x y) : ev F Gs b (.bin op x y) env = (ev F Gs true x env).bind fun d => (ev F Gs true y env).bind fun e => op2 op d e := by rw [ev_bin]
@[simp] theorem e_chain (p q x y z) : ev F Gs b (.chain p q x y z) env = (ev F Gs true x env).bind fun d => (ev F Gs true y env).bind fun e => andR (op2 p d e) ((ev F Gs true z env).bind fun f => op2 q e f) := by rw [ev_chain]
@[simp] theorem e_neg (x) : ev F Gs b (.neg x) env = (ev F Gs true x env).bind negD := by rw [ev_neg]
@[simp] theorem e_not (x) : ev F Gs b (.not x) env = (ev F Gs false x env).not := by rw [ev_not]
@[simp] theorem e_and (x y) : ev F Gs b (.and x y) env = andR (ev F Gs false x env) (ev F Gs false y env) := by rw [ev_and]
@[simp] theorem e_or (x y) : ev F Gs b (.or x y) env = orR (ev F Gs false x env) (ev F Gs false y env) := by rw [ev_or]
@[simp] theorem e_ite (c x y) : ev F Gs b (.ite c x y) env = iteR (ev F Gs false c env) (ev F Gs false x env) (ev F Gs false y env) := by rw [ev_ite]
@[simp] theorem e_tup (es) : ev F Gs b (.tup es) env = (evs F Gs false es env).bind fun ds => guard (decide (ds.length ≤ SZ)) (.ok (.tup ds)) := by rw [ev_tup]
@[simp] theorem e_lst (es) : ev F Gs b (.lst es) env = (evs F Gs false es env).bind fun ds => guard (decide (ds.length ≤ SZ)) (.ok (.lst ds)) := by rw [ev_lst]
@[simp] theorem e_idx (x y) : ev F Gs b (.idx x y) env = (ev F Gs true x env).bind fun d => (ev F Gs true y env).bind fun e => ixD d e := by rw [ev_idx]
@[simp] theorem e_sl (x lo hi) : ev F Gs b (.sl x lo hi) env = (ev F Gs true x env).bind fun d => (partE lo (ev F Gs false lo env)).bind fun l => (partE hi (ev F Gs false hi env)).bind fun h => slD d l h := by rw [ev_sl]
@[simp] theorem e_rev (x) : ev F Gs b (.rev x) env = (ev F Gs true x env).bind revD := by rw [ev_rev]
@[simp] theorem e_mulL (x y) : ev F Gs b (.mulL x y) env = (ev F Gs true x env).bind fun d => (ev F Gs true y env).bind fun e => opMulL d e := by rw [ev_mulL]
@[simp] theorem e_call (j es) : ev F Gs b (.call j es) env = (evs F Gs false es env).bind fun ds => callD F j ds := by rw [ev_call]
@[simp] theorem e_bi (f es) : ev F Gs b (.bi f es) env = (evs F Gs true es env).bind fun ds => biD f ds := by rw [ev_bi]
@[simp] theorem e_isi (x t) : ev F Gs b (.isi x t) env = (ev F Gs true x env).bind fun d => isiD d t := by rw [ev_isi]
@[simp] theorem e_lc (vs tg k its cond elt) : ev F Gs b (.lc vs tg k its cond elt) env = (evs F Gs true its env).bind fun ds => (itemsD k ds).bind fun xs => lcD tg vs (fun e => evc F Gs cond e) (fun e => ev F Gs false elt e) env xs := by rw [ev_lc]
@[simp] theorem es_nil : evs F Gs b [] env = .ok [] := by rw [evs_nil]
@[simp] theorem es_cons (e es) : evs F Gs b (e :: es) env = (ev F Gs b e env).bind fun d => (evs F Gs b es env).bind fun ds => .ok (d :: ds) := by rw [evs_cons]
@[simp] theorem ec_nil : evc F Gs [] env = .ok true := by rw [evc_nil]
@[simp] theorem ec_one (e) : evc F Gs [e] env = (ev F Gs false e env).toB := by rw [evc_one]
@[simp] theorem x_set (i e) : exS F Gs sub (.set i e) env = (ev F Gs false e env).st env fun d => .nx (env.set i (.im d)) := by rw [exS_set]
@[simp] theorem x_own (i e) : exS F Gs sub (.own i e) env = (ev F Gs false e env).st env fun d => .nx (env.set i (.ow d)) := by rw [exS_own]
@[simp] theorem x_par (is es) : exS F Gs sub (.par is es) env = (evs F Gs false es env).st env fun ds => match setsD env is ds with | some e => .nx e | none => .bad := by rw [exS_par] <;> rfl
@[simp] theorem x_asg (tg e) : exS F Gs sub (.asg tg e) env = (ev F Gs false e env).st env fun d => match tg.put d env with | some e => .nx e | none => .bad := by rw [exS_asg] <;> rfl
@[simp] theorem x_frz (i) : exS F Gs sub (.frz i) env = .nx (freezeD env i) := by rw [exS_frz]
@[simp] theorem x_ex (e) : exS F Gs sub (.ex e) env = (ev F Gs false e env).st env fun _ => .nx env := by rw [exS_ex]
@[simp] theorem x_ret (e) : exS F Gs sub (.ret e) env = (ev F Gs false e env).st env fun d => .rt d := by rw [exS_ret]
@[simp] theorem x_retN : exS F Gs sub .retN env = .rt .non := by rw [exS_retN]
@[simp] theorem x_ite (c a b) : exS F Gs sub (.ite c a b) env = (ev F Gs false c env).toB.st env fun k => match k with | true => exSs F Gs sub a env | false => exSs F Gs sub b env := by rw [exS_ite] <;> rfl
@[simp] theorem x_floop (tg k its body) : exS F Gs sub (.floop tg k its body) env = (evs F Gs false its env).st env fun ds => (itemsD k ds).st env fun xs => loopD (fun d e => tg.put d e) (fun e => exSs F Gs sub body e) xs env := by rw [exS_floop]
@[simp] theorem x_wloop (c body) : exS F Gs sub (.wloop c body) env = whileD (fun e => (ev F Gs false c e).toB) (fun e => exSs F Gs sub body e) env := by rw [exS_wloop]
@[simp] theorem x_brk : exS F Gs sub .brk env = .bk env := by rw [exS_brk]
@[simp] theorem x_cont : exS F Gs sub .cont env = .ct env := by rw [exS_cont]
@[simp] theorem x_pass : exS F Gs sub .pass env = .nx env := by rw [exS_pass]
@[simp] theorem x_app (i e) : exS F Gs sub (.app i e) env = appS env i (ev F Gs false e env) := by rw [exS_app]
@[simp] theorem x_sti (i x e) : exS F Gs sub (.sti i x e) env = (ev F Gs false e env).st env fun d => stiS env i (ev F Gs false x env) d := by rw [exS_sti]
@[simp] theorem x_aug (i op e) : exS F Gs sub (.aug i op e) env = (slot false env i).st env fun d => (ev F Gs true e env).st env fun y => (augD op d y).st env fun z => .nx (env.set i (.im z)) := by rw [exS_aug]
@[simp] theorem x_raise (c) : exS F Gs sub (.raise c) env = .exn c env := by rw [exS_raise]
@[simp] theorem x_tryR (body hs) : exS F Gs sub (.tryR body hs) env = (exSs F Gs sub body env).caught sub hs := by rw [exS_tryR]
@[simp] theorem xs_nil : exSs F Gs sub [] env = .nx env := by rw [exSs_nil]
@[simp] theorem xs_cons (s ss) : exSs F Gs sub (s :: ss) env = (exS F Gs sub s env).then fun e => exSs F Gs sub ss e := by rw [exSs_cons]
end
@[simp] theorem not_ok (k : Bool) : (R.ok (DL.D.bl k)).not = .ok (.bl (!k)) := Eq.trans rfl rfl
@[simp] theorem not_exn (c : Nat) : (R.exn c : R DL.D).not = .exn c := Eq.trans rfl rfl
@[simp] theorem toB_ok (k : Bool) : (R.ok (DL.D.bl k)).toB = .ok k := Eq.trans rfl rfl
@[simp] theorem toB_exn (c : Nat) : (R.exn c : R DL.D).toB = .exn c := Eq.trans rfl rfl
@[simp] theorem calm_ok {α : Type} (a : α) : (R.ok a).calm = .ok a := Eq.trans rfl rfl
@[simp] theorem andR_bl (k : Bool) (y : R DL.D) : andR (.ok (.bl k)) y = match k with | true => y | false => .ok (.bl false) := by cases k <;> rfl
@[simp] theorem andR_exn (c : Nat) (y : R DL.D) : andR (.exn c) y = .exn c := Eq.trans rfl rfl
@[simp] theorem orR_bl (k : Bool) (y : R DL.D) : orR (.ok (.bl k)) y = match k with | true => .ok (.bl true) | false => y := by cases k <;> rfl
@[simp] theorem orR_exn (c : Nat) (y : R DL.D) : orR (.exn c) y = .exn c := Eq.trans rfl rfl
@[simp] theorem iteR_bl (k : Bool) (x y : R DL.D) : iteR (.ok (.bl k)) x y = match k with | true => x | false => y := by cases k <;> rfl
@[simp] theorem slot_im0 (b : Bool) (d : DL.D) (r : Envd) : slot b (.im d :: r) 0 = .ok d := Eq.trans rfl rfl
@[simp] theorem slot_ow0 (d : DL.D) (r : Envd) : slot true (.ow d :: r) 0 = .ok d := Eq.trans rfl rfl
@[simp] theorem slot_s (b : Bool) (x : Sl) (r : Envd) (i : Nat) : slot b (x :: r) (i + 1) = slot b r i := by simp [slot]
@[simp] theorem frz_im0 (d : DL.D) (r : Envd) : freezeD (.im d :: r) 0 = .im d :: r := Eq.trans rfl rfl
@[simp] theorem frz_un0 (r : Envd) : freezeD (.un :: r) 0 = .un :: r := Eq.trans rfl rfl
@[simp] theorem frz_ow0 (d : DL.D) (r : Envd) : freezeD (.ow d :: r) 0 = .im d :: r := Eq.trans rfl rfl
@[simp] theorem frz_s (x : Sl) (r : Envd) (i : Nat) : freezeD (x :: r) (i + 1) = x :: freezeD r i := by
  unfold freezeD
  simp only [List.getElem?_cons_succ]
  cases h : r[i]? with
  | none => rfl
  | some y => cases y <;> simp
@[simp] theorem put_nm (i : Nat) (d : DL.D) (env : Envd) : (Tg.nm i).put d env = some (env.set i (.im d)) := by simp only [Tg.put]
@[simp] theorem put_tp (ts : List Tg) (ds : List DL.D) (env : Envd) : (Tg.tp ts).put (.tup ds) env = Tg.puts ts ds env := by simp only [Tg.put]
@[simp] theorem puts_nil (env : Envd) : Tg.puts [] [] env = some env := by simp only [Tg.puts]
@[simp] theorem puts_cons (t : Tg) (ts : List Tg) (d : DL.D) (ds : List DL.D) (env : Envd) : Tg.puts (t :: ts) (d :: ds) env = match t.put d env with | some e => Tg.puts ts ds e | none => none := by simp only [Tg.puts] <;> rfl
@[simp] theorem sets_nil (env : Envd) : setsD env [] [] = some env := Eq.trans rfl rfl
@[simp] theorem sets_cons (env : Envd) (i : Nat) (is : List Nat) (d : DL.D) (ds : List DL.D) : setsD env (i :: is) (d :: ds) = setsD (env.set i (.im d)) is ds := Eq.trans rfl rfl
/-! operators -/
@[simp] theorem o_add (i j : Int) : op2 .add (.int i) (.int j) = .ok (.int (i + j)) := Eq.trans rfl rfl
@[simp] theorem o_sub (i j : Int) : op2 .sub (.int i) (.int j) = .ok (.int (i - j)) := Eq.trans rfl rfl
@[simp] theorem o_mul (i j : Int) : op2 .mul (.int i) (.int j) = guard (mulOk i j) (.ok (.int (i * j))) := Eq.trans rfl rfl
@[simp] theorem o_fdiv (i j : Int) : op2 .fdiv (.int i) (.int j) = guard (divOk j) (.ok (.int (i.fdiv j))) := Eq.trans rfl rfl
@[simp] theorem o_mod (i j : Int) : op2 .mod (.int i) (.int j) = guard (decide (j ≠ 0)) (.ok (.int (i.fmod j))) := Eq.trans rfl rfl
@[simp] theorem o_pow (i j : Int) : op2 .pow (.int i) (.int j) = guard (powOk i j) (.ok (.int (i ^ j.toNat))) := Eq.trans rfl rfl
@[simp] theorem o_lt (i j : Int) : op2 .lt (.int i) (.int j) = .ok (.bl (decide (i < j))) := Eq.trans rfl rfl
@[simp] theorem o_le (i j : Int) : op2 .le (.int i) (.int j) = .ok (.bl (decide (i ≤ j))) := Eq.trans rfl rfl
@[simp] theorem o_gt (i j : Int) : op2 .gt (.int i) (.int j) = .ok (.bl (decide (j < i))) := Eq.trans rfl rfl
@[simp] theorem o_ge (i j : Int) : op2 .ge (.int i) (.int j) = .ok (.bl (decide (j ≤ i))) := Eq.trans rfl rfl
@[simp] theorem eqOk_int (i : Int) : eqOk (.int i) = true := Eq.trans rfl rfl
@[simp] theorem o_eqI (i j : Int) : op2 .eq (.int i) (.int j) = .ok (.bl (decide (i = j))) := by
  show guard (eqOk (.int i) && eqOk (.int j)) (R.ok (DL.D.bl (i == j))) = _
  simp only [eqOk_int, Bool.and_self, guard_true]
  congr 2
@[simp] theorem o_neI (i j : Int) : op2 .ne (.int i) (.int j) = .ok (.bl (decide (i ≠ j))) := by
  show guard (eqOk (.int i) && eqOk (.int j)) (R.ok (DL.D.bl (!(i == j)))) = _
  simp only [eqOk_int, Bool.and_self, guard_true]
  congr 2
  by_cases h : i = j <;> simp [h]
@[simp] theorem o_is (a b : Bool) : op2 .is (.bl a) (.bl b) = .ok (.bl (decide (a = b))) := Eq.trans rfl rfl
@[simp] theorem o_isnot (a b : Bool) : op2 .isnot (.bl a) (.bl b) = .ok (.bl (!decide (a = b))) := Eq.trans rfl rfl
theorem o_eq (x y : DL.D) (hx : eqOk x = true) (hy : eqOk y = true) : op2 .eq x y = .ok (.bl (eqD x y)) := by
  show guard (eqOk x && eqOk y) _ = _
  rw [hx, hy]; rfl
theorem o_ne (x y : DL.D) (hx : eqOk x = true) (hy : eqOk y = true) : op2 .ne x y = .ok (.bl (!eqD x y)) := by
  show guard (eqOk x && eqOk y) _ = _
  rw [hx, hy]; rfl
@[simp] theorem b_abs (i : Int) : biD .abs [.int i] = .ok (.int (if i < 0 then -i else i)) := Eq.trans rfl rfl
@[simp] theorem b_intI (i : Int) : biD .int [.int i] = .ok (.int i) := Eq.trans rfl rfl
@[simp] theorem b_lenL (xs : List DL.D) : biD .len [.lst xs] = .ok (.int xs.length) := Eq.trans rfl rfl
@[simp] theorem b_lenT (xs : List DL.D) : biD .len [.tup xs] = .ok (.int xs.length) := Eq.trans rfl rfl
@[simp] theorem b_lenS (xs : List DL.D) : biD .len [.scr xs] = .ok (.int xs.length) := Eq.trans rfl rfl
@[simp] theorem b_tup (xs : List DL.D) : biD .tuple [.lst xs] = .ok (.tup xs) := Eq.trans rfl rfl
@[simp] theorem b_lst (xs : List DL.D) : biD .list [.tup xs] = .ok (.lst xs) := Eq.trans rfl rfl
@[simp] theorem b_lstL (xs : List DL.D) : biD .list [.lst xs] = .ok (.lst xs) := Eq.trans rfl rfl
@[simp] theorem b_min2 (i j : Int) : biD .min2 [.int i, .int j] = .ok (.int (if j < i then j else i)) := Eq.trans rfl rfl
@[simp] theorem b_max2 (i j : Int) : biD .max2 [.int i, .int j] = .ok (.int (if j > i then j else i)) := Eq.trans rfl rfl
theorem ints_map (ns : List Int) : D.ints? (ns.map DL.D.int) = some ns := by
  induction ns with
  | nil => rfl
  | cons n r ih => simp [D.ints?, ih]
theorem bls_map (ns : List Bool) : D.bls? (ns.map DL.D.bl) = some ns := by
  induction ns with
  | nil => rfl
  | cons n r ih => simp [D.bls?, ih]
@[simp] theorem b_sum (ns : List Int) : biD .sum [.lst (ns.map DL.D.int)] = .ok (.int ns.sum) := by
  show (match D.ints? (ns.map DL.D.int) with | some ns => R.ok (DL.D.int ns.sum) | none => .bad) = _
  rw [ints_map]
@[simp] theorem b_all (ns : List Bool) : biD .all [.lst (ns.map DL.D.bl)] = .ok (.bl (ns.all id)) := by
  show (match D.bls? (ns.map DL.D.bl) with | some bs => R.ok (DL.D.bl (bs.all id)) | none => .bad) = _
  rw [bls_map]
@[simp] theorem b_any (ns : List Bool) : biD .any [.lst (ns.map DL.D.bl)] = .ok (.bl (ns.any id)) := by
  show (match D.bls? (ns.map DL.D.bl) with | some bs => R.ok (DL.D.bl (bs.any id)) | none => .bad) = _
  rw [bls_map]
@[simp] theorem i_seqL (xs : List DL.D) : itemsD .seq [.lst xs] = .ok xs := Eq.trans rfl rfl
@[simp] theorem i_seqT (xs : List DL.D) : itemsD .seq [.tup xs] = .ok xs := Eq.trans rfl rfl
@[simp] theorem i_r1 (j : Int) : itemsD .range1 [.int j] = guard (ivOk j) (.ok (rangeD 0 j.toNat)) := Eq.trans rfl rfl
@[simp] theorem i_r2 (i j : Int) : itemsD .range2 [.int i, .int j] = guard (ivOk i && ivOk j) (.ok (rangeD i (j - i).toNat)) := Eq.trans rfl rfl
@[simp] theorem i_enum (xs : List DL.D) : itemsD .enum [.lst xs] = .ok (enumD 0 xs) := Eq.trans rfl rfl
@[simp] theorem i_zip (xs ys : List DL.D) : itemsD .zip [.lst xs, .lst ys] = .ok (zipD xs ys) := Eq.trans rfl rfl
@[simp] theorem p_non (r : R DL.D) : partE (.lit .non) r = .ok none := Eq.trans rfl rfl
@[simp] theorem p_int (i : Int) (r : R DL.D) : partE (.lit (.int i)) r = r.bind partI := Eq.trans rfl rfl
@[simp] theorem p_var (i : Nat) (r : R DL.D) : partE (.var i) r = r.bind partI := Eq.trans rfl rfl
@[simp] theorem p_bin (op a b) (r : R DL.D) : partE (.bin op a b) r = r.bind partI := Eq.trans rfl rfl
@[simp] theorem p_neg (a) (r : R DL.D) : partE (.neg a) r = r.bind partI := Eq.trans rfl rfl
@[simp] theorem p_bi (a b) (r : R DL.D) : partE (.bi a b) r = r.bind partI := Eq.trans rfl rfl
@[simp] theorem p_idx (a b) (r : R DL.D) : partE (.idx a b) r = r.bind partI := Eq.trans rfl rfl
@[simp] theorem pI (i : Int) : partI (.int i) = .ok (some i) := Eq.trans rfl rfl
@[simp] theorem sl_L (xs : List DL.D) (lo hi : Option Int) : slD (.lst xs) lo hi = .ok (.lst (cutD xs lo hi)) := Eq.trans rfl rfl
@[simp] theorem sl_S (xs : List DL.D) (lo hi : Option Int) : slD (.scr xs) lo hi = .ok (.lst (cutD xs lo hi)) := Eq.trans rfl rfl
@[simp] theorem sl_T (xs : List DL.D) (lo hi : Option Int) : slD (.tup xs) lo hi = .ok (.tup (cutD xs lo hi)) := Eq.trans rfl rfl
@[simp] theorem calm_exn {α : Type} (c : Nat) : (R.exn c : R α).calm = .bad := Eq.trans rfl rfl
theorem atI_natL {α : Type} (xs : List α) (j : Nat) : atI xs (j : Int) = xs[j]? := by
  unfold atI ixN
  rw [if_pos (Int.natCast_nonneg j)]
  by_cases h : j < xs.length
  · have : ((j : Int).toNat < xs.length) := by simpa using h
    simp [h]
  · simp [h]
theorem ix_L {xs : List DL.D} {j : Nat} {d : DL.D} (h : xs[j]? = some d) : ixD (.lst xs) (.int j) = .ok d := by
  show (match atI xs (j : Int) with | some d => R.ok d | none => .bad) = _
  rw [atI_natL, h]
theorem ix_T {xs : List DL.D} {j : Nat} {d : DL.D} (h : xs[j]? = some d) : ixD (.tup xs) (.int j) = .ok d := by
  show (match atI xs (j : Int) with | some d => R.ok d | none => .bad) = _
  rw [atI_natL, h]
@[simp] theorem ix_T0 (a : DL.D) (r : List DL.D) : ixD (.tup (a :: r)) (.int 0) = .ok a := ix_T (j := 0) rfl
@[simp] theorem ix_T1 (a b : DL.D) (r : List DL.D) : ixD (.tup (a :: b :: r)) (.int 1) = .ok b := ix_T (j := 1) rfl
@[simp] theorem ix_T2 (a b c : DL.D) (r : List DL.D) : ixD (.tup (a :: b :: c :: r)) (.int 2) = .ok c := ix_T (j := 2) rfl
@[simp] theorem ix_T3 (a b c d : DL.D) (r : List DL.D) : ixD (.tup (a :: b :: c :: d :: r)) (.int 3) = .ok d := ix_T (j := 3) rfl
theorem atI_int {α : Type} (xs : List α) {i : Int} (h : 0 ≤ i) : atI xs i = xs[i.toNat]? := by
  have := atI_natL xs i.toNat
  rw [Int.toNat_of_nonneg h] at this
  exact this
theorem ix_Li {xs : List DL.D} {i : Int} {d : DL.D} (h0 : 0 ≤ i) (h : xs[i.toNat]? = some d) : ixD (.lst xs) (.int i) = .ok d := by
  show (match atI xs i with | some d => R.ok d | none => .bad) = _
  rw [atI_int xs h0, h]
theorem ix_Ti {xs : List DL.D} {i : Int} {d : DL.D} (h0 : 0 ≤ i) (h : xs[i.toNat]? = some d) : ixD (.tup xs) (.int i) = .ok d := by
  show (match atI xs i with | some d => R.ok d | none => .bad) = _
  rw [atI_int xs h0, h]
/-! slices -/
theorem cut_to (xs : List DL.D) (n : Nat) : cutD xs none (some (n : Int)) = xs.take n := by
  unfold cutD
  rw [show HT.sIx xs.length xs.length (some (n : Int)) = min n xs.length from HT.sIx_nat xs.length xs.length n, HT.sIx_none]
  simp [List.take_eq_take_iff]
theorem cut_from (xs : List DL.D) (n : Nat) : cutD xs (some (n : Int)) none = xs.drop n := by
  unfold cutD
  rw [show HT.sIx xs.length 0 (some (n : Int)) = min n xs.length from HT.sIx_nat xs.length 0 n, HT.sIx_none]
  rw [List.take_of_length_le (by simp)]
  by_cases h : n ≤ xs.length
  · rw [Nat.min_eq_left h]
  · rw [Nat.min_eq_right (by omega), List.drop_length, List.drop_of_length_le (by omega)]
/-! guards -/
theorem mul_l {i j : Int} (h : i.natAbs < 2 ^ 64) : mulOk i j = true := by unfold mulOk; simp only [Bool.or_eq_true, decide_eq_true_eq]; exact .inl (.inl h)
theorem mul_r {i j : Int} (h : j.natAbs < 2 ^ 64) : mulOk i j = true := by unfold mulOk; simp only [Bool.or_eq_true, decide_eq_true_eq]; exact .inl (.inr h)
theorem div_ok {j : Int} (h : j ≠ 0) (h2 : j.natAbs < 1073741824) : divOk j = true := by unfold divOk; simp only [Bool.and_eq_true, Bool.or_eq_true, decide_eq_true_eq]; exact ⟨h, .inl h2⟩
theorem iv_ok {i : Int} (h1 : -(2 ^ 62) ≤ i) (h2 : i < 2 ^ 62) : ivOk i = true := by unfold ivOk; simp only [Bool.and_eq_true, decide_eq_true_eq]; exact ⟨h1, h2⟩
/-! loops -/
theorem loop_nil (put : DL.D → Envd → Option Envd) (body : Envd → DL.T) (env : Envd) : loopD put body [] env = .nx env := rfl
theorem loop_ixAt {put : DL.D → Envd → Option Envd} {body : Envd → DL.T} (P : Nat → Envd → Prop) : ∀ (xs : List DL.D) (i : Nat), (∀ (j : Nat) d env, xs[j]? = some d → P (i + j) env → ∃ e1 e2, put d env = some e1 ∧ (body e1 = .nx e2 ∨ body e1 = .ct e2) ∧ P (i + j + 1) e2) →
    ∀ env, P i env → ∃ e', loopD put body xs env = .nx e' ∧ P (i + xs.length) e'
  | [], i, _, env, h => ⟨env, rfl, h⟩
  | d :: r, i, hs, env, h => by
    obtain ⟨e1, e2, h1, h2, h3⟩ := hs 0 d env rfl h
    obtain ⟨e', q1, q2⟩ := loop_ixAt P r (i + 1) (fun j d env hj hp => by
      have := hs (j + 1) d env (by simpa using hj) (by rw [show i + (j + 1) = i + 1 + j from by omega]; exact hp)
      rw [show i + (j + 1) + 1 = i + 1 + j + 1 from by omega] at this
      exact this) e2 h3
    refine ⟨e', ?_, by rw [show i + (d :: r).length = i + 1 + r.length from by simp; omega]; exact q2⟩
    rw [loopD_cons, h1]
    rcases h2 with h2 | h2 <;> simp only [h2] <;> exact q1
/-- a loop by an invariant -/
theorem loop_ix {put : DL.D → Envd → Option Envd} {body : Envd → DL.T} (P : Nat → Envd → Prop) (xs : List DL.D) (hs : ∀ (j : Nat) d env, xs[j]? = some d → P j env → ∃ e1 e2, put d env = some e1 ∧ (body e1 = .nx e2 ∨ body e1 = .ct e2) ∧ P (j + 1) e2) (env : Envd) (h : P 0 env) :
    ∃ e', loopD put body xs env = .nx e' ∧ P xs.length e' := by
  obtain ⟨e', h1, h2⟩ := loop_ixAt P xs 0 (fun j d env hj hp => by
    have := hs j d env hj (by simpa using hp)
    simpa using this) env h
  exact ⟨e', h1, by simpa using h2⟩
/-- the same, for one name -/
theorem loop_nm {i : Nat} {body : Envd → DL.T} (P : Nat → Envd → Prop) (xs : List DL.D) (hs : ∀ (j : Nat) d env, xs[j]? = some d → P j env → ∃ e2, (body (env.set i (.im d)) = .nx e2 ∨ body (env.set i (.im d)) = .ct e2) ∧ P (j + 1) e2) (env : Envd) (h : P 0 env) :
    ∃ e', loopD (fun d e => some (e.set i (.im d))) body xs env = .nx e' ∧ P xs.length e' :=
  loop_ix P xs (fun j d env hj hp => by
    obtain ⟨e2, h1, h2⟩ := hs j d env hj hp
    exact ⟨_, e2, rfl, h1, h2⟩) env h
theorem range_get {lo : Int} {n j : Nat} {d : DL.D} (h : (rangeD lo n)[j]? = some d) : j < n ∧ d = .int (lo + j) := by
  unfold rangeD at h
  rw [List.getElem?_map] at h
  by_cases hj : j < n
  · rw [List.getElem?_range hj] at h
    exact ⟨hj, (Option.some.inj h).symm⟩
  · rw [List.getElem?_eq_none (by simp; omega)] at h
    cases h
theorem range_get0 {n j : Nat} {d : DL.D} (h : (rangeD 0 n)[j]? = some d) : j < n ∧ d = .int j := by
  obtain ⟨h1, h2⟩ := range_get h
  rw [Int.zero_add] at h2
  exact ⟨h1, h2⟩
@[simp] theorem range_len (lo : Int) (n : Nat) : (rangeD lo n).length = n := by simp [rangeD]
section
variable {F : Fns} {Gs : List DL.D} {sub : Nat → Nat → Option Bool} {body : List DL.S} {np n : Nat} {args : List DL.D}
theorem run_rt {d : DL.D} (h : args.length = np) (e : exSs F Gs sub body (args.map Sl.im ++ List.replicate (n - args.length) .un) = .rt d) : runD F Gs sub body np n args = .ok d := by
  unfold runD; rw [decide_eq_true h]; simp only [e]
theorem run_nx {env : Envd} (h : args.length = np) (e : exSs F Gs sub body (args.map Sl.im ++ List.replicate (n - args.length) .un) = .nx env) : runD F Gs sub body np n args = .ok .non := by
  unfold runD; rw [decide_eq_true h]; simp only [e]
theorem run_ex {env : Envd} {c : Nat} (h : args.length = np) (e : exSs F Gs sub body (args.map Sl.im ++ List.replicate (n - args.length) .un) = .exn c env) : runD F Gs sub body np n args = .exn c := by
  unfold runD; rw [decide_eq_true h]; simp only [e]
end
end DL
namespace DL
open PySem PySem.Spec PyProof.Rows L2 

/-! ### the draws, in every law -/
def drB0 : List DL.S := [.ite (.bin .gt (.var 5) (.lit (.int 0))) [.app 2 (.bin .mod (.bi .int [(.var 5)]) (.lit (.int 1009))), .set 5 (.bin .fdiv (.var 5) (.lit (.int 1009)))] []]
def drB1 : List DL.S := [.set 5 (.bi .abs [(.var 4)]), .set 3 (.bin .mod (.bi .int [(.bin .add (.bin .add (.bin .mul (.var 3) (.lit (.int 48271))) (.var 5)) (.lit (.int 11)))]) (.lit (.int 2147483647))), .ite (.bin .ge (.var 5) (.bin .pow (.lit (.int 10)) (.lit (.int 18)))) [.floop (.nm 6) .range1 [(.lit (.int 60))] drB0] [.app 2 (.bin .mod (.bin .fdiv (.bi .int [(.bin .add (.bin .mul (.var 3) (.lit (.int 16807))) (.lit (.int 5)))]) (.lit (.int 3))) (.lit (.int 65521)))]]
def drB2 : List DL.S := [.ite (.bin .lt (.bi .len [(.var 2)]) (.var 1)) [.set 3 (.bin .mod (.bi .int [(.bin .add (.bin .add (.bin .mul (.var 3) (.lit (.int 69621))) (.var 6)) (.lit (.int 1)))]) (.lit (.int 2147483647))), .app 2 (.bin .mod (.bin .fdiv (.bi .int [(.var 3)]) (.lit (.int 7))) (.lit (.int 65521)))] []]
def irDraws : List DL.S := [.own 2 (.lst []), .set 3 (.lit (.int 7)), .floop (.nm 4) .seq [(.sl (.var 0) (.lit .non) (.lit (.int 63)))] drB1, .floop (.nm 6) .range1 [(.var 1)] drB2, .ret (.sl (.var 2) (.lit .non) (.var 1))]

def drI (L : Nat) (a b : DL.D) (env : Envd) : Prop := ∃ (ds : List Int) (seed : Int) (x y z : Sl), env = [.im a, .im b, .ow (.lst (ds.map DL.D.int)), .im (.int seed), x, y, z] ∧ ds.length ≤ L ∧ ∀ d ∈ ds, 0 ≤ d ∧ d < 65521
theorem fmod_lt (i : Int) {j : Int} (h : 0 < j) : 0 ≤ i.fmod j ∧ i.fmod j < j := ⟨Int.fmod_nonneg_of_pos i h, Int.fmod_lt_of_pos i h⟩
theorem snoc_ok {ds : List Int} {d : Int} (h : ∀ d ∈ ds, 0 ≤ d ∧ d < 65521) (hd : 0 ≤ d ∧ d < 65521) : ∀ x ∈ ds ++ [d], 0 ≤ x ∧ x < 65521 := fun x hx => by
  rcases List.mem_append.mp hx with q | q
  · exact h x q
  · simp at q; subst q; exact hd
theorem snoc_map (ds : List Int) (d : Int) : ds.map DL.D.int ++ [.int d] = (ds ++ [d]).map DL.D.int := by simp
section
variable (F : Fns) (Gs : List DL.D) (sub : Nat → Nat → Option Bool)
/-- the inner loop -/
theorem draws_in (L : Nat) (env : Envd) (a b : DL.D) (hL : L + 60 < SZ) (h : ∃ (ds : List Int) (seed n : Int) (x z : Sl), env = [.im a, .im b, .ow (.lst (ds.map DL.D.int)), .im (.int seed), x, .im (.int n), z] ∧ ds.length ≤ L ∧ ∀ d ∈ ds, 0 ≤ d ∧ d < 65521) :
      ∃ e', loopD (fun d e => some (e.set 6 (.im d))) (fun e => exSs F Gs sub drB0 e) (rangeD 0 60) env = .nx e' ∧ drI (L + 60) a b e' := by
  have step := loop_nm (i := 6) (body := fun e => exSs F Gs sub drB0 e)
    (fun k env => ∃ (ds : List Int) (seed n : Int) (x z : Sl), env = [.im a, .im b, .ow (.lst (ds.map DL.D.int)), .im (.int seed), x, .im (.int n), z] ∧ ds.length ≤ L + k ∧ ∀ d ∈ ds, 0 ≤ d ∧ d < 65521) (rangeD 0 60) (by
    rintro j d env hj ⟨ds, seed, n, x, z, rfl, h2, h3⟩
    obtain ⟨hj2, rfl⟩ := range_get0 hj
    have hlen : ds.length < SZ := by omega
    by_cases hn : 0 < n
    · refine ⟨_, .inl ?_, ds ++ [n.fmod 1009], seed, n.fdiv 1009, x, .im (.int j), rfl, by simp; omega, snoc_ok h3 ⟨(fmod_lt n (by decide)).1, by have := (fmod_lt n (j := 1009) (by decide)).2; omega⟩⟩
      simp [drB0, hn, appS, hlen, div_ok]
    · refine ⟨_, .inl ?_, ds, seed, n, x, .im (.int j), rfl, by omega, h3⟩
      simp [drB0, hn]) env h
  obtain ⟨e', q1, ds, seed, n, x, z, rfl, h2, h3⟩ := step
  exact ⟨_, q1, ds, seed, x, .im (.int n), z, rfl, by simpa using h2, h3⟩
/-- the cells -/
theorem draws_out (ns : List Int) (hl : ns.length ≤ 63) (a b : DL.D) (env : Envd) (h : drI 0 a b env) :
    ∃ e', loopD (fun d e => some (e.set 4 (.im d))) (fun e => exSs F Gs sub drB1 e) (ns.map DL.D.int) env = .nx e' ∧ drI (60 * ns.length) a b e' := by
  have step := loop_nm (i := 4) (body := fun e => exSs F Gs sub drB1 e) (fun k env => drI (60 * k) a b env) (ns.map DL.D.int) (by
      rintro j d env hj ⟨ds, seed, x, y, z, rfl, h2, h3⟩
      have hj2 : j < ns.length := by
        have := (List.getElem?_eq_some_iff.mp hj).1
        simpa using this
      obtain ⟨c, rfl⟩ : ∃ c, d = DL.D.int c := by
        rw [List.getElem?_map, List.getElem?_eq_getElem hj2] at hj
        exact ⟨_, (Option.some.inj hj).symm⟩
      have big : 60 * j + 60 < SZ := by simp only [SZ]; omega
      have hlen : ds.length < SZ := by omega
      obtain ⟨n, hn⟩ : ∃ n, n = (if c < 0 then -c else c) := ⟨_, rfl⟩
      by_cases hc : (1000000000000000000 : Int) ≤ n
      · obtain ⟨e', q1, q2⟩ := draws_in F Gs sub (60 * j) [.im a, .im b, .ow (.lst (ds.map DL.D.int)), .im (.int ((seed * 48271 + n + 11).fmod 2147483647)), .im (.int c), .im (.int n), z] a b big ⟨ds, _, _, _, _, rfl, h2, h3⟩
        refine ⟨e', .inl ?_, q2⟩
        simp [drB1, ← hn, mul_r, hc, powOk, ivOk, q1]
      · refine ⟨_, .inl ?_, ds ++ [(((seed * 48271 + n + 11).fmod 2147483647 * 16807 + 5).fdiv 3).fmod 65521], (seed * 48271 + n + 11).fmod 2147483647, .im (.int c), .im (.int n), z, rfl, by simp; omega, snoc_ok h3 (fmod_lt _ (by decide))⟩
        simp [drB1, ← hn, mul_r, hc, powOk, div_ok, appS, hlen]) env h
  simpa using step
theorem draws_s1 (a : DL.D) (many : Nat) (ds : List Int) (seed : Int) (x y : Sl) (j : Nat) (hlen : ds.length < SZ) (hn : ds.length < many) :
    ∃ v t : Int, (0 ≤ v ∧ v < 65521) ∧ exSs F Gs sub drB2 [.im a, .im (.int many), .ow (.lst (ds.map DL.D.int)), .im (.int seed), x, y, .im (.int j)] = .nx [.im a, .im (.int many), .ow (.lst ((ds ++ [v]).map DL.D.int)), .im (.int t), x, y, .im (.int j)] := by
  have h := fmod_lt (((seed * 69621 + (j : Int) + 1).fmod 2147483647).fdiv 7) (j := 65521) (by decide)
  refine ⟨(((seed * 69621 + (j : Int) + 1).fmod 2147483647).fdiv 7).fmod 65521, (seed * 69621 + (j : Int) + 1).fmod 2147483647, h, ?_⟩
  simp [drB2, hn, appS, hlen, div_ok, mul_r]
theorem draws_s2 (a : DL.D) (many : Nat) (ds : List Int) (seed : Int) (x y z : Sl) (hn : ¬ ds.length < many) :
    exSs F Gs sub drB2 [.im a, .im (.int many), .ow (.lst (ds.map DL.D.int)), .im (.int seed), x, y, z] = .nx [.im a, .im (.int many), .ow (.lst (ds.map DL.D.int)), .im (.int seed), x, y, z] := by
  simp [drB2, hn]
def drM (L : Nat) (a : DL.D) (many k : Nat) (env : Envd) : Prop := ∃ (ds : List Int) (seed : Int) (x y z : Sl), env = [.im a, .im (.int many), .ow (.lst (ds.map DL.D.int)), .im (.int seed), x, y, z] ∧ ds.length ≤ L + k ∧ k ≤ ds.length ∧ ∀ d ∈ ds, 0 ≤ d ∧ d < 65521
theorem draws_s (L many : Nat) (hm : L + many < SZ) (a : DL.D) (j : Nat) (d : DL.D) (env : Envd) (hj : (rangeD 0 many)[j]? = some d) (h : drM L a many j env) :
    ∃ e2, (exSs F Gs sub drB2 (env.set 6 (.im d)) = .nx e2 ∨ exSs F Gs sub drB2 (env.set 6 (.im d)) = .ct e2) ∧ drM L a many (j + 1) e2 := by
  obtain ⟨ds, seed, x, y, z, rfl, h2, h4, h3⟩ := h
  obtain ⟨hj2, rfl⟩ := range_get0 hj
  have hlen : ds.length < SZ := Nat.lt_of_le_of_lt (Nat.le_trans h2 (Nat.add_le_add_left (Nat.le_of_lt hj2) L)) hm
  clear hm hj
  simp only [List.set_cons_succ, List.set_cons_zero]
  rcases Nat.lt_or_ge ds.length many with hn | hn
  · obtain ⟨v, t, hv, q⟩ := draws_s1 F Gs sub a many ds seed x y j hlen hn
    refine ⟨_, .inl q, ds ++ [v], t, x, y, .im (.int j), rfl, ?_, ?_, snoc_ok h3 hv⟩
    · rw [List.length_append]; simp only [List.length_cons, List.length_nil]; omega
    · rw [List.length_append]; simp only [List.length_cons, List.length_nil]; omega
  · have q := draws_s2 F Gs sub a many ds seed x y (.im (.int j)) (Nat.not_lt.mpr hn)
    exact ⟨_, .inl q, ds, seed, x, y, .im (.int j), rfl, by omega, by omega, h3⟩
/-- to the full -/
theorem draws_more (L many : Nat) (hm : L + many < SZ) (a : DL.D) (env : Envd) (h : drI L a (.int many) env) :
    ∃ (ds : List Int) (y z w : Sl) (seed : Int), loopD (fun d e => some (e.set 6 (.im d))) (fun e => exSs F Gs sub drB2 e) (rangeD 0 many) env = .nx [.im a, .im (.int many), .ow (.lst (ds.map DL.D.int)), .im (.int seed), y, z, w] ∧ many ≤ ds.length ∧ ∀ d ∈ ds, 0 ≤ d ∧ d < 65521 := by
  obtain ⟨ds0, seed0, x0, y0, z0, e0, h20, h30⟩ := h
  have step := loop_nm (i := 6) (body := fun e => exSs F Gs sub drB2 e) (drM L a many) (rangeD 0 many) (fun j d env hj hp => draws_s F Gs sub L many hm a j d env hj hp) env ⟨ds0, seed0, x0, y0, z0, e0, by omega, by omega, h30⟩
  obtain ⟨e', q1, ds, seed, x, y, z, e1, h2, h4, h3⟩ := step
  rw [e1] at q1
  rw [range_len] at h4
  exact ⟨ds, _, _, _, _, q1, h4, h3⟩
theorem draws_iv (many : Nat) (hm : many ≤ 1000) : ivOk (many : Int) = true := by
  have h : (many : Int) ≤ 1000 := Int.ofNat_le.mpr hm
  exact iv_ok (Int.le_trans (by decide) (Int.natCast_nonneg many)) (Int.lt_of_le_of_lt h (by decide))
theorem draws_sz (many : Nat) (hm : many ≤ 1000) : 3780 + many < SZ := by simp only [SZ]; omega
theorem draws_ok (ns : List Int) (hl : ns.length ≤ 63) (many : Nat) (hm : many ≤ 1000) :
    ∃ ds : List Int, ds.length = many ∧ (∀ d ∈ ds, 0 ≤ d ∧ d < 65521) ∧ runD F Gs sub irDraws 2 7 [scrD ns, .int many] = .ok (.lst (ds.map .int)) := by
  have cut : cutD (ns.map DL.D.int) none (some 63) = ns.map DL.D.int := by
    rw [show (63 : Int) = ((63 : Nat) : Int) from rfl, cut_to, List.take_of_length_le (by simpa using hl)]
  obtain ⟨e1, q1, r1⟩ := draws_out F Gs sub ns hl (scrD ns) (.int many) [.im (scrD ns), .im (.int many), .ow (.lst []), .im (.int 7), .un, .un, .un] ⟨[], 7, .un, .un, .un, rfl, by simp, by simp⟩
  have r1' : drI 3780 (scrD ns) (.int many) e1 := by
    obtain ⟨ds, seed, x, y, z, e, h2, h3⟩ := r1
    exact ⟨ds, seed, x, y, z, e, by omega, h3⟩
  obtain ⟨ds, y, z, w, seed, q2, h4, h3⟩ := draws_more F Gs sub 3780 many (draws_sz many hm) (scrD ns) e1 r1'
  have iv : ivOk (many : Int) = true := draws_iv many hm
  obtain ⟨ds1, seed1, x1, y1, z1, e1e, _, _⟩ := r1'
  refine ⟨ds.take many, by simp; omega, fun d hd => h3 d (List.mem_of_mem_take hd), ?_⟩
  subst e1e
  simp only [scrD] at q1 q2
  refine run_rt rfl ?_
  show exSs F Gs sub irDraws [.im (.scr (ns.map DL.D.int)), .im (.int many), .un, .un, .un, .un, .un] = _
  simp [irDraws, cut, q1, iv, q2, cut_to, List.map_take]
end
end DL
namespace DL
open PySem PySem.Spec PyProof.Rows L2 

/-! ### more plain rules: comprehensions, loops, the greatest common divisor -/
theorem comp_nil (put : DL.D → Option Envd) (cond : Envd → R Bool) (elt : Envd → R DL.D) : compD put cond elt [] = .ok [] := Eq.trans rfl rfl
theorem comp_cons (put : DL.D → Option Envd) (cond : Envd → R Bool) (elt : Envd → R DL.D) (d : DL.D) (r : List DL.D) : compD put cond elt (d :: r) = match put d with
    | none => .bad
    | some env => (cond env).calm.bind fun b =>
      if b then (elt env).calm.bind fun y => (compD put cond elt r).bind fun ys => .ok (y :: ys) else compD put cond elt r := Eq.trans rfl rfl
/-- one element for each -/
theorem comp_map {put : DL.D → Option Envd} {cond : Envd → R Bool} {elt : Envd → R DL.D} (f : DL.D → DL.D) : ∀ (xs : List DL.D), (∀ d ∈ xs, ∃ e, put d = some e ∧ cond e = .ok true ∧ elt e = .ok (f d)) → compD put cond elt xs = .ok (xs.map f)
  | [], _ => rfl
  | d :: r, h => by
    obtain ⟨e, h1, h2, h3⟩ := h d List.mem_cons_self
    rw [comp_cons, h1]
    simp only [h2, h3, calm_ok, R.bind_ok, if_true, comp_map f r fun d hd => h d (List.mem_cons_of_mem _ hd), List.map_cons]
/-- those that are picked -/
theorem comp_filter {put : DL.D → Option Envd} {cond : Envd → R Bool} {elt : Envd → R DL.D} (c : DL.D → Bool) (f : DL.D → DL.D) : ∀ (xs : List DL.D), (∀ d ∈ xs, ∃ e, put d = some e ∧ cond e = .ok (c d) ∧ (c d = true → elt e = .ok (f d))) → compD put cond elt xs = .ok ((xs.filter c).map f)
  | [], _ => rfl
  | d :: r, h => by
    obtain ⟨e, h1, h2, h3⟩ := h d List.mem_cons_self
    rw [comp_cons, h1]
    have ih := comp_filter c f r fun d hd => h d (List.mem_cons_of_mem _ hd)
    cases q : c d with
    | true => simp only [h2, q, h3 q, calm_ok, R.bind_ok, if_true, ih, List.filter_cons_of_pos q, List.map_cons]
    | false => simp [h2, q, ih]
theorem lc_map {t : Tg} {vs : List Nat} {rc : Envd → R Bool} {re : Envd → R DL.D} {env : Envd} (f : DL.D → DL.D) (xs : List DL.D) (h : ∀ d ∈ xs, ∃ e, t.put d (wipeD env vs) = some e ∧ rc e = .ok true ∧ re e = .ok (f d)) (hl : xs.length ≤ SZ) :
    lcD t vs rc re env xs = .ok (.lst (xs.map f)) := by
  unfold lcD
  rw [comp_map f xs h, R.bind_ok, List.length_map, decide_eq_true hl, guard_true]
theorem lc_filter {t : Tg} {vs : List Nat} {rc : Envd → R Bool} {re : Envd → R DL.D} {env : Envd} (c : DL.D → Bool) (f : DL.D → DL.D) (xs : List DL.D) (h : ∀ d ∈ xs, ∃ e, t.put d (wipeD env vs) = some e ∧ rc e = .ok (c d) ∧ (c d = true → re e = .ok (f d))) (hl : xs.length ≤ SZ) :
    lcD t vs rc re env xs = .ok (.lst ((xs.filter c).map f)) := by
  unfold lcD
  rw [comp_filter c f xs h, R.bind_ok, decide_eq_true (by rw [List.length_map]; exact Nat.le_trans (List.length_filter_le ..) hl), guard_true]
@[simp] theorem wipe_nil (env : Envd) : wipeD env [] = env := Eq.trans rfl rfl
@[simp] theorem wipe_cons (env : Envd) (v : Nat) (vs : List Nat) : wipeD env (v :: vs) = (wipeD env vs).set v .un := Eq.trans rfl rfl
theorem all_true (xs : List DL.D) (h : ∀ d ∈ xs, d = .bl true) : biD .all [.lst xs] = .ok (.bl true) := by
  have e : xs = (List.replicate xs.length true).map DL.D.bl := by
    rw [List.map_replicate]
    exact List.eq_replicate_iff.mpr ⟨rfl, h⟩
  rw [e, b_all]
  simp
theorem any_false (xs : List DL.D) (h : ∀ d ∈ xs, d = .bl false) : biD .any [.lst xs] = .ok (.bl false) := by
  have e : xs = (List.replicate xs.length false).map DL.D.bl := by
    rw [List.map_replicate]
    exact List.eq_replicate_iff.mpr ⟨rfl, h⟩
  rw [e, b_any]
  simp
/-- a loop whose turns change nothing but its own name -/
theorem loop_same {i : Nat} {body : Envd → DL.T} (env : Envd) (xs : List DL.D) (h : ∀ d ∈ xs, ∀ x : Sl, ∃ y, body ((env.set i x).set i (.im d)) = .nx (env.set i y)) : ∀ x : Sl, ∃ y, loopD (fun d e => some (e.set i (.im d))) body xs (env.set i x) = .nx (env.set i y) := by
  induction xs with
  | nil => exact fun x => ⟨x, rfl⟩
  | cons d r ih =>
    intro x
    obtain ⟨y, hy⟩ := h d List.mem_cons_self x
    obtain ⟨z, hz⟩ := ih (fun d hd => h d (List.mem_cons_of_mem _ hd)) y
    refine ⟨z, ?_⟩
    rw [loopD_cons]
    simp only [hy]
    exact hz
theorem abs_nat (a : Int) : (if a < 0 then -a else a) = (a.natAbs : Int) := by split <;> omega
theorem fmod_nat (x y : Nat) : (x : Int).fmod (y : Int) = ((x % y : Nat) : Int) := by
  rw [Int.fmod_eq_emod_of_nonneg _ (Int.natCast_nonneg y)]; rfl
section
variable (F : Fns) (Gs : List DL.D) (sub : Nat → Nat → Option Bool)
def gcW : DL.E := .bin .gt (.var 3) (.lit (.int 0))
def gcB : List DL.S := [.par [2, 3] [(.var 3), (.bin .mod (.var 2) (.var 3))]]
theorem gcd_loop (a b : Sl) (r : Envd) : ∀ (n x y : Nat), y ≤ n → whileD (fun e => (ev F Gs false gcW e).toB) (fun e => exSs F Gs sub gcB e) (a :: b :: .im (.int x) :: .im (.int y) :: r) = .nx (a :: b :: .im (.int (Nat.gcd x y)) :: .im (.int 0) :: r)
  | n, x, 0, _ => by
    rw [whileD_eq]
    simp [gcW]
  | 0, x, y + 1, h => by omega
  | n + 1, x, y + 1, h => by
    rw [whileD_eq]
    have hlt : x % (y + 1) < y + 1 := Nat.mod_lt x (Nat.succ_pos y)
    have ih := gcd_loop a b r n (y + 1) (x % (y + 1)) (by omega)
    have e : (x : Int).fmod ((y : Int) + 1) = ((x % (y + 1) : Nat) : Int) := by
      have := fmod_nat x (y + 1)
      simpa using this
    have c : ev F Gs false gcW (a :: b :: .im (.int x) :: .im (.int ((y + 1 : Nat) : Int)) :: r) = .ok (.bl true) := by
      simp [gcW]
    have s : exSs F Gs sub gcB (a :: b :: .im (.int x) :: .im (.int ((y + 1 : Nat) : Int)) :: r) = .nx (a :: b :: .im (.int ((y + 1 : Nat) : Int)) :: .im (.int ((x % (y + 1) : Nat) : Int)) :: r) := by
      have nz : ¬ ((y : Int) + 1 = 0) := by omega
      simp [gcB, nz, e]
    rw [c, toB_ok]
    simp only [s]
    rw [ih, Nat.gcd_comm x (y + 1), Nat.gcd_rec (y + 1) x, Nat.gcd_comm]
end
end DL
namespace K24
open PySem PySem.Spec PyProof.Rows L2 DL
def topS (i : Nat) : Stmt := PySem.Challenge.pw_lightwrit_k24_fractions.main.body.getD i (.Pass ⟨0, 0, 0, 0⟩)
def gls : List Str := ["NOUGHT", "ONE"]
def Gs : List DL.D := [.tup [.int 0, .int 1], .tup [.int 1, .int 1]]
def cls : List Str := ["LightError", "BadNumber"]
def bts : List Str := ["abs", "all", "any", "bool", "int", "isinstance", "len", "range", "tuple"]
def tab : List (List Bool) := [[true, false], [true, true]]
def sub : Nat → Nat → Option Bool := subT tab
/-! 0: is_integer -/
def ir0 : List DL.S := [.ret (.and (.isi (.var 0) (.b "int")) (.not (.isi (.var 0) (.b "bool"))))]
def fd0 : FD := ⟨"is_integer", ["value"], ["value"], ir0⟩
abbrev T0 : Tab := ⟨[], gls, cls, bts⟩
noncomputable def Φ0 : List DL.D → R DL.D := runD [] Gs sub ir0 1 1
theorem chk0 : fd0.chk T0 300 (topS 6) = true := by decide +kernel
/-! 1: _divisor -/
def w1_0 : DL.E := (.bin .gt (.var 3) (.lit (.int 0)))
def b1_0 : List DL.S := [.par [2, 3] [(.var 3), (.bin .mod (.var 2) (.var 3))]]
def ir1 : List DL.S := [.par [2, 3] [(.bi .abs [(.var 0)]), (.bi .abs [(.var 1)])], .wloop w1_0 b1_0, .ret (.var 2)]
def fd1 : FD := ⟨"_divisor", ["first", "second", "one", "two"], ["first", "second"], ir1⟩
abbrev T1 : Tab := ⟨["is_integer"], gls, cls, bts⟩
noncomputable def Φ1 : List DL.D → R DL.D := runD [Φ0] Gs sub ir1 2 4
theorem chk1 : fd1.chk T1 300 (topS 7) = true := by decide +kernel
/-! 2: is_ratio -/
def ir2 : List DL.S := [.ite (.or (.not (.isi (.var 0) (.b "tuple"))) (.or (.bin .ne (.bi .len [(.var 0)]) (.lit (.int 2))) (.or (.not (.call 0 [(.idx (.var 0) (.lit (.int 0)))])) (.not (.call 0 [(.idx (.var 0) (.lit (.int 1)))]))))) [.ret (.lit (.bl false))] [], .ret (.and (.bin .gt (.idx (.var 0) (.lit (.int 1))) (.lit (.int 0))) (.bin .eq (.call 1 [(.idx (.var 0) (.lit (.int 0))), (.idx (.var 0) (.lit (.int 1)))]) (.lit (.int 1))))]
def fd2 : FD := ⟨"is_ratio", ["value"], ["value"], ir2⟩
abbrev T2 : Tab := ⟨["is_integer", "_divisor"], gls, cls, bts⟩
noncomputable def Φ2 : List DL.D → R DL.D := runD [Φ0, Φ1] Gs sub ir2 1 1
theorem chk2 : fd2.chk T2 300 (topS 8) = true := by decide +kernel
/-! 3: _checked -/
def ir3 : List DL.S := [.ite (.or (.not (.call 2 [(.var 0)])) (.not (.call 2 [(.var 1)]))) [.raise 1] []]
def fd3 : FD := ⟨"_checked", ["first", "second"], ["first", "second"], ir3⟩
abbrev T3 : Tab := ⟨["is_integer", "_divisor", "is_ratio"], gls, cls, bts⟩
noncomputable def Φ3 : List DL.D → R DL.D := runD [Φ0, Φ1, Φ2] Gs sub ir3 2 2
theorem chk3 : fd3.chk T3 300 (topS 9) = true := by decide +kernel
/-! 4: _lowest -/
def ir4 : List DL.S := [.set 2 (.call 1 [(.var 0), (.var 1)]), .ret (.ite (.bin .gt (.var 1) (.lit (.int 0))) (.tup [(.bin .fdiv (.var 0) (.var 2)), (.bin .fdiv (.var 1) (.var 2))]) (.tup [(.bin .sub (.lit (.int 0)) (.bin .fdiv (.var 0) (.var 2))), (.bin .sub (.lit (.int 0)) (.bin .fdiv (.var 1) (.var 2)))]))]
def fd4 : FD := ⟨"_lowest", ["above", "below", "by"], ["above", "below"], ir4⟩
abbrev T4 : Tab := ⟨["is_integer", "_divisor", "is_ratio", "_checked"], gls, cls, bts⟩
noncomputable def Φ4 : List DL.D → R DL.D := runD [Φ0, Φ1, Φ2, Φ3] Gs sub ir4 2 3
theorem chk4 : fd4.chk T4 300 (topS 10) = true := by decide +kernel
/-! 5: ratio -/
def ir5 : List DL.S := [.ite (.or (.not (.call 0 [(.var 0)])) (.or (.not (.call 0 [(.var 1)])) (.bin .eq (.var 1) (.lit (.int 0))))) [.raise 1] [], .ret (.call 4 [(.var 0), (.var 1)])]
def fd5 : FD := ⟨"ratio", ["above", "below"], ["above", "below"], ir5⟩
abbrev T5 : Tab := ⟨["is_integer", "_divisor", "is_ratio", "_checked", "_lowest"], gls, cls, bts⟩
noncomputable def Φ5 : List DL.D → R DL.D := runD [Φ0, Φ1, Φ2, Φ3, Φ4] Gs sub ir5 2 2
theorem chk5 : fd5.chk T5 300 (topS 11) = true := by decide +kernel
/-! 6: plus -/
def ir6 : List DL.S := [.ex (.call 3 [(.var 0), (.var 1)]), .ret (.call 4 [(.bin .add (.bin .mul (.idx (.var 0) (.lit (.int 0))) (.idx (.var 1) (.lit (.int 1)))) (.bin .mul (.idx (.var 1) (.lit (.int 0))) (.idx (.var 0) (.lit (.int 1))))), (.bin .mul (.idx (.var 0) (.lit (.int 1))) (.idx (.var 1) (.lit (.int 1))))])]
def fd6 : FD := ⟨"plus", ["first", "second"], ["first", "second"], ir6⟩
abbrev T6 : Tab := ⟨["is_integer", "_divisor", "is_ratio", "_checked", "_lowest", "ratio"], gls, cls, bts⟩
noncomputable def Φ6 : List DL.D → R DL.D := runD [Φ0, Φ1, Φ2, Φ3, Φ4, Φ5] Gs sub ir6 2 2
theorem chk6 : fd6.chk T6 300 (topS 12) = true := by decide +kernel
/-! 7: minus -/
def ir7 : List DL.S := [.ex (.call 3 [(.var 0), (.var 1)]), .ret (.call 4 [(.bin .sub (.bin .mul (.idx (.var 0) (.lit (.int 0))) (.idx (.var 1) (.lit (.int 1)))) (.bin .mul (.idx (.var 1) (.lit (.int 0))) (.idx (.var 0) (.lit (.int 1))))), (.bin .mul (.idx (.var 0) (.lit (.int 1))) (.idx (.var 1) (.lit (.int 1))))])]
def fd7 : FD := ⟨"minus", ["first", "second"], ["first", "second"], ir7⟩
abbrev T7 : Tab := ⟨["is_integer", "_divisor", "is_ratio", "_checked", "_lowest", "ratio", "plus"], gls, cls, bts⟩
noncomputable def Φ7 : List DL.D → R DL.D := runD [Φ0, Φ1, Φ2, Φ3, Φ4, Φ5, Φ6] Gs sub ir7 2 2
theorem chk7 : fd7.chk T7 300 (topS 13) = true := by decide +kernel
/-! 8: times -/
def ir8 : List DL.S := [.ex (.call 3 [(.var 0), (.var 1)]), .ret (.call 4 [(.bin .mul (.idx (.var 0) (.lit (.int 0))) (.idx (.var 1) (.lit (.int 0)))), (.bin .mul (.idx (.var 0) (.lit (.int 1))) (.idx (.var 1) (.lit (.int 1))))])]
def fd8 : FD := ⟨"times", ["first", "second"], ["first", "second"], ir8⟩
abbrev T8 : Tab := ⟨["is_integer", "_divisor", "is_ratio", "_checked", "_lowest", "ratio", "plus", "minus"], gls, cls, bts⟩
noncomputable def Φ8 : List DL.D → R DL.D := runD [Φ0, Φ1, Φ2, Φ3, Φ4, Φ5, Φ6, Φ7] Gs sub ir8 2 2
theorem chk8 : fd8.chk T8 300 (topS 14) = true := by decide +kernel
/-! 9: over -/
def ir9 : List DL.S := [.ex (.call 3 [(.var 0), (.var 1)]), .ite (.bin .eq (.idx (.var 1) (.lit (.int 0))) (.lit (.int 0))) [.raise 1] [], .ret (.call 4 [(.bin .mul (.idx (.var 0) (.lit (.int 0))) (.idx (.var 1) (.lit (.int 1)))), (.bin .mul (.idx (.var 0) (.lit (.int 1))) (.idx (.var 1) (.lit (.int 0))))])]
def fd9 : FD := ⟨"over", ["first", "second"], ["first", "second"], ir9⟩
abbrev T9 : Tab := ⟨["is_integer", "_divisor", "is_ratio", "_checked", "_lowest", "ratio", "plus", "minus", "times"], gls, cls, bts⟩
noncomputable def Φ9 : List DL.D → R DL.D := runD [Φ0, Φ1, Φ2, Φ3, Φ4, Φ5, Φ6, Φ7, Φ8] Gs sub ir9 2 2
theorem chk9 : fd9.chk T9 300 (topS 15) = true := by decide +kernel
/-! 10: less -/
def ir10 : List DL.S := [.ex (.call 3 [(.var 0), (.var 1)]), .ret (.bin .lt (.bin .mul (.idx (.var 0) (.lit (.int 0))) (.idx (.var 1) (.lit (.int 1)))) (.bin .mul (.idx (.var 1) (.lit (.int 0))) (.idx (.var 0) (.lit (.int 1)))))]
def fd10 : FD := ⟨"less", ["first", "second"], ["first", "second"], ir10⟩
abbrev T10 : Tab := ⟨["is_integer", "_divisor", "is_ratio", "_checked", "_lowest", "ratio", "plus", "minus", "times", "over"], gls, cls, bts⟩
noncomputable def Φ10 : List DL.D → R DL.D := runD [Φ0, Φ1, Φ2, Φ3, Φ4, Φ5, Φ6, Φ7, Φ8, Φ9] Gs sub ir10 2 2
theorem chk10 : fd10.chk T10 300 (topS 16) = true := by decide +kernel
/-! 11: _law_draws -/
abbrev ir11 : List DL.S := irDraws
def fd11 : FD := ⟨"_law_draws", ["script", "many", "draws", "seed", "cell", "number", "k"], ["script", "many"], ir11⟩
abbrev T11 : Tab := ⟨["is_integer", "_divisor", "is_ratio", "_checked", "_lowest", "ratio", "plus", "minus", "times", "over", "less"], gls, cls, bts⟩
noncomputable def Φ11 : List DL.D → R DL.D := runD [Φ0, Φ1, Φ2, Φ3, Φ4, Φ5, Φ6, Φ7, Φ8, Φ9, Φ10] Gs sub ir11 2 7
theorem chk11 : fd11.chk T11 300 (topS 18) = true := by decide +kernel
/-! 12: _law_low -/
def w12_0 : DL.E := (.bin .gt (.var 3) (.lit (.int 0)))
def b12_0 : List DL.S := [.par [2, 3] [(.var 3), (.bin .mod (.var 2) (.var 3))]]
def ir12 : List DL.S := [.par [2, 3] [(.bi .abs [(.var 0)]), (.bi .abs [(.var 1)])], .wloop w12_0 b12_0, .set 4 (.ite (.bin .gt (.var 1) (.lit (.int 0))) (.lit (.int 1)) (.neg (.lit (.int 1)))), .ret (.tup [(.bin .fdiv (.bin .mul (.var 4) (.var 0)) (.var 2)), (.bin .fdiv (.bin .mul (.var 4) (.var 1)) (.var 2))])]
def fd12 : FD := ⟨"_law_low", ["above", "below", "one", "two", "sign"], ["above", "below"], ir12⟩
abbrev T12 : Tab := ⟨["is_integer", "_divisor", "is_ratio", "_checked", "_lowest", "ratio", "plus", "minus", "times", "over", "less", "_law_draws"], gls, cls, bts⟩
noncomputable def Φ12 : List DL.D → R DL.D := runD [Φ0, Φ1, Φ2, Φ3, Φ4, Φ5, Φ6, Φ7, Φ8, Φ9, Φ10, Φ11] Gs sub ir12 2 5
theorem chk12 : fd12.chk T12 300 (topS 19) = true := by decide +kernel
/-! 13: _law_plus -/
def ir13 : List DL.S := [.ret (.call 12 [(.bin .add (.bin .mul (.idx (.var 0) (.lit (.int 0))) (.idx (.var 1) (.lit (.int 1)))) (.bin .mul (.idx (.var 1) (.lit (.int 0))) (.idx (.var 0) (.lit (.int 1))))), (.bin .mul (.idx (.var 0) (.lit (.int 1))) (.idx (.var 1) (.lit (.int 1))))])]
def fd13 : FD := ⟨"_law_plus", ["one", "two"], ["one", "two"], ir13⟩
abbrev T13 : Tab := ⟨["is_integer", "_divisor", "is_ratio", "_checked", "_lowest", "ratio", "plus", "minus", "times", "over", "less", "_law_draws", "_law_low"], gls, cls, bts⟩
noncomputable def Φ13 : List DL.D → R DL.D := runD [Φ0, Φ1, Φ2, Φ3, Φ4, Φ5, Φ6, Φ7, Φ8, Φ9, Φ10, Φ11, Φ12] Gs sub ir13 2 2
theorem chk13 : fd13.chk T13 300 (topS 20) = true := by decide +kernel
/-! 14: _law_times -/
def ir14 : List DL.S := [.ret (.call 12 [(.bin .mul (.idx (.var 0) (.lit (.int 0))) (.idx (.var 1) (.lit (.int 0)))), (.bin .mul (.idx (.var 0) (.lit (.int 1))) (.idx (.var 1) (.lit (.int 1))))])]
def fd14 : FD := ⟨"_law_times", ["one", "two"], ["one", "two"], ir14⟩
abbrev T14 : Tab := ⟨["is_integer", "_divisor", "is_ratio", "_checked", "_lowest", "ratio", "plus", "minus", "times", "over", "less", "_law_draws", "_law_low", "_law_plus"], gls, cls, bts⟩
noncomputable def Φ14 : List DL.D → R DL.D := runD [Φ0, Φ1, Φ2, Φ3, Φ4, Φ5, Φ6, Φ7, Φ8, Φ9, Φ10, Φ11, Φ12, Φ13] Gs sub ir14 2 2
theorem chk14 : fd14.chk T14 300 (topS 21) = true := by decide +kernel
/-! 15: _law_less -/
def ir15 : List DL.S := [.ret (.bin .lt (.bin .mul (.idx (.var 0) (.lit (.int 0))) (.idx (.var 1) (.lit (.int 1)))) (.bin .mul (.idx (.var 1) (.lit (.int 0))) (.idx (.var 0) (.lit (.int 1)))))]
def fd15 : FD := ⟨"_law_less", ["one", "two"], ["one", "two"], ir15⟩
abbrev T15 : Tab := ⟨["is_integer", "_divisor", "is_ratio", "_checked", "_lowest", "ratio", "plus", "minus", "times", "over", "less", "_law_draws", "_law_low", "_law_plus", "_law_times"], gls, cls, bts⟩
noncomputable def Φ15 : List DL.D → R DL.D := runD [Φ0, Φ1, Φ2, Φ3, Φ4, Φ5, Φ6, Φ7, Φ8, Φ9, Φ10, Φ11, Φ12, Φ13, Φ14] Gs sub ir15 2 2
theorem chk15 : fd15.chk T15 300 (topS 22) = true := by decide +kernel
/-! 16: _law_drawn -/
def ir16 : List DL.S := [.set 2 (.idx (.lst [(.lit (.int 3)), (.lit (.int 9)), (.lit (.int 60)), (.bin .pow (.lit (.int 10)) (.lit (.int 7)))]) (.bin .mod (.bi .int [(.idx (.var 0) (.var 1))]) (.lit (.int 4)))), .ret (.call 12 [(.bin .sub (.bin .mod (.bi .int [(.idx (.var 0) (.bin .add (.var 1) (.lit (.int 1))))]) (.bin .add (.bin .mul (.lit (.int 2)) (.var 2)) (.lit (.int 1)))) (.var 2)), (.bin .add (.lit (.int 1)) (.bin .mod (.bi .int [(.idx (.var 0) (.bin .add (.var 1) (.lit (.int 2))))]) (.var 2)))])]
def fd16 : FD := ⟨"_law_drawn", ["draws", "at", "wide"], ["draws", "at"], ir16⟩
abbrev T16 : Tab := ⟨["is_integer", "_divisor", "is_ratio", "_checked", "_lowest", "ratio", "plus", "minus", "times", "over", "less", "_law_draws", "_law_low", "_law_plus", "_law_times", "_law_less"], gls, cls, bts⟩
noncomputable def Φ16 : List DL.D → R DL.D := runD [Φ0, Φ1, Φ2, Φ3, Φ4, Φ5, Φ6, Φ7, Φ8, Φ9, Φ10, Φ11, Φ12, Φ13, Φ14, Φ15] Gs sub ir16 2 3
theorem chk16 : fd16.chk T16 300 (topS 23) = true := by decide +kernel
/-! 17: _law_error -/
def ir17 : List DL.S := [.tryR [.ite (.bin .eq (.var 0) (.lit (.int 0))) [.ex (.call 5 [(.var 1), (.var 2)])] [.ite (.bin .eq (.var 0) (.lit (.int 1))) [.ex (.call 6 [(.var 1), (.var 2)])] [.ite (.bin .eq (.var 0) (.lit (.int 2))) [.ex (.call 7 [(.var 1), (.var 2)])] [.ite (.bin .eq (.var 0) (.lit (.int 3))) [.ex (.call 8 [(.var 1), (.var 2)])] [.ite (.bin .eq (.var 0) (.lit (.int 4))) [.ex (.call 9 [(.var 1), (.var 2)])] [.ex (.call 10 [(.var 1), (.var 2)])]]]]]] [(1, (.bl true))], .ret (.lit (.bl false))]
def fd17 : FD := ⟨"_law_error", ["call", "one", "two"], ["call", "one", "two"], ir17⟩
abbrev T17 : Tab := ⟨["is_integer", "_divisor", "is_ratio", "_checked", "_lowest", "ratio", "plus", "minus", "times", "over", "less", "_law_draws", "_law_low", "_law_plus", "_law_times", "_law_less", "_law_drawn"], gls, cls, bts⟩
noncomputable def Φ17 : List DL.D → R DL.D := runD [Φ0, Φ1, Φ2, Φ3, Φ4, Φ5, Φ6, Φ7, Φ8, Φ9, Φ10, Φ11, Φ12, Φ13, Φ14, Φ15, Φ16] Gs sub ir17 3 3
theorem chk17 : fd17.chk T17 300 (topS 28) = true := by decide +kernel
/-! 18: law -/
def e18_0 : DL.E := (.call 2 [(.var 6)])
def e18_1 : DL.E := (.and (.call 17 [(.var 7), (.var 6), (.var 2)]) (.call 17 [(.var 7), (.var 2), (.var 6)]))
def b18_0 : List DL.S := [.ite (.not (.bi .all [(.lc [7] (.nm 7) .range2 [(.lit (.int 1)), (.lit (.int 6))] [] e18_1)])) [.ret (.lit (.bl false))] []]
def e18_2 : DL.E := (.call 17 [(.lit (.int 0)), (.idx (.var 8) (.lit (.int 0))), (.idx (.var 8) (.lit (.int 1)))])
def ir18 : List DL.S := [.set 1 (.call 11 [(.var 0), (.lit (.int 20))]), .asg (.tp [(.nm 2), (.nm 3)]) (.tup [(.call 16 [(.var 1), (.lit (.int 0))]), (.call 16 [(.var 1), (.lit (.int 3))])]), .ite (.or (.not (.call 2 [(.var 2)])) (.or (.not (.call 2 [(.var 3)])) (.or (.bin .ne (.glob 0) (.tup [(.lit (.int 0)), (.lit (.int 1))])) (.bin .ne (.glob 1) (.tup [(.lit (.int 1)), (.lit (.int 1))]))))) [.ret (.lit (.bl false))] [], .ite (.bin .ne (.tup [(.call 6 [(.var 2), (.var 3)]), (.call 8 [(.var 2), (.var 3)]), (.call 7 [(.var 2), (.var 3)])]) (.tup [(.call 13 [(.var 2), (.var 3)]), (.call 14 [(.var 2), (.var 3)]), (.call 13 [(.var 2), (.tup [(.bin .sub (.lit (.int 0)) (.idx (.var 3) (.lit (.int 0)))), (.idx (.var 3) (.lit (.int 1)))])])])) [.ret (.lit (.bl false))] [], .ite (.or (.and (.bin .isnot (.call 10 [(.var 2), (.var 3)]) (.lit (.bl true))) (.call 15 [(.var 2), (.var 3)])) (.and (.bin .isnot (.call 10 [(.var 2), (.var 3)]) (.lit (.bl false))) (.not (.call 15 [(.var 2), (.var 3)])))) [.ret (.lit (.bl false))] [], .ite (.and (.bin .ne (.idx (.var 3) (.lit (.int 0))) (.lit (.int 0))) (.or (.bin .ne (.call 9 [(.var 2), (.var 3)]) (.call 12 [(.bin .mul (.idx (.var 2) (.lit (.int 0))) (.idx (.var 3) (.lit (.int 1)))), (.bin .mul (.idx (.var 2) (.lit (.int 1))) (.idx (.var 3) (.lit (.int 0))))])) (.bin .ne (.call 8 [(.call 9 [(.var 2), (.var 3)]), (.var 3)]) (.var 2)))) [.ret (.lit (.bl false))] [], .set 4 (.bin .add (.lit (.int 1)) (.bin .mod (.bi .int [(.idx (.var 1) (.lit (.int 6)))]) (.lit (.int 900)))), .ite (.or (.bin .ne (.call 5 [(.bin .mul (.idx (.var 2) (.lit (.int 0))) (.var 4)), (.bin .mul (.idx (.var 2) (.lit (.int 1))) (.var 4))]) (.var 2)) (.or (.bin .ne (.call 5 [(.bin .sub (.lit (.int 0)) (.bin .mul (.idx (.var 2) (.lit (.int 0))) (.var 4))), (.bin .sub (.lit (.int 0)) (.bin .mul (.idx (.var 2) (.lit (.int 1))) (.var 4)))]) (.var 2)) (.bin .ne (.call 5 [(.idx (.var 2) (.lit (.int 0))), (.bin .sub (.lit (.int 0)) (.idx (.var 2) (.lit (.int 1))))]) (.tup [(.bin .sub (.lit (.int 0)) (.idx (.var 2) (.lit (.int 0)))), (.idx (.var 2) (.lit (.int 1)))])))) [.ret (.lit (.bl false))] [], .set 5 (.lst [(.lit .non), (.lit (.int 5)), (.tup [(.lit (.int 1))]), (.lst [(.lit (.int 1)), (.lit (.int 2))]), (.tup [(.lit (.int 2)), (.lit (.int 4))]), (.tup [(.lit (.int 1)), (.lit (.int 0))]), (.tup [(.lit (.int 1)), (.neg (.lit (.int 2)))]), (.tup [(.lit (.bl true)), (.lit (.int 1))]), (.tup [(.lit (.int 1)), (.lit (.bl true))]), (.tup [(.lit (.str "1")), (.lit (.int 1))]), (.tup [(.lit (.int 0)), (.lit (.int 2))])]), .ite (.bi .any [(.lc [6] (.nm 6) .seq [(.var 5)] [] e18_0)]) [.ret (.lit (.bl false))] [], .floop (.nm 6) .seq [(.var 5)] b18_0, .ret (.and (.call 17 [(.lit (.int 4)), (.var 2), (.tup [(.lit (.int 0)), (.lit (.int 1))])]) (.bi .all [(.lc [8] (.nm 8) .seq [(.lst [(.tup [(.lit (.int 1)), (.lit (.int 0))]), (.tup [(.lit (.bl true)), (.lit (.int 1))]), (.tup [(.lit (.int 1)), (.lit .non)]), (.tup [(.lit (.str "1")), (.lit (.int 2))]), (.tup [(.lit (.int 1)), (.lit (.bl true))])])] [] e18_2)]))]
def fd18 : FD := ⟨"law", ["script", "draws", "one", "two", "many", "bad", "value", "call", "pair"], ["script"], ir18⟩
abbrev T18 : Tab := ⟨["is_integer", "_divisor", "is_ratio", "_checked", "_lowest", "ratio", "plus", "minus", "times", "over", "less", "_law_draws", "_law_low", "_law_plus", "_law_times", "_law_less", "_law_drawn", "_law_error"], gls, cls, bts⟩
noncomputable def Φ18 : List DL.D → R DL.D := runD [Φ0, Φ1, Φ2, Φ3, Φ4, Φ5, Φ6, Φ7, Φ8, Φ9, Φ10, Φ11, Φ12, Φ13, Φ14, Φ15, Φ16, Φ17] Gs sub ir18 1 9
theorem chk18 : fd18.chk T18 300 (topS 29) = true := by decide +kernel
/-- what is left: the law, in plain words -/
def Law : Prop := ∀ ns : List Int, ns.length ≤ 63 → (∀ z ∈ ns, Builtin.Int.intBits z ≤ 1048576) → Φ18 [scrD ns] = .ok (.bl true)
theorem law_mk (L : Law) {P : Program} {w : World} {K : PySem.W.Frag} {h : Heap} {mg : Str → Option Value} {fa : Addr} (X : K.In h) (G : h.Ns mainGlobals mg) (hfa : mg "law" = some (.ref fa)) {C0 C1 : Addr} {f0 f1 f2 f3 f4 f5 f6 f7 f8 f9 f10 f11 f12 f13 f14 f15 f16 f17 f18 : Addr} {d0 d1 d2 d3 d4 d5 d6 d7 d8 d9 d10 d11 d12 d13 d14 d15 d16 d17 d18 : FuncData}
    (c0 : PySem.W.nsIn K mainGlobals "LightError" = some (some (.ref C0))) (c1 : PySem.W.nsIn K mainGlobals "BadNumber" = some (some (.ref C1))) (F0 : FnF K "is_integer" (topS 6) f0 d0 ["value"]) (F1 : FnF K "_divisor" (topS 7) f1 d1 ["first", "second"]) (F2 : FnF K "is_ratio" (topS 8) f2 d2 ["value"]) (F3 : FnF K "_checked" (topS 9) f3 d3 ["first", "second"]) (F4 : FnF K "_lowest" (topS 10) f4 d4 ["above", "below"]) (F5 : FnF K "ratio" (topS 11) f5 d5 ["above", "below"]) (F6 : FnF K "plus" (topS 12) f6 d6 ["first", "second"]) (F7 : FnF K "minus" (topS 13) f7 d7 ["first", "second"]) (F8 : FnF K "times" (topS 14) f8 d8 ["first", "second"]) (F9 : FnF K "over" (topS 15) f9 d9 ["first", "second"]) (F10 : FnF K "less" (topS 16) f10 d10 ["first", "second"]) (F11 : FnF K "_law_draws" (topS 18) f11 d11 ["script", "many"]) (F12 : FnF K "_law_low" (topS 19) f12 d12 ["above", "below"]) (F13 : FnF K "_law_plus" (topS 20) f13 d13 ["one", "two"]) (F14 : FnF K "_law_times" (topS 21) f14 d14 ["one", "two"]) (F15 : FnF K "_law_less" (topS 22) f15 d15 ["one", "two"]) (F16 : FnF K "_law_drawn" (topS 23) f16 d16 ["draws", "at"]) (F17 : FnF K "_law_error" (topS 28) f17 d17 ["call", "one", "two"]) (F18 : FnF K "law" (topS 29) f18 d18 ["script"])
    (g : glK K gls Gs = true) (b : btK K bts = true) (c : clsKs K cls [C0, C1] = true) (s : subK K [C0, C1] tab = true) :
    ∃ fd : FuncData, (∀ (s : Shared) (u : Value), BindsTo s fd ⟨[u], []⟩ [("script", u)]) ∧ ∀ base : Heap, K.In base → base.Ns mainGlobals mg → FnOk P w K mg base (L2.CX P w) 19 fa fd ["script"] (spLaw K) := by
  have e := hfa.symm.trans (PySem.W.mg_of X G F18.a)
  cases e
  refine ⟨d18, fun s u => .of_eq (F18.ba [u] rfl), fun base _ _ => ?_⟩
  have co : ∀ (k : Nat) (fs : List Str), COk (gw P w K mg base [C0, C1] k) ⟨fs, gls, cls, bts⟩ (subT tab) := fun k fs => cok_of X G c s rfl
  have g0 : GOk (gw P w K mg base [C0, C1] 0) T0 [] Gs := gok_nil X G g b
  have g1 : GOk (gw P w K mg base [C0, C1] 1) T1 [Φ0] Gs := gok_step X G (fd := fd0) g0 (co 0 _) chk0 F0
  have g2 : GOk (gw P w K mg base [C0, C1] 2) T2 [Φ0, Φ1] Gs := gok_step X G (fd := fd1) g1 (co 1 _) chk1 F1
  have g3 : GOk (gw P w K mg base [C0, C1] 3) T3 [Φ0, Φ1, Φ2] Gs := gok_step X G (fd := fd2) g2 (co 2 _) chk2 F2
  have g4 : GOk (gw P w K mg base [C0, C1] 4) T4 [Φ0, Φ1, Φ2, Φ3] Gs := gok_step X G (fd := fd3) g3 (co 3 _) chk3 F3
  have g5 : GOk (gw P w K mg base [C0, C1] 5) T5 [Φ0, Φ1, Φ2, Φ3, Φ4] Gs := gok_step X G (fd := fd4) g4 (co 4 _) chk4 F4
  have g6 : GOk (gw P w K mg base [C0, C1] 6) T6 [Φ0, Φ1, Φ2, Φ3, Φ4, Φ5] Gs := gok_step X G (fd := fd5) g5 (co 5 _) chk5 F5
  have g7 : GOk (gw P w K mg base [C0, C1] 7) T7 [Φ0, Φ1, Φ2, Φ3, Φ4, Φ5, Φ6] Gs := gok_step X G (fd := fd6) g6 (co 6 _) chk6 F6
  have g8 : GOk (gw P w K mg base [C0, C1] 8) T8 [Φ0, Φ1, Φ2, Φ3, Φ4, Φ5, Φ6, Φ7] Gs := gok_step X G (fd := fd7) g7 (co 7 _) chk7 F7
  have g9 : GOk (gw P w K mg base [C0, C1] 9) T9 [Φ0, Φ1, Φ2, Φ3, Φ4, Φ5, Φ6, Φ7, Φ8] Gs := gok_step X G (fd := fd8) g8 (co 8 _) chk8 F8
  have g10 : GOk (gw P w K mg base [C0, C1] 10) T10 [Φ0, Φ1, Φ2, Φ3, Φ4, Φ5, Φ6, Φ7, Φ8, Φ9] Gs := gok_step X G (fd := fd9) g9 (co 9 _) chk9 F9
  have g11 : GOk (gw P w K mg base [C0, C1] 11) T11 [Φ0, Φ1, Φ2, Φ3, Φ4, Φ5, Φ6, Φ7, Φ8, Φ9, Φ10] Gs := gok_step X G (fd := fd10) g10 (co 10 _) chk10 F10
  have g12 : GOk (gw P w K mg base [C0, C1] 12) T12 [Φ0, Φ1, Φ2, Φ3, Φ4, Φ5, Φ6, Φ7, Φ8, Φ9, Φ10, Φ11] Gs := gok_step X G (fd := fd11) g11 (co 11 _) chk11 F11
  have g13 : GOk (gw P w K mg base [C0, C1] 13) T13 [Φ0, Φ1, Φ2, Φ3, Φ4, Φ5, Φ6, Φ7, Φ8, Φ9, Φ10, Φ11, Φ12] Gs := gok_step X G (fd := fd12) g12 (co 12 _) chk12 F12
  have g14 : GOk (gw P w K mg base [C0, C1] 14) T14 [Φ0, Φ1, Φ2, Φ3, Φ4, Φ5, Φ6, Φ7, Φ8, Φ9, Φ10, Φ11, Φ12, Φ13] Gs := gok_step X G (fd := fd13) g13 (co 13 _) chk13 F13
  have g15 : GOk (gw P w K mg base [C0, C1] 15) T15 [Φ0, Φ1, Φ2, Φ3, Φ4, Φ5, Φ6, Φ7, Φ8, Φ9, Φ10, Φ11, Φ12, Φ13, Φ14] Gs := gok_step X G (fd := fd14) g14 (co 14 _) chk14 F14
  have g16 : GOk (gw P w K mg base [C0, C1] 16) T16 [Φ0, Φ1, Φ2, Φ3, Φ4, Φ5, Φ6, Φ7, Φ8, Φ9, Φ10, Φ11, Φ12, Φ13, Φ14, Φ15] Gs := gok_step X G (fd := fd15) g15 (co 15 _) chk15 F15
  have g17 : GOk (gw P w K mg base [C0, C1] 17) T17 [Φ0, Φ1, Φ2, Φ3, Φ4, Φ5, Φ6, Φ7, Φ8, Φ9, Φ10, Φ11, Φ12, Φ13, Φ14, Φ15, Φ16] Gs := gok_step X G (fd := fd16) g16 (co 16 _) chk16 F16
  have g18 : GOk (gw P w K mg base [C0, C1] 18) T18 [Φ0, Φ1, Φ2, Φ3, Φ4, Φ5, Φ6, Φ7, Φ8, Φ9, Φ10, Φ11, Φ12, Φ13, Φ14, Φ15, Φ16, Φ17] Gs := gok_step X G (fd := fd17) g17 (co 17 _) chk17 F17
  exact law_fn X G (fd := fd18) g18 (co 18 _) chk18 F18 rfl L
end K24
namespace K24
open PySem PySem.Spec PyProof.Rows L2 DL

/-! ### plain arithmetic -/
def nf (a b : Int) : Int × Int := if 0 < b then (a.fdiv (Int.gcd a b), b.fdiv (Int.gcd a b)) else (-(a.fdiv (Int.gcd a b)), -(b.fdiv (Int.gcd a b)))
theorem gcd_ne {a b : Int} (h : b ≠ 0) : (0 : Int) < Int.gcd a b := by
  have : 0 < Int.gcd a b := Nat.pos_of_ne_zero fun z => h (Int.gcd_eq_zero_iff.mp z).2
  omega
theorem fdiv_mul {a g : Int} (hg : 0 < g) (h : g ∣ a) : a.fdiv g * g = a := by
  obtain ⟨k, rfl⟩ := h
  rw [Int.mul_fdiv_cancel_left _ (by omega), Int.mul_comm]
theorem neg_fdiv {a g : Int} (hg : 0 < g) (h : g ∣ a) : (-a).fdiv g = -(a.fdiv g) := by
  obtain ⟨k, rfl⟩ := h
  rw [Int.mul_fdiv_cancel_left _ (by omega), ← Int.mul_neg, Int.mul_fdiv_cancel_left _ (by omega)]
theorem gcd_fdiv {a b : Int} (h : b ≠ 0) : Int.gcd (a.fdiv (Int.gcd a b)) (b.fdiv (Int.gcd a b)) = 1 := by
  have hg := gcd_ne (a := a) h
  have e1 := fdiv_mul hg (Int.gcd_dvd_left ..) (a := a)
  have e2 := fdiv_mul hg (Int.gcd_dvd_right ..) (a := b)
  have e3 : Int.gcd (a.fdiv (Int.gcd a b) * (Int.gcd a b : Int)) (b.fdiv (Int.gcd a b) * (Int.gcd a b : Int)) = Int.gcd (a.fdiv (Int.gcd a b)) (b.fdiv (Int.gcd a b)) * (Int.gcd a b) := by
    rw [Int.gcd_mul_right]; simp
  rw [e1, e2] at e3
  have h0 : 0 < Int.gcd a b := by omega
  have : 1 * Int.gcd a b = Int.gcd (a.fdiv (Int.gcd a b)) (b.fdiv (Int.gcd a b)) * Int.gcd a b := by rw [Nat.one_mul]; exact e3
  exact (Nat.eq_of_mul_eq_mul_right h0 this).symm
theorem fdiv_abs {a g : Int} (hg : 0 < g) (h : g ∣ a) : (a.fdiv g).natAbs ≤ a.natAbs := by
  have e := fdiv_mul hg h
  have : (a.fdiv g).natAbs * g.natAbs = a.natAbs := by rw [← Int.natAbs_mul, e]
  have hg' : 1 ≤ g.natAbs := by omega
  calc (a.fdiv g).natAbs = (a.fdiv g).natAbs * 1 := (Nat.mul_one _).symm
    _ ≤ (a.fdiv g).natAbs * g.natAbs := Nat.mul_le_mul_left _ hg'
    _ = a.natAbs := this
structure Fr (p q : Int) : Prop where
  pos : 0 < q
  cop : Int.gcd p q = 1
theorem nf_spec {a b : Int} (h : b ≠ 0) : Fr (nf a b).1 (nf a b).2 ∧ (nf a b).1 * b = a * (nf a b).2 ∧ (nf a b).1.natAbs ≤ a.natAbs ∧ (nf a b).2.natAbs ≤ b.natAbs := by
  have hg := gcd_ne (a := a) h
  have d1 : (Int.gcd a b : Int) ∣ a := Int.gcd_dvd_left ..
  have d2 : (Int.gcd a b : Int) ∣ b := Int.gcd_dvd_right ..
  have e1 := fdiv_mul hg d1
  have e2 := fdiv_mul hg d2
  have c := gcd_fdiv (a := a) h
  have b1 := fdiv_abs hg d1
  have b2 := fdiv_abs hg d2
  unfold nf
  generalize (Int.gcd a b : Int) = g at *
  generalize a.fdiv g = x at *
  generalize b.fdiv g = y at *
  subst e1
  have cross : x * b = x * g * y := by rw [← e2, Int.mul_comm y g, ← Int.mul_assoc]
  split
  · rename_i hb
    refine ⟨⟨?_, c⟩, cross, b1, b2⟩
    rcases Int.lt_or_le 0 y with z | z
    · exact z
    · have := Int.mul_nonneg_of_nonpos_of_nonpos z (Int.neg_nonpos_of_nonneg (Int.le_of_lt hg))
      rw [Int.mul_neg] at this
      omega
  · rename_i hb
    refine ⟨⟨?_, by simpa using c⟩, ?_, by simpa using b1, by simpa using b2⟩
    · show 0 < -y
      rcases Int.lt_or_le y 0 with z | z
      · omega
      · have := Int.mul_nonneg z (Int.le_of_lt hg)
        have : b = 0 := by omega
        exact absurd this h
    · show -x * b = x * g * -y
      rw [Int.neg_mul, cross, Int.mul_neg]
theorem fr_uniq {p q p' q' : Int} (h : Fr p q) (h' : Fr p' q') (e : p * q' = p' * q) : p = p' ∧ q = q' := by
  have n : p.natAbs * q'.natAbs = p'.natAbs * q.natAbs := by rw [← Int.natAbs_mul, ← Int.natAbs_mul, e]
  have c1 : Nat.Coprime q.natAbs p.natAbs := by have := h.cop; unfold Int.gcd at this; exact (Nat.coprime_comm.mp this)
  have c2 : Nat.Coprime q'.natAbs p'.natAbs := by have := h'.cop; unfold Int.gcd at this; exact (Nat.coprime_comm.mp this)
  have d1 : q.natAbs ∣ q'.natAbs := c1.dvd_of_dvd_mul_left (by rw [n]; exact Nat.dvd_mul_left ..)
  have d2 : q'.natAbs ∣ q.natAbs := c2.dvd_of_dvd_mul_left (by rw [← n]; exact Nat.dvd_mul_left ..)
  have e1 := Nat.dvd_antisymm d1 d2
  have p1 := h.pos
  have p2 := h'.pos
  have eq : q = q' := by omega
  subst eq
  exact ⟨Int.eq_of_mul_eq_mul_right (by omega) e, rfl⟩
theorem nf_uniq {a b p q : Int} (hb : b ≠ 0) (h : Fr p q) (e : p * b = a * q) : nf a b = (p, q) := by
  obtain ⟨f, c, _, _⟩ := nf_spec (a := a) hb
  have x : (nf a b).1 * q = p * (nf a b).2 := by
    apply Int.eq_of_mul_eq_mul_right hb
    calc (nf a b).1 * q * b = (nf a b).1 * b * q := by rw [Int.mul_right_comm]
      _ = a * (nf a b).2 * q := by rw [c]
      _ = a * q * (nf a b).2 := by rw [Int.mul_right_comm]
      _ = p * b * (nf a b).2 := by rw [e]
      _ = p * (nf a b).2 * b := by rw [Int.mul_right_comm]
  obtain ⟨e1, e2⟩ := fr_uniq f h x
  exact Prod.ext e1 e2

/-! ### the defs -/
abbrev fr (p q : Int) : DL.D := .tup [.int p, .int q]
abbrev frP (x : Int × Int) : DL.D := fr x.1 x.2
@[simp] theorem s0I (i : Int) : Φ0 [.int i] = .ok (.bl true) := by simp [Φ0, ir0, runD, isiD]
@[simp] theorem s0B (i : Bool) : Φ0 [.bl i] = .ok (.bl false) := by simp [Φ0, ir0, runD, isiD]
@[simp] theorem s0N : Φ0 [.non] = .ok (.bl false) := by simp [Φ0, ir0, runD, isiD]
@[simp] theorem s0S (x : Str) : Φ0 [.str x] = .ok (.bl false) := by simp [Φ0, ir0, runD, isiD]
theorem s1 (a b : Int) : Φ1 [.int a, .int b] = .ok (.int (Int.gcd a b)) := by
  refine run_rt rfl ?_
  show exSs [Φ0] Gs sub ir1 [.im (.int a), .im (.int b), .un, .un] = _
  have L := gcd_loop [Φ0] Gs sub (.im (.int a)) (.im (.int b)) [] b.natAbs a.natAbs b.natAbs (Nat.le_refl _)
  have L' : whileD (fun e => (ev [Φ0] Gs false w1_0 e).toB) (fun e => exSs [Φ0] Gs sub b1_0 e) [.im (.int a), .im (.int b), .im (.int a.natAbs), .im (.int b.natAbs)] = .nx [.im (.int a), .im (.int b), .im (.int (Int.gcd a b)), .im (.int 0)] := L
  simp only [ir1, xs_cons, x_par, es_cons, e_bi, e_var, es_nil, slot_s, slot_im0, R.bind_ok, b_abs, abs_nat, R.st_ok, sets_cons, sets_nil, List.set_cons_succ, List.set_cons_zero, T.then_nx, x_wloop, L', x_ret, T.then_rt]
def okF (p q : Int) : Bool := decide (0 < q) && decide ((Int.gcd p q : Int) = 1)
theorem s2 (p q : Int) : Φ2 [fr p q] = .ok (.bl (okF p q)) := by
  refine run_rt rfl ?_
  show exSs [Φ0, Φ1] Gs sub ir2 [.im (fr p q)] = _
  by_cases h : 0 < q <;> simp [ir2, callD, isiD, s1, okF, h]
theorem s2t {p q : Int} (h : Fr p q) : Φ2 [fr p q] = .ok (.bl true) := by
  rw [s2]; simp [okF, h.pos, h.cop]
theorem s3 {x y : DL.D} {a b : Bool} (h1 : Φ2 [x] = .ok (.bl a)) (h2 : Φ2 [y] = .ok (.bl b)) : Φ3 [x, y] = if (a && b) = true then .ok .non else .exn 1 := by
  cases a <;> cases b <;> simp [Φ3, runD, ir3, callD, h1, h2]
theorem s3t {x y : DL.D} (h1 : Φ2 [x] = .ok (.bl true)) (h2 : Φ2 [y] = .ok (.bl true)) : Φ3 [x, y] = .ok .non := s3 h1 h2
theorem dv {a b : Int} (h : b ≠ 0) (hb : b.natAbs < 2 ^ 200) : divOk (Int.gcd a b : Int) = true := by
  have hg := gcd_ne (a := a) h
  have le : Int.gcd a b ≤ b.natAbs := Nat.le_of_dvd (by omega) (Int.gcd_dvd_natAbs_right ..)
  unfold divOk
  simp only [Bool.and_eq_true, Bool.or_eq_true, decide_eq_true_eq]
  refine ⟨by omega, .inr ⟨hg, ?_⟩⟩
  have h0 : (Int.gcd a b : Int).natAbs ≠ 0 := by omega
  have : (Int.gcd a b : Int).natAbs.log2 < 200 := (Nat.log2_lt h0).mpr (by rw [Int.natAbs_natCast]; omega)
  omega
theorem s4 (a b : Int) (h : b ≠ 0) (hb : b.natAbs < 2 ^ 200) : Φ4 [.int a, .int b] = .ok (frP (nf a b)) := by
  refine run_rt rfl ?_
  show exSs [Φ0, Φ1, Φ2, Φ3] Gs sub ir4 [.im (.int a), .im (.int b), .un] = _
  have d := dv (a := a) h hb
  by_cases q : 0 < b <;> simp [ir4, callD, s1, d, q, nf, SZ]
theorem s12 (a b : Int) (h : b ≠ 0) (hb : b.natAbs < 2 ^ 200) : Φ12 [.int a, .int b] = .ok (frP (nf a b)) := by
  refine run_rt rfl ?_
  show exSs [Φ0, Φ1, Φ2, Φ3, Φ4, Φ5, Φ6, Φ7, Φ8, Φ9, Φ10, Φ11] Gs sub ir12 [.im (.int a), .im (.int b), .un, .un, .un] = _
  have d := dv (a := a) h hb
  have hg := gcd_ne (a := a) h
  have n1 := neg_fdiv hg (Int.gcd_dvd_left (a := a) (b := b))
  have n2 := neg_fdiv hg (Int.gcd_dvd_right (a := a) (b := b))
  have L := gcd_loop [Φ0, Φ1, Φ2, Φ3, Φ4, Φ5, Φ6, Φ7, Φ8, Φ9, Φ10, Φ11] Gs sub (.im (.int a)) (.im (.int b)) [.un] b.natAbs a.natAbs b.natAbs (Nat.le_refl _)
  have L' : whileD (fun e => (ev [Φ0, Φ1, Φ2, Φ3, Φ4, Φ5, Φ6, Φ7, Φ8, Φ9, Φ10, Φ11] Gs false w12_0 e).toB) (fun e => exSs [Φ0, Φ1, Φ2, Φ3, Φ4, Φ5, Φ6, Φ7, Φ8, Φ9, Φ10, Φ11] Gs sub b12_0 e) [.im (.int a), .im (.int b), .im (.int a.natAbs), .im (.int b.natAbs), .un] = .nx [.im (.int a), .im (.int b), .im (.int (Int.gcd a b)), .im (.int 0), .un] := L
  by_cases q : 0 < b
  · simp [ir12, abs_nat, L', q, d, mul_l, nf, SZ]
  · have m1 : -1 * a = -a := by omega
    have m2 : -1 * b = -b := by omega
    simp [ir12, abs_nat, L', q, d, mul_l, nf, SZ, negD, n1, n2]
theorem mul_bd {a b : Int} (ha : a.natAbs < 2 ^ 64) (hb : b.natAbs < 2 ^ 64) : (a * b).natAbs < 2 ^ 200 := by
  rw [Int.natAbs_mul]
  exact Nat.lt_of_le_of_lt (Nat.mul_le_mul (Nat.le_of_lt ha) (Nat.le_of_lt hb)) (by decide)
theorem mul_nz {a b : Int} (ha : 0 < a) (hb : b ≠ 0) : a * b ≠ 0 := Int.mul_ne_zero (by omega) hb
structure Ft (p q : Int) : Prop extends Fr p q where
  bp : p.natAbs < 2 ^ 64
  bq : q.natAbs < 2 ^ 64
section
variable {p q p' q' : Int}
theorem s5 (a b : Int) (h : b ≠ 0) (hb : b.natAbs < 2 ^ 200) : Φ5 [.int a, .int b] = .ok (frP (nf a b)) := by
  refine run_rt rfl ?_
  show exSs [Φ0, Φ1, Φ2, Φ3, Φ4] Gs sub ir5 [.im (.int a), .im (.int b)] = _
  simp [ir5, callD, h, s4 a b h hb]
theorem s6 (h : Ft p q) (h' : Ft p' q') : Φ6 [fr p q, fr p' q'] = .ok (frP (nf (p * q' + p' * q) (q * q'))) := by
  have r := s4 (p * q' + p' * q) (q * q') (mul_nz h.pos (by have := h'.pos; omega)) (mul_bd h.bq h'.bq)
  refine run_rt rfl ?_
  show exSs [Φ0, Φ1, Φ2, Φ3, Φ4, Φ5] Gs sub ir6 [.im (fr p q), .im (fr p' q')] = _
  simp [ir6, callD, s3t (s2t h.toFr) (s2t h'.toFr), mul_l h.bp, mul_l h.bq, mul_l h'.bp, r]
theorem s7 (h : Ft p q) (h' : Ft p' q') : Φ7 [fr p q, fr p' q'] = .ok (frP (nf (p * q' - p' * q) (q * q'))) := by
  have r := s4 (p * q' - p' * q) (q * q') (mul_nz h.pos (by have := h'.pos; omega)) (mul_bd h.bq h'.bq)
  refine run_rt rfl ?_
  show exSs [Φ0, Φ1, Φ2, Φ3, Φ4, Φ5, Φ6] Gs sub ir7 [.im (fr p q), .im (fr p' q')] = _
  simp [ir7, callD, s3t (s2t h.toFr) (s2t h'.toFr), mul_l h.bp, mul_l h.bq, mul_l h'.bp, r]
theorem s8 (h : Ft p q) (h' : Ft p' q') : Φ8 [fr p q, fr p' q'] = .ok (frP (nf (p * p') (q * q'))) := by
  have r := s4 (p * p') (q * q') (mul_nz h.pos (by have := h'.pos; omega)) (mul_bd h.bq h'.bq)
  refine run_rt rfl ?_
  show exSs [Φ0, Φ1, Φ2, Φ3, Φ4, Φ5, Φ6, Φ7] Gs sub ir8 [.im (fr p q), .im (fr p' q')] = _
  simp [ir8, callD, s3t (s2t h.toFr) (s2t h'.toFr), mul_l h.bp, mul_l h.bq, mul_l h'.bp, r]
theorem s9 (h : Ft p q) (h' : Ft p' q') (h0 : p' ≠ 0) : Φ9 [fr p q, fr p' q'] = .ok (frP (nf (p * q') (q * p'))) := by
  have r := s4 (p * q') (q * p') (mul_nz h.pos h0) (mul_bd h.bq h'.bp)
  refine run_rt rfl ?_
  show exSs [Φ0, Φ1, Φ2, Φ3, Φ4, Φ5, Φ6, Φ7, Φ8] Gs sub ir9 [.im (fr p q), .im (fr p' q')] = _
  simp [ir9, callD, s3t (s2t h.toFr) (s2t h'.toFr), mul_l h.bp, mul_l h.bq, mul_l h'.bp, r, h0]
theorem s9z (h : Fr p q) (h' : Fr 0 q') : Φ9 [fr p q, fr 0 q'] = .exn 1 := by
  refine run_ex (env := [.im (fr p q), .im (fr 0 q')]) rfl ?_
  show exSs [Φ0, Φ1, Φ2, Φ3, Φ4, Φ5, Φ6, Φ7, Φ8] Gs sub ir9 [.im (fr p q), .im (fr 0 q')] = _
  simp [ir9, callD, s3t (s2t h) (s2t h')]
theorem s10 (h : Ft p q) (h' : Ft p' q') : Φ10 [fr p q, fr p' q'] = .ok (.bl (decide (p * q' < p' * q))) := by
  refine run_rt rfl ?_
  show exSs [Φ0, Φ1, Φ2, Φ3, Φ4, Φ5, Φ6, Φ7, Φ8, Φ9] Gs sub ir10 [.im (fr p q), .im (fr p' q')] = _
  simp [ir10, callD, s3t (s2t h.toFr) (s2t h'.toFr), mul_l h.bp, mul_l h.bq, mul_l h'.bp]
theorem s13 (h : Ft p q) (h' : Ft p' q') : Φ13 [fr p q, fr p' q'] = .ok (frP (nf (p * q' + p' * q) (q * q'))) := by
  have r := s12 (p * q' + p' * q) (q * q') (mul_nz h.pos (by have := h'.pos; omega)) (mul_bd h.bq h'.bq)
  refine run_rt rfl ?_
  show exSs [Φ0, Φ1, Φ2, Φ3, Φ4, Φ5, Φ6, Φ7, Φ8, Φ9, Φ10, Φ11, Φ12] Gs sub ir13 [.im (fr p q), .im (fr p' q')] = _
  simp [ir13, callD, mul_l h.bp, mul_l h.bq, mul_l h'.bp, r]
theorem s14 (h : Ft p q) (h' : Ft p' q') : Φ14 [fr p q, fr p' q'] = .ok (frP (nf (p * p') (q * q'))) := by
  have r := s12 (p * p') (q * q') (mul_nz h.pos (by have := h'.pos; omega)) (mul_bd h.bq h'.bq)
  refine run_rt rfl ?_
  show exSs [Φ0, Φ1, Φ2, Φ3, Φ4, Φ5, Φ6, Φ7, Φ8, Φ9, Φ10, Φ11, Φ12, Φ13] Gs sub ir14 [.im (fr p q), .im (fr p' q')] = _
  simp [ir14, callD, mul_l h.bp, mul_l h.bq, mul_l h'.bp, r]
theorem s15 (h : Ft p q) (h' : Ft p' q') : Φ15 [fr p q, fr p' q'] = .ok (.bl (decide (p * q' < p' * q))) := by
  refine run_rt rfl ?_
  show exSs [Φ0, Φ1, Φ2, Φ3, Φ4, Φ5, Φ6, Φ7, Φ8, Φ9, Φ10, Φ11, Φ12, Φ13, Φ14] Gs sub ir15 [.im (fr p q), .im (fr p' q')] = _
  simp [ir15, callD, mul_l h.bp, mul_l h.bq, mul_l h'.bp]
end
def wd (d : Int) : Int := if d.fmod 4 = 0 then 3 else if d.fmod 4 = 1 then 9 else if d.fmod 4 = 2 then 60 else 10000000
theorem wd_ok (d : Int) : 3 ≤ wd d ∧ wd d ≤ 10000000 ∧ ixD (.lst [.int 3, .int 9, .int 60, .int 10000000]) (.int (d.fmod 4)) = .ok (.int (wd d)) := by
  have h := fmod_lt d (j := 4) (by decide)
  unfold wd
  have : d.fmod 4 = 0 ∨ d.fmod 4 = 1 ∨ d.fmod 4 = 2 ∨ d.fmod 4 = 3 := by omega
  rcases this with e | e | e | e <;> rw [e] <;> refine ⟨by decide, by decide, ?_⟩ <;> rfl
theorem s16 (ds : List Int) (i : Nat) (a b c : Int) (h0 : ds[i]? = some a) (h1 : ds[i + 1]? = some b) (h2 : ds[i + 2]? = some c) : ∃ p q, Ft p q ∧ p.natAbs ≤ 10000000 ∧ q.natAbs ≤ 10000000 ∧ Φ16 [.lst (ds.map DL.D.int), .int i] = .ok (fr p q) := by
  obtain ⟨w1, w2, w3⟩ := wd_ok a
  have f1 := fmod_lt b (j := 2 * wd a + 1) (by omega)
  have f2 := fmod_lt c (j := wd a) (by omega)
  have hb : 1 + c.fmod (wd a) ≠ 0 := by omega
  have r := s12 (b.fmod (2 * wd a + 1) - wd a) (1 + c.fmod (wd a)) hb (by omega)
  obtain ⟨n1, n2, n3, n4⟩ := nf_spec (a := b.fmod (2 * wd a + 1) - wd a) hb
  refine ⟨_, _, ⟨n1, by omega, by omega⟩, by omega, by omega, run_rt rfl ?_⟩
  show exSs [Φ0, Φ1, Φ2, Φ3, Φ4, Φ5, Φ6, Φ7, Φ8, Φ9, Φ10, Φ11, Φ12, Φ13, Φ14, Φ15] Gs sub ir16 [.im (.lst (ds.map DL.D.int)), .im (.int i), .un] = _
  have g0 : ixD (.lst (ds.map DL.D.int)) (.int i) = .ok (.int a) := ix_L (by rw [List.getElem?_map, h0]; rfl)
  have g1 : ixD (.lst (ds.map DL.D.int)) (.int ((i : Int) + 1)) = .ok (.int b) := ix_L (j := i + 1) (by rw [List.getElem?_map, h1]; rfl)
  have g2 : ixD (.lst (ds.map DL.D.int)) (.int ((i : Int) + 2)) = .ok (.int c) := ix_L (j := i + 2) (by rw [List.getElem?_map, h2]; rfl)
  have z1 : ¬ (2 * wd a + 1 = 0) := by omega
  have z2 : ¬ (wd a = 0) := by omega
  simp [ir16, callD, powOk, SZ, g0, g1, g2, w3, mul_l, z1, z2, r]
/-! ### what is refused -/
theorem x6 {x y : DL.D} (h : Φ3 [x, y] = .exn 1) : Φ6 [x, y] = .exn 1 := run_ex (env := [.im x, .im y]) rfl (by show exSs [Φ0, Φ1, Φ2, Φ3, Φ4, Φ5] Gs sub ir6 [.im x, .im y] = _; simp [ir6, callD, h])
theorem x7 {x y : DL.D} (h : Φ3 [x, y] = .exn 1) : Φ7 [x, y] = .exn 1 := run_ex (env := [.im x, .im y]) rfl (by show exSs [Φ0, Φ1, Φ2, Φ3, Φ4, Φ5, Φ6] Gs sub ir7 [.im x, .im y] = _; simp [ir7, callD, h])
theorem x8 {x y : DL.D} (h : Φ3 [x, y] = .exn 1) : Φ8 [x, y] = .exn 1 := run_ex (env := [.im x, .im y]) rfl (by show exSs [Φ0, Φ1, Φ2, Φ3, Φ4, Φ5, Φ6, Φ7] Gs sub ir8 [.im x, .im y] = _; simp [ir8, callD, h])
theorem x9 {x y : DL.D} (h : Φ3 [x, y] = .exn 1) : Φ9 [x, y] = .exn 1 := run_ex (env := [.im x, .im y]) rfl (by show exSs [Φ0, Φ1, Φ2, Φ3, Φ4, Φ5, Φ6, Φ7, Φ8] Gs sub ir9 [.im x, .im y] = _; simp [ir9, callD, h])
theorem x10 {x y : DL.D} (h : Φ3 [x, y] = .exn 1) : Φ10 [x, y] = .exn 1 := run_ex (env := [.im x, .im y]) rfl (by show exSs [Φ0, Φ1, Φ2, Φ3, Φ4, Φ5, Φ6, Φ7, Φ8, Φ9] Gs sub ir10 [.im x, .im y] = _; simp [ir10, callD, h])
theorem sub11 : sub 1 1 = some true := rfl
noncomputable abbrev F17 : Fns := [Φ0, Φ1, Φ2, Φ3, Φ4, Φ5, Φ6, Φ7, Φ8, Φ9, Φ10, Φ11, Φ12, Φ13, Φ14, Φ15, Φ16]
theorem e17 {c : Int} {x y : DL.D} (h : 1 ≤ c ∧ c < 6) (h3 : Φ3 [x, y] = .exn 1) : Φ17 [.int c, x, y] = .ok (.bl true) := by
  refine run_rt rfl ?_
  show exSs F17 Gs sub ir17 [.im (.int c), .im x, .im y] = _
  have : c = 1 ∨ c = 2 ∨ c = 3 ∨ c = 4 ∨ c = 5 := by omega
  rcases this with rfl | rfl | rfl | rfl | rfl <;> simp [ir17, callD, x6 h3, x7 h3, x8 h3, x9 h3, x10 h3, T.caught, clause, sub11]
theorem e17z {x y : DL.D} (h : Φ9 [x, y] = .exn 1) : Φ17 [.int 4, x, y] = .ok (.bl true) := by
  refine run_rt rfl ?_
  show exSs F17 Gs sub ir17 [.im (.int 4), .im x, .im y] = _
  simp [ir17, callD, h, T.caught, clause, sub11]
theorem e17r {x y : DL.D} (h : Φ5 [x, y] = .exn 1) : Φ17 [.int 0, x, y] = .ok (.bl true) := by
  refine run_rt rfl ?_
  show exSs F17 Gs sub ir17 [.im (.int 0), .im x, .im y] = _
  simp [ir17, callD, h, T.caught, clause, sub11]
def bads : List DL.D := [.non, .int 5, .tup [.int 1], .lst [.int 1, .int 2], fr 2 4, fr 1 0, fr 1 (-2), .tup [.bl true, .int 1], .tup [.int 1, .bl true], .tup [.str "1", .int 1], fr 0 2]
theorem bad2 : ∀ d ∈ bads, Φ2 [d] = .ok (.bl false) := by
  have T : ∀ {d : DL.D}, exSs [Φ0, Φ1] Gs sub ir2 [.im d] = .rt (.bl false) → Φ2 [d] = .ok (.bl false) := fun h => run_rt rfl h
  intro d hd
  simp only [bads, List.mem_cons, List.not_mem_nil, or_false] at hd
  rcases hd with rfl | rfl | rfl | rfl | rfl | rfl | rfl | rfl | rfl | rfl | rfl
  · exact T (by simp [ir2, callD, isiD])
  · exact T (by simp [ir2, callD, isiD])
  · exact T (by simp [ir2, callD, isiD])
  · exact T (by simp [ir2, callD, isiD])
  · rw [s2]; rfl
  · rw [s2]; rfl
  · rw [s2]; rfl
  · exact T (by simp [ir2, callD, isiD])
  · exact T (by simp [ir2, callD, isiD])
  · exact T (by simp [ir2, callD, isiD])
  · rw [s2]; rfl
def pairs : List DL.D := [.tup [.int 1, .int 0], .tup [.bl true, .int 1], .tup [.int 1, .non], .tup [.str "1", .int 2], .tup [.int 1, .bl true]]
theorem pair5 : ∀ d ∈ pairs, ∃ x y, d = .tup [x, y] ∧ Φ17 [.int 0, x, y] = .ok (.bl true) := by
  have T : ∀ {x y : DL.D}, exSs [Φ0, Φ1, Φ2, Φ3, Φ4] Gs sub ir5 [.im x, .im y] = .exn 1 [.im x, .im y] → Φ17 [.int 0, x, y] = .ok (.bl true) := fun {x y} h => e17r (run_ex rfl h)
  intro d hd
  simp only [pairs, List.mem_cons, List.not_mem_nil, or_false] at hd
  rcases hd with rfl | rfl | rfl | rfl | rfl <;> refine ⟨_, _, rfl, T ?_⟩ <;> simp [ir5, callD]
theorem ne_fr (p q : Int) : op2 .ne (fr p q) (fr p q) = .ok (.bl false) := by
  rw [o_ne _ _ rfl rfl]; simp [eqD, D.py, D.pys, PyData.eqv, PyData.eqvAll]
theorem ne3 (a b c d e f : Int) : op2 .ne (.tup [fr a b, fr c d, fr e f]) (.tup [fr a b, fr c d, fr e f]) = .ok (.bl false) := by
  rw [o_ne _ _ rfl rfl]; simp [eqD, D.py, D.pys, PyData.eqv, PyData.eqvAll]
/-! ### the law -/
noncomputable abbrev F18 : Fns := [Φ0, Φ1, Φ2, Φ3, Φ4, Φ5, Φ6, Φ7, Φ8, Φ9, Φ10, Φ11, Φ12, Φ13, Φ14, Φ15, Φ16, Φ17]
theorem over_back {p q p' q' : Int} (h : Fr p q) (h' : Fr p' q') (h0 : p' ≠ 0) : nf ((nf (p * q') (q * p')).1 * p') ((nf (p * q') (q * p')).2 * q') = (p, q) := by
  have nz : q * p' ≠ 0 := mul_nz h.pos h0
  obtain ⟨f, c, _, _⟩ := nf_spec (a := p * q') nz
  refine nf_uniq (Int.mul_ne_zero (by have := f.pos; omega) (by have := h'.pos; omega)) h ?_
  generalize (nf (p * q') (q * p')).1 = s at *
  generalize (nf (p * q') (q * p')).2 = t at *
  calc p * (t * q') = p * q' * t := by simp only [Int.mul_comm, Int.mul_left_comm, Int.mul_assoc]
    _ = s * (q * p') := c.symm
    _ = s * p' * q := by simp only [Int.mul_comm, Int.mul_left_comm, Int.mul_assoc]
theorem law_body (ds : List Int) (p q p' q' m d6 : Int) (h : Ft p q) (h' : Ft p' q') (bp : p.natAbs ≤ 10000000) (bq : q.natAbs ≤ 10000000) (bp' : p'.natAbs ≤ 10000000) (bq' : q'.natAbs ≤ 10000000)
    (hm : m = 1 + d6.fmod 900) (h6 : ixD (.lst (ds.map DL.D.int)) (.int 6) = .ok (.int d6)) (ns : List Int)
    (h11 : Φ11 [scrD ns, .int 20] = .ok (.lst (ds.map DL.D.int))) (ha : Φ16 [.lst (ds.map DL.D.int), .int 0] = .ok (fr p q)) (hb : Φ16 [.lst (ds.map DL.D.int), .int 3] = .ok (fr p' q')) :
    exSs F18 Gs sub ir18 [.im (scrD ns), .un, .un, .un, .un, .un, .un, .un, .un] = .rt (.bl true) := by
  have hq := h.pos
  have hq' := h'.pos
  have m1 := fmod_lt d6 (j := 900) (by decide)
  have hn : Ft (0 - p') q' := ⟨⟨hq', by have := h'.cop; simpa using this⟩, by have := h'.bp; omega, h'.bq⟩
  have t1 := s2t h.toFr
  have t2 := s2t h'.toFr
  have em : p * q' + (0 - p') * q = p * q' - p' * q := by rw [Int.sub_mul, Int.zero_mul, Int.zero_sub, Int.sub_eq_add_neg]
  have c13 := s13 h hn
  rw [em] at c13
  have r1 : Φ5 [.int (p * m), .int (q * m)] = .ok (fr p q) := by
    rw [s5 _ _ (mul_nz hq (by omega)) (mul_bd h.bq (by omega)), nf_uniq (mul_nz hq (by omega)) h.toFr (by simp only [Int.mul_comm, Int.mul_left_comm])]
  have nz2 : (0 : Int) - q * m ≠ 0 := by have := mul_nz hq (b := m) (by omega); omega
  have r2 : Φ5 [.int (0 - p * m), .int (0 - q * m)] = .ok (fr p q) := by
    rw [s5 _ _ nz2 (by have := mul_bd h.bq (b := m) (by omega); omega), nf_uniq nz2 h.toFr (by rw [Int.zero_sub, Int.zero_sub, Int.mul_neg, Int.neg_mul]; simp only [Int.mul_comm, Int.mul_left_comm])]
  have r3 : Φ5 [.int p, .int (0 - q)] = .ok (fr (0 - p) q) := by
    rw [s5 _ _ (by omega) (by omega), nf_uniq (p := 0 - p) (q := q) (by omega) ⟨hq, by have := h.cop; simpa using this⟩ (by rw [Int.zero_sub, Int.zero_sub, Int.neg_mul_neg])]
  have st1 : ∀ x, x = 0 → 0 = x := fun x h => h.symm
  have g0 : globD Gs 0 = .ok (fr 0 1) := rfl
  have g1 : globD Gs 1 = .ok (fr 1 1) := rfl
  have over : p' ≠ 0 → Φ9 [fr p q, fr p' q'] = .ok (frP (nf (p * q') (q * p'))) ∧ Φ12 [.int (p * q'), .int (q * p')] = .ok (frP (nf (p * q') (q * p'))) ∧ Φ8 [frP (nf (p * q') (q * p')), fr p' q'] = .ok (fr p q) := fun h0 => by
    have nz : q * p' ≠ 0 := mul_nz hq h0
    refine ⟨s9 h h' h0, s12 _ _ nz (mul_bd h.bq h'.bp), ?_⟩
    obtain ⟨f, c, b1, b2⟩ := nf_spec (a := p * q') nz
    rw [Int.natAbs_mul] at b1 b2
    have z1 := Nat.le_trans b1 (Nat.mul_le_mul bp bq')
    have z2 := Nat.le_trans b2 (Nat.mul_le_mul bq bp')
    rw [s8 ⟨f, by omega, by omega⟩ h', over_back h.toFr h'.toFr h0]
  have anyB : lcD (.nm 6) [6] (fun e => R.ok true) (fun e => ev F18 Gs false e18_0 e) [.im (scrD ns), .im (.lst (ds.map DL.D.int)), .im (fr p q), .im (fr p' q'), .im (.int m), .im (.lst bads), .un, .un, .un] bads = .ok (.lst (bads.map fun _ => .bl false)) :=
    lc_map (fun _ => .bl false) bads (fun d hd => ⟨_, put_nm .., by simp, by simp [e18_0, callD, bad2 d hd]⟩) (by decide)
  have loop := loop_same (i := 6) (body := fun e => exSs F18 Gs sub b18_0 e) [.im (scrD ns), .im (.lst (ds.map DL.D.int)), .im (fr p q), .im (fr p' q'), .im (.int m), .im (.lst bads), .un, .un, .un] bads (fun d hd x => by
    refine ⟨.im d, ?_⟩
    have q1 : Φ3 [d, fr p q] = .exn 1 := s3 (bad2 d hd) t1
    have q2 : Φ3 [fr p q, d] = .exn 1 := s3 t1 (bad2 d hd)
    have L := lc_map (t := .nm 7) (vs := [7]) (rc := fun e => R.ok true) (re := fun e => ev F18 Gs false e18_1 e) (env := [.im (scrD ns), .im (.lst (ds.map DL.D.int)), .im (fr p q), .im (fr p' q'), .im (.int m), .im (.lst bads), .im d, .un, .un]) (fun _ => .bl true) (rangeD 1 5) (fun c hc => by
      obtain ⟨j, hj⟩ := List.getElem?_of_mem hc
      obtain ⟨j5, rfl⟩ := range_get hj
      exact ⟨_, put_nm .., by simp, by simp [e18_1, callD, e17 (c := 1 + (j : Int)) ⟨by omega, by omega⟩ q1, e17 (c := 1 + (j : Int)) ⟨by omega, by omega⟩ q2]⟩) (by decide)
    have A := all_true ((rangeD 1 5).map fun _ => DL.D.bl true) (by simp)
    simp [b18_0, ivOk, L, A]) .un
  obtain ⟨y, loop⟩ := loop
  have z17 : Φ17 [.int 4, fr p q, fr 0 1] = .ok (.bl true) := e17z (s9z h.toFr ⟨by decide, by decide⟩)
  have L2 := lc_map (t := .nm 8) (vs := [8]) (rc := fun e => R.ok true) (re := fun e => ev F18 Gs false e18_2 e) (env := [.im (scrD ns), .im (.lst (ds.map DL.D.int)), .im (fr p q), .im (fr p' q'), .im (.int m), .im (.lst bads), y, .un, .un]) (fun _ => .bl true) pairs (fun c hc => by
      obtain ⟨a, b, rfl, h5⟩ := pair5 c hc
      exact ⟨_, put_nm .., by simp, by simp [e18_2, callD, h5]⟩) (by decide)
  have A2 := all_true (pairs.map fun _ => DL.D.bl true) (by simp)
  have A1 := any_false (bads.map fun _ => DL.D.bl false) (by simp)
  simp only [List.set_cons_succ, List.set_cons_zero] at loop
  have c6 := s6 h h'
  have c7 := s7 h h'
  have c8 := s8 h h'
  have c13' := s13 h h'
  have c14 := s14 h h'
  have c10 := s10 h h'
  have c15 := s15 h h'
  obtain ⟨lt, hlt⟩ : ∃ b, b = decide (p * q' < p' * q) := ⟨_, rfl⟩
  rw [← hlt] at c10 c15
  have nz900 : ¬ ((900 : Int) = 0) := by decide
  simp only [Int.zero_sub, fr, frP] at c13 c13' c6 c7 c8 c14 c10 c15 r1 r2 r3 h11 ha hb t1 t2 g0 g1 over anyB loop L2 z17
  have n3 := ne3
  have n1 := ne_fr
  simp only [fr] at n3 n1
  simp only [bads, fr] at anyB loop A1 L2
  simp only [pairs] at L2 A2
  simp only [List.map_cons, List.map_nil] at L2 A2 A1 anyB
  have tail : ∀ k : Bool, (k = true → p' ≠ 0) → True := fun _ _ => trivial
  have mb : mulOk p m = true := mul_l h.bp
  have mb2 : mulOk q m = true := mul_l h.bq
  have mb3 : mulOk p q' = true := mul_l h.bp
  have mb4 : mulOk q p' = true := mul_l h.bq
  simp only [ir18, xs_cons, xs_nil, x_set, x_asg, x_ite, x_floop, x_ret]
  by_cases h0 : p' = 0
  · have hz := decide_eq_true h0
    clear h0
    have hz : decide (p' = 0) = true := hz
    cases lt <;> simp [callD, h11, ha, hb, t1, t2, g0, g1, n1, n3, SZ, c6, c7, c8, c13, c13', c14, c10, c15, h6, ← hm, hz, r1, r2, r3, mb, mb2, negD, anyB, A1, loop, z17, L2, A2]
  · obtain ⟨o1, o2, o3⟩ := over h0
    cases lt <;> simp [callD, h11, ha, hb, t1, t2, g0, g1, n1, n3, SZ, c6, c7, c8, c13, c13', c14, c10, c15, h6, ← hm, h0, o1, o2, o3, r1, r2, r3, mb, mb2, mb3, mb4, negD, anyB, A1, loop, z17, L2, A2]
theorem law_true : Law := by
  intro ns hl _
  obtain ⟨ds, h1, h2, h3⟩ := draws_ok [Φ0, Φ1, Φ2, Φ3, Φ4, Φ5, Φ6, Φ7, Φ8, Φ9, Φ10] Gs sub ns hl 20 (by decide)
  have h11 : Φ11 [scrD ns, .int 20] = .ok (.lst (ds.map DL.D.int)) := h3
  have g : ∀ i, i < 20 → ∃ a, ds[i]? = some a := fun i hi => ⟨_, List.getElem?_eq_getElem (by omega)⟩
  obtain ⟨a0, e0⟩ := g 0 (by decide)
  obtain ⟨a1, e1⟩ := g 1 (by decide)
  obtain ⟨a2, e2⟩ := g 2 (by decide)
  obtain ⟨a3, e3⟩ := g 3 (by decide)
  obtain ⟨a4, e4⟩ := g 4 (by decide)
  obtain ⟨a5, e5⟩ := g 5 (by decide)
  obtain ⟨a6, e6⟩ := g 6 (by decide)
  obtain ⟨p, q, f, b1, b2, r1⟩ := s16 ds 0 a0 a1 a2 e0 e1 e2
  obtain ⟨p', q', f', b1', b2', r2⟩ := s16 ds 3 a3 a4 a5 e3 e4 e5
  refine run_rt rfl ?_
  exact law_body ds p q p' q' _ a6 f f' b1 b2 b1' b2' rfl (ix_L (j := 6) (by rw [List.getElem?_map, e6]; rfl)) ns h11 r1 r2
end K24
open PySem PySem.W PyProof.Rows
set_option maxRecDepth 100000 in
set_option maxHeartbeats 0 in
theorem PySem.Challenge.cw_lightwrit_k24_fractions_holds : PySem.Challenge.rw_lightwrit_k24_fractions.Holds := by
  w_on; o_law; k_head; (case hw => w_witness2)
  k_fill
  refine L2.walk_ofB (l := PySem.Challenge.rw_lightwrit_k24_fractions) (n := 63) (k := 19) (x := "script") (CX := fun w => L2.CX PySem.Challenge.rw_lightwrit_k24_fractions.prog w) (sp := fun w => DL.spLaw _) rfl (by decide) rfl ⟨rfl, by decide, by decide⟩ (fun w h Y => PySem.W.kIn_of Y) ?F (fun _ _ a ns hl hb _ hS => ⟨a, ns, rfl, hS, hl, hb, fun _ => rfl⟩) (fun _ _ _ _ _ h => DL.cx_none h)
  case F =>
    intro w mg fa h KX G hmg
    have hm : mg "law" = some (.ref fa) := hmg
    clear hmg
    refine' K24.law_mk K24.law_true KX G hm ?c0 ?c1 (DL.FnF.of ?a0 ?l0 ?c0_ ?k0 ?b0) (DL.FnF.of ?a1 ?l1 ?c1_ ?k1 ?b1) (DL.FnF.of ?a2 ?l2 ?c2_ ?k2 ?b2) (DL.FnF.of ?a3 ?l3 ?c3_ ?k3 ?b3) (DL.FnF.of ?a4 ?l4 ?c4_ ?k4 ?b4) (DL.FnF.of ?a5 ?l5 ?c5_ ?k5 ?b5) (DL.FnF.of ?a6 ?l6 ?c6_ ?k6 ?b6) (DL.FnF.of ?a7 ?l7 ?c7_ ?k7 ?b7) (DL.FnF.of ?a8 ?l8 ?c8_ ?k8 ?b8) (DL.FnF.of ?a9 ?l9 ?c9_ ?k9 ?b9) (DL.FnF.of ?a10 ?l10 ?c10_ ?k10 ?b10) (DL.FnF.of ?a11 ?l11 ?c11_ ?k11 ?b11) (DL.FnF.of ?a12 ?l12 ?c12_ ?k12 ?b12) (DL.FnF.of ?a13 ?l13 ?c13_ ?k13 ?b13) (DL.FnF.of ?a14 ?l14 ?c14_ ?k14 ?b14) (DL.FnF.of ?a15 ?l15 ?c15_ ?k15 ?b15) (DL.FnF.of ?a16 ?l16 ?c16_ ?k16 ?b16) (DL.FnF.of ?a17 ?l17 ?c17_ ?k17 ?b17) (DL.FnF.of ?a18 ?l18 ?c18_ ?k18 ?b18) ?g ?b ?c ?s
    (case c0 => k_is)
    (case c1 => k_is)
    (case a0 => k_is); (case l0 => k_is); (case c0_ => k_is); (case k0 => k_is); (case b0 => exact fun _ _ _ _ _ _ us hl => match us, hl with | [_], _ => rfl)
    (case a1 => k_is); (case l1 => k_is); (case c1_ => k_is); (case k1 => k_is); (case b1 => exact fun _ _ _ _ _ _ us hl => match us, hl with | [_, _], _ => rfl)
    (case a2 => k_is); (case l2 => k_is); (case c2_ => k_is); (case k2 => k_is); (case b2 => exact fun _ _ _ _ _ _ us hl => match us, hl with | [_], _ => rfl)
    (case a3 => k_is); (case l3 => k_is); (case c3_ => k_is); (case k3 => k_is); (case b3 => exact fun _ _ _ _ _ _ us hl => match us, hl with | [_, _], _ => rfl)
    (case a4 => k_is); (case l4 => k_is); (case c4_ => k_is); (case k4 => k_is); (case b4 => exact fun _ _ _ _ _ _ us hl => match us, hl with | [_, _], _ => rfl)
    (case a5 => k_is); (case l5 => k_is); (case c5_ => k_is); (case k5 => k_is); (case b5 => exact fun _ _ _ _ _ _ us hl => match us, hl with | [_, _], _ => rfl)
    (case a6 => k_is); (case l6 => k_is); (case c6_ => k_is); (case k6 => k_is); (case b6 => exact fun _ _ _ _ _ _ us hl => match us, hl with | [_, _], _ => rfl)
    (case a7 => k_is); (case l7 => k_is); (case c7_ => k_is); (case k7 => k_is); (case b7 => exact fun _ _ _ _ _ _ us hl => match us, hl with | [_, _], _ => rfl)
    (case a8 => k_is); (case l8 => k_is); (case c8_ => k_is); (case k8 => k_is); (case b8 => exact fun _ _ _ _ _ _ us hl => match us, hl with | [_, _], _ => rfl)
    (case a9 => k_is); (case l9 => k_is); (case c9_ => k_is); (case k9 => k_is); (case b9 => exact fun _ _ _ _ _ _ us hl => match us, hl with | [_, _], _ => rfl)
    (case a10 => k_is); (case l10 => k_is); (case c10_ => k_is); (case k10 => k_is); (case b10 => exact fun _ _ _ _ _ _ us hl => match us, hl with | [_, _], _ => rfl)
    (case a11 => k_is); (case l11 => k_is); (case c11_ => k_is); (case k11 => k_is); (case b11 => exact fun _ _ _ _ _ _ us hl => match us, hl with | [_, _], _ => rfl)
    (case a12 => k_is); (case l12 => k_is); (case c12_ => k_is); (case k12 => k_is); (case b12 => exact fun _ _ _ _ _ _ us hl => match us, hl with | [_, _], _ => rfl)
    (case a13 => k_is); (case l13 => k_is); (case c13_ => k_is); (case k13 => k_is); (case b13 => exact fun _ _ _ _ _ _ us hl => match us, hl with | [_, _], _ => rfl)
    (case a14 => k_is); (case l14 => k_is); (case c14_ => k_is); (case k14 => k_is); (case b14 => exact fun _ _ _ _ _ _ us hl => match us, hl with | [_, _], _ => rfl)
    (case a15 => k_is); (case l15 => k_is); (case c15_ => k_is); (case k15 => k_is); (case b15 => exact fun _ _ _ _ _ _ us hl => match us, hl with | [_, _], _ => rfl)
    (case a16 => k_is); (case l16 => k_is); (case c16_ => k_is); (case k16 => k_is); (case b16 => exact fun _ _ _ _ _ _ us hl => match us, hl with | [_, _], _ => rfl)
    (case a17 => k_is); (case l17 => k_is); (case c17_ => k_is); (case k17 => k_is); (case b17 => exact fun _ _ _ _ _ _ us hl => match us, hl with | [_, _, _], _ => rfl)
    (case a18 => k_is); (case l18 => k_is); (case c18_ => k_is); (case k18 => k_is); (case b18 => exact fun _ _ _ _ _ _ us hl => match us, hl with | [_], _ => rfl)
    (case g => kernel_rfl); (case b => kernel_rfl); (case c => kernel_rfl); (case s => kernel_rfl)
