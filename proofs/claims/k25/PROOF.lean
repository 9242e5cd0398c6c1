import PyProof.Rows.All
import Wide.All
import OpenK.AllK
import Wide.FinOn
import HandS.ForMost
import HandS.ForExc
import HandS.Flow
import HandS.CallSlots
import HandS.Wide
import HandS.TupAny
import HandS.Deep
import HandS.Style
import HandS.WordsExc
import HandS.IsInst
import HandS.TupSets
import HandS.Property
import PyProof.AutoSeq1
import HandS.Text
import HandS.Star
import HandS.Strs
import HandS.More
import HandS.SetKeys
import HandS.Defaults
import HandS.SortKw
import KE.SortKeyHeap
import HandS.Dict
import HandS.Flt
import PySem.Challenge.RW_whensure_k25_bounds_of_a_clock_are_its_r
set_option Elab.async false
set_option linter.all false
set_option maxRecDepth 100000
set_option maxHeartbeats 4000000
/-! Dn, A: data by value, the abstract store, what a piece of the text is worth (a function of the store), and how that lies over the hand layer's readings. -/
namespace Dn
open PySem L2

/-- a value: tuples by what is in them, all else that may change by its number in the store -/
inductive D where
  | non | bl (b : Bool) | int (i : Int) | str (x : Str) | tup (l : List D) | ref (n : Nat) | ty (n : String)
/-- an object of the store -/
inductive O where
  | lst (l : List D) | frz (l : List D) | ins (c : Str) (fs : List (Str × D)) | set (l : List (List Int)) | dT (l : List (List Int × D)) | dK (l : List (Key × D))
abbrev S := List O
abbrev En := List (Option D)
structure Ex where
  cls : Str
  fs : List (Str × D)
/-- how a computation ends; bad: not told -/
inductive Out (α : Type) where
  | ok (a : α) (st : S) | exc (e : Ex) (en : En) (st : S) | bad
def Out.bind {α β : Type} (x : Out α) (f : α → S → Out β) : Out β := match x with
  | .ok a st => f a st
  | .exc e en st => .exc e en st
  | .bad => .bad
@[simp] theorem bind_ok {α β : Type} (a : α) (st : S) (f : α → S → Out β) : (Out.ok a st).bind f = f a st := rfl
@[simp] theorem bind_bad {α β : Type} (f : α → S → Out β) : (Out.bad : Out α).bind f = .bad := rfl
@[simp] theorem bind_exc {α β : Type} (e : Ex) (en : En) (st : S) (f : α → S → Out β) : (Out.exc e en st : Out α).bind f = .exc e en st := rfl
abbrev EM := En → S → Out D
abbrev TM := En → S → Out Bool
abbrev AM := En → S → Out (List D)
inductive Fl where
  | nx | bk | ct | ret (d : D)
abbrev SM := En → S → Out (Fl × En)
abbrev Rho := Nat → Option Addr
abbrev Frag := PySem.W.Frag
/-- where the classes stand; whose program, in which world -/
structure Clm where
  f : Str → Option Addr
  P : Program
  w : World
instance : CoeFun Clm fun _ => Str → Option Addr := ⟨Clm.f⟩

mutual
def RD (K : Frag) (H : Hp) (r : Rho) : D → V → Prop
  | .non, v => v = .non
  | .bl b, v => v = .bl b
  | .int i, v => v = .int i
  | .str x, v => v = .str x
  | .tup l, v => ∃ a xs, v = .ref a ∧ SqT K H a xs ∧ RDs K H r l xs
  | .ref n, v => ∃ a, v = .ref a ∧ r n = some a
  | .ty n, v => v = .ty n
def RDs (K : Frag) (H : Hp) (r : Rho) : List D → List V → Prop
  | [], xs => xs = []
  | d :: ds, xs => ∃ v vs, xs = v :: vs ∧ RD K H r d v ∧ RDs K H r ds vs
end

section
variable {K : Frag} {H : Hp} {r : Rho}
theorem RDs.pr : ∀ {ds : List D} {vs : List V}, RDs K H r ds vs → Paired (RD K H r) ds vs
  | [], vs, h => by rw [RDs] at h; subst h; exact .nil
  | d :: ds, vs, h => by
    rw [RDs] at h
    obtain ⟨v, w, rfl, h1, h2⟩ := h
    exact .cons h1 (RDs.pr h2)
theorem RDs.of : ∀ {ds : List D} {vs : List V}, Paired (RD K H r) ds vs → RDs K H r ds vs
  | _, _, .nil => by rw [RDs]
  | _, _, .cons h t => by rw [RDs]; exact ⟨_, _, rfl, h, RDs.of t⟩
theorem RDs.nil : RDs K H r [] [] := by rw [RDs]
theorem RDs.cons {d : D} {v : V} {ds : List D} {vs : List V} (h : RD K H r d v) (t : RDs K H r ds vs) : RDs K H r (d :: ds) (v :: vs) := by rw [RDs]; exact ⟨_, _, rfl, h, t⟩
theorem RDs.nil_inv {vs : List V} (h : RDs K H r [] vs) : vs = [] := by rw [RDs] at h; exact h
theorem RDs.cons_inv {d : D} {ds : List D} {vs : List V} (h : RDs K H r (d :: ds) vs) : ∃ v w, vs = v :: w ∧ RD K H r d v ∧ RDs K H r ds w := by rw [RDs] at h; exact h
theorem RDs.length {ds : List D} {vs : List V} (h : RDs K H r ds vs) : ds.length = vs.length := h.pr.length
theorem RDs.get : ∀ {ds : List D} {vs : List V} {i : Nat} {d : D}, RDs K H r ds vs → ds[i]? = some d → ∃ v, vs[i]? = some v ∧ RD K H r d v
  | [], _, _, _, _, e => by simp at e
  | d :: ds, vs, 0, x, h, e => by
    obtain ⟨v, w, rfl, h1, h2⟩ := h.cons_inv
    simp at e; subst e
    exact ⟨v, rfl, h1⟩
  | d :: ds, vs, i + 1, x, h, e => by
    obtain ⟨v, w, rfl, h1, h2⟩ := h.cons_inv
    obtain ⟨u, e1, e2⟩ := RDs.get (i := i) h2 (by simpa using e)
    exact ⟨u, by simpa using e1, e2⟩
theorem RDs.get' : ∀ {ds : List D} {vs : List V} {i : Nat} {v : V}, RDs K H r ds vs → vs[i]? = some v → ∃ d, ds[i]? = some d ∧ RD K H r d v
  | [], _, _, _, h, e => by have := h.nil_inv; subst this; simp at e
  | d :: ds, vs, 0, x, h, e => by
    obtain ⟨v, w, rfl, h1, h2⟩ := h.cons_inv
    simp at e; subst e
    exact ⟨d, rfl, h1⟩
  | d :: ds, vs, i + 1, x, h, e => by
    obtain ⟨v, w, rfl, h1, h2⟩ := h.cons_inv
    obtain ⟨u, e1, e2⟩ := RDs.get' (i := i) h2 (by simpa using e)
    exact ⟨u, by simpa using e1, e2⟩
theorem RDs.append : ∀ {ds es : List D} {vs ws : List V}, RDs K H r ds vs → RDs K H r es ws → RDs K H r (ds ++ es) (vs ++ ws)
  | [], _, _, _, h, t => by have := h.nil_inv; subst this; exact t
  | d :: ds, _, _, _, h, t => by
    obtain ⟨v, w, rfl, h1, h2⟩ := h.cons_inv
    exact .cons h1 (RDs.append h2 t)
theorem RDs.set : ∀ {ds : List D} {vs : List V} (i : Nat) {d : D} {v : V}, RDs K H r ds vs → RD K H r d v → RDs K H r (ds.set i d) (vs.set i v)
  | [], _, _, _, _, h, _ => by have := h.nil_inv; subst this; exact .nil
  | d :: ds, _, 0, _, _, h, q => by
    obtain ⟨v, w, rfl, h1, h2⟩ := h.cons_inv
    exact .cons q h2
  | d :: ds, _, i + 1, _, _, h, q => by
    obtain ⟨v, w, rfl, h1, h2⟩ := h.cons_inv
    exact .cons h1 (RDs.set i h2 q)
theorem RDs.take : ∀ {ds : List D} {vs : List V} (i : Nat), RDs K H r ds vs → RDs K H r (ds.take i) (vs.take i)
  | [], _, _, h => by have := h.nil_inv; subst this; simp; exact .nil
  | _ :: _, _, 0, _ => by simp; exact .nil
  | d :: ds, _, i + 1, h => by
    obtain ⟨v, w, rfl, h1, h2⟩ := h.cons_inv
    exact .cons h1 (RDs.take i h2)
theorem RDs.drop : ∀ {ds : List D} {vs : List V} (i : Nat), RDs K H r ds vs → RDs K H r (ds.drop i) (vs.drop i)
  | [], _, _, h => by have := h.nil_inv; subst this; simp; exact .nil
  | _ :: _, _, 0, h => h
  | d :: ds, _, i + 1, h => by
    obtain ⟨v, w, rfl, h1, h2⟩ := h.cons_inv
    exact RDs.drop i h2
theorem RDs.eraseIdx : ∀ {ds : List D} {vs : List V} (i : Nat), RDs K H r ds vs → RDs K H r (ds.eraseIdx i) (vs.eraseIdx i)
  | [], _, _, h => by have := h.nil_inv; subst this; simp; exact .nil
  | d :: ds, _, 0, h => by
    obtain ⟨v, w, rfl, h1, h2⟩ := h.cons_inv
    simpa using h2
  | d :: ds, _, i + 1, h => by
    obtain ⟨v, w, rfl, h1, h2⟩ := h.cons_inv
    exact .cons h1 (RDs.eraseIdx i h2)
theorem RD.int {i : Int} : RD K H r (.int i) (.int i) := by rw [RD]
theorem RD.bl {b : Bool} : RD K H r (.bl b) (.bl b) := by rw [RD]
theorem RD.non : RD K H r .non .non := by rw [RD]
theorem RD.str {x : Str} : RD K H r (.str x) (.str x) := by rw [RD]
theorem RD.ref {n : Nat} {a : Addr} (h : r n = some a) : RD K H r (.ref n) (.ref a) := by rw [RD]; exact ⟨a, rfl, h⟩
theorem RD.tup {l : List D} {a : Addr} {xs : List V} (h : SqT K H a xs) (t : RDs K H r l xs) : RD K H r (.tup l) (.ref a) := by rw [RD]; exact ⟨a, xs, rfl, h, t⟩
theorem RD.int_inv {i : Int} {v : V} (h : RD K H r (.int i) v) : v = .int i := by rw [RD] at h; exact h
theorem RD.bl_inv {b : Bool} {v : V} (h : RD K H r (.bl b) v) : v = .bl b := by rw [RD] at h; exact h
theorem RD.non_inv {v : V} (h : RD K H r .non v) : v = .non := by rw [RD] at h; exact h
theorem RD.str_inv {x : Str} {v : V} (h : RD K H r (.str x) v) : v = .str x := by rw [RD] at h; exact h
theorem RD.ty {n : String} : RD K H r (.ty n) (.ty n) := by rw [RD]
theorem RD.ty_inv {n : String} {v : V} (h : RD K H r (.ty n) v) : v = .ty n := by rw [RD] at h; exact h
theorem RD.ref_inv {n : Nat} {v : V} (h : RD K H r (.ref n) v) : ∃ a, v = .ref a ∧ r n = some a := by rw [RD] at h; exact h
theorem RD.tup_inv {l : List D} {v : V} (h : RD K H r (.tup l) v) : ∃ a xs, v = .ref a ∧ SqT K H a xs ∧ RDs K H r l xs := by rw [RD] at h; exact h
end

/-- what is true of a later heap: the numbers keep their objects, new numbers stand for new objects, what bears no number stays -/
structure Xt (K : Frag) (r : Rho) (H : Hp) (r' : Rho) (H' : Hp) : Prop where
  ext : ∀ n a, r n = some a → r' n = some a
  new : ∀ n a, r' n = some a → r n = some a ∨ H a = none
  keep : ∀ b o, H b = some o → (∀ n, n ≠ 0 → r n ≠ some b) → H' b = some o
  there : ∀ b, H' b = none → H b = none
  sqt : ∀ b xs, SqT K H b xs → SqT K H' b xs
theorem Xt.refl {K : Frag} {r : Rho} {H : Hp} : Xt K r H r H := ⟨fun _ _ h => h, fun _ _ h => .inl h, fun _ _ h _ => h, fun _ h => h, fun _ _ h => h⟩
theorem Xt.trans {K : Frag} {r r1 r2 : Rho} {H H1 H2 : Hp} (a : Xt K r H r1 H1) (b : Xt K r1 H1 r2 H2) : Xt K r H r2 H2 where
  ext := fun n x h => b.ext n x (a.ext n x h)
  new := fun n x h => by
    rcases b.new n x h with q | q
    · exact a.new n x q
    · exact .inr (a.there x q)
  keep := fun c o h hn => b.keep c o (a.keep c o h hn) fun n n0 q => by
    rcases a.new n c q with z | z
    · exact hn n n0 z
    · rw [h] at z; cases z
  there := fun c h => a.there c (b.there c h)
  sqt := fun c xs h => b.sqt c xs (a.sqt c xs h)

/-- what values lean on -/
structure Mn (K : Frag) (r : Rho) (H : Hp) (r' : Rho) (H' : Hp) : Prop where
  ext : ∀ n a, r n = some a → r' n = some a
  sqt : ∀ b xs, SqT K H b xs → SqT K H' b xs
theorem Xt.mn {K : Frag} {r r' : Rho} {H H' : Hp} (x : Xt K r H r' H') : Mn K r H r' H' := ⟨x.ext, x.sqt⟩
section
variable {K : Frag} {r r' : Rho} {H H' : Hp}
mutual
theorem RD.mono (x : Mn K r H r' H') : ∀ {d : D} {v : V}, RD K H r d v → RD K H' r' d v
  | .non, v, h => by have := h.non_inv; subst this; exact .non
  | .bl b, v, h => by have := h.bl_inv; subst this; exact .bl
  | .int i, v, h => by have := h.int_inv; subst this; exact .int
  | .str z, v, h => by have := h.str_inv; subst this; exact .str
  | .ty z, v, h => by have := h.ty_inv; subst this; exact .ty
  | .tup l, v, h => by
    obtain ⟨a, xs, rfl, h1, h2⟩ := h.tup_inv
    exact .tup (x.sqt _ _ h1) (RDs.mono x h2)
  | .ref n, v, h => by
    obtain ⟨a, rfl, h1⟩ := h.ref_inv
    exact .ref (x.ext _ _ h1)
theorem RDs.mono (x : Mn K r H r' H') : ∀ {ds : List D} {vs : List V}, RDs K H r ds vs → RDs K H' r' ds vs
  | [], vs, h => by have := h.nil_inv; subst this; exact .nil
  | d :: ds, vs, h => by
    obtain ⟨v, w, rfl, h1, h2⟩ := h.cons_inv
    exact .cons (RD.mono x h1) (RDs.mono x h2)
end
end

/-- the fields of an instance -/
def RF (K : Frag) (H : Hp) (r : Rho) (fs : List (Str × D)) (vs : List (Str × V)) : Prop := Paired (fun p q => p.1 = q.1 ∧ RD K H r p.2 q.2) fs vs
/-- the locked objects alone -/
def fzH (H : Hp) : Hp := fun b => match H b with
  | some (.frz o u) => some (.frz o u)
  | _ => none
theorem fzH_some {H : Hp} {a : Addr} {u : HO} (h : fzH H a = some u) : H a = some u ∧ ∃ o z, u = .frz o z := by
  unfold fzH at h
  split at h
  · rename_i o z e
    cases h
    exact ⟨e, _, _, rfl⟩
  · cases h
theorem fzH_of {H : Hp} {a : Addr} {o : Obj} {u : HO} (h : H a = some (.frz o u)) : fzH H a = some (.frz o u) := by
  unfold fzH; rw [h]
theorem fz_sql {K : Frag} {H : Hp} {a : Addr} {xs : List V} (h : SqL K (fzH H) a xs) : SqL K H a xs := by
  rcases h with (h | ⟨ob, h⟩) | h
  · obtain ⟨_, _, _, e⟩ := fzH_some h
    cases e
  · exact .inl (.inr ⟨ob, (fzH_some h).1⟩)
  · exact .inr h
theorem fz_mono {K : Frag} {H H' : Hp} {a : Addr} {xs : List V} (hk : ∀ u, H a = some u → H' a = some u) (h : SqL K (fzH H) a xs) : SqL K (fzH H') a xs := by
  rcases h with (h | ⟨ob, h⟩) | h
  · obtain ⟨_, _, _, e⟩ := fzH_some h
    cases e
  · exact .inl (.inr ⟨ob, fzH_of (hk _ (fzH_some h).1)⟩)
  · exact .inr h
/-- a dict whose keys are tuples of ints: the keys' tuples by their addresses -/
def DicT0 (P : Program) (w : World) (h : Heap) (a : Addr) (L : List (List Int × Addr × V)) : Prop := L.length ≤ sizeLine ∧ (a == sysModules) = false ∧ ∃ xs : List (List Int × Addr × Value),
  Paired (fun p q => p.1 = q.1 ∧ p.2.1 = q.2.1 ∧ RelV p.2.2 q.2.2) L xs ∧ ∃ o es ep, h.get? a = some o ∧ o.ExactDict ∧ o.data = .dict es ep ∧ es.toList = xs.map (entryOfKey (tupleKind (intKind P w))) ∧ (xs.map (·.1)).Nodup
def DicTO (P : Program) (w : World) (a : Addr) (L : List (List Int × Addr × V)) : HO := .ext fun h => DicT0 P w h a L
/-- an object of the store at its address -/
def RO (K : Frag) (cl : Clm) (H : Hp) (r : Rho) : O → Addr → Prop
  | .lst l, a => ∃ xs, H a = some (.lst xs) ∧ RDs K H r l xs
  | .frz l, a => ∃ xs, SqL K (fzH H) a xs ∧ RDs K H r l xs
  | .ins c fs, a => ∃ C dx vs, cl c = some C ∧ H a = some (.ins C dx vs) ∧ RF K H r fs vs
  | .set l, a => ∃ L : List (Addr × List Int), H a = some (SetTO cl.P cl.w a L) ∧ (∀ p ∈ L, SqT K H p.1 (p.2.map V.int)) ∧ (∀ k, k ∈ L.map (·.2) ↔ k ∈ l) ∧ L.length ≤ l.length
  | .dT l, a => ∃ L : List (List Int × Addr × V), H a = some (DicTO cl.P cl.w a L) ∧ Paired (fun d p => d.1 = p.1 ∧ SqT K H p.2.1 (p.1.map V.int) ∧ RD K H r d.2 p.2.2) l L
  | .dK l, a => ∃ kvs : List (Key × V), H a = some (.dK kvs) ∧ Paired (fun d p => d.1 = p.1 ∧ RD K H r d.2 p.2) l kvs
def isFrz : O → Bool
  | .frz _ => true
  | _ => false
structure RS (K : Frag) (cl : Clm) (r : Rho) (st : S) (H : Hp) : Prop where
  dom : ∀ n a, r n = some a → n < st.length
  at_ : ∀ n o, st[n]? = some o → ∃ a, r n = some a ∧ RO K cl H r o a
  inj : ∀ m n a, m ≠ 0 → n ≠ 0 → r m = some a → r n = some a → m = n
  fz : ∀ n o, st[n]? = some o → (isFrz o = true ↔ n = 0)
  pos : 0 < st.length
/-- the slots -/
def RE (K : Frag) (H : Hp) (r : Rho) (en : En) (s : St) : Prop := en.length = s.length ∧ ∀ (i : Nat) (d : D), en[i]? = some (some d) → ∃ v : V, s[i]? = some (some v) ∧ RD K H r d v
/-- an exception: its class, its own dict -/
def RX (K : Frag) (cl : Clm) (H : Hp) (r : Rho) (e : Ex) (c : Value) (d : Option Addr) : Prop := ∃ C, cl e.cls = some C ∧ c = .ref C ∧
  ((e.fs = [] ∧ d = none) ∨ ∃ dx vs, d = some dx ∧ H dx = some (.xd vs) ∧ RF K H r e.fs vs)

theorem RF.mono {K : Frag} {r r' : Rho} {H H' : Hp} (x : Mn K r H r' H') {fs : List (Str × D)} {vs : List (Str × V)} (h : RF K H r fs vs) : RF K H' r' fs vs := Paired.mapP h fun _ _ q => ⟨q.1, q.2.mono x⟩
theorem RE.mono {K : Frag} {r r' : Rho} {H H' : Hp} (x : Mn K r H r' H') {en : En} {s : St} (h : RE K H r en s) : RE K H' r' en s :=
  ⟨h.1, fun i d e => let ⟨v, a, b⟩ := h.2 i d e; ⟨v, a, b.mono x⟩⟩

/-- what is wanted behind a computation -/
def Po {α : Type} (K : Frag) (cl : Clm) (r : Rho) (H : Hp) (W : WX) (o : Out α) (k : Rho → Hp → α → S → Prop) : Prop := match o with
  | .ok a st => ∀ r' H', Xt K r H r' H' → RS K cl r' st H' → k r' H' a st
  | .exc e en st => ∀ r' H' s c d, Xt K r H r' H' → RS K cl r' st H' → RE K H' r' en s → RX K cl H' r' e c d → W c d s H'
  | .bad => False
section
variable {K : Frag} {cl : Clm} {r r' : Rho} {H H' : Hp} {W : WX} {α β : Type}
theorem Po.xt {o : Out α} {k : Rho → Hp → α → S → Prop} (x : Xt K r H r' H') (h : Po K cl r H W o k) : Po K cl r' H' W o k := by
  cases o with
  | ok a st => exact fun r2 H2 y s => h r2 H2 (x.trans y) s
  | exc e en st => exact fun r2 H2 s c d y z q1 q2 => h r2 H2 s c d (x.trans y) z q1 q2
  | bad => exact h
theorem Po.mono {o : Out α} {k k' : Rho → Hp → α → S → Prop} (h : Po K cl r H W o k) (q : ∀ r' H' a st, Xt K r H r' H' → RS K cl r' st H' → k r' H' a st → k' r' H' a st) : Po K cl r H W o k' := by
  cases o with
  | ok a st => exact fun r2 H2 y s => q r2 H2 a st y s (h r2 H2 y s)
  | exc e en st => exact h
  | bad => exact h
theorem Po.bind {x : Out α} {f : α → S → Out β} {k : Rho → Hp → β → S → Prop} (h : Po K cl r H W (x.bind f) k) : Po K cl r H W x fun r' H' a st => Po K cl r' H' W (f a st) k := by
  cases x with
  | ok a st =>
    intro r1 H1 y s
    exact Po.xt y h
  | exc e en st => exact h
  | bad => exact h
end

/-! ### computations as readings -/
def tE (K : Frag) (cl : Clm) (W : WX) (m : EM) : TE := fun s H Q => ∃ r en st, RE K H r en s ∧ RS K cl r st H ∧ Po K cl r H W (m en st) fun r' H' d _ => ∀ v, RD K H' r' d v → Q v H'
def tT (K : Frag) (cl : Clm) (W : WX) (m : TM) : TT := fun s H Q => ∃ r en st, RE K H r en s ∧ RS K cl r st H ∧ Po K cl r H W (m en st) fun r' H' b _ => Q b H'
def tA (K : Frag) (cl : Clm) (W : WX) (m : AM) : TA := fun s H Q => ∃ r en st, RE K H r en s ∧ RS K cl r st H ∧ Po K cl r H W (m en st) fun r' H' ds _ => ∀ vs, RDs K H' r' ds vs → Q vs H'
def endOf (K : Frag) (Dn : Ends) (r : Rho) (H : Hp) (s : St) : Fl → Prop
  | .nx => Dn.nx s H
  | .bk => Dn.bk s H
  | .ct => Dn.ct s H
  | .ret d => ∀ v, RD K H r d v → Dn.rt v H
def tS (K : Frag) (cl : Clm) (W : WX) (m : SM) : TS := fun Dn s H => ∃ r en st, RE K H r en s ∧ RS K cl r st H ∧ Po K cl r H W (m en st) fun r' H' p _ => ∀ s', RE K H' r' p.2 s' → endOf K Dn r' H' s' p.1

structure SE (X : Cx) (cl : Clm) (W : WX) (e : Expr) (m : EM) : Prop where
  pe : PE X e (tE X.K cl W m)
structure SB (X : Cx) (cl : Clm) (W : WX) (e : Expr) (m : TM) : Prop where
  pt : PT X e (tT X.K cl W m)
structure SA (X : Cx) (cl : Clm) (W : WX) (es : List Expr) (m : AM) : Prop where
  pa : PA X es (tA X.K cl W m)
structure SS (X : Cx) (cl : Clm) (W : WX) (st : Stmt) (m : SM) : Prop where
  ps : PS X st (tS X.K cl W m)
structure SL (X : Cx) (cl : Clm) (W : WX) (st : List Stmt) (m : SM) : Prop where
  pss : PSs X st (tS X.K cl W m)

section
variable {X : Cx}
theorem pe_of {e : Expr} {t t' : TE} (h : PE X e t) (q : ∀ s H Q, t' s H Q → t s H Q) : PE X e t' := ⟨fun pins s σ H Q I w => h.run pins s σ H Q I (q _ _ _ w)⟩
theorem pt_of {e : Expr} {t t' : TT} (h : PT X e t) (q : ∀ s H Q, t' s H Q → t s H Q) : PT X e t' := ⟨fun pins s σ H Q I w => h.run pins s σ H Q I (q _ _ _ w)⟩
theorem pw_of {e : Expr} {t t' : TT} (h : PW X e t) (q : ∀ s H Q, t' s H Q → t s H Q) : PW X e t' := ⟨fun wh pins s σ H Q I w => h.run wh pins s σ H Q I (q _ _ _ w)⟩
theorem pa_of {e : List Expr} {t t' : TA} (h : PA X e t) (q : ∀ s H Q, t' s H Q → t s H Q) : PA X e t' := ⟨fun pos pins s σ H Q I w => h.run pos pins s σ H Q I (q _ _ _ w)⟩
theorem ps_of {e : Stmt} {t t' : TS} (h : PS X e t) (q : ∀ D s H, t' D s H → t D s H) : PS X e t' := ⟨fun pins s σ H D I w => h.run pins s σ H D I (q _ _ _ w)⟩
theorem pss_of {e : List Stmt} {t t' : TS} (h : PSs X e t) (q : ∀ D s H, t' D s H → t D s H) : PSs X e t' := ⟨fun pins s σ H D I w => h.run pins s σ H D I (q _ _ _ w)⟩
end

/-! ### the store's steps and the heap's -/
section
variable {K : Frag} {cl : Clm} {r : Rho} {st : S} {H : Hp}
theorem upd_eq {H : Hp} {a b : Addr} {o : HO} : upd H a o b = if b = a then some o else H b := rfl
theorem sqt_upd {a b : Addr} {o : HO} {xs : List V} (hn : ∀ ys, H a ≠ some (.tup ys)) (hf : ∀ ob u, H a ≠ some (.frz ob u)) (h : SqT K H b xs) : SqT K (upd H a o) b xs := by
  rcases h with (h | ⟨ob, h⟩) | h
  · exact .inl (.inl (by rw [upd_ne (fun e => by subst e; exact hn _ h)]; exact h))
  · exact .inl (.inr ⟨ob, by rw [upd_ne (fun e => by subst e; exact hf _ _ h)]; exact h⟩)
  · exact .inr h
/-- a new object that bears no number -/
theorem Xt.fresh {p : Addr} {o : HO} (hp : H p = none) : Xt K r H r (upd H p o) where
  ext := fun _ _ h => h
  new := fun _ _ h => .inl h
  keep := fun b u h _ => by rw [upd_ne (ne_of_none h hp)]; exact h
  there := fun b h => by
    by_cases e : b = p
    · subst e; exact hp
    · rw [upd_ne e] at h; exact h
  sqt := fun b xs h => sqt_upd (fun ys e => by rw [hp] at e; cases e) (fun _ _ e => by rw [hp] at e; cases e) h
theorem RO.xt {r' : Rho} {H' : Hp} {o : O} {a : Addr} (x : Mn K r H r' H') (hk : ∀ u, H a = some u → H' a = some u) (h : RO K cl H r o a) : RO K cl H' r' o a := by
  cases o with
  | lst l =>
    obtain ⟨xs, h1, h2⟩ := h
    exact ⟨xs, hk _ h1, h2.mono x⟩
  | frz l =>
    obtain ⟨xs, h1, h2⟩ := h
    exact ⟨xs, fz_mono hk h1, h2.mono x⟩
  | ins c fs =>
    obtain ⟨C, dx, vs, h1, h2, h3⟩ := h
    exact ⟨C, dx, vs, h1, hk _ h2, h3.mono x⟩
  | set l =>
    obtain ⟨L, h1, h2, h3⟩ := h
    exact ⟨L, hk _ h1, fun p hp => x.sqt _ _ (h2 p hp), h3⟩
  | dT l =>
    obtain ⟨L, h1, h2⟩ := h
    exact ⟨L, hk _ h1, Paired.mapP h2 fun _ _ q => ⟨q.1, x.sqt _ _ q.2.1, q.2.2.mono x⟩⟩
  | dK l =>
    obtain ⟨L, h1, h2⟩ := h
    exact ⟨L, hk _ h1, Paired.mapP h2 fun _ _ q => ⟨q.1, q.2.mono x⟩⟩
/-- a thing that bears no number is made -/
theorem RS.fresh {p : Addr} {o : HO} (h : RS K cl r st H) (hp : H p = none) : RS K cl r st (upd H p o) :=
  ⟨h.dom, fun n u e => let ⟨a, h1, h2⟩ := h.at_ n u e; ⟨a, h1, h2.xt (Xt.fresh hp).mn fun z q => by rw [upd_ne (ne_of_none q hp)]; exact q⟩, h.inj, h.fz, h.pos⟩
/-- the next number -/
def nxt (r : Rho) (n : Nat) (p : Addr) : Rho := fun m => if m = n then some p else r m
theorem nxt_self {n : Nat} {p : Addr} : nxt r n p n = some p := by unfold nxt; rw [if_pos rfl]
theorem nxt_old {n m : Nat} {p : Addr} (h : m ≠ n) : nxt r n p m = r m := by unfold nxt; rw [if_neg h]
/-- an object that stands at p already gets the next number; p was free at H0 -/
theorem Xt.name {p : Addr} {H0 : Hp} {r0 : Rho} (x : Xt K r0 H0 r H) (hp : H0 p = none) (hd : ∀ n a, r n = some a → n < st.length) : Xt K r0 H0 (nxt r st.length p) H where
  ext := fun n a h => by
    have h1 := x.ext n a h
    rw [nxt_old (Nat.ne_of_lt (hd _ _ h1))]
    exact h1
  new := fun n a h => by
    by_cases e : n = st.length
    · subst e; rw [nxt_self] at h; cases h; exact .inr hp
    · rw [nxt_old e] at h; exact x.new n a h
  keep := x.keep
  there := x.there
  sqt := x.sqt
theorem Xt.nxt0 {p : Addr} (hd : ∀ n a, r n = some a → n < st.length) : ∀ n a, r n = some a → nxt r st.length p n = some a := fun n a h => by rw [nxt_old (Nat.ne_of_lt (hd _ _ h))]; exact h
theorem RS.ne0 (h : RS K cl r st H) {n : Nat} {o : O} (e : st[n]? = some o) (f : isFrz o = false) : n ≠ 0 := fun z => by
  have := (h.fz n o e).mpr z
  rw [f] at this; cases this
/-- what bears a number stands in the heap -/
theorem RS.some_of (h : RS K cl r st H) {n : Nat} {a : Addr} (n0 : n ≠ 0) (e : r n = some a) : H a ≠ none := fun z => by
  have hl := h.dom n a e
  obtain ⟨b, e1, e2⟩ := h.at_ n st[n] (List.getElem?_eq_getElem hl)
  rw [e] at e1; cases e1
  cases q : st[n] with
  | lst l => rw [q] at e2; obtain ⟨xs, y, _⟩ := e2; rw [z] at y; cases y
  | frz l => exact n0 ((h.fz n st[n] (List.getElem?_eq_getElem hl)).mp (by rw [q]; rfl))
  | ins c fs => rw [q] at e2; obtain ⟨_, _, _, _, y, _⟩ := e2; rw [z] at y; cases y
  | set l => rw [q] at e2; obtain ⟨_, y, _⟩ := e2; rw [z] at y; cases y
  | dT l => rw [q] at e2; obtain ⟨_, y, _⟩ := e2; rw [z] at y; cases y
  | dK l => rw [q] at e2; obtain ⟨_, y, _⟩ := e2; rw [z] at y; cases y
/-- the object at p, which no number stands for, gets the next one -/
theorem RS.push {p : Addr} {o : O} (h : RS K cl r st H) (hn : ∀ n, n ≠ 0 → r n ≠ some p) (ho : RO K cl H (nxt r st.length p) o p) (hf : isFrz o = false) : RS K cl (nxt r st.length p) (st ++ [o]) H where
  dom := fun n a e => by
    rw [List.length_append, List.length_singleton]
    by_cases q : n = st.length
    · omega
    · rw [nxt_old q] at e; have := h.dom n a e; omega
  at_ := fun n u e => by
    by_cases q : n = st.length
    · subst q
      rw [List.getElem?_append_right (Nat.le_refl _), Nat.sub_self] at e
      simp at e; subst e
      exact ⟨p, nxt_self, ho⟩
    · have hl : n < st.length := by
        have := (List.getElem?_eq_some_iff.mp e).1
        rw [List.length_append, List.length_singleton] at this; omega
      rw [List.getElem?_append_left hl] at e
      obtain ⟨a, h1, h2⟩ := h.at_ n u e
      exact ⟨a, by rw [nxt_old q]; exact h1, h2.xt (r' := nxt r st.length p) (H' := H) ⟨Xt.nxt0 h.dom, fun _ _ z => z⟩ fun _ z => z⟩
  inj := fun m n a m0 n0 e1 e2 => by
    by_cases q1 : m = st.length
    · by_cases q2 : n = st.length
      · rw [q1, q2]
      · subst q1
        rw [nxt_self] at e1; cases e1
        rw [nxt_old q2] at e2
        exact absurd e2 (hn n n0)
    · by_cases q2 : n = st.length
      · subst q2
        rw [nxt_self] at e2; cases e2
        rw [nxt_old q1] at e1
        exact absurd e1 (hn m m0)
      · rw [nxt_old q1] at e1
        rw [nxt_old q2] at e2
        exact h.inj m n a m0 n0 e1 e2
  fz := fun n u e => by
    by_cases q : n = st.length
    · subst q
      rw [List.getElem?_append_right (Nat.le_refl _), Nat.sub_self] at e
      simp at e; subst e
      have := h.pos
      rw [hf]; constructor
      · intro z; cases z
      · intro z; omega
    · have hl : n < st.length := by
        have := (List.getElem?_eq_some_iff.mp e).1
        rw [List.length_append, List.length_singleton] at this; omega
      rw [List.getElem?_append_left hl] at e
      exact h.fz n u e
  pos := by rw [List.length_append]; have := h.pos; omega
/-- a new object with a number -/
theorem push_new {p : Addr} {o : O} {u : HO} (h : RS K cl r st H) (hp : H p = none) (ho : RO K cl (upd H p u) (nxt r st.length p) o p) (hf : isFrz o = false) :
    RS K cl (nxt r st.length p) (st ++ [o]) (upd H p u) ∧ Xt K r H (nxt r st.length p) (upd H p u) :=
  ⟨(h.fresh hp).push (fun n n0 e => h.some_of n0 e hp) ho hf, (Xt.fresh hp).name hp h.dom⟩
/-- an object that may change: a list, an instance -/
def Mu (u : HO) : Prop := (∃ xs, u = .lst xs) ∨ (∃ C dx fs, u = .ins C dx fs) ∨ (∃ f, u = .ext f) ∨ ∃ kvs, u = .dK kvs
theorem Mu.nt {H : Hp} {a : Addr} {u : HO} (mu : Mu u) (hu : H a = some u) : ∀ ys, H a ≠ some (.tup ys) := fun ys e => by
  rw [hu] at e; cases e
  rcases mu with ⟨_, z⟩ | ⟨_, _, _, z⟩ | ⟨_, z⟩ | ⟨_, z⟩ <;> cases z
theorem Mu.nf {H : Hp} {a : Addr} {u : HO} (mu : Mu u) (hu : H a = some u) : ∀ ob w, H a ≠ some (.frz ob w) := fun ob w e => by
  rw [hu] at e; cases e
  rcases mu with ⟨_, z⟩ | ⟨_, _, _, z⟩ | ⟨_, z⟩ | ⟨_, z⟩ <;> cases z
/-- the object with the number n is changed -/
theorem write_at {n : Nat} {a : Addr} {u u' : HO} {o : O} (h : RS K cl r st H) (n0 : n ≠ 0) (hr : r n = some a) (hu : H a = some u) (mu : Mu u) (hf : isFrz o = false)
    (ho : RO K cl (upd H a u') r o a) : RS K cl r (st.set n o) (upd H a u') ∧ Xt K r H r (upd H a u') := by
  have x : Xt K r H r (upd H a u') := ⟨fun _ _ z => z, fun _ _ z => .inl z, fun b w z hn => by rw [upd_ne (fun e => hn n n0 (by rw [e]; exact hr))]; exact z, fun b z => by
    by_cases e : b = a
    · subst e; rw [upd_same] at z; cases z
    · rw [upd_ne e] at z; exact z, fun b xs z => sqt_upd (mu.nt hu) (mu.nf hu) z⟩
  refine ⟨⟨fun m b e => by rw [List.length_set]; exact h.dom m b e, fun m w e => ?_, h.inj, fun m w e => ?_, by rw [List.length_set]; exact h.pos⟩, x⟩
  · by_cases q : m = n
    · subst q
      rw [List.getElem?_set_self (h.dom _ _ hr)] at e; cases e
      exact ⟨a, hr, ho⟩
    · rw [List.getElem?_set_ne (Ne.symm q)] at e
      obtain ⟨b, z1, z2⟩ := h.at_ m w e
      by_cases y : b = a
      · subst y
        by_cases m0 : m = 0
        · have fw := (h.fz m w e).mpr m0
          cases w with
          | lst l => cases fw
          | ins c fs => cases fw
          | set l => cases fw
          | dT l => cases fw
          | dK l => cases fw
          | frz l =>
            obtain ⟨xs, y1, y2⟩ := z2
            refine ⟨b, z1, xs, ?_, y2.mono x.mn⟩
            rcases y1 with (y1 | ⟨ob, y1⟩) | y1
            · obtain ⟨_, _, _, e'⟩ := fzH_some y1
              cases e'
            · exact absurd (fzH_some y1).1 (mu.nf hu _ _)
            · exact .inr y1
        · exact absurd (h.inj m n b m0 n0 z1 hr) q
      · exact ⟨b, z1, z2.xt x.mn fun w' z => by rw [upd_ne y]; exact z⟩
  · by_cases q : m = n
    · subst q
      rw [List.getElem?_set_self (h.dom _ _ hr)] at e; cases e
      rw [hf]; constructor
      · intro z; cases z
      · intro z; exact absurd z n0
    · rw [List.getElem?_set_ne (Ne.symm q)] at e
      exact h.fz m w e
end
end Dn

/-! Dn, B: expressions. -/
namespace Dn
open PySem L2

/-! ### names, constants -/
def dVar (i : Nat) : EM := fun en st => match en[i]? with
  | some (some d) => .ok d st
  | _ => .bad
def dC (d : D) : EM := fun _ st => .ok d st
section
variable {X : Cx} {cl : Clm} {W : WX} {e a b c : Expr} {pos : Pos}
theorem se_var {i : Nat} (h : PE X e (tVar i)) : SE X cl W e (dVar i) := ⟨pe_of h fun s H Q ⟨r, en, st, he, hs, hp⟩ => by
  unfold dVar at hp
  split at hp
  · rename_i d e
    obtain ⟨v, h1, h2⟩ := he.2 i d e
    exact ⟨v, h1, hp r H .refl hs v h2⟩
  · exact hp.elim⟩
theorem se_c {v : V} {d : D} (h : PE X e (tC v)) (hd : ∀ H r, RD X.K H r d v) : SE X cl W e (dC d) := ⟨pe_of h fun s H Q ⟨r, en, st, he, hs, hp⟩ => hp r H .refl hs v (hd H r)⟩
theorem se_int {i : Int} {j pos} : SE X cl W (.Constant (.int i) j pos) (dC (.int i)) := se_c pe_int fun _ _ => .int
theorem se_bl {i : Bool} {j pos} : SE X cl W (.Constant (.bool i) j pos) (dC (.bl i)) := se_c pe_bl fun _ _ => .bl
theorem se_non {j pos} : SE X cl W (.Constant .none j pos) (dC .non) := se_c pe_non fun _ _ => .non
theorem se_str {x : Str} {j pos} : SE X cl W (.Constant (.str x) j pos) (dC (.str x)) := se_c pe_str fun _ _ => .str
end

/-! ### operators by values -/
/-- f tells what r asks -/
def Op2 (K : Frag) (cl : Clm) (f : D → D → S → Out D) (p : R2) : Prop := ∀ (r : Rho) (st : S) (H : Hp) (W : WX) (x y : D) (v w : V) (Q : VK), RS K cl r st H → RD K H r x v → RD K H r y w →
  Po K cl r H W (f x y st) (fun r' H' d _ => ∀ z, RD K H' r' d z → Q z H') → p v w H Q
def Op1 (K : Frag) (cl : Clm) (f : D → S → Out D) (p : V → Hp → VK → Prop) : Prop := ∀ (r : Rho) (st : S) (H : Hp) (W : WX) (x : D) (v : V) (Q : VK), RS K cl r st H → RD K H r x v →
  Po K cl r H W (f x st) (fun r' H' d _ => ∀ z, RD K H' r' d z → Q z H') → p v H Q
def OpN (K : Frag) (cl : Clm) (f : List D → S → Out D) (p : List V → Hp → VK → Prop) : Prop := ∀ (r : Rho) (st : S) (H : Hp) (W : WX) (xs : List D) (vs : List V) (Q : VK), RS K cl r st H → RDs K H r xs vs →
  Po K cl r H W (f xs st) (fun r' H' d _ => ∀ z, RD K H' r' d z → Q z H') → p vs H Q
/-- a method: its object, its arguments -/
def OpM (K : Frag) (cl : Clm) (f : D → List D → S → Out D) (p : V → List V → Hp → VK → Prop) : Prop := ∀ (r : Rho) (st : S) (H : Hp) (W : WX) (x : D) (xs : List D) (v : V) (vs : List V) (Q : VK), RS K cl r st H → RD K H r x v → RDs K H r xs vs →
  Po K cl r H W (f x xs st) (fun r' H' d _ => ∀ z, RD K H' r' d z → Q z H') → p v vs H Q
def dO2 (f : D → D → S → Out D) (ma mb : EM) : EM := fun en st => (ma en st).bind fun x st1 => (mb en st1).bind fun y st2 => f x y st2
def dO1 (f : D → S → Out D) (ma : EM) : EM := fun en st => (ma en st).bind fun x st1 => f x st1
def dNil : AM := fun _ st => .ok [] st
def dCons (ma : EM) (mr : AM) : AM := fun en st => (ma en st).bind fun x st1 => (mr en st1).bind fun xs st2 => .ok (x :: xs) st2
def dON (f : List D → S → Out D) (ma : AM) : EM := fun en st => (ma en st).bind fun xs st1 => f xs st1
def dOM (f : D → List D → S → Out D) (ma : EM) (mr : AM) : EM := fun en st => (ma en st).bind fun x st1 => (mr en st1).bind fun xs st2 => f x xs st2
section
variable {K : Frag} {cl : Clm} {W : WX} {s : St} {H : Hp} {Q : VK}
theorem tE_o2 {f : D → D → S → Out D} {p : R2} (hf : Op2 K cl f p) {ma mb : EM} (h : tE K cl W (dO2 f ma mb) s H Q) : tOp p (tE K cl W ma) (tE K cl W mb) s H Q := by
  obtain ⟨r, en, st, he, hs, hp⟩ := h
  refine ⟨r, en, st, he, hs, (Po.bind hp).mono fun r1 H1 d1 st1 x1 s1 h1 v1 q1 => ?_⟩
  refine ⟨r1, en, st1, he.mono x1.mn, s1, (Po.bind h1).mono fun r2 H2 d2 st2 x2 s2 h2 v2 q2 => ?_⟩
  exact hf r2 st2 H2 W d1 d2 v1 v2 Q s2 (q1.mono x2.mn) q2 h2
theorem tE_o1 {f : D → S → Out D} {p : V → Hp → VK → Prop} (hf : Op1 K cl f p) {ma : EM} (h : tE K cl W (dO1 f ma) s H Q) : tE K cl W ma s H fun x H1 => p x H1 Q := by
  obtain ⟨r, en, st, he, hs, hp⟩ := h
  refine ⟨r, en, st, he, hs, (Po.bind hp).mono fun r1 H1 d1 st1 x1 s1 h1 v1 q1 => ?_⟩
  exact hf r1 st1 H1 W d1 v1 Q s1 q1 h1
theorem tA_cons {ma : EM} {mr : AM} {Q : List V → Hp → Prop} (h : tA K cl W (dCons ma mr) s H Q) : tCons (tE K cl W ma) (tA K cl W mr) s H Q := by
  obtain ⟨r, en, st, he, hs, hp⟩ := h
  refine ⟨r, en, st, he, hs, (Po.bind hp).mono fun r1 H1 d1 st1 x1 s1 h1 v1 q1 => ?_⟩
  refine ⟨r1, en, st1, he.mono x1.mn, s1, (Po.bind h1).mono fun r2 H2 ds st2 x2 s2 h2 vs q2 => ?_⟩
  exact h2 r2 H2 .refl s2 _ (.cons (q1.mono x2.mn) q2)
theorem tE_on {f : List D → S → Out D} {p : List V → Hp → VK → Prop} (hf : OpN K cl f p) {ma : AM} (h : tE K cl W (dON f ma) s H Q) : tA K cl W ma s H fun xs H1 => p xs H1 Q := by
  obtain ⟨r, en, st, he, hs, hp⟩ := h
  refine ⟨r, en, st, he, hs, (Po.bind hp).mono fun r1 H1 ds st1 x1 s1 h1 vs q1 => ?_⟩
  exact hf r1 st1 H1 W ds vs Q s1 q1 h1
theorem tE_om {f : D → List D → S → Out D} {p : V → List V → Hp → VK → Prop} (hf : OpM K cl f p) {ma : EM} {mr : AM} (h : tE K cl W (dOM f ma mr) s H Q) :
    tE K cl W ma s H fun x H1 => tA K cl W mr s H1 fun xs H2 => p x xs H2 Q := by
  obtain ⟨r, en, st, he, hs, hp⟩ := h
  refine ⟨r, en, st, he, hs, (Po.bind hp).mono fun r1 H1 d1 st1 x1 s1 h1 v1 q1 => ?_⟩
  refine ⟨r1, en, st1, he.mono x1.mn, s1, (Po.bind h1).mono fun r2 H2 ds st2 x2 s2 h2 vs q2 => ?_⟩
  exact hf r2 st2 H2 W d1 ds v1 vs Q s2 (q1.mono x2.mn) q2 h2
end
section
variable {X : Cx} {cl : Clm} {W : WX} {e a b c : Expr} {es : List Expr} {pos : Pos} {ma mb mc : EM} {mr : AM}
theorem se_bin {op : Operator} {f : D → D → S → Out D} {p : R2} (ho : OpR X (binaryOp op) p) (hf : Op2 X.K cl f p) (ha : SE X cl W a ma) (hb : SE X cl W b mb) : SE X cl W (.BinOp a op b pos) (dO2 f ma mb) :=
  ⟨pe_of (pe_op ho ha.pe hb.pe) fun _ _ _ h => tE_o2 hf h⟩
theorem se_un {op : UnaryOp} {f : D → S → Out D} {p : V → Hp → VK → Prop} (ho : UnR X (unaryOp op) p) (hf : Op1 X.K cl f p) (ha : SE X cl W a ma) : SE X cl W (.UnaryOp op a pos) (dO1 f ma) :=
  ⟨pe_of (pe_un ho ha.pe) fun _ _ _ h => tE_o1 hf h⟩
theorem se_cmp {op : CmpOp} {f : D → D → S → Out D} {p : R2} (ho : OpR X (compareOp op) p) (hf : Op2 X.K cl f p) (hm : behindInMarks op b = false) (ha : SE X cl W a ma) (hb : SE X cl W b mb) : SE X cl W (.Compare a [op] [b] pos) (dO2 f ma mb) :=
  ⟨pe_of (pe_cmpR ho ha.pe hb.pe hm) fun _ _ _ h => tE_o2 hf h⟩
theorem se_ix {f : D → D → S → Out D} {p : R2} (ho : IxR X p) (hf : Op2 X.K cl f p) (ha : SE X cl W a ma) (hb : SE X cl W b mb) (hs : PlainIx b) : SE X cl W (.Subscript a b pos) (dO2 f ma mb) :=
  ⟨pe_of (pe_ix ho ha.pe hb.pe hs) fun _ _ _ h => tE_o2 hf h⟩
theorem sa_nil : SA X cl W [] dNil := ⟨pa_of pa_nil fun _ H _ ⟨r, en, st, he, hs, hp⟩ => hp r H .refl hs [] .nil⟩
theorem sa_cons (ha : SE X cl W e ma) (hr : SA X cl W es mr) (hs : starEach (e :: es) X.env = (false, eval e X.env) :: starEach es X.env := by rfl) : SA X cl W (e :: es) (dCons ma mr) :=
  ⟨pa_of (pa_cons ha.pe hr.pa hs) fun _ _ _ h => tA_cons h⟩
end

/-! ### a value as a test -/
def dB (ma : EM) : TM := fun en st => (ma en st).bind fun x st1 => match x with
  | .bl k => .ok k st1
  | _ => .bad
def truD (st : S) : D → Option Bool
  | .non => some false
  | .bl b => some b
  | .int i => some (i != 0)
  | .str x => if x.length ≤ sizeLine then some ((x.length : Int) != 0) else none
  | .tup l => some (!l.isEmpty)
  | .ref n => match st[n]? with
    | some (.lst l) => some (!l.isEmpty)
    | some (.frz l) => some (!l.isEmpty)
    | _ => none
  | .ty _ => none
def dTru (ma : EM) : TM := fun en st => (ma en st).bind fun x st1 => match truD st1 x with
  | some k => .ok k st1
  | none => .bad
def dNotT (m : TM) : TM := fun en st => (m en st).bind fun k st1 => .ok (!k) st1
def dAndT (m n : TM) : TM := fun en st => (m en st).bind fun k st1 => if k then n en st1 else .ok false st1
def dOrT (m n : TM) : TM := fun en st => (m en st).bind fun k st1 => if k then .ok true st1 else n en st1
def dIfE (m : TM) (ma mb : EM) : EM := fun en st => (m en st).bind fun k st1 => if k then ma en st1 else mb en st1
/-- and, or of truth values as a value -/
def dAndV (ma mb : EM) : EM := fun en st => (ma en st).bind fun x st1 => match x with
  | .bl true => mb en st1
  | .bl false => .ok (.bl false) st1
  | _ => .bad
def dOrV (ma mb : EM) : EM := fun en st => (ma en st).bind fun x st1 => match x with
  | .bl true => .ok (.bl true) st1
  | .bl false => mb en st1
  | _ => .bad
def dNotV (ma : EM) : EM := fun en st => (ma en st).bind fun x st1 => match x with
  | .bl k => .ok (.bl (!k)) st1
  | _ => .bad
theorem RDs.isEmpty {K : Frag} {H : Hp} {r : Rho} {ds : List D} {vs : List V} (h : RDs K H r ds vs) : ds.isEmpty = vs.isEmpty := by
  have := h.length
  cases ds <;> cases vs <;> simp at this ⊢
section
variable {X : Cx} {cl : Clm} {W : WX} {e a b c : Expr} {rest : List Expr} {pos : Pos} {ma mb : EM} {m n : TM}
theorem sb_val (h : SE X cl W e ma) (he : ∀ whole, isTrue e X.env whole = (do let v ← whole; standAt e.pos; holding [v] (truthy v)) := by intro _; rfl) : SB X cl W e (dB ma) :=
  ⟨pt_of (pt_val h.pe he) fun s H Q ⟨r, en, st, he, hs, hp⟩ => ⟨r, en, st, he, hs, (Po.bind hp).mono fun r1 H1 d st1 x1 s1 h1 v q => by
    cases d with
    | bl k => exact ⟨k, q.bl_inv, h1 r1 H1 .refl s1⟩
    | _ => exact h1.elim⟩⟩
/-- a comparison as a test -/
theorem sb_cmp {op : CmpOp} {f : D → D → S → Out D} {p : R2} (ho : OpR X (compareOp op) p) (hf : Op2 X.K cl f p) (hm : behindInMarks op b = false) (ha : SE X cl W a ma) (hb : SE X cl W b mb) : SB X cl W (.Compare a [op] [b] pos) (dB (dO2 f ma mb)) :=
  ⟨pt_of (pt_cmpR ho ha.pe hb.pe hm) fun s H Q ⟨r, en, st, he, hs, hp⟩ => by
    refine tE_o2 (W := W) (Q := fun x H' => ∃ k, x = .bl k ∧ Q k H') hf ⟨r, en, st, he, hs, (Po.bind hp).mono fun r1 H1 d st1 x1 s1 h1 v q => ?_⟩
    cases d with
    | bl k => exact ⟨k, q.bl_inv, h1 r1 H1 .refl s1⟩
    | _ => exact h1.elim⟩
theorem truD_of {K : Frag} {r : Rho} {st : S} {H : Hp} {d : D} {v : V} {k : Bool} (hs : RS K cl r st H) (q : RD K H r d v) (e : truD st d = some k) : TruV K v H k := by
  cases d with
  | non => have := q.non_inv; subst this; simp only [truD, Option.some.injEq] at e; exact e.symm
  | bl b => have := q.bl_inv; subst this; simp only [truD, Option.some.injEq] at e; exact e.symm
  | int b => have := q.int_inv; subst this; simp only [truD, Option.some.injEq] at e; exact e.symm
  | str x =>
    have := q.str_inv; subst this
    simp only [truD] at e
    split at e
    · rename_i h
      cases e
      exact ⟨h, rfl⟩
    · cases e
  | tup l =>
    obtain ⟨a, xs, rfl, h1, h2⟩ := q.tup_inv
    simp only [truD, Option.some.injEq] at e
    subst e
    exact .inr (.inl ⟨xs, h1, by rw [h2.isEmpty]⟩)
  | ref n =>
    obtain ⟨a, rfl, h1⟩ := q.ref_inv
    simp only [truD] at e
    split at e
    · rename_i l g
      obtain ⟨b, e1, xs, e2, e3⟩ := hs.at_ n _ g
      rw [h1] at e1; cases e1
      cases e
      exact .inl ⟨xs, .of e2, by rw [e3.isEmpty]⟩
    · rename_i l g
      obtain ⟨b, e1, xs, e2, e3⟩ := hs.at_ n _ g
      rw [h1] at e1; cases e1
      cases e
      exact .inl ⟨xs, fz_sql e2, by rw [e3.isEmpty]⟩
    · cases e
  | ty n => simp only [truD] at e; cases e
theorem sb_tru (h : SE X cl W e ma) (he : ∀ whole, isTrue e X.env whole = (do let v ← whole; standAt e.pos; holding [v] (truthy v)) := by intro _; rfl) : SB X cl W e (dTru ma) :=
  ⟨pt_of (pt_truth h.pe he) fun s H Q ⟨r, en, st, he, hs, hp⟩ => ⟨r, en, st, he, hs, (Po.bind hp).mono fun r1 H1 d st1 x1 s1 h1 v q => by
    cases e : truD st1 d with
    | none => rw [e] at h1; exact h1.elim
    | some k => rw [e] at h1; exact ⟨k, truD_of s1 q e, h1 r1 H1 .refl s1⟩⟩⟩
theorem sb_not (h : SB X cl W a m) : SB X cl W (.UnaryOp .Not a pos) (dNotT m) :=
  ⟨pt_of (pt_not h.pt) fun s H Q ⟨r, en, st, he, hs, hp⟩ => ⟨r, en, st, he, hs, (Po.bind hp).mono fun r1 H1 k st1 x1 s1 h1 => h1 r1 H1 .refl s1⟩⟩
/-- and, or as tests: PW -/
structure SW (X : Cx) (cl : Clm) (W : WX) (e : Expr) (m : TM) : Prop where
  pw : PW X e (tT X.K cl W m)
theorem SW.sb (h : SW X cl W e m) : SB X cl W e m := ⟨h.pw.pt⟩
theorem sw_and1 (h : SB X cl W a m) : SW X cl W (.BoolOp .And [a] pos) m := ⟨pw_and1 h.pt⟩
theorem sw_or1 (h : SB X cl W a m) : SW X cl W (.BoolOp .Or [a] pos) m := ⟨pw_or1 h.pt⟩
theorem sw_and (h : SB X cl W a m) (h' : SW X cl W (.BoolOp .And (b :: rest) pos) n) : SW X cl W (.BoolOp .And (a :: b :: rest) pos) (dAndT m n) :=
  ⟨pw_of (pw_and h.pt h'.pw) fun s H Q ⟨r, en, st, he, hs, hp⟩ => ⟨r, en, st, he, hs, (Po.bind hp).mono fun r1 H1 k st1 x1 s1 h1 => by
    cases k with
    | true => rw [if_pos rfl] at h1 ⊢; exact ⟨r1, en, st1, he.mono x1.mn, s1, h1⟩
    | false => simp only [Bool.false_eq_true, if_false] at h1 ⊢; exact h1 r1 H1 .refl s1⟩⟩
theorem sw_or (h : SB X cl W a m) (h' : SW X cl W (.BoolOp .Or (b :: rest) pos) n) : SW X cl W (.BoolOp .Or (a :: b :: rest) pos) (dOrT m n) :=
  ⟨pw_of (pw_or h.pt h'.pw) fun s H Q ⟨r, en, st, he, hs, hp⟩ => ⟨r, en, st, he, hs, (Po.bind hp).mono fun r1 H1 k st1 x1 s1 h1 => by
    cases k with
    | true => rw [if_pos rfl] at h1 ⊢; exact h1 r1 H1 .refl s1
    | false => simp only [Bool.false_eq_true, if_false] at h1 ⊢; exact ⟨r1, en, st1, he.mono x1.mn, s1, h1⟩⟩⟩
theorem se_ifE (h : SB X cl W c m) (ha : SE X cl W a ma) (hb : SE X cl W b mb) : SE X cl W (.IfExp c a b pos) (dIfE m ma mb) :=
  ⟨pe_of (pe_ifExp h.pt ha.pe hb.pe) fun s H Q ⟨r, en, st, he, hs, hp⟩ => ⟨r, en, st, he, hs, (Po.bind hp).mono fun r1 H1 k st1 x1 s1 h1 => by
    cases k with
    | true => rw [if_pos rfl] at h1 ⊢; exact ⟨r1, en, st1, he.mono x1.mn, s1, h1⟩
    | false => simp only [Bool.false_eq_true, if_false] at h1 ⊢; exact ⟨r1, en, st1, he.mono x1.mn, s1, h1⟩⟩⟩
theorem se_one {op : BoolOp} (h : SE X cl W a ma) : SE X cl W (.BoolOp op [a] pos) ma := ⟨pe_one h.pe⟩
theorem se_and (ha : SE X cl W a ma) (hb : SE X cl W (.BoolOp .And (b :: rest) pos) mb) : SE X cl W (.BoolOp .And (a :: b :: rest) pos) (dAndV ma mb) :=
  ⟨pe_of (pe_and ha.pe hb.pe) fun s H Q ⟨r, en, st, he, hs, hp⟩ => ⟨r, en, st, he, hs, (Po.bind hp).mono fun r1 H1 d st1 x1 s1 h1 v q => by
    cases d with
    | bl k =>
      cases k with
      | true => exact ⟨true, q.bl_inv, by rw [if_pos rfl]; exact ⟨r1, en, st1, he.mono x1.mn, s1, h1⟩⟩
      | false => exact ⟨false, q.bl_inv, by rw [if_neg Bool.false_ne_true]; exact h1 r1 H1 .refl s1 _ .bl⟩
    | _ => exact h1.elim⟩⟩
theorem se_or (ha : SE X cl W a ma) (hb : SE X cl W (.BoolOp .Or (b :: rest) pos) mb) : SE X cl W (.BoolOp .Or (a :: b :: rest) pos) (dOrV ma mb) :=
  ⟨pe_of (pe_or ha.pe hb.pe) fun s H Q ⟨r, en, st, he, hs, hp⟩ => ⟨r, en, st, he, hs, (Po.bind hp).mono fun r1 H1 d st1 x1 s1 h1 v q => by
    cases d with
    | bl k =>
      cases k with
      | true => exact ⟨true, q.bl_inv, by rw [if_pos rfl]; exact h1 r1 H1 .refl s1 _ .bl⟩
      | false => exact ⟨false, q.bl_inv, by rw [if_neg Bool.false_ne_true]; exact ⟨r1, en, st1, he.mono x1.mn, s1, h1⟩⟩
    | _ => exact h1.elim⟩⟩
theorem se_not (ha : SE X cl W a ma) : SE X cl W (.UnaryOp .Not a pos) (dNotV ma) :=
  ⟨pe_of (pe_not ha.pe) fun s H Q ⟨r, en, st, he, hs, hp⟩ => ⟨r, en, st, he, hs, (Po.bind hp).mono fun r1 H1 d st1 x1 s1 h1 v q => by
    cases d with
    | bl k => exact ⟨k, q.bl_inv, h1 r1 H1 .refl s1 _ .bl⟩
    | _ => exact h1.elim⟩⟩
end

/-! ### arithmetic -/
def dAdd : D → D → S → Out D
  | .int i, .int j, st => .ok (.int (i + j)) st
  | .str a, .str b, st => if a.length + b.length ≤ sizeLine then .ok (.str (a ++ b)) st else .bad
  | .tup a, .tup b, st => if a.length + b.length ≤ sizeLine then .ok (.tup (a ++ b)) st else .bad
  | .ref a, .ref b, st => match st[a]?, st[b]? with
    | some (.lst xs), some (.lst ys) => if xs.length + ys.length ≤ sizeLine then .ok (.ref st.length) (st ++ [.lst (xs ++ ys)]) else .bad
    | _, _ => .bad
  | _, _, _ => .bad
def dSub : D → D → S → Out D
  | .int i, .int j, st => .ok (.int (i - j)) st
  | _, _, _ => .bad
def dMul : D → D → S → Out D
  | .int i, .int j, st => if (-(2 ^ 64) < i ∧ i < 2 ^ 64) ∨ (-(2 ^ 64) < j ∧ j < 2 ^ 64) then .ok (.int (i * j)) st else if i.natAbs.log2 + j.natAbs.log2 < 1000000 then .ok (.int (i * j)) st else .bad
  | .ref a, .int k, st => match st[a]? with
    | some (.lst xs) => if -(2 ^ 63) ≤ k ∧ k < 2 ^ 63 ∧ xs.length * k.toNat ≤ sizeLine then .ok (.ref st.length) (st ++ [.lst (List.replicate k.toNat xs).flatten]) else .bad
    | _ => .bad
  | _, _, _ => .bad
def dDiv : D → D → S → Out D
  | .int i, .int j, st => if 0 < j ∧ j.natAbs.log2 < 9000 then .ok (.int (i / j)) st else .bad
  | _, _, _ => .bad
def dMod : D → D → S → Out D
  | .int i, .int j, st => if 0 < j then .ok (.int (i % j)) st else .bad
  | _, _, _ => .bad
def dPow : D → D → S → Out D
  | .int i, .int j, st => if 0 ≤ j ∧ j ≤ 1000000 ∧ i.natAbs < 2 ^ 64 then .ok (.int (i ^ j.toNat)) st else .bad
  | _, _, _ => .bad
def dNeg : D → S → Out D
  | .int i, st => .ok (.int (-i)) st
  | _, _ => .bad
def pAdd (K : Frag) : R2 := fun x y H Q => rI0 (fun i j => .int (i + j)) x y H Q ∨ (∃ i j, x = .str i ∧ y = .str j ∧ i.length + j.length ≤ sizeLine ∧ Q (.str (i ++ j)) H) ∨ rCatA K x y H Q ∨ rCat x y H Q
theorem or_add {X : Cx} : OpR X (binaryOp .Add) (pAdd X.K) := op_add.or (op_add_str.or (op_catA.or op_cat))
theorem lst_at {K : Frag} {cl : Clm} {r : Rho} {st : S} {H : Hp} {n : Nat} {a : Addr} {l : List D} (hs : RS K cl r st H) (g : st[n]? = some (.lst l)) (h : r n = some a) : ∃ xs, H a = some (.lst xs) ∧ RDs K H r l xs := by
  obtain ⟨b, e1, xs, e2, e3⟩ := hs.at_ n _ g
  rw [h] at e1; cases e1
  exact ⟨xs, e2, e3⟩
theorem seq_at {K : Frag} {cl : Clm} {r : Rho} {st : S} {H : Hp} {n : Nat} {a : Addr} {l : List D} (hs : RS K cl r st H) (g : st[n]? = some (.lst l) ∨ st[n]? = some (.frz l)) (h : r n = some a) : ∃ xs, SqL K H a xs ∧ RDs K H r l xs := by
  rcases g with g | g
  · obtain ⟨xs, e1, e2⟩ := lst_at hs g h
    exact ⟨xs, .of e1, e2⟩
  · obtain ⟨b, e1, xs, e2, e3⟩ := hs.at_ n _ g
    rw [h] at e1; cases e1
    exact ⟨xs, fz_sql e2, e3⟩
/-- a new list, tuple behind a step -/
theorem new_lst {K : Frag} {cl : Clm} {r : Rho} {st : S} {H : Hp} {W : WX} {l : List D} {xs : List V} {Q : VK} (hs : RS K cl r st H) (h : RDs K H r l xs)
    (hp : Po K cl r H W (.ok (D.ref st.length) (st ++ [.lst l])) fun r' H' d _ => ∀ z, RD K H' r' d z → Q z H') : ∀ p, H p = none → Q (.ref p) (upd H p (.lst xs)) := fun p np => by
  obtain ⟨h1, h2⟩ := push_new (o := .lst l) (u := .lst xs) hs np ⟨xs, upd_same, h.mono ⟨Xt.nxt0 hs.dom, (Xt.fresh (r := r) np).sqt⟩⟩ rfl
  exact hp _ _ h2 h1 _ (.ref nxt_self)
theorem new_tup {K : Frag} {cl : Clm} {r : Rho} {st : S} {H : Hp} {W : WX} {l : List D} {xs : List V} {Q : VK} (hs : RS K cl r st H) (h : RDs K H r l xs)
    (hp : Po K cl r H W (.ok (D.tup l) st) fun r' H' d _ => ∀ z, RD K H' r' d z → Q z H') : ∀ p, H p = none → Q (.ref p) (upd H p (.tup xs)) := fun p np =>
  hp _ _ (Xt.fresh np) (hs.fresh np) _ (.tup (.of upd_same) (h.mono (Xt.fresh np).mn))
theorem op2_add {K : Frag} {cl : Clm} : Op2 K cl dAdd (pAdd K) := by
  intro r st H W x y v w Q hs hx hy hp
  unfold dAdd at hp
  split at hp
  · rw [hx.int_inv, hy.int_inv]
    exact .inl ⟨_, _, rfl, rfl, hp r H .refl hs _ .int⟩
  · split at hp
    · rename_i hz
      rw [hx.str_inv, hy.str_inv]
      exact .inr (.inl ⟨_, _, rfl, rfl, hz, hp r H .refl hs _ .str⟩)
    · exact hp.elim
  · split at hp
    · rename_i l1 l2 hz
      obtain ⟨a, xs, rfl, h1, h2⟩ := hx.tup_inv
      obtain ⟨b, ys, rfl, g1, g2⟩ := hy.tup_inv
      refine .inr (.inr (.inl ⟨a, b, xs, ys, rfl, rfl, h1, g1, by rw [← h2.length, ← g2.length]; exact hz, fun e => ?_, fun e1 e2 => ?_, fun e1 e2 p np => new_tup hs (h2.append g2) hp p np⟩))
      · subst e
        have hl := h2.length
        have e0 : l1 = [] := List.length_eq_zero_iff.mp hl
        subst e0
        exact hp r H .refl hs _ (.tup g1 (by simpa using g2))
      · subst e2
        have hl := g2.length
        have e0 : l2 = [] := List.length_eq_zero_iff.mp hl
        subst e0
        exact hp r H .refl hs _ (.tup h1 (by simpa using h2))
    · exact hp.elim
  · obtain ⟨a, rfl, h1⟩ := hx.ref_inv
    obtain ⟨b, rfl, g1⟩ := hy.ref_inv
    split at hp
    · rename_i xs ys q1 q2
      split at hp
      · rename_i hz
        obtain ⟨us, e1, e2⟩ := lst_at hs q1 h1
        obtain ⟨ws, f1, f2⟩ := lst_at hs q2 g1
        exact .inr (.inr (.inr ⟨a, b, us, ws, rfl, rfl, e1, f1, by rw [← e2.length, ← f2.length]; exact hz, new_lst hs (e2.append f2) hp⟩))
      · exact hp.elim
    · exact hp.elim
  · exact hp.elim
theorem op2_sub {K : Frag} {cl : Clm} : Op2 K cl dSub (rI0 fun i j => .int (i - j)) := by
  intro r st H W x y v w Q hs hx hy hp
  unfold dSub at hp
  split at hp
  · rw [hx.int_inv, hy.int_inv]
    exact ⟨_, _, rfl, rfl, hp r H .refl hs _ .int⟩
  · exact hp.elim
theorem rds_rep {K : Frag} {H : Hp} {r : Rho} {l : List D} {xs : List V} (h : RDs K H r l xs) : ∀ n : Nat, RDs K H r (List.replicate n l).flatten (List.replicate n xs).flatten
  | 0 => .nil
  | n + 1 => by rw [List.replicate_succ, List.replicate_succ, List.flatten_cons, List.flatten_cons]; exact h.append (rds_rep h n)
def pMul : R2 := fun x y H Q => rI CMul (fun i j => .int (i * j)) x y H Q ∨ rI CMulW (fun i j => .int (i * j)) x y H Q ∨ rRep x y H Q
theorem or_mul {X : Cx} : OpR X (binaryOp .Mult) pMul := op_mul.or (op_mulW.or op_rep)
theorem op2_mul {K : Frag} {cl : Clm} : Op2 K cl dMul pMul := by
  intro r st H W x y v w Q hs hx hy hp
  unfold dMul at hp
  split at hp
  · rw [hx.int_inv, hy.int_inv]
    split at hp
    · rename_i hc
      exact .inl ⟨_, _, rfl, rfl, hc, hp r H .refl hs _ .int⟩
    · split at hp
      · rename_i hc
        exact .inr (.inl ⟨_, _, rfl, rfl, hc, hp r H .refl hs _ .int⟩)
      · exact hp.elim
  · obtain ⟨a, rfl, h1⟩ := hx.ref_inv
    rw [hy.int_inv]
    split at hp
    · rename_i xs q1
      split at hp
      · rename_i hz
        obtain ⟨us, e1, e2⟩ := lst_at hs q1 h1
        exact .inr (.inr ⟨a, _, us, rfl, rfl, e1, hz.1, hz.2.1, by rw [← e2.length]; exact hz.2.2, new_lst hs (rds_rep e2 _) hp⟩)
      · exact hp.elim
    · exact hp.elim
  · exact hp.elim
theorem op2_div {K : Frag} {cl : Clm} : Op2 K cl dDiv (rI CDivW fun i j => .int (i / j)) := by
  intro r st H W x y v w Q hs hx hy hp
  unfold dDiv at hp
  split at hp
  · rw [hx.int_inv, hy.int_inv]
    split at hp
    · rename_i hc
      exact ⟨_, _, rfl, rfl, hc, hp r H .refl hs _ .int⟩
    · exact hp.elim
  · exact hp.elim
theorem op2_mod {K : Frag} {cl : Clm} : Op2 K cl dMod (rI (fun _ j => 0 < j) fun i j => .int (i % j)) := by
  intro r st H W x y v w Q hs hx hy hp
  unfold dMod at hp
  split at hp
  · rw [hx.int_inv, hy.int_inv]
    split at hp
    · rename_i hc
      exact ⟨_, _, rfl, rfl, hc, hp r H .refl hs _ .int⟩
    · exact hp.elim
  · exact hp.elim
theorem op2_pow {K : Frag} {cl : Clm} : Op2 K cl dPow (rI CPow fun i j => .int (i ^ j.toNat)) := by
  intro r st H W x y v w Q hs hx hy hp
  unfold dPow at hp
  split at hp
  · rw [hx.int_inv, hy.int_inv]
    split at hp
    · rename_i hc
      exact ⟨_, _, rfl, rfl, hc, hp r H .refl hs _ .int⟩
    · exact hp.elim
  · exact hp.elim
theorem op1_neg {K : Frag} {cl : Clm} : Op1 K cl dNeg (rU fun i => .int (-i)) := by
  intro r st H W x v Q hs hx hp
  unfold dNeg at hp
  split at hp
  · rw [hx.int_inv]
    exact ⟨_, rfl, hp r H .refl hs _ .int⟩
  · exact hp.elim
end Dn

/-! Dn, C: comparisons, items, slices, displays, fields, built-ins. -/
namespace Dn
open PySem L2

/-! ### data as a whole -/
def mapO {α β : Type} (f : α → Option β) : List α → Option (List β)
  | [] => some []
  | d :: ds => match f d, mapO f ds with
    | some a, some as => some (a :: as)
    | _, _ => none
def tre (st : S) : Nat → D → Option PyData
  | 0, _ => none
  | _ + 1, .non => some .none
  | _ + 1, .bl b => some (.bool b)
  | _ + 1, .int i => some (.int i)
  | _ + 1, .str x => some (.str x)
  | f + 1, .tup l => (mapO (tre st f) l).map .tuple
  | _ + 1, .ty _ => none
  | f + 1, .ref n => match st[n]? with
    | some (.lst l) => (mapO (tre st f) l).map .list
    | some (.frz l) => (mapO (tre st f) l).map .list
    | _ => none
section
variable {K : Frag} {cl : Clm} {r : Rho} {st : S} {H : Hp}
theorem dps_of {f : D → Option PyData} (hf : ∀ d p v, f d = some p → RD K H r d v → Dp K H v p) : ∀ {l : List D} {ps : List PyData} {vs : List V}, mapO f l = some ps → RDs K H r l vs → DpAll K H vs ps
  | [], ps, vs, e, h => by
    have := h.nil_inv; subst this
    simp only [mapO, Option.some.injEq] at e; subst e
    exact .nil
  | d :: ds, ps, vs, e, h => by
    obtain ⟨v, w, rfl, h1, h2⟩ := h.cons_inv
    simp only [mapO] at e
    split at e
    · rename_i a as e1 e2
      cases e
      exact .cons (hf _ _ _ e1 h1) (dps_of hf e2 h2)
    · cases e
theorem dp_of (hs : RS K cl r st H) : ∀ (f : Nat) (d : D) (p : PyData) (v : V), tre st f d = some p → RD K H r d v → Dp K H v p
  | 0, _, _, _, e, _ => by simp [tre] at e
  | f + 1, .non, p, v, e, h => by simp only [tre, Option.some.injEq] at e; subst e; rw [h.non_inv]; exact .non
  | f + 1, .bl b, p, v, e, h => by simp only [tre, Option.some.injEq] at e; subst e; rw [h.bl_inv]; exact .bl _
  | f + 1, .int i, p, v, e, h => by simp only [tre, Option.some.injEq] at e; subst e; rw [h.int_inv]; exact .int _
  | f + 1, .str x, p, v, e, h => by simp only [tre, Option.some.injEq] at e; subst e; rw [h.str_inv]; exact .str _
  | f + 1, .ty n, p, v, e, h => by simp [tre] at e
  | f + 1, .tup l, p, v, e, h => by
    obtain ⟨a, xs, rfl, h1, h2⟩ := h.tup_inv
    simp only [tre, Option.map_eq_some_iff] at e
    obtain ⟨ps, e1, rfl⟩ := e
    exact .tup h1 (dps_of (fun d q w g1 g2 => dp_of hs f d q w g1 g2) e1 h2)
  | f + 1, .ref n, p, v, e, h => by
    obtain ⟨a, rfl, h1⟩ := h.ref_inv
    simp only [tre] at e
    split at e
    · rename_i l g
      obtain ⟨ps, e1, rfl⟩ := Option.map_eq_some_iff.mp e
      obtain ⟨xs, q1, q2⟩ := seq_at hs (.inl g) h1
      exact .lst q1 (dps_of (fun d q w g1 g2 => dp_of hs f d q w g1 g2) e1 q2)
    · rename_i l g
      obtain ⟨ps, e1, rfl⟩ := Option.map_eq_some_iff.mp e
      obtain ⟨xs, q1, q2⟩ := seq_at hs (.inr g) h1
      exact .lst q1 (dps_of (fun d q w g1 g2 => dp_of hs f d q w g1 g2) e1 q2)
    · cases e
end

/-! ### == and != -/
def dEq2 (g : Bool → Bool) : D → D → S → Out D
  | .int i, .int j, st => .ok (.bl (g (decide (i = j)))) st
  | .str a, .str b, st => .ok (.bl (g (decide (a = b)))) st
  | .bl a, .bl b, st => .ok (.bl (g (decide (a = b)))) st
  | x, y, st => match tre st 12 x, tre st 12 y with
    | some a, some b => if (SeqAt.shaped a && SeqAt.shaped b) = true then .ok (.bl (g (PyData.eqv a b))) st else .bad
    | _, _ => .bad
abbrev dEq := dEq2 id
abbrev dNe := dEq2 not
def pEq (K : Frag) : R2 := fun x y H Q => rEq x y H Q ∨ rEqD K x y H Q
def pNe (K : Frag) : R2 := fun x y H Q => rNe x y H Q ∨ rNeD K x y H Q
theorem or_eq {X : Cx} (hu : X.A.units + 64 < cLine) : OpR X (compareOp .Eq) (pEq X.K) := op_eq.or (op_eqD hu)
theorem or_ne {X : Cx} (hu : X.A.units + 64 < cLine) : OpR X (compareOp .NotEq) (pNe X.K) := op_ne.or (op_neD hu)
section
variable {K : Frag} {cl : Clm}
theorem op2_eq : Op2 K cl dEq (pEq K) := by
  intro r st H W x y v w Q hs hx hy hp
  unfold dEq dEq2 at hp
  split at hp
  · rw [hx.int_inv, hy.int_inv]
    refine .inl ⟨rfl, ?_⟩
    rw [dec_int, Bool.beq_eq_decide_eq]
    exact hp r H .refl hs _ .bl
  · rw [hx.str_inv, hy.str_inv]
    refine .inl ⟨rfl, ?_⟩
    rw [dec_str, Bool.beq_eq_decide_eq]
    exact hp r H .refl hs _ .bl
  · rw [hx.bl_inv, hy.bl_inv]
    refine .inl ⟨rfl, ?_⟩
    rw [dec_bl, Bool.beq_eq_decide_eq]
    exact hp r H .refl hs _ .bl
  · split at hp
    · rename_i a b e1 e2
      split at hp
      · rename_i hc
        rw [Bool.and_eq_true] at hc
        exact .inr ⟨a, b, dp_of hs _ _ _ _ e1 hx, dp_of hs _ _ _ _ e2 hy, hc.1, hc.2, hp r H .refl hs _ .bl⟩
      · exact hp.elim
    · exact hp.elim
theorem op2_ne : Op2 K cl dNe (pNe K) := by
  intro r st H W x y v w Q hs hx hy hp
  unfold dNe dEq2 at hp
  split at hp
  · rw [hx.int_inv, hy.int_inv]
    refine .inl ⟨rfl, ?_⟩
    rw [dec_int, Bool.beq_eq_decide_eq]
    exact hp r H .refl hs _ .bl
  · rw [hx.str_inv, hy.str_inv]
    refine .inl ⟨rfl, ?_⟩
    rw [dec_str, Bool.beq_eq_decide_eq]
    exact hp r H .refl hs _ .bl
  · rw [hx.bl_inv, hy.bl_inv]
    refine .inl ⟨rfl, ?_⟩
    rw [dec_bl, Bool.beq_eq_decide_eq]
    exact hp r H .refl hs _ .bl
  · split at hp
    · rename_i a b e1 e2
      split at hp
      · rename_i hc
        rw [Bool.and_eq_true] at hc
        exact .inr ⟨a, b, dp_of hs _ _ _ _ e1 hx, dp_of hs _ _ _ _ e2 hy, hc.1, hc.2, hp r H .refl hs _ .bl⟩
      · exact hp.elim
    · exact hp.elim
end

/-! ### order, is -/
def dI2 (g : Int → Int → Bool) : D → D → S → Out D
  | .int i, .int j, st => .ok (.bl (g i j)) st
  | _, _, _ => .bad
abbrev dLt := dI2 fun i j => decide (i < j)
abbrev dLe := dI2 fun i j => decide (i ≤ j)
abbrev dGt := dI2 fun i j => decide (j < i)
abbrev dGe := dI2 fun i j => decide (j ≤ i)
def isNonD : D → Bool
  | .non => true
  | _ => false
def objD (st : S) (n : Nat) : Bool := match st[n]? with
  | some (.lst _) => true
  | some (.ins _ _) => true
  | _ => false
def dIs2 (g : Bool → Bool) : D → D → S → Out D
  | x, .non, st => .ok (.bl (g (isNonD x))) st
  | .bl a, .bl b, st => .ok (.bl (g (decide (a = b)))) st
  | .ref n, .ref m, st => if (objD st n && objD st m) = true then .ok (.bl (g (decide (n = m)))) st else .bad
  | _, _, _ => .bad
abbrev dIs := dIs2 id
abbrev dIsNot := dIs2 not
section
variable {K : Frag} {cl : Clm}
theorem op2_i2 {g : Int → Int → Bool} : Op2 K cl (dI2 g) (rI0 fun i j => .bl (g i j)) := by
  intro r st H W x y v w Q hs hx hy hp
  unfold dI2 at hp
  split at hp
  · rw [hx.int_inv, hy.int_inv]
    exact ⟨_, _, rfl, rfl, hp r H .refl hs _ .bl⟩
  · exact hp.elim
theorem isNon_of {H : Hp} {r : Rho} {d : D} {v : V} (h : RD K H r d v) : decide (v = .non) = isNonD d := by
  cases d with
  | non => rw [h.non_inv]; rfl
  | bl b => rw [h.bl_inv]; rfl
  | int b => rw [h.int_inv]; rfl
  | str b => rw [h.str_inv]; rfl
  | tup l => obtain ⟨a, xs, rfl, _, _⟩ := h.tup_inv; rfl
  | ref l => obtain ⟨a, rfl, _⟩ := h.ref_inv; rfl
  | ty l => rw [h.ty_inv]; rfl
theorem obj_at {r : Rho} {st : S} {H : Hp} {n : Nat} {a : Addr} (hs : RS K cl r st H) (h : r n = some a) (e : objD st n = true) : ∃ oa o, H a = some oa ∧ isObj oa = true ∧ st[n]? = some o ∧ isFrz o = false := by
  unfold objD at e
  split at e
  · rename_i l g
    obtain ⟨xs, q1, _⟩ := lst_at hs g h
    exact ⟨_, _, q1, rfl, g, rfl⟩
  · rename_i c fs g
    obtain ⟨b, e1, C, dx, vs, _, e2, _⟩ := hs.at_ n _ g
    rw [h] at e1; cases e1
    exact ⟨_, _, e2, rfl, g, rfl⟩
  · cases e
theorem ref_eq {r : Rho} {st : S} {H : Hp} {n m : Nat} {a b : Addr} (hs : RS K cl r st H) (h : r n = some a) (h' : r m = some b) (e : (objD st n && objD st m) = true) : decide (a = b) = decide (n = m) := by
  rw [Bool.and_eq_true] at e
  obtain ⟨_, o1, _, _, g1, f1⟩ := obj_at hs h e.1
  obtain ⟨_, o2, _, _, g2, f2⟩ := obj_at hs h' e.2
  by_cases q : n = m
  · subst q; rw [h] at h'; cases h'; simp
  · have : a ≠ b := fun z => by subst z; exact q (hs.inj n m a (hs.ne0 g1 f1) (hs.ne0 g2 f2) h h')
    simp [q, this]
def pIs : R2 := fun x y H Q => (y = .non ∧ Q (.bl (decide (x = .non))) H) ∨ ∃ a b oa ob, x = .ref a ∧ y = .ref b ∧ H a = some oa ∧ isObj oa = true ∧ H b = some ob ∧ isObj ob = true ∧ Q (.bl (decide (a = b))) H
def pIsZ : R2 := fun x y H Q => pIs x y H Q ∨ rIsB x y H Q
def pIsNot : R2 := fun x y H Q => (y = .non ∧ Q (.bl (!decide (x = .non))) H) ∨ ∃ a b oa ob, x = .ref a ∧ y = .ref b ∧ H a = some oa ∧ isObj oa = true ∧ H b = some ob ∧ isObj ob = true ∧ Q (.bl (!decide (a = b))) H
def pIsNotZ : R2 := fun x y H Q => pIsNot x y H Q ∨ rNotB x y H Q
theorem or_is {X : Cx} : OpR X (compareOp .Is) pIsZ := (op_isN.or op_is_ref).or op_isBl
theorem or_isnot {X : Cx} : OpR X (compareOp .IsNot) pIsNotZ := (op_notN.or op_isnot_ref).or op_notBl
theorem op2_is : Op2 K cl dIs pIsZ := by
  intro r st H W x y v w Q hs hx hy hp
  unfold dIs dIs2 at hp
  split at hp
  · exact .inl (.inl ⟨hy.non_inv, by rw [isNon_of hx]; exact hp r H .refl hs _ .bl⟩)
  · rw [hx.bl_inv, hy.bl_inv]
    exact .inr ⟨_, _, rfl, rfl, hp r H .refl hs _ .bl⟩
  · obtain ⟨a, rfl, h1⟩ := hx.ref_inv
    obtain ⟨b, rfl, h2⟩ := hy.ref_inv
    split at hp
    · rename_i hc
      have hc' := hc
      rw [Bool.and_eq_true] at hc'
      obtain ⟨oa, _, q1, q2, _, _⟩ := obj_at hs h1 hc'.1
      obtain ⟨ob, _, q3, q4, _, _⟩ := obj_at hs h2 hc'.2
      exact .inl (.inr ⟨a, b, oa, ob, rfl, rfl, q1, q2, q3, q4, by rw [ref_eq hs h1 h2 hc]; exact hp r H .refl hs _ .bl⟩)
    · exact hp.elim
  · exact hp.elim
theorem op2_isnot : Op2 K cl dIsNot pIsNotZ := by
  intro r st H W x y v w Q hs hx hy hp
  unfold dIsNot dIs2 at hp
  split at hp
  · exact .inl (.inl ⟨hy.non_inv, by rw [isNon_of hx]; exact hp r H .refl hs _ .bl⟩)
  · rw [hx.bl_inv, hy.bl_inv]
    exact .inr ⟨_, _, rfl, rfl, hp r H .refl hs _ .bl⟩
  · obtain ⟨a, rfl, h1⟩ := hx.ref_inv
    obtain ⟨b, rfl, h2⟩ := hy.ref_inv
    split at hp
    · rename_i hc
      have hc' := hc
      rw [Bool.and_eq_true] at hc'
      obtain ⟨oa, _, q1, q2, _, _⟩ := obj_at hs h1 hc'.1
      obtain ⟨ob, _, q3, q4, _, _⟩ := obj_at hs h2 hc'.2
      exact .inl (.inr ⟨a, b, oa, ob, rfl, rfl, q1, q2, q3, q4, by rw [ref_eq hs h1 h2 hc]; exact hp r H .refl hs _ .bl⟩)
    · exact hp.elim
  · exact hp.elim
end

/-! ### in -/
def flatD : D → Bool
  | .non => true
  | .bl _ => true
  | .int _ => true
  | .str _ => true
  | _ => false
def eqD : D → D → Bool
  | .non, .non => true
  | .bl a, .bl b => a == b
  | .bl a, .int b => (if a then 1 else 0) == b
  | .int a, .bl b => a == (if b then 1 else 0)
  | .int a, .int b => a == b
  | .str a, .str b => a == b
  | _, _ => false
def inD (x : D) (xs : List D) : Bool := xs.any fun y => eqD y x
def dIn2 (g : Bool → Bool) : D → D → S → Out D
  | .str a, .str b, st => .ok (.bl (g (!(Builtin.Str.occurrences b a 0 b.length 1).isEmpty))) st
  | x, .tup l, st => if (flatD x && l.all flatD) = true then .ok (.bl (g (inD x l))) st else .bad
  | x, .ref n, st => match st[n]? with
    | some (.lst l) => if (flatD x && l.all flatD) = true then .ok (.bl (g (inD x l))) st else match tre st 12 x, mapO (tre st 11) l with
      | some d, some ds => if (SeqAt.shaped d && SeqAt.shaped (.list ds)) = true then .ok (.bl (g (ds.any fun z => PyData.eqv z d))) st else .bad
      | _, _ => .bad
    | _ => .bad
  | _, _, _ => .bad
abbrev dIn := dIn2 id
abbrev dNotIn := dIn2 not
section
variable {K : Frag} {cl : Clm} {H : Hp} {r : Rho}
theorem flat_of {d : D} {v : V} (h : RD K H r d v) (f : flatD d = true) : flatV v = true := by
  cases d with
  | non => rw [h.non_inv]; rfl
  | bl b => rw [h.bl_inv]; rfl
  | int b => rw [h.int_inv]; rfl
  | str b => rw [h.str_inv]; rfl
  | tup l => cases f
  | ref l => cases f
  | ty l => cases f
theorem eqV_of {d e : D} {v w : V} (h : RD K H r d v) (h' : RD K H r e w) (f : flatD d = true) (f' : flatD e = true) : eqV v w = eqD d e := by
  cases d <;> first | (cases f; done) | skip
  all_goals (cases e <;> first | (cases f'; done) | skip)
  all_goals (first | rw [h.non_inv] | rw [h.bl_inv] | rw [h.int_inv] | rw [h.str_inv])
  all_goals (first | rw [h'.non_inv] | rw [h'.bl_inv] | rw [h'.int_inv] | rw [h'.str_inv])
  all_goals rfl
theorem flats_of : ∀ {l : List D} {vs : List V}, RDs K H r l vs → l.all flatD = true → vs.all flatV = true
  | [], _, h, _ => by rw [h.nil_inv]; rfl
  | d :: ds, _, h, f => by
    obtain ⟨v, w, rfl, h1, h2⟩ := h.cons_inv
    rw [List.all_cons, Bool.and_eq_true] at f ⊢
    exact ⟨flat_of h1 f.1, flats_of h2 f.2⟩
theorem inV_of {x : D} {v : V} (hx : RD K H r x v) (fx : flatD x = true) : ∀ {l : List D} {vs : List V}, RDs K H r l vs → l.all flatD = true → inV v vs = inD x l
  | [], _, h, _ => by rw [h.nil_inv]; rfl
  | d :: ds, _, h, f => by
    obtain ⟨u, w, rfl, h1, h2⟩ := h.cons_inv
    rw [List.all_cons, Bool.and_eq_true] at f
    unfold inV inD
    rw [List.any_cons, List.any_cons, eqV_of h1 hx f.1 fx]
    congr 1
    exact inV_of hx fx h2 f.2
def pIn (K : Frag) : R2 := fun x y H Q => (∃ i j, x = .str i ∧ y = .str j ∧ Q (.bl (!(Builtin.Str.occurrences j i 0 j.length 1).isEmpty)) H) ∨ rIn K false x y H Q ∨ rInD K x y H Q
def pNotIn (K : Frag) : R2 := fun x y H Q => (∃ i j, x = .str i ∧ y = .str j ∧ Q (.bl (!(!(Builtin.Str.occurrences j i 0 j.length 1).isEmpty))) H) ∨ rIn K true x y H Q ∨ rNotInD K x y H Q
theorem or_in {X : Cx} (hu : X.A.units + 65 < cLine) : OpR X (compareOp .In) (pIn X.K) := op_in_str.or (op_in_seq.or (op_inD hu))
theorem or_notin {X : Cx} (hu : X.A.units + 65 < cLine) : OpR X (compareOp .NotIn) (pNotIn X.K) := L2.op_notin_str.or (op_notIn_seq.or (op_notInD hu))
theorem op2_in : Op2 K cl dIn (pIn K) := by
  intro r st H W x y v w Q hs hx hy hp
  unfold dIn dIn2 at hp
  split at hp
  · rw [hx.str_inv, hy.str_inv]
    exact .inl ⟨_, _, rfl, rfl, hp r H .refl hs _ .bl⟩
  · obtain ⟨a, xs, rfl, h1, h2⟩ := hy.tup_inv
    split at hp
    · rename_i hc
      rw [Bool.and_eq_true] at hc
      refine .inr (.inl ⟨a, xs, rfl, .inr h1, flat_of hx hc.1, flats_of h2 hc.2, ?_⟩)
      rw [inV_of hx hc.1 h2 hc.2]
      exact hp r H .refl hs _ .bl
    · exact hp.elim
  · obtain ⟨a, rfl, h1⟩ := hy.ref_inv
    split at hp
    · rename_i l g
      obtain ⟨xs, q1, q2⟩ := lst_at hs g h1
      split at hp
      · rename_i hc
        rw [Bool.and_eq_true] at hc
        refine .inr (.inl ⟨a, xs, rfl, .inl (.of q1), flat_of hx hc.1, flats_of q2 hc.2, ?_⟩)
        rw [inV_of hx hc.1 q2 hc.2]
        exact hp r H .refl hs _ .bl
      · split at hp
        · rename_i d ds e1 e2
          split at hp
          · rename_i hc
            rw [Bool.and_eq_true] at hc
            exact .inr (.inr ⟨d, ds, dp_of hs _ _ _ _ e1 hx, .lst (.of q1) (dps_of (fun d q w g1 g2 => dp_of hs 11 d q w g1 g2) e2 q2), hc.1, hc.2, hp r H .refl hs _ .bl⟩)
          · exact hp.elim
        · exact hp.elim
    · exact hp.elim
  · exact hp.elim
theorem op2_notin : Op2 K cl dNotIn (pNotIn K) := by
  intro r st H W x y v w Q hs hx hy hp
  unfold dNotIn dIn2 at hp
  split at hp
  · rw [hx.str_inv, hy.str_inv]
    exact .inl ⟨_, _, rfl, rfl, hp r H .refl hs _ .bl⟩
  · obtain ⟨a, xs, rfl, h1, h2⟩ := hy.tup_inv
    split at hp
    · rename_i hc
      rw [Bool.and_eq_true] at hc
      refine .inr (.inl ⟨a, xs, rfl, .inr h1, flat_of hx hc.1, flats_of h2 hc.2, ?_⟩)
      rw [inV_of hx hc.1 h2 hc.2]
      exact hp r H .refl hs _ .bl
    · exact hp.elim
  · obtain ⟨a, rfl, h1⟩ := hy.ref_inv
    split at hp
    · rename_i l g
      obtain ⟨xs, q1, q2⟩ := lst_at hs g h1
      split at hp
      · rename_i hc
        rw [Bool.and_eq_true] at hc
        refine .inr (.inl ⟨a, xs, rfl, .inl (.of q1), flat_of hx hc.1, flats_of q2 hc.2, ?_⟩)
        rw [inV_of hx hc.1 q2 hc.2]
        exact hp r H .refl hs _ .bl
      · split at hp
        · rename_i d ds e1 e2
          split at hp
          · rename_i hc
            rw [Bool.and_eq_true] at hc
            exact .inr (.inr ⟨d, ds, dp_of hs _ _ _ _ e1 hx, .lst (.of q1) (dps_of (fun d q w g1 g2 => dp_of hs 11 d q w g1 g2) e2 q2), hc.1, hc.2, hp r H .refl hs _ .bl⟩)
          · exact hp.elim
        · exact hp.elim
    · exact hp.elim
  · exact hp.elim
end

/-! ### items, slices -/
def seqD (st : S) : D → Option (List D)
  | .tup l => some l
  | .ref n => match st[n]? with
    | some (.lst l) => some l
    | some (.frz l) => some l
    | _ => none
  | _ => none
def dIx : D → D → S → Out D
  | .str z, .int i, st => if z.length ≤ sizeLine then match atI z.cps.toList i with
      | some c => .ok (.str ⟨#[c]⟩) st
      | none => .bad
    else .bad
  | x, .int i, st => match seqD st x with
    | some l => match atI l i with
      | some d => .ok d st
      | none => .bad
    | none => .bad
  | _, _, _ => .bad
section
variable {K : Frag} {cl : Clm} {H : Hp} {r : Rho} {st : S}
theorem seqD_of {d : D} {v : V} {l : List D} (hs : RS K cl r st H) (h : RD K H r d v) (e : seqD st d = some l) : ∃ a xs, v = .ref a ∧ RDs K H r l xs ∧ ((∃ n, d = .ref n ∧ SqL K H a xs) ∨ (∃ l', d = .tup l' ∧ SqT K H a xs)) := by
  unfold seqD at e
  split at e
  · cases e
    obtain ⟨a, xs, rfl, h1, h2⟩ := h.tup_inv
    exact ⟨a, xs, rfl, h2, .inr ⟨_, rfl, h1⟩⟩
  · obtain ⟨a, rfl, h1⟩ := h.ref_inv
    split at e
    · rename_i g
      cases e
      obtain ⟨xs, q1, q2⟩ := seq_at hs (.inl g) h1
      exact ⟨a, xs, rfl, q2, .inl ⟨_, rfl, q1⟩⟩
    · rename_i g
      cases e
      obtain ⟨xs, q1, q2⟩ := seq_at hs (.inr g) h1
      exact ⟨a, xs, rfl, q2, .inl ⟨_, rfl, q1⟩⟩
    · cases e
  · cases e
theorem atI_of {l : List D} {xs : List V} {i : Int} {d : D} (h : RDs K H r l xs) (e : atI l i = some d) : ∃ v, atI xs i = some v ∧ RD K H r d v := by
  unfold atI at e ⊢
  rw [← h.length]
  cases q : ixN l.length i with
  | none => rw [q] at e; cases e
  | some j =>
    rw [q] at e
    exact h.get e
theorem op2_ix : Op2 K cl dIx (rIx K) := by
  intro r st H W x y v w Q hs hx hy hp
  unfold dIx at hp
  split at hp
  · rw [hx.str_inv, hy.int_inv]
    split at hp
    · rename_i hz
      split at hp
      · rename_i c e
        exact .inr (.inr ⟨_, _, c, rfl, rfl, hz, e, hp r H .refl hs _ .str⟩)
      · exact hp.elim
    · exact hp.elim
  · rw [hy.int_inv]
    split at hp
    · rename_i l e
      split at hp
      · rename_i d e2
        obtain ⟨a, xs, rfl, h1, h2⟩ := seqD_of hs hx e
        obtain ⟨z, q1, q2⟩ := atI_of h1 e2
        rcases h2 with ⟨_, _, h2⟩ | ⟨_, _, h2⟩
        · exact .inl ⟨a, xs, _, z, rfl, rfl, h2, q1, hp r H .refl hs _ q2⟩
        · exact .inr (.inl ⟨a, xs, _, z, rfl, rfl, h2, q1, hp r H .refl hs _ q2⟩)
      · exact hp.elim
    · exact hp.elim
  · exact hp.elim
end
/-- a part of a slice -/
abbrev OM := En → S → Out (Option Int)
def dNoP : OM := fun _ st => .ok none st
def dP (m : EM) : OM := fun en st => (m en st).bind fun x st1 => match x with
  | .int i => .ok (some i) st1
  | _ => .bad
def tO (K : Frag) (cl : Clm) (W : WX) (m : OM) : TO := fun s H Q => ∃ r en st, RE K H r en s ∧ RS K cl r st H ∧ Po K cl r H W (m en st) fun r' H' b _ => Q b H'
structure SO (X : Cx) (cl : Clm) (W : WX) (e : Option Expr) (m : OM) : Prop where
  po : PO X e (tO X.K cl W m)
def cutD (xs : List D) (lo hi : Option Int) : List D := (xs.drop (HT.sIx xs.length 0 lo)).take (HT.sIx xs.length xs.length hi - HT.sIx xs.length 0 lo)
def dSl (ma : EM) (ml mh : OM) : EM := fun en st => (ma en st).bind fun x st1 => (ml en st1).bind fun lo st2 => (mh en st2).bind fun hi st3 => match x with
  | .tup l => .ok (.tup (cutD l lo hi)) st3
  | .ref n => match st3[n]? with
    | some (.lst l) => .ok (.ref st3.length) (st3 ++ [.lst (cutD l lo hi)])
    | some (.frz l) => .ok (.ref st3.length) (st3 ++ [.lst (cutD l lo hi)])
    | _ => .bad
  | .str z => if z.length ≤ sizeLine then .ok (.str (cutS z lo hi)) st3 else .bad
  | _ => .bad
def pSl (K : Frag) : V → Option Int → Option Int → Hp → VK → Prop := fun x lo hi H Q => rSlL K x lo hi H Q ∨ rSlA K x lo hi H Q ∨ rSlS x lo hi H Q
section
variable {X : Cx} {cl : Clm} {W : WX} {e : Expr} {lo hi : Option Expr} {pos p2 : Pos} {ma m : EM} {ml mh : OM}
theorem sl_any : SlR X (pSl X.K) := sl_list.or (sl_tupA.or sl_str)
theorem so_none : SO X cl W none dNoP := ⟨⟨fun pins s σ H Q I w => po_none.run pins s σ H Q I (by obtain ⟨r, en, st, he, hs, hp⟩ := w; exact hp r H .refl hs)⟩⟩
theorem so_some (h : SE X cl W e m) : SO X cl W (some e) (dP m) := ⟨⟨fun pins s σ H Q I w => (po_some h.pe).run pins s σ H Q I (by
  obtain ⟨r, en, st, he, hs, hp⟩ := w
  refine ⟨r, en, st, he, hs, (Po.bind hp).mono fun r1 H1 d st1 x1 s1 h1 v q => ?_⟩
  cases d with
  | int i => exact ⟨i, q.int_inv, h1 r1 H1 .refl s1⟩
  | _ => exact h1.elim)⟩⟩
theorem rds_cut {K : Frag} {H : Hp} {r : Rho} {l : List D} {xs : List V} {lo hi : Option Int} (h : RDs K H r l xs) : RDs K H r (cutD l lo hi) (cutV xs lo hi) := by
  unfold cutD cutV
  rw [h.length]
  exact (h.drop _).take _
theorem cutD_whole {l : List D} {lo hi : Option Int} (h : HT.sIx l.length 0 lo = 0 ∧ HT.sIx l.length l.length hi = l.length) : cutD l lo hi = l := by
  unfold cutD
  rw [h.1, h.2]
  simp
theorem se_sl (he : SE X cl W e ma) (hl : SO X cl W lo ml) (hh : SO X cl W hi mh) : SE X cl W (.Subscript e (.Slice lo hi none p2) pos) (dSl ma ml mh) :=
  ⟨pe_of (pe_slice sl_any he.pe hl.po hh.po) fun s H Q ⟨r, en, st, he, hs, hp⟩ => ⟨r, en, st, he, hs, (Po.bind hp).mono fun r1 H1 d st1 x1 s1 h1 v q =>
    ⟨r1, en, st1, he.mono x1.mn, s1, (Po.bind h1).mono fun r2 H2 lo st2 x2 s2 h2 => ⟨r2, en, st2, he.mono (x1.trans x2).mn, s2, (Po.bind h2).mono fun r3 H3 hi st3 x3 s3 h3 => by
      have q3 := q.mono (x2.trans x3).mn
      cases d with
      | tup l =>
        obtain ⟨a, xs, rfl, g1, g2⟩ := q3.tup_inv
        refine .inr (.inl ⟨a, xs, rfl, g1, fun hw => ?_, fun hw => new_tup s3 (rds_cut g2) h3⟩)
        rw [← g2.length] at hw
        refine h3 r3 H3 .refl s3 _ ?_
        rw [cutD_whole hw]
        exact .tup g1 g2
      | ref n =>
        obtain ⟨a, rfl, g1⟩ := q3.ref_inv
        simp only at h3
        split at h3
        · rename_i l g
          obtain ⟨xs, y1, y2⟩ := seq_at s3 (.inl g) g1
          exact .inl ⟨a, xs, rfl, y1, new_lst s3 (rds_cut y2) h3⟩
        · rename_i l g
          obtain ⟨xs, y1, y2⟩ := seq_at s3 (.inr g) g1
          exact .inl ⟨a, xs, rfl, y1, new_lst s3 (rds_cut y2) h3⟩
        · exact h3.elim
      | str z =>
        rw [q3.str_inv]
        simp only at h3
        split at h3
        · rename_i hz
          exact .inr (.inr ⟨z, rfl, hz, h3 r3 H3 .refl s3 _ .str⟩)
        · exact h3.elim
      | _ => exact h3.elim⟩⟩⟩⟩
end

/-! ### displays -/
def dTup (m : AM) : EM := fun en st => (m en st).bind fun xs st1 => if xs.length ≤ sizeLine then .ok (.tup xs) st1 else .bad
def dLst (m : AM) : EM := fun en st => (m en st).bind fun xs st1 => if xs.length ≤ sizeLine then .ok (.ref st1.length) (st1 ++ [.lst xs]) else .bad
section
variable {X : Cx} {cl : Clm} {W : WX} {es : List Expr} {pos : Pos} {m : AM}
theorem se_tup {x1} (h : SA X cl W es m) : SE X cl W (.Tuple es x1 pos) (dTup m) := ⟨pe_of (pe_tup h.pa) fun s H Q ⟨r, en, st, he, hs, hp⟩ => ⟨r, en, st, he, hs, (Po.bind hp).mono fun r1 H1 ds st1 x1 s1 h1 vs q => by
  split at h1
  · rename_i hz
    exact ⟨by rw [← q.length]; exact hz, new_tup s1 q h1⟩
  · exact h1.elim⟩⟩
theorem se_lst (h : SA X cl W es m) : SE X cl W (.List es pos) (dLst m) := ⟨pe_of (pe_lst h.pa) fun s H Q ⟨r, en, st, he, hs, hp⟩ => ⟨r, en, st, he, hs, (Po.bind hp).mono fun r1 H1 ds st1 x1 s1 h1 vs q => by
  split at h1
  · rename_i hz
    exact ⟨by rw [← q.length]; exact hz, new_lst s1 q h1⟩
  · exact h1.elim⟩⟩
end
end Dn

/-! Dn, D: statements, loops, comprehensions. -/
namespace Dn
open PySem L2

/-! ### statements -/
def sSet (i : Nat) (m : EM) : SM := fun en st => (m en st).bind fun d st1 => .ok (.nx, en.set i (some d)) st1
def sExpr (m : EM) : SM := fun en st => (m en st).bind fun _ st1 => .ok (.nx, en) st1
def sRet (m : EM) : SM := fun en st => (m en st).bind fun d st1 => .ok (.ret d, en) st1
def sRetN : SM := fun en st => .ok (.ret .non, en) st
def sPass : SM := fun en st => .ok (.nx, en) st
def sBrk : SM := fun en st => .ok (.bk, en) st
def sCnt : SM := fun en st => .ok (.ct, en) st
def sSeq (m n : SM) : SM := fun en st => (m en st).bind fun p st1 => match p.1 with
  | .nx => n p.2 st1
  | _ => .ok p st1
def sIf (c : TM) (m n : SM) : SM := fun en st => (c en st).bind fun k st1 => if k then m en st1 else n en st1
theorem RE.set {K : Frag} {H : Hp} {r : Rho} {en : En} {s : St} {d : D} {v : V} (i : Nat) (h : RE K H r en s) (q : RD K H r d v) : RE K H r (en.set i (some d)) (s.set i (some v)) := by
  refine ⟨by rw [List.length_set, List.length_set]; exact h.1, fun j e g => ?_⟩
  by_cases z : i = j
  · subst z
    by_cases hl : i < en.length
    · rw [List.getElem?_set_self hl] at g
      cases g
      exact ⟨v, List.getElem?_set_self (by rw [← h.1]; exact hl), q⟩
    · rw [List.getElem?_eq_none (by rw [List.length_set]; omega)] at g; cases g
  · rw [List.getElem?_set_ne z] at g ⊢
    exact h.2 j e g
section
variable {X : Cx} {cl : Clm} {W : WX} {e : Expr} {st : Stmt} {rest : List Stmt} {pos : Pos} {m : EM} {c : TM} {u w : SM}
theorem ss_set {i : Nat} {x : Str} {pos' : Pos} (hN : X.N.Nodup) (hi : X.N[i]? = some x) (hx : Loc X.env.scope x) (he : SE X cl W e m) (hs : swapsWith e (some (.Name x pos')) pos.line X.env = pure false := by rfl)
    (hf : X.fn x = true ∨ X.env.scope.names.lookup x = some .local := by first | exact .inl rfl | exact .inr rfl | assumption) : SS X cl W (.Assign [.Name x pos'] e pos) (sSet i m) :=
  ⟨ps_of (ps_set (i := i) hN hi hx he.pe hs hf) fun D s H ⟨r, en, st, he, hs, hp⟩ => ⟨r, en, st, he, hs, (Po.bind hp).mono fun r1 H1 d st1 x1 s1 h1 v q => h1 r1 H1 .refl s1 _ ((he.mono x1.mn).set i q)⟩⟩
theorem ss_expr (he : SE X cl W e m) (hs : swapsWith e none pos.line X.env = pure false := by rfl) : SS X cl W (.Expr e pos) (sExpr m) :=
  ⟨ps_of (ps_expr he.pe hs) fun D s H ⟨r, en, st, he, hs, hp⟩ => ⟨r, en, st, he, hs, (Po.bind hp).mono fun r1 H1 d st1 x1 s1 h1 v q => h1 r1 H1 .refl s1 _ (he.mono x1.mn)⟩⟩
theorem ss_ret (he : SE X cl W e m) : SS X cl W (.Return (some e) pos) (sRet m) :=
  ⟨ps_of (ps_ret he.pe) fun D s H ⟨r, en, st, he, hs, hp⟩ => ⟨r, en, st, he, hs, (Po.bind hp).mono fun r1 H1 d st1 x1 s1 h1 v q => h1 r1 H1 .refl s1 _ (he.mono x1.mn) v q⟩⟩
theorem ss_retN : SS X cl W (.Return none pos) sRetN := ⟨ps_of ps_retN fun D s H ⟨r, en, st, he, hs, hp⟩ => hp r H .refl hs s he _ .non⟩
theorem ss_pass : SS X cl W (.Pass pos) sPass := ⟨ps_of ps_pass fun D s H ⟨r, en, st, he, hs, hp⟩ => hp r H .refl hs s he⟩
theorem ss_brk : SS X cl W (.Break pos) sBrk := ⟨ps_of ps_break fun D s H ⟨r, en, st, he, hs, hp⟩ => hp r H .refl hs s he⟩
theorem ss_cnt : SS X cl W (.Continue pos) sCnt := ⟨ps_of ps_continue fun D s H ⟨r, en, st, he, hs, hp⟩ => hp r H .refl hs s he⟩
theorem sl_nil : SL X cl W [] sPass := ⟨pss_of pss_nil fun D s H ⟨r, en, st, he, hs, hp⟩ => hp r H .refl hs s he⟩
theorem sl_one (h : SS X cl W st u) : SL X cl W [st] u := ⟨pss_one h.ps⟩
theorem sl_cons (h : SS X cl W st u) (h' : SL X cl W rest w) : SL X cl W (st :: rest) (sSeq u w) :=
  ⟨pss_of (pss_cons h.ps h'.pss) fun D s H ⟨r, en, st, he, hs, hp⟩ => ⟨r, en, st, he, hs, (Po.bind hp).mono fun r1 H1 p st1 x1 s1 h1 s' q => by
    obtain ⟨f, en1⟩ := p
    cases f with
    | nx => exact ⟨r1, en1, st1, q, s1, h1⟩
    | bk => exact h1 r1 H1 .refl s1 s' q
    | ct => exact h1 r1 H1 .refl s1 s' q
    | ret d => exact h1 r1 H1 .refl s1 s' q⟩⟩
theorem ss_if {e : Expr} {a b : List Stmt} (hc : SB X cl W e c) (ha : SL X cl W a u) (hb : SL X cl W b w) : SS X cl W (.If e a b pos) (sIf c u w) :=
  ⟨ps_of (ps_if hc.pt ha.pss hb.pss) fun D s H ⟨r, en, st, he, hs, hp⟩ => ⟨r, en, st, he, hs, (Po.bind hp).mono fun r1 H1 k st1 x1 s1 h1 => by
    cases k with
    | true => rw [if_pos rfl] at h1 ⊢; exact ⟨r1, en, st1, he.mono x1.mn, s1, h1⟩
    | false => simp only [Bool.false_eq_true, if_false] at h1 ⊢; exact ⟨r1, en, st1, he.mono x1.mn, s1, h1⟩⟩⟩
end

/-! ### targets -/
abbrev BM := D → En → Option En
def bName (i : Nat) : BM := fun d en => some (en.set i (some d))
/-- several targets -/
def bNil : List D → En → Option En
  | [], en => some en
  | _ :: _, _ => none
def bCons (b : BM) (bs : List D → En → Option En) : List D → En → Option En
  | [], _ => none
  | d :: ds, en => match b d en with
    | some en1 => bs ds en1
    | none => none
def bTup (n : Nat) (bs : List D → En → Option En) : BM := fun d en => match d with
  | .tup l => if l.length = n then bs l en else none
  | _ => none
/-- the slots but those in sl stay -/
def Out0 (sl : List Nat) (s s' : St) : Prop := s'.length = s.length ∧ ∀ i, i ∉ sl → s'[i]? = s[i]?
/-- the reading g of a target is what b says; the slots that it stores are among sl -/
def GM (K : Frag) (sl : List Nat) (g : TG) (b : BM) : Prop := ∀ (r : Rho) (H : Hp) (d : D) (v : V) (en en' : En) (s : St) (Q : St → Hp → Prop), RD K H r d v → RE K H r en s → b d en = some en' →
  (∀ s', RE K H r en' s' → Out0 sl s s' → Q s' H) → g v s H Q
def GMs (K : Frag) (sl : List Nat) (g : TGs) (b : List D → En → Option En) : Prop := ∀ (r : Rho) (H : Hp) (ds : List D) (vs : List V) (en en' : En) (s : St) (Q : St → Hp → Prop), RDs K H r ds vs → RE K H r en s → b ds en = some en' →
  (∀ s', RE K H r en' s' → Out0 sl s s' → Q s' H) → g vs s H Q
section
variable {K : Frag} {sl : List Nat}
theorem Out0.refl (s : St) : Out0 sl s s := ⟨rfl, fun _ _ => rfl⟩
theorem Out0.trans {a b c : St} (h : Out0 sl a b) (h' : Out0 sl b c) : Out0 sl a c := ⟨h'.1.trans h.1, fun i hi => (h'.2 i hi).trans (h.2 i hi)⟩
theorem gm_name {i : Nat} (hi : i ∈ sl) : GM K sl (gName i) (bName i) := fun r H d v en en' s Q q he e k => by
  cases e
  refine k _ (he.set i q) ⟨by rw [List.length_set], fun j hj => ?_⟩
  rw [List.getElem?_set_ne (fun z => hj (by rw [← z]; exact hi))]
theorem gms_nil : GMs K sl gNil bNil := fun r H ds vs en en' s Q q he e k => by
  cases ds with
  | nil =>
    cases e
    exact ⟨q.nil_inv, k s he (.refl s)⟩
  | cons _ _ => cases e
theorem gms_cons {g : TG} {gs : TGs} {b : BM} {bs : List D → En → Option En} (h : GM K sl g b) (h' : GMs K sl gs bs) : GMs K sl (gCons g gs) (bCons b bs) := fun r H ds vs en en' s Q q he e k => by
  cases ds with
  | nil => cases e
  | cons d ds =>
    obtain ⟨v, w, rfl, q1, q2⟩ := q.cons_inv
    simp only [bCons] at e
    cases e1 : b d en with
    | some en1 =>
      rw [e1] at e
      exact ⟨v, w, rfl, h r H d v en en1 s _ q1 he e1 fun s1 he1 o1 => h' r H ds w en1 en' s1 Q q2 he1 e fun s2 he2 o2 => k s2 he2 (o1.trans o2)⟩
    | none => rw [e1] at e; cases e
theorem gm_tup {n : Nat} {gs : TGs} {bs : List D → En → Option En} (h : GMs K sl gs bs) : GM K sl (gTup K n gs) (bTup n bs) := fun r H d v en en' s Q q he e k => by
  cases d with
  | tup l =>
    obtain ⟨a, xs, rfl, q1, q2⟩ := q.tup_inv
    simp only [bTup] at e
    split at e
    · rename_i hl
      exact ⟨a, xs, rfl, q1, by rw [← q2.length]; exact hl, h r H l xs en en' s Q q2 he e k⟩
    · cases e
  | _ => cases e
end
/-- target = e -/
def sAsg (b : BM) (m : EM) : SM := fun en st => (m en st).bind fun d st1 => match b d en with
  | some en1 => .ok (.nx, en1) st1
  | none => .bad
theorem ss_asg {X : Cx} {cl : Clm} {W : WX} {tg e : Expr} {pos : Pos} {sl : List Nat} {g : TG} {b : BM} {m : EM} (he : SE X cl W e m) (hg : PG X tg g) (hb : GM X.K sl g b) (hs : swapsWithSole [tg] e pos.line X.env = pure false := by rfl)
    (hw : swappedStores [tg] e X.env = pure none := by rfl) (h1 : (assignEach [tg] X.env).map (·.2) = [assign tg X.env] := by rfl) : SS X cl W (.Assign [tg] e pos) (sAsg b m) :=
  ⟨ps_of (ps_asg he.pe hg hs hw h1) fun D s H ⟨r, en, st, he, hs, hp⟩ => ⟨r, en, st, he, hs, (Po.bind hp).mono fun r1 H1 d st1 x1 s1 h1 v q => by
    cases e : b d en with
    | none => rw [e] at h1; exact h1.elim
    | some en1 => rw [e] at h1; exact hb r1 H1 d v en en1 s _ q (he.mono x1.mn) e fun s' he' _ => h1 r1 H1 .refl s1 s' he'⟩⟩
/-- a, b = e1, e2 of local names: no tuple is made -/
def sPar (i j : Nat) (m : AM) : SM := fun en st => (m en st).bind fun ds st1 => match ds with
  | [d, e] => .ok (.nx, (en.set i (some d)).set j (some e)) st1
  | _ => .bad
theorem ss_par {X : Cx} {cl : Clm} {W : WX} {pos : Pos} {i j : Nat} {x y : Str} {a b : Expr} {m : AM} {px py pt : Pos} {kt k2 pt2} (hc : X.calm = true) (hN : X.N.Nodup) (hi : X.N[i]? = some x) (hj : X.N[j]? = some y) (hij : i ≠ j)
    (hx : X.env.scope.names.lookup x = some .local) (hy : X.env.scope.names.lookup y = some .local) (ha : SA X cl W [a, b] m)
    (hw : swappedStores [.Tuple [.Name x px, .Name y py] kt pt] (.Tuple [a, b] k2 pt2) X.env = pure (some [x, y]))
    (hs : swapsWithSole [.Tuple [.Name x px, .Name y py] kt pt] (.Tuple [a, b] k2 pt2) pos.line X.env = pure false := by rfl) :
    SS X cl W (.Assign [.Tuple [.Name x px, .Name y py] kt pt] (.Tuple [a, b] k2 pt2) pos) (sPar i j m) :=
  ⟨ps_of (ps_par hc hN hi hj hij hx hy ha.pa hw hs) fun D s H ⟨r, en, st, he, hs, hp⟩ => ⟨r, en, st, he, hs, (Po.bind hp).mono fun r1 H1 ds st1 x1 s1 h1 vs q => by
    split at h1
    · obtain ⟨v, w, rfl, q1, q2⟩ := q.cons_inv
      obtain ⟨v', w', rfl, q3, q4⟩ := q2.cons_inv
      have := q4.nil_inv; subst this
      exact ⟨v, v', rfl, h1 r1 H1 .refl s1 _ (((he.mono x1.mn).set i q1).set j q3)⟩
    · exact h1.elim⟩⟩

/-! ### what is walked -/
structure Wk where
  items : List D
  src : List (Nat × List D)
/-- the lists that are walked stand as they stood -/
def WkOk (w : Wk) (st : S) : Prop := ∀ p ∈ w.src, seqD st (.ref p.1) = some p.2
abbrev IM := En → S → Out Wk
/-- the walk J is that of w -/
def Wj (K : Frag) (cl : Clm) (r0 : Rho) (H0 : Hp) (J : It) (w : Wk) : Prop := ∀ r H st, Xt K r0 H0 r H → RS K cl r st H → WkOk w st →
  (∀ i d, w.items[i]? = some d → J.go i H ∧ ∀ x H', J.yld i H x H' → Xt K r H r H' ∧ RS K cl r st H' ∧ RD K H' r d x) ∧ ∀ i, w.items.length ≤ i → J.stop i H
/-- the reading wi of a walked thing is what im says -/
def IMok (K : Frag) (cl : Clm) (W : WX) (wi : TI) (im : IM) : Prop := ∀ s H R, (∃ r en st, RE K H r en s ∧ RS K cl r st H ∧ Po K cl r H W (im en st) fun r' H' w _ => ∀ J, Wj K cl r' H' J w → R J H') → wi s H R
structure SI (X : Cx) (cl : Clm) (W : WX) (tg iter : Expr) (wi : TI) (im : IM) : Prop where
  pi : PI X tg iter wi
  ok : IMok X.K cl W wi im

/-- a list, a tuple, a text -/
def jAny (K : Frag) (x : V) (H : Hp) (R : It → Hp → Prop) : Prop :=
  (∃ a xs, x = .ref a ∧ SqL K H a xs ∧ R (Itl K a) H) ∨ (∃ a xs, x = .ref a ∧ SqT K H a xs ∧ R (Itt K a) H) ∨ ∃ z, x = .str z ∧ R (Its z) H
theorem pi_any {X : Cx} {tg e : Expr} {te : TE} (h : PE X e te) : PI X tg e fun s H R => te s H fun x H1 => jAny X.K x H1 R :=
  ⟨fun pins s σ H R I hw => thn (h.run pins s σ H _ I hw) fun v s1 ⟨x, H1, I1, rx, q⟩ => by
    rcases q with ⟨a, xs, ex, hq, q⟩ | ⟨a, xs, ex, hq, q⟩ | ⟨z, ex, q⟩
    · subst ex; cases rx
      obtain ⟨its, _, pl, _⟩ := I1.list hq
      exact wpAny_pyIter_list pl.isList (pi_one (tk := s1.toks) I1 _ (turn_list a _) ⟨_, Heap.get?_push_size _ rfl, rfl, rfl⟩ q)
    · subst ex; cases rx
      obtain ⟨its, _, pl, _⟩ := I1.tuple hq
      exact wpAny_pyIter_tuple (show s1.heap.IsTuple a its.toArray from pl) (pi_one (tk := s1.toks) I1 _ (turn_tuple a _) ⟨_, Heap.get?_push_size _ rfl, rfl, rfl⟩ q)
    · subst ex
      obtain ⟨t, rfl⟩ := rx
      by_cases ha : z.cps.all (· < 128) = true
      · exact wpAny_pyIter_ascii ha (pi_one (tk := s1.toks) I1 _ (turn_str _ z t _ (.inl rfl)) ⟨_, Heap.get?_push_size _ rfl, rfl, rfl⟩ q)
      · exact wpAny_pyIter_wide (by simpa using ha) (pi_one (tk := s1.toks) I1 _ (turn_str _ z t _ (.inr rfl)) ⟨_, Heap.get?_push_size _ rfl, rfl, rfl⟩ q)⟩
def signsD (z : Str) : List D := z.cps.toList.map fun c => .str ⟨#[c]⟩
def wkOf (st : S) : D → Option Wk
  | .tup l => some ⟨l, []⟩
  | .str z => some ⟨signsD z, []⟩
  | .ref n => match seqD st (.ref n) with
    | some l => some ⟨l, [(n, l)]⟩
    | none => none
  | _ => none
def iAny (m : EM) : IM := fun en st => (m en st).bind fun d st1 => match wkOf st1 d with
  | some w => .ok w st1
  | none => .bad
theorem wj_list {K : Frag} {cl : Clm} {r0 : Rho} {H0 : Hp} {n : Nat} {a : Addr} {l : List D} (h : r0 n = some a) : Wj K cl r0 H0 (Itl K a) ⟨l, [(n, l)]⟩ := fun r H st x hs ok => by
  have e : seqD st (.ref n) = some l := ok (n, l) List.mem_cons_self
  obtain ⟨b, xs, eb, q1, q2⟩ := seqD_of hs (.ref (x.ext _ _ h)) e
  cases eb
  have q2 : SqL K H a xs := by
    rcases q2 with ⟨_, _, q⟩ | ⟨_, z, _⟩
    · exact q
    · cases z
  refine ⟨fun i d g => ?_, fun i hi => ⟨xs, q2, by rw [← q1.length]; exact hi⟩⟩
  obtain ⟨v, g1, g2⟩ := q1.get g
  exact ⟨⟨xs, v, q2, g1⟩, fun y H' ⟨e1, e2⟩ => by subst e1; have := e2 xs q2; rw [g1] at this; cases this; exact ⟨.refl, hs, g2⟩⟩
theorem wj_tup {K : Frag} {cl : Clm} {r0 : Rho} {H0 : Hp} {a : Addr} {l : List D} {xs : List V} (h : SqT K H0 a xs) (hd : RDs K H0 r0 l xs) : Wj K cl r0 H0 (Itt K a) ⟨l, []⟩ := fun r H st x hs ok => by
  have q1 := hd.mono x.mn
  have q2 := x.sqt _ _ h
  refine ⟨fun i d g => ?_, fun i hi => ⟨xs, q2, by rw [← q1.length]; exact hi⟩⟩
  obtain ⟨v, g1, g2⟩ := q1.get g
  exact ⟨⟨xs, v, q2, g1⟩, fun y H' ⟨e1, e2⟩ => by subst e1; have := e2 xs q2; rw [g1] at this; cases this; exact ⟨.refl, hs, g2⟩⟩
theorem wj_str {K : Frag} {cl : Clm} {r0 : Rho} {H0 : Hp} {z : Str} : Wj K cl r0 H0 (Its z) ⟨signsD z, []⟩ := fun r H st x hs ok => by
  have hl : (signsD z).length = z.cps.size := by unfold signsD; rw [List.length_map, Array.length_toList]
  refine ⟨fun i d g => ?_, fun i hi => by have hi : (signsD z).length ≤ i := hi; rw [hl] at hi; exact hi⟩
  have g : (signsD z)[i]? = some d := g
  have hi := (List.getElem?_eq_some_iff.mp g).1
  rw [hl] at hi
  refine ⟨hi, fun y H' ⟨e1, c, e2, e3⟩ => ?_⟩
  subst e1 e3
  unfold signsD at g
  rw [List.getElem?_map, Array.getElem?_toList, e2] at g
  cases g
  exact ⟨.refl, hs, .str⟩
section
variable {X : Cx} {cl : Clm} {W : WX} {tg e e1 e2 : Expr} {pos p : Pos} {m : EM} {ma mb : AM}
theorem si_any (h : SE X cl W e m) : SI X cl W tg e (fun s H R => tE X.K cl W m s H fun x H1 => jAny X.K x H1 R) (iAny m) :=
  ⟨pi_any h.pe, fun s H R ⟨r, en, st, he, hs, hp⟩ => ⟨r, en, st, he, hs, (Po.bind hp).mono fun r1 H1 d st1 x1 s1 h1 v q => by
    cases g : wkOf st1 d with
    | none => rw [g] at h1; exact h1.elim
    | some w =>
      rw [g] at h1
      have h2 := h1 r1 H1 .refl s1
      cases d with
      | tup l =>
        cases g
        obtain ⟨a, xs, rfl, q1, q2⟩ := q.tup_inv
        exact .inr (.inl ⟨a, xs, rfl, q1, h2 _ (wj_tup q1 q2)⟩)
      | str z =>
        cases g
        exact .inr (.inr ⟨z, q.str_inv, h2 _ wj_str⟩)
      | ref n =>
        simp only [wkOf] at g
        split at g
        · rename_i l g1
          cases g
          obtain ⟨a, rfl, q1⟩ := q.ref_inv
          obtain ⟨b, xs, eb, _, y2⟩ := seqD_of s1 q g1
          cases eb
          rcases y2 with ⟨_, _, y2⟩ | ⟨_, z, _⟩
          · exact .inl ⟨a, xs, rfl, y2, h2 _ (wj_list q1)⟩
          · cases z
        · cases g
      | _ => cases g⟩⟩
/-- range(..): its ints -/
def rgD (lo hi : Int) : List D := (List.range (hi - lo).toNat).map fun (i : Nat) => .int (lo + (i : Int))
def iRng1D (m : AM) : IM := fun en st => (m en st).bind fun ds st1 => match ds with
  | [.int j] => if -(2 ^ 62) ≤ j ∧ j < 2 ^ 62 then .ok ⟨rgD 0 j, []⟩ st1 else .bad
  | _ => .bad
def iRng2D (m : AM) : IM := fun en st => (m en st).bind fun ds st1 => match ds with
  | [.int i, .int j] => if -(2 ^ 62) ≤ i ∧ i < 2 ^ 62 ∧ -(2 ^ 62) ≤ j ∧ j < 2 ^ 62 then .ok ⟨rgD i j, []⟩ st1 else .bad
  | _ => .bad
theorem wj_rng {K : Frag} {r0 : Rho} {H0 : Hp} {lo hi : Int} {n : Nat} (hn : n = (hi - lo).toNat) : Wj K cl r0 H0 (Itr lo n) ⟨rgD lo hi, []⟩ := fun r H st x hs ok => by
  have hl : (rgD lo hi).length = n := by unfold rgD; rw [List.length_map, List.length_range, hn]
  refine ⟨fun i d g => ?_, fun i hi => by have hi : (rgD lo _).length ≤ i := hi; rw [hl] at hi; exact hi⟩
  have g : (rgD lo hi)[i]? = some d := g
  have hi := (List.getElem?_eq_some_iff.mp g).1
  refine ⟨by show i < n; rw [← hl]; exact hi, fun y H' ⟨e1, e2⟩ => ?_⟩
  subst e1 e2
  unfold rgD at g
  rw [List.getElem?_map, List.getElem?_range (by rw [← hn, ← hl]; exact hi)] at g
  cases g
  exact ⟨.refl, hs, .int⟩
theorem si_rng1 (hg : Gl X "range") (hm : X.mg "range" = none) (ha : SA X cl W [e] ma) (hs : starEach [e] X.env = [(false, eval e X.env)] := by rfl) : SI X cl W tg (.Call (.Name "range" p) [e] [] pos) (iRng1 (tA X.K cl W ma)) (iRng1D ma) :=
  ⟨pi_range1 hg hm ha.pa hs, fun s H R ⟨r, en, st, he, hs, hp⟩ => ⟨r, en, st, he, hs, (Po.bind hp).mono fun r1 H1 ds st1 x1 s1 h1 vs q => by
    split at h1
    · rename_i j
      obtain ⟨v, w, rfl, q1, q2⟩ := q.cons_inv
      have := q2.nil_inv; subst this
      rw [q1.int_inv]
      split at h1
      · rename_i hz
        exact ⟨j, rfl, hz.1, hz.2, h1 r1 H1 .refl s1 _ (wj_rng (by simp))⟩
      · exact h1.elim
    · exact h1.elim⟩⟩
theorem si_rng2 (hg : Gl X "range") (hm : X.mg "range" = none) (ha : SA X cl W [e1, e2] ma) (hs : starEach [e1, e2] X.env = [(false, eval e1 X.env), (false, eval e2 X.env)] := by rfl) (hs2 : starEach [e2] X.env = [(false, eval e2 X.env)] := by rfl) :
    SI X cl W tg (.Call (.Name "range" p) [e1, e2] [] pos) (iRng2 (tA X.K cl W ma)) (iRng2D ma) :=
  ⟨pi_range2 hg hm ha.pa hs hs2, fun s H R ⟨r, en, st, he, hs, hp⟩ => ⟨r, en, st, he, hs, (Po.bind hp).mono fun r1 H1 ds st1 x1 s1 h1 vs q => by
    split at h1
    · rename_i i j
      obtain ⟨v, w, rfl, q1, q2⟩ := q.cons_inv
      obtain ⟨v', w', rfl, q3, q4⟩ := q2.cons_inv
      have := q4.nil_inv; subst this
      rw [q1.int_inv, q3.int_inv]
      split at h1
      · rename_i hz
        exact ⟨i, j, rfl, hz, h1 r1 H1 .refl s1 _ (wj_rng rfl)⟩
      · exact h1.elim
    · exact h1.elim⟩⟩
/-- enumerate of a list, zip of two lists -/
def enD (l : List D) : List D := l.zipIdx.map fun p => .tup [.int ((p.2 : Nat) : Int), p.1]
def iEn (m : AM) : IM := fun en st => (m en st).bind fun ds st1 => match ds with
  | [.ref n] => match seqD st1 (.ref n) with
    | some l => .ok ⟨enD l, [(n, l)]⟩ st1
    | none => .bad
  | _ => .bad
def ziD (l k : List D) : List D := (l.zip k).map fun p => .tup [p.1, p.2]
def iZi (m : AM) : IM := fun en st => (m en st).bind fun ds st1 => match ds with
  | [.ref n, .ref k] => match seqD st1 (.ref n), seqD st1 (.ref k) with
    | some l, some l' => .ok ⟨ziD l l', [(n, l), (k, l')]⟩ st1
    | _, _ => .bad
  | _ => .bad
theorem ref_seq {K : Frag} {cl : Clm} {r : Rho} {st : S} {H : Hp} {n : Nat} {a : Addr} {l : List D} (hs : RS K cl r st H) (h : r n = some a) (e : seqD st (.ref n) = some l) : ∃ xs, SqL K H a xs ∧ RDs K H r l xs := by
  obtain ⟨b, xs, eb, q1, q2⟩ := seqD_of hs (.ref h) e
  cases eb
  rcases q2 with ⟨_, _, q⟩ | ⟨_, z, _⟩
  · exact ⟨xs, q, q1⟩
  · cases z
theorem tup_fresh {K : Frag} {cl : Clm} {r : Rho} {st : S} {H : Hp} {T : Addr} {l : List D} {xs : List V} (hs : RS K cl r st H) (hT : H T = none) (q : RDs K H r l xs) :
    Xt K r H r (upd H T (.tup xs)) ∧ RS K cl r st (upd H T (.tup xs)) ∧ RD K (upd H T (.tup xs)) r (.tup l) (.ref T) :=
  ⟨.fresh hT, hs.fresh hT, .tup (.of upd_same) (q.mono (Xt.fresh hT).mn)⟩
theorem wj_en {K : Frag} {cl : Clm} {r0 : Rho} {H0 : Hp} {n : Nat} {a : Addr} {l : List D} (h : r0 n = some a) : Wj K cl r0 H0 (Ite K a) ⟨enD l, [(n, l)]⟩ := fun r H st x hs ok => by
  have e : seqD st (.ref n) = some l := ok (n, l) List.mem_cons_self
  obtain ⟨xs, q2, q1⟩ := ref_seq hs (x.ext _ _ h) e
  have hl : (enD l).length = l.length := by simp [enD]
  refine ⟨fun i d g => ?_, fun i hi => ⟨xs, q2, by rw [← q1.length]; have hi : (enD l).length ≤ i := hi; rw [hl] at hi; exact hi⟩⟩
  have g : (enD l)[i]? = some d := g
  unfold enD at g
  rw [List.getElem?_map, List.getElem?_zipIdx] at g
  cases q : l[i]? with
  | none => rw [q] at g; cases g
  | some y =>
    rw [q] at g
    have g : D.tup [.int ((0 + i : Nat) : Int), y] = d := Option.some.inj g
    rw [Nat.zero_add] at g
    subst g
    obtain ⟨v, g1, g2⟩ := q1.get q
    refine ⟨⟨xs, v, q2, g1⟩, fun z H' ⟨T, w, e1, e2, e3, e4⟩ => ?_⟩
    have := e4 xs q2
    rw [g1] at this; cases this
    subst e1 e3
    exact tup_fresh hs e2 (.cons .int (.cons g2 .nil))
theorem wj_zi {K : Frag} {cl : Clm} {r0 : Rho} {H0 : Hp} {n k : Nat} {a b : Addr} {l l' : List D} (h : r0 n = some a) (h' : r0 k = some b) : Wj K cl r0 H0 (Itz K a b) ⟨ziD l l', [(n, l), (k, l')]⟩ := fun r H st x hs ok => by
  have e : seqD st (.ref n) = some l := ok (n, l) List.mem_cons_self
  have e' : seqD st (.ref k) = some l' := ok (k, l') (List.mem_cons_of_mem _ List.mem_cons_self)
  obtain ⟨xs, q2, q1⟩ := ref_seq hs (x.ext _ _ h) e
  obtain ⟨ys, p2, p1⟩ := ref_seq hs (x.ext _ _ h') e'
  refine ⟨fun i d g => ?_, fun i hi => ⟨xs, ys, q2, p2, ?_⟩⟩
  · have g : (ziD l l')[i]? = some d := g
    unfold ziD at g
    rw [List.getElem?_map] at g
    cases q : (l.zip l')[i]? with
    | none => rw [q] at g; cases g
    | some y =>
      rw [q] at g
      have g : D.tup [y.1, y.2] = d := Option.some.inj g
      subst g
      rw [List.getElem?_zip_eq_some] at q
      obtain ⟨v, g1, g2⟩ := q1.get q.1
      obtain ⟨u, f1, f2⟩ := p1.get q.2
      refine ⟨⟨xs, ys, v, u, q2, p2, g1, f1⟩, fun z H' ⟨T, w, w', e1, e2, e3, e4, e5⟩ => ?_⟩
      have := e4 xs q2
      rw [g1] at this; cases this
      have := e5 ys p2
      rw [f1] at this; cases this
      subst e1 e3
      exact tup_fresh hs e2 (.cons g2 (.cons f2 .nil))
  · have hi : (ziD l l').length ≤ i := hi
    unfold ziD at hi
    rw [List.length_map, List.length_zip] at hi
    rw [← q1.length, ← p1.length]
    omega
theorem si_en {elts : List Expr} {kk : Nat} {tpos : Pos} (hg : Gl X "enumerate") (hm : X.mg "enumerate" = none) (ha : SA X cl W [e] ma) (hs : starEach [e] X.env = [(false, eval e X.env)] := by rfl) :
    SI X cl W (.Tuple elts kk tpos) (.Call (.Name "enumerate" p) [e] [] pos) (iEnum X.K (tA X.K cl W ma)) (iEn ma) :=
  ⟨pi_enum hg hm ha.pa hs, fun s H R ⟨r, en, st, he, hs, hp⟩ => ⟨r, en, st, he, hs, (Po.bind hp).mono fun r1 H1 ds st1 x1 s1 h1 vs q => by
    split at h1
    · rename_i n
      obtain ⟨v, w, rfl, q1, q2⟩ := q.cons_inv
      have := q2.nil_inv; subst this
      obtain ⟨a, rfl, g1⟩ := q1.ref_inv
      split at h1
      · rename_i l g
        obtain ⟨xs, y1, y2⟩ := ref_seq s1 g1 g
        exact ⟨a, xs, rfl, y1, h1 r1 H1 .refl s1 _ (wj_en g1)⟩
      · exact h1.elim
    · exact h1.elim⟩⟩
theorem si_zi {elts : List Expr} {kk : Nat} {tpos : Pos} (hg : Gl X "zip") (hm : X.mg "zip" = none) (ha : SA X cl W [e1, e2] ma) (hs : starEach [e1, e2] X.env = (false, eval e1 X.env) :: starEach [e2] X.env := by rfl)
    (hpl : (backTo pos (starEach [e2] X.env)).any (·.1) = false := by rfl) :
    SI X cl W (.Tuple elts kk tpos) (.Call (.Name "zip" p) [e1, e2] [] pos) (iZip X.K (tA X.K cl W ma)) (iZi ma) :=
  ⟨pi_zip hg hm ha.pa hs hpl, fun s H R ⟨r, en, st, he, hs, hp⟩ => ⟨r, en, st, he, hs, (Po.bind hp).mono fun r1 H1 ds st1 x1 s1 h1 vs q => by
    split at h1
    · rename_i n k
      obtain ⟨v, w, rfl, q1, q2⟩ := q.cons_inv
      obtain ⟨v', w', rfl, q3, q4⟩ := q2.cons_inv
      have := q4.nil_inv; subst this
      obtain ⟨a, rfl, g1⟩ := q1.ref_inv
      obtain ⟨b, rfl, g2⟩ := q3.ref_inv
      split at h1
      · rename_i l l' g g'
        obtain ⟨xs, y1, y2⟩ := ref_seq s1 g1 g
        obtain ⟨ys, z1, z2⟩ := ref_seq s1 g2 g'
        exact ⟨a, b, xs, ys, rfl, y1, z1, h1 r1 H1 .refl s1 _ (wj_zi g1 g2)⟩
      · exact h1.elim
    · exact h1.elim⟩⟩
end

/-! ### for -/
noncomputable def chk (w : Wk) (st : S) : Bool := @decide (WkOk w st) (Classical.propDecidable _)
theorem chk_iff {w : Wk} {st : S} : chk w st = true ↔ WkOk w st := @decide_eq_true_iff _ (Classical.propDecidable _)
noncomputable def loopD (w : Wk) (b : BM) (body : SM) : List D → SM
  | [], en, st => if chk w st then .ok (.nx, en) st else .bad
  | d :: ds, en, st => if chk w st then match b d en with
      | none => .bad
      | some en1 => (body en1 st).bind fun p st1 => match p.1 with
        | .nx => loopD w b body ds p.2 st1
        | .ct => loopD w b body ds p.2 st1
        | .bk => .ok (.nx, p.2) st1
        | .ret v => .ok (.ret v, p.2) st1
    else .bad
noncomputable def sFor (im : IM) (b : BM) (body : SM) : SM := fun en st => (im en st).bind fun w st1 => loopD w b body w.items en st1
section
variable {X : Cx} {cl : Clm} {W : WX} {tg iter : Expr} {body : List Stmt} {wi : TI} {im : IM} {g : TG} {b : BM} {u : SM} {sl : List Nat} {pos : Pos}
theorem ss_for (hp : PassesOwn (model X.prog X.w) X.A X.env X.xe) (hc : X.calm = true) (hi : SI X cl W tg iter wi im) (hg : PG X tg g) (hb : GM X.K sl g b) (hbd : SL X cl W body u) (hs : ∀ x, foldedSetIterable iter X.env x = pure x := by intro _; rfl) :
    SS X cl W (.For tg iter body [] pos) (sFor im b u) :=
  ⟨ps_of (ps_for hp hc hi.pi hg hbd.pss hs) fun D s H ⟨r, en, st, he, hs, hp⟩ => hi.ok s H _ ⟨r, en, st, he, hs, (Po.bind hp).mono fun r1 H1 w st1 x1 s1 h1 J hJ => by
    refine ⟨fun i m σ H' => m = w.items.length - i ∧ i ≤ w.items.length ∧ ∃ r' en' st', Xt X.K r1 H1 r' H' ∧ RE X.K H' r' en' σ ∧ RS X.K cl r' st' H' ∧ Po X.K cl r' H' W (loopD w b u (w.items.drop i) en' st') (fun r2 H2 p _ => ∀ s', RE X.K H2 r2 p.2 s' → endOf X.K D r2 H2 s' p.1),
      ⟨_, rfl, Nat.zero_le _, r1, en, st1, .refl, he.mono x1.mn, s1, by rw [List.drop_zero]; exact h1⟩, ?_⟩
    rintro i m σ H' ⟨rfl, hle, r', en', st', xx, he', hs', hq⟩
    by_cases hlt : i < w.items.length
    · rw [List.drop_eq_getElem_cons hlt] at hq
      unfold loopD at hq
      split at hq
      · rename_i hk
        obtain ⟨j1, j2⟩ := hJ r' H' st' xx hs' (chk_iff.mp hk)
        obtain ⟨go, yl⟩ := j1 i w.items[i] (List.getElem?_eq_getElem hlt)
        refine .inr ⟨go, fun σ2 H2 => ∃ r2 en2 st2, Xt X.K r1 H1 r2 H2 ∧ RE X.K H2 r2 en2 σ2 ∧ RS X.K cl r2 st2 H2 ∧ Po X.K cl r2 H2 W (loopD w b u (w.items.drop (i + 1)) en2 st2) (fun r2 H2 p _ => ∀ s', RE X.K H2 r2 p.2 s' → endOf X.K D r2 H2 s' p.1),
          fun σ2 H2 ⟨r2, en2, st2, q1, q2, q3, q4⟩ => ⟨w.items.length - (i + 1), by omega, rfl, hlt, r2, en2, st2, q1, q2, q3, q4⟩, fun x H2 y => ?_⟩
        obtain ⟨y1, y2, y3⟩ := yl x H2 y
        split at hq
        · exact hq.elim
        · rename_i en1 eb
          refine hb r' H2 _ x en' en1 σ _ y3 (he'.mono y1.mn) eb fun s' he2 _ => ?_
          refine ⟨r', en1, st', he2, y2, (Po.bind (Po.xt y1 hq)).mono fun r3 H3 p st3 x3 s3 h3 s4 re3 => ?_⟩
          obtain ⟨f, en3⟩ := p
          have xx3 := (xx.trans y1).trans x3
          cases f with
          | nx => exact ⟨r3, en3, st3, xx3, re3, s3, h3⟩
          | ct => exact ⟨r3, en3, st3, xx3, re3, s3, h3⟩
          | bk => exact h3 r3 H3 .refl s3 s4 re3
          | ret v => exact h3 r3 H3 .refl s3 s4 re3
      · exact hq.elim
    · have hi : i = w.items.length := by omega
      rw [List.drop_eq_nil_of_le (by omega)] at hq
      unfold loopD at hq
      split at hq
      · rename_i hk
        obtain ⟨j1, j2⟩ := hJ r' H' st' xx hs' (chk_iff.mp hk)
        exact .inl ⟨j2 i (by omega), hq r' H' .refl hs' σ he'⟩
      · exact hq.elim⟩⟩
end

/-! ### [elt for target in iter if test] -/
def wipeE (en : En) : List Nat → En
  | [] => en
  | v :: vs => (wipeE en vs).set v none
abbrev wN : WX := fun _ _ _ _ => False
/-- nothing may be raised in it -/
def nox {α : Type} : Out α → Out α
  | .exc _ _ _ => .bad
  | o => o
noncomputable def lcD (w : Wk) (b : BM) (ct : TM) (elt : EM) (en : En) : List D → List D → S → Out (List D)
  | [], acc, st => if chk w st then .ok acc st else .bad
  | d :: ds, acc, st => if chk w st then match b d en with
      | none => .bad
      | some en1 => (ct en1 st).bind fun k st1 => if k then (elt en1 st1).bind fun y st2 => if acc.length < sizeLine then lcD w b ct elt en ds (acc ++ [y]) st2 else .bad
        else lcD w b ct elt en ds acc st1
    else .bad
noncomputable def dLc (im : IM) (own : List Nat) (b : BM) (ct : TM) (elt : EM) : EM := fun en st => (im en st).bind fun w st1 => (nox (lcD w b ct elt (wipeE en own) w.items [] st1)).bind fun acc st2 => .ok (.ref st2.length) (st2 ++ [.lst acc])
def cYes : TM := fun _ st => .ok true st
theorem RE.wipe {K : Frag} {H : Hp} {r : Rho} {en : En} {s : St} (h : RE K H r en s) : ∀ vs : List Nat, RE K H r (wipeE en vs) (wipe s vs)
  | [] => h
  | v :: vs => by
    have ih := RE.wipe h vs
    refine ⟨by unfold wipeE L2.wipe; rw [List.length_set, List.length_set]; exact ih.1, fun j e g => ?_⟩
    have g : ((wipeE en vs).set v none)[j]? = some (some e) := g
    show ∃ x : V, ((L2.wipe s vs).set v none)[j]? = some (some x) ∧ RD K H r e x
    by_cases z : v = j
    · subst z
      by_cases hl : v < (wipeE en vs).length
      · rw [List.getElem?_set_self hl] at g; cases g
      · rw [List.getElem?_eq_none (by rw [List.length_set]; omega)] at g; cases g
    · rw [List.getElem?_set_ne z] at g ⊢
      exact ih.2 j e g
theorem wipe_get {s : St} {i : Nat} : ∀ {vs : List Nat}, (L2.wipe s vs)[i]? = if i ∈ vs ∧ i < s.length then some none else s[i]?
  | [] => by simp [L2.wipe]
  | v :: vs => by
    show ((L2.wipe s vs).set v none)[i]? = _
    by_cases z : v = i
    · subst z
      by_cases hl : v < s.length
      · rw [List.getElem?_set_self (by rw [wipe_length]; exact hl)]; simp [hl]
      · rw [List.getElem?_eq_none (by rw [List.length_set, wipe_length]; omega), List.getElem?_eq_none (by omega)]
        simp [hl]
    · rw [List.getElem?_set_ne z, wipe_get]
      have : i ≠ v := fun e => z e.symm
      simp [this]
theorem wipe_out0 {s s' : St} {sl vs : List Nat} (h : Out0 sl s s') (hs : ∀ i ∈ sl, i ∈ vs) : wipe s' vs = wipe s vs := by
  apply List.ext_getElem?
  intro i
  rw [wipe_get, wipe_get, h.1]
  by_cases q : i ∈ vs
  · by_cases hl : i < s.length
    · simp [q, hl]
    · simp only [hl, and_false, if_false]
      rw [List.getElem?_eq_none (by rw [h.1]; omega), List.getElem?_eq_none (by omega)]
  · simp only [q, false_and, if_false]
    exact h.2 i fun z => q (hs i z)
/-- several tests -/
structure STs (X : Cx) (cl : Clm) (W : WX) (ifs : List Expr) (m : TM) : Prop where
  pts : PTs X ifs (tT X.K cl W m)
theorem wipe_wipe {s : St} {vs : List Nat} : wipe (wipe s vs) vs = wipe s vs := by
  apply List.ext_getElem?
  intro i
  rw [wipe_get, wipe_get, wipe_length]
  split <;> rfl
section
variable {X : Cx} {cl : Clm} {W : WX} {tg iter elt c : Expr} {ifs : List Expr} {scope : Scope} {own : List (Str × Nat)} {wi : TI} {im : IM} {g : TG} {b : BM} {ct : TM} {m : EM} {sl : List Nat} {pos : Pos}
theorem sts_nil : STs X cl W [] cYes := ⟨⟨fun pins s σ H Q I h => pts_nil.run pins s σ H Q I (by obtain ⟨r, en, st, he, hs, hp⟩ := h; exact hp r H .refl hs)⟩⟩
theorem sts_one (h : SB X cl W c ct) : STs X cl W [c] ct := ⟨pts_one h.pt⟩
theorem lc_tr {s : St} {H : Hp} {Q : VK} (hi : IMok X.K cl W wi im) (hb : GM X.K sl g b) (hsl : ∀ i ∈ sl, i ∈ own.map (·.2)) (h : tE X.K cl W (dLc im (own.map (·.2)) b ct m) s H Q) :
    tLc wi g (tT X.K cl wN ct) (tE X.K cl wN m) (own.map (·.2)) s H Q := by
  obtain ⟨r, en, st, he, hs, hp⟩ := h
  refine hi s H _ ⟨r, en, st, he, hs, (Po.bind hp).mono fun r1 H1 w st1 x1 s1 h1 J hJ Da nD => ?_⟩
  have he1 : RE X.K H1 r1 (wipeE en (own.map (·.2))) (wipe s (own.map (·.2))) := (he.mono x1.mn).wipe _
  refine ⟨fun i k H' => k = w.items.length - i ∧ i ≤ w.items.length ∧ ∃ r' st' acc vs, H' Da = some (.lst vs) ∧ (∀ n, n ≠ 0 → r' n ≠ some Da) ∧ Xt X.K r1 H1 r' H' ∧ RDs X.K H' r' acc vs ∧ RS X.K cl r' st' H' ∧
      Po X.K cl r1 H1 W ((nox (lcD w b ct m (wipeE en (own.map (·.2))) (w.items.drop i) acc st')).bind fun acc st2 => .ok (D.ref st2.length) (st2 ++ [.lst acc])) (fun r' H' d _ => ∀ v, RD X.K H' r' d v → Q v H'), ?_, ?_⟩
  · refine ⟨_, rfl, Nat.zero_le _, r1, st1, [], [], upd_same, fun n n0 e => s1.some_of n0 e nD, .fresh nD, .nil, s1.fresh nD, h1⟩
  · rintro i k H' ⟨rfl, hle, r', st', acc, vs, hD, hn, xx, ra, hs', hq⟩
    by_cases hlt : i < w.items.length
    · rw [List.drop_eq_getElem_cons hlt] at hq
      unfold lcD at hq
      split at hq
      · rename_i hk
        obtain ⟨j1, j2⟩ := hJ r' H' st' xx hs' (chk_iff.mp hk)
        obtain ⟨go, yl⟩ := j1 i w.items[i] (List.getElem?_eq_getElem hlt)
        refine .inr ⟨go, fun H2 => ∃ r' st' acc vs, H2 Da = some (.lst vs) ∧ (∀ n, n ≠ 0 → r' n ≠ some Da) ∧ Xt X.K r1 H1 r' H2 ∧ RDs X.K H2 r' acc vs ∧ RS X.K cl r' st' H2 ∧
          Po X.K cl r1 H1 W ((nox (lcD w b ct m (wipeE en (own.map (·.2))) (w.items.drop (i + 1)) acc st')).bind fun acc st2 => .ok (D.ref st2.length) (st2 ++ [.lst acc])) (fun r' H' d _ => ∀ v, RD X.K H' r' d v → Q v H'),
          fun H2 ⟨r2, st2, acc2, vs2, q1, q2, q3, q4, q5, q6⟩ => ⟨w.items.length - (i + 1), by omega, rfl, hlt, r2, st2, acc2, vs2, q1, q2, q3, q4, q5, q6⟩, fun x H2 y => ?_⟩
        obtain ⟨y1, y2, y3⟩ := yl x H2 y
        split at hq
        · exact hq.elim
        · rename_i en1 eb
          refine hb r' H2 _ x _ en1 _ _ y3 ((he1.mono xx.mn).mono y1.mn) eb fun s' he2 o2 => ⟨?_, ?_⟩
          · rw [wipe_out0 o2 hsl, wipe_wipe]
          · have hD2 := y1.keep _ _ hD hn
            -- the test
            refine ⟨r', en1, st', he2, y2, ?_⟩
            cases e1 : ct en1 st' with
            | bad => rw [e1] at hq; exact hq.elim
            | exc e v s => rw [e1] at hq; exact hq.elim
            | ok k st3 =>
              rw [e1] at hq
              intro r3 H3 x3 s3
              have hD3 := x3.keep _ _ hD2 hn
              have hn3 : ∀ n, n ≠ 0 → r3 n ≠ some Da := fun n n0 e => by
                rcases x3.new n _ e with z | z
                · exact hn n n0 z
                · rw [hD2] at z; cases z
              have xx3 := (xx.trans y1).trans x3
              cases k with
              | false =>
                refine iteF ?_
                exact ⟨r3, st3, acc, vs, hD3, hn3, xx3, ra.mono (y1.trans x3).mn, s3, hq⟩
              | true =>
                refine iteT ?_
                refine ⟨r3, en1, st3, he2.mono x3.mn, s3, ?_⟩
                simp only [bind_ok, if_true] at hq
                cases e2 : m en1 st3 with
                | bad => rw [e2] at hq; exact hq.elim
                | exc e v s => rw [e2] at hq; exact hq.elim
                | ok d st4 =>
                  rw [e2] at hq
                  intro r4 H4 x4 s4 yv q4
                  have hD4 := x4.keep _ _ hD3 hn3
                  have hn4 : ∀ n, n ≠ 0 → r4 n ≠ some Da := fun n n0 e => by
                    rcases x4.new n _ e with z | z
                    · exact hn3 n n0 z
                    · rw [hD3] at z; cases z
                  have x24 := (y1.trans x3).trans x4
                  have ra4 := ra.mono x24.mn
                  simp only [bind_ok] at hq
                  split at hq
                  · rename_i hz
                    have mu : Mu (.lst vs) := .inl ⟨_, rfl⟩
                    have mm : Mn X.K r4 H4 r4 (upd H4 Da (.lst (vs ++ [yv]))) := ⟨fun _ _ z => z, fun b xs z => sqt_upd (mu.nt hD4) (mu.nf hD4) z⟩
                    have xx4 : Xt X.K r1 H1 r4 (upd H4 Da (.lst (vs ++ [yv]))) := by
                      have z := xx3.trans x4
                      refine ⟨z.ext, z.new, fun b o e hnb => ?_, fun b e => ?_, fun b xs e => mm.sqt _ _ (z.sqt _ _ e)⟩
                      · rw [upd_ne (fun q => by rw [q, nD] at e; cases e)]
                        exact z.keep b o e hnb
                      · by_cases q : b = Da
                        · subst q; exact nD
                        · rw [upd_ne q] at e; exact z.there b e
                    refine ⟨vs, hD4, by rw [← ra4.length]; exact hz, r4, st4, acc ++ [d], vs ++ [yv], upd_same, hn4, xx4, (ra4.append (.cons q4 .nil)).mono mm, ?_, ?_⟩
                    · refine ⟨s4.dom, fun n o e => ?_, s4.inj, s4.fz, s4.pos⟩
                      obtain ⟨a, z1, z2⟩ := s4.at_ n o e
                      by_cases n0 : n = 0
                      · have fo := (s4.fz n o e).mpr n0
                        cases o with
                        | lst l => cases fo
                        | ins c fs => cases fo
                        | set l => cases fo
                        | dT l => cases fo
                        | dK l => cases fo
                        | frz l =>
                          obtain ⟨xs, w1, w2⟩ := z2
                          refine ⟨a, z1, xs, ?_, w2.mono mm⟩
                          rcases w1 with (w1 | ⟨ob, w1⟩) | w1
                          · obtain ⟨_, _, _, e'⟩ := fzH_some w1
                            cases e'
                          · refine .inl (.inr ⟨ob, ?_⟩)
                            rw [fzH_of (o := ob) (u := .lst xs)]
                            rw [upd_ne (fun q => mu.nf hD4 _ _ (by rw [← q]; exact (fzH_some w1).1))]
                            exact (fzH_some w1).1
                          · exact .inr w1
                      · exact ⟨a, z1, z2.xt mm fun u z => by rw [upd_ne (fun q => hn4 n n0 (by rw [← q]; exact z1))]; exact z⟩
                    · exact hq
                  · exact hq.elim
      · exact hq.elim
    · have hi : i = w.items.length := by omega
      rw [List.drop_eq_nil_of_le (by omega)] at hq
      unfold lcD at hq
      split at hq
      · rename_i hk
        obtain ⟨j1, j2⟩ := hJ r' H' st' xx hs' (chk_iff.mp hk)
        refine .inl ⟨j2 i (by omega), ?_⟩
        have ps := hs'.push (p := Da) (o := .lst acc) hn ⟨vs, hD, ra.mono ⟨Xt.nxt0 hs'.dom, fun _ _ z => z⟩⟩ rfl
        have hq : Po X.K cl r1 H1 W (.ok (D.ref st'.length) (st' ++ [.lst acc])) (fun r' H' d _ => ∀ v, RD X.K H' r' d v → Q v H') := hq
        exact hq _ _ (xx.name nD hs'.dom) ps _ (.ref nxt_self)
      · exact hq.elim
end
end Dn

/-! Dn, E: comprehensions as expressions, calls, defs. -/
namespace Dn
open PySem PySem.Spec PyProof.Rows L2

section
variable {X : Cx} {cl : Clm} {W : WX} {tg iter elt c : Expr} {ifs : List Expr} {scope : Scope} {own : List (Str × Nat)} {wi : TI} {im : IM} {g : TG} {b : BM} {ct : TM} {m : EM} {sl : List Nat} {pos spos : Pos}
theorem se_lc (hc : X.calm = true) (hN : X.N.Nodup) (hi : SI X cl W tg iter wi im) (ok : BlkOk X.N X.env.scope scope own) (hb : GM X.K sl g b) (hsl : ∀ i ∈ sl, i ∈ own.map (·.2))
    (hg : ∀ (s : Shared) (H : Hp) (C : Addr) (q : List (Str × Addr)) (fp : List Addr), PG (X.blk s H scope (compEnvC scope q C X.env) fp) tg g)
    (ht : ∀ (s : Shared) (H : Hp) (C : Addr) (q : List (Str × Addr)) (fp : List Addr), STs (X.blk s H scope (compEnvC scope q C X.env) fp) cl wN ifs ct)
    (he : ∀ (s : Shared) (H : Hp) (C : Addr) (q : List (Str × Addr)) (fp : List Addr), SE (X.blk s H scope (compEnvC scope q C X.env) fp) cl wN elt m)
    (hs : ∀ x, foldedSetIterable iter X.env x = pure x := by intro _; rfl) : SE X cl W (.ListComp elt [⟨tg, iter, ifs, 0⟩] scope pos) (dLc im (own.map (·.2)) b ct m) :=
  ⟨pe_of (pe_lc hc hN hi.pi ok hg (fun s H C q fp => (ht s H C q fp).pts) (fun s H C q fp => (he s H C q fp).pe) hs) fun s H Q h => lc_tr hi.ok hb hsl h⟩
theorem ss_setLc {i : Nat} {y : Str} {py : Pos} (hc : X.calm = true) (hN : X.N.Nodup) (hy : X.N[i]? = some y) (hyl : X.env.scope.names.lookup y = some .local)
    (hsw : swapsWith (.ListComp elt [⟨tg, iter, ifs, 0⟩] scope pos) (some (.Name y py)) spos.line X.env = pure true) (hi : SI X cl W tg iter wi im) (ok : BlkOk X.N X.env.scope scope own) (hb : GM X.K sl g b) (hsl : ∀ i ∈ sl, i ∈ own.map (·.2))
    (hg : ∀ (s : Shared) (H : Hp) (C : Addr) (q : List (Str × Addr)) (fp : List Addr), PG (X.blk s H scope (compEnvC scope q C X.env) fp) tg g)
    (ht : ∀ (s : Shared) (H : Hp) (C : Addr) (q : List (Str × Addr)) (fp : List Addr), STs (X.blk s H scope (compEnvC scope q C X.env) fp) cl wN ifs ct)
    (he : ∀ (s : Shared) (H : Hp) (C : Addr) (q : List (Str × Addr)) (fp : List Addr), SE (X.blk s H scope (compEnvC scope q C X.env) fp) cl wN elt m)
    (hs : ∀ x, foldedSetIterable iter X.env x = pure x := by intro _; rfl) : SS X cl W (.Assign [.Name y py] (.ListComp elt [⟨tg, iter, ifs, 0⟩] scope pos) spos) (sSet i (dLc im (own.map (·.2)) b ct m)) :=
  ⟨ps_of (ps_setLc hc hN hy hyl hsw hi.pi ok hg (fun s H C q fp => (ht s H C q fp).pts) (fun s H C q fp => (he s H C q fp).pe) hs) fun D s H ⟨r, en, st, he, hs, hp⟩ =>
    lc_tr (Q := fun x H1 => gName i x s H1 D.nx) hi.ok hb hsl ⟨r, en, st, he, hs, (Po.bind hp).mono fun r1 H1 d st1 x1 s1 h1 v q => h1 r1 H1 .refl s1 _ ((he.mono x1.mn).set i q)⟩⟩
end

/-! ### calls -/
/-- what is raised in a callee is raised at the caller's slots -/
def atEn {α : Type} (en : En) : Out α → Out α
  | .exc e _ st => .exc e en st
  | o => o
def dCall (np : Nat) (f : List D → S → Out D) (m : AM) : EM := fun en st => (m en st).bind fun ds st1 => if ds.length = np then atEn en (f ds st1) else .bad
/-- the promise of a def that is worth f -/
def spD (K : Frag) (cl : Clm) (np : Nat) (f : List D → S → Out D) : Sp := fun vs H Q E => vs.length = np ∧ ∃ r st ds, RS K cl r st H ∧ RDs K H r ds vs ∧ match f ds st with
  | .ok d st' => ∀ r' H', Xt K r H r' H' → RS K cl r' st' H' → ∀ v, RD K H' r' d v → Q v H'
  | .exc e _ st' => ∀ r' H' c d, Xt K r H r' H' → RS K cl r' st' H' → RX K cl H' r' e c d → E c d H'
  | .bad => False
/-- the name x of the module is a def with np parameters that is worth f, at level k -/
def FnD (P : Program) (w : World) (K : Frag) (mg : Str → Option Value) (base : Heap) (cl : Clm) (x : Str) (np k : Nat) (f : List D → S → Out D) : Prop :=
  ∃ fa fd ps, mg x = some (.ref fa) ∧ PySem.W.keepIn K (.ref fa) = true ∧ Binds K fd ps [] ∧ FnOk P w K mg base (L2.CX P w) k fa fd ps (spD K cl np f)
theorem tE_call {K : Frag} {cl : Clm} {W : WX} {np : Nat} {f : List D → S → Out D} {m : AM} {s : L2.St} {H : Hp} {Q : VK} (h : tE K cl W (dCall np f m) s H Q) : tA K cl W m s H fun vs H1 => spD K cl np f vs H1 Q (WE W s) := by
  obtain ⟨r, en, st, he, hs, hp⟩ := h
  refine ⟨r, en, st, he, hs, (Po.bind hp).mono fun r1 H1 ds st1 x1 s1 h1 vs q => ?_⟩
  split at h1
  · rename_i hl
    refine ⟨by rw [← q.length]; exact hl, r1, st1, ds, s1, q, ?_⟩
    cases e : f ds st1 with
    | ok d st' => rw [e] at h1; exact h1
    | exc x en' st' => rw [e] at h1; exact fun r' H' c d y z w => h1 r' H' s c d y z (he.mono (x1.trans y).mn) w
    | bad => rw [e] at h1; exact h1
  · exact h1.elim
section
variable {X : Cx} {cl : Clm} {W : WX} {e : Expr} {es : List Expr} {x : Str} {np k : Nat} {f : List D → S → Out D} {m : AM} {p pos : Pos}
theorem se_call (F : FnD X.prog X.w X.K X.mg X.base cl x np k f) (hr : Room k X.A) (tk : Takes X W) (hg : Gl X x) (ha : SA X cl W (e :: es) m) (hdb : (x == ("__debug__" : Str)) = false := by decide)
    (he : starEach (e :: es) X.env = (false, eval e X.env) :: starEach es X.env := by rfl) (hpl : (backTo pos (starEach es X.env)).any (·.1) = false := by rfl) : SE X cl W (.Call (.Name x p) (e :: es) [] pos) (dCall np f m) := by
  obtain ⟨fa, fd, ps, hm, hk, hb, F⟩ := F
  exact ⟨pe_of (pe_callS F hr hg hm hk hb (fun σ => passAt tk σ) ha.pa hdb he hpl) fun s H Q h => tE_call h⟩
theorem se_call0 (F : FnD X.prog X.w X.K X.mg X.base cl x np k f) (hr : Room k X.A) (tk : Takes X W) (hg : Gl X x) (hdb : (x == ("__debug__" : Str)) = false := by decide) : SE X cl W (.Call (.Name x p) [] [] pos) (dCall np f dNil) := by
  obtain ⟨fa, fd, ps, hm, hk, hb, F⟩ := F
  refine ⟨⟨fun pins s σ H Q I h => ?_⟩⟩
  refine wpAny_Call_Name_kw (ld_glob I hg hm ?_ hdb)
  obtain ⟨r, en, st, he, hs, hp⟩ := tE_call h
  exact PySem.W.callWith_K0 I.kIn hk (run_fnS (us := []) F hr hb (passAt tk σ) I .nil (hp r H .refl hs [] .nil))
end

/-! ### a def by its body -/
def defD (np n : Nat) (body : SM) : List D → S → Out D := fun ds st => if ds.length = np then match body (ds.map some ++ List.replicate (n - np) none) st with
    | .ok (.ret d, _) st' => .ok d st'
    | .ok (.nx, _) st' => .ok .non st'
    | .ok _ _ => .bad
    | .exc e en st' => .exc e en st'
    | .bad => .bad
  else .bad
theorem RE.start {K : Frag} {H : Hp} {r : Rho} {ds : List D} {vs : List V} (N : List Str) (q : RDs K H r ds vs) : RE K H r (ds.map some ++ List.replicate (N.length - ds.length) none) (L2.start N vs) := by
  show RE K H r _ (vs.map some ++ List.replicate (N.length - vs.length) none)
  refine ⟨by rw [List.length_append, List.length_append, List.length_map, List.length_map, List.length_replicate, List.length_replicate, q.length], fun i d e => ?_⟩
  by_cases hi : i < ds.length
  · rw [List.getElem?_append_left (by rw [List.length_map]; exact hi), List.getElem?_map] at e
    rw [List.getElem?_append_left (by rw [List.length_map, ← q.length]; exact hi), List.getElem?_map]
    cases g : ds[i]? with
    | none => rw [g] at e; cases e
    | some x =>
      rw [g] at e
      cases e
      obtain ⟨v, q1, q2⟩ := q.get g
      exact ⟨v, by rw [q1]; rfl, q2⟩
  · rw [List.getElem?_append_right (by rw [List.length_map]; omega)] at e
    have := List.mem_of_getElem? e
    rw [List.mem_replicate] at this
    cases this.2
section
variable {P : Program} {w : World} {K : Frag} {mg : Str → Option Value} {base : Heap} {cl : Clm}
theorem fnOk_of {x qual : Str} {st : Stmt} {fa : Addr} {fd : FuncData} {N ps : List Str} {k np n : Nat} {body : SM} (F : Fun K x qual st fa fd) (sc : FnScope N ps (defScope st)) (h1 : ps.length = np) (h2 : N.length = n)
    (hbody : ∀ (cdv : Value) (A : Around) (outer : List Env) (s : Shared) (H : Hp) (E : XK), Room k (A.deeper (envOfC qual (defScope st) s.heap.objs.size fa cdv)) →
      Takes (cxOf (L2.CX P w) P w K mg base N qual (defScope st) fa cdv A outer s H E) (fun c d _ H => E c d H) → SL (cxOf (L2.CX P w) P w K mg base N qual (defScope st) fa cdv A outer s H E) cl (fun c d _ H => E c d H) (defBody st) body) :
    FnOk P w K mg base (L2.CX P w) (k + 1) fa fd ps (spD K cl np (defD np n body)) := by
  subst h1 h2
  refine F.okX sc (fun vs H Q E h => h.1) fun cdv A outer s H vs Q E hr h => ?_
  obtain ⟨hl, r, st0, ds, hs, q, hp⟩ := h
  refine ⟨_, (hbody cdv A outer s H E hr (takes_of rfl rfl rfl rfl)).pss, ?_⟩
  have hl2 : ds.length = ps.length := by rw [q.length]; exact hl
  refine ⟨r, ds.map some ++ List.replicate (N.length - ps.length) none, st0, by rw [← hl2]; exact .start N q, hs, ?_⟩
  unfold defD at hp
  rw [if_pos hl2] at hp
  cases e : body (ds.map some ++ List.replicate (N.length - ps.length) none) st0 with
  | bad => rw [e] at hp; exact hp
  | exc x en st' => rw [e] at hp; exact fun r' H' s' c d y z _ u => hp r' H' c d y z u
  | ok p st' =>
    obtain ⟨f, en⟩ := p
    rw [e] at hp
    cases f with
    | ret d => exact fun r' H' y z s' _ v qv => hp r' H' y z v qv
    | nx => exact fun r' H' y z s' _ => hp r' H' y z _ .non
    | bk => exact hp.elim
    | ct => exact hp.elim
theorem fnD_of {x qual : Str} {st : Stmt} {fa : Addr} {fd : FuncData} {N ps : List Str} {k np n : Nat} {body : SM} (F : Fun K x qual st fa fd) (sc : FnScope N ps (defScope st)) (h1 : ps.length = np) (h2 : N.length = n) (hm : mg x = some (.ref fa)) (hb : Binds K fd ps [])
    (hbody : ∀ (cdv : Value) (A : Around) (outer : List Env) (s : Shared) (H : Hp) (E : XK), Room k (A.deeper (envOfC qual (defScope st) s.heap.objs.size fa cdv)) →
      Takes (cxOf (L2.CX P w) P w K mg base N qual (defScope st) fa cdv A outer s H E) (fun c d _ H => E c d H) → SL (cxOf (L2.CX P w) P w K mg base N qual (defScope st) fa cdv A outer s H E) cl (fun c d _ H => E c d H) (defBody st) body) :
    FnD P w K mg base cl x np (k + 1) (defD np n body) := ⟨fa, fd, ps, hm, F.kp, hb, fnOk_of F sc h1 h2 hbody⟩
theorem FnD.mono {x : Str} {np j k : Nat} {f : List D → S → Out D} (F : FnD P w K mg base cl x np j f) (h : j ≤ k) : FnD P w K mg base cl x np k f :=
  let ⟨fa, fd, ps, a, b, c, d⟩ := F
  ⟨fa, fd, ps, a, b, c, d.mono h⟩
end

/-! ### built-ins by name -/
section
variable {X : Cx} {cl : Clm} {W : WX} {e : Expr} {es : List Expr} {x : Str} {f : List D → S → Out D} {q : List V → Hp → VK → Prop} {ma : AM} {p pos : Pos}
theorem se_callB {id : String} (hc : CallR X (.builtin id) q) (hf : OpN X.K cl f q) (hg : Gl X x) (hm : X.mg x = none) (hv : bootBuiltins x = some (.builtin id)) (ha : SA X cl W (e :: es) ma) (hn : x ≠ "__name__" := by decide) (hdb : (x == ("__debug__" : Str)) = false := by decide)
    (he : starEach (e :: es) X.env = (false, eval e X.env) :: starEach es X.env := by rfl) (hpl : (backTo pos (starEach es X.env)).any (·.1) = false := by rfl) : SE X cl W (.Call (.Name x p) (e :: es) [] pos) (dON f ma) :=
  ⟨pe_of (pe_callB hc hg hm hv ha.pa hn hdb he hpl) fun _ _ _ h => tE_on hf h⟩
theorem se_callTy {T : String} (hc : CallR X (.type T) q) (hf : OpN X.K cl f q) (hg : Gl X x) (hm : X.mg x = none) (hv : bootBuiltins x = some (.type T)) (ha : SA X cl W (e :: es) ma) (hn : x ≠ "__name__" := by decide) (hdb : (x == ("__debug__" : Str)) = false := by decide)
    (he : starEach (e :: es) X.env = (false, eval e X.env) :: starEach es X.env := by rfl) (hpl : (backTo pos (starEach es X.env)).any (·.1) = false := by rfl) : SE X cl W (.Call (.Name x p) (e :: es) [] pos) (dON f ma) :=
  ⟨pe_of (pe_callTy hc hg hm hv ha.pa hn hdb he hpl) fun _ _ _ h => tE_on hf h⟩
end
def dLen : List D → S → Out D
  | [.str z], st => if z.length ≤ sizeLine then .ok (.int z.length) st else .bad
  | [x], st => match seqD st x with
    | some l => .ok (.int l.length) st
    | none => .bad
  | _, _ => .bad
def dInt : List D → S → Out D
  | [.int i], st => .ok (.int i) st
  | [.bl k], st => .ok (.int (if k then 1 else 0)) st
  | [.str z], st => match PySem.intText? z with
    | some n => if z.length ≤ 640 then .ok (.int n) st else .bad
    | none => .bad
  | _, _ => .bad
def dStr : List D → S → Out D
  | [.int i], st => if i.natAbs.log2 < 1920 then .ok (.str (toString i)) st else .bad
  | _, _ => .bad
def dList : List D → S → Out D
  | [x], st => match seqD st x with
    | some l => .ok (.ref st.length) (st ++ [.lst l])
    | none => .bad
  | _, _ => .bad
def dTuple : List D → S → Out D
  | [x], st => match seqD st x with
    | some l => .ok (.tup l) st
    | none => .bad
  | _, _ => .bad
def dMax2 : List D → S → Out D
  | [.int i, .int j], st => .ok (.int (if j > i then j else i)) st
  | _, _ => .bad
def dMin2 : List D → S → Out D
  | [.int i, .int j], st => .ok (.int (if j < i then j else i)) st
  | _, _ => .bad
def dAbs : List D → S → Out D
  | [.int i], st => .ok (.int (if i < 0 then -i else i)) st
  | _, _ => .bad
section
variable {K : Frag} {cl : Clm}
theorem rds1 {H : Hp} {r : Rho} {x : D} {vs : List V} (h : RDs K H r [x] vs) : ∃ v, vs = [v] ∧ RD K H r x v := by
  obtain ⟨v, w, rfl, q1, q2⟩ := h.cons_inv
  have := q2.nil_inv; subst this
  exact ⟨v, rfl, q1⟩
theorem rds2 {H : Hp} {r : Rho} {x y : D} {vs : List V} (h : RDs K H r [x, y] vs) : ∃ v w, vs = [v, w] ∧ RD K H r x v ∧ RD K H r y w := by
  obtain ⟨v, w, rfl, q1, q2⟩ := h.cons_inv
  obtain ⟨u, rfl, q3⟩ := rds1 q2
  exact ⟨v, u, rfl, q1, q3⟩
abbrev pLen (K : Frag) : List V → Hp → VK → Prop := fun xs H Q => ∃ x n, xs = [x] ∧ LenV K x H n ∧ Q (.int n) H
theorem opn_len : OpN K cl dLen (pLen K) := by
  intro r st H W xs vs Q hs hx hp
  unfold dLen at hp
  split at hp
  · obtain ⟨v, rfl, q⟩ := rds1 hx
    split at hp
    · rename_i hz
      rw [q.str_inv]
      exact ⟨_, _, rfl, ⟨hz, rfl⟩, hp r H .refl hs _ .int⟩
    · exact hp.elim
  · obtain ⟨v, rfl, q⟩ := rds1 hx
    split at hp
    · rename_i l e
      obtain ⟨a, ys, rfl, q1, q2⟩ := seqD_of hs q e
      refine ⟨_, l.length, rfl, ?_, hp r H .refl hs _ .int⟩
      rcases q2 with ⟨_, _, q2⟩ | ⟨_, _, q2⟩
      · exact .inl ⟨ys, q2, q1.length⟩
      · exact .inr ⟨ys, q2, q1.length⟩
    · exact hp.elim
  · exact hp.elim
abbrev pInt : List V → Hp → VK → Prop := fun xs H Q => ((∃ i, xs = [.int i] ∧ Q (.int i) H) ∨ ∃ k, xs = [.bl k] ∧ Q (.int (if k then 1 else 0)) H) ∨ ∃ a n, xs = [.str a] ∧ PySem.intText? a = some n ∧ a.length ≤ 640 ∧ Q (.int n) H
theorem call_intA {X : Cx} : CallR X (.type "int") pInt := call_int1.or call_int_str
theorem opn_int : OpN K cl dInt pInt := by
  intro r st H W xs vs Q hs hx hp
  unfold dInt at hp
  split at hp
  · obtain ⟨v, rfl, q⟩ := rds1 hx
    rw [q.int_inv]
    exact .inl (.inl ⟨_, rfl, hp r H .refl hs _ .int⟩)
  · obtain ⟨v, rfl, q⟩ := rds1 hx
    rw [q.bl_inv]
    exact .inl (.inr ⟨_, rfl, hp r H .refl hs _ .int⟩)
  · obtain ⟨v, rfl, q⟩ := rds1 hx
    rw [q.str_inv]
    split at hp
    · rename_i n e
      split at hp
      · rename_i hz
        exact .inr ⟨_, n, rfl, e, hz, hp r H .refl hs _ .int⟩
      · exact hp.elim
    · exact hp.elim
  · exact hp.elim
abbrev pStr : List V → Hp → VK → Prop := fun xs H Q => ∃ i, xs = [.int i] ∧ i.natAbs.log2 < 1920 ∧ Q (.str (toString i)) H
theorem opn_str : OpN K cl dStr pStr := by
  intro r st H W xs vs Q hs hx hp
  unfold dStr at hp
  split at hp
  · obtain ⟨v, rfl, q⟩ := rds1 hx
    rw [q.int_inv]
    split at hp
    · rename_i hz
      exact ⟨_, rfl, hz, hp r H .refl hs _ .str⟩
    · exact hp.elim
  · exact hp.elim
abbrev pList (K : Frag) : List V → Hp → VK → Prop := fun xs H Q => ∃ p ys, xs = [.ref p] ∧ (SqL K H p ys ∨ SqT K H p ys) ∧ ∀ l, H l = none → Q (.ref l) (upd H l (.lst ys))
theorem opn_list : OpN K cl dList (pList K) := by
  intro r st H W xs vs Q hs hx hp
  unfold dList at hp
  split at hp
  · obtain ⟨v, rfl, q⟩ := rds1 hx
    split at hp
    · rename_i l e
      obtain ⟨a, ys, rfl, q1, q2⟩ := seqD_of hs q e
      refine ⟨a, ys, rfl, ?_, new_lst hs q1 hp⟩
      rcases q2 with ⟨_, _, q2⟩ | ⟨_, _, q2⟩
      · exact .inl q2
      · exact .inr q2
    · exact hp.elim
  · exact hp.elim
abbrev pTuple (K : Frag) : List V → Hp → VK → Prop := fun xs H Q => ∃ p ys, xs = [.ref p] ∧ ((SqL K H p ys ∧ ∀ l, H l = none → Q (.ref l) (upd H l (.tup ys))) ∨ (SqT K H p ys ∧ Q (.ref p) H))
theorem opn_tuple : OpN K cl dTuple (pTuple K) := by
  intro r st H W xs vs Q hs hx hp
  unfold dTuple at hp
  split at hp
  · obtain ⟨v, rfl, q⟩ := rds1 hx
    split at hp
    · rename_i l e
      obtain ⟨a, ys, rfl, q1, q2⟩ := seqD_of hs q e
      refine ⟨a, ys, rfl, ?_⟩
      rcases q2 with ⟨_, _, q2⟩ | ⟨_, _, q2⟩
      · exact .inl ⟨q2, new_tup hs q1 hp⟩
      · exact .inr ⟨q2, hp r H .refl hs _ (.tup q2 q1)⟩
    · exact hp.elim
  · exact hp.elim
abbrev pMax2 : List V → Hp → VK → Prop := fun xs H Q => ∃ i j, xs = [.int i, .int j] ∧ Q (.int (if j > i then j else i)) H
abbrev pMin2 : List V → Hp → VK → Prop := fun xs H Q => ∃ i j, xs = [.int i, .int j] ∧ Q (.int (if j < i then j else i)) H
theorem opn_max2 : OpN K cl dMax2 pMax2 := by
  intro r st H W xs vs Q hs hx hp
  unfold dMax2 at hp
  split at hp
  · obtain ⟨v, w, rfl, q1, q2⟩ := rds2 hx
    rw [q1.int_inv, q2.int_inv]
    exact ⟨_, _, rfl, hp r H .refl hs _ .int⟩
  · exact hp.elim
theorem opn_min2 : OpN K cl dMin2 pMin2 := by
  intro r st H W xs vs Q hs hx hp
  unfold dMin2 at hp
  split at hp
  · obtain ⟨v, w, rfl, q1, q2⟩ := rds2 hx
    rw [q1.int_inv, q2.int_inv]
    exact ⟨_, _, rfl, hp r H .refl hs _ .int⟩
  · exact hp.elim
abbrev pAbs : List V → Hp → VK → Prop := fun xs H Q => ∃ i, xs = [.int i] ∧ Q (.int (if i < 0 then -i else i)) H
theorem opn_abs : OpN K cl dAbs pAbs := by
  intro r st H W xs vs Q hs hx hp
  unfold dAbs at hp
  split at hp
  · obtain ⟨v, rfl, q1⟩ := rds1 hx
    rw [q1.int_inv]
    exact ⟨_, rfl, hp r H .refl hs _ .int⟩
  · exact hp.elim
end
/-- isinstance with a built-in class -/
def tyN (st : S) : D → Option String
  | .non => some "NoneType"
  | .bl _ => some "bool"
  | .int _ => some "int"
  | .str _ => some "str"
  | .tup _ => some "tuple"
  | .ref n => match st[n]? with
    | some (.lst _) => some "list"
    | some (.frz _) => some "list"
    | _ => none
  | .ty _ => none
def subTy (a b : String) : Option Bool := if b = "bool" ∨ b = "int" ∨ b = "str" ∨ b = "tuple" ∨ b = "list" then some (a = b ∨ (a = "bool" ∧ b = "int")) else none
def dIsi : List D → S → Out D
  | [x, .ty b], st => match tyN st x with
    | some a => match subTy a b with
      | some k => .ok (.bl k) st
      | none => .bad
    | none => .bad
  | _, _ => .bad
theorem subTy_kit {a b : String} {k : Bool} (ha : a = "NoneType" ∨ a = "bool" ∨ a = "int" ∨ a = "str" ∨ a = "tuple" ∨ a = "list") (h : subTy a b = some k) : kitB a b = some k := by
  unfold subTy at h
  split at h
  · rename_i hb
    cases h
    rcases ha with rfl | rfl | rfl | rfl | rfl | rfl <;> rcases hb with rfl | rfl | rfl | rfl | rfl <;> decide +kernel
  · cases h
theorem se_ty {X : Cx} {cl : Clm} {W : WX} {x : Str} {n : String} {pos : Pos} (hg : Gl X x) (hm : X.mg x = none) (hv : bootBuiltins x = some (.type n)) (hn : x ≠ "__name__" := by decide) (hd : (x == ("__debug__" : Str)) = false := by decide) : SE X cl W (.Name x pos) (dC (.ty n)) :=
  se_c (pe_bltn (v := .ty n) hg hm hv rfl hn hd) fun _ _ => .ty
theorem opn_isi {K : Frag} {cl : Clm} : OpN K cl dIsi (rIsi K) := by
  intro r st H W xs vs Q hs hx hp
  unfold dIsi at hp
  split at hp
  · rename_i x b
    obtain ⟨v, w, rfl, q1, q2⟩ := rds2 hx
    rw [q2.ty_inv]
    cases e : tyN st x with
    | none => rw [e] at hp; exact hp.elim
    | some a =>
      rw [e] at hp
      cases e2 : subTy a b with
      | none => simp only [e2] at hp; exact hp.elim
      | some k =>
        simp only [e2] at hp
        have done : ∀ t : String, TyX K H v (.type t) → a = t → (t = "NoneType" ∨ t = "bool" ∨ t = "int" ∨ t = "str" ∨ t = "tuple" ∨ t = "list") → rIsi K [v, .ty b] H Q := fun t ht hat hh => by
          subst hat
          exact ⟨v, .ty b, .type a, .type b, k, rfl, .ty b, ht, kit_ty (subTy_kit hh e2), hp r H .refl hs _ .bl⟩
        cases x with
        | non => cases e; rw [q1.non_inv] at done ⊢; exact done _ (.base .non) rfl (by simp)
        | bl y => cases e; rw [q1.bl_inv] at done ⊢; exact done _ (.base (.bl _)) rfl (by simp)
        | int y => cases e; rw [q1.int_inv] at done ⊢; exact done _ (.base (.int _)) rfl (by simp)
        | str y => cases e; rw [q1.str_inv] at done ⊢; exact done _ (.base (.str _)) rfl (by simp)
        | ty y => cases e
        | tup l =>
          cases e
          obtain ⟨p, ys, rfl, h1, h2⟩ := q1.tup_inv
          refine done "tuple" ?_ rfl (by simp)
          rcases h1 with (h1 | ⟨ob, h1⟩) | ⟨o, its, n, h1, h3, _⟩
          · exact .base (.tup h1)
          · exact .fTuple h1
          · exact .kTuple h1 h3
        | ref n =>
          obtain ⟨p, rfl, h1⟩ := q1.ref_inv
          have key : ∀ l, st[n]? = some (.lst l) ∨ st[n]? = some (.frz l) → TyX K H (.ref p) (.type "list") := fun l g => by
            obtain ⟨ys, h3, _⟩ := seq_at hs g h1
            rcases h3 with (h3 | ⟨ob, h3⟩) | ⟨o, its, n, h3, h4, _⟩
            · exact .base (.lst h3)
            · exact .base (.frz h3)
            · exact .kList h3 h4
          simp only [tyN] at e
          split at e
          · rename_i l g
            cases e
            exact done "list" (key l (.inl g)) rfl (by simp)
          · rename_i l g
            cases e
            exact done "list" (key l (.inr g)) rfl (by simp)
          · cases e
  · exact hp.elim
end Dn

/-! Dn, F: methods of built-ins, stores to items. -/
namespace Dn
open PySem L2

def isT (T : String) (st : S) : D → Bool
  | .str _ => T == "str"
  | .ref n => T == "list" && match st[n]? with
    | some (.lst _) => true
    | some (.frz _) => true
    | _ => false
  | _ => false
def dMt (T : String) (f : D → List D → S → Out D) (ma : EM) (mr : AM) : EM := fun en st => (ma en st).bind fun x st1 => if isT T st1 x then (mr en st1).bind fun xs st2 => f x xs st2 else .bad
theorem isT_of {K : Frag} {cl : Clm} {r : Rho} {st : S} {H : Hp} {T : String} {x : D} {v : V} (hs : RS K cl r st H) (q : RD K H r x v) (e : isT T st x = true) : tyV K T v H := by
  cases x with
  | str z =>
    rw [q.str_inv]
    exact beq_iff_eq.mp e
  | ref n =>
    obtain ⟨a, rfl, h1⟩ := q.ref_inv
    simp only [isT, Bool.and_eq_true, beq_iff_eq] at e
    obtain ⟨e1, e2⟩ := e
    refine .inl ⟨e1, ?_⟩
    split at e2
    · rename_i l g
      obtain ⟨xs, q1, _⟩ := seq_at hs (.inl g) h1
      exact ⟨xs, q1⟩
    · rename_i l g
      obtain ⟨xs, q1, _⟩ := seq_at hs (.inr g) h1
      exact ⟨xs, q1⟩
    · cases e2
  | _ => cases e
section
variable {X : Cx} {cl : Clm} {W : WX} {e o i : Expr} {es : List Expr} {name : Str} {T id : String} {f : D → List D → S → Out D} {q : V → List V → Hp → VK → Prop} {ma mi me : EM} {mr : AM} {p pos : Pos}
theorem se_mt (pa : PlainAttrs T) (slot : Slot T name id) (hty : typeOf (.builtin id) = pure (.type "method_descriptor")) (hm : MtR X id q) (hf : OpM X.K cl f q) (ho : SE X cl W o ma) (ha : SA X cl W (e :: es) mr)
    (h1 : attributeBase o name X.env (eval o X.env) = eval o X.env := by rfl)
    (h2 : ((backTo pos (starEach (e :: es) X.env)).all (fun x => !x.1) && (backToKw pos (keywordEach [] X.env)).all (fun x => x.1.isSome) && decide ((e :: es).length + ([] : List Keyword).length + (if ([] : List Keyword).isEmpty then 0 else 1) < 30)) = true := by rfl)
    (h3 : (p.endLine == pos.line) = true := by rfl) (h4 : starEach (e :: es) X.env = (false, eval e X.env) :: starEach es X.env := by rfl) (h5 : (backTo pos (starEach es X.env)).any (·.1) = false := by rfl) :
    SE X cl W (.Call (.Attribute o name p) (e :: es) [] pos) (dMt T f ma mr) :=
  ⟨pe_of (pe_bm pa slot hty hm ho.pe ha.pa h1 h2 h3 h4 h5) fun s H Q ⟨r, en, st, he, hs, hp⟩ => ⟨r, en, st, he, hs, (Po.bind hp).mono fun r1 H1 x st1 x1 s1 h1 v q1 => by
    split at h1
    · rename_i hk
      exact ⟨isT_of s1 q1 hk, r1, en, st1, he.mono x1.mn, s1, (Po.bind h1).mono fun r2 H2 ds st2 x2 s2 h2 vs q2 => hf r2 st2 H2 W x ds v vs Q s2 (q1.mono x2.mn) q2 h2⟩
    · exact h1.elim⟩⟩
theorem se_mt0 (pa : PlainAttrs T) (slot : Slot T name id) (hty : typeOf (.builtin id) = pure (.type "method_descriptor")) (hm : MtR X id q) (hf : OpM X.K cl f q) (ho : SE X cl W o ma)
    (h1 : attributeBase o name X.env (eval o X.env) = eval o X.env := by rfl) (h3 : (p.endLine == pos.line) = true := by rfl) : SE X cl W (.Call (.Attribute o name p) [] [] pos) (dMt T f ma dNil) :=
  ⟨pe_of (pe_bm0 pa slot hty hm ho.pe h1 h3) fun s H Q ⟨r, en, st, he, hs, hp⟩ => ⟨r, en, st, he, hs, (Po.bind hp).mono fun r1 H1 x st1 x1 s1 h1 v q1 => by
    split at h1
    · rename_i hk
      exact ⟨isT_of s1 q1 hk, hf r1 st1 H1 W x [] v [] Q s1 q1 .nil h1⟩
    · exact h1.elim⟩⟩

/-! ### o[i] = e -/
def sSetI (mo mi me : EM) : SM := fun en st => (me en st).bind fun d st1 => (mo en st1).bind fun o st2 => (mi en st2).bind fun i st3 => match o, i with
  | .ref n, .int k => match st3[n]? with
    | some (.lst xs) => match ixN xs.length k with
      | some j => .ok (.nx, en) (st3.set n (.lst (xs.set j d)))
      | none => .bad
    | _ => .bad
  | _, _ => .bad
theorem put_lst {K : Frag} {cl : Clm} {r : Rho} {st : S} {H : Hp} {n : Nat} {a : Addr} {l l' : List D} {xs xs' : List V} (hs : RS K cl r st H) (g : st[n]? = some (.lst l)) (h : r n = some a) (e : H a = some (.lst xs)) (q : RDs K H r l' xs') :
    RS K cl r (st.set n (.lst l')) (upd H a (.lst xs')) ∧ Xt K r H r (upd H a (.lst xs')) := by
  have mu : Mu (.lst xs) := .inl ⟨_, rfl⟩
  have mm : Mn K r H r (upd H a (.lst xs')) := ⟨fun _ _ z => z, fun b ys z => sqt_upd (mu.nt e) (mu.nf e) z⟩
  exact write_at hs (hs.ne0 g rfl) h e mu rfl ⟨xs', upd_same, q.mono mm⟩
theorem ss_setI {tpos : Pos} (ho : SE X cl W o ma) (hi : SE X cl W i mi) (he : SE X cl W e me) (ha : ∀ v, assign (.Subscript o i tpos) X.env v = (do
      let ov ← holding [v] (eval o X.env)
      let iv ← holding [v, ov] (eval i X.env)
      standAt tpos
      holding [v, ov, iv] (setItem ov iv v)
      release [v, ov, iv] []) := by intro _; rfl)
    (hs : swapsWithSole [.Subscript o i tpos] e pos.line X.env = pure false := by rfl) (hw : swappedStores [.Subscript o i tpos] e X.env = pure none := by rfl) (h1 : (assignEach [.Subscript o i tpos] X.env).map (·.2) = [assign (.Subscript o i tpos) X.env] := by rfl) :
    SS X cl W (.Assign [.Subscript o i tpos] e pos) (sSetI ma mi me) :=
  ⟨ps_of (ps_asg he.pe (pg_sub ho.pe hi.pe set_list ha) hs hw h1) fun D s H ⟨r, en, st, he, hs, hp⟩ => ⟨r, en, st, he, hs, (Po.bind hp).mono fun r1 H1 d st1 x1 s1 h1 v q1 =>
    ⟨r1, en, st1, he.mono x1.mn, s1, (Po.bind h1).mono fun r2 H2 o st2 x2 s2 h2 ov q2 => ⟨r2, en, st2, he.mono (x1.trans x2).mn, s2, (Po.bind h2).mono fun r3 H3 i st3 x3 s3 h3 iv q3 => by
      split at h3
      · rename_i n k
        obtain ⟨a, rfl, g1⟩ := (q2.mono x3.mn).ref_inv
        rw [q3.int_inv]
        split at h3
        · rename_i l g
          split at h3
          · rename_i j ej
            obtain ⟨xs, y1, y2⟩ := lst_at s3 g g1
            obtain ⟨z1, z2⟩ := put_lst s3 g g1 y1 (y2.set j (q1.mono (x2.trans x3).mn))
            exact ⟨a, xs, k, j, rfl, rfl, y1, by rw [← y2.length]; exact ej, h3 _ _ z2 z1 _ (he.mono (((x1.trans x2).trans x3).trans z2).mn)⟩
          · exact h3.elim
        · exact h3.elim
      · exact h3.elim⟩⟩⟩⟩
end

/-! ### methods of lists -/
def mAppend : D → List D → S → Out D
  | .ref n, [y], st => match st[n]? with
    | some (.lst xs) => if xs.length < sizeLine then .ok .non (st.set n (.lst (xs ++ [y]))) else .bad
    | _ => .bad
  | _, _, _ => .bad
def mExtend : D → List D → S → Out D
  | .ref n, [.ref m], st => match st[n]?, st[m]? with
    | some (.lst xs), some (.lst ys) => if xs.length + ys.length ≤ sizeLine then .ok .non (st.set n (.lst (xs ++ ys))) else .bad
    | _, _ => .bad
  | _, _, _ => .bad
def mPopAt : D → List D → S → Out D
  | .ref n, [.int i], st => match st[n]? with
    | some (.lst xs) => if -(2 ^ 63) ≤ i ∧ i < 2 ^ 63 then match seqIndex? i xs.length with
      | some k => match xs[k]? with
        | some y => .ok y (st.set n (.lst (xs.eraseIdx k)))
        | none => .bad
      | none => .bad
      else .bad
    | _ => .bad
  | _, _, _ => .bad
/-- the place of the first of the same -/
def firstAt (d : PyData) : List PyData → Option Nat
  | [] => none
  | z :: zs => if PyData.eqv z d then some 0 else (firstAt d zs).map (· + 1)
def mIndex : D → List D → S → Out D
  | .ref n, [y], st => match st[n]? with
    | some (.lst xs) => match tre st 12 y, mapO (tre st 11) xs with
      | some d, some ds => if (SeqAt.shaped d && SeqAt.shaped (.list ds)) = true then match firstAt d ds with
        | some j => .ok (.int (j : Nat)) st
        | none => .bad
        else .bad
      | _, _ => .bad
    | _ => .bad
  | _, _, _ => .bad
section
variable {K : Frag} {cl : Clm}
theorem opm_append : OpM K cl mAppend rAppend := by
  intro r st H W x xs v vs Q hs hx hxs hp
  unfold mAppend at hp
  split at hp
  · rename_i n y
    obtain ⟨a, rfl, g1⟩ := hx.ref_inv
    obtain ⟨w, rfl, q⟩ := rds1 hxs
    split at hp
    · rename_i l g
      split at hp
      · rename_i hz
        obtain ⟨ys, y1, y2⟩ := lst_at hs g g1
        obtain ⟨z1, z2⟩ := put_lst hs g g1 y1 (y2.append (.cons q .nil))
        exact ⟨a, ys, w, rfl, rfl, y1, by rw [← y2.length]; exact hz, hp _ _ z2 z1 _ .non⟩
      · exact hp.elim
    · exact hp.elim
  · exact hp.elim
theorem opm_extend : OpM K cl mExtend rExtend := by
  intro r st H W x xs v vs Q hs hx hxs hp
  unfold mExtend at hp
  split at hp
  · rename_i n y
    obtain ⟨a, rfl, g1⟩ := hx.ref_inv
    obtain ⟨w, rfl, q⟩ := rds1 hxs
    obtain ⟨b, rfl, g2⟩ := q.ref_inv
    split at hp
    · rename_i l l2 g g'
      split at hp
      · rename_i hz
        obtain ⟨ys, y1, y2⟩ := lst_at hs g g1
        obtain ⟨zs, w1, w2⟩ := lst_at hs g' g2
        obtain ⟨z1, z2⟩ := put_lst hs g g1 y1 (y2.append w2)
        exact ⟨a, b, ys, zs, rfl, rfl, y1, w1, by rw [← y2.length, ← w2.length]; exact hz, hp _ _ z2 z1 _ .non⟩
      · exact hp.elim
    · exact hp.elim
  · exact hp.elim
theorem opm_popAt : OpM K cl mPopAt rPopAt := by
  intro r st H W x xs v vs Q hs hx hxs hp
  unfold mPopAt at hp
  split at hp
  · rename_i n i
    obtain ⟨a, rfl, g1⟩ := hx.ref_inv
    obtain ⟨w, rfl, q⟩ := rds1 hxs
    rw [q.int_inv]
    split at hp
    · rename_i l g
      split at hp
      · rename_i hz
        split at hp
        · rename_i k ek
          split at hp
          · rename_i y ey
            obtain ⟨ys, y1, y2⟩ := lst_at hs g g1
            obtain ⟨u, q1, q2⟩ := y2.get ey
            obtain ⟨z1, z2⟩ := put_lst hs g g1 y1 (y2.eraseIdx k)
            exact ⟨a, ys, i, k, u, rfl, rfl, y1, hz.1, hz.2, by rw [← y2.length]; exact ek, q1, hp _ _ z2 z1 _ (q2.mono z2.mn)⟩
          · exact hp.elim
        · exact hp.elim
      · exact hp.elim
    · exact hp.elim
  · exact hp.elim
theorem firstAt_some {d : PyData} : ∀ {ds : List PyData} {j : Nat}, firstAt d ds = some j → ∃ z, ds[j]? = some z ∧ PyData.eqv z d = true ∧ ∀ (m : Nat) (z' : PyData), m < j → ds[m]? = some z' → PyData.eqv z' d = false
  | [], _, h => by simp [firstAt] at h
  | y :: ys, j, h => by
    simp only [firstAt] at h
    split at h
    · rename_i e
      cases h
      exact ⟨y, rfl, e, fun m _ hm => absurd hm (Nat.not_lt_zero _)⟩
    · rename_i e
      obtain ⟨i, e1, rfl⟩ := Option.map_eq_some_iff.mp h
      obtain ⟨z, q1, q2, q3⟩ := firstAt_some e1
      refine ⟨z, by simpa using q1, q2, fun m z' hm hz => ?_⟩
      cases m with
      | zero => simp at hz; subst hz; simpa using e
      | succ m => exact q3 m z' (by omega) (by simpa using hz)
theorem opm_index : OpM K cl mIndex (rIndexD K) := by
  intro r st H W x xs v vs Q hs hx hxs hp
  unfold mIndex at hp
  split at hp
  · rename_i n y
    obtain ⟨a, rfl, g1⟩ := hx.ref_inv
    obtain ⟨w, rfl, q⟩ := rds1 hxs
    split at hp
    · rename_i l g
      split at hp
      · rename_i d ds e1 e2
        split at hp
        · rename_i hc
          rw [Bool.and_eq_true] at hc
          split at hp
          · rename_i j ej
            obtain ⟨ys, y1, y2⟩ := lst_at hs g g1
            obtain ⟨z, q1, q2, q3⟩ := firstAt_some ej
            exact ⟨a, w, d, ds, j, z, rfl, rfl, .lst (.of y1) (dps_of (fun d q w g1 g2 => dp_of hs 11 d q w g1 g2) e2 y2), dp_of hs _ _ _ _ e1 q, hc.2, hc.1, q1, q2, q3, hp r H .refl hs _ .int⟩
          · exact hp.elim
        · exact hp.elim
      · exact hp.elim
    · exact hp.elim
  · exact hp.elim
end

theorem hu64 {A : Around} {k : Nat} (hr : Room k A) : A.units + 64 < cLine := by have := hr.un; omega
theorem hu65 {A : Around} {k : Nat} (hr : Room k A) : A.units + 65 < cLine := by have := hr.un; omega

/-! ### the law -/
/-- a def of the text as it stands behind the top -/
def DefAt (K : Frag) (mg : Str → Option Value) (x qual : Str) (st : Stmt) : Prop := ∃ fa fd, mg x = some (.ref fa) ∧ Fun K x qual st fa fd
theorem use_def {K : Frag} {h : Heap} {mg : Str → Option Value} {x qual : Str} {st : Stmt} {fa : Addr} {od an : Option Addr} {sl : Array (Option Value)} {oc kV dc pm cd ct : Value} {G : Prop} (X : K.In h) (N : h.Ns mainGlobals mg)
    (a : PySem.W.nsIn K mainGlobals x = some (some (.ref fa))) (l : K.lookup fa = some ⟨oc, od, .func (PySem.W.fnOf x qual (defArgs st) (defBody st) (defScope st) .none kV dc pm an cd ct), sl⟩) (c : PySem.W.codeIn K cd qual = true) (k : PySem.W.keepIn K (.ref fa) = true)
    (g : DefAt K mg x qual st → G) : G := g ⟨fa, _, PySem.W.mg_of X N a, fun_mk l c k⟩
theorem use_none {K : Frag} {h : Heap} {mg : Str → Option Value} {x : Str} {G : Prop} (X : K.In h) (N : h.Ns mainGlobals mg) (a : PySem.W.nsIn K mainGlobals x = some none) (g : mg x = none → G) : G := g (PySem.W.mg_none_of X N a)
theorem rds_ints {K : Frag} {H : Hp} {r : Rho} : ∀ ns : List Int, RDs K H r (ns.map D.int) (ns.map V.int)
  | [] => .nil
  | _ :: ns => .cons .int (rds_ints ns)
/-- the first state: the script alone -/
theorem rs_start {K : Frag} {cl : Clm} {H : Hp} {a : Addr} {ns : List Int} (hO : Only H) (hS : SqL K H a (ns.map V.int)) : RS K cl (fun n => if n = 0 then some a else none) [.frz (ns.map D.int)] H where
  dom := fun n b e => by
    by_cases q : n = 0
    · subst q; simp
    · simp [q] at e
  at_ := fun n o e => by
    have hn : n = 0 := by
      have := (List.getElem?_eq_some_iff.mp e).1
      simp at this; omega
    subst hn
    simp at e; subst e
    refine ⟨a, by simp, ns.map V.int, ?_, ?_⟩
    · rcases hS with (h | ⟨ob, h⟩) | h
      · rcases hO a with z | ⟨o, xs, z⟩ <;> rw [h] at z <;> cases z
      · exact .inl (.inr ⟨ob, fzH_of h⟩)
      · exact .inr h
    · exact rds_ints ns
  inj := fun m n b m0 n0 e1 e2 => by simp [m0] at e1
  fz := fun n o e => by
    have hn : n = 0 := by
      have := (List.getElem?_eq_some_iff.mp e).1
      simp at this; omega
    subst hn
    simp at e; subst e
    simp [isFrz]
  pos := by simp
/-- the whole law: its def is worth f, and f gives True for every script -/
theorem walk {l : PySem.W.OpenLaw} {q : Program} {loose : List Str} {XP : (Str → Option Value) → Heap → Prop} {YP : World → Heap → Prop} {d : DefRec} {K : Params → Frag} {k : Nat} {x : Str} {cl : World → Clm} {f : List D → S → Out D}
    (hn : l.most = some 63) (hdf : d.params.defaults = []) (hr : Room k callerA) (hY : ∀ (w : World) (h : Heap), YP w h → (K w.params).In h)
    (hf : ∀ ns : List Int, ns.length ≤ 63 → ∃ st', f [.ref 0] [.frz (ns.map D.int)] = .ok (.bl true) st')
    (F : ∀ (w : World) (mg : Str → Option Value) (fa : Addr) (h : Heap), (K w.params).In h → h.Ns mainGlobals mg → mg d.name = some (.ref fa) →
      ∃ fd : FuncData, (∀ (s : Shared) (u : Value), BindsTo s fd ⟨[u], []⟩ [(x, u)]) ∧ ∀ base : Heap, (K w.params).In base → base.Ns mainGlobals mg → FnOk l.prog w (K w.params) mg base (L2.CX l.prog w) k fa fd [x] (spD (K w.params) (cl w) 1 f)) :
    PySem.W.WalkO q loose XP YP l.row.toRowW d [] (fun f vs => PySem.call f vs) :=
  L2.walk_of (n := 63) (k := k) (x := x) (CX := fun w => L2.CX l.prog w) (sp := fun w => spD (K w.params) (cl w) 1 f) hn (by decide) hdf hr hY F
    (fun w H a ns hl hO hS => by
      obtain ⟨st', e⟩ := hf ns hl
      refine ⟨rfl, _, _, [.ref 0], rs_start hO hS, .cons (.ref (by simp)) .nil, ?_⟩
      rw [e]
      exact fun r' H' _ _ v q => q.bl_inv)
    fun w H s e s' z => by
      obtain ⟨_, _, _, _, _, _, _, _, _, _, _, _, z⟩ := z
      exact z
theorem law_fin {P : Program} {w : World} {K : Frag} {mg : Str → Option Value} {cl : Clm} {k : Nat} {x y qual : Str} {st : Stmt} {fa : Addr} {f : List D → S → Out D} (dl : DefAt K mg x qual st) (hmg : mg x = some (.ref fa))
    (hb : ∀ (kV doc pm : Value) (an : Option Addr) (cdv ct u : Value), bindArgs (PySem.W.fnOf x qual (defArgs st) (defBody st) (defScope st) .none kV doc pm an cdv ct) ⟨[u], []⟩ = pure [(y, u)])
    (h : ∀ (base : Heap) (fa : Addr) (fd : FuncData), Fun K x qual st fa fd → FnOk P w K mg base (L2.CX P w) k fa fd [y] (spD K cl 1 f)) :
    ∃ fd : FuncData, (∀ (s : Shared) (u : Value), BindsTo s fd ⟨[u], []⟩ [(y, u)]) ∧ ∀ base : Heap, K.In base → base.Ns mainGlobals mg → FnOk P w K mg base (L2.CX P w) k fa fd [y] (spD K cl 1 f) := by
  obtain ⟨fa', fd, e, F⟩ := dl
  rw [hmg] at e; cases e
  refine ⟨fd, fun s u => ?_, fun base _ _ => h base fa fd F⟩
  obtain ⟨_, _, kV, doc, pm, an, cdv, ct, _, rfl, _, _⟩ := F.ex
  exact .of_eq (hb kV doc pm an cdv ct u)
end Dn

/-! Dn, G: classes: making, fields, methods, properties; names of the module that hold data. -/
namespace Dn
open PySem PySem.Spec PyProof.Rows L2

/-! ### what the text's classes have -/
def FldAt (K : Frag) (cl : Clm) (c f : Str) : Prop := ∃ C, cl c = some C ∧ Cls K C ∧ NoAttr K C f
def MethAt (K : Frag) (cl : Clm) (c m qual : Str) (st : Stmt) : Prop := ∃ C g fd, cl c = some C ∧ Cls K C ∧ Meth K C m g ∧ Fun K m qual st g fd
def PropAt (K : Frag) (cl : Clm) (c m qual : Str) (st : Stmt) : Prop := ∃ C p g fd, cl c = some C ∧ Cls K C ∧ PropOf K C m p g ∧ Fun K m qual st g fd
def MkAt (K : Frag) (cl : Clm) (mg : Str → Option Value) (c qual : Str) (st : Stmt) : Prop := ∃ C g fd, cl c = some C ∧ mg c = some (.ref C) ∧ Mk K C g ∧ Fun K "__init__" qual st g fd
section
variable (P : Program) (w : World) (K : Frag) (mg : Str → Option Value) (base : Heap) (cl : Clm)
def MtD (c m : Str) (np k : Nat) (f : List D → S → Out D) : Prop :=
  ∃ C g fd ps, cl c = some C ∧ Cls K C ∧ Meth K C m g ∧ Binds K fd ps [] ∧ FnOk P w K mg base (L2.CX P w) k g fd ps (spD K cl np f)
def PrD (c m : Str) (k : Nat) (f : List D → S → Out D) : Prop :=
  ∃ C p g fd ps, cl c = some C ∧ Cls K C ∧ PropOf K C m p g ∧ Binds K fd ps [] ∧ FnOk P w K mg base (L2.CX P w) k g fd ps (spD K cl 1 f)
def MkD (c : Str) (np k : Nat) (f : List D → S → Out D) : Prop :=
  ∃ C g fd ps, cl c = some C ∧ mg c = some (.ref C) ∧ Mk K C g ∧ Binds K fd ps [] ∧ FnOk P w K mg base (L2.CX P w) k g fd ps (spD K cl np f)
end
theorem all_nil {α : Type} {P : α → Prop} : ∀ x ∈ ([] : List α), P x := fun _ h => nomatch h
theorem all_cons {α : Type} {P : α → Prop} {a : α} {l : List α} (h : P a) (t : ∀ x ∈ l, P x) : ∀ x ∈ a :: l, P x := fun x hx => by
  rcases List.mem_cons.mp hx with rfl | z
  · exact h
  · exact t x z
section
variable {P : Program} {w : World} {K : Frag} {mg : Str → Option Value} {base : Heap} {cl : Clm} {c m : Str} {np j k : Nat} {f : List D → S → Out D}
theorem MtD.mono (F : MtD P w K mg base cl c m np j f) (h : j ≤ k) : MtD P w K mg base cl c m np k f := let ⟨C, g, fd, ps, a, b, d, e, F⟩ := F; ⟨C, g, fd, ps, a, b, d, e, F.mono h⟩
theorem PrD.mono (F : PrD P w K mg base cl c m j f) (h : j ≤ k) : PrD P w K mg base cl c m k f := let ⟨C, p, g, fd, ps, a, b, d, e, F⟩ := F; ⟨C, p, g, fd, ps, a, b, d, e, F.mono h⟩
theorem MkD.mono (F : MkD P w K mg base cl c np j f) (h : j ≤ k) : MkD P w K mg base cl c np k f := let ⟨C, g, fd, ps, a, b, d, e, F⟩ := F; ⟨C, g, fd, ps, a, b, d, e, F.mono h⟩
end

/-! ### fields by name -/
def putD (f : Str) (v : D) : List (Str × D) → List (Str × D)
  | [] => [(f, v)]
  | (g, x) :: r => if g = f then (g, v) :: r else (g, x) :: putD f v r
section
variable {K : Frag} {H : Hp} {r : Rho}
theorem RF.nil_inv {vs : List (Str × V)} (h : RF K H r [] vs) : vs = [] := by cases h; rfl
theorem RF.put {f : Str} {d : D} {v : V} (q : RD K H r d v) : ∀ {fs : List (Str × D)} {vs : List (Str × V)}, RF K H r fs vs → RF K H r (putD f d fs) (putF f v vs)
  | [], _, .nil => .cons ⟨rfl, q⟩ .nil
  | (g, x) :: fs, (g', y) :: vs, .cons h t => by
    have e : g = g' := h.1
    subst e
    by_cases z : g = f
    · unfold putD putF
      rw [if_pos z, if_pos z]
      exact .cons ⟨rfl, q⟩ t
    · unfold putD putF
      rw [if_neg z, if_neg z]
      exact .cons h (RF.put q t)
theorem RF.length {fs : List (Str × D)} {vs : List (Str × V)} (h : RF K H r fs vs) : fs.length = vs.length := Paired.length h
theorem RF.look {f : Str} : ∀ {fs : List (Str × D)} {vs : List (Str × V)}, RF K H r fs vs → (fs.lookup f = none ∧ vs.lookup f = none) ∨ ∃ d v, fs.lookup f = some d ∧ vs.lookup f = some v ∧ RD K H r d v
  | [], _, .nil => .inl ⟨rfl, rfl⟩
  | (g, x) :: fs, (g', y) :: vs, .cons h t => by
    have e : g = g' := h.1
    subst e
    by_cases z : (f == g) = true
    · exact .inr ⟨x, y, by simp only [List.lookup, z], by simp only [List.lookup, z], h.2⟩
    · have z' : (f == g) = false := by simpa using z
      rcases RF.look (f := f) t with ⟨q1, q2⟩ | ⟨d, v, q1, q2, q3⟩
      · exact .inl ⟨by simp only [List.lookup, z']; exact q1, by simp only [List.lookup, z']; exact q2⟩
      · exact .inr ⟨d, v, by simp only [List.lookup, z']; exact q1, by simp only [List.lookup, z']; exact q2, q3⟩
theorem ins_at {cl : Clm} {st : S} {n : Nat} {a : Addr} {c : Str} {fs : List (Str × D)} (hs : RS K cl r st H) (g : st[n]? = some (.ins c fs)) (h : r n = some a) : ∃ C dx vs, cl c = some C ∧ H a = some (.ins C dx vs) ∧ RF K H r fs vs := by
  obtain ⟨b, e1, e2⟩ := hs.at_ n _ g
  rw [h] at e1; cases e1
  exact e2
end

/-! ### e.f -/
def dFld (cs : List Str) (f : Str) (m : EM) : EM := fun en st => (m en st).bind fun d st1 => match d with
  | .ref n => match st1[n]? with
    | some (.ins c fs) => if cs.contains c then match fs.lookup f with
        | some x => .ok x st1
        | none => .bad
      else .bad
    | _ => .bad
  | _ => .bad
theorem se_fld {X : Cx} {cl : Clm} {W : WX} {e : Expr} {f : Str} {pos : Pos} {cs : List Str} {m : EM} (he : SE X cl W e m) (hc : ∀ c ∈ cs, FldAt X.K cl c f) (hb : attributeBase e f X.env (eval e X.env) = eval e X.env := by rfl) :
    SE X cl W (.Attribute e f pos) (dFld cs f m) :=
  ⟨pe_of (pe_fld he.pe hb) fun s H Q ⟨r, en, st, he, hs, hp⟩ => ⟨r, en, st, he, hs, (Po.bind hp).mono fun r1 H1 d st1 x1 s1 h1 v q => by
    split at h1
    · rename_i n
      obtain ⟨a, rfl, g1⟩ := q.ref_inv
      split at h1
      · rename_i c fs g
        split at h1
        · rename_i hm
          obtain ⟨C, dx, vs, k1, k2, k3⟩ := ins_at s1 g g1
          obtain ⟨C', z1, z2, z3⟩ := hc c (List.contains_iff_mem.mp hm)
          rw [k1] at z1; cases z1
          split at h1
          · rename_i x ex
            rcases k3.look (f := f) with ⟨y1, _⟩ | ⟨d', v', y1, y2, y3⟩
            · rw [ex] at y1; cases y1
            · rw [ex] at y1; cases y1
              exact ⟨a, C, dx, vs, v', rfl, k2, z2, z3, y2, h1 r1 H1 .refl s1 v' y3⟩
          · exact h1.elim
        · exact h1.elim
      · exact h1.elim
    · exact h1.elim⟩⟩

/-! ### e.f = value -/
def sFldS (cs : List Str) (f : Str) (mo mv : EM) : SM := fun en st => (mv en st).bind fun d st1 => (mo en st1).bind fun o st2 => match o with
  | .ref n => match st2[n]? with
    | some (.ins c fs) => if cs.contains c && decide (fs.length < 1000) then .ok (.nx, en) (st2.set n (.ins c (putD f d fs))) else .bad
    | _ => .bad
  | _ => .bad
theorem put_ins {K : Frag} {cl : Clm} {r : Rho} {st : S} {H : Hp} {n : Nat} {a C dx : Addr} {c : Str} {fs fs' : List (Str × D)} {vs vs' : List (Str × V)} (hs : RS K cl r st H) (g : st[n]? = some (.ins c fs)) (h : r n = some a) (hc : cl c = some C)
    (e : H a = some (.ins C dx vs)) (q : RF K H r fs' vs') : RS K cl r (st.set n (.ins c fs')) (upd H a (.ins C dx vs')) ∧ Xt K r H r (upd H a (.ins C dx vs')) := by
  have mu : Mu (.ins C dx vs) := .inr (.inl ⟨_, _, _, rfl⟩)
  have mm : Mn K r H r (upd H a (.ins C dx vs')) := ⟨fun _ _ z => z, fun b ys z => sqt_upd (mu.nt e) (mu.nf e) z⟩
  exact write_at hs (hs.ne0 g rfl) h e mu rfl ⟨C, dx, vs', hc, upd_same, q.mono mm⟩
theorem ss_fld {X : Cx} {cl : Clm} {W : WX} {o value : Expr} {f : Str} {pos pos' : Pos} {cs : List Str} {mo mv : EM} (ho : SE X cl W o mo) (hv : SE X cl W value mv) (hc : ∀ c ∈ cs, FldAt X.K cl c f)
    (hs : swapsWith value (some (.Attribute o f pos')) pos.line X.env = pure false := by rfl) : SS X cl W (.Assign [.Attribute o f pos'] value pos) (sFldS cs f mo mv) :=
  ⟨ps_of (ps_fld ho.pe hv.pe hs) fun D s H ⟨r, en, st, he, hs, hp⟩ => ⟨r, en, st, he, hs, (Po.bind hp).mono fun r1 H1 d st1 x1 s1 h1 v q => ⟨r1, en, st1, he.mono x1.mn, s1, (Po.bind h1).mono fun r2 H2 o st2 x2 s2 h2 v2 q2 => by
    split at h2
    · rename_i n
      obtain ⟨a, rfl, g1⟩ := q2.ref_inv
      split at h2
      · rename_i c fs g
        split at h2
        · rename_i hm
          rw [Bool.and_eq_true] at hm
          obtain ⟨C, dx, vs, k1, k2, k3⟩ := ins_at s2 g g1
          obtain ⟨C', z1, z2, z3⟩ := hc c (List.contains_iff_mem.mp hm.1)
          rw [k1] at z1; cases z1
          obtain ⟨y1, y2⟩ := put_ins s2 g g1 k1 k2 (k3.put (f := f) (q.mono x2.mn))
          exact ⟨a, C, dx, vs, rfl, k2, z2, z3, by rw [← k3.length]; exact of_decide_eq_true hm.2, h2 _ _ y2 y1 s (he.mono ((x1.trans x2).trans y2).mn)⟩
        · exact h2.elim
      · exact h2.elim
    · exact h2.elim⟩⟩⟩

/-! ### o.m(..) -/
def dMet (tab : List (Str × (List D → S → Out D))) (m : Str) (np : Nat) (mo : EM) (ma : AM) : EM := fun en st => (mo en st).bind fun o st1 => match o with
  | .ref n => match st1[n]? with
    | some (.ins c fs) => match fs.lookup m, tab.lookup c with
      | none, some f => (ma en st1).bind fun ds st2 => if ds.length + 1 = np then atEn en (f (.ref n :: ds) st2) else .bad
      | _, _ => .bad
    | _ => .bad
  | _ => .bad
def tMtG (X : Cx) (W : WX) (k : Nat) (m : Str) (ta : TE) (t : TA) : TE := fun σ H Q => ta σ H fun x H1 => ∃ a C dx fs g fd ps sp, x = .ref a ∧ H1 a = some (.ins C dx fs) ∧ fs.lookup m = none ∧ Cls X.K C ∧ Meth X.K C m g ∧ Binds X.K fd ps [] ∧
  FnOk X.prog X.w X.K X.mg X.base (L2.CX X.prog X.w) k g fd ps sp ∧ t σ H1 fun vs H2 => sp (x :: vs) H2 Q (WE W σ)
theorem lookup_mem {α : Type} {c : Str} : ∀ {tab : List (Str × α)} {f : α}, tab.lookup c = some f → (c, f) ∈ tab
  | [], _, h => by cases h
  | (d, g) :: tab, f, h => by
    by_cases z : (c == d) = true
    · simp only [List.lookup, z] at h
      cases h
      rw [beq_iff_eq.mp z]
      exact List.mem_cons_self
    · have z' : (c == d) = false := by simpa using z
      simp only [List.lookup, z'] at h
      exact List.mem_cons_of_mem _ (lookup_mem h)
section
variable {X : Cx} {cl : Clm} {W : WX} {o e : Expr} {es : List Expr} {m : Str} {np k : Nat} {p pos apos : Pos} {mo : EM} {ma : AM} {tab : List (Str × (List D → S → Out D))} {pl : Sem Bool}
theorem tE_met {es : List Expr} (hT : ∀ q ∈ tab, MtD X.prog X.w X.K X.mg X.base cl q.1 m np k q.2) {s : L2.St} {H : Hp} {Q : VK} (h : tE X.K cl W (dMet tab m np mo ma) s H Q) : tMtG X W k m (tE X.K cl W mo) (tA X.K cl W ma) s H Q := by
  obtain ⟨r, en, st, he, hs, hp⟩ := h
  refine ⟨r, en, st, he, hs, (Po.bind hp).mono fun r1 H1 d st1 x1 s1 h1 v q => ?_⟩
  split at h1
  · rename_i n
    obtain ⟨a, rfl, g1⟩ := q.ref_inv
    split at h1
    · rename_i c fs g
      split at h1
      · rename_i f e1 e2
        obtain ⟨C, dx, vs, k1, k2, k3⟩ := ins_at s1 g g1
        obtain ⟨C', gg, fd, ps, z1, z2, z3, z4, z5⟩ := hT (c, f) (lookup_mem e2)
        rw [show cl (c, f).1 = some C from k1] at z1; cases z1
        have z6 : FnOk X.prog X.w X.K X.mg X.base (L2.CX X.prog X.w) k gg fd ps (spD X.K cl np f) := z5
        have hn : vs.lookup m = none := by
          rcases k3.look (f := m) with ⟨_, y⟩ | ⟨_, _, y, _, _⟩
          · exact y
          · rw [e1] at y; cases y
        refine ⟨a, C, dx, vs, gg, fd, ps, _, rfl, k2, hn, z2, z3, z4, z6, r1, en, st1, he.mono x1.mn, s1, (Po.bind h1).mono fun r2 H2 ds st2 x2 s2 h2 us q2 => ?_⟩
        split at h2
        · rename_i hl
          refine ⟨by rw [List.length_cons, ← q2.length]; exact hl, r2, st2, .ref n :: ds, s2, .cons (.ref (x2.ext _ _ g1)) q2, ?_⟩
          cases ef : f (.ref n :: ds) st2 with
          | ok d st' => rw [ef] at h2; exact h2
          | exc x en' st' => rw [ef] at h2; exact fun r' H' c d y z w => h2 r' H' s c d y z (he.mono ((x1.trans x2).trans y).mn) w
          | bad => rw [ef] at h2; exact h2
        · exact h2.elim
      · exact h1.elim
    · exact h1.elim
  · exact h1.elim
theorem se_met (ho : SE X cl W o mo) (hT : ∀ q ∈ tab, MtD X.prog X.w X.K X.mg X.base cl q.1 m np k q.2) (hr : Room k X.A) (tk : Takes X W) (ha : SA X cl W (e :: es) ma)
    (hst : starEach (e :: es) X.env = (false, eval e X.env) :: starEach es X.env := by rfl) (hpl : (backTo pos (starEach es X.env)).any (·.1) = false := by rfl)
    (ht : eval (.Call (.Attribute o m apos) (e :: es) [] pos) X.env = (do
      let ov ← eval o X.env
      standAt apos.atName
      let (f, first) ← holding [ov] (getMethod ov m pl)
      callWith pos f first (backTo pos (starEach (e :: es) X.env)) (backToKw pos (keywordEach [] X.env))) := by rfl) :
    SE X cl W (.Call (.Attribute o m apos) (e :: es) [] pos) (dMet tab m np mo ma) := by
  refine ⟨⟨fun pins s σ H Q I h => ?_⟩⟩
  refine PySem.W.methodCall_KW (pl := pl) (thn (ho.pe.run pins s σ H _ I (tE_met (es := []) hT h)) fun u s1 ⟨x, H1, I1, rx, a, C, dx, fs, g, fd, ps, sp, ex, ea, l, c, hm, hb, F, q⟩ => ?_) ht
  subst ex
  obtain rfl : u = Value.ref a := rx
  refine getmeth_ok I1 ea c hm l ?_
  refine PySem.W.callWith_K (first := [.ref a]) (h₀ := X.base) I.ok.mod.kin hm.kp (thn (ha.pa.run pos pins s1 σ H1 _ I1 q) fun us s2 ⟨vs, H2, I2, r, q2⟩ => ⟨I2.kIn, ?_⟩) hst hpl
  exact run_fnS (us := .ref a :: us) (vs := .ref a :: vs) (E := WE W) F hr hb (passAt tk σ) I2 (.cons rfl r) q2
theorem se_met0 (ho : SE X cl W o mo) (hT : ∀ q ∈ tab, MtD X.prog X.w X.K X.mg X.base cl q.1 m np k q.2) (hr : Room k X.A) (tk : Takes X W)
    (ht : eval (.Call (.Attribute o m apos) [] [] pos) X.env = (do
      let ov ← eval o X.env
      standAt apos.atName
      let (f, first) ← holding [ov] (getMethod ov m pl)
      callWith pos f first (backTo pos (starEach [] X.env)) (backToKw pos (keywordEach [] X.env))) := by rfl) :
    SE X cl W (.Call (.Attribute o m apos) [] [] pos) (dMet tab m np mo dNil) := by
  refine ⟨⟨fun pins s σ H Q I h => ?_⟩⟩
  refine PySem.W.methodCall_KW (pl := pl) (thn (ho.pe.run pins s σ H _ I (tE_met (es := []) hT h)) fun u s1 ⟨x, H1, I1, rx, a, C, dx, fs, g, fd, ps, sp, ex, ea, l, c, hm, hb, F, q⟩ => ?_) ht
  subst ex
  obtain rfl : u = Value.ref a := rx
  refine getmeth_ok I1 ea c hm l ?_
  obtain ⟨r, en, st, he, hs, hp⟩ := q
  exact PySem.W.callWith_K0 (first := [.ref a]) I1.kIn hm.kp (run_fnS (us := [.ref a]) (vs := [.ref a]) (E := WE W) F hr hb (passAt tk σ) I1 (.cons rfl .nil) (hp r H1 .refl hs [] .nil))
end

/-! ### e.f, a property -/
def dProp (tab : List (Str × (List D → S → Out D))) (mo : EM) : EM := fun en st => (mo en st).bind fun o st1 => match o with
  | .ref n => match st1[n]? with
    | some (.ins c _) => match tab.lookup c with
      | some f => match f [.ref n] st1 with
        | .ok d st2 => .ok d st2
        | _ => .bad
      | none => .bad
    | _ => .bad
  | _ => .bad
theorem se_prop {X : Cx} {cl : Clm} {W : WX} {e : Expr} {f : Str} {k : Nat} {pos : Pos} {mo : EM} {tab : List (Str × (List D → S → Out D))} (ho : SE X cl W e mo) (hT : ∀ q ∈ tab, PrD X.prog X.w X.K X.mg X.base cl q.1 f k q.2) (hr : Room (k + 1) X.A)
    (hab : attributeBase e f X.env (eval e X.env) = eval e X.env := by rfl) : SE X cl W (.Attribute e f pos) (dProp tab mo) := by
  refine ⟨⟨fun pins s σ H Q I h => ?_⟩⟩
  obtain ⟨r, en, st, he, hs, hp⟩ := h
  refine attr_of hab (thn (ho.pe.run pins s σ H (fun x H1 => ∃ a C dx fs p g fd ps sp, x = .ref a ∧ H1 a = some (.ins C dx fs) ∧ Cls X.K C ∧ PropOf X.K C f p g ∧ Binds X.K fd ps [] ∧ FnOk X.prog X.w X.K X.mg X.base (L2.CX X.prog X.w) k g fd ps sp ∧ sp [x] H1 Q fun _ _ _ => False) I ?_) ?_)
  · refine ⟨r, en, st, he, hs, (Po.bind hp).mono fun r1 H1 d st1 x1 s1 h1 v q => ?_⟩
    split at h1
    · rename_i n
      obtain ⟨a, rfl, g1⟩ := q.ref_inv
      split at h1
      · rename_i c fs g
        split at h1
        · rename_i ff e2
          obtain ⟨C, dx, vs, k1, k2, k3⟩ := ins_at s1 g g1
          obtain ⟨C', pp, gg, fd, ps, z1, z2, z3, z4, z5⟩ := hT (c, ff) (lookup_mem e2)
          rw [show cl (c, ff).1 = some C from k1] at z1; cases z1
          have z6 : FnOk X.prog X.w X.K X.mg X.base (L2.CX X.prog X.w) k gg fd ps (spD X.K cl 1 ff) := z5
          refine ⟨a, C, dx, vs, pp, gg, fd, ps, _, rfl, k2, z2, z3, z4, z6, rfl, r1, st1, [.ref n], s1, .cons (.ref g1) .nil, ?_⟩
          cases ef : ff [.ref n] st1 with
          | ok d st' => rw [show ff [.ref n] st1 = _ from ef] at h1; exact h1
          | exc x en' st' => rw [show ff [.ref n] st1 = _ from ef] at h1; exact h1.elim
          | bad => rw [show ff [.ref n] st1 = _ from ef] at h1; exact h1.elim
        · exact h1.elim
      · exact h1.elim
    · exact h1.elim
  · rintro u s1 ⟨x, H1, I1, rx, a, C, dx, fs, p, g, fd, ps, sp, ex, ea, c, hp', hb, F, q⟩
    subst ex
    obtain rfl : u = Value.ref a := rx
    exact getprop_ok (dvs := []) (ds := []) I1 ea c hp' F hr hb .nil (fun _ _ _ _ _ _ _ z => by
      obtain ⟨_, _, _, _, _, _, _, _, _, _, _, _, z⟩ := z
      exact z.elim) q

/-! ### C(..) -/
def dMake (c : Str) (np : Nat) (f : List D → S → Out D) (m : AM) : EM := fun en st => (m en st).bind fun ds st1 => if ds.length + 1 = np then atEn en ((f (.ref st1.length :: ds) (st1 ++ [.ins c []])).bind fun d st2 => match d with
    | .non => .ok (.ref st1.length) st2
    | _ => .bad) else .bad
section
variable {X : Cx} {cl : Clm} {W : WX} {e : Expr} {es : List Expr} {c : Str} {np k : Nat} {p pos : Pos} {ma : AM} {f : List D → S → Out D}
theorem run_makeS {C g : Addr} {fd : FuncData} {ps : List Str} {sp : Sp} {pins : List (Addr × Obj)} {σ : L2.St} {H : Hp} {s : Shared} {Q : VK} {us : List Value} {vs : List V} {E : L2.St → XK} {CX : CXT} (M : Mk X.K C g) (F : FnOk X.prog X.w X.K X.mg X.base CX k g fd ps sp) (hr : Room (k + 1) X.A) (hb : Binds X.K fd ps [])
    (hx : PassesAt CX X σ (E σ)) (I : Inv X pins σ H s) (r : Vals vs us)
    (h : ∀ x dx, H x = none → H dx = none → dx ≠ x → sp (.ref x :: vs) (upd (upd H dx (.own x)) x (.ins C dx [])) (fun v H2 => v = .non ∧ Q (.ref x) H2) (E σ)) :
    wpAny (model X.prog X.w) X.A (call (.ref C) us) (EP X pins σ Q) X.xe s := by
  have hq := h (s.heap.objs.size + 1) s.heap.objs.size (I.hok.fresh (Nat.le_succ _)) (I.hok.fresh (Nat.le_refl _)) (Nat.ne_of_lt (Nat.lt_succ_self _))
  have I2 := Inv.made (C := C) I
  have r2 : Vals (V.ref (s.heap.objs.size + 1) :: vs) (Value.ref (s.heap.objs.size + 1) :: us) := .cons rfl r
  have hl : (Value.ref (s.heap.objs.size + 1) :: us).length = ps.length := by
    have e := r2.length
    rw [F.len _ _ _ _ hq] at e
    exact e.symm
  have b := hb { s with heap := (s.heap.push PySem.W.emptyDict).push (PySem.W.instObj C s.heap.objs.size) } (Value.ref (s.heap.objs.size + 1) :: us) I2.kIn (by rw [List.append_nil]; exact hl)
  rw [List.append_nil] at b
  refine wpAny_call (make_map (f := g) I.kIn M.makes M.init (beq_iff_eq.mp M.fn) (codeAny_mono (F.run _ X.stack _ _ ⟨Value.ref (s.heap.objs.size + 1) :: us, []⟩ (Value.ref (s.heap.objs.size + 1) :: us) _ _ (E σ) (hr.make C us [])
    (I2.env0.make C us []) b r2 hq) fun r s' hq' => ?_))
  cases r with
  | error e => exact hx pins _ _ e s' I2 hq'
  | ok fl =>
    cases fl with
    | ret u =>
      obtain ⟨v, H', I3, rv, ev, q3⟩ := I2.after hq'
      subst ev
      exact ⟨rv, ⟨V.ref (s.heap.objs.size + 1), H', I3, rfl, q3⟩⟩
    | next => exact False.elim hq'
    | brk => exact False.elim hq'
    | cont => exact False.elim hq'
theorem make_rs {K : Frag} {r : Rho} {st : S} {H : Hp} {x dx C : Addr} (hs : RS K cl r st H) (hc : cl c = some C) (hx : H x = none) (hd : H dx = none) (ne : dx ≠ x) :
    RS K cl (nxt r st.length x) (st ++ [.ins c []]) (upd (upd H dx (.own x)) x (.ins C dx [])) ∧ Xt K r H (nxt r st.length x) (upd (upd H dx (.own x)) x (.ins C dx [])) := by
  have h1 : RS K cl r st (upd H dx (.own x)) := hs.fresh hd
  have hx1 : (upd H dx (.own x)) x = none := by rw [upd_ne (Ne.symm ne)]; exact hx
  obtain ⟨a, b⟩ := push_new (u := .ins C dx []) (o := .ins c []) h1 hx1 ⟨C, dx, [], hc, upd_same, .nil⟩ rfl
  exact ⟨a, (Xt.fresh hd).trans b⟩
theorem tE_make {K : Frag} {C : Addr} (hc : cl c = some C) {s : L2.St} {H : Hp} {Q : VK} (h : tE K cl W (dMake c np f ma) s H Q) : tA K cl W ma s H fun vs H1 => ∀ x dx, H1 x = none → H1 dx = none → dx ≠ x →
    spD K cl np f (.ref x :: vs) (upd (upd H1 dx (.own x)) x (.ins C dx [])) (fun v H2 => v = .non ∧ Q (.ref x) H2) (WE W s) := by
  obtain ⟨r, en, st, he, hs, hp⟩ := h
  refine ⟨r, en, st, he, hs, (Po.bind hp).mono fun r1 H1 ds st1 x1 s1 h1 vs q x dx hx hd ne => ?_⟩
  split at h1
  · rename_i hl
    obtain ⟨a, b⟩ := make_rs s1 hc hx hd ne
    refine ⟨by rw [List.length_cons, ← q.length]; exact hl, _, _, .ref st1.length :: ds, a, .cons (.ref nxt_self) (q.mono b.mn), ?_⟩
    cases e : f (.ref st1.length :: ds) (st1 ++ [.ins c []]) with
    | ok d st' =>
      rw [e] at h1
      intro r' H' y z v hv
      cases d with
      | non =>
        refine ⟨hv.non_inv, ?_⟩
        exact h1 r' H' (b.trans y) z _ (.ref (y.ext _ _ nxt_self))
      | _ => exact h1.elim
    | exc x en' st' => rw [e] at h1; exact fun r' H' c d y z w => h1 r' H' s c d (b.trans y) z (he.mono (x1.trans (b.trans y)).mn) w
    | bad => rw [e] at h1; exact h1
  · exact h1.elim
theorem se_make (M : MkD X.prog X.w X.K X.mg X.base cl c np k f) (hr : Room (k + 1) X.A) (tk : Takes X W) (hg : Gl X c) (ha : SA X cl W (e :: es) ma) (hdb : (c == ("__debug__" : Str)) = false := by decide)
    (he : starEach (e :: es) X.env = (false, eval e X.env) :: starEach es X.env := by rfl) (hpl : (backTo pos (starEach es X.env)).any (·.1) = false := by rfl) : SE X cl W (.Call (.Name c p) (e :: es) [] pos) (dMake c np f ma) := by
  obtain ⟨C, g, fd, ps, hcl, hm, M, hb, F⟩ := M
  refine ⟨⟨fun pins s σ H Q I h => ?_⟩⟩
  refine wpAny_Call_Name_kw (ld_glob I hg hm ?_ hdb)
  refine PySem.W.callWith_K (h₀ := X.base) I.ok.mod.kin M.kp (thn (ha.pa.run pos pins s σ H _ I (tE_make hcl h)) fun us s1 ⟨vs, H1, I1, r, q⟩ => ⟨I1.kIn, ?_⟩) he hpl
  exact run_makeS (E := WE W) M F hr hb (passAt tk σ) I1 r q
theorem se_make0 (M : MkD X.prog X.w X.K X.mg X.base cl c np k f) (hr : Room (k + 1) X.A) (tk : Takes X W) (hg : Gl X c) (hdb : (c == ("__debug__" : Str)) = false := by decide) : SE X cl W (.Call (.Name c p) [] [] pos) (dMake c np f dNil) := by
  obtain ⟨C, g, fd, ps, hcl, hm, M, hb, F⟩ := M
  refine ⟨⟨fun pins s σ H Q I h => ?_⟩⟩
  refine wpAny_Call_Name_kw (ld_glob I hg hm ?_ hdb)
  obtain ⟨r, en, st, he, hs, hp⟩ := tE_make hcl h
  exact PySem.W.callWith_K0 I.kIn M.kp (run_makeS (us := []) (E := WE W) M F hr hb (passAt tk σ) I .nil (hp r H .refl hs [] .nil))
end

/-! ### a method of the text is worth its body -/
section
variable {P : Program} {w : World} {K : Frag} {mg : Str → Option Value} {base : Heap} {cl : Clm} {c m qual : Str} {st : Stmt} {N ps : List Str} {k np n : Nat} {body : SM}
abbrev BodyOk (P : Program) (w : World) (K : Frag) (mg : Str → Option Value) (base : Heap) (cl : Clm) (qual : Str) (st : Stmt) (N : List Str) (k : Nat) (fa : Addr) (body : SM) : Prop :=
  ∀ (cdv : Value) (A : Around) (outer : List Env) (s : Shared) (H : Hp) (E : XK), Room k (A.deeper (envOfC qual (defScope st) s.heap.objs.size fa cdv)) →
      Takes (cxOf (L2.CX P w) P w K mg base N qual (defScope st) fa cdv A outer s H E) (fun c d _ H => E c d H) → SL (cxOf (L2.CX P w) P w K mg base N qual (defScope st) fa cdv A outer s H E) cl (fun c d _ H => E c d H) (defBody st) body
theorem mtD_of (M : MethAt K cl c m qual st) (sc : FnScope N ps (defScope st)) (h1 : ps.length = np) (h2 : N.length = n)
    (hb : ∀ (kV doc pm : Value) (an : Option Addr) (cdv ct : Value) (us : List Value), us.length = ps.length → bindArgs (PySem.W.fnOf m qual (defArgs st) (defBody st) (defScope st) .none kV doc pm an cdv ct) ⟨us, []⟩ = pure (ps.zip us))
    (h : ∀ fa, BodyOk P w K mg base cl qual st N k fa body) : MtD P w K mg base cl c m np (k + 1) (defD np n body) := by
  obtain ⟨C, g, fd, a, b, d, F⟩ := M
  exact ⟨C, g, fd, ps, a, b, d, F.binds hb, fnOk_of F sc h1 h2 (h g)⟩
theorem prD_of (M : PropAt K cl c m qual st) (sc : FnScope N ps (defScope st)) (h1 : ps.length = 1) (h2 : N.length = n)
    (hb : ∀ (kV doc pm : Value) (an : Option Addr) (cdv ct : Value) (us : List Value), us.length = ps.length → bindArgs (PySem.W.fnOf m qual (defArgs st) (defBody st) (defScope st) .none kV doc pm an cdv ct) ⟨us, []⟩ = pure (ps.zip us))
    (h : ∀ fa, BodyOk P w K mg base cl qual st N k fa body) : PrD P w K mg base cl c m (k + 1) (defD 1 n body) := by
  obtain ⟨C, p, g, fd, a, b, d, F⟩ := M
  exact ⟨C, p, g, fd, ps, a, b, d, F.binds hb, fnOk_of F sc h1 h2 (h g)⟩
theorem mkD_of (M : MkAt K cl mg c qual st) (sc : FnScope N ps (defScope st)) (h1 : ps.length = np) (h2 : N.length = n)
    (hb : ∀ (kV doc pm : Value) (an : Option Addr) (cdv ct : Value) (us : List Value), us.length = ps.length → bindArgs (PySem.W.fnOf "__init__" qual (defArgs st) (defBody st) (defScope st) .none kV doc pm an cdv ct) ⟨us, []⟩ = pure (ps.zip us))
    (h : ∀ fa, BodyOk P w K mg base cl qual st N k fa body) : MkD P w K mg base cl c np (k + 1) (defD np n body) := by
  obtain ⟨C, g, fd, a, b, d, F⟩ := M
  exact ⟨C, g, fd, ps, a, b, d, F.binds hb, fnOk_of F sc h1 h2 (h g)⟩
end

/-! ### names of the module that hold data -/
def CstAt (K : Frag) (mg : Str → Option Value) (x : Str) (d : D) : Prop := ∃ u v, mg x = some u ∧ RelV v u ∧ ∀ H r, RD K H r d v
theorem se_cst {X : Cx} {cl : Clm} {W : WX} {x : Str} {d : D} {pos : Pos} (hc : CstAt X.K X.mg x d) (hg : Gl X x) (hd : (x == ("__debug__" : Str)) = false := by decide) : SE X cl W (.Name x pos) (dC d) := by
  obtain ⟨u, v, hm, r, q⟩ := hc
  exact se_c (pe_glob hg hm r hd) q
/-- a value the top has made -/
def KD (K : Frag) (d : D) (u : Value) : Prop := ∃ v, RelV v u ∧ ∀ H r, RD K H r d v
def KDs (K : Frag) (ds : List D) (us : List Value) : Prop := ∃ vs, Vals vs us ∧ ∀ H r, RDs K H r ds vs
section
variable {K : Frag}
theorem kd_int {i : Int} {z} : KD K (.int i) (.int i z) := ⟨.int i, ⟨z, rfl⟩, fun _ _ => .int⟩
theorem kd_bl {b : Bool} : KD K (.bl b) (.bool b) := ⟨.bl b, rfl, fun _ _ => .bl⟩
theorem kd_non : KD K .non .none := ⟨.non, rfl, fun _ _ => .non⟩
theorem kd_str {x : Str} {z} : KD K (.str x) (.str x z) := ⟨.str x, ⟨z, rfl⟩, fun _ _ => .str⟩
theorem kds_nil : KDs K [] [] := ⟨[], .nil, fun _ _ => .nil⟩
theorem kds_cons {d : D} {u : Value} {ds : List D} {us : List Value} (h : KD K d u) (t : KDs K ds us) : KDs K (d :: ds) (u :: us) := by
  obtain ⟨v, a, b⟩ := h
  obtain ⟨vs, c, e⟩ := t
  exact ⟨v :: vs, .cons a c, fun H r => .cons (b H r) (e H r)⟩
theorem kd_tup {a : Addr} {o : Obj} {its : Array Value} {n : Nat} {ds : List D} (l : K.lookup a = some o) (hc : o.cls = .type "tuple") (hd : o.data = .seq its n) (hz : its.size ≤ sizeLine) (h : KDs K ds its.toList) : KD K (.tup ds) (.ref a) := by
  obtain ⟨vs, c, e⟩ := h
  exact ⟨.ref a, rfl, fun H r => .tup (.inr ⟨o, its, n, l, hc, hd, hz, c⟩) (e H r)⟩
theorem use_cst {h : Heap} {mg : Str → Option Value} {x : Str} {u : Value} {d : D} {G : Prop} (X : K.In h) (N : h.Ns mainGlobals mg) (a : PySem.W.nsIn K mainGlobals x = some (some u)) (k : KD K d u) (g : CstAt K mg x d → G) : G := by
  obtain ⟨v, r, q⟩ := k
  exact g ⟨u, v, PySem.W.mg_of X N a, r, q⟩
end

/-! ### the law, for classes at addresses that the top tells -/
def spAny (P : Program) (w : World) (K : Frag) (f : List D → S → Out D) : Sp := fun vs H Q E => ∀ cl : Clm, cl.P = P → cl.w = w → spD K cl 1 f vs H Q E
theorem walkC {l : PySem.W.OpenLaw} {q : Program} {loose : List Str} {XP : (Str → Option Value) → Heap → Prop} {YP : World → Heap → Prop} {d : DefRec} {K : Params → Frag} {k : Nat} {x : Str} {f : List D → S → Out D}
    (hn : l.most = some 63) (hdf : d.params.defaults = []) (hr : Room k callerA) (hY : ∀ (w : World) (h : Heap), YP w h → (K w.params).In h)
    (hf : ∀ ns : List Int, ns.length ≤ 63 → ∃ st', f [.ref 0] [.frz (ns.map D.int)] = .ok (.bl true) st')
    (F : ∀ (w : World) (mg : Str → Option Value) (fa : Addr) (h : Heap), (K w.params).In h → h.Ns mainGlobals mg → mg d.name = some (.ref fa) →
      ∃ fd : FuncData, (∀ (s : Shared) (u : Value), BindsTo s fd ⟨[u], []⟩ [(x, u)]) ∧ ∀ base : Heap, (K w.params).In base → base.Ns mainGlobals mg → FnOk l.prog w (K w.params) mg base (L2.CX l.prog w) k fa fd [x] (spAny l.prog w (K w.params) f)) :
    PySem.W.WalkO q loose XP YP l.row.toRowW d [] (fun f vs => PySem.call f vs) :=
  L2.walk_of (n := 63) (k := k) (x := x) (CX := fun w => L2.CX l.prog w) (sp := fun w => spAny l.prog w (K w.params) f) hn (by decide) hdf hr hY F
    (fun w H a ns hl hO hS cl _ _ => by
      obtain ⟨st', e⟩ := hf ns hl
      refine ⟨rfl, _, _, [.ref 0], rs_start hO hS, .cons (.ref (by simp)) .nil, ?_⟩
      rw [e]
      exact fun r' H' _ _ v q => q.bl_inv)
    fun w H s e s' z => by
      obtain ⟨_, _, _, _, _, _, _, _, _, _, _, _, z⟩ := z
      exact z
theorem law_finC {P : Program} {w : World} {K : Frag} {mg : Str → Option Value} (cl : Clm) (hP : cl.P = P) (hw : cl.w = w) {k : Nat} {x y qual : Str} {st : Stmt} {fa : Addr} {f : List D → S → Out D} (dl : DefAt K mg x qual st) (hmg : mg x = some (.ref fa))
    (hb : ∀ (kV doc pm : Value) (an : Option Addr) (cdv ct u : Value), bindArgs (PySem.W.fnOf x qual (defArgs st) (defBody st) (defScope st) .none kV doc pm an cdv ct) ⟨[u], []⟩ = pure [(y, u)])
    (h : ∀ (base : Heap) (fa : Addr) (fd : FuncData), Fun K x qual st fa fd → FnOk P w K mg base (L2.CX P w) k fa fd [y] (spD K cl 1 f)) :
    ∃ fd : FuncData, (∀ (s : Shared) (u : Value), BindsTo s fd ⟨[u], []⟩ [(y, u)]) ∧ ∀ base : Heap, K.In base → base.Ns mainGlobals mg → FnOk P w K mg base (L2.CX P w) k fa fd [y] (spAny P w K f) := by
  obtain ⟨fd, a, b⟩ := law_fin (P := P) (w := w) (cl := cl) (f := f) dl hmg hb h
  exact ⟨fd, a, fun base x y => (b base x y).imp fun _ _ _ _ z => z cl hP hw⟩
def clm (P : Program) (w : World) (l : List (Str × Addr)) : Clm := ⟨fun c => l.lookup c, P, w⟩
end Dn

/-! Dn, H: extend by a tuple, join, stars in displays, the place of a text in a constant of the module. -/
namespace Dn
open PySem PySem.Spec PyProof.Rows L2
section
open PyProof AutoSeq1
theorem ext_tup (l : Addr) (items : Array Value) (n : Nat) (b : Addr) (items2 : Array Value) (n2 : Nat) (dd : Option Addr) (sl : Array (Option Value)) (hs0 : ¬(!items.isEmpty && Builtin.List.listTooLong (items.size + items2.size)) = true) (hs1 : items.size ≤ sizeLine) (hs2 : items.size + items2.size ≤ sizeLine + 1) :
    Meets (Builtin.«list.extend» ⟨[.ref l, .ref b], []⟩) (fun _ R s => s.heap.get? l = some { cls := .type "list", dict := none, data := .seq items n, slots := #[] } ∧ s.heap.get? b = some { cls := .type "tuple", dict := dd, data := .seq items2 n2, slots := sl } ∧ R (.ok (.ret Value.none)) { s with heap := s.heap.update l (Obj.mapSeq fun x => x ++ items2), toks := s.toks }) :=
  .of_wp fun prog w A R s h => by
    obtain ⟨hp, g, d, tk, os⟩ := s; obtain ⟨hl, hb, h⟩ := h; have f1 := PySem.AutoSeq1.idx_int; have f2 := PySem.AutoSeq1.sub_tuple_tuple; have f3 := PySem.AutoSeq1.sub_list_list; have f4 := PySem.AutoSeq1.sub_tuple_list; have f5 := PySem.AutoSeq1.sub_list_tuple;
    have hz' : (items ++ items2).size ≤ sizeLine + 1 := by rw [Array.size_append]; exact hs2
    wp_walk using (wpAny_updateSeq hl rfl (hz := hs1) (_hz' := hz')), wpAny_loadPart' hl, wpAny_loadPart' hb; exact ⟨_, rfl, h⟩
end
section
variable {X : Cx}
def rExtT (K : Frag) : V → List V → Hp → VK → Prop := fun x vs H Q => ∃ l b xs zs, x = .ref l ∧ vs = [.ref b] ∧ H l = some (.lst xs) ∧ SqT K H b zs ∧ xs.length + zs.length ≤ sizeLine ∧ Q .non (upd H l (.lst (xs ++ zs)))
theorem mt_extendT : MtM X "list.extend" (rExtT X.K) := by
  intro pins s σ H x vs v us Q I rx rv h
  obtain ⟨l, b, xs, zs, rfl, rfl, hH, hB, hz, q⟩ := h
  cases rx
  obtain ⟨u, rfl, ru⟩ := rv.one
  cases ru
  obtain ⟨z, its, n, r, hl, e⟩ := I.lstM hH
  obtain ⟨its2, r2, ⟨o2, e2, c2, n2, d2⟩, hl2⟩ := I.tuple hB
  obtain ⟨oc, od, data, sl⟩ := o2
  have c2 : oc = .type "tuple" := c2
  have d2 : data = .seq its2.toArray n2 := d2
  subst c2 d2
  have hl2 := r2.length
  have hsz : its.toArray.size + its2.toArray.size ≤ sizeLine := by rw [List.size_toArray, List.size_toArray]; omega
  have hlong : ¬ (!its.toArray.isEmpty && Builtin.List.listTooLong (its.toArray.size + its2.toArray.size)) = true := by
    rw [notLongL hsz, Bool.and_false]
    exact Bool.false_ne_true
  refine call_meets F.slot_list_extend ⟨_, e, rfl⟩ F.entry_list_extend (F.args_list_extend_2 _ _)
    (ext_tup l its.toArray n b its2.toArray n2 od sl hlong (by rw [List.size_toArray]; omega) (by omega)) ⟨e, e2, ?_⟩
  refine ⟨.non, _, I.lset (its' := its ++ its2) hH e (by simp) (r.append r2) ?_, rfl, q⟩
  rw [List.length_append]
  omega
theorem mt_extendA : MtR X "list.extend" (fun x vs H Q => rExtend x vs H Q ∨ rExtT X.K x vs H Q) := by
  intro pins s σ H x vs v us Q I rx rv h
  rcases h with h | h
  · exact mt_extend pins s σ H x vs v us Q I rx rv h
  · exact mt_extendT pins s σ H x vs v us Q I rx rv h
end
/-- xs.extend(a list or a tuple) -/
def mExtendA : D → List D → S → Out D
  | .ref n, [.tup l2], st => match st[n]? with
    | some (.lst l) => if l.length + l2.length ≤ sizeLine then .ok .non (st.set n (.lst (l ++ l2))) else .bad
    | _ => .bad
  | x, y, st => mExtend x y st
/-- sep.join(a list or a tuple of texts) -/
def strOf : D → Option Str
  | .str x => some x
  | _ => none
def mJoin : D → List D → S → Out D
  | .str a, [x], st => match seqD st x with
    | some l => match mapO strOf l with
      | some ys => if (ys.map (·.length)).sum + ys.length * a.length ≤ 16777216 then .ok (.str (Txt.join a ys)) st else .bad
      | none => .bad
    | none => .bad
  | _, _, _ => .bad
theorem strs_of {K : Frag} {H : Hp} {r : Rho} : ∀ {l : List D} {ys : List Str} {vs : List V}, mapO strOf l = some ys → RDs K H r l vs → vs = ys.map V.str
  | [], ys, vs, e, h => by
    have := h.nil_inv; subst this
    simp only [mapO, Option.some.injEq] at e; subst e
    rfl
  | d :: ds, ys, vs, e, h => by
    obtain ⟨v, w, rfl, h1, h2⟩ := h.cons_inv
    simp only [mapO] at e
    split at e
    · rename_i a as e1 e2
      cases e
      rw [strs_of e2 h2]
      cases d with
      | str x =>
        simp only [strOf, Option.some.injEq] at e1; subst e1
        rw [h1.str_inv]; rfl
      | _ => simp [strOf] at e1
    · cases e
section
variable {K : Frag} {cl : Clm}
theorem opm_extendA : OpM K cl mExtendA (fun x vs H Q => rExtend x vs H Q ∨ rExtT K x vs H Q) := by
  intro r st H W x xs v vs Q hs hx hxs hp
  unfold mExtendA at hp
  split at hp
  · rename_i n l2
    obtain ⟨a, rfl, g1⟩ := hx.ref_inv
    obtain ⟨w, rfl, q⟩ := rds1 hxs
    obtain ⟨b, zs, rfl, w1, w2⟩ := q.tup_inv
    split at hp
    · rename_i l g
      split at hp
      · rename_i hz
        obtain ⟨ys, y1, y2⟩ := lst_at hs g g1
        obtain ⟨z1, z2⟩ := put_lst hs g g1 y1 (y2.append w2)
        exact .inr ⟨a, b, ys, zs, rfl, rfl, y1, w1, by rw [← y2.length, ← w2.length]; exact hz, hp _ _ z2 z1 _ .non⟩
      · exact hp.elim
    · exact hp.elim
  · exact .inl (opm_extend r st H W x xs v vs Q hs hx hxs hp)
theorem opm_join : OpM K cl mJoin (fun x xs H Q => ∃ a p, ∃ ys : List Str, x = .str a ∧ xs = [.ref p] ∧ (SqL K H p (ys.map V.str) ∨ SqT K H p (ys.map V.str)) ∧ (ys.map (·.length)).sum + ys.length * a.length ≤ 16777216 ∧ Q (.str (Txt.join a ys)) H) := by
  intro r st H W x xs v vs Q hs hx hxs hp
  unfold mJoin at hp
  split at hp
  · rename_i a y
    rw [hx.str_inv]
    obtain ⟨w, rfl, q⟩ := rds1 hxs
    split at hp
    · rename_i l e
      split at hp
      · rename_i ys e2
        split at hp
        · rename_i hz
          obtain ⟨p, zs, rfl, q1, q2⟩ := seqD_of hs q e
          have := strs_of e2 q1
          subst this
          refine ⟨a, p, ys, rfl, rfl, ?_, hz, hp r H .refl hs _ .str⟩
          rcases q2 with ⟨_, _, q2⟩ | ⟨_, _, q2⟩
          · exact .inl q2
          · exact .inr q2
        · exact hp.elim
      · exact hp.elim
    · exact hp.elim
  · exact hp.elim
end

/-! ### stars in displays -/
def dStar (ma : EM) (mr : AM) : AM := fun en st => (ma en st).bind fun x st1 => match seqD st1 x with
  | some l => (mr en st1).bind fun ys st2 => .ok (l ++ ys) st2
  | none => .bad
theorem sa_star {X : Cx} {cl : Clm} {W : WX} {e : Expr} {es : List Expr} {p : Pos} {ma : EM} {mr : AM} (he : SE X cl W e ma) (hr : SA X cl W es mr) (hs : starEach (.Starred e p :: es) X.env = (true, eval e X.env) :: starEach es X.env := by rfl) :
    SA X cl W (.Starred e p :: es) (dStar ma mr) :=
  ⟨pa_of (StX.pa_star he.pe hr.pa hs) fun s H Q ⟨r, en, st, he, hs, hp⟩ => ⟨r, en, st, he, hs, (Po.bind hp).mono fun r1 H1 x st1 x1 s1 h1 v q => by
    cases e : seqD st1 x with
    | none => rw [e] at h1; exact h1.elim
    | some l =>
      rw [e] at h1
      obtain ⟨p, zs, rfl, q1, q2⟩ := seqD_of s1 q e
      refine ⟨p, zs, rfl, ?_, r1, en, st1, he.mono x1.mn, s1, (Po.bind h1).mono fun r2 H2 ys st2 x2 s2 h2 vs q3 => h2 r2 H2 .refl s2 _ ((q1.mono x2.mn).append q3)⟩
      rcases q2 with ⟨_, _, q2⟩ | ⟨_, _, q2⟩
      · exact .inr q2
      · exact .inl q2⟩⟩

/-! ### the place of a text in a tuple of texts that the module holds -/
def idxS (z : Str) : List Str → Option Nat
  | [] => none
  | y :: ys => if y = z then some 0 else (idxS z ys).map (· + 1)
theorem idxS_some {z : Str} : ∀ {ys : List Str} {j : Nat}, idxS z ys = some j → ys[j]? = some z ∧ ∀ m, m < j → ys[m]? ≠ some z
  | [], _, h => by cases h
  | y :: ys, j, h => by
    unfold idxS at h
    split at h
    · rename_i e
      cases h
      exact ⟨by rw [e]; rfl, fun m hm => absurd hm (Nat.not_lt_zero _)⟩
    · rename_i e
      obtain ⟨i, e1, rfl⟩ := Option.map_eq_some_iff.mp h
      obtain ⟨q1, q2⟩ := idxS_some e1
      refine ⟨q1, fun m hm => ?_⟩
      cases m with
      | zero => simpa using e
      | succ m => exact q2 m (by omega)
def dCIx (ys : List Str) (ma : AM) : EM := fun en st => (ma en st).bind fun xs st1 => match xs with
  | [.str z] => match idxS z ys with
    | some j => .ok (.int (j : Nat)) st1
    | none => .bad
  | _ => .bad
def CstX (K : Frag) (mg : Str → Option Value) (x : Str) (ys : List Str) : Prop := ∃ a o, mg x = some (.ref a) ∧ K.lookup a = some o ∧ o.cls = .type "tuple" ∧ o.dict = none ∧ ∀ H, SqT K H a (ys.map V.str)
theorem se_cix {X : Cx} {cl : Clm} {W : WX} {x : Str} {ys : List Str} {e : Expr} {px p pos : Pos} {ma : AM} (hc : CstX X.K X.mg x ys) (hg : Gl X x) (ha : SA X cl W [e] ma) (hd : (x == ("__debug__" : Str)) = false := by decide)
    (h1 : attributeBase (.Name x px) "index" X.env (eval (.Name x px) X.env) = eval (.Name x px) X.env := by rfl)
    (h2 : ((backTo pos (starEach [e] X.env)).all (fun x => !x.1) && (backToKw pos (keywordEach [] X.env)).all (fun x => x.1.isSome) && decide ([e].length + ([] : List Keyword).length + (if ([] : List Keyword).isEmpty then 0 else 1) < 30)) = true := by rfl)
    (h3 : (p.endLine == pos.line) = true := by rfl) (h4 : starEach [e] X.env = (false, eval e X.env) :: starEach [] X.env := by rfl) (h5 : (backTo pos (starEach [] X.env)).any (·.1) = false := by rfl) :
    SE X cl W (.Call (.Attribute (.Name x px) "index" p) [e] [] pos) (dCIx ys ma) := by
  obtain ⟨a, o, hm, k1, k2, k3, hq⟩ := hc
  refine ⟨pe_of (pe_bm PySem.F.plainAttrs_tuple PySem.F.slot_tuple_index PySem.F.type_tuple_index mt_tup_index (pe_glob hg hm (v := .ref a) rfl hd) ha.pa h1 h2 h3 h4 h5) fun s H Q ⟨r, en, st, he, hs, hp⟩ => ?_⟩
  refine ⟨.inr (.inl ⟨rfl, o, k1, k2, k3⟩), r, en, st, he, hs, (Po.bind hp).mono fun r1 H1 xs st1 x1 s1 h1 vs q => ?_⟩
  split at h1
  · rename_i z
    obtain ⟨v, rfl, q1⟩ := rds1 q
    split at h1
    · rename_i j ej
      rw [q1.str_inv]
      obtain ⟨y1, y2⟩ := idxS_some ej
      exact ⟨a, ys, z, j, rfl, rfl, hq H1, y1, y2, h1 r1 H1 .refl s1 _ .int⟩
    · exact h1.elim
  · exact h1.elim
theorem use_cstx {K : Frag} {h : Heap} {mg : Str → Option Value} {x : Str} {a : Addr} {o : Obj} {its : Array Value} {n : Nat} {ys : List Str} {G : Prop} (X : K.In h) (N : h.Ns mainGlobals mg) (e : PySem.W.nsIn K mainGlobals x = some (some (.ref a)))
    (l : K.lookup a = some o) (hc : o.cls = .type "tuple") (ho : o.dict = none) (hd : o.data = .seq its n) (hz : its.size ≤ sizeLine) (hv : KDs K (ys.map D.str) its.toList) (g : CstX K mg x ys → G) : G := by
  refine g ⟨a, o, PySem.W.mg_of X N e, l, hc, ho, fun H => ?_⟩
  obtain ⟨vs, c, q⟩ := hv
  have := strs_of (ys := ys) (by
    have h1 : ∀ l : List Str, mapO strOf (l.map D.str) = some l := fun l => by
      induction l with
      | nil => rfl
      | cons y l ih => simp only [List.map_cons, mapO, strOf, ih]
    exact h1 ys) (q H fun _ => none)
  subst this
  exact .inr ⟨o, its, n, l, hc, hd, hz, c⟩

/-! ### a def that calls itself: by how deep it may go -/
theorem fnD_bad {P : Program} {w : World} {K : Frag} {mg : Str → Option Value} {base : Heap} {cl : Clm} {x qual : Str} {st : Stmt} {fa : Addr} {fd : FuncData} {N ps : List Str} {k np : Nat} (F : Fun K x qual st fa fd) (sc : FnScope N ps (defScope st)) (h1 : ps.length = np) (hm : mg x = some (.ref fa)) (hb : Binds K fd ps []) :
    FnD P w K mg base cl x np (k + 1) (fun _ _ => .bad) :=
  ⟨fa, fd, ps, hm, F.kp, hb, F.okX sc (fun vs H Q E h => by subst h1; exact h.1) fun cdv A outer s H vs Q E hr h => by obtain ⟨_, r, st, ds, _, _, hp⟩ := h; exact hp.elim⟩

/-! ### insert; texts: split, partition, startswith -/
def mInsert : D → List D → S → Out D
  | .ref n, [.int i, y], st => match st[n]? with
    | some (.lst l) => if l.length < sizeLine ∧ 0 ≤ i ∧ i < 2 ^ 63 then .ok .non (st.set n (.lst (l.take i.toNat ++ [y] ++ l.drop i.toNat))) else .bad
    | _ => .bad
  | _, _, _ => .bad
theorem opm_insert {K : Frag} {cl : Clm} : OpM K cl mInsert (fun x vs H Q => ∃ (l : Addr) (xs : List V) (i : Int) (y : V), x = .ref l ∧ vs = [.int i, y] ∧ H l = some (.lst xs) ∧ xs.length < sizeLine ∧ 0 ≤ i ∧ i < 2 ^ 63 ∧
    Q .non (upd H l (.lst (xs.take i.toNat ++ [y] ++ xs.drop i.toNat)))) := by
  intro r st H W x xs v vs Q hs hx hxs hp
  unfold mInsert at hp
  split at hp
  · rename_i n i y
    obtain ⟨a, rfl, g1⟩ := hx.ref_inv
    obtain ⟨w1, w2, rfl, q1, q2⟩ := rds2 hxs
    rw [q1.int_inv]
    split at hp
    · rename_i l g
      split at hp
      · rename_i hz
        obtain ⟨ys, y1, y2⟩ := lst_at hs g g1
        obtain ⟨z1, z2⟩ := put_lst hs g g1 y1 (((y2.take i.toNat).append (.cons q2 .nil)).append (y2.drop i.toNat))
        exact ⟨a, ys, i, w2, rfl, rfl, y1, by rw [← y2.length]; exact hz.1, hz.2.1, hz.2.2, hp _ _ z2 z1 _ .non⟩
      · exact hp.elim
    · exact hp.elim
  · exact hp.elim
end Dn

/-! Dn, S: min, max, sum of a list of ints; isinstance with a class of the text. -/
namespace Dn
open PySem PySem.Spec PyProof.Rows L2
def intOf : D → Option Int
  | .int i => some i
  | _ => none
def leastI (m : Int) (l : List Int) : Int := l.foldl (fun a b => if b < a then b else a) m
def mostI (m : Int) (l : List Int) : Int := l.foldl (fun a b => if a < b then b else a) m
theorem leastI_spec : ∀ (l : List Int) (m : Int), leastI m l ∈ m :: l ∧ ∀ y ∈ m :: l, leastI m l ≤ y
  | [], m => ⟨List.mem_cons_self, fun y hy => by rw [List.mem_singleton.mp hy]; exact Int.le_refl _⟩
  | b :: l, m => by
    obtain ⟨h1, h2⟩ := leastI_spec l (if b < m then b else m)
    have e : leastI m (b :: l) = leastI (if b < m then b else m) l := rfl
    rw [e]
    refine ⟨?_, fun y hy => ?_⟩
    · rcases List.mem_cons.mp h1 with z | z
      · rw [z]; split <;> simp
      · exact List.mem_cons_of_mem _ (List.mem_cons_of_mem _ z)
    · have h3 := h2 _ List.mem_cons_self
      rcases List.mem_cons.mp hy with rfl | hy
      · refine Int.le_trans h3 ?_; split <;> omega
      · rcases List.mem_cons.mp hy with rfl | hy
        · refine Int.le_trans h3 ?_; split <;> omega
        · exact h2 y (List.mem_cons_of_mem _ hy)
theorem mostI_spec : ∀ (l : List Int) (m : Int), mostI m l ∈ m :: l ∧ ∀ y ∈ m :: l, y ≤ mostI m l
  | [], m => ⟨List.mem_cons_self, fun y hy => by rw [List.mem_singleton.mp hy]; exact Int.le_refl _⟩
  | b :: l, m => by
    obtain ⟨h1, h2⟩ := mostI_spec l (if m < b then b else m)
    have e : mostI m (b :: l) = mostI (if m < b then b else m) l := rfl
    rw [e]
    refine ⟨?_, fun y hy => ?_⟩
    · rcases List.mem_cons.mp h1 with z | z
      · rw [z]; split <;> simp
      · exact List.mem_cons_of_mem _ (List.mem_cons_of_mem _ z)
    · have h3 := h2 _ List.mem_cons_self
      rcases List.mem_cons.mp hy with rfl | hy
      · refine Int.le_trans ?_ h3; split <;> omega
      · rcases List.mem_cons.mp hy with rfl | hy
        · refine Int.le_trans ?_ h3; split <;> omega
        · exact h2 y (List.mem_cons_of_mem _ hy)
def dAgg (f : List Int → Option Int) : List D → S → Out D
  | [.ref n], st => match st[n]? with
    | some (.lst l) => match mapO intOf l with
      | some ns => match f ns with
        | some i => .ok (.int i) st
        | none => .bad
      | none => .bad
    | _ => .bad
  | _, _ => .bad
def minF : List Int → Option Int
  | [] => none
  | m :: l => some (leastI m l)
def maxF : List Int → Option Int
  | [] => none
  | m :: l => some (mostI m l)
def sumF (l : List Int) : Option Int := some l.sum
abbrev dMinL := dAgg minF
abbrev dMaxL := dAgg maxF
abbrev dSumL := dAgg sumF
theorem ints_ofD {K : Frag} {H : Hp} {r : Rho} : ∀ {l : List D} {ys : List Int} {vs : List V}, mapO intOf l = some ys → RDs K H r l vs → vs = ys.map V.int
  | [], ys, vs, e, h => by
    have := h.nil_inv; subst this
    simp only [mapO, Option.some.injEq] at e; subst e
    rfl
  | d :: ds, ys, vs, e, h => by
    obtain ⟨v, w, rfl, h1, h2⟩ := h.cons_inv
    simp only [mapO] at e
    split at e
    · rename_i a as e1 e2
      cases e
      rw [ints_ofD e2 h2]
      cases d with
      | int x =>
        simp only [intOf, Option.some.injEq] at e1; subst e1
        rw [h1.int_inv]; rfl
      | _ => simp [intOf] at e1
    · cases e
section
variable {K : Frag} {cl : Clm}
theorem opn_minL : OpN K cl dMinL (rMin K) := by
  intro r st H W xs vs Q hs hx hp
  unfold dMinL dAgg at hp
  split at hp
  · obtain ⟨v, rfl, q⟩ := rds1 hx
    obtain ⟨a, rfl, g1⟩ := q.ref_inv
    split at hp
    · rename_i l g
      split at hp
      · rename_i ns e
        obtain ⟨ys, y1, y2⟩ := lst_at hs g g1
        have := ints_ofD e y2; subst this
        cases ns with
        | nil => exact hp.elim
        | cons m l =>
          obtain ⟨h1, h2⟩ := leastI_spec l m
          refine ⟨a, m :: l, rfl, .of y1, Nat.succ_pos _, fun z z1 z2 => ?_⟩
          have : z = leastI m l := Int.le_antisymm (z2 _ h1) (h2 _ z1)
          subst this
          exact hp r H .refl hs _ .int
      · exact hp.elim
    · exact hp.elim
  · exact hp.elim
theorem opn_maxL : OpN K cl dMaxL (rMax K) := by
  intro r st H W xs vs Q hs hx hp
  unfold dMaxL dAgg at hp
  split at hp
  · obtain ⟨v, rfl, q⟩ := rds1 hx
    obtain ⟨a, rfl, g1⟩ := q.ref_inv
    split at hp
    · rename_i l g
      split at hp
      · rename_i ns e
        obtain ⟨ys, y1, y2⟩ := lst_at hs g g1
        have := ints_ofD e y2; subst this
        cases ns with
        | nil => exact hp.elim
        | cons m l =>
          obtain ⟨h1, h2⟩ := mostI_spec l m
          refine ⟨a, m :: l, rfl, .of y1, Nat.succ_pos _, fun z z1 z2 => ?_⟩
          have : z = mostI m l := Int.le_antisymm (h2 _ z1) (z2 _ h1)
          subst this
          exact hp r H .refl hs _ .int
      · exact hp.elim
    · exact hp.elim
  · exact hp.elim
theorem opn_sumL : OpN K cl dSumL (rSum K) := by
  intro r st H W xs vs Q hs hx hp
  unfold dSumL dAgg at hp
  split at hp
  · obtain ⟨v, rfl, q⟩ := rds1 hx
    obtain ⟨a, rfl, g1⟩ := q.ref_inv
    split at hp
    · rename_i l g
      split at hp
      · rename_i ns e
        obtain ⟨ys, y1, y2⟩ := lst_at hs g g1
        have := ints_ofD e y2; subst this
        exact ⟨a, ns, rfl, .of y1, hp r H .refl hs _ .int⟩
      · exact hp.elim
    · exact hp.elim
  · exact hp.elim
end
/-! ### isinstance(e, C), C a class of the text that no other one is over -/
def IsAt (K : Frag) (cl : Clm) (mg : Str → Option Value) (c : Str) : Prop := ∃ C, cl c = some C ∧ mg c = some (.ref C) ∧ Cls K C ∧ PySem.W.findIn K (.ref C) "__class__" = some (some (.builtin "object.__class__")) ∧
  PySem.W.specialIn K (.builtin "object.__class__") "__get__" = some (some (.builtin "getset_descriptor.__get__")) ∧ PySem.W.takesIn K (.builtin "object.__class__") = some true ∧ PySem.W.mroIn K C (.type "object") = some true
def dIsC (c : Str) (m : EM) : EM := fun en st => (m en st).bind fun d st1 => match d with
  | .ref n => match st1[n]? with
    | some (.ins c' _) => if c' = c then .ok (.bl true) st1 else .bad
    | _ => .bad
  | _ => .bad
theorem se_isC {X : Cx} {cl : Clm} {W : WX} {e : Expr} {c : Str} {p p2 pos : Pos} {m : EM} (hI : IsAt X.K cl X.mg c) (hg : Gl X "isinstance") (hm : X.mg "isinstance" = none) (he : SE X cl W e m) (hgc : Gl X c) (hd : (c == ("__debug__" : Str)) = false := by decide)
    (hs1 : starEach [e, .Name c p2] X.env = (false, eval e X.env) :: starEach [.Name c p2] X.env := by rfl) (hs2 : starEach [.Name c p2] X.env = (false, eval (.Name c p2) X.env) :: starEach [] X.env := by rfl) (hpl : (backTo pos (starEach [.Name c p2] X.env)).any (·.1) = false := by rfl) :
    SE X cl W (.Call (.Name "isinstance" p) [e, .Name c p2] [] pos) (dIsC c m) := by
  obtain ⟨C, k1, k2, k3, k4, k5, k6, k7⟩ := hI
  refine ⟨pe_of (pe_callB call_isi hg hm (by decide +kernel) (pa_cons he.pe (pa_cons (pe_glob (v := .ref C) hgc k2 rfl hd) pa_nil hs2) hs1) (by decide) (by decide) hs1 hpl) fun s H Q ⟨r, en, st, he, hs, hp⟩ => ⟨r, en, st, he, hs, (Po.bind hp).mono fun r1 H1 d st1 x1 s1 h1 v q => ?_⟩⟩
  split at h1
  · rename_i n
    obtain ⟨a, rfl, g1⟩ := q.ref_inv
    split at h1
    · rename_i c' fs g
      split at h1
      · rename_i hc
        subst hc
        obtain ⟨C', dx, vs, z1, z2, z3⟩ := ins_at s1 g g1
        rw [k1] at z1; cases z1
        exact ⟨_, .ref C, .ref C, .ref C, true, rfl, .own C, .base (.ins z2 k3 k4 k5 k6 k7), by unfold PySem.W.kitOne; rw [if_pos (by simp)], h1 r1 H1 .refl s1 _ .bl⟩
      · exact h1.elim
    · exact h1.elim
  · exact h1.elim
end Dn

/-! Dn, V: is a tuple of ints in a set of such: the search that adds nothing. -/
namespace Dn
open PySem PySem.Spec PyProof.Rows L2
section
variable {Pg : Program} {wd : World} {Ar : Around} {Er : Value → Shared → Prop} {sh : Shared} {ad : Addr} {Ls : List (Addr × List Int)} {ens : Array (Int × Value)} {epo : Nat} {tb : SetTable}
/-- the c-th state of the way of a hash -/
abbrev stp (m : Nat) (g : Int) (c : Nat) : SetTable.Probe := nth m (runAt m (SetTable.bits g % (m + 1)) (SetTable.bits g)) c
theorem stp_add (m : Nat) (g : Int) (c q : Nat) : nth m (stp m g c) q = stp m g (c + q) := (nth_add m c _ q).symm
theorem stp_j (m : Nat) (g : Int) (c : Nat) : (stp m g c).j = way m g c := rfl
theorem stp_nd (m : Nat) (g : Int) : ∀ c, (stp m g c).dummy = none := by
  have go : ∀ (n : Nat) (u : SetTable.Probe), u.dummy = none → (nth m u n).dummy = none := fun n => by
    induction n with
    | zero => exact fun _ z => z
    | succ n ih => exact fun u z => ih _ (by unfold adv; split <;> exact z)
  exact fun c => go c _ rfl
def hsAt (ens : Array (Int × Value)) : Nat → Int := fun i => (ens[i]?.map (·.1)).getD 0
theorem hsAt_is (R : SetTR Pg wd sh.heap ad Ls ens epo tb) {i : Nat} {e : Addr × List Int} (h : Ls[i]? = some e) : hsAt ens i = thash Pg wd e.2 := by
  unfold hsAt; rw [R.entry h]; rfl
theorem in_Ls (R : SetTR Pg wd sh.heap ad Ls ens epo tb) {i j : Nat} (h : tb.place.toList[i]? = some j) : i < Ls.length := by
  have a := (List.getElem?_eq_some_iff.mp h).1
  have b := R.tab.sz
  rw [List.length_map] at b
  rw [Array.length_toList] at a
  omega
/-- what the next probe tells -/
theorem prb (R : SetTR Pg wd sh.heap ad Ls ens epo tb) (g : Int) {N c : Nat} {from_ : Option SetTable.Probe} (hN : N < 10 * SetTable.turns tb.mask) (hc : c ≤ N) (hfree : way tb.mask g N ∉ tb.place.toList) (hfull : ∀ q, q < N → way tb.mask g q ∈ tb.place.toList)
    (hat : from_.getD (tb.probeStart g) = stp tb.mask g c) :
    (∃ d i, c ≤ d ∧ d < N ∧ tb.place.toList[i]? = some (way tb.mask g d) ∧ hsAt ens i = g ∧ (∀ d' i', c ≤ d' → d' < d → tb.place.toList[i']? = some (way tb.mask g d') → hsAt ens i' ≠ g) ∧
      tb.probe (hsAt ens) g (from_.getD (tb.probeStart g)) = some (.candidate (way tb.mask g d) i (stp tb.mask g (d + 1)))) ∨
    ((∀ d' i', c ≤ d' → d' < N → tb.place.toList[i']? = some (way tb.mask g d') → hsAt ens i' ≠ g) ∧ tb.probe (hsAt ens) g (from_.getD (tb.probeStart g)) = some (.empty (way tb.mask g N) none)) := by
  rw [hat]
  have at_ : ∀ q, (nth tb.mask (stp tb.mask g c) q).j = way tb.mask g (c + q) := fun q => by rw [stp_add]
  rcases go_spec tb R.tab.ris R.tab.dm (hsAt ens) g (10 * SetTable.turns tb.mask) (N - c) (stp tb.mask g c) (stp_nd _ _ _) (by omega) (fun q hq => by rw [at_]; exact hfull _ (by omega)) (by rw [at_, Nat.add_sub_cancel' hc]; exact hfree) with ⟨q, i, z1, z2, z3, z4, z5⟩ | ⟨z4, z5⟩
  · refine .inl ⟨c + q, i, Nat.le_add_right _ _, by omega, by rw [← at_]; exact z2, z3, fun d' i' l1 l2 e => z4 (d' - c) i' (by omega) (by rw [at_, Nat.add_sub_cancel' l1]; exact e), ?_⟩
    rw [at_, stp_add] at z5
    exact z5
  · refine .inr ⟨fun d' i' l1 l2 e => z4 (d' - c) i' (by omega) (by rw [at_, Nat.add_sub_cancel' l1]; exact e), ?_⟩
    rw [at_, Nat.add_sub_cancel' hc] at z5
    exact z5
theorem find_go (R : SetTR Pg wd sh.heap ad Ls ens epo tb) {x : Addr} {ky : List Int} (hx : IsT Pg wd sh.heap ky x) (hu : Ar.units < cLine) {N : Nat} (hN : N < 10 * SetTable.turns tb.mask)
    (hfree : way tb.mask (thash Pg wd ky) N ∉ tb.place.toList) (hfull : ∀ q, q < N → way tb.mask (thash Pg wd ky) q ∈ tb.place.toList) {Q : SetFound → Shared → Prop}
    (yes : ky ∈ Ls.map (·.2) → ∀ i, Q (.there (some i)) sh) (no : ky ∉ Ls.map (·.2) → ∀ j b, Q (.free j b) sh) : ∀ (left c : Nat) (from_ : Option SetTable.Probe), c ≤ N → N < c + left → from_.getD (tb.probeStart (thash Pg wd ky)) = stp tb.mask (thash Pg wd ky) c →
    (∀ (i : Nat) (e : Addr × List Int), Ls[i]? = some e → e.2 = ky → ∃ d, c ≤ d ∧ d < N ∧ tb.place.toList[i]? = some (way tb.mask (thash Pg wd ky) d)) → wpAny (model Pg wd) Ar (setSearchFrom ad (.ref x) (thash Pg wd ky) false left from_) Q Er sh := by
  intro left
  induction left with
  | zero => exact fun c from_ h1 h2 => absurd h2 (by omega)
  | succ left ih =>
    intro c from_ hc hlt hat hre
    obtain ⟨o, ho, hex, hd⟩ := R.ob
    rw [setSearchFrom_succ]
    refine wpAny_bind (wpAny_setState_of ho hd R.fits ?_)
    dsimp only
    refine wp_if_neg R.gw ?_
    try refine wpAny_bind (wpAny_pure ?_)
    rcases prb R (thash Pg wd ky) hN hc hfree hfull hat with ⟨d, i, cd, dN, hi, hh, hno, hp⟩ | ⟨hno, hp⟩
    · rw [show tb.probe (fun i => (ens[i]?.map (·.1)).getD 0) (thash Pg wd ky) (from_.getD (tb.probeStart (thash Pg wd ky))) = _ from hp]
      dsimp only
      have hil := in_Ls R hi
      have he : Ls[i]? = some Ls[i] := List.getElem?_eq_getElem hil
      have hm : Ls[i] ∈ Ls := List.getElem_mem hil
      have go : wpAny (model Pg wd) Ar (searchRest ad (.ref x) (thash Pg wd ky) false left ens tb (way tb.mask (thash Pg wd ky) d) i (stp tb.mask (thash Pg wd ky) (d + 1))) Q Er sh := by
        unfold searchRest
        rw [R.entry he]
        dsimp only
        refine wpAny_bind (wpAny_holding (wpAny_eqBool_tuple hu (R.tup _ hm) hx ?_))
        refine wpAny_bind (wpAny_setState_of ho hd R.fits ?_)
        dsimp only
        refine wp_if_neg (by simp) ?_
        try refine wpAny_bind (wpAny_pure ?_)
        rw [sameMem]
        dsimp only
        simp only [if_true, slot_live R.tab.ris hi, R.entry he]
        refine wpAny_bind (wpAny_isSame_ref_self (wpAny_bind (wpAny_pure ?_)))
        simp only [if_true]
        by_cases same : Ls[i].2 = ky
        · refine wp_if_pos (by simp [same]) (wpAny_pure (yes (List.mem_map.mpr ⟨_, hm, same⟩) _))
        · refine wp_if_neg (by simp [same]) (ih (d + 1) _ (by omega) (by omega) rfl fun i2 e2 h2 k2 => ?_)
          obtain ⟨d2, l1, l2, l3⟩ := hre i2 e2 h2 k2
          refine ⟨d2, ?_, l2, l3⟩
          rcases Nat.lt_trichotomy d2 d with lt | eq | gt
          · exact absurd (by rw [hsAt_is R h2, k2]) (hno d2 i2 l1 lt l3)
          · subst eq
            have s1 := slot_live R.tab.ris l3
            rw [slot_live R.tab.ris hi] at s1
            injection s1 with s1
            subst s1
            rw [he] at h2
            cases h2
            exact absurd k2 same
          · exact gt
      by_cases led : tb.led = true
      · refine wp_if_neg (by simp [led]) ?_
        try refine wpAny_bind (wpAny_pure ?_)
        exact go
      · refine wp_if_pos (by simp [led]) (wpAny_bind (seen_tup hx (fun y hy => ?_) ?_))
        · obtain ⟨en, m1, rfl⟩ := List.mem_map.mp hy
          have m2 : en ∈ ens ∧ en.1 = thash Pg wd ky := by simpa using m1
          have m3 : en ∈ rowsOf Pg wd Ls := by rw [← R.rows]; simpa using m2.1
          obtain ⟨e2, m4, rfl⟩ := List.mem_map.mp m3
          exact ⟨e2.2, e2.1, rfl, R.tup e2 m4⟩
        · refine wp_if_neg (by decide) ?_
          try refine wpAny_bind (wpAny_pure ?_)
          exact go
    · rw [show tb.probe (fun i => (ens[i]?.map (·.1)).getD 0) (thash Pg wd ky) (from_.getD (tb.probeStart (thash Pg wd ky))) = _ from hp]
      dsimp only
      refine wpAny_pure (no (fun hk => ?_) _ _)
      obtain ⟨e, m1, m2⟩ := List.mem_map.mp hk
      obtain ⟨i, hi⟩ := List.getElem?_of_mem m1
      obtain ⟨d, l1, l2, l3⟩ := hre i e hi m2
      exact hno d i l1 l2 l3 (by rw [hsAt_is R hi, m2])
theorem find_all (R : SetTR Pg wd sh.heap ad Ls ens epo tb) {x : Addr} {ky : List Int} (hx : IsT Pg wd sh.heap ky x) (hu : Ar.units < cLine) {Q : SetFound → Shared → Prop}
    (yes : ky ∈ Ls.map (·.2) → ∀ i, Q (.there (some i)) sh) (no : ky ∉ Ls.map (·.2) → ∀ j b, Q (.free j b) sh) : wpAny (model Pg wd) Ar (setSearch ad (.ref x) (thash Pg wd ky)) Q Er sh := by
  have rm := R.room
  have len : (Ls.map fun p => thash Pg wd p.2).length = Ls.length := List.length_map ..
  obtain ⟨N, n1, n2, n3⟩ := R.tab.first (by rw [len]; omega) (thash Pg wd ky)
  have small : N < 100000 := by
    have : SetTable.turns tb.mask ≤ 142 := by
      unfold SetTable.turns
      rcases R.tab.mok with e | e | e <;> rw [e] <;> decide
    omega
  refine find_go R hx hu n1 n2 n3 yes no 100000 0 none (Nat.zero_le _) (by omega) rfl fun i e he hk => ?_
  have hh : (Ls.map fun p => thash Pg wd p.2)[i]? = some (thash Pg wd ky) := by rw [List.getElem?_map, he, ← hk]; rfl
  have hi : i < tb.place.toList.length := by
    have a := (List.getElem?_eq_some_iff.mp he).1
    have b := R.tab.sz
    rw [len] at b
    rw [Array.length_toList]
    omega
  obtain ⟨d, d1, d2⟩ := R.tab.before n2 hh (List.getElem?_eq_getElem hi)
  exact ⟨d, Nat.zero_le _, d1, by rw [d2]; exact List.getElem?_eq_getElem hi⟩
theorem setFind_tup (R : SetTR Pg wd sh.heap ad Ls ens epo tb) {x : Addr} {ky : List Int} (hx : IsT Pg wd sh.heap ky x) (hu : Ar.units < cLine) {Q : Option Nat → Shared → Prop} (h : ∀ r, r.isSome = decide (ky ∈ Ls.map (·.2)) → Q r sh) :
    wpAny (model Pg wd) Ar (setFind ad (.ref x) (thash Pg wd ky)) Q Er sh := by
  obtain ⟨o, ho, hex, hd⟩ := R.ob
  unfold setFind
  rw [show (100000 : Nat) = 99999 + 1 from rfl]
  unfold setFindIn
  refine wpAny_bind (wpAny_setState_of ho hd R.fits ?_)
  dsimp only
  refine wp_if_neg (by simp [byScan, Value.scannable]) ?_
  try refine wpAny_bind (wpAny_pure ?_)
  refine wpAny_bind (find_all R hx hu (fun hm i => ?_) fun hm j b => ?_)
  · exact wpAny_pure (h _ (by simp [hm]))
  · exact wpAny_pure (h _ (by simp [hm]))
theorem SetTR.ty (R : SetTR Pg wd sh.heap ad Ls ens epo tb) : sh.TypeIs (.ref ad) "set" := let ⟨o, ho, hex, _⟩ := R.ob; ⟨o, ho, hex.1⟩
/-- is it in the set? -/
theorem has_tup (R : SetTR Pg wd sh.heap ad Ls ens epo tb) {x : Addr} {ky : List Int} (hx : IsT Pg wd sh.heap ky x) (hu : Ar.units + 8 < cLine) {Q : Bool → Shared → Prop} (h : Q (decide (ky ∈ Ls.map (·.2))) { sh with toks := sh.toks + (ky.length + 1) }) :
    wpAny (model Pg wd) Ar (contains (.ref ad) (.ref x)) Q Er sh := by
  have hT := SetTR.ty R
  unfold contains
  try with_reducible refine wpAny_holding ?_
  refine wpAny_bind (wpAny_specialOf hT F.slot_set_contains.lookup ?_)
  show wpAny _ _ (if (some (Value.builtin "set.__contains__") == some Value.none) = true then _ else _) _ Er sh
  rw [if_neg (by rw [beq_builtin_none]; decide)]
  refine wpAny_bind (wpAny_callSpecialUnlessNone?_slot (name := Str.ofString "__contains__") hT F.slot_set_contains (wpAny_call_entry F.slot_set_contains hT entry_set_contains ?_ (F.args_set_contains_2 _ _)))
  unfold Builtin.«frozenset.__contains__» Builtin.Frozenset.oneOther
  simp only [List.isEmpty_nil, bind_assoc]
  unfold Builtin.Frozenset.addrOf Builtin.Frozenset.withSetAsKey setContains
  refine wpAny_bind (wpAny_pure ?_)
  (try dsimp only); refine wpAny_bind (wpAny_pure ?_)
  (try dsimp only); refine wpAny_bind (wpAny_tryCatch (wpAny_holding ?_))
  refine wpAny_bind (wpAny_pyHash_tuple (by first | exact hu | (have z := hu; show _ < _; simp only [Around.units] at *; omega) | omega) hx ?_)
  have R2 : SetTR Pg wd ({ sh with toks := sh.toks + (ky.length + 1) } : Shared).heap ad Ls ens epo tb := R
  refine wpAny_bind (setFind_tup R2 hx ?u fun r hr => wpAny_pure ?_)
  case u => first | exact hu | (have z := hu; show _ < _; simp only [Around.units] at *; omega) | omega
  show wpAny _ _ (ret (Value.bool r.isSome)) _ _ _
  rw [hr]
  exact wpAny_pure ⟨_, rfl, wpAny_truthy_bool h⟩
/-- is added -/
theorem add_tup (R : SetTR Pg wd sh.heap ad Ls ens epo tb) {x : Addr} {ky : List Int} (hx : IsT Pg wd sh.heap ky x) (hu : Ar.units + 8 < cLine) (few : Ls.length + 1 < 64) {Q : Value → Shared → Prop}
    (h : ∀ h' L' es' ep' t', Heap.SameBut ad sh.heap h' → SetTR Pg wd h' ad L' es' ep' t' → (ky ∈ Ls.map (·.2) → L' = Ls) → (ky ∉ Ls.map (·.2) → L'.Perm ((x, ky) :: Ls)) → Q .none { sh with heap := h', toks := sh.toks + (ky.length + 1) }) :
    wpAny (model Pg wd) Ar (call (.builtin "set.add") [.ref ad, .ref x]) Q Er sh := by
  refine wpAny_call_entry F.slot_set_add (SetTR.ty R) F.entry_set_add ?_ (F.args_set_add_2 _ _)
  unfold Builtin.«set.add» Builtin.Frozenset.oneOther
  simp only [List.isEmpty_nil, bind_assoc]
  unfold Builtin.Frozenset.addrOf setAdd
  refine wpAny_bind (wpAny_pure ?_)
  (try dsimp only); refine wpAny_bind (wpAny_pure ?_)
  (try dsimp only); refine wpAny_bind (wpAny_holding ?_)
  refine wpAny_bind (wpAny_pyHash_tuple ?u hx ?_)
  case u => first | exact hu | (have z := hu; show _ < _; simp only [Around.units] at *; omega) | omega
  have R2 : SetTR Pg wd ({ sh with toks := sh.toks + (ky.length + 1) } : Shared).heap ad Ls ens epo tb := R
  refine add_at R2 hx ?u2 few fun b h' L' es' ep' t' e1 e2 e3 e4 => ?_
  case u2 => first | exact hu | (have z := hu; show _ < _; simp only [Around.units] at *; omega) | omega
  show wpAny _ _ (ret Value.none) _ _ _
  exact wpAny_pure ⟨_, rfl, h h' L' es' ep' t' e1 e2 e3 e4⟩
end
section
variable {X : Cx}
def rSet0T (Pg : Program) (wd : World) : List V → Hp → VK → Prop := fun xs H Q => xs = [] ∧ ∀ p, H p = none → Q (.ref p) (upd H p (SetTO Pg wd p []))
theorem cr_set0T : CallR X (.type "set") (rSet0T X.prog X.w) := fun pins s σ H xs us Q I r h => by
  obtain ⟨rfl, q⟩ := h
  cases r
  refine setR_new fun _ => ?_
  have R := setTR_fresh (P := X.prog) (w := X.w) (h := s.heap.push { cls := .type "set", dict := none, data := .set #[] 0 (.fresh 0 0 (!X.w.params.followText "set-order")) }) (a := s.heap.objs.size) (Heap.get?_push_size _ rfl)
  exact ⟨.ref _, upd H s.heap.objs.size (SetTO X.prog X.w s.heap.objs.size []), I.laid (t' := s.toks) (fun b u e => Heap.get?_push_of_some _ e) (Nat.le_refl _) (setTO_new R.t0), rfl, q _ (I.hok.fresh (Nat.le_refl _))⟩
/-- the set at a, of these tuples -/
def SetAtT (X : Cx) (H : Hp) (a : Addr) (L : List (Addr × List Int)) : Prop := H a = some (SetTO X.prog X.w a L) ∧ ∀ p ∈ L, SqT X.K H p.1 (p.2.map V.int)
theorem SetAtT.full {pins : List (Addr × Obj)} {σ : L2.St} {H : Hp} {s : Shared} {a : Addr} {L : List (Addr × List Int)} (h : SetAtT X H a L) (I : Inv X pins σ H s) : ∃ es ep t, SetTR X.prog X.w s.heap a L es ep t :=
  SetT0.full (I.hok a _ h.1).1 fun p hp => I.isT (h.2 p hp)
def rSAddT (X : Cx) : V → List V → Hp → VK → Prop := fun x xs H Q => ∃ (a t : Addr) (k : List Int) (L : List (Addr × List Int)), x = V.ref a ∧ xs = [V.ref t] ∧ SetAtT X H a L ∧ SqT X.K H t (k.map V.int) ∧ L.length + 1 < 64 ∧
  ∀ L', (k ∈ L.map (·.2) → L' = L) → (k ∉ L.map (·.2) → L'.Perm ((t, k) :: L)) → Q .non (upd H a (SetTO X.prog X.w a L'))
theorem mt_saddT (hu : X.A.units + 8 < cLine) : MtR X "set.add" (rSAddT X) := fun pins s σ H x xs v us Q I rx rxs h => by
  obtain ⟨a, t, k, L, rfl, rfl, hS, ht, few, q⟩ := h
  cases rx
  cases rxs with
  | cons ry rt =>
    cases rt
    cases ry
    obtain ⟨es, ep, tt, R⟩ := hS.full I
    refine add_tup R (I.isT ht) hu few fun h' L' es' ep' t' sb R' e1 e2 => ?_
    have he : ∃ u, h'.get? a = some u := let ⟨o, ho, _⟩ := R'.ob; ⟨o, ho⟩
    exact ⟨.non, upd H a (SetTO X.prog X.w a L'), I.write (e := a) (t' := s.toks + (k.length + 1)) (by rw [hS.1]; trivial) (.inl rfl) (fun b u hb hu2 => (sb.2 b hb).trans hu2) he (setTO_new R'.t0), rfl, q L' e1 e2⟩
def tSAddT (X : Cx) (to : TE) (t : TA) : TE := fun σ H Q => to σ H fun x H1 => (∃ a L, x = V.ref a ∧ SetAtT X H1 a L) ∧ t σ H1 fun xs H2 => rSAddT X x xs H2 Q
theorem pe_saddT {o e : Expr} {es : List Expr} {to : TE} {t : TA} {apos cpos : Pos} (hu : X.A.units + 8 < cLine) (ho : PE X o to) (ha : PA X (e :: es) t) (hbase : attributeBase o "add" X.env (eval o X.env) = eval o X.env := by rfl)
    (hfew : ((backTo cpos (starEach (e :: es) X.env)).all (fun x => !x.1) && (backToKw cpos (keywordEach [] X.env)).all (fun x => x.1.isSome) && decide ((e :: es).length + ([] : List Keyword).length + (if ([] : List Keyword).isEmpty then 0 else 1) < 30)) = true := by rfl)
    (hline : (apos.endLine == cpos.line) = true := by rfl) (hs : starEach (e :: es) X.env = (false, eval e X.env) :: starEach es X.env := by rfl) (hplain : (backTo cpos (starEach es X.env)).any (·.1) = false := by rfl) :
    PE X (.Call (.Attribute o "add" apos) (e :: es) [] cpos) (tSAddT X to t) := ⟨fun pins s σ H Q I h => by
  refine wpAny_Call_method_late hbase hfew hline rfl (thn (ho.run pins s σ H _ I h) fun v s1 ⟨x, H1, I1, r1, ⟨a, L, ex, hS⟩, q1⟩ => ?_)
  subst ex
  cases r1
  obtain ⟨es', ep, tt, R⟩ := hS.full I1
  refine ⟨"set", "set.add", F.plainAttrs_set, F.slot_set_add, F.type_set_add, SetTR.ty R, (fun b e => by injection e with e; subst e; exact let ⟨o, ho, hex, _⟩ := R.ob; ⟨o, ho, hex.2.1⟩), ?_⟩
  have go := ha.run cpos pins s1 σ H1 _ I1 q1
  rw [hs] at go ⊢
  exact Calls.callWith_builtin (by show (false || List.any (backTo cpos (starEach es X.env)) (·.1)) = false; rw [hplain]; rfl) (Calls.evalArgs_plain (thn go fun us s2 ⟨vs, H2, I2, r2, q2⟩ => mt_saddT hu pins s2 σ H2 (.ref a) vs (.ref a) us Q I2 rfl r2 q2))⟩
def rSInT (X : Cx) (g : Bool → Bool) : R2 := fun x y H Q => ∃ (a t : Addr) (k : List Int) (L : List (Addr × List Int)), x = V.ref t ∧ y = V.ref a ∧ SetAtT X H a L ∧ SqT X.K H t (k.map V.int) ∧ Q (.bl (g (decide (k ∈ L.map (·.2))))) H
theorem op_sinT (hu : X.A.units + 8 < cLine) : OpR X (compareOp .In) (rSInT X id) := fun pins s σ H x y v u Q I rx ry h => by
  obtain ⟨a, t, k, L, rfl, rfl, hS, ht, q⟩ := h
  cases rx
  cases ry
  obtain ⟨es, ep, tt, R⟩ := hS.full I
  show wpAny _ _ (do return Value.bool (← contains (.ref a) (.ref t))) _ _ s
  exact wpAny_bind (has_tup R (I.isT ht) hu (wpAny_pure ⟨.bl _, H, I.tok _, rfl, q⟩))
theorem op_snotinT (hu : X.A.units + 8 < cLine) : OpR X (compareOp .NotIn) (rSInT X not) := fun pins s σ H x y v u Q I rx ry h => by
  obtain ⟨a, t, k, L, rfl, rfl, hS, ht, q⟩ := h
  cases rx
  cases ry
  obtain ⟨es, ep, tt, R⟩ := hS.full I
  show wpAny _ _ (do return Value.bool (!(← contains (.ref a) (.ref t)))) _ _ s
  exact wpAny_bind (has_tup R (I.isT ht) hu (wpAny_pure ⟨.bl _, H, I.tok _, rfl, q⟩))
end
end Dn

/-! Dn, T: what is never reached, a field op= an int, defs with defaults, methods of texts. -/
namespace Dn
open PySem PySem.Spec PyProof.Rows L2
/-! ### what is never reached -/
def sBad : SM := fun _ _ => .bad
def dBad : EM := fun _ _ => .bad
theorem ss_bad {X : Cx} {cl : Clm} {W : WX} {s : Stmt} : SS X cl W s sBad := ⟨⟨fun pins s σ H D I ⟨r, en, st, he, hs, hp⟩ => hp.elim⟩⟩
theorem se_bad {X : Cx} {cl : Clm} {W : WX} {e : Expr} : SE X cl W e dBad := ⟨⟨fun pins s σ H Q I ⟨r, en, st, he, hs, hp⟩ => hp.elim⟩⟩
/-! ### o.f op= an int -/
def sFldI (cs : List Str) (f : Str) (g : Int → Int → Int) (mo mv : EM) : SM := fun en st => (mo en st).bind fun o st1 => match o with
  | .ref n => match st1[n]? with
    | some (.ins c fs) => match fs.lookup f with
      | some (.int i) => if cs.contains c then (mv en st1).bind fun d st2 => match d with
        | .int j => match st2[n]? with
          | some (.ins c' fs') => if c' = c ∧ fs'.length < 1000 then .ok (.nx, en) (st2.set n (.ins c (putD f (.int (g i j)) fs'))) else .bad
          | _ => .bad
        | _ => .bad
        else .bad
      | _ => .bad
    | _ => .bad
  | _ => .bad
def IpOk (X : Cx) (op : Operator) (g : Int → Int → Int) : Prop := InOp X op fun x y H Q => ∃ i j, x = .int i ∧ y = .int j ∧ Q (.int (g i j)) H
theorem ipk_add {X : Cx} : IpOk X .Add (fun i j => i + j) := in_add
theorem ipk_sub {X : Cx} : IpOk X .Sub (fun i j => i - j) := in_sub
theorem ss_fldI {X : Cx} {cl : Clm} {W : WX} {o value : Expr} {f : Str} {op : Operator} {pos tpos : Pos} {cs : List Str} {g : Int → Int → Int} {mo mv : EM} (ho : SE X cl W o mo) (hv : SE X cl W value mv) (hg : IpOk X op g) (hc : ∀ c ∈ cs, FldAt X.K cl c f) :
    SS X cl W (.AugAssign (.Attribute o f tpos) op value pos) (sFldI cs f g mo mv) :=
  ⟨ps_of (ps_fldaug ho.pe hv.pe hg) fun D s H ⟨r, en, st, he, hs, hp⟩ => ⟨r, en, st, he, hs, (Po.bind hp).mono fun r1 H1 d st1 x1 s1 h1 v q => by
    split at h1
    · rename_i n
      obtain ⟨a, rfl, e1⟩ := q.ref_inv
      split at h1
      · rename_i c fs g1
        obtain ⟨C, dx, vs, z1, z2, z3⟩ := ins_at s1 g1 e1
        split at h1
        · rename_i i gi
          split at h1
          · rename_i hm
            obtain ⟨C', k1, k2, k3⟩ := hc c (by simpa using hm)
            rw [z1] at k1; cases k1
            rcases z3.look (f := f) with ⟨y1, _⟩ | ⟨d, u, y1, y2, y3⟩
            · rw [gi] at y1; cases y1
            · rw [gi] at y1; cases y1
              refine ⟨a, C, dx, vs, u, rfl, z2, k2, k3, y2, r1, en, st1, he.mono x1.mn, s1, (Po.bind h1).mono fun r2 H2 d2 st2 x2 s2 h2 w q2 => ?_⟩
              split at h2
              · rename_i j
                split at h2
                · rename_i c' fs' g2
                  split at h2
                  · rename_i hh
                    obtain ⟨rfl, hl⟩ := hh
                    obtain ⟨C2, dx2, vs2, w1, w2, w3⟩ := ins_at s2 g2 (x2.ext _ _ e1)
                    rw [z1] at w1; cases w1
                    refine ⟨i, j, y3.int_inv, q2.int_inv, dx2, vs2, w2, by rw [← w3.length]; exact hl, ?_⟩
                    obtain ⟨o1, o2⟩ := put_ins s2 g2 (x2.ext _ _ e1) z1 w2 (w3.put (RD.int (i := g i j)))
                    exact h2 _ _ o2 o1 _ (he.mono ((x1.trans x2).trans o2).mn)
                  · exact h2.elim
                · exact h2.elim
              · exact h2.elim
          · exact h1.elim
        · exact h1.elim
      · exact h1.elim
    · exact h1.elim⟩⟩
/-! ### defs with defaults that are ints -/
def FnDD (P : Program) (w : World) (K : Frag) (mg : Str → Option Value) (base : Heap) (cl : Clm) (x : Str) (np k : Nat) (dv : List D) (f : List D → S → Out D) : Prop :=
  ∃ fa fd ps us, mg x = some (.ref fa) ∧ PySem.W.keepIn K (.ref fa) = true ∧ Binds K fd ps us ∧ KDs K dv us ∧ FnOk P w K mg base (L2.CX P w) k fa fd ps (spD K cl np f)
def dCallD (np : Nat) (dv : List D) (f : List D → S → Out D) (m : AM) : EM := fun en st => (m en st).bind fun ds st1 => if ds.length + dv.length = np then atEn en (f (ds ++ dv) st1) else .bad
theorem FnDD.mono {P : Program} {w : World} {K : Frag} {mg : Str → Option Value} {base : Heap} {cl : Clm} {x : Str} {np j k : Nat} {dv : List D} {f : List D → S → Out D} (F : FnDD P w K mg base cl x np j dv f) (h : j ≤ k) : FnDD P w K mg base cl x np k dv f :=
  let ⟨fa, fd, ps, us, a, b, c, d, e⟩ := F
  ⟨fa, fd, ps, us, a, b, c, d, e.mono h⟩
theorem se_callD {X : Cx} {cl : Clm} {W : WX} {e : Expr} {es : List Expr} {x : Str} {np k : Nat} {dv : List D} {f : List D → S → Out D} {m : AM} {p pos : Pos} (F : FnDD X.prog X.w X.K X.mg X.base cl x np k dv f) (hr : Room k X.A) (tk : Takes X W) (hg : Gl X x) (ha : SA X cl W (e :: es) m)
    (hdb : (x == ("__debug__" : Str)) = false := by decide) (he : starEach (e :: es) X.env = (false, eval e X.env) :: starEach es X.env := by rfl) (hpl : (backTo pos (starEach es X.env)).any (·.1) = false := by rfl) :
    SE X cl W (.Call (.Name x p) (e :: es) [] pos) (dCallD np dv f m) := by
  obtain ⟨fa, fd, ps, us, hm, hk, hb, ⟨dvs, hd, hd2⟩, F⟩ := F
  refine ⟨pe_of (pe_callSD F hr hg hm hk hb hd (fun σ => passAt tk σ) ha.pa hdb he hpl) fun s H Q ⟨r, en, st, he, hs, hp⟩ => ⟨r, en, st, he, hs, (Po.bind hp).mono fun r1 H1 ds st1 x1 s1 h1 vs q => ?_⟩⟩
  split at h1
  · rename_i hl
    have q2 := q.append (hd2 H1 r1)
    refine ⟨by rw [← q2.length, List.length_append]; exact hl, r1, st1, ds ++ dv, s1, q2, ?_⟩
    cases e : f (ds ++ dv) st1 with
    | ok d st' => rw [e] at h1; exact h1
    | exc x en' st' => rw [e] at h1; exact fun r' H' c d y z w => h1 r' H' s c d y z (he.mono (x1.trans y).mn) w
    | bad => rw [e] at h1; exact h1
  · exact h1.elim
def DefDAt (K : Frag) (mg : Str → Option Value) (x qual : Str) (st : Stmt) (dvs : List V) : Prop := ∃ fa fd, mg x = some (.ref fa) ∧ FunD K x qual (defArgs st) (defBody st) (defScope st) dvs [] fa fd
section
variable {P : Program} {w : World} {K : Frag} {mg : Str → Option Value} {base : Heap} {cl : Clm}
theorem fnDD_of {x qual : Str} {st : Stmt} {fa : Addr} {fd : FuncData} {N ps : List Str} {k np n : Nat} {dvs : List V} {dv : List D} {us : List Value} {body : SM} (F : FunD K x qual (defArgs st) (defBody st) (defScope st) dvs [] fa fd) (sc : FnScope N ps (defScope st)) (h1 : ps.length = np) (h2 : N.length = n) (hm : mg x = some (.ref fa)) (hb : Binds K fd ps us) (hd : KDs K dv us)
    (hbody : ∀ (cdv : Value) (A : Around) (outer : List Env) (s : Shared) (H : Hp) (E : XK), Room k (A.deeper (envOfC qual (defScope st) s.heap.objs.size fa cdv)) →
      Takes (cxOf (L2.CX P w) P w K mg base N qual (defScope st) fa cdv A outer s H E) (fun c d _ H => E c d H) → SL (cxOf (L2.CX P w) P w K mg base N qual (defScope st) fa cdv A outer s H E) cl (fun c d _ H => E c d H) (defBody st) body) :
    FnDD P w K mg base cl x np (k + 1) dv (defD np n body) := by
  refine ⟨fa, fd, ps, us, hm, F.kp, hb, hd, ?_⟩
  subst h1 h2
  refine F.ok sc (fun vs H Q E h => h.1) fun cdv A outer s H vs Q E hr h => ?_
  obtain ⟨hl, r, st0, ds, hs, q, hp⟩ := h
  refine ⟨_, (hbody cdv A outer s H E hr (takes_of rfl rfl rfl rfl)).pss, ?_⟩
  have hl2 : ds.length = ps.length := by rw [q.length]; exact hl
  refine ⟨r, ds.map some ++ List.replicate (N.length - ps.length) none, st0, by rw [← hl2]; exact .start N q, hs, ?_⟩
  unfold defD at hp
  rw [if_pos hl2] at hp
  cases e : body (ds.map some ++ List.replicate (N.length - ps.length) none) st0 with
  | bad => rw [e] at hp; exact hp
  | exc x en st' => rw [e] at hp; exact fun r' H' s' c d y z _ u => hp r' H' c d y z u
  | ok p st' =>
    obtain ⟨f, en⟩ := p
    rw [e] at hp
    cases f with
    | ret d => exact fun r' H' y z s' _ v qv => hp r' H' y z v qv
    | nx => exact fun r' H' y z s' _ => hp r' H' y z _ .non
    | bk => exact hp.elim
    | ct => exact hp.elim
theorem use_defD {h : Heap} {x qual : Str} {st : Stmt} {fa T : Addr} {od an : Option Addr} {sl : Array (Option Value)} {oc kV dc pm cd ct : Value} {o : Obj} {its : Array Value} {m : Nat} {dvs : List V} {G : Prop} (X : K.In h) (N : h.Ns mainGlobals mg)
    (a : PySem.W.nsIn K mainGlobals x = some (some (.ref fa))) (l : K.lookup fa = some ⟨oc, od, .func (PySem.W.fnOf x qual (defArgs st) (defBody st) (defScope st) (.ref T) kV dc pm an cd ct), sl⟩) (c : PySem.W.codeIn K cd qual = true) (k : PySem.W.keepIn K (.ref fa) = true)
    (lT : K.lookup T = some o) (oT : o.data = .seq its m) (ne : dvs ≠ []) (v : Vals dvs its.toList) (g : DefDAt K mg x qual st dvs → G) : G :=
  g ⟨fa, _, PySem.W.mg_of X N a, ⟨⟨oc, od, .ref T, kV, dc, pm, an, cd, ct, sl, rfl, l, c, .inr ⟨ne, T, o, its.toList, m, rfl, lT, by rw [oT], v⟩, .inl rfl⟩, k⟩⟩
end
theorem kds_ints {K : Frag} : ∀ {is : List Int} {us : List Value}, Vals (is.map V.int) us → KDs K (is.map D.int) us := fun {is} {us} h => ⟨is.map V.int, h, fun _ _ => rds_ints is⟩
/-! ### methods of texts -/
def mSplit : D → List D → S → Out D
  | .str a, [.str b], st => if (b.length == 0) = false ∧ a.length + 2 ≤ sizeLine then .ok (.ref st.length) (st ++ [.lst ((Txt.split a b).map D.str)]) else .bad
  | _, _, _ => .bad
def mStarts : D → List D → S → Out D
  | .str a, [.str b], st => .ok (.bl (Txt.startswith a b)) st
  | _, _, _ => .bad
def mParti : D → List D → S → Out D
  | .str a, [.str b], st => if (b.length == 0) = false ∧ a.length ≤ sizeLine then .ok (.tup [.str (Txt.partition a b).1, .str (Txt.partition a b).2.1, .str (Txt.partition a b).2.2]) st else .bad
  | _, _, _ => .bad
section
variable {K : Frag} {cl : Clm}
theorem rds_strs {H : Hp} {r : Rho} : ∀ ys : List Str, RDs K H r (ys.map D.str) (ys.map V.str)
  | [] => .nil
  | _ :: ys => .cons .str (rds_strs ys)
theorem opm_split : OpM K cl mSplit (fun x xs H Q => ∃ a b, x = .str a ∧ xs = [.str b] ∧ (b.length == 0) = false ∧ a.length + 2 ≤ sizeLine ∧ rNewStrs (Txt.split a b) H Q) := by
  intro r st H W x xs v vs Q hs hx hxs hp
  unfold mSplit at hp
  split at hp
  · split at hp
    · rename_i hh
      rw [hx.str_inv]
      obtain ⟨u, rfl, q⟩ := rds1 hxs
      rw [q.str_inv]
      exact ⟨_, _, rfl, rfl, hh.1, hh.2, new_lst hs (rds_strs _) hp⟩
    · exact hp.elim
  · exact hp.elim
theorem opm_starts : OpM K cl mStarts (fun x xs H Q => ∃ a b, x = .str a ∧ xs = [.str b] ∧ Q (.bl (Txt.startswith a b)) H) := by
  intro r st H W x xs v vs Q hs hx hxs hp
  unfold mStarts at hp
  split at hp
  · rw [hx.str_inv]
    obtain ⟨u, rfl, q⟩ := rds1 hxs
    rw [q.str_inv]
    exact ⟨_, _, rfl, rfl, hp r H .refl hs _ .bl⟩
  · exact hp.elim
theorem opm_parti : OpM K cl mParti (fun x xs H Q => ∃ a b, x = .str a ∧ xs = [.str b] ∧ (b.length == 0) = false ∧ a.length ≤ sizeLine ∧ ∀ p, H p = none → Q (.ref p) (upd H p (.tup [.str (Txt.partition a b).1, .str (Txt.partition a b).2.1, .str (Txt.partition a b).2.2]))) := by
  intro r st H W x xs v vs Q hs hx hxs hp
  unfold mParti at hp
  split at hp
  · split at hp
    · rename_i hh
      rw [hx.str_inv]
      obtain ⟨u, rfl, q⟩ := rds1 hxs
      rw [q.str_inv]
      exact ⟨_, _, rfl, rfl, hh.1, hh.2, new_tup hs (.cons .str (.cons .str (.cons .str .nil))) hp⟩
    · exact hp.elim
  · exact hp.elim
end
end Dn

/-! Dn, W: sets of tuples of ints. -/
namespace Dn
open PySem PySem.Spec PyProof.Rows L2
def tupI : D → Option (List Int)
  | .tup ds => mapO intOf ds
  | _ => none
def dSet0 : EM := fun _ st => .ok (.ref st.length) (st ++ [.set []])
def putS (k : List Int) (l : List (List Int)) : List (List Int) := if k ∈ l then l else l ++ [k]
def dSAdd (mo me : EM) : EM := fun en st => (mo en st).bind fun o st1 => match o with
  | .ref n => match st1[n]? with
    | some (.set _) => (me en st1).bind fun d st2 => match tupI d with
      | some k => match st2[n]? with
        | some (.set l) => if l.length < 60 then .ok .non (st2.set n (.set (putS k l))) else .bad
        | _ => .bad
      | none => .bad
    | _ => .bad
  | _ => .bad
def dSIn2 (g : Bool → Bool) : D → D → S → Out D := fun x y st => match y with
  | .ref n => match st[n]? with
    | some (.set l) => match tupI x with
      | some k => .ok (.bl (g (decide (k ∈ l)))) st
      | none => .bad
    | _ => .bad
  | _ => .bad
theorem hu8 {A : Around} {k : Nat} (hr : Room k A) : A.units + 8 < cLine := by have := hr.un; omega
/-- the classes stand in this program's world -/
def Here (X : Cx) (cl : Clm) : Prop := cl.P = X.prog ∧ cl.w = X.w
theorem set_at_ {X : Cx} {cl : Clm} {r : Rho} {st : S} {H : Hp} {n : Nat} {a : Addr} {l : List (List Int)} (hc : Here X cl) (hs : RS X.K cl r st H) (g : st[n]? = some (.set l)) (h : r n = some a) : ∃ L, SetAtT X H a L ∧ (∀ k, k ∈ L.map (·.2) ↔ k ∈ l) ∧ L.length ≤ l.length := by
  obtain ⟨b, e1, L, e2, e3, e4, e5⟩ := hs.at_ n _ g
  rw [h] at e1; cases e1
  rw [hc.1, hc.2] at e2
  exact ⟨L, ⟨e2, e3⟩, e4, e5⟩
theorem tupI_of {K : Frag} {H : Hp} {r : Rho} {d : D} {k : List Int} {v : V} (e : tupI d = some k) (h : RD K H r d v) : ∃ t, v = .ref t ∧ SqT K H t (k.map V.int) := by
  cases d with
  | tup ds =>
    obtain ⟨t, xs, rfl, h1, h2⟩ := h.tup_inv
    have := ints_ofD e h2
    subst this
    exact ⟨t, rfl, h1⟩
  | _ => cases e
section
variable {X : Cx} {cl : Clm} {W : WX} {p pos apos : Pos} {o e a b : Expr} {mo me ma mb : EM}
theorem se_set0 (hc : Here X cl) (hg : Gl X "set") (hm : X.mg "set" = none) : SE X cl W (.Call (.Name "set" p) [] [] pos) dSet0 :=
  ⟨pe_of (pe_callTy0 cr_set0T hg hm (by decide +kernel)) fun s H Q ⟨r, en, st, he, hs, hp⟩ => ⟨rfl, fun q nq => by
    obtain ⟨z1, z2⟩ := push_new (o := .set []) (u := SetTO X.prog X.w q []) hs nq ⟨[], by rw [hc.1, hc.2]; exact upd_same, by simp, by simp, Nat.le_refl _⟩ rfl
    exact hp _ _ z2 z1 _ (.ref nxt_self)⟩⟩
theorem se_sadd {k : Nat} (hc : Here X cl) (hr : Room k X.A) (ho : SE X cl W o mo) (he : SE X cl W e me) (h1 : attributeBase o "add" X.env (eval o X.env) = eval o X.env := by rfl)
    (h2 : ((backTo pos (starEach [e] X.env)).all (fun x => !x.1) && (backToKw pos (keywordEach [] X.env)).all (fun x => x.1.isSome) && decide (([e] : List Expr).length + ([] : List Keyword).length + (if ([] : List Keyword).isEmpty then 0 else 1) < 30)) = true := by rfl)
    (h3 : (apos.endLine == pos.line) = true := by rfl) (h4 : starEach [e] X.env = (false, eval e X.env) :: starEach [] X.env := by rfl) : SE X cl W (.Call (.Attribute o "add" apos) [e] [] pos) (dSAdd mo me) :=
  ⟨pe_of (pe_saddT (by have := hr.un; omega) ho.pe (pa_cons he.pe pa_nil h4) h1 h2 h3 h4 (by rfl)) fun s H Q ⟨r, en, st, hen, hs, hp⟩ => ⟨r, en, st, hen, hs, (Po.bind hp).mono fun r1 H1 d st1 x1 s1 q1 v rv => by
    split at q1
    · rename_i n
      obtain ⟨ad, rfl, g1⟩ := rv.ref_inv
      split at q1
      · rename_i l0 g
        obtain ⟨L0, S0, _⟩ := set_at_ hc s1 g g1
        refine ⟨⟨ad, L0, rfl, S0⟩, r1, en, st1, hen.mono x1.mn, s1, (Po.bind q1).mono fun r2 H2 d2 st2 x2 s2 q2 u ru => ?_⟩
        cases ek : tupI d2 with
        | none => rw [ek] at q2; exact q2.elim
        | some k =>
          rw [ek] at q2
          simp only at q2
          split at q2
          · rename_i l g2
            split at q2
            · rename_i hz
              have gr := x2.ext _ _ g1
              obtain ⟨L, S1, S2, S3⟩ := set_at_ hc s2 g2 gr
              obtain ⟨t, rfl, ht⟩ := tupI_of ek ru
              show rSAddT X (V.ref ad) [V.ref t] H2 Q
              refine ⟨ad, t, k, L, rfl, rfl, S1, ht, by omega, fun L' c1 c2 => ?_⟩
              have mu : Mu (SetTO X.prog X.w ad L) := .inr (.inr (.inl ⟨_, rfl⟩))
              have mm : Mn X.K r2 H2 r2 (upd H2 ad (SetTO X.prog X.w ad L')) := ⟨fun _ _ z => z, fun b ys z => sqt_upd (mu.nt S1.1) (mu.nf S1.1) z⟩
              have ro : RO X.K cl (upd H2 ad (SetTO X.prog X.w ad L')) r2 (.set (putS k l)) ad := by
                unfold putS
                by_cases hk : k ∈ l
                · rw [if_pos hk]
                  have := c1 ((S2 k).mpr hk)
                  subst this
                  exact ⟨L', by rw [hc.1, hc.2]; exact upd_same, fun p hp => mm.sqt _ _ (S1.2 p hp), S2, S3⟩
                · rw [if_neg hk]
                  have pm := c2 fun z => hk ((S2 k).mp z)
                  refine ⟨L', by rw [hc.1, hc.2]; exact upd_same, fun p hp => mm.sqt _ _ ?_, fun j => ?_, by rw [pm.length_eq, List.length_cons, List.length_append, List.length_singleton]; omega⟩
                  · rcases List.mem_cons.mp (pm.mem_iff.mp hp) with rfl | z
                    · exact ht
                    · exact S1.2 p z
                  · rw [(pm.map _).mem_iff, List.map_cons, List.mem_cons, List.mem_append, List.mem_singleton, S2]
                    exact Or.comm
              obtain ⟨y1, y2⟩ := write_at s2 (s2.ne0 g2 rfl) gr S1.1 mu rfl ro
              exact q2 _ _ y2 y1 _ .non
            · exact q2.elim
          · exact q2.elim
      · exact q1.elim
    · exact q1.elim⟩⟩
theorem op2_sin {g : Bool → Bool} (hc : Here X cl) : Op2 X.K cl (dSIn2 g) (rSInT X g) := by
  intro r st H W x y v w Q hs hx hy hp
  unfold dSIn2 at hp
  split at hp
  · obtain ⟨ad, rfl, g1⟩ := hy.ref_inv
    split at hp
    · rename_i l gl
      cases ek : tupI x with
      | none => rw [ek] at hp; exact hp.elim
      | some k =>
        rw [ek] at hp
        obtain ⟨L, S1, S2, S3⟩ := set_at_ hc hs gl g1
        obtain ⟨t, rfl, ht⟩ := tupI_of ek hx
        have e : decide (k ∈ L.map (·.2)) = decide (k ∈ l) := by rw [Bool.eq_iff_iff, decide_eq_true_iff, decide_eq_true_iff]; exact S2 k
        exact ⟨ad, t, k, L, rfl, rfl, S1, ht, by rw [e]; exact hp r H .refl hs _ .bl⟩
    · exact hp.elim
  · exact hp.elim
end
end Dn

/-! Dn, X: sorted(list, key=def), the def's keys being pairs of ints. -/
namespace Dn
open PySem PySem.Spec PyProof.Rows L2
open PySem.W (EachIs each_snoc dataKind SortsAt Sortable AllAlike KeyedOut keyedOut_each dataLe dataLe_ii sorted_of_sort copyHeap copyHeap_at copyHeap_old sortingHeap_old keyH_end KeepsBut sortVals hideAll of_hideAll hideAll_none)
section
variable {X : Cx} {pins : List (Addr × Obj)} {σ : L2.St} {H H' : Hp} {s : Shared} {h' : Heap}
/-- k is no cell, no frame, not pinned -/
structure Apart (X : Cx) (pins : List (Addr × Obj)) (k : Addr) : Prop where
  young : X.s_0.heap.objs.size ≤ k
  loc : k ≠ X.env.locals
  cell : ∀ x c, X.env.cells.lookup x = some c → c ≠ k
  pin : ∀ p ∈ X.pn ++ pins, p.1 ≠ k
theorem apart_of (I : Inv X pins σ H s) {k : Addr} (hk : s.heap.objs.size ≤ k) : Apart X pins k where
  young := Nat.le_trans I.sz hk
  loc := fun e => absurd (e ▸ I.lt) (Nat.not_lt.mpr hk)
  cell := fun x c e z => by
    obtain ⟨v, o, ho, _⟩ := I.cell x c e
    have := Heap.lt_size ho
    rw [z] at this
    exact absurd this (Nat.not_lt.mpr hk)
  pin := fun p hp z => by
    have := Heap.lt_size (I.pin p hp).1
    rw [z] at this
    exact absurd this (Nat.not_lt.mpr hk)
theorem Apart.nofs (a : Apart X pins k) (I : Inv X pins σ H s) : k ∉ X.fs := fun hb => by
  obtain ⟨_, o, ho, _⟩ := I.ok.funs.mem hb
  exact absurd (Nat.lt_of_lt_of_le (Heap.lt_size ho) a.young) (Nat.lt_irrefl _)
/-- a pinned object is put in place of another -/
theorem pin_turn {k : Addr} {o o' : Obj} {t' : Nat} (I : Inv X ((k, o) :: pins) σ H s) (a : Apart X pins k) (hk : ∀ b u, b ≠ k → s.heap.get? b = some u → h'.get? b = some u) (hn : h'.get? k = some o') (hc : ∀ v, o'.data ≠ .cell v) :
    Inv X ((k, o') :: pins) σ H { s with heap := h', toks := t' } := by
  have p0 := I.pin (k, o) (List.mem_append_right _ List.mem_cons_self)
  have I0 : Inv X pins σ H s := I.pins_of fun p hp => I.pin p (List.mem_append_right _ (List.mem_cons_of_mem _ hp))
  have I1 : Inv X pins σ H { s with heap := h', toks := t' } := I0.turned hk p0.2.1 a.loc (.inr a.young) a.cell a.pin
  refine I1.pins_of fun p hp => ?_
  rcases List.mem_cons.mp hp with rfl | hp
  · exact ⟨hn, p0.2.1, a.loc, a.nofs I0, hc⟩
  · exact I1.pin p (List.mem_append_right _ hp)
/-- two untracked objects of ours have changed, the one is tracked from now on -/
theorem end_turn {a k : Addr} {u : HO} {t' : Nat} (I : Inv X pins σ H s) (ha : Apart X pins a) (hk : Apart X pins k) (na : H a = none) (nk : H k = none) (keep : ∀ b o, b ≠ a → b ≠ k → s.heap.get? b = some o → h'.get? b = some o)
    (new : ObjOk X.prog X.w (upd H a u) h' a u) : Inv X pins σ (upd H a u) { s with heap := h', toks := t' } := by
  have ne : ∀ b o, H b = some o → b ≠ a ∧ b ≠ k := fun b o e => ⟨ne_of_none e na, ne_of_none e nk⟩
  have up : ∀ b o, H b = some o → upd H a u b = some o := fun b o e => by rw [upd_ne (ne b o e).1]; exact e
  refine I.step (g' := s.gens) (d' := s.drawn) (ch := [a, k]) (fun b hb => ?_) (fun b o _ _ hc e _ => keep b o (fun z => hc (by simp [z])) (fun z => hc (by simp [z])) e) (fun b o _ _ hc e _ => ⟨o.slots, keep b o (fun z => hc (by simp [z])) (fun z => hc (by simp [z])) e⟩)
    (fun b o hc _ n => by rw [upd_ne (fun z => hc (by simp [z]))]; exact n) (fun b o hc e => ⟨o, keep b o (fun z => hc (by simp [z])) (fun z => hc (by simp [z])) e⟩) (fun b xs e => up b _ e) (fun b o v e => up b _ e) (fun b ps e => ⟨#[], by rw [up b _ e]; simp⟩) (fun m hm => ?_) (fun b o e => ?_) I.bare
  · rcases List.mem_cons.mp hb with rfl | hb
    · exact ⟨.inr ha.young, ha.loc, ha.cell, ha.pin⟩
    · rw [List.mem_singleton.mp hb]
      exact ⟨.inr hk.young, hk.loc, hk.cell, hk.pin⟩
  · obtain ⟨o, es, ep, ho, r⟩ := hm
    exact ⟨o, es, ep, keep _ o (Ne.symm ha.loc) (Ne.symm hk.loc) ho, r⟩
  · by_cases hb : b = a
    · subst hb
      rw [upd_same] at e; cases e
      exact new
    · rw [upd_ne hb] at e
      refine (I.hok b o e).stay (fun c v hc q => ?_) (fun c q => up c _ q) fun c xs q => up c _ q
      rcases hc with z | z
      · subst z; exact keep _ v hb (ne _ _ e).2 q
      · exact keep _ v (ne _ _ z).1 (ne _ _ z).2 q
end
/-! ### the rule -/
/-- what the key of each item is: g i the keys, P what stands behind the calls -/
def rSortK (X : Cx) (cl : Clm) (f : Value) (F : List D → S → Out D) : List V → List V → Hp → VK → Prop := fun vs zs H Q => ∃ (a fa : Addr) (n : Nat) (r : Rho) (st : S) (l : List D) (ks : List (Int × Int)), vs = [V.ref a] ∧ zs = [V.ref fa] ∧ f = .ref fa ∧
  r n = some a ∧ RS X.K cl r st H ∧ st[n]? = some (.lst l) ∧ ks.length = l.length ∧ (∀ (i : Nat) (d : D) (k : Int × Int), l[i]? = some d → ks[i]? = some k → F [d] st = .ok (.tup [.int k.1, .int k.2]) st) ∧
  ∀ (H' : Hp) (r' : Rho) (p : Addr) (ys : List V) (is : List Nat), Xt X.K r H r' H' → RS X.K cl r' st H' → H' p = none → is = (List.range l.length).mergeSort (fun i j => decide ((ks.getD i (0, 0)).1 < (ks.getD j (0, 0)).1 ∨ ((ks.getD i (0, 0)).1 = (ks.getD j (0, 0)).1 ∧ (ks.getD i (0, 0)).2 ≤ (ks.getD j (0, 0)).2))) →
    RDs X.K H' r' (is.map fun i => l.getD i .non) ys → Q (.ref p) (upd H' p (.lst ys))
theorem cx_false {P : Program} {w : World} {outer : List Env} {H : Hp} {s s' : Shared} {e : Value} (h : L2.CX P w outer H s (fun _ _ _ => False) e s') : False := by
  obtain ⟨_, _, _, _, _, _, _, _, _, _, _, _, z⟩ := h
  exact z
theorem range_at {n i : Nat} (h : i < n) : (List.range n)[i]? = some i := List.getElem?_range h
theorem each_range {α : Type} {R : α → Nat → Prop} : ∀ {vs : List α} {m : Nat}, (∀ i v, vs[i]? = some v → R v (m + i)) → EachIs R vs ((List.range vs.length).map (m + ·))
  | [], _, _ => .nil
  | v :: vs, m, h => by
    rw [List.length_cons, List.range_succ_eq_map, List.map_cons, List.map_map]
    refine .cons (h 0 v rfl) ?_
    have := each_range (vs := vs) (m := m + 1) fun i w e => by
      have := h (i + 1) w (by simpa using e)
      rwa [show m + (i + 1) = m + 1 + i by omega] at this
    have e : ((fun x => m + x) ∘ Nat.succ) = fun x => m + 1 + x := by funext x; simp; omega
    rw [e]; exact this
theorem each_range0 {α : Type} {R : α → Nat → Prop} {vs : List α} (h : ∀ i v, vs[i]? = some v → R v i) : EachIs R vs (List.range vs.length) := by
  have := each_range (m := 0) (R := R) (vs := vs) fun i v e => by rw [Nat.zero_add]; exact h i v e
  have e : (List.range vs.length).map (fun x => 0 + x) = List.range vs.length := by simp
  rwa [e] at this
theorem each_get {α β : Type} {R : α → β → Prop} : ∀ {as : List α} {bs : List β}, EachIs R as bs → Paired R as bs
  | _, _, .nil => .nil
  | _, _, .cons h t => .cons h (each_get t)
section
variable {X : Cx} {cl : Clm} {fa : Addr} {fd : FuncData} {ps : List Str} {k : Nat} {F : List D → S → Out D}
/-- one key -/
theorem key_call (hF : FnOk X.prog X.w X.K X.mg X.base (L2.CX X.prog X.w) k fa fd ps (spD X.K cl 1 F)) (hr : Room k X.A.in1.in1) (hb : Binds X.K fd ps []) {pins : List (Addr × Obj)} {σ : L2.St} {H : Hp} {s : Shared} (I : Inv X pins σ H s)
    {r : Rho} {st : S} {d : D} {v : V} {u : Value} {i j : Int} (hs : RS X.K cl r st H) (rd : RD X.K H r d v) (ru : RelV v u) (hk : F [d] st = .ok (.tup [.int i, .int j]) st)
    {Q : Value → Shared → Prop} (q : ∀ (t : Addr) H' r' s', Inv X pins σ H' s' → Xt X.K r H r' H' → RS X.K cl r' st H' → SqT X.K H' t [.int i, .int j] → Q (.ref t) s') :
    wpAny (model X.prog X.w) X.A.in1.in1 (call (.ref fa) [u]) Q (fun _ _ => False) s := by
  have h : spD X.K cl 1 F [v] H (fun w H' => ∃ r', Xt X.K r H r' H' ∧ RS X.K cl r' st H' ∧ RD X.K H' r' (.tup [.int i, .int j]) w) (fun _ _ _ => False) := by
    refine ⟨rfl, r, st, [d], hs, .cons rd .nil, ?_⟩
    rw [hk]
    exact fun r' H' x s' w q => ⟨r', x, s', q⟩
  have hl : ([u] : List Value).length = ps.length := hF.len _ _ _ _ h
  have b := hb s [u] I.kIn (by rw [List.append_nil]; exact hl)
  rw [List.append_nil] at b
  have e0 : Env0 X.prog X.w X.K X.mg X.base X.A.in1.in1 X.stack s H := I.env0.in1.in1
  refine wpAny_call (codeAny_mono (hF.run X.A.in1.in1 X.stack s H ⟨[u], []⟩ [u] [v] _ _ hr e0 b (.cons ru .nil) h) fun r s' hq => ?_)
  cases r with
  | error e => exact cx_false hq
  | ok fl =>
    cases fl with
    | ret w =>
      obtain ⟨x, H', I', rx, r', xt, rs, rd'⟩ := I.after hq
      obtain ⟨t, zs, rfl, sq, rz⟩ := rd'.tup_inv
      obtain ⟨z1, w1, rfl, y1, rz⟩ := rz.cons_inv
      obtain ⟨z2, w2, rfl, y2, rz⟩ := rz.cons_inv
      obtain rfl := rz.nil_inv
      obtain rfl := y1.int_inv
      obtain rfl := y2.int_inv
      cases rx
      exact q t H' r' s' I' xt rs sq
    | next => exact False.elim hq
    | brk => exact False.elim hq
    | cont => exact False.elim hq
theorem vals_get : ∀ {xs : List V} {us : List Value} {j : Nat} {u : Value}, Vals xs us → us[j]? = some u → ∃ v, xs[j]? = some v ∧ RelV v u
  | _, _, _, _, .nil, h => by simp at h
  | _, _, 0, _, .cons r t, h => by simp at h; subst h; exact ⟨_, rfl, r⟩
  | _, _, j + 1, _, .cons r t, h => by
    obtain ⟨v, e, q⟩ := vals_get (j := j) t (by simpa using h)
    exact ⟨v, by simpa using e, q⟩
theorem each_map {α β γ : Type} {R : α → γ → Prop} {f : β → γ} : ∀ {as : List α} {bs : List β}, EachIs (fun a b => R a (f b)) as bs → EachIs R as (bs.map f)
  | _, _, .nil => .nil
  | _, _, .cons h t => .cons h (each_map t)
theorem each_vals {α : Type} {R : Value → α → Prop} {g : α → V} : ∀ {us : List Value} {is : List α}, EachIs R us is → (∀ u i, R u i → RelV (g i) u) → Vals (is.map g) us
  | _, _, .nil, _ => .nil
  | _, _, .cons h t, q => .cons (q _ _ h) (each_vals t q)
theorem rds_map {α : Type} {K : Frag} {H : Hp} {r : Rho} {f : α → D} {g : α → V} : ∀ {is : List α}, (∀ i ∈ is, RD K H r (f i) (g i)) → RDs K H r (is.map f) (is.map g)
  | [], _ => .nil
  | i :: is, h => .cons (h i List.mem_cons_self) (rds_map fun j hj => h j (List.mem_cons_of_mem _ hj))
/-- the state of the loop over the items: j keys made -/
def KJ (X : Cx) (cl : Clm) (pins : List (Addr × Obj)) (σ : L2.St) (H : Hp) (r : Rho) (st : S) (ks : List (Int × Int)) (a' kS : Addr) (e1 : Nat) (j : Nat) (s : Shared) : Prop :=
  ∃ (H' : Hp) (r' : Rho) (kA : Array Value) (ep : Nat), Inv X ((kS, seqObj "list" kA ep) :: (a', seqObj "list" #[] e1) :: pins) σ H' s ∧ Xt X.K r H r' H' ∧ RS X.K cl r' st H' ∧ kA.size = j ∧
    ∀ i v, kA.toList[i]? = some v → ∃ t, v = .ref t ∧ SqT X.K H' t [.int (ks.getD i (0, 0)).1, .int (ks.getD i (0, 0)).2]
theorem getD_at {α : Type} {l : List α} {i : Nat} {x d : α} (h : l[i]? = some x) : l.getD i d = x := by rw [List.getD_eq_getElem?_getD, h]; rfl
theorem cr_sortK (hF : FnOk X.prog X.w X.K X.mg X.base (L2.CX X.prog X.w) k fa fd ps (spD X.K cl 1 F)) (hr : Room k X.A.in1.in1) (hb : Binds X.K fd ps []) : CallRK X (.builtin "sorted") [Str.ofString "key"] (rSortK X cl (.ref fa) F) := by
  intro pins s σ H vs zs us ws Q I rv rz h
  obtain ⟨a, fa', n, r, st, l, ks, rfl, rfl, ef, hn, hs, hl, lk, hk, q⟩ := h
  cases ef
  obtain rfl := Vals.ref1 rv
  obtain rfl := Vals.ref1 rz
  obtain ⟨xs, hx, hxs⟩ := lst_at hs hl hn
  obtain ⟨its, rv2, hil, hz⟩ := I.list (.inl (.inl hx))
  have lx : l.length = xs.length := hxs.length
  have li : xs.length = its.length := rv2.length
  have room := hr.un
  refine sorted_of_sort hil.isList (by omega) (PyProof.Rows.ksk_s1 _ _) (fun _ => PyProof.Rows.ksk_l1 _ _) fun E' => ?_
  show wpAny _ _ (Builtin.«list.sort» ⟨[.ref (s.heap.objs.size + 1)], [(Str.ofString "key", .ref fa)]⟩) _ _ _
  rw [PyProof.Rows.ksk_t1]
  -- the copy, the two stores
  have ho := copyHeap_at s.heap its
  have hold : ∀ b o, s.heap.get? b = some o → (copyHeap s.heap its).get? b = some o := fun b o e => copyHeap_old e
  have hlt := Heap.lt_size ho
  obtain ⟨e1, ho1⟩ : ∃ e1, ((copyHeap s.heap its).update (s.heap.objs.size + 1) (Obj.mapSeq fun _ => (#[] : Array Value))).get? (s.heap.objs.size + 1) = some (seqObj "list" #[] e1) := ⟨_, get?_update_seq ho fun _ => #[]⟩
  have hkS : (((copyHeap s.heap its).update (s.heap.objs.size + 1) (Obj.mapSeq fun _ => (#[] : Array Value))).push (seqObj "tuple" its.toArray 0)).objs.size = (copyHeap s.heap its).objs.size + 1 := by rw [size_push', Heap.size_update]
  have kold : ∀ b o, s.heap.get? b = some o → ((((copyHeap s.heap its).update (s.heap.objs.size + 1) (Obj.mapSeq fun _ => (#[] : Array Value))).push (seqObj "tuple" its.toArray 0)).push (seqObj "list" #[] 0)).get? b = some o := fun b o e =>
    Heap.get?_push_of_some _ (Heap.get?_push_of_some _ ((Heap.get?_update_ne _ _ _ _ (Nat.ne_of_lt (Nat.lt_succ_of_lt (Heap.lt_size e)))).trans (hold b o e)))
  have ka : ((((copyHeap s.heap its).update (s.heap.objs.size + 1) (Obj.mapSeq fun _ => (#[] : Array Value))).push (seqObj "tuple" its.toArray 0)).push (seqObj "list" #[] 0)).get? (s.heap.objs.size + 1) = some (seqObj "list" #[] e1) :=
    Heap.get?_push_of_some _ (Heap.get?_push_of_some _ ho1)
  have kk : ((((copyHeap s.heap its).update (s.heap.objs.size + 1) (Obj.mapSeq fun _ => (#[] : Array Value))).push (seqObj "tuple" its.toArray 0)).push (seqObj "list" #[] 0)).get? (((copyHeap s.heap its).update (s.heap.objs.size + 1) (Obj.mapSeq fun _ => (#[] : Array Value))).push (seqObj "tuple" its.toArray 0)).objs.size = some (seqObj "list" #[] 0) := Heap.get?_push_size _ rfl
  unfold ksk_tree
  refine wpAny_bind (listItems_at ho rfl ?_)
  refine wpAny_bind (listUpdate_at ho rfl ?_ (by rw [List.size_toArray]; omega) (Nat.zero_le _))
  refine wpAny_bind (seqEpoch_at ho1 rfl ?_)
  refine wpAny_bind (wpAny_newTuple ?_ (by show its.length ≤ _; omega))
  refine wpAny_bind (wpAny_newList ?_ (Nat.zero_le _))
  refine wpAny_holding ?_
  have fA : Apart X pins (s.heap.objs.size + 1) := apart_of I (Nat.le_succ _)
  have fK : Apart X pins (((copyHeap s.heap its).update (s.heap.objs.size + 1) (Obj.mapSeq fun _ => (#[] : Array Value))).push (seqObj "tuple" its.toArray 0)).objs.size := apart_of I (by rw [hkS]; exact Nat.le_trans (Nat.le_succ _) (Nat.le_trans (Nat.le_of_lt hlt) (Nat.le_succ _)))
  have geK : s.heap.objs.size ≤ (((copyHeap s.heap its).update (s.heap.objs.size + 1) (Obj.mapSeq fun _ => (#[] : Array Value))).push (seqObj "tuple" its.toArray 0)).objs.size := by rw [hkS]; exact Nat.le_trans (Nat.le_succ _) (Nat.le_trans (Nat.le_of_lt hlt) (Nat.le_succ _))
  have nKA : (((copyHeap s.heap its).update (s.heap.objs.size + 1) (Obj.mapSeq fun _ => (#[] : Array Value))).push (seqObj "tuple" its.toArray 0)).objs.size ≠ s.heap.objs.size + 1 := by rw [hkS]; exact Nat.ne_of_gt (Nat.lt_succ_of_lt hlt)
  generalize (((copyHeap s.heap its).update (s.heap.objs.size + 1) (Obj.mapSeq fun _ => (#[] : Array Value))).push (seqObj "tuple" its.toArray 0)).objs.size = kS at kk fK nKA geK ⊢
  change wpAny _ _ _ _ _ { s with heap := ((((copyHeap s.heap its).update (s.heap.objs.size + 1) (Obj.mapSeq fun _ => (#[] : Array Value))).push (seqObj "tuple" its.toArray 0)).push (seqObj "list" #[] 0)) }
  generalize ((((copyHeap s.heap its).update (s.heap.objs.size + 1) (Obj.mapSeq fun _ => (#[] : Array Value))).push (seqObj "tuple" its.toArray 0)).push (seqObj "list" #[] 0)) = h1 at kold ka kk ⊢
  have nA : H (s.heap.objs.size + 1) = none := I.hok.fresh (Nat.le_succ _)
  have nc : ∀ (xs : Array Value) (n : Nat) v, (seqObj "list" xs n).data ≠ .cell v := fun xs n v z => by cases z
  have I1 : Inv X ((kS, seqObj "list" #[] 0) :: (s.heap.objs.size + 1, seqObj "list" #[] e1) :: pins) σ H { s with heap := h1 } := by
    have I0 : Inv X pins σ H { s with heap := h1 } := I.kept (t' := s.toks) kold
    have nK : H kS = none := I.hok.fresh geK
    refine I0.pins_of fun p hp => ?_
    rcases List.mem_cons.mp hp with rfl | hp
    · exact ⟨kk, nK, fK.loc, fK.nofs I, nc _ _⟩
    · rcases List.mem_cons.mp hp with rfl | hp
      · exact ⟨ka, nA, fA.loc, fA.nofs I, nc _ _⟩
      · exact I0.pin p (List.mem_append_right _ hp)
  have fK2 : Apart X ((s.heap.objs.size + 1, seqObj "list" #[] e1) :: pins) kS := ⟨fK.young, fK.loc, fK.cell, fun p hp => by
    rcases List.mem_append.mp hp with z | z
    · exact fK.pin p (List.mem_append_left _ z)
    · rcases List.mem_cons.mp z with rfl | z
      · exact Ne.symm nKA
      · exact fK.pin p (List.mem_append_right _ z)⟩
  unfold ksk_rest
  refine wpAny_bind (wpAny_rule ?_)
  first
    | rw [List.forIn_toArray]
    | (rw [← Array.forIn_toList]; simp only [List.toList_toArray])
  refine wpAny_bind (ksk_fold (fun j s' => KJ X cl pins σ H r st ks (s.heap.objs.size + 1) kS e1 j s') its 0 { s with heap := h1 } ⟨H, r, #[], 0, I1, .refl, hs, rfl, fun i v e => by simp at e⟩ ?step ?done)
  case step =>
    rintro j x s' hx ⟨H', r', kA, ep, I', xt, rs, sz, hkeys⟩
    simp only [Nat.zero_add] at sz hkeys ⊢
    have hj : j < its.length := (List.getElem?_eq_some_iff.mp hx).1
    obtain ⟨v, hv, ru⟩ := vals_get rv2 hx
    obtain ⟨d, hd, rd⟩ := hxs.get' hv
    have hkj := List.getElem?_eq_getElem (l := ks) (i := j) (by omega)
    generalize ks[j]'(by omega) = kj at hkj
    have hkey := hk j d kj hd hkj
    refine wpAny_bind (wpAny_attempt (wpAny_mono (key_call hF hr hb I' rs (rd.mono xt.mn) ru hkey (Q := fun u s'' => ∃ (t : Addr) (H'' : Hp) (r'' : Rho), u = .ref t ∧ Inv X ((kS, seqObj "list" kA ep) :: (s.heap.objs.size + 1, seqObj "list" #[] e1) :: pins) σ H'' s'' ∧ Xt X.K r' H' r'' H'' ∧ RS X.K cl r'' st H'' ∧ SqT X.K H'' t [.int kj.1, .int kj.2])
      fun t H'' r'' s'' a b c e => ⟨t, H'', r'', rfl, a, b, c, e⟩) (fun u s'' hu => ?_) fun _ _ hF => hF.elim))
    obtain ⟨t, H'', r'', rfl, I2, xt2, rs2, sq⟩ := hu
    try dsimp only
    have nk2 := (I2.pin _ (List.mem_append_right _ List.mem_cons_self)).1
    have s1 := Heap.SameBut.update s''.heap kS (Obj.mapSeq (·.push (Value.ref t)))
    obtain ⟨c2, hc2⟩ : ∃ c2, (s''.heap.update kS (Obj.mapSeq (·.push (Value.ref t)))).get? kS = some (seqObj "list" (kA.push (Value.ref t)) c2) := ⟨_, get?_update_seq nk2 (·.push (Value.ref t))⟩
    have hz2 : kA.size ≤ sizeLine := by omega
    refine wpAny_bind (listUpdate_at nk2 rfl ?_ hz2 (Nat.le_trans (Nat.le_of_eq (Array.size_push ..)) (Nat.succ_le_succ hz2)))
    have I3 := pin_turn (t' := s''.toks) I2 fK2 (fun b u hb e => (s1.2 b hb).trans e) hc2 (nc _ _)
    refine wpAny_pure ⟨rfl, H'', r'', kA.push (Value.ref t), c2, I3, xt.trans xt2, rs2, by rw [Array.size_push, sz], fun i v e => ?_⟩
    have ea : (kA.push (Value.ref t)).toList = kA.toList ++ [Value.ref t] := by simp
    rw [ea] at e
    have lk' : kA.toList.length = j := by rw [Array.length_toList]; exact sz
    by_cases hi : i < j
    · rw [List.getElem?_append_left (by omega)] at e
      obtain ⟨t', rfl, q'⟩ := hkeys i v e
      exact ⟨t', rfl, xt2.sqt _ _ q'⟩
    · have hi2 := (List.getElem?_eq_some_iff.mp e).1
      rw [List.length_append, List.length_singleton] at hi2
      have : i = j := by omega
      subst this
      rw [List.getElem?_append_right (by omega), lk', Nat.sub_self] at e
      cases e
      rw [getD_at hkj]
      exact ⟨t, rfl, sq⟩
  case done =>
    rintro s' ⟨H', r', kA, ep, I', xt, rs, sz, hkeys⟩
    rw [Nat.zero_add] at sz
    have pk := I'.pin _ (List.mem_append_right _ List.mem_cons_self)
    have pa := I'.pin _ (List.mem_append_right _ (List.mem_cons_of_mem _ List.mem_cons_self))
    have I0 : Inv X pins σ H' s' := I'.pins_of fun p hp => I'.pin p (List.mem_append_right _ (List.mem_cons_of_mem _ (List.mem_cons_of_mem _ hp)))
    refine wpAny_bind (listItems_at pk.1 rfl ?_)
    -- the keys as data
    have lkA : kA.toList.length = its.length := by rw [Array.length_toList]; exact sz
    have heach : EachIs (fun v d => ∃ as, Reads s'.heap v d as) kA.toList ((List.range its.length).map fun i => PyData.tuple [.int (ks.getD i (0, 0)).1, .int (ks.getD i (0, 0)).2]) := by
      refine each_map ?_
      rw [← lkA]
      refine each_range0 fun i v e => ?_
      obtain ⟨t, rfl, sq⟩ := hkeys i v e
      exact Dp.reads I0 _ (V.ref t) _ (.tup sq (.cons (.int _) (.cons (.int _) .nil))) rfl
    have hal : AllAlike ((List.range its.length).map fun i => PyData.tuple [.int (ks.getD i (0, 0)).1, .int (ks.getD i (0, 0)).2]) := AllAlike.of fun _ _ => by simp [PySem.W.alike, PySem.W.alikeAll]
    have hh : ∀ b o, (hideAll s'.heap [kS]).get? b = some o → s'.heap.get? b = some o := fun b o e => of_hideAll [kS] e
    refine keyH_end (κ := dataKind s'.heap ((List.range its.length).map fun i => PyData.tuple [.int (ks.getD i (0, 0)).1, .int (ks.getD i (0, 0)).2])) (h₁ := hideAll s'.heap [kS]) (fun b o _ e => hh b o e) (hideAll_none [kS] (by simp)) pk.1 pa.1 nKA (SortsAt.data heach hal (Sortable.tuples fun _ => ⟨_, _, rfl⟩) ?_) sz (by omega) fun h2 tk c kp ha2 => ⟨rfl, ?_⟩
    · intro d hd
      obtain ⟨i, _, rfl⟩ := List.mem_map.mp hd
      have e : (PyData.tuple [.int (ks.getD i (0, 0)).1, .int (ks.getD i (0, 0)).2]).depth = 1 := by simp [PyData.depth, PyData.depthAll]
      rw [e]; omega
    · have ko : KeyedOut false ((List.range its.length).map fun i => PyData.tuple [.int (ks.getD i (0, 0)).1, .int (ks.getD i (0, 0)).2]) its (sortVals (dataKind s'.heap ((List.range its.length).map fun i => PyData.tuple [.int (ks.getD i (0, 0)).1, .int (ks.getD i (0, 0)).2])) false kA.toList its) := ⟨s'.heap, kA.toList, hal, rfl, heach⟩
      have eo := keyedOut_each (R := fun v i => its[i]? = some v) (fun i => PyData.tuple [.int (ks.getD i (0, 0)).1, .int (ks.getD i (0, 0)).2]) ko (each_range0 fun i v e => e)
      rw [dataLe_ii (β := Nat) (fun i => (ks.getD i (0, 0)).1) (fun i => (ks.getD i (0, 0)).2)] at eo
      generalize sortVals (dataKind s'.heap ((List.range its.length).map fun i => PyData.tuple [.int (ks.getD i (0, 0)).1, .int (ks.getD i (0, 0)).2])) false kA.toList its = out at eo ha2
      have eis : (List.range its.length).mergeSort (fun i j => decide ((ks.getD i (0, 0)).1 < (ks.getD j (0, 0)).1 ∨ ((ks.getD i (0, 0)).1 = (ks.getD j (0, 0)).1 ∧ (ks.getD i (0, 0)).2 ≤ (ks.getD j (0, 0)).2))) = (List.range l.length).mergeSort (fun i j => decide ((ks.getD i (0, 0)).1 < (ks.getD j (0, 0)).1 ∨ ((ks.getD i (0, 0)).1 = (ks.getD j (0, 0)).1 ∧ (ks.getD i (0, 0)).2 ≤ (ks.getD j (0, 0)).2))) := by rw [show its.length = l.length by omega]
      have mem : ∀ i ∈ (List.range its.length).mergeSort (fun i j => decide ((ks.getD i (0, 0)).1 < (ks.getD j (0, 0)).1 ∨ ((ks.getD i (0, 0)).1 = (ks.getD j (0, 0)).1 ∧ (ks.getD i (0, 0)).2 ≤ (ks.getD j (0, 0)).2))), i < its.length := fun i hi => List.mem_range.mp ((List.mergeSort_perm _ _).mem_iff.mp hi)
      have lis : ((List.range its.length).mergeSort (fun i j => decide ((ks.getD i (0, 0)).1 < (ks.getD j (0, 0)).1 ∨ ((ks.getD i (0, 0)).1 = (ks.getD j (0, 0)).1 ∧ (ks.getD i (0, 0)).2 ≤ (ks.getD j (0, 0)).2)))).length = its.length := by rw [List.length_mergeSort, List.length_range]
      generalize (List.range its.length).mergeSort (fun i j => decide ((ks.getD i (0, 0)).1 < (ks.getD j (0, 0)).1 ∨ ((ks.getD i (0, 0)).1 = (ks.getD j (0, 0)).1 ∧ (ks.getD i (0, 0)).2 ≤ (ks.getD j (0, 0)).2))) = is at eo eis mem lis
      have hvals : Vals (is.map fun i => xs.getD i .non) out := each_vals eo fun u i e => by
        obtain ⟨v, hv, rv⟩ := vals_get rv2 e
        rw [getD_at hv]; exact rv
      refine ⟨.ref (s.heap.objs.size + 1), upd H' (s.heap.objs.size + 1) (.lst (is.map fun i => xs.getD i .non)), ?_, rfl, q H' r' _ _ is xt rs pa.2.1 eis ?_⟩
      · refine end_turn (t' := tk) I0 fA fK pa.2.1 pk.2.1 (fun b o hb hb2 e => kp b o hb (PySem.W.hideAll_get [kS] e (by simpa using hb2))) ⟨by rw [List.length_map, lis]; omega, out, c, hvals, ha2⟩
      · refine rds_map fun i hi => ?_
        have hil2 := mem i hi
        have h1 := List.getElem?_eq_getElem (l := l) (i := i) (by omega)
        obtain ⟨v, hv, rd⟩ := hxs.get h1
        rw [getD_at h1, getD_at hv]
        exact rd.mono xt.mn
end
end Dn

/-! Dn, Y: the combinator for sorted(list, key=def). -/
namespace Dn
open PySem PySem.Spec PyProof.Rows L2
open Classical in
/-- the key of an item: what the def says of it, where it leaves the store -/
noncomputable def keyOf (F : List D → S → Out D) (st : S) (d : D) : Option (Int × Int) := if h : ∃ k : Int × Int, F [d] st = .ok (.tup [.int k.1, .int k.2]) st then some h.choose else none
theorem keyOf_some {F : List D → S → Out D} {st : S} {d : D} {k : Int × Int} (h : keyOf F st d = some k) : F [d] st = .ok (.tup [.int k.1, .int k.2]) st := by
  unfold keyOf at h
  split at h
  · rename_i q
    have := q.choose_spec
    rw [Option.some.inj h] at this
    exact this
  · cases h
theorem keyOf_of {F : List D → S → Out D} {st : S} {d : D} {k : Int × Int} (h : F [d] st = .ok (.tup [.int k.1, .int k.2]) st) : keyOf F st d = some k := by
  unfold keyOf
  have q : ∃ k : Int × Int, F [d] st = .ok (.tup [.int k.1, .int k.2]) st := ⟨k, h⟩
  rw [dif_pos q]
  have e := h.symm.trans q.choose_spec
  injection e with e1
  injection e1 with e1
  injection e1 with a b
  injection b with b
  injection a with a
  injection b with b
  rw [Prod.ext a b]
def ordK (ks : List (Int × Int)) (i j : Nat) : Bool := decide ((ks.getD i (0, 0)).1 < (ks.getD j (0, 0)).1 ∨ ((ks.getD i (0, 0)).1 = (ks.getD j (0, 0)).1 ∧ (ks.getD i (0, 0)).2 ≤ (ks.getD j (0, 0)).2))
def sortBy (l : List D) (ks : List (Int × Int)) : List D := ((List.range l.length).mergeSort (ordK ks)).map fun i => l.getD i .non
noncomputable def dSortK (F : List D → S → Out D) (m : AM) : EM := fun en st => (m en st).bind fun ds st1 => match ds with
  | [.ref n] => match st1[n]? with
    | some (.lst l) => match mapO (keyOf F st1) l with
      | some ks => .ok (.ref st1.length) (st1 ++ [.lst (sortBy l ks)])
      | none => .bad
    | _ => .bad
  | _ => .bad
theorem mapO_cons {α β : Type} {f : α → Option β} {d : α} {l : List α} {ks : List β} (h : mapO f (d :: l) = some ks) : ∃ k ks', f d = some k ∧ mapO f l = some ks' ∧ ks = k :: ks' := by
  simp only [mapO] at h
  cases e1 : f d with
  | none => simp only [e1] at h; cases h
  | some k =>
    cases e2 : mapO f l with
    | none => simp only [e1, e2] at h; cases h
    | some ks' => simp only [e1, e2] at h; exact ⟨k, ks', rfl, rfl, (Option.some.inj h).symm⟩
theorem mapO_len {α β : Type} {f : α → Option β} : ∀ {l : List α} {ks : List β}, mapO f l = some ks → ks.length = l.length
  | [], ks, h => by simp only [mapO, Option.some.injEq] at h; subst h; rfl
  | d :: l, ks, h => by
    obtain ⟨k, ks', _, e2, rfl⟩ := mapO_cons h
    rw [List.length_cons, List.length_cons, mapO_len e2]
theorem mapO_at {α β : Type} {f : α → Option β} : ∀ {l : List α} {ks : List β} {i : Nat} {d : α} {k : β}, mapO f l = some ks → l[i]? = some d → ks[i]? = some k → f d = some k
  | [], _, _, _, _, _, h, _ => by simp at h
  | x :: l, ks, i, d, k, h, hd, hk => by
    obtain ⟨k', ks', e1, e2, rfl⟩ := mapO_cons h
    cases i with
    | zero => simp at hd hk; subst hd hk; exact e1
    | succ i => exact mapO_at (i := i) e2 (by simpa using hd) (by simpa using hk)
theorem mapO_map {α β : Type} {f : α → Option β} {g : α → β} : ∀ {l : List α}, (∀ d ∈ l, f d = some (g d)) → mapO f l = some (l.map g)
  | [], _ => rfl
  | d :: l, h => by
    have h1 := h d List.mem_cons_self
    have h2 := mapO_map (l := l) fun x hx => h x (List.mem_cons_of_mem _ hx)
    simp only [mapO, h1, h2, List.map_cons]
theorem room_in2 {k : Nat} {A : Around} (r : Room (k + 1) A) : Room k A.in1.in1 := ⟨r.hd, by have := r.dp; show A.depth + 3 * k + 5 < _; omega, by have := r.un; show A.units + 1 + 1 + 16 * k + 200 < _; omega⟩
theorem se_sortK {X : Cx} {cl : Clm} {W : WX} {e : Expr} {m : AM} {kf : Str} {k : Nat} {F : List D → S → Out D} {p q pos kpos : Pos} (hF : FnD X.prog X.w X.K X.mg X.base cl kf 1 k F) (hr : Room (k + 1) X.A) (hg : Gl X "sorted") (hm : X.mg "sorted" = none) (hgk : Gl X kf) (ha : SA X cl W [e] m)
    (hdk : (kf == ("__debug__" : Str)) = false := by decide)
    (he : backTo pos (starEach [e] X.env) = (false, eval e X.env) :: backTo pos (starEach [] X.env) := by rfl) (hpl : (backTo pos (starEach [e] X.env)).any (·.1) = false := by rfl)
    (hall : (backToKw pos (keywordEach [⟨some "key", .Name kf q, kpos⟩] X.env)).all (·.1.isSome) = true := by rfl) (hnone : (backToKw pos (keywordEach [⟨some "key", .Name kf q, kpos⟩] X.env)).any (·.1.isNone) = false := by rfl) (hks : (backToKw pos (keywordEach [⟨some "key", .Name kf q, kpos⟩] X.env)).filterMap (·.1) = [Str.ofString "key"] := by rfl) :
    SE X cl W (.Call (.Name "sorted" p) [e] [⟨some "key", .Name kf q, kpos⟩] pos) (dSortK F m) := by
  obtain ⟨fa, fd, ps, hmk, hk, hb, hF⟩ := hF
  have hc := cr_sortK hF (room_in2 hr) hb
  have hpk : PK X [⟨some "key", .Name kf q, kpos⟩] (tCons (tC (.ref fa)) tNil) := pk_cons (pe_glob hgk hmk rfl hdk) pk_nil
  refine ⟨pe_of (pe_callBK hc hg hm boot_sorted ha.pa hpk (he := he) (hpl := hpl) (hall := hall) (hnone := hnone) (hks := hks)) fun s H Q ⟨r, en, st, he, hs, hp⟩ => ⟨r, en, st, he, hs, (Po.bind hp).mono fun r1 H1 ds st1 x1 s1 h1 vs q => ?_⟩⟩
  show rSortK X cl (.ref fa) F vs [V.ref fa] H1 Q
  have hd : ∃ n, ds = [.ref n] := by
    cases ds with
    | nil => exact h1.elim
    | cons d ds =>
      cases ds with
      | nil =>
        cases d with
        | ref n => exact ⟨n, rfl⟩
        | _ => exact h1.elim
      | cons _ _ => cases d <;> exact h1.elim
  obtain ⟨n, rfl⟩ := hd
  obtain ⟨v, w, rfl, rv, rw'⟩ := q.cons_inv
  obtain rfl := rw'.nil_inv
  obtain ⟨a, rfl, hn⟩ := rv.ref_inv
  cases e1 : st1[n]? with
  | none => simp only [e1] at h1; exact h1.elim
  | some o =>
    cases o with
    | lst l =>
      simp only [e1] at h1
      cases e2 : mapO (keyOf F st1) l with
      | none => simp only [e2] at h1; exact h1.elim
      | some ks =>
        simp only [e2] at h1
        refine ⟨a, fa, n, r1, st1, l, ks, rfl, rfl, rfl, hn, s1, e1, mapO_len e2, fun i d kk hd hkk => keyOf_some (mapO_at e2 hd hkk), fun H' r' p ys is xt rs np eis rds => ?_⟩
        subst eis
        exact new_lst (W := W) (l := sortBy l ks) rs rds (Po.xt xt h1) p np
    | frz l => simp only [e1] at h1; exact h1.elim
    | ins c fs => simp only [e1] at h1; exact h1.elim
    | set l => simp only [e1] at h1; exact h1.elim
    | dT l => simp only [e1] at h1; exact h1.elim
    | dK l => simp only [e1] at h1; exact h1.elim
end Dn

/-! Dn, N: dicts; keys ints and texts, or tuples of ints. -/
namespace Dn
open PySem PySem.Spec PyProof.Rows L2

section
variable {κ α β : Type} [DecidableEq κ]
def getQ (l : List (κ × α)) (k : κ) : Option α := (l.find? fun p => decide (p.1 = k)).map (·.2)
def updQ (l : List (κ × α)) (k : κ) (f : α → α) (new : α) : List (κ × α) := if (getQ l k).isSome then l.map (fun p => if p.1 = k then (p.1, f p.2) else p) else l ++ [(k, new)]
abbrev putQ (l : List (κ × α)) (k : κ) (v : α) : List (κ × α) := updQ l k (fun _ => v) v
theorem getQ_nil {k : κ} : getQ ([] : List (κ × α)) k = none := rfl
theorem getQ_pos {p : κ × α} {r : List (κ × α)} {k : κ} (e : p.1 = k) : getQ (p :: r) k = some p.2 := by simp [getQ, List.find?_cons, e]
theorem getQ_neg {p : κ × α} {r : List (κ × α)} {k : κ} (e : ¬ p.1 = k) : getQ (p :: r) k = getQ r k := by simp [getQ, List.find?_cons, e]
theorem getQ_map (k j : κ) (f : α → α) : ∀ l : List (κ × α), getQ (l.map fun p => if p.1 = k then (p.1, f p.2) else p) j = (getQ l j).map fun x => if j = k then f x else x
  | [] => rfl
  | p :: r => by
    have ih := getQ_map k j f r
    rw [List.map_cons]
    by_cases h : p.1 = k
    · rw [if_pos h]
      by_cases e : p.1 = j
      · rw [getQ_pos (p := (p.1, f p.2)) e, getQ_pos e, Option.map_some, if_pos (e.symm.trans h)]
      · rw [getQ_neg (p := (p.1, f p.2)) e, getQ_neg e, ih]
    · rw [if_neg h]
      by_cases e : p.1 = j
      · rw [getQ_pos (p := p) e, getQ_pos e, Option.map_some, if_neg (fun z => h (e.trans z))]
      · rw [getQ_neg (p := p) e, getQ_neg e, ih]
theorem getQ_snoc (k j : κ) (y : α) : ∀ l : List (κ × α), getQ l k = none → getQ (l ++ [(k, y)]) j = if j = k then some y else getQ l j
  | [], _ => by
    by_cases e : k = j
    · rw [if_pos e.symm]; exact getQ_pos (p := (k, y)) e
    · rw [if_neg (fun z => e z.symm)]; exact getQ_neg (p := (k, y)) e
  | p :: r, hn => by
    rw [List.cons_append]
    have hk : ¬ p.1 = k := fun z => by rw [getQ_pos z] at hn; cases hn
    rw [getQ_neg hk] at hn
    have ih := getQ_snoc k j y r hn
    by_cases e : p.1 = j
    · rw [getQ_pos e, getQ_pos e, if_neg (fun z => hk (e.trans z))]
    · rw [getQ_neg e, getQ_neg e, ih]
theorem getQ_put (l : List (κ × α)) (k j : κ) (y : α) : getQ (putQ l k y) j = if j = k then some y else getQ l j := by
  unfold putQ updQ
  split
  · rename_i a
    rw [getQ_map k j (fun _ => y)]
    by_cases e : j = k
    · obtain ⟨x, hx⟩ := Option.isSome_iff_exists.mp a
      rw [if_pos e, e, hx, Option.map_some, if_pos rfl]
    · rw [if_neg e]
      cases getQ l j with
      | none => rfl
      | some x => rw [Option.map_some, if_neg e]
  · rename_i a
    refine getQ_snoc k j y l ?_
    cases q : getQ l k with
    | none => rfl
    | some x => rw [q] at a; exact (a rfl).elim
theorem len_updQ (l : List (κ × α)) (k : κ) (f : α → α) (v : α) : (updQ l k f v).length ≤ l.length + 1 := by
  unfold updQ
  split
  · rw [List.length_map]; omega
  · rw [List.length_append, List.length_cons, List.length_nil]; omega
theorem getQ_pr {R : κ → α → β → Prop} {k : κ} : ∀ {l : List (κ × α)} {m : List (κ × β)}, Paired (fun p q => p.1 = q.1 ∧ R q.1 p.2 q.2) l m →
    (∃ v u, getQ l k = some v ∧ getQ m k = some u ∧ R k v u) ∨ (getQ l k = none ∧ getQ m k = none)
  | _, _, .nil => .inr ⟨rfl, rfl⟩
  | _, _, .cons (a := p) (b := q) h t => by
    by_cases e : p.1 = k
    · have e' : q.1 = k := h.1.symm.trans e
      exact .inl ⟨p.2, q.2, getQ_pos e, getQ_pos e', by rw [← e']; exact h.2⟩
    · have e' : ¬ q.1 = k := fun z => e (h.1.trans z)
      rw [getQ_neg e, getQ_neg e']
      exact getQ_pr t
theorem getQ_iss {R : κ → α → β → Prop} {k : κ} {l : List (κ × α)} {m : List (κ × β)} (h : Paired (fun p q => p.1 = q.1 ∧ R q.1 p.2 q.2) l m) : (getQ l k).isSome = (getQ m k).isSome := by
  rcases getQ_pr (k := k) h with ⟨v, u, e1, e2, _⟩ | ⟨e1, e2⟩ <;> rw [e1, e2] <;> rfl
theorem upd_pr {R : κ → α → β → Prop} {k : κ} {l : List (κ × α)} {m : List (κ × β)} {f : α → α} {g : β → β} {x : α} {y : β} (h : Paired (fun p q => p.1 = q.1 ∧ R q.1 p.2 q.2) l m) (hf : ∀ a b, R k a b → R k (f a) (g b)) (hx : R k x y) :
    Paired (fun p q => p.1 = q.1 ∧ R q.1 p.2 q.2) (updQ l k f x) (updQ m k g y) := by
  unfold updQ
  rw [getQ_iss (k := k) h]
  split
  · rename_i hss
    clear hx hss
    induction h with
    | nil => exact .nil
    | @cons p q ps qs h t ih =>
      rw [List.map_cons, List.map_cons]
      refine .cons ?_ ih
      obtain ⟨h1, h2⟩ := h
      by_cases e : p.1 = k
      · have e' : q.1 = k := h1.symm.trans e
        rw [if_pos e, if_pos e']
        exact ⟨h1, by show R q.1 (f p.2) (g q.2); rw [e']; exact hf _ _ (by rw [← e']; exact h2)⟩
      · rw [if_neg e, if_neg (fun z => e (h1.trans z))]; exact ⟨h1, h2⟩
  · exact Paired.snoc h ⟨rfl, hx⟩
end
theorem atKey_getQ {κ : Type} [DecidableEq κ] (xs : List (κ × Addr × Value)) (k : κ) : atKey xs k = getQ xs k := rfl
theorem storedH_updQ {κ : Type} [DecidableEq κ] (xs : List (κ × Addr × Value)) (k : κ) (b : Addr) (u : Value) : storedH xs k b u = updQ xs k (fun p => (p.1, u)) (b, u) := rfl
theorem valV_getQ {κ : Type} [DecidableEq κ] (l : List (κ × V)) (k : κ) : valV l k = getQ l k := rfl
theorem putK_putQ {κ : Type} [DecidableEq κ] (l : List (κ × V)) (k : κ) (v : V) : putK l k v = putQ l k v := by
  unfold putK putQ updQ
  rw [valV_any, valV_getQ]

/-! ### a dict of tuples in the heap -/
abbrev RLx : List Int → Addr × V → Addr × Value → Prop := fun _ p q => p.1 = q.1 ∧ L2.RelV p.2 q.2
abbrev RDL (K : Frag) (H : Hp) (r : Rho) : List Int → D → Addr × V → Prop := fun kk a p => SqT K H p.1 (kk.map V.int) ∧ RD K H r a p.2
abbrev RKL (K : Frag) (H : Hp) (r : Rho) : Key → D → V → Prop := fun _ a p => RD K H r a p
abbrev KeysT (K : Frag) (H : Hp) (L : List (List Int × Addr × V)) : Prop := ∀ p ∈ L, SqT K H p.2.1 (p.1.map V.int)
section
variable {X : Cx} {pins : List (Addr × Obj)} {σ : L2.St} {H : Hp} {s : Shared} {a b : Addr} {L : List (List Int × Addr × V)} {k : List Int}
theorem dic_full (I : Inv X pins σ H s) (h : H a = some (DicTO X.prog X.w a L)) (hk : KeysT X.K H L) : L.length ≤ sizeLine ∧ (a == sysModules) = false ∧
    ∃ xs : List (List Int × Addr × Value), Paired (fun p q => p.1 = q.1 ∧ p.2.1 = q.2.1 ∧ RelV p.2.2 q.2.2) L xs ∧ s.heap.DictOfH (tupleKind (intKind X.prog X.w)) a xs := by
  obtain ⟨z, y, xs, r, o, es, ep, h1, h2, h3, h4, h5⟩ := (show DicT0 X.prog X.w s.heap a L from (I.hok a _ h).1)
  refine ⟨z, y, xs, r, o, es, ep, h1, h2, h3, h4, ?_, h5⟩
  clear h4 h5 h z
  induction r with
  | nil => intro x hx; exact nomatch hx
  | @cons p q ps qs hq t ih =>
    intro x hx
    rcases List.mem_cons.mp hx with e | hx
    · subst e
      rw [← hq.1, ← hq.2.1]
      exact I.isT (hk p (List.mem_cons_self ..))
    · exact ih (fun p' hp' => hk p' (List.mem_cons_of_mem _ hp')) x hx
theorem dicTO_new {P : Program} {w : World} {h : Heap} {xs : List (List Int × Addr × Value)} (hl : L.length ≤ sizeLine) (hd : (a == sysModules) = false) (r : Paired (fun p q => p.1 = q.1 ∧ p.2.1 = q.2.1 ∧ RelV p.2.2 q.2.2) L xs)
    (dd : h.DictOfH (tupleKind (intKind P w)) a xs) : ObjOk P w H h a (DicTO P w a L) := by
  obtain ⟨o, es, ep, h1, h2, h3, h4, _, h5⟩ := dd
  refine ⟨⟨hl, hd, xs, r, o, es, ep, h1, h2, h3, h4, h5⟩, ⟨o, h1⟩, fun g1 g2 p kk => ?_⟩
  obtain ⟨z, y, xs, r, o, es, ep, h1, h2, h3, h4, h5⟩ := (show DicT0 P w g1 a L from p)
  exact ⟨z, y, xs, r, o, es, ep, kk _ h1, h2, h3, h4, h5⟩
def rIxDT (X : Cx) : R2 := fun x y H Q => ∃ a b L k p, x = .ref a ∧ y = .ref b ∧ H a = some (DicTO X.prog X.w a L) ∧ KeysT X.K H L ∧ SqT X.K H b (k.map V.int) ∧ getQ L k = some p ∧ Q p.2 H
theorem ix_dt (hu : X.A.units + 1 < cLine) : IxR X (rIxDT X) := by
  intro value slice pins s σ H x y v u Q I rx ry ⟨a, b, L, k, p, ex, ey, h1, h2, h3, h4, q⟩ hs
  subst ex ey
  cases rx; cases ry
  obtain ⟨z, hd, xs, r, dd⟩ := dic_full I h1 h2
  rcases getQ_pr (R := RLx) (k := k) r with ⟨v, u, e1, e2, e3⟩ | ⟨e1, _⟩
  · rw [h4] at e1; cases e1
    exact tail_any dd.typeIs PySem.F.slot_dict_getitem.lookup (wpAny_getItem_heap (tupleKind_room_in1 hu) (I.isT h3) dd (by rw [atKey_getQ]; exact e2) ⟨p.2, H, I.tok _, e3.2, q⟩) hs
  · rw [h4] at e1; cases e1
def rIxDK : R2 := fun x y H Q => ∃ a v, x = .ref a ∧ DGet H a y (some v) ∧ Q v H
theorem ix_dk (hu : X.A.units + 1 < cLine) : IxR X rIxDK := by
  intro value slice pins s σ H x y v u Q I rx ry ⟨a, z, ex, g, q⟩ hs
  subst ex
  cases rx
  exact tail_any (dict_typeIs I g) PySem.F.slot_dict_getitem.lookup (d_getItem hu I g ry fun w' s3 I3 rw' => ⟨z, H, I3, rw', q⟩) hs
def rInDT (X : Cx) (g : Bool → Bool) : R2 := fun x y H Q => ∃ a b L k, x = .ref b ∧ y = .ref a ∧ H a = some (DicTO X.prog X.w a L) ∧ KeysT X.K H L ∧ SqT X.K H b (k.map V.int) ∧ Q (.bl (g (getQ L k).isSome)) H
theorem op_inDT (hu : X.A.units + 1 < cLine) : OpR X (compareOp .In) (rInDT X id) := by
  intro pins s σ H x y v u Q I rx ry ⟨a, b, L, k, ex, ey, h1, h2, h3, q⟩
  subst ex ey
  cases rx; cases ry
  obtain ⟨z, hd, xs, r, dd⟩ := dic_full I h1 h2
  refine wpAny_in_heap (tupleKind_room_in1 hu) (I.isT h3) hd dd ⟨.bl (getQ L k).isSome, H, I.tok _, ?_, q⟩
  rw [atKey_getQ, ← getQ_iss (R := RLx) (k := k) r]
  rfl
theorem op_notinDT (hu : X.A.units + 1 < cLine) : OpR X (compareOp .NotIn) (rInDT X not) := by
  intro pins s σ H x y v u Q I rx ry ⟨a, b, L, k, ex, ey, h1, h2, h3, q⟩
  subst ex ey
  cases rx; cases ry
  obtain ⟨z, hd, xs, r, dd⟩ := dic_full I h1 h2
  refine wpAny_notIn_heap (tupleKind_room_in1 hu) (I.isT h3) hd dd ⟨.bl (!(getQ L k).isSome), H, I.tok _, ?_, q⟩
  rw [atKey_getQ, ← getQ_iss (R := RLx) (k := k) r]
  rfl
def rInDK (g : Bool → Bool) : R2 := fun x y H Q => ∃ a o, y = .ref a ∧ DGet H a x o ∧ Q (.bl (g o.isSome)) H
theorem op_inDK (hu : X.A.units + 1 < cLine) : OpR X (compareOp .In) (rInDK id) := by
  intro pins s σ H x y v u Q I rx ry ⟨a, o, ey, g, q⟩
  subst ey
  cases ry
  exact d_in hu I g rx fun s3 I3 => ⟨.bl o.isSome, H, I3, rfl, q⟩
theorem op_notinDK (hu : X.A.units + 1 < cLine) : OpR X (compareOp .NotIn) (rInDK not) := by
  intro pins s σ H x y v u Q I rx ry ⟨a, o, ey, g, q⟩
  subst ey
  cases ry
  exact d_notIn hu I g rx fun s3 I3 => ⟨.bl (!o.isSome), H, I3, rfl, q⟩
def rSetDT (X : Cx) : V → V → V → Hp → (Hp → Prop) → Prop := fun o i v H Q => ∃ a b L k, o = .ref a ∧ i = .ref b ∧ H a = some (DicTO X.prog X.w a L) ∧ KeysT X.K H L ∧ SqT X.K H b (k.map V.int) ∧ L.length < sizeLine ∧
  Q (upd H a (DicTO X.prog X.w a (updQ L k (fun p => (p.1, v)) (b, v))))
theorem set_dt (hu : X.A.units + 1 < cLine) : PSet X (rSetDT X) := by
  intro pins s σ H o i v ov iv u Q I ro ri rv ⟨a, b, L, k, eo, ei, h1, h2, h3, hl, q⟩
  subst eo ei
  cases ro; cases ri
  obtain ⟨z, hd, xs, r, dd⟩ := dic_full I h1 h2
  have hz : xs.length ≤ sizeLine := by rw [← Paired.length r]; exact z
  refine wpAny_setItem_heap (hsz := hz) (tupleKind_room_in1 hu) (I.isT h3) dd fun h' dd' hs => ⟨_, ?_, q⟩
  have he : ∃ q, h'.get? a = some q := let ⟨q, _, _, hq, _⟩ := dd'; ⟨q, hq⟩
  rw [storedH_updQ] at dd'
  refine I.write (x := a) (e := a) (by rw [h1]; trivial) (.inl rfl) (fun c w hc hw => (hs.2 c hc).trans hw) he (dicTO_new ?_ hd ?_ dd')
  · have := len_updQ L k (fun p => (p.1, v)) (b, v); omega
  · exact upd_pr (R := RLx) r (fun _ _ z => ⟨z.1, rv⟩) ⟨rfl, rv⟩
def rSetDK : V → V → V → Hp → (Hp → Prop) → Prop := fun o i v H Q => ∃ a H4, o = .ref a ∧ DPut H a i v H4 ∧ Q H4
theorem set_dk (hu : X.A.units + 1 < cLine) : PSet X rSetDK := by
  intro pins s σ H o i v ov iv u Q I ro ri rv ⟨a, H4, eo, g, q⟩
  subst eo
  cases ro
  exact d_setItem hu I g ri rv fun s4 I4 => ⟨H4, I4, q⟩
theorem PSet.or {t t' : V → V → V → Hp → (Hp → Prop) → Prop} (h : PSet X t) (h' : PSet X t') : PSet X (fun o i v H Q => t o i v H Q ∨ t' o i v H Q) := by
  intro pins s σ H o i v ov iv u Q I ro ri rv q
  rcases q with q | q
  · exact h pins s σ H o i v ov iv u Q I ro ri rv q
  · exact h' pins s σ H o i v ov iv u Q I ro ri rv q
theorem pe_dnewD {pos : Pos} : PE X (.Dict [] [] pos) (fun _ H Q => ∀ p, H p = none → Q (.ref p) (upd H p (DicTO X.prog X.w p []))) := ⟨fun pins s σ H Q I h =>
  wpAny_Dict_empty ⟨.ref s.heap.objs.size, _, I.laid (a := s.heap.objs.size) (o := DicTO X.prog X.w s.heap.objs.size []) (t' := s.toks) (fun _ _ q => Heap.get?_push_of_some _ q) (Nat.le_refl _)
    (dicTO_new (Nat.zero_le _) (beq_eq_false_iff_ne.mpr (Ne.symm (Nat.ne_of_lt I.big))) .nil (Heap.DictOfH.new s.heap)), rfl, h _ (I.hok.fresh (Nat.le_refl _))⟩⟩
end

theorem hu1 {A : Around} {k : Nat} (hr : Room k A) : A.units + 1 < cLine := by have := hr.un; omega
/-! ### what the text is worth -/
def keyI : D → Option Key
  | .int i => some (.inl i)
  | .str x => some (.inr x)
  | _ => none
def dNewT : EM := fun _ st => .ok (.ref st.length) (st ++ [.dT []])
def dNewK : EM := fun _ st => .ok (.ref st.length) (st ++ [.dK []])
def dGetD : D → D → S → Out D := fun o y st => match o with
  | .ref n => match st[n]? with
    | some (.dT l) => match (tupI y).bind (getQ l) with
      | some v => .ok v st
      | none => .bad
    | some (.dK l) => match (keyI y).bind (getQ l) with
      | some v => .ok v st
      | none => .bad
    | _ => .bad
  | _ => .bad
def dInD (g : Bool → Bool) : D → D → S → Out D := fun y o st => match o with
  | .ref n => match st[n]? with
    | some (.dT l) => match tupI y with
      | some k => .ok (.bl (g (getQ l k).isSome)) st
      | none => .bad
    | some (.dK l) => match keyI y with
      | some k => .ok (.bl (g (getQ l k).isSome)) st
      | none => .bad
    | _ => .bad
  | _ => .bad
def sPutD (mo mi me : EM) : SM := fun en st => (me en st).bind fun d st1 => (mo en st1).bind fun o st2 => (mi en st2).bind fun i st3 => match o with
  | .ref n => match st3[n]? with
    | some (.dT l) => match tupI i with
      | some k => if l.length < 100000 then .ok (.nx, en) (st3.set n (.dT (putQ l k d))) else .bad
      | none => .bad
    | some (.dK l) => match keyI i with
      | some k => if l.length < 100000 then .ok (.nx, en) (st3.set n (.dK (putQ l k d))) else .bad
      | none => .bad
    | _ => .bad
  | _ => .bad
theorem key_of {K : Frag} {H : Hp} {r : Rho} {d : D} {k : Key} {v : V} (e : keyI d = some k) (h : RD K H r d v) : v = kV k := by
  cases d with
  | int i => cases e; exact h.int_inv
  | str i => cases e; exact h.str_inv
  | _ => cases e
theorem dT_at {X : Cx} {cl : Clm} {r : Rho} {st : S} {H : Hp} {n : Nat} {a : Addr} {l : List (List Int × D)} (hc : Here X cl) (hs : RS X.K cl r st H) (g : st[n]? = some (.dT l)) (h : r n = some a) :
    ∃ L : List (List Int × Addr × V), H a = some (DicTO X.prog X.w a L) ∧ Paired (fun d p => d.1 = p.1 ∧ SqT X.K H p.2.1 (p.1.map V.int) ∧ RD X.K H r d.2 p.2.2) l L := by
  obtain ⟨b, e1, L, e2, e3⟩ := hs.at_ n _ g
  rw [h] at e1; cases e1
  rw [hc.1, hc.2] at e2
  exact ⟨L, e2, e3⟩
theorem dK_at {K : Frag} {cl : Clm} {r : Rho} {st : S} {H : Hp} {n : Nat} {a : Addr} {l : List (Key × D)} (hs : RS K cl r st H) (g : st[n]? = some (.dK l)) (h : r n = some a) :
    ∃ kvs : List (Key × V), H a = some (.dK kvs) ∧ Paired (fun d p => d.1 = p.1 ∧ RD K H r d.2 p.2) l kvs := by
  obtain ⟨b, e1, L, e2, e3⟩ := hs.at_ n _ g
  rw [h] at e1; cases e1
  exact ⟨L, e2, e3⟩
theorem keysT_of {K : Frag} {H : Hp} {r : Rho} : ∀ {l : List (List Int × D)} {L : List (List Int × Addr × V)}, Paired (fun d p => d.1 = p.1 ∧ SqT K H p.2.1 (p.1.map V.int) ∧ RD K H r d.2 p.2.2) l L → KeysT K H L
  | _, _, .nil => fun p hp => nomatch hp
  | _, _, .cons h t => fun p hp => by
    rcases List.mem_cons.mp hp with rfl | hp
    · exact h.2.1
    · exact keysT_of t p hp
section
variable {X : Cx} {cl : Clm} {W : WX} {pos : Pos} {o i e : Expr} {ma mi me : EM}
theorem se_newT (hc : Here X cl) : SE X cl W (.Dict [] [] pos) dNewT := ⟨pe_of pe_dnewD fun s H Q ⟨r, en, st, he, hs, hp⟩ p np => by
  obtain ⟨z1, z2⟩ := push_new (o := .dT []) (u := DicTO X.prog X.w p []) hs np ⟨[], by rw [hc.1, hc.2]; exact upd_same, .nil⟩ rfl
  exact hp _ _ z2 z1 _ (.ref nxt_self)⟩
theorem se_newK : SE X cl W (.Dict [] [] pos) dNewK := ⟨pe_of pe_dnewK fun s H Q ⟨r, en, st, he, hs, hp⟩ p np => by
  obtain ⟨z1, z2⟩ := push_new (o := .dK []) (u := .dK []) hs np ⟨[], upd_same, .nil⟩ rfl
  exact hp _ _ z2 z1 _ (.ref nxt_self)⟩
def rIxD (X : Cx) : R2 := fun x y H Q => rIxDT X x y H Q ∨ rIxDK x y H Q
theorem ix_d (hu : X.A.units + 1 < cLine) : IxR X (rIxD X) := (ix_dt hu).or (ix_dk hu)
theorem op2_ixD (hc : Here X cl) : Op2 X.K cl dGetD (rIxD X) := by
  intro r st H W x y v w Q hs hx hy hp
  unfold dGetD at hp
  split at hp
  · obtain ⟨ad, rfl, g1⟩ := hx.ref_inv
    split at hp
    · rename_i l gl
      split at hp
      · rename_i z ez
        obtain ⟨k, ek, eg⟩ := Option.bind_eq_some_iff.mp ez
        obtain ⟨L, h1, h2⟩ := dT_at hc hs gl g1
        obtain ⟨t, rfl, ht⟩ := tupI_of ek hy
        rcases getQ_pr (R := RDL X.K H r) (k := k) h2 with ⟨v, u, e1, e2, e3⟩ | ⟨e1, _⟩
        · rw [eg] at e1; cases e1
          exact .inl ⟨ad, t, L, k, u, rfl, rfl, h1, keysT_of h2, ht, e2, hp r H .refl hs _ e3.2⟩
        · rw [eg] at e1; cases e1
      · exact hp.elim
    · rename_i l gl
      split at hp
      · rename_i z ez
        obtain ⟨k, ek, eg⟩ := Option.bind_eq_some_iff.mp ez
        obtain ⟨L, h1, h2⟩ := dK_at hs gl g1
        rw [key_of ek hy]
        rcases getQ_pr (R := RKL X.K H r) (k := k) h2 with ⟨v, u, e1, e2, e3⟩ | ⟨e1, _⟩
        · rw [eg] at e1; cases e1
          exact .inr ⟨ad, u, rfl, by rw [← e2, ← valV_getQ]; exact DGet.k h1, hp r H .refl hs _ e3⟩
        · rw [eg] at e1; cases e1
      · exact hp.elim
    · exact hp.elim
  · exact hp.elim
def rInD (X : Cx) (g : Bool → Bool) : R2 := fun x y H Q => rInDT X g x y H Q ∨ rInDK g x y H Q
theorem op_inD (hu : X.A.units + 1 < cLine) : OpR X (compareOp .In) (rInD X id) := (op_inDT hu).or (op_inDK hu)
theorem op_notinD (hu : X.A.units + 1 < cLine) : OpR X (compareOp .NotIn) (rInD X not) := (op_notinDT hu).or (op_notinDK hu)
theorem op2_inD {g : Bool → Bool} (hc : Here X cl) : Op2 X.K cl (dInD g) (rInD X g) := by
  intro r st H W x y v w Q hs hx hy hp
  unfold dInD at hp
  split at hp
  · obtain ⟨ad, rfl, g1⟩ := hy.ref_inv
    split at hp
    · rename_i l gl
      split at hp
      · rename_i k ek
        obtain ⟨L, h1, h2⟩ := dT_at hc hs gl g1
        obtain ⟨t, rfl, ht⟩ := tupI_of ek hx
        rw [getQ_iss (R := RDL X.K H r) (k := k) h2] at hp
        exact .inl ⟨ad, t, L, k, rfl, rfl, h1, keysT_of h2, ht, hp r H .refl hs _ .bl⟩
      · exact hp.elim
    · rename_i l gl
      split at hp
      · rename_i k ek
        obtain ⟨L, h1, h2⟩ := dK_at hs gl g1
        rw [key_of ek hx]
        rw [getQ_iss (R := RKL X.K H r) (k := k) h2] at hp
        exact .inr ⟨ad, _, rfl, DGet.k h1, hp r H .refl hs _ .bl⟩
      · exact hp.elim
    · exact hp.elim
  · exact hp.elim
theorem ss_putD {k : Nat} {tpos : Pos} (hc : Here X cl) (hr : Room k X.A) (ho : SE X cl W o ma) (hi : SE X cl W i mi) (he : SE X cl W e me) (ha : ∀ v, assign (.Subscript o i tpos) X.env v = (do
      let ov ← holding [v] (eval o X.env)
      let iv ← holding [v, ov] (eval i X.env)
      standAt tpos
      holding [v, ov, iv] (setItem ov iv v)
      release [v, ov, iv] []) := by intro _; rfl)
    (hs : swapsWithSole [.Subscript o i tpos] e pos.line X.env = pure false := by rfl) (hw : swappedStores [.Subscript o i tpos] e X.env = pure none := by rfl) (h1 : (assignEach [.Subscript o i tpos] X.env).map (·.2) = [assign (.Subscript o i tpos) X.env] := by rfl) :
    SS X cl W (.Assign [.Subscript o i tpos] e pos) (sPutD ma mi me) :=
  have hu : X.A.units + 1 < cLine := by have := hr.un; omega
  ⟨ps_of (ps_asg he.pe (pg_sub ho.pe hi.pe (PSet.or (set_dt hu) (set_dk hu)) ha) hs hw h1) fun D s H ⟨r, en, st, he, hs, hp⟩ => ⟨r, en, st, he, hs, (Po.bind hp).mono fun r1 H1 d st1 x1 s1 h1 v q1 =>
    ⟨r1, en, st1, he.mono x1.mn, s1, (Po.bind h1).mono fun r2 H2 o st2 x2 s2 h2 ov q2 => ⟨r2, en, st2, he.mono (x1.trans x2).mn, s2, (Po.bind h2).mono fun r3 H3 i st3 x3 s3 h3 iv q3 => by
      split at h3
      · rename_i n
        obtain ⟨a, rfl, g1⟩ := (q2.mono x3.mn).ref_inv
        split at h3
        · rename_i l g
          split at h3
          · rename_i k ek
            split at h3
            · rename_i hl
              obtain ⟨L, y1, y2⟩ := dT_at hc s3 g g1
              obtain ⟨t, rfl, ht⟩ := tupI_of ek q3
              have hz : L.length < sizeLine := by rw [← Paired.length y2, sizeLine_eq]; omega
              refine .inl ⟨a, t, L, k, rfl, rfl, y1, keysT_of y2, ht, hz, ?_⟩
              have mu : Mu (DicTO X.prog X.w a L) := .inr (.inr (.inl ⟨_, rfl⟩))
              generalize eL : updQ L k (fun p => (p.1, v)) (t, v) = L'
              have mm : Mn X.K r3 H3 r3 (upd H3 a (DicTO X.prog X.w a L')) := ⟨fun _ _ z => z, fun b ys z => sqt_upd (mu.nt y1) (mu.nf y1) z⟩
              have pr : Paired (fun d p => d.1 = p.1 ∧ SqT X.K H3 p.2.1 (p.1.map V.int) ∧ RD X.K H3 r3 d.2 p.2.2) (putQ l k d) L' := by
                rw [← eL]
                exact upd_pr (R := RDL X.K H3 r3) y2 (fun _ _ z => ⟨z.1, q1.mono (x2.trans x3).mn⟩) ⟨ht, q1.mono (x2.trans x3).mn⟩
              have ro : RO X.K cl (upd H3 a (DicTO X.prog X.w a L')) r3 (.dT (putQ l k d)) a := ⟨L', by rw [hc.1, hc.2]; exact upd_same, Paired.mapP pr fun _ _ q => ⟨q.1, mm.sqt _ _ q.2.1, q.2.2.mono mm⟩⟩
              obtain ⟨z1, z2⟩ := write_at s3 (s3.ne0 g rfl) g1 y1 mu rfl ro
              exact h3 _ _ z2 z1 _ (he.mono (((x1.trans x2).trans x3).trans z2).mn)
            · exact h3.elim
          · exact h3.elim
        · rename_i l g
          split at h3
          · rename_i k ek
            split at h3
            · rename_i hl
              obtain ⟨L, y1, y2⟩ := dK_at s3 g g1
              rw [key_of ek q3]
              have hz : L.length < sizeLine := by rw [← Paired.length y2, sizeLine_eq]; omega
              refine .inr ⟨a, _, rfl, DPut.k y1 hz, ?_⟩
              rw [putK_putQ]
              have mu : Mu (.dK L) := .inr (.inr (.inr ⟨_, rfl⟩))
              generalize eL : putQ L k v = L'
              have mm : Mn X.K r3 H3 r3 (upd H3 a (.dK L')) := ⟨fun _ _ z => z, fun b ys z => sqt_upd (mu.nt y1) (mu.nf y1) z⟩
              have pr : Paired (fun d p => d.1 = p.1 ∧ RD X.K H3 r3 d.2 p.2) (putQ l k d) L' := by
                rw [← eL]
                exact upd_pr (R := RKL X.K H3 r3) y2 (fun _ _ z => q1.mono (x2.trans x3).mn) (q1.mono (x2.trans x3).mn)
              have ro : RO X.K cl (upd H3 a (.dK L')) r3 (.dK (putQ l k d)) a := ⟨L', upd_same, Paired.mapP pr fun _ _ q => ⟨q.1, q.2.mono mm⟩⟩
              obtain ⟨z1, z2⟩ := write_at s3 (s3.ne0 g rfl) g1 y1 mu rfl ro
              exact h3 _ _ z2 z1 _ (he.mono (((x1.trans x2).trans x3).trans z2).mn)
            · exact h3.elim
          · exact h3.elim
        · exact h3.elim
      · exact h3.elim⟩⟩⟩⟩
end
end Dn

/-! Dn, O: displays of dicts whose keys are tuples of ints. -/
namespace Dn
open PySem PySem.Spec PyProof.Rows L2
section
variable {prog : Program} {w : World} {κ : Type} [DecidableEq κ] {knd : HeapKind prog w κ} {A : Around} {E : Value → Shared → Prop}
abbrev stH (acc : List (κ × Addr × Value)) (more : List (κ × Addr × Value)) : List (κ × Addr × Value) := more.foldl (fun acc x => storedH acc x.1 x.2.1 x.2.2) acc
theorem storeAllH {d : Addr} (hu : knd.room A) : ∀ (kvs acc : List (κ × Addr × Value)) (s : Shared) (Q : PUnit → Shared → Prop), (∀ x ∈ kvs, knd.is s.heap x.1 x.2.1) → s.heap.DictOfH knd d acc → acc.length + kvs.length ≤ sizeLine →
    (∀ h' tk, h'.DictOfH knd d (stH acc kvs) → Heap.SameBut d s.heap h' → Q PUnit.unit { s with heap := h', toks := tk }) →
    wpAny (model prog w) A (forIn (kvs.map fun x => (Value.ref x.2.1, x.2.2)) PUnit.unit fun (x : Value × Value) (_ : PUnit) => (do dictSet d x.1 x.2; pure (ForInStep.yield PUnit.unit) : Sem (ForInStep PUnit))) Q E s
  | [], acc, s, Q, _, hm, _, hQ => by
    rw [List.map_nil, List.forIn_nil]
    exact wpAny_pure (hQ s.heap s.toks hm (Heap.SameBut.refl _ _))
  | x :: kvs, acc, s, Q, hk, hm, hsz, hQ => by
    rw [List.length_cons] at hsz
    rw [List.map_cons, List.forIn_cons]
    obtain ⟨o, es, ep, ho, hc, hd, he, his, hn⟩ := id hm
    have z : (storedH acc x.1 x.2.1 x.2.2).length ≤ acc.length + 1 := by rw [storedH_updQ]; exact len_updQ _ _ _ _
    refine wpAny_bind (wpAny_bind (wpAny_dictSet_heap (hsz := by omega) hu (hk x List.mem_cons_self) hm fun h1 hm1 hs1 => wpAny_pure ?_))
    refine storeAllH hu kvs _ _ Q (fun y hy => knd.keeps (hk y (List.mem_cons_of_mem _ hy)) ho hd hs1) hm1 (by show (storedH acc x.1 x.2.1 x.2.2).length + kvs.length ≤ _; omega) fun h' tk hm' hs' => hQ h' tk hm' (hs1.trans hs')
variable {s : Shared}
theorem subDictH {pairs : List (Sem Value × Sem Value)} {Q : Addr → Shared → Prop} (hu : knd.room A) (hlen : pairs.length ≤ 15)
    (h : wpAny (model prog w) A (evalPairs pairs) (fun vs s₁ => ∃ kvs : List (κ × Addr × Value), vs = kvs.map (fun x => (Value.ref x.2.1, x.2.2)) ∧ (∀ x ∈ kvs, knd.is s₁.heap x.1 x.2.1) ∧ s₁.heap.DictOfH knd s.heap.objs.size [] ∧
      ∀ h' tk, h'.DictOfH knd s.heap.objs.size (stH [] kvs) → Heap.SameBut s.heap.objs.size s₁.heap h' → Q s.heap.objs.size { s₁ with heap := h', toks := tk }) E
      { s with heap := s.heap.push { cls := .type "dict", data := .dict #[] } }) :
    wpAny (model prog w) A (subDict pairs) Q E s := by
  unfold subDict
  refine wpAny_bind (wpAny_alloc ?_)
  refine wpAny_bind (wpAny_holding ?_)
  rw [if_pos hlen]
  refine wpAny_bind (wpAny_mono (wpAny_evalPairs_len h) (fun vs s₁ h₁ => ?_) fun _ _ e => e)
  obtain ⟨hvl, kvs, rfl, hk, hm, hQ⟩ := h₁
  rw [List.length_map] at hvl
  have hsz : ([] : List (κ × Addr × Value)).length + kvs.length ≤ sizeLine := by
    rw [sizeLine_eq, List.length_nil]; omega
  refine wpAny_holding ?_
  refine wpAny_bind (storeAllH hu kvs [] s₁ _ hk hm hsz fun h' tk hm' hs' => wpAny_pure (wpAny_pure (hQ h' tk hm' hs')))
theorem dict_pairsH {env : Env} {keys : List (Option Expr)} {values : List Expr} {pos : Pos} {Q : Value → Shared → Prop} (hu : knd.room A) (hall : keys.all (·.isSome) = true) (hl : keys.length = values.length) (h0 : keys ≠ []) (hlen : keys.length ≤ 15)
    (h : wpAny (model prog w) A (evalPairs (pairTrees keys values env pos)) (fun vs s₁ => ∃ kvs : List (κ × Addr × Value), vs = kvs.map (fun x => (Value.ref x.2.1, x.2.2)) ∧ (∀ x ∈ kvs, knd.is s₁.heap x.1 x.2.1) ∧ s₁.heap.DictOfH knd s.heap.objs.size [] ∧
      ∀ h' tk, h'.DictOfH knd s.heap.objs.size (stH [] kvs) → Heap.SameBut s.heap.objs.size s₁.heap h' → Q (.ref s.heap.objs.size) { s₁ with heap := h', toks := tk }) E
      { s with heap := s.heap.push { cls := .type "dict", data := .dict #[] } }) :
    wpAny (model prog w) A (eval (.Dict keys values pos) env) Q E s := by
  have hn := pairTrees_length keys values env pos hall hl
  rw [arm_eval_Dict, zip_pairTrees keys values env pos hall hl, dictDisplay_pairs _ (fun he => h0 (by rw [he] at hn; exact List.length_eq_zero_iff.mp hn.symm)) (by omega)]
  exact wpAny_bind (wpAny_standAt (wpAny_bind (subDictH (knd := knd) (Q := fun d s' => wpAny (model prog w) A (pure (Value.ref d)) Q E s') hu (by omega)
    (wpAny_mono h (fun vs s₁ h₁ => by obtain ⟨kvs, hc, hk, hm, hq⟩ := h₁; exact ⟨kvs, hc, hk, hm, fun h' tk a b => wpAny_pure (hq h' tk a b)⟩) fun _ _ e => e))))
end
abbrev mgT (acc more : List (List Int × Addr × V)) : List (List Int × Addr × V) := more.foldl (fun acc x => updQ acc x.1 (fun p => (p.1, x.2.2)) x.2) acc
abbrev mgQ (acc more : List (List Int × D)) : List (List Int × D) := more.foldl (fun acc x => putQ acc x.1 x.2) acc
theorem mgT_len : ∀ {more acc : List (List Int × Addr × V)}, (mgT acc more).length ≤ acc.length + more.length
  | [], acc => Nat.le_refl _
  | x :: more, acc => by
    have h1 := mgT_len (more := more) (acc := updQ acc x.1 (fun p => (p.1, x.2.2)) x.2)
    have h2 := len_updQ acc x.1 (fun p => (p.1, x.2.2)) x.2
    show (mgT (updQ acc x.1 (fun p => (p.1, x.2.2)) x.2) more).length ≤ _
    rw [List.length_cons]; omega
theorem mg_x : ∀ {more acc : List (List Int × Addr × V)} {ms as : List (List Int × Addr × Value)}, Paired (fun p q => p.1 = q.1 ∧ RLx q.1 p.2 q.2) more ms → Paired (fun p q => p.1 = q.1 ∧ RLx q.1 p.2 q.2) acc as → Paired (fun p q => p.1 = q.1 ∧ RLx q.1 p.2 q.2) (mgT acc more) (stH as ms)
  | [], _, _, _, .nil, h => h
  | x :: more, acc, y :: ms, as, .cons h t, r => by
    show Paired (fun p q => p.1 = q.1 ∧ RLx q.1 p.2 q.2) (mgT (updQ acc x.1 (fun p => (p.1, x.2.2)) x.2) more) (stH (storedH as y.1 y.2.1 y.2.2) ms)
    refine mg_x t ?_
    rw [storedH_updQ]
    obtain ⟨h1, h2, h3⟩ := h
    rw [h1]
    exact upd_pr (R := RLx) r (fun _ _ z => ⟨z.1, h3⟩) ⟨h2, h3⟩
theorem mg_d {K : Frag} {H : Hp} {r : Rho} : ∀ {more acc : List (List Int × D)} {ms as : List (List Int × Addr × V)}, Paired (fun p q => p.1 = q.1 ∧ RDL K H r q.1 p.2 q.2) more ms → Paired (fun p q => p.1 = q.1 ∧ RDL K H r q.1 p.2 q.2) acc as → Paired (fun p q => p.1 = q.1 ∧ RDL K H r q.1 p.2 q.2) (mgQ acc more) (mgT as ms)
  | [], _, _, _, .nil, h => h
  | x :: more, acc, y :: ms, as, .cons h t, q => by
    show Paired (fun p q => p.1 = q.1 ∧ RDL K H r q.1 p.2 q.2) (mgQ (putQ acc x.1 x.2) more) (mgT (updQ as y.1 (fun p => (p.1, y.2.2)) y.2) ms)
    refine mg_d t ?_
    obtain ⟨h1, h2⟩ := h
    rw [h1]
    exact upd_pr (R := RDL K H r) q (fun _ _ z => ⟨z.1, h2.2⟩) h2
def tDispT (X : Cx) (trs : List (TE × TE)) : TE := fun σ H Q => ∀ p, H p = none → tPairs trs σ (upd H p (DicTO X.prog X.w p [])) fun ps H2 => H2 p = some (DicTO X.prog X.w p []) ∧ ∃ L : List (List Int × Addr × V), ps = L.map (fun x => (V.ref x.2.1, x.2.2)) ∧ KeysT X.K H2 L ∧ L.length ≤ 15 ∧ Q (.ref p) (upd H2 p (DicTO X.prog X.w p (mgT [] L)))
theorem vv_of : ∀ {L : List (List Int × Addr × V)} {ws : List (Value × Value)}, VV (L.map fun x => (V.ref x.2.1, x.2.2)) ws → ∃ xs : List (List Int × Addr × Value), ws = xs.map (fun x => (Value.ref x.2.1, x.2.2)) ∧ Paired (fun p q => p.1 = q.1 ∧ RLx q.1 p.2 q.2) L xs
  | [], _, h => by rw [List.map_nil] at h; cases h; exact ⟨[], rfl, .nil⟩
  | p :: L, _, h => by
    rw [List.map_cons] at h
    cases h with
    | @cons a b as bs h t =>
      obtain ⟨xs, e, r⟩ := vv_of t
      obtain ⟨b1, b2⟩ := b
      obtain ⟨h1, h2⟩ := h
      cases (show b1 = Value.ref p.2.1 from h1)
      exact ⟨(p.1, p.2.1, b2) :: xs, by rw [List.map_cons, e], .cons ⟨rfl, rfl, h2⟩ r⟩
theorem pe_dispT {X : Cx} {pos : Pos} {keys : List (Option Expr)} {values : List Expr} {trs : List (TE × TE)} (hu : X.A.units + 1 < cLine) (h : PPs X pos keys values trs) (hall : keys.all (·.isSome) = true) (hl : keys.length = values.length) (h0 : keys ≠ []) (h15 : keys.length ≤ 15) :
    PE X (.Dict keys values pos) (tDispT X trs) := by
  refine ⟨fun pins s σ H Q I q => ?_⟩
  have hn := I.hok.fresh (Nat.le_refl s.heap.objs.size)
  have I1 := I.laid (a := s.heap.objs.size) (o := DicTO X.prog X.w s.heap.objs.size []) (h' := s.heap.push { cls := .type "dict", data := .dict #[] }) (t' := s.toks) (fun _ _ q => Heap.get?_push_of_some _ q) (Nat.le_refl _)
    (dicTO_new (Nat.zero_le _) (beq_eq_false_iff_ne.mpr (Ne.symm (Nat.ne_of_lt I.big))) .nil (Heap.DictOfH.new s.heap))
  refine dict_pairsH (knd := tupleKind (intKind X.prog X.w)) (show X.A.units < cLine by omega) hall hl h0 h15 (thn (h.run pins _ σ _ _ I1 (q _ hn)) fun ws s2 ⟨ps, H2, I2, rel, e, L, ep, hk, l15, q2⟩ => ?_)
  subst ep
  obtain ⟨xs, ew, rx⟩ := vv_of rel
  obtain ⟨z, hd, xs0, r0, dd⟩ := dic_full I2 e (fun p hp => nomatch hp)
  cases r0
  refine ⟨xs, ew, ?_, dd, fun h' tk dd' hs => ⟨.ref s.heap.objs.size, _, ?_, rfl, q2⟩⟩
  · clear q2 rel ew l15
    induction rx with
    | nil => intro x hx; exact nomatch hx
    | @cons p y ps qs hq t ih =>
      intro x hx
      rcases List.mem_cons.mp hx with e | hx
      · subst e
        rw [← hq.1, ← hq.2.1]
        exact I2.isT (hk p List.mem_cons_self)
      · exact ih (fun p' hp' => hk p' (List.mem_cons_of_mem _ hp')) x hx
  · have he : ∃ q, h'.get? s.heap.objs.size = some q := let ⟨q, _, _, hq, _⟩ := dd'; ⟨q, hq⟩
    refine I2.write (x := s.heap.objs.size) (e := s.heap.objs.size) (by rw [e]; trivial) (.inl rfl) (fun c w hc hw => (hs.2 c hc).trans hw) he (dicTO_new ?_ hd (mg_x rx .nil) dd')
    have := mgT_len (more := L) (acc := [])
    rw [List.length_nil] at this
    rw [sizeLine_eq]; omega
/-! what the text is worth -/
abbrev PM := En → S → Out (List (D × D))
def dP0 : PM := fun _ st => .ok [] st
def dPc (mk mv : EM) (mr : PM) : PM := fun en st => (mk en st).bind fun d st1 => (mv en st1).bind fun e st2 => (mr en st2).bind fun ps st3 => .ok ((d, e) :: ps) st3
def keyTI (p : D × D) : Option (List Int × D) := (tupI p.1).map fun k => (k, p.2)
def dDispT (m : PM) : EM := fun en st => (m en st).bind fun ps st1 => match mapO keyTI ps with
  | some l => if l.length ≤ 15 then .ok (.ref st1.length) (st1 ++ [.dT (mgQ [] l)]) else .bad
  | none => .bad
def tPD (K : Frag) (cl : Clm) (W : WX) (m : PM) : L2.St → Hp → (List (V × V) → Hp → Prop) → Prop := fun s H Q => ∃ r en st, RE K H r en s ∧ RS K cl r st H ∧ Po K cl r H W (m en st) fun r' H' ps _ => ∀ vs, Paired (fun p q => RD K H' r' p.1 q.1 ∧ RD K H' r' p.2 q.2) ps vs → Q vs H'
structure SP (X : Cx) (cl : Clm) (W : WX) (pos : Pos) (keys : List (Option Expr)) (values : List Expr) (m : PM) : Prop where
  ex : ∃ trs, PPs X pos keys values trs ∧ ∀ σ H Q, tPD X.K cl W m σ H Q → tPairs trs σ H Q
section
variable {X : Cx} {cl : Clm} {W : WX} {pos : Pos} {k v : Expr} {ks : List (Option Expr)} {vs : List Expr} {mk mv : EM} {mr : PM}
theorem sp_nil : SP X cl W pos [] [] dP0 := ⟨[], pps_nil, fun σ H Q ⟨r, en, st, he, hs, hp⟩ => hp r H .refl hs [] .nil⟩
theorem sp_cons (hk : SE X cl W k mk) (hv : SE X cl W v mv) (hr : SP X cl W pos ks vs mr) : SP X cl W pos (some k :: ks) (v :: vs) (dPc mk mv mr) := by
  obtain ⟨trs, h1, h2⟩ := hr.ex
  refine ⟨_, pps_cons hk.pe hv.pe h1, fun σ H Q ⟨r, en, st, he, hs, hp⟩ => ?_⟩
  refine ⟨r, en, st, he, hs, (Po.bind hp).mono fun r1 H1 d st1 x1 s1 q1 u ru => ?_⟩
  refine ⟨r1, en, st1, he.mono x1.mn, s1, (Po.bind q1).mono fun r2 H2 e st2 x2 s2 q2 y ry => ?_⟩
  refine h2 σ H2 _ ⟨r2, en, st2, he.mono (x1.trans x2).mn, s2, (Po.bind q2).mono fun r3 H3 ps st3 x3 s3 q3 ws rw' => ?_⟩
  exact q3 r3 H3 .refl s3 _ (.cons ⟨ru.mono (x2.trans x3).mn, ry.mono x3.mn⟩ rw')
theorem keyTI_of {K : Frag} {H : Hp} {r : Rho} : ∀ {ps : List (D × D)} {l : List (List Int × D)} {vs : List (V × V)}, mapO keyTI ps = some l → Paired (fun p q => RD K H r p.1 q.1 ∧ RD K H r p.2 q.2) ps vs →
    ∃ L : List (List Int × Addr × V), vs = L.map (fun x => (V.ref x.2.1, x.2.2)) ∧ Paired (fun p q => p.1 = q.1 ∧ RDL K H r q.1 p.2 q.2) l L
  | [], l, _, h, .nil => by
    cases h; exact ⟨[], rfl, .nil⟩
  | p :: ps, l, q :: vs, h, .cons a t => by
    unfold mapO at h
    cases e1 : keyTI p with
    | none => simp [e1] at h
    | some y =>
      cases e2 : mapO keyTI ps with
      | none => simp [e1, e2] at h
      | some ys =>
        simp only [e1, e2] at h
        cases h
        obtain ⟨L, h1, h2⟩ := keyTI_of e2 t
        unfold keyTI at e1
        obtain ⟨k, ek, rfl⟩ := Option.map_eq_some_iff.mp e1
        obtain ⟨tt, e3, ht⟩ := tupI_of ek a.1
        obtain ⟨q1, q2⟩ := q
        have e3 : q1 = V.ref tt := e3
        subst e3
        exact ⟨(k, tt, q2) :: L, by rw [List.map_cons, h1], .cons ⟨rfl, ht, a.2⟩ h2⟩
theorem se_dispT {n : Nat} {m : PM} (hc : Here X cl) (hr : Room n X.A) (h : SP X cl W pos ks vs m) (hall : ks.all (·.isSome) = true := by rfl) (hl : ks.length = vs.length := by rfl) (h0 : ks ≠ [] := by intro z; cases z) (h15 : ks.length ≤ 15 := by decide) : SE X cl W (.Dict ks vs pos) (dDispT m) := by
  obtain ⟨trs, h1, h2⟩ := h.ex
  refine ⟨pe_of (pe_dispT (hu1 hr) h1 hall hl h0 h15) fun s H Q ⟨r, en, st, he, hs, hp⟩ p np => ?_⟩
  have x0 : Xt X.K r H r (upd H p (DicTO X.prog X.w p [])) := Xt.fresh np
  refine h2 s _ _ ⟨r, en, st, he.mono x0.mn, hs.fresh np, ?_⟩
  unfold dDispT at hp
  cases hm : m en st with
  | bad => rw [hm] at hp; exact hp.elim
  | exc e en2 st2 => rw [hm] at hp; exact fun r2 H2 s c d y z w1 w2 => hp r2 H2 s c d (x0.trans y) z w1 w2
  | ok ps st1 =>
  rw [hm, bind_ok] at hp
  intro r1 H1 x1 s1 ws rw'
  have free : ∀ n, n ≠ 0 → r1 n ≠ some p := fun n n0 e => by
    rcases x1.new n p e with z | z
    · exact hs.some_of n0 z np
    · rw [upd_same] at z; cases z
  have stays : H1 p = some (DicTO X.prog X.w p []) := x1.keep p _ upd_same fun n n0 e => hs.some_of n0 e np
  cases e1 : mapO keyTI ps with
  | none => simp only [e1] at hp; exact hp.elim
  | some l =>
    simp only [e1] at hp
    split at hp
    · rename_i l15
      obtain ⟨L, eL, pr⟩ := keyTI_of e1 rw'
      have kt : KeysT X.K H1 L := fun x hx => by
        have key : ∀ {l : List (List Int × D)} {L : List (List Int × Addr × V)}, Paired (fun p q => p.1 = q.1 ∧ RDL X.K H1 r1 q.1 p.2 q.2) l L → ∀ x ∈ L, SqT X.K H1 x.2.1 (x.1.map V.int) := by
          intro l L pr
          induction pr with
          | nil => intro x hx; exact nomatch hx
          | cons h t ih =>
            intro x hx
            rcases List.mem_cons.mp hx with rfl | hx
            · exact h.2.1
            · exact ih x hx
        exact key pr x hx
      refine ⟨stays, L, eL, kt, by rw [← Paired.length pr]; exact l15, ?_⟩
      have mu : Mu (DicTO X.prog X.w p []) := .inr (.inr (.inl ⟨_, rfl⟩))
      generalize eM : mgT [] L = M
      have mm : ∀ r', (∀ n a, r1 n = some a → r' n = some a) → Mn X.K r1 H1 r' (upd H1 p (DicTO X.prog X.w p M)) := fun r' hr' => ⟨hr', fun b ys z => sqt_upd (mu.nt stays) (mu.nf stays) z⟩
      have m1 := mm r1 fun _ _ z => z
      have pm : Paired (fun p q => p.1 = q.1 ∧ RDL X.K H1 r1 q.1 p.2 q.2) (mgQ [] l) M := by rw [← eM]; exact mg_d pr .nil
      have s2 : RS X.K cl r1 st1 (upd H1 p (DicTO X.prog X.w p M)) := by
        refine ⟨s1.dom, fun n o e => ?_, s1.inj, s1.fz, s1.pos⟩
        obtain ⟨a, z1, z2⟩ := s1.at_ n o e
        by_cases n0 : n = 0
        · have fo := (s1.fz n o e).mpr n0
          cases o with
          | lst l => cases fo
          | ins c fs => cases fo
          | set l => cases fo
          | dT l => cases fo
          | dK l => cases fo
          | frz l =>
            obtain ⟨xs, w1, w2⟩ := z2
            refine ⟨a, z1, xs, ?_, w2.mono m1⟩
            rcases w1 with (w1 | ⟨ob, w1⟩) | w1
            · obtain ⟨_, _, _, e'⟩ := fzH_some w1
              cases e'
            · refine .inl (.inr ⟨ob, ?_⟩)
              rw [fzH_of (o := ob) (u := .lst xs)]
              rw [upd_ne (fun q => mu.nf stays _ _ (by rw [← q]; exact (fzH_some w1).1))]
              exact (fzH_some w1).1
            · exact .inr w1
        · exact ⟨a, z1, z2.xt m1 fun u z => by rw [upd_ne (fun q => free n n0 (by rw [← q]; exact z1))]; exact z⟩
      have s3 : RS X.K cl (nxt r1 st1.length p) (st1 ++ [.dT (mgQ [] l)]) (upd H1 p (DicTO X.prog X.w p M)) :=
        s2.push free ⟨M, by rw [hc.1, hc.2]; exact upd_same, Paired.mapP pm fun _ _ q => ⟨q.1, (mm (nxt r1 st1.length p) (Xt.nxt0 s1.dom)).sqt _ _ q.2.1, q.2.2.mono (mm (nxt r1 st1.length p) (Xt.nxt0 s1.dom))⟩⟩ rfl
      have y := x0.trans x1
      have x2 : Xt X.K r H (nxt r1 st1.length p) (upd H1 p (DicTO X.prog X.w p M)) := by
        refine ⟨fun n a e => Xt.nxt0 s1.dom n a (y.ext n a e), fun n a e => ?_, fun b o hb hn => ?_, fun b hb => ?_, fun b xs hq => (mm r1 fun _ _ z => z).sqt b xs (y.sqt b xs hq)⟩
        · by_cases q : n = st1.length
          · subst q; rw [nxt_self] at e; cases e; exact .inr np
          · rw [nxt_old q] at e
            exact y.new n a e
        · rw [upd_ne (ne_of_none hb np)]
          exact y.keep b o hb hn
        · by_cases q : b = p
          · subst q; exact np
          · rw [upd_ne q] at hb
            exact y.there b hb
      exact hp _ _ x2 s3 _ (.ref nxt_self)
    · exact hp.elim
end
end Dn

/-! Dn, J: max of three numbers. -/
namespace Dn
open PySem PySem.Spec PyProof.Rows L2
def mx3 (i j k : Int) : Int := if (if i < j then j else i) < k then k else (if i < j then j else i)
def dMax3 : List D → S → Out D
  | [.int i, .int j, .int k], st => .ok (.int (mx3 i j k)) st
  | _, _ => .bad
theorem opn_max3 {K : Frag} {cl : Clm} : OpN K cl dMax3 (rNuC3 nuMax3) := by
  intro r st H W xs vs Q hs h hp
  unfold dMax3 at hp
  split at hp
  · rename_i i j k
    obtain ⟨v1, w1, rfl, h1, t1⟩ := h.cons_inv
    obtain ⟨v2, w2, rfl, h2, t2⟩ := t1.cons_inv
    obtain ⟨v3, w3, rfl, h3, t3⟩ := t2.cons_inv
    have := t3.nil_inv
    subst this
    rw [h1.int_inv, h2.int_inv, h3.int_inv]
    refine ⟨_, _, _, .int (mx3 i j k), rfl, ?_, hp r H .refl hs _ .int⟩
    show ((some (decide (i < j))).map fun c => if c = true then V.int j else V.int i).bind (fun m => nuMax2 m (.int k)) = _
    unfold mx3
    by_cases c : i < j
    · simp only [c, decide_true, Option.map_some, if_true, Option.bind_some]
      show (some (decide (j < k))).map (fun c => if c = true then V.int k else V.int j) = _
      by_cases c2 : j < k
      · simp [c2]
      · simp [c2]
    · simp only [c, decide_false, Option.map_some, Bool.false_eq_true, if_false, Option.bind_some]
      show (some (decide (i < k))).map (fun c => if c = true then V.int k else V.int i) = _
      by_cases c2 : i < k
      · simp [c2]
      · simp [c2]
  · exact hp.elim
end Dn

/-! Dn, L: chains of comparisons. -/
namespace Dn
open PySem L2

/-- a op1 b op2 c -/
def dCh (f g : D → D → S → Out D) (ma mb mc : EM) : EM := fun en st => (ma en st).bind fun x st1 => (mb en st1).bind fun y st2 => (f x y st2).bind fun z st3 => match z with
  | .bl true => (mc en st3).bind fun u st4 => g y u st4
  | .bl false => .ok (.bl false) st3
  | _ => .bad
section
variable {X : Cx} {cl : Clm} {W : WX} {a b c : Expr} {pos : Pos} {ma mb mc : EM} {op op' : CmpOp} {f g : D → D → S → Out D} {p p' : R2}
theorem tE_ch {K : Frag} {s : L2.St} {H : Hp} {Q : VK} (hf : Op2 K cl f p) (hg : Op2 K cl g p') (h : tE K cl W (dCh f g ma mb mc) s H Q) : tChain p p' (tE K cl W ma) (tE K cl W mb) (tE K cl W mc) s H Q := by
  obtain ⟨r, en, st, he, hs, hp⟩ := h
  refine ⟨r, en, st, he, hs, (Po.bind hp).mono fun r1 H1 d1 st1 x1 s1 h1 v1 q1 => ?_⟩
  refine ⟨r1, en, st1, he.mono x1.mn, s1, (Po.bind h1).mono fun r2 H2 d2 st2 x2 s2 h2 v2 q2 => ?_⟩
  refine hf r2 st2 H2 W d1 d2 v1 v2 _ s2 (q1.mono x2.mn) q2 ((Po.bind h2).mono fun r3 H3 d3 st3 x3 s3 h3 z q3 => ?_)
  cases d3 with
  | bl k =>
    refine ⟨k, q3.bl_inv, ?_⟩
    cases k with
    | true =>
      rw [if_pos rfl]
      refine ⟨r3, en, st3, he.mono ((x1.trans x2).trans x3).mn, s3, (Po.bind h3).mono fun r4 H4 d4 st4 x4 s4 h4 v4 q4 => ?_⟩
      exact hg r4 st4 H4 W d2 d4 v2 v4 Q s4 (q2.mono (x3.trans x4).mn) q4 h4
    | false =>
      rw [if_neg (by decide)]
      exact h3 r3 H3 .refl s3 _ .bl
  | _ => exact h3.elim
theorem se_chain (ho : OpR X (compareOp op) p) (hf : Op2 X.K cl f p) (ho' : OpR X (compareOp op') p') (hg : Op2 X.K cl g p') (ha : SE X cl W a ma) (hb : SE X cl W b mb) (hc : SE X cl W c mc) (hm : lastMarks [op, op'] [b, c] = false := by with_unfolding_all rfl) :
    SE X cl W (.Compare a [op, op'] [b, c] pos) (dCh f g ma mb mc) := ⟨pe_of (pe_chain ho ho' ha.pe hb.pe hc.pe hm) fun _ _ _ h => tE_ch hf hg h⟩
theorem sb_chain (ho : OpR X (compareOp op) p) (hf : Op2 X.K cl f p) (ho' : OpR X (compareOp op') p') (hg : Op2 X.K cl g p') (ha : SE X cl W a ma) (hb : SE X cl W b mb) (hc : SE X cl W c mc) (hm : lastMarks [op, op'] [b, c] = false := by with_unfolding_all rfl) :
    SB X cl W (.Compare a [op, op'] [b, c] pos) (dB (dCh f g ma mb mc)) :=
  ⟨pt_of (pt_chain ho ho' ha.pe hb.pe hc.pe hm) fun s H Q ⟨r, en, st, he, hs, hp⟩ => by
    refine tE_ch (W := W) (Q := fun x H' => ∃ k, x = .bl k ∧ Q k H') hf hg ⟨r, en, st, he, hs, (Po.bind hp).mono fun r1 H1 d st1 x1 s1 h1 v q => ?_⟩
    cases d with
    | bl k => exact ⟨k, q.bl_inv, h1 r1 H1 .refl s1⟩
    | _ => exact h1.elim⟩
end
end Dn

/-! Dn, P: reasoning about what the text is worth: no program in sight. -/
namespace Dn
open PySem L2

/-! ### it ends well, and so -/
def Ok {α : Type} (o : Out α) (Q : α → S → Prop) : Prop := match o with
  | .ok a st => Q a st
  | _ => False
section
variable {α β : Type} {Q Q' : α → S → Prop}
theorem ok_ok {a : α} {st : S} : Ok (.ok a st) Q ↔ Q a st := Iff.rfl
theorem ok_bad : Ok (Out.bad : Out α) Q ↔ False := Iff.rfl
theorem ok_bind {x : Out β} {f : β → S → Out α} : Ok (x.bind f) Q ↔ Ok x fun b st => Ok (f b st) Q := by cases x <;> exact Iff.rfl
theorem Ok.mono {o : Out α} (h : Ok o Q) (q : ∀ a st, Q a st → Q' a st) : Ok o Q' := by
  cases o with
  | ok a st => exact q a st h
  | exc e en st => exact h
  | bad => exact h
theorem Ok.ex {o : Out α} (h : Ok o Q) : ∃ a st, o = .ok a st ∧ Q a st := by
  cases o with
  | ok a st => exact ⟨a, st, rfl, h⟩
  | exc e en st => exact h.elim
  | bad => exact h.elim
theorem Ok.of {o : Out α} {a : α} {st : S} (e : o = .ok a st) (h : Q a st) : Ok o Q := by subst e; exact h
theorem ok_ite {c : Prop} [Decidable c] {x y : Out α} : Ok (if c then x else y) Q ↔ if c then Ok x Q else Ok y Q := by split <;> exact Iff.rfl
theorem ok_iteB {c : Prop} [Decidable c] {x : Out α} : Ok (if c then x else .bad) Q ↔ c ∧ Ok x Q := by
  by_cases h : c
  · simp [h]
  · simp [h, Ok]
end
section
variable {en : En} {st : S} {Q : D → S → Prop} {R : List D → S → Prop} {T : Bool → S → Prop} {V : Fl × En → S → Prop} {m ma mb : EM} {mr : AM} {t u : TM} {s z : SM}
theorem ok_var {i : Nat} : Ok (dVar i en st) Q ↔ ∃ d, en[i]? = some (some d) ∧ Q d st := by
  unfold dVar
  split
  · rename_i d e
    rw [e]
    exact ⟨fun h => ⟨d, rfl, h⟩, fun ⟨d', h1, h2⟩ => by cases h1; exact h2⟩
  · rename_i h
    exact ⟨fun z => z.elim, fun ⟨d, h1, _⟩ => (h d h1).elim⟩
theorem ok_c {d : D} : Ok (dC d en st) Q ↔ Q d st := Iff.rfl
theorem ok_o2 {f : D → D → S → Out D} : Ok (dO2 f ma mb en st) Q ↔ Ok (ma en st) fun x st1 => Ok (mb en st1) fun y st2 => Ok (f x y st2) Q := by
  unfold dO2; rw [ok_bind]; simp only [ok_bind]
theorem ok_o1 {f : D → S → Out D} : Ok (dO1 f ma en st) Q ↔ Ok (ma en st) fun x st1 => Ok (f x st1) Q := by unfold dO1; rw [ok_bind]
theorem ok_nil : Ok (dNil en st) R ↔ R [] st := Iff.rfl
theorem ok_cons : Ok (dCons ma mr en st) R ↔ Ok (ma en st) fun x st1 => Ok (mr en st1) fun xs st2 => R (x :: xs) st2 := by
  unfold dCons; rw [ok_bind]; simp only [ok_bind, ok_ok]
theorem ok_on {f : List D → S → Out D} : Ok (dON f mr en st) Q ↔ Ok (mr en st) fun xs st1 => Ok (f xs st1) Q := by unfold dON; rw [ok_bind]
theorem ok_mt {ty : String} {f : D → List D → S → Out D} : Ok (dMt ty f ma mr en st) Q ↔ Ok (ma en st) fun x st1 => isT ty st1 x = true ∧ Ok (mr en st1) fun xs st2 => Ok (f x xs st2) Q := by
  unfold dMt; rw [ok_bind]; simp only [ok_iteB, ok_bind]
theorem ok_tup : Ok (dTup mr en st) Q ↔ Ok (mr en st) fun xs st1 => xs.length ≤ sizeLine ∧ Q (.tup xs) st1 := by unfold dTup; rw [ok_bind]; simp only [ok_iteB, ok_ok]
theorem ok_lst : Ok (dLst mr en st) Q ↔ Ok (mr en st) fun xs st1 => xs.length ≤ sizeLine ∧ Q (.ref st1.length) (st1 ++ [.lst xs]) := by unfold dLst; rw [ok_bind]; simp only [ok_iteB, ok_ok]
theorem ok_atEn {α : Type} {o : Out α} {Q : α → S → Prop} : Ok (atEn en o) Q ↔ Ok o Q := by cases o <;> exact Iff.rfl
theorem ok_call {np : Nat} {f : List D → S → Out D} : Ok (dCall np f mr en st) Q ↔ Ok (mr en st) fun ds st1 => ds.length = np ∧ Ok (f ds st1) Q := by
  unfold dCall; rw [ok_bind]; simp only [ok_iteB, ok_atEn]
theorem ok_ifE : Ok (dIfE t ma mb en st) Q ↔ Ok (t en st) fun k st1 => if k = true then Ok (ma en st1) Q else Ok (mb en st1) Q := by
  unfold dIfE; rw [ok_bind]; simp only [ok_ite]
theorem ok_dB : Ok (dB m en st) T ↔ Ok (m en st) fun d st1 => ∃ k, d = .bl k ∧ T k st1 := by
  unfold dB; rw [ok_bind]
  constructor
  · intro h
    refine h.mono fun d st1 q => ?_
    cases d <;> first | exact ⟨_, rfl, q⟩ | exact q.elim
  · intro h
    refine h.mono fun d st1 ⟨k, e, q⟩ => ?_
    subst e; exact q
theorem ok_tru : Ok (dTru m en st) T ↔ Ok (m en st) fun d st1 => ∃ k, truD st1 d = some k ∧ T k st1 := by
  unfold dTru; rw [ok_bind]
  constructor
  · intro h
    refine h.mono fun d st1 q => ?_
    cases e : truD st1 d with
    | none => rw [e] at q; exact q.elim
    | some k => rw [e] at q; exact ⟨k, rfl, q⟩
  · intro h
    refine h.mono fun d st1 ⟨k, e, q⟩ => ?_
    rw [e]; exact q
theorem ok_notT : Ok (dNotT t en st) T ↔ Ok (t en st) fun k st1 => T (!k) st1 := by unfold dNotT; rw [ok_bind]; simp only [ok_ok]
theorem ok_andT : Ok (dAndT t u en st) T ↔ Ok (t en st) fun k st1 => if k = true then Ok (u en st1) T else T false st1 := by unfold dAndT; rw [ok_bind]; simp only [ok_ite, ok_ok]
theorem ok_orT : Ok (dOrT t u en st) T ↔ Ok (t en st) fun k st1 => if k = true then T true st1 else Ok (u en st1) T := by unfold dOrT; rw [ok_bind]; simp only [ok_ite, ok_ok]
theorem ok_andV : Ok (dAndV ma mb en st) Q ↔ Ok (ma en st) fun d st1 => ∃ k, d = .bl k ∧ if k = true then Ok (mb en st1) Q else Q (.bl false) st1 := by
  unfold dAndV; rw [ok_bind]
  constructor
  · intro h
    refine h.mono fun d st1 q => ?_
    cases d with
    | bl k => cases k <;> exact ⟨_, rfl, q⟩
    | _ => exact q.elim
  · intro h
    refine h.mono fun d st1 ⟨k, e, q⟩ => ?_
    subst e; cases k <;> exact q
theorem ok_orV : Ok (dOrV ma mb en st) Q ↔ Ok (ma en st) fun d st1 => ∃ k, d = .bl k ∧ if k = true then Q (.bl true) st1 else Ok (mb en st1) Q := by
  unfold dOrV; rw [ok_bind]
  constructor
  · intro h
    refine h.mono fun d st1 q => ?_
    cases d with
    | bl k => cases k <;> exact ⟨_, rfl, q⟩
    | _ => exact q.elim
  · intro h
    refine h.mono fun d st1 ⟨k, e, q⟩ => ?_
    subst e; cases k <;> exact q
theorem ok_notV : Ok (dNotV m en st) Q ↔ Ok (m en st) fun d st1 => ∃ k, d = .bl k ∧ Q (.bl (!k)) st1 := by
  unfold dNotV; rw [ok_bind]
  constructor
  · intro h
    refine h.mono fun d st1 q => ?_
    cases d <;> first | exact ⟨_, rfl, q⟩ | exact q.elim
  · intro h
    refine h.mono fun d st1 ⟨k, e, q⟩ => ?_
    subst e; exact q
/-! statements -/
theorem ok_set {i : Nat} : Ok (sSet i m en st) V ↔ Ok (m en st) fun d st1 => V (.nx, en.set i (some d)) st1 := by unfold sSet; rw [ok_bind]; simp only [ok_ok]
theorem ok_expr : Ok (sExpr m en st) V ↔ Ok (m en st) fun _ st1 => V (.nx, en) st1 := by unfold sExpr; rw [ok_bind]; simp only [ok_ok]
theorem ok_ret : Ok (sRet m en st) V ↔ Ok (m en st) fun d st1 => V (.ret d, en) st1 := by unfold sRet; rw [ok_bind]; simp only [ok_ok]
theorem ok_retN : Ok (sRetN en st) V ↔ V (.ret .non, en) st := Iff.rfl
theorem ok_pass : Ok (sPass en st) V ↔ V (.nx, en) st := Iff.rfl
theorem ok_brk : Ok (sBrk en st) V ↔ V (.bk, en) st := Iff.rfl
theorem ok_cnt : Ok (sCnt en st) V ↔ V (.ct, en) st := Iff.rfl
theorem ok_if : Ok (sIf t s z en st) V ↔ Ok (t en st) fun k st1 => if k = true then Ok (s en st1) V else Ok (z en st1) V := by unfold sIf; rw [ok_bind]; simp only [ok_ite]
/-- what is wanted behind a statement in a block -/
def Sq (z : SM) (V : Fl × En → S → Prop) : Fl × En → S → Prop := fun p st1 => match p.1 with
  | .nx => Ok (z p.2 st1) V
  | _ => V p st1
theorem ok_seq : Ok (sSeq s z en st) V ↔ Ok (s en st) (Sq z V) := by
  unfold sSeq; rw [ok_bind]
  constructor
  · exact fun h => h.mono fun p st1 q => by
      obtain ⟨f, e⟩ := p
      cases f <;> exact q
  · exact fun h => h.mono fun p st1 q => by
      obtain ⟨f, e⟩ := p
      cases f <;> exact q
theorem sq_nx {e : En} {st1 : S} : Sq z V (.nx, e) st1 ↔ Ok (z e st1) V := Iff.rfl
theorem sq_ret {d : D} {e : En} {st1 : S} : Sq z V (.ret d, e) st1 ↔ V (.ret d, e) st1 := Iff.rfl
theorem sq_bk {e : En} {st1 : S} : Sq z V (.bk, e) st1 ↔ V (.bk, e) st1 := Iff.rfl
theorem sq_ct {e : En} {st1 : S} : Sq z V (.ct, e) st1 ↔ V (.ct, e) st1 := Iff.rfl
theorem ok_asg {b : BM} : Ok (sAsg b m en st) V ↔ Ok (m en st) fun d st1 => ∃ en1, b d en = some en1 ∧ V (.nx, en1) st1 := by
  unfold sAsg; rw [ok_bind]
  constructor
  · intro h
    refine h.mono fun d st1 q => ?_
    cases e : b d en with
    | none => rw [e] at q; exact q.elim
    | some en1 => rw [e] at q; exact ⟨en1, rfl, q⟩
  · intro h
    refine h.mono fun d st1 ⟨k, e, q⟩ => ?_
    rw [e]; exact q
theorem ok_setI {mi : EM} : Ok (sSetI ma mi m en st) V ↔ Ok (m en st) fun d st1 => Ok (ma en st1) fun o st2 => Ok (mi en st2) fun i st3 => ∃ n k xs j, o = .ref n ∧ i = .int k ∧ st3[n]? = some (.lst xs) ∧ ixN xs.length k = some j ∧ V (.nx, en) (st3.set n (.lst (xs.set j d))) := by
  unfold sSetI; simp only [ok_bind]
  constructor
  · intro h
    refine h.mono fun d st1 h => h.mono fun o st2 h => h.mono fun i st3 h => ?_
    split at h
    · split at h
      · rename_i g
        split at h
        · rename_i e
          exact ⟨_, _, _, _, rfl, rfl, g, e, h⟩
        · exact h.elim
      · exact h.elim
    · exact h.elim
  · intro h
    refine h.mono fun d st1 h => h.mono fun o st2 h => h.mono fun i st3 h => ?_
    obtain ⟨n, k, xs, j, rfl, rfl, g, e, q⟩ := h
    simp only [g, e]
    exact q
theorem ok_for {im : IM} {b : BM} {body : SM} : Ok (sFor im b body en st) V ↔ Ok (im en st) fun w st1 => Ok (loopD w b body w.items en st1) V := by unfold sFor; rw [ok_bind]
theorem ok_iAny {I : Wk → S → Prop} : Ok (iAny m en st) I ↔ Ok (m en st) fun d st1 => ∃ w, wkOf st1 d = some w ∧ I w st1 := by
  unfold iAny; rw [ok_bind]
  constructor
  · intro h
    refine h.mono fun d st1 q => ?_
    cases e : wkOf st1 d with
    | none => rw [e] at q; exact q.elim
    | some w => rw [e] at q; exact ⟨w, rfl, q⟩
  · intro h
    refine h.mono fun d st1 ⟨k, e, q⟩ => ?_
    rw [e]; exact q
theorem ok_rng1 {I : Wk → S → Prop} : Ok (iRng1D mr en st) I ↔ Ok (mr en st) fun ds st1 => ∃ j, ds = [.int j] ∧ (-(2 ^ 62) ≤ j ∧ j < 2 ^ 62) ∧ I ⟨rgD 0 j, []⟩ st1 := by
  unfold iRng1D; rw [ok_bind]
  constructor
  · intro h
    refine h.mono fun d st1 q => ?_
    split at q
    · rw [ok_iteB] at q; exact ⟨_, rfl, q⟩
    · exact q.elim
  · intro h
    refine h.mono fun d st1 ⟨j, e, q⟩ => ?_
    subst e; simp only [ok_iteB]; exact q
theorem ok_rng2 {I : Wk → S → Prop} : Ok (iRng2D mr en st) I ↔ Ok (mr en st) fun ds st1 => ∃ i j, ds = [.int i, .int j] ∧ (-(2 ^ 62) ≤ i ∧ i < 2 ^ 62 ∧ -(2 ^ 62) ≤ j ∧ j < 2 ^ 62) ∧ I ⟨rgD i j, []⟩ st1 := by
  unfold iRng2D; rw [ok_bind]
  constructor
  · intro h
    refine h.mono fun d st1 q => ?_
    split at q
    · rw [ok_iteB] at q; exact ⟨_, _, rfl, q⟩
    · exact q.elim
  · intro h
    refine h.mono fun d st1 ⟨i, j, e, q⟩ => ?_
    subst e; simp only [ok_iteB]; exact q
theorem ok_lc {im : IM} {own : List Nat} {b : BM} : Ok (dLc im own b t m en st) Q ↔ Ok (im en st) fun w st1 => Ok (lcD w b t m (wipeE en own) w.items [] st1) fun acc st2 => Q (.ref st2.length) (st2 ++ [.lst acc]) := by
  unfold dLc; rw [ok_bind]; simp only [ok_bind, ok_ok]
  constructor
  · intro h
    refine h.mono fun w st1 h => ?_
    cases e : lcD w b t m (wipeE en own) w.items [] st1 with
    | ok a st => rw [e] at h; exact h
    | exc _ _ _ => rw [e] at h; exact h
    | bad => rw [e] at h; exact h
  · intro h
    refine h.mono fun w st1 h => ?_
    cases e : lcD w b t m (wipeE en own) w.items [] st1 with
    | ok a st => rw [e] at h; exact h
    | exc _ _ _ => rw [e] at h; exact h
    | bad => rw [e] at h; exact h
/-- a def -/
def Rt (Q : D → S → Prop) : Fl × En → S → Prop := fun p st1 => match p.1 with
  | .ret d => Q d st1
  | .nx => Q .non st1
  | _ => False
theorem rt_ret {d : D} {e : En} {st1 : S} : Rt Q (.ret d, e) st1 ↔ Q d st1 := Iff.rfl
theorem rt_nx {e : En} {st1 : S} : Rt Q (.nx, e) st1 ↔ Q .non st1 := Iff.rfl
theorem ok_def {np n : Nat} {ds : List D} : Ok (defD np n s ds st) Q ↔ ds.length = np ∧ Ok (s (ds.map some ++ List.replicate (n - np) none) st) (Rt Q) := by
  unfold defD
  by_cases hl : ds.length = np
  · rw [if_pos hl]
    cases e : s (ds.map some ++ List.replicate (n - np) none) st with
    | ok p st1 =>
      obtain ⟨f, en1⟩ := p
      simp only [hl, true_and]
      cases f <;> exact Iff.rfl
    | exc _ _ _ => simp only [hl, true_and]; exact Iff.rfl
    | bad => simp only [hl, true_and]; exact Iff.rfl
  · rw [if_neg hl]; simp [hl, Ok]
end

/-! ### operations on values -/
section
variable {st : S} {Q : D → S → Prop} {i j : Int} {x y : Str} {l k : List D} {n m : Nat} {d e : D}
theorem v_add : Ok (dAdd (.int i) (.int j) st) Q ↔ Q (.int (i + j)) st := Iff.rfl
theorem v_addS : Ok (dAdd (.str x) (.str y) st) Q ↔ x.length + y.length ≤ sizeLine ∧ Q (.str (x ++ y)) st := by unfold dAdd; exact ok_iteB
theorem v_addT : Ok (dAdd (.tup l) (.tup k) st) Q ↔ l.length + k.length ≤ sizeLine ∧ Q (.tup (l ++ k)) st := by unfold dAdd; exact ok_iteB
theorem v_addL (h1 : st[n]? = some (.lst l)) (h2 : st[m]? = some (.lst k)) : Ok (dAdd (.ref n) (.ref m) st) Q ↔ l.length + k.length ≤ sizeLine ∧ Q (.ref st.length) (st ++ [.lst (l ++ k)]) := by
  simp only [dAdd, h1, h2]; exact ok_iteB
theorem v_sub : Ok (dSub (.int i) (.int j) st) Q ↔ Q (.int (i - j)) st := Iff.rfl
theorem v_mul : Ok (dMul (.int i) (.int j) st) Q ↔ ((-(2 ^ 64) < i ∧ i < 2 ^ 64) ∨ (-(2 ^ 64) < j ∧ j < 2 ^ 64) ∨ i.natAbs.log2 + j.natAbs.log2 < 1000000) ∧ Q (.int (i * j)) st := by
  unfold dMul
  rw [ok_ite, ok_iteB, ok_ok]
  constructor
  · intro h
    split at h
    · rename_i hc
      exact ⟨hc.elim .inl fun z => .inr (.inl z), h⟩
    · exact ⟨.inr (.inr h.1), h.2⟩
  · rintro ⟨h1 | h1 | h1, h⟩
    · rw [if_pos (.inl h1)]; exact h
    · rw [if_pos (.inr h1)]; exact h
    · split
      · exact h
      · exact ⟨h1, h⟩
theorem v_div : Ok (dDiv (.int i) (.int j) st) Q ↔ (0 < j ∧ j.natAbs.log2 < 9000) ∧ Q (.int (i / j)) st := by unfold dDiv; exact ok_iteB
theorem v_mod : Ok (dMod (.int i) (.int j) st) Q ↔ 0 < j ∧ Q (.int (i % j)) st := by unfold dMod; exact ok_iteB
theorem v_pow : Ok (dPow (.int i) (.int j) st) Q ↔ (0 ≤ j ∧ j ≤ 1000000 ∧ i.natAbs < 2 ^ 64) ∧ Q (.int (i ^ j.toNat)) st := by unfold dPow; exact ok_iteB
theorem v_neg : Ok (dNeg (.int i) st) Q ↔ Q (.int (-i)) st := Iff.rfl
theorem v_lt : Ok (dLt (.int i) (.int j) st) Q ↔ Q (.bl (decide (i < j))) st := Iff.rfl
theorem v_le : Ok (dLe (.int i) (.int j) st) Q ↔ Q (.bl (decide (i ≤ j))) st := Iff.rfl
theorem v_gt : Ok (dGt (.int i) (.int j) st) Q ↔ Q (.bl (decide (j < i))) st := Iff.rfl
theorem v_ge : Ok (dGe (.int i) (.int j) st) Q ↔ Q (.bl (decide (j ≤ i))) st := Iff.rfl
theorem v_eqI : Ok (dEq (.int i) (.int j) st) Q ↔ Q (.bl (decide (i = j))) st := Iff.rfl
theorem v_neI : Ok (dNe (.int i) (.int j) st) Q ↔ Q (.bl (!decide (i = j))) st := Iff.rfl
theorem v_eqS : Ok (dEq (.str x) (.str y) st) Q ↔ Q (.bl (decide (x = y))) st := Iff.rfl
theorem v_neS : Ok (dNe (.str x) (.str y) st) Q ↔ Q (.bl (!decide (x = y))) st := Iff.rfl
theorem v_isN : Ok (dIs d .non st) Q ↔ Q (.bl (isNonD d)) st := by cases d <;> exact Iff.rfl
theorem v_isnotN : Ok (dIsNot d .non st) Q ↔ Q (.bl (!isNonD d)) st := by cases d <;> exact Iff.rfl
theorem v_ix : Ok (dIx (.tup l) (.int i) st) Q ↔ ∃ d, atI l i = some d ∧ Q d st := by
  simp only [dIx, seqD]
  constructor
  · intro h
    split at h
    · rename_i e; exact ⟨_, e, h⟩
    · exact h.elim
  · rintro ⟨d, e, h⟩
    simp only [e]; exact h
theorem v_ixR : Ok (dIx (.ref n) (.int i) st) Q ↔ ∃ l d, seqD st (.ref n) = some l ∧ atI l i = some d ∧ Q d st := by
  simp only [dIx]
  constructor
  · intro h
    split at h
    · rename_i e
      split at h
      · rename_i e2; exact ⟨_, _, e, e2, h⟩
      · exact h.elim
    · exact h.elim
  · rintro ⟨l, d, e, e2, h⟩
    simp only [e, e2]; exact h
theorem v_int : Ok (dInt [.int i] st) Q ↔ Q (.int i) st := Iff.rfl
theorem v_lenT : Ok (dLen [.tup l] st) Q ↔ Q (.int l.length) st := Iff.rfl
theorem v_lenS : Ok (dLen [.str x] st) Q ↔ x.length ≤ sizeLine ∧ Q (.int x.length) st := by simp only [dLen]; exact ok_iteB
theorem v_lenR : Ok (dLen [.ref n] st) Q ↔ ∃ l, seqD st (.ref n) = some l ∧ Q (.int l.length) st := by
  simp only [dLen]
  constructor
  · intro h
    split at h
    · rename_i e; exact ⟨_, e, h⟩
    · exact h.elim
  · rintro ⟨l, e, h⟩
    simp only [e]; exact h
theorem v_list : Ok (dList [.ref n] st) Q ↔ ∃ l, seqD st (.ref n) = some l ∧ Q (.ref st.length) (st ++ [.lst l]) := by
  simp only [dList]
  constructor
  · intro h
    split at h
    · rename_i e; exact ⟨_, e, h⟩
    · exact h.elim
  · rintro ⟨l, e, h⟩
    simp only [e]; exact h
theorem v_tuple : Ok (dTuple [.ref n] st) Q ↔ ∃ l, seqD st (.ref n) = some l ∧ Q (.tup l) st := by
  simp only [dTuple]
  constructor
  · intro h
    split at h
    · rename_i e; exact ⟨_, e, h⟩
    · exact h.elim
  · rintro ⟨l, e, h⟩
    simp only [e]; exact h
theorem v_append : Ok (mAppend (.ref n) [d] st) Q ↔ ∃ l, st[n]? = some (.lst l) ∧ l.length < sizeLine ∧ Q .non (st.set n (.lst (l ++ [d]))) := by
  simp only [mAppend]
  constructor
  · intro h
    split at h
    · rename_i e
      rw [ok_iteB] at h
      exact ⟨_, e, h⟩
    · exact h.elim
  · rintro ⟨l, e, h⟩
    simp only [e]
    exact ok_iteB.mpr h
theorem v_isi : Ok (dIsi [d, .ty t] st) Q ↔ ∃ a k, tyN st d = some a ∧ subTy a t = some k ∧ Q (.bl k) st := by
  simp only [dIsi]
  constructor
  · intro h
    split at h
    · rename_i e
      split at h
      · rename_i e2; exact ⟨_, _, e, e2, h⟩
      · exact h.elim
    · exact h.elim
  · rintro ⟨a, k, e, e2, h⟩
    simp only [e, e2]; exact h
theorem v_inT {g : Bool → Bool} : Ok (dIn2 g d (.tup l) st) Q ↔ (flatD d && l.all flatD) = true ∧ Q (.bl (g (inD d l))) st := by
  cases d <;> (simp only [dIn2]; exact ok_iteB)
theorem v_inS {g : Bool → Bool} : Ok (dIn2 g (.str x) (.str y) st) Q ↔ Q (.bl (g (!(Builtin.Str.occurrences y x 0 y.length 1).isEmpty))) st := Iff.rfl
theorem seqD_lst (h : st[n]? = some (.lst l)) : seqD st (.ref n) = some l := by simp only [seqD, h]
theorem seqD_frz (h : st[n]? = some (.frz l)) : seqD st (.ref n) = some l := by simp only [seqD, h]
theorem isT_lst (h : st[n]? = some (.lst l)) : isT "list" st (.ref n) = true := by simp only [isT, h]; rfl
theorem tyN_lst (h : st[n]? = some (.lst l)) : tyN st (.ref n) = some "list" := by simp only [tyN, h]
theorem wkOf_lst (h : st[n]? = some (.lst l)) : wkOf st (.ref n) = some ⟨l, [(n, l)]⟩ := by simp only [wkOf, seqD, h]
theorem atI_lt {i : Nat} (h : l[i]? = some d) : atI l (i : Int) = some d := atI_nat h
end

/-! ### loops by invariants -/
section
variable {w : Wk} {b : BM} {body : SM} {V : Fl × En → S → Prop}
/-- one turn's end -/
def Tn (I : En → S → Prop) (V : Fl × En → S → Prop) : Fl × En → S → Prop := fun p st1 => match p.1 with
  | .nx => I p.2 st1
  | .ct => I p.2 st1
  | .bk => V (.nx, p.2) st1
  | .ret v => V (.ret v, p.2) st1
theorem tn_nx {I : En → S → Prop} {e : En} {st : S} : Tn I V (.nx, e) st ↔ I e st := Iff.rfl
theorem tn_ct {I : En → S → Prop} {e : En} {st : S} : Tn I V (.ct, e) st ↔ I e st := Iff.rfl
theorem tn_bk {I : En → S → Prop} {e : En} {st : S} : Tn I V (.bk, e) st ↔ V (.nx, e) st := Iff.rfl
theorem tn_ret {I : En → S → Prop} {d : D} {e : En} {st : S} : Tn I V (.ret d, e) st ↔ V (.ret d, e) st := Iff.rfl
/-- the loop over all the items that are left; I i: what holds ahead of the i-th item -/
theorem ok_loop (I : Nat → En → S → Prop) (hw : ∀ i en st, I i en st → WkOk w st)
    (hs : ∀ i d en st, w.items[i]? = some d → I i en st → ∃ en1, b d en = some en1 ∧ Ok (body en1 st) (Tn (I (i + 1)) V)) (hd : ∀ en st, I w.items.length en st → V (.nx, en) st) :
    ∀ (k i : Nat) (en : En) (st : S), k + i = w.items.length → I i en st → Ok (loopD w b body (w.items.drop i) en st) V
  | 0, i, en, st, e, h => by
    rw [List.drop_eq_nil_of_le (by omega)]
    unfold loopD
    rw [chk_iff.mpr (hw i en st h)]
    have : i = w.items.length := by omega
    subst this
    exact hd en st h
  | k + 1, i, en, st, e, h => by
    have hi : i < w.items.length := by omega
    rw [List.drop_eq_getElem_cons hi]
    unfold loopD
    rw [if_pos (chk_iff.mpr (hw i en st h))]
    obtain ⟨en1, e1, h1⟩ := hs i _ en st (List.getElem?_eq_getElem hi) h
    rw [e1]
    simp only [ok_bind]
    refine h1.mono fun p st1 q => ?_
    obtain ⟨f, en2⟩ := p
    cases f with
    | nx => exact ok_loop I hw hs hd k (i + 1) en2 st1 (by omega) q
    | ct => exact ok_loop I hw hs hd k (i + 1) en2 st1 (by omega) q
    | bk => exact q
    | ret v => exact q
theorem ok_loop0 {en : En} {st : S} (I : Nat → En → S → Prop) (h0 : I 0 en st) (hw : ∀ i en st, I i en st → WkOk w st)
    (hs : ∀ i d en st, w.items[i]? = some d → I i en st → ∃ en1, b d en = some en1 ∧ Ok (body en1 st) (Tn (I (i + 1)) V)) (hd : ∀ en st, I w.items.length en st → V (.nx, en) st) : Ok (loopD w b body w.items en st) V := by
  have := ok_loop I hw hs hd w.items.length 0 en st (by omega) h0
  rwa [List.drop_zero] at this
variable {t : TM} {m : EM} {en : En} {R : List D → S → Prop}
/-- a comprehension: what holds ahead of the i-th item, with what was made so far -/
theorem ok_lcD (I : Nat → List D → S → Prop) (hw : ∀ i acc st, I i acc st → WkOk w st)
    (hs : ∀ i d acc st, w.items[i]? = some d → I i acc st → ∃ en1, b d en = some en1 ∧ Ok (t en1 st) fun k st1 => if k = true then Ok (m en1 st1) fun y st2 => acc.length < sizeLine ∧ I (i + 1) (acc ++ [y]) st2 else I (i + 1) acc st1)
    (hd : ∀ acc st, I w.items.length acc st → R acc st) : ∀ (k i : Nat) (acc : List D) (st : S), k + i = w.items.length → I i acc st → Ok (lcD w b t m en (w.items.drop i) acc st) R
  | 0, i, acc, st, e, h => by
    rw [List.drop_eq_nil_of_le (by omega)]
    unfold lcD
    rw [chk_iff.mpr (hw i acc st h)]
    have : i = w.items.length := by omega
    subst this
    exact hd acc st h
  | k + 1, i, acc, st, e, h => by
    have hi : i < w.items.length := by omega
    rw [List.drop_eq_getElem_cons hi]
    unfold lcD
    rw [if_pos (chk_iff.mpr (hw i acc st h))]
    obtain ⟨en1, e1, h1⟩ := hs i _ acc st (List.getElem?_eq_getElem hi) h
    rw [e1]
    simp only [ok_bind, ok_ite]
    refine h1.mono fun c st1 q => ?_
    cases c with
    | true =>
      simp only [if_true] at q ⊢
      refine q.mono fun y st2 ⟨q1, q2⟩ => ?_
      rw [if_pos q1]
      exact ok_lcD I hw hs hd k (i + 1) _ st2 (by omega) q2
    | false =>
      simp only [Bool.false_eq_true, if_false] at q ⊢
      exact ok_lcD I hw hs hd k (i + 1) acc st1 (by omega) q
theorem ok_lcD0 {st : S} (I : Nat → List D → S → Prop) (h0 : I 0 [] st) (hw : ∀ i acc st, I i acc st → WkOk w st)
    (hs : ∀ i d acc st, w.items[i]? = some d → I i acc st → ∃ en1, b d en = some en1 ∧ Ok (t en1 st) fun k st1 => if k = true then Ok (m en1 st1) fun y st2 => acc.length < sizeLine ∧ I (i + 1) (acc ++ [y]) st2 else I (i + 1) acc st1)
    (hd : ∀ acc st, I w.items.length acc st → R acc st) : Ok (lcD w b t m en w.items [] st) R := by
  have := ok_lcD I hw hs hd w.items.length 0 [] st (by omega) h0
  rwa [List.drop_zero] at this
end

/-! ### pure data -/
/-- no list, no object in it; not too deep; its texts are texts -/
def pureD : Nat → D → Bool
  | 0, _ => false
  | _ + 1, .non => true
  | _ + 1, .bl _ => true
  | _ + 1, .int _ => true
  | _ + 1, .str x => PyData.strOk x
  | n + 1, .tup l => l.all (pureD n)
  | _ + 1, .ref _ => false
  | _ + 1, .ty _ => false
mutual
def toP : D → PyData
  | .non => .none
  | .bl b => .bool b
  | .int i => .int i
  | .str x => .str x
  | .tup l => .tuple (toPs l)
  | .ref _ => .none
  | .ty _ => .none
def toPs : List D → List PyData
  | [] => []
  | d :: ds => toP d :: toPs ds
end
/-! as == sees it: True is 1 -/
mutual
def nrm : D → D
  | .bl b => .int (if b then 1 else 0)
  | .tup l => .tup (nrms l)
  | .non => .non
  | .int i => .int i
  | .str x => .str x
  | .ref n => .ref n
  | .ty n => .ty n
def nrms : List D → List D
  | [] => []
  | d :: ds => nrm d :: nrms ds
end
theorem toPs_map : ∀ l, toPs l = l.map toP
  | [] => by rw [toPs]; rfl
  | d :: ds => by rw [toPs, toPs_map ds]; rfl
theorem nrms_map : ∀ l, nrms l = l.map nrm
  | [] => by rw [nrms]; rfl
  | d :: ds => by rw [nrms, nrms_map ds]; rfl
theorem mapO_pure {f : D → Option PyData} : ∀ {l : List D}, (∀ d ∈ l, f d = some (toP d)) → mapO f l = some (l.map toP)
  | [], _ => rfl
  | d :: ds, h => by
    unfold mapO
    rw [h d List.mem_cons_self, mapO_pure fun e he => h e (List.mem_cons_of_mem _ he)]
    rfl
theorem tre_pure {st : S} : ∀ (n f : Nat) (d : D), pureD n d = true → n ≤ f → tre st f d = some (toP d)
  | 0, _, _, h, _ => by simp [pureD] at h
  | n + 1, 0, _, _, hf => absurd hf (by omega)
  | n + 1, f + 1, .non, _, _ => by simp [tre, toP]
  | n + 1, f + 1, .bl _, _, _ => by simp [tre, toP]
  | n + 1, f + 1, .int _, _, _ => by simp [tre, toP]
  | n + 1, f + 1, .str _, _, _ => by simp [tre, toP]
  | n + 1, f + 1, .tup l, h, hf => by
    simp only [pureD, List.all_eq_true] at h
    simp only [tre, toP, toPs_map]
    rw [mapO_pure fun d hd => tre_pure n f d (h d hd) (by omega)]
    rfl
  | n + 1, f + 1, .ref _, h, _ => by simp [pureD] at h
  | n + 1, f + 1, .ty _, h, _ => by simp [pureD] at h
theorem canLayAll_of {l : List PyData} (h : ∀ p ∈ l, PyData.canLay0 p = true) : PyData.canLayAll0 l = true := by
  induction l with
  | nil => simp [PyData.canLayAll0]
  | cons p ps ih => simp only [PyData.canLayAll0, Bool.and_eq_true]; exact ⟨h p List.mem_cons_self, ih fun q hq => h q (List.mem_cons_of_mem _ hq)⟩
theorem depthAll_of {l : List PyData} {n : Nat} (h : ∀ p ∈ l, PyData.depth p ≤ n) : PyData.depthAll l ≤ n := by
  induction l with
  | nil => simp [PyData.depthAll]
  | cons p ps ih =>
    have h1 := h p List.mem_cons_self
    have h2 := ih fun q hq => h q (List.mem_cons_of_mem _ hq)
    simp only [PyData.depthAll]
    omega
theorem lay_pure : ∀ (n : Nat) (d : D), pureD n d = true → PyData.canLay0 (toP d) = true ∧ PyData.depth (toP d) ≤ n
  | 0, _, h => by simp [pureD] at h
  | n + 1, .non, _ => by simp [toP, PyData.canLay0, PyData.depth]
  | n + 1, .bl _, _ => by simp [toP, PyData.canLay0, PyData.depth]
  | n + 1, .int _, _ => by simp [toP, PyData.canLay0, PyData.depth]
  | n + 1, .str x, h => by
    simp only [pureD] at h
    simp only [toP, PyData.canLay0, PyData.depth, h, true_and]
    omega
  | n + 1, .tup l, h => by
    simp only [pureD, List.all_eq_true] at h
    have h1 : ∀ p ∈ l.map toP, PyData.canLay0 p = true ∧ PyData.depth p ≤ n := fun p hp => by
      obtain ⟨d, hd, rfl⟩ := List.mem_map.mp hp
      exact lay_pure n d (h d hd)
    simp only [toP, toPs_map, PyData.canLay0, PyData.depth]
    exact ⟨canLayAll_of fun p hp => (h1 p hp).1, by have := depthAll_of fun p hp => (h1 p hp).2; omega⟩
  | n + 1, .ref _, h => by simp [pureD] at h
  | n + 1, .ty _, h => by simp [pureD] at h
theorem shaped_pure {n : Nat} {d : D} (h : pureD n d = true) (hn : n ≤ 63) : SeqAt.shaped (toP d) = true := by
  obtain ⟨h1, h2⟩ := lay_pure n d h
  unfold SeqAt.shaped
  rw [h1, Bool.true_and]
  exact decide_eq_true (by omega)
theorem shaped_list {n : Nat} {l : List D} (h : ∀ d ∈ l, pureD n d = true) (hn : n ≤ 63) : SeqAt.shaped (.list (l.map toP)) = true := by
  have h1 : ∀ p ∈ l.map toP, PyData.canLay0 p = true ∧ PyData.depth p ≤ n := fun p hp => by
    obtain ⟨d, hd, rfl⟩ := List.mem_map.mp hp
    exact lay_pure n d (h d hd)
  unfold SeqAt.shaped
  simp only [PyData.canLay0, PyData.depth, Bool.and_eq_true]
  exact ⟨canLayAll_of fun p hp => (h1 p hp).1, decide_eq_true (by have := depthAll_of fun p hp => (h1 p hp).2; omega)⟩
theorem eqvAll_iff {f : D → D → Prop} : ∀ {l k : List D}, (∀ x ∈ l, ∀ y ∈ k, (PyData.eqv (toP x) (toP y) = true ↔ nrm x = nrm y)) → (PyData.eqvAll (l.map toP) (k.map toP) = true ↔ l.map nrm = k.map nrm)
  | [], [], _ => by simp [PyData.eqvAll]
  | [], _ :: _, _ => by simp [PyData.eqvAll]
  | _ :: _, [], _ => by simp [PyData.eqvAll]
  | x :: xs, y :: ys, h => by
    simp only [List.map_cons, PyData.eqvAll, Bool.and_eq_true, List.cons.injEq]
    rw [h x List.mem_cons_self y List.mem_cons_self, eqvAll_iff (f := f) fun a ha b hb => h a (List.mem_cons_of_mem _ ha) b (List.mem_cons_of_mem _ hb)]
theorem eqv_pure : ∀ (n k : Nat) (d e : D), pureD n d = true → pureD k e = true → (PyData.eqv (toP d) (toP e) = true ↔ nrm d = nrm e)
  | 0, _, _, _, h, _ => by simp [pureD] at h
  | _, 0, _, _, _, h => by simp [pureD] at h
  | n + 1, k + 1, d, e, h, h' => by
    cases d <;> first | (simp [pureD] at h; done) | skip
    all_goals (cases e <;> first | (simp [pureD] at h'; done) | skip)
    case tup.tup l m =>
      simp only [pureD, List.all_eq_true] at h h'
      simp only [toP, toPs_map, PyData.eqv, nrm, nrms_map, D.tup.injEq]
      exact eqvAll_iff (f := fun _ _ => True) fun x hx y hy => eqv_pure n k x y (h x hx) (h' y hy)
    case bl.bl a b => cases a <;> cases b <;> simp [toP, PyData.eqv, nrm]
    all_goals (simp [toP, PyData.eqv, nrm])
theorem eqv_list {n k : Nat} {l m : List D} (h : ∀ d ∈ l, pureD n d = true) (h' : ∀ d ∈ m, pureD k d = true) : PyData.eqv (.list (l.map toP)) (.list (m.map toP)) = true ↔ l.map nrm = m.map nrm := by
  rw [PyData.eqv]
  exact eqvAll_iff (f := fun _ _ => True) fun x hx y hy => eqv_pure n k x y (h x hx) (h' y hy)
section
variable {st : S} {Q : D → S → Prop} {l k : List D} {n m : Nat} {d e : D}
/-- == of two lists of pure data, of two pure data -/
theorem v_eqL {g : Bool → Bool} {p q : Nat} (h1 : st[n]? = some (.lst l)) (h2 : st[m]? = some (.lst k)) (hl : ∀ d ∈ l, pureD p d = true) (hk : ∀ d ∈ k, pureD q d = true) (hp : p ≤ 11) (hq : q ≤ 11)
    (h : Q (.bl (g (@decide (l.map nrm = k.map nrm) (Classical.propDecidable _)))) st) : Ok (dEq2 g (.ref n) (.ref m) st) Q := by
  unfold dEq2
  have e1 : tre st 12 (.ref n) = some (.list (l.map toP)) := by simp only [tre, h1]; rw [mapO_pure fun d hd => tre_pure p 11 d (hl d hd) hp]; rfl
  have e2 : tre st 12 (.ref m) = some (.list (k.map toP)) := by simp only [tre, h2]; rw [mapO_pure fun d hd => tre_pure q 11 d (hk d hd) hq]; rfl
  simp only [e1, e2, shaped_list hl (by omega), shaped_list hk (by omega), Bool.and_self, if_true]
  rw [ok_ok]
  have : PyData.eqv (.list (l.map toP)) (.list (k.map toP)) = @decide (l.map nrm = k.map nrm) (Classical.propDecidable _) := by
    rw [Bool.eq_iff_iff, eqv_list hl hk]
    exact (@decide_eq_true_iff _ (Classical.propDecidable _)).symm
  rw [this]
  exact h
theorem v_eqP {g : Bool → Bool} {p q : Nat} (hd : pureD p d = true) (he : pureD q e = true) (hp : p ≤ 12) (hq : q ≤ 12) (h : Q (.bl (g (@decide (nrm d = nrm e) (Classical.propDecidable _)))) st) : Ok (dEq2 g d e st) Q := by
  have key : PyData.eqv (toP d) (toP e) = @decide (nrm d = nrm e) (Classical.propDecidable _) := by
    rw [Bool.eq_iff_iff, eqv_pure p q d e hd he]
    exact (@decide_eq_true_iff _ (Classical.propDecidable _)).symm
  have gen : Ok (match tre st 12 d, tre st 12 e with
    | some a, some b => if (SeqAt.shaped a && SeqAt.shaped b) = true then .ok (.bl (g (PyData.eqv a b))) st else .bad
    | _, _ => .bad) Q := by
    simp only [tre_pure p 12 d hd hp, tre_pure q 12 e he hq, shaped_pure hd (by omega), shaped_pure he (by omega), Bool.and_self, if_true]
    rw [ok_ok, key]
    exact h
  unfold dEq2
  split
  · rename_i a b
    rw [ok_ok, show decide (a = b) = @decide (nrm (.int a) = nrm (.int b)) (Classical.propDecidable _) by rw [Bool.eq_iff_iff]; simp [nrm]]
    exact h
  · rename_i a b
    rw [ok_ok, show decide (a = b) = @decide (nrm (.str a) = nrm (.str b)) (Classical.propDecidable _) by rw [Bool.eq_iff_iff]; simp [nrm]]
    exact h
  · rename_i a b
    rw [ok_ok, show decide (a = b) = @decide (nrm (.bl a) = nrm (.bl b)) (Classical.propDecidable _) by rw [Bool.eq_iff_iff]; cases a <;> cases b <;> simp [nrm]]
    exact h
  · exact gen
end
end Dn

/-! Dn, Q: reasoning about classes, enumerate, texts of ints, nested lists. -/
namespace Dn
open PySem L2
section
variable {en : En} {st : S} {Q : D → S → Prop} {R : List D → S → Prop} {T : Bool → S → Prop} {V : Fl × En → S → Prop} {m mo ma mb mv : EM} {mr : AM} {cs : List Str} {f c : Str} {tab : List (Str × (List D → S → Out D))} {np : Nat}
theorem ok_fld : Ok (dFld cs f m en st) Q ↔ Ok (m en st) fun d st1 => ∃ n c fs x, d = .ref n ∧ st1[n]? = some (.ins c fs) ∧ cs.contains c = true ∧ fs.lookup f = some x ∧ Q x st1 := by
  unfold dFld; rw [ok_bind]
  constructor
  · intro h
    refine h.mono fun d st1 q => ?_
    split at q
    · split at q
      · rename_i n c fs g
        split at q
        · rename_i hc
          split at q
          · rename_i x e; exact ⟨_, _, _, _, rfl, g, hc, e, q⟩
          · exact q.elim
        · exact q.elim
      · exact q.elim
    · exact q.elim
  · intro h
    refine h.mono fun d st1 ⟨n, c, fs, x, e, g, hc, l, q⟩ => ?_
    subst e
    simp only [g, hc, l, if_true]
    exact q
theorem ok_fldS : Ok (sFldS cs f mo mv en st) V ↔ Ok (mv en st) fun d st1 => Ok (mo en st1) fun o st2 => ∃ n c fs, o = .ref n ∧ st2[n]? = some (.ins c fs) ∧ cs.contains c = true ∧ fs.length < 1000 ∧ V (.nx, en) (st2.set n (.ins c (putD f d fs))) := by
  unfold sFldS; simp only [ok_bind]
  constructor
  · intro h
    refine h.mono fun d st1 h => h.mono fun o st2 q => ?_
    split at q
    · split at q
      · rename_i n c fs g
        rw [ok_iteB, Bool.and_eq_true, decide_eq_true_eq] at q
        exact ⟨_, _, _, rfl, g, q.1.1, q.1.2, q.2⟩
      · exact q.elim
    · exact q.elim
  · intro h
    refine h.mono fun d st1 h => h.mono fun o st2 ⟨n, c, fs, e, g, hc, hl, q⟩ => ?_
    subst e
    simp only [g, hc, hl, Bool.true_and, decide_true, if_true]
    exact q
theorem ok_met {k : Str} : Ok (dMet tab k np mo mr en st) Q ↔ Ok (mo en st) fun o st1 => ∃ n c fs f, o = .ref n ∧ st1[n]? = some (.ins c fs) ∧ fs.lookup k = none ∧ tab.lookup c = some f ∧ Ok (mr en st1) fun ds st2 => ds.length + 1 = np ∧ Ok (f (.ref n :: ds) st2) Q := by
  unfold dMet; simp only [ok_bind]
  constructor
  · intro h
    refine h.mono fun d st1 q => ?_
    split at q
    · split at q
      · rename_i n c fs g
        split at q
        · rename_i f e1 e2
          simp only [ok_bind, ok_iteB, ok_atEn] at q
          exact ⟨_, _, _, _, rfl, g, e1, e2, q⟩
        · exact q.elim
      · exact q.elim
    · exact q.elim
  · intro h
    refine h.mono fun d st1 ⟨n, c, fs, f, e, g, e1, e2, q⟩ => ?_
    subst e
    simp only [g, e1, e2, ok_bind, ok_iteB, ok_atEn]
    exact q
theorem ok_prop : Ok (dProp tab mo en st) Q ↔ Ok (mo en st) fun o st1 => ∃ n c fs f, o = .ref n ∧ st1[n]? = some (.ins c fs) ∧ tab.lookup c = some f ∧ Ok (f [.ref n] st1) Q := by
  unfold dProp; simp only [ok_bind]
  constructor
  · intro h
    refine h.mono fun d st1 q => ?_
    split at q
    · split at q
      · rename_i n c fs g
        split at q
        · rename_i f e2
          split at q
          · rename_i e
            exact ⟨_, _, _, f, rfl, by assumption, e2, by rw [e]; exact q⟩
          · exact q.elim
        · exact q.elim
      · exact q.elim
    · exact q.elim
  · intro h
    refine h.mono fun d st1 ⟨n, c, fs, f, e, g, e2, q⟩ => ?_
    subst e
    simp only [g, e2]
    cases e : f [.ref n] st1 with
    | ok d st2 => rw [e] at q; exact q
    | exc x y z => rw [e] at q; exact q.elim
    | bad => rw [e] at q; exact q.elim
theorem ok_make {g : List D → S → Out D} : Ok (dMake c np g mr en st) Q ↔ Ok (mr en st) fun ds st1 => ds.length + 1 = np ∧ Ok (g (.ref st1.length :: ds) (st1 ++ [.ins c []])) fun d st2 => d = .non ∧ Q (.ref st1.length) st2 := by
  unfold dMake; simp only [ok_bind, ok_iteB, ok_atEn]
  constructor
  · intro h
    refine h.mono fun ds st1 ⟨a, q⟩ => ⟨a, q.mono fun d st2 z => ?_⟩
    split at z
    · exact ⟨rfl, z⟩
    · exact z.elim
  · intro h
    refine h.mono fun ds st1 ⟨a, q⟩ => ⟨a, q.mono fun d st2 ⟨e, z⟩ => ?_⟩
    subst e
    exact z
theorem ok_iEn {I : Wk → S → Prop} : Ok (iEn mr en st) I ↔ Ok (mr en st) fun ds st1 => ∃ n l, ds = [.ref n] ∧ seqD st1 (.ref n) = some l ∧ I ⟨enD l, [(n, l)]⟩ st1 := by
  unfold iEn; rw [ok_bind]
  constructor
  · intro h
    refine h.mono fun ds st1 q => ?_
    split at q
    · split at q
      · rename_i n l e; exact ⟨_, _, rfl, e, q⟩
      · exact q.elim
    · exact q.elim
  · intro h
    refine h.mono fun ds st1 ⟨n, l, e, g, q⟩ => ?_
    subst e
    simp only [g]
    exact q
theorem v_str {i : Int} : Ok (dStr [.int i] st) Q ↔ i.natAbs.log2 < 1920 ∧ Q (.str (toString i)) st := by unfold dStr; exact ok_iteB
theorem v_extend {n k : Nat} {l l2 : List D} (h1 : st[n]? = some (.lst l)) (h2 : st[k]? = some (.lst l2)) : Ok (mExtend (.ref n) [.ref k] st) Q ↔ l.length + l2.length ≤ sizeLine ∧ Q .non (st.set n (.lst (l ++ l2))) := by
  simp only [mExtend, h1, h2]; exact ok_iteB
/-- == of what is no pair of ints, texts, truths: by its tree -/
theorem v_eqT {g : Bool → Bool} {n : Nat} {e : D} {a b : PyData} (h1 : tre st 12 (.ref n) = some a) (h2 : tre st 12 e = some b) (s1 : SeqAt.shaped a = true) (s2 : SeqAt.shaped b = true) (h : Q (.bl (g (PyData.eqv a b))) st) : Ok (dEq2 g (.ref n) e st) Q := by
  unfold dEq2
  simp only [h1, h2, s1, s2, Bool.and_self, if_true]
  rw [ok_ok]
  exact h
theorem enD_get {l : List D} {i : Nat} {d : D} (h : (enD l)[i]? = some d) : ∃ x, l[i]? = some x ∧ d = .tup [.int (i : Int), x] := by
  unfold enD at h
  simp only [List.getElem?_map, List.getElem?_zipIdx] at h
  cases e : l[i]? with
  | none => rw [e] at h; simp at h
  | some x => rw [e] at h; simp at h; exact ⟨x, rfl, h.symm⟩
end
section
variable {en : En} {st : S} {Q : D → S → Prop} {R : List D → S → Prop} {ma : EM} {mr : AM}
theorem ok_star : Ok (dStar ma mr en st) R ↔ Ok (ma en st) fun x st1 => ∃ l, seqD st1 x = some l ∧ Ok (mr en st1) fun ys st2 => R (l ++ ys) st2 := by
  unfold dStar; simp only [ok_bind]
  constructor
  · intro h
    refine h.mono fun x st1 q => ?_
    cases e : seqD st1 x with
    | none => rw [e] at q; exact q.elim
    | some l => rw [e] at q; simp only [ok_bind, ok_ok] at q; exact ⟨l, rfl, q⟩
  · intro h
    refine h.mono fun x st1 ⟨l, e, q⟩ => ?_
    rw [e]; simp only [ok_bind, ok_ok]; exact q
theorem ok_cix {ys : List Str} : Ok (dCIx ys mr en st) Q ↔ Ok (mr en st) fun xs st1 => ∃ z j, xs = [.str z] ∧ idxS z ys = some j ∧ Q (.int (j : Nat)) st1 := by
  unfold dCIx; simp only [ok_bind]
  constructor
  · intro h
    refine h.mono fun x st1 q => ?_
    split at q
    · split at q
      · rename_i j e; exact ⟨_, j, rfl, e, q⟩
      · exact q.elim
    · exact q.elim
  · intro h
    refine h.mono fun x st1 ⟨z, j, e, e2, q⟩ => ?_
    subst e
    simp only [e2]
    exact q
theorem v_extT {n : Nat} {l l2 : List D} (h1 : st[n]? = some (.lst l)) : Ok (mExtendA (.ref n) [.tup l2] st) Q ↔ l.length + l2.length ≤ sizeLine ∧ Q .non (st.set n (.lst (l ++ l2))) := by
  simp only [mExtendA, h1]; exact ok_iteB
theorem v_extL {n k : Nat} {l l2 : List D} (h1 : st[n]? = some (.lst l)) (h2 : st[k]? = some (.lst l2)) : Ok (mExtendA (.ref n) [.ref k] st) Q ↔ l.length + l2.length ≤ sizeLine ∧ Q .non (st.set n (.lst (l ++ l2))) := by
  simp only [mExtendA]; exact v_extend h1 h2
theorem mapO_strs : ∀ ys : List Str, mapO strOf (ys.map D.str) = some ys
  | [] => rfl
  | y :: ys => by simp only [List.map_cons, mapO, strOf, mapO_strs ys]
theorem v_join {n : Nat} {a : Str} {ys : List Str} (h1 : st[n]? = some (.lst (ys.map D.str))) (hz : (ys.map (·.length)).sum + ys.length * a.length ≤ 16777216) (h : Q (.str (Txt.join a ys)) st) : Ok (mJoin (.str a) [.ref n] st) Q := by
  simp only [mJoin, seqD_lst h1, mapO_strs, hz, if_true]
  exact h
end
end Dn

/-! Dn, R: frames, items by written places, points, pure calls in comprehensions. -/
namespace Dn
open PySem L2
/-- the store grew; only what is in F may have changed -/
structure Fr (F : Nat → Prop) (st st' : S) : Prop where
  len : st.length ≤ st'.length
  oth : ∀ b, b < st.length → ¬ F b → st'[b]? = st[b]?
abbrev FN : Nat → Prop := fun _ => False
theorem lt_at {st : S} {n : Nat} {o : O} (e : st[n]? = some o) : n < st.length := (List.getElem?_eq_some_iff.mp e).1
section
variable {F F1 F2 : Nat → Prop} {a b c st st' : S} {o o' : O} {n m : Nat}
theorem Fr.refl (st : S) : Fr F st st := ⟨Nat.le_refl _, fun _ _ _ => rfl⟩
theorem Fr.trans (h : Fr F a b) (h' : Fr F b c) : Fr F a c := ⟨Nat.le_trans h.len h'.len, fun x hx n => (h'.oth x (Nat.lt_of_lt_of_le hx h.len) n).trans (h.oth x hx n)⟩
/-- the second step may also change what the first one made -/
theorem Fr.trans' (h : Fr F a b) (h' : Fr F1 b c) (q : ∀ x, F1 x → F x ∨ a.length ≤ x) : Fr F a c := ⟨Nat.le_trans h.len h'.len, fun x hx n => (h'.oth x (Nat.lt_of_lt_of_le hx h.len) fun z => (q x z).elim n (fun l => by omega)).trans (h.oth x hx n)⟩
theorem Fr.weak (h : Fr F a b) (q : ∀ x, F x → F1 x) : Fr F1 a b := ⟨h.len, fun x hx n => h.oth x hx fun z => n (q x z)⟩
theorem Fr.push (st : S) (o : O) : Fr F st (st ++ [o]) := ⟨by simp, fun b hb _ => List.getElem?_append_left hb⟩
theorem Fr.at_ (h : Fr F st st') (e : st[n]? = some o) (hn : ¬ F n) : st'[n]? = some o := (h.oth n (lt_at e) hn).trans e
theorem Fr.at0 (h : Fr FN st st') (e : st[n]? = some o) : st'[n]? = some o := h.at_ e fun z => z
theorem Fr.w0 (h : Fr FN a b) : Fr F a b := h.weak fun _ z => z.elim
theorem Fr.set (h : Fr F a st) (hm : F m ∨ a.length ≤ m) : Fr F a (st.set m o) := ⟨by rw [List.length_set]; exact h.len, fun b hb hn => by
  rw [List.getElem?_set_ne (fun e => by subst e; rcases hm with z | z; exact hn z; omega)]; exact h.oth b hb hn⟩
theorem fr_at (st : S) (o : O) : (st ++ [o])[st.length]? = some o := by rw [List.getElem?_append_right (Nat.le_refl _), Nat.sub_self]; rfl
theorem st_at (h : st[m]? = some o') : (st.set m o)[m]? = some o := List.getElem?_set_self (lt_at h)
theorem st_ot (h : st[n]? = some o') (hn : m ≠ n) : (st.set m o)[n]? = some o' := by rw [List.getElem?_set_ne hn]; exact h
end
theorem sml {n : Nat} (h : n ≤ 10000) : n ≤ sizeLine := Nat.le_trans h (by decide)
theorem sml' {n : Nat} (h : n ≤ 10000) : n < sizeLine := Nat.lt_of_le_of_lt h (by decide)

section
variable {i : Int} {l : List D} {x : Str} {n : Nat} {b : Bool}
theorem nonD_non : isNonD .non = true := rfl
theorem nonD_int : isNonD (.int i) = false := rfl
theorem nonD_tup : isNonD (.tup l) = false := rfl
theorem nonD_str : isNonD (.str x) = false := rfl
theorem nonD_ref : isNonD (.ref n) = false := rfl
theorem nonD_bl : isNonD (.bl b) = false := rfl
end
theorem lk_one {α : Type} {c : Str} {x : α} : List.lookup c [(c, x)] = some x := by simp [List.lookup]
theorem ct1 {c : Str} : ([c] : List Str).contains c = true := by simp
theorem set_same {st : S} {m : Nat} {o : O} (h : st[m]? = some o) : st.set m o = st := by
  apply List.ext_getElem?
  intro i
  by_cases e : m = i
  · subst e; rw [st_at h, h]
  · rw [List.getElem?_set_ne e]
/-- a whole number or None -/
def optD : Option Int → D
  | none => .non
  | some i => .int i
theorem optD_n : optD none = .non := rfl
theorem optD_s {i : Int} : optD (some i) = .int i := rfl
theorem optD_non (x : Option Int) : isNonD (optD x) = x.isNone := by cases x <;> rfl
section
variable {st : S} {i : Int} {b c : Bool} {n : Nat} {l : List D} {x : Str} {Q : D → S → Prop} {g : Bool → Bool}
theorem v_isB : Ok (dIs (.bl b) (.bl c) st) Q ↔ Q (.bl (decide (b = c))) st := Iff.rfl
theorem v_isnotB : Ok (dIsNot (.bl b) (.bl c) st) Q ↔ Q (.bl (!decide (b = c))) st := Iff.rfl
theorem v_eqB : Ok (dEq (.bl b) (.bl c) st) Q ↔ Q (.bl (decide (b = c))) st := Iff.rfl
theorem v_neB : Ok (dNe (.bl b) (.bl c) st) Q ↔ Q (.bl (!decide (b = c))) st := Iff.rfl
theorem v_intB : Ok (dInt [.bl b] st) Q ↔ Q (.int (if b then 1 else 0)) st := Iff.rfl
theorem tru_non : truD st .non = some false := rfl
theorem tru_bl : truD st (.bl b) = some b := rfl
theorem tru_int : truD st (.int i) = some (i != 0) := rfl
theorem tru_tup : truD st (.tup l) = some (!l.isEmpty) := rfl
theorem tru_ref : truD st (.ref n) = match st[n]? with
    | some (.lst l) => some (!l.isEmpty)
    | some (.frz l) => some (!l.isEmpty)
    | _ => none := rfl
theorem ty_non : tyN st .non = some "NoneType" := rfl
theorem ty_bl : tyN st (.bl b) = some "bool" := rfl
theorem ty_int : tyN st (.int i) = some "int" := rfl
theorem ty_str : tyN st (.str x) = some "str" := rfl
theorem ty_tup : tyN st (.tup l) = some "tuple" := rfl
theorem ty_ref : tyN st (.ref n) = match st[n]? with
    | some (.lst _) => some "list"
    | some (.frz _) => some "list"
    | _ => none := rfl
theorem sq_tup : seqD st (.tup l) = some l := rfl
theorem sq_ref : seqD st (.ref n) = match st[n]? with
    | some (.lst l) => some l
    | some (.frz l) => some l
    | _ => none := rfl
theorem wk_tup : wkOf st (.tup l) = some ⟨l, []⟩ := rfl
theorem wk_str : wkOf st (.str x) = some ⟨signsD x, []⟩ := rfl
theorem wk_ref : wkOf st (.ref n) = match seqD st (.ref n) with
    | some l => some ⟨l, [(n, l)]⟩
    | none => none := rfl
theorem sb_bool_bool : subTy "bool" "bool" = some true := by simp [subTy]
theorem sb_bool_int : subTy "bool" "int" = some true := by simp [subTy]
theorem sb_bool_str : subTy "bool" "str" = some false := by simp [subTy]
theorem sb_bool_tuple : subTy "bool" "tuple" = some false := by simp [subTy]
theorem sb_bool_list : subTy "bool" "list" = some false := by simp [subTy]
theorem sb_int_bool : subTy "int" "bool" = some false := by simp [subTy]
theorem sb_int_int : subTy "int" "int" = some true := by simp [subTy]
theorem sb_int_str : subTy "int" "str" = some false := by simp [subTy]
theorem sb_int_tuple : subTy "int" "tuple" = some false := by simp [subTy]
theorem sb_int_list : subTy "int" "list" = some false := by simp [subTy]
theorem sb_str_bool : subTy "str" "bool" = some false := by simp [subTy]
theorem sb_str_int : subTy "str" "int" = some false := by simp [subTy]
theorem sb_str_str : subTy "str" "str" = some true := by simp [subTy]
theorem sb_str_tuple : subTy "str" "tuple" = some false := by simp [subTy]
theorem sb_str_list : subTy "str" "list" = some false := by simp [subTy]
theorem sb_tuple_bool : subTy "tuple" "bool" = some false := by simp [subTy]
theorem sb_tuple_int : subTy "tuple" "int" = some false := by simp [subTy]
theorem sb_tuple_str : subTy "tuple" "str" = some false := by simp [subTy]
theorem sb_tuple_tuple : subTy "tuple" "tuple" = some true := by simp [subTy]
theorem sb_tuple_list : subTy "tuple" "list" = some false := by simp [subTy]
theorem sb_list_bool : subTy "list" "bool" = some false := by simp [subTy]
theorem sb_list_int : subTy "list" "int" = some false := by simp [subTy]
theorem sb_list_str : subTy "list" "str" = some false := by simp [subTy]
theorem sb_list_tuple : subTy "list" "tuple" = some false := by simp [subTy]
theorem sb_list_list : subTy "list" "list" = some true := by simp [subTy]
theorem sb_NoneType_bool : subTy "NoneType" "bool" = some false := by simp [subTy]
theorem sb_NoneType_int : subTy "NoneType" "int" = some false := by simp [subTy]
theorem sb_NoneType_str : subTy "NoneType" "str" = some false := by simp [subTy]
theorem sb_NoneType_tuple : subTy "NoneType" "tuple" = some false := by simp [subTy]
theorem sb_NoneType_list : subTy "NoneType" "list" = some false := by simp [subTy]
end
/-! ### items at written places -/
section
variable {a b c d e f : D} {l : List D}
theorem atI_0 : atI (a :: l) 0 = some a := atI_nat (j := 0) rfl
theorem atI_1 : atI (a :: b :: l) 1 = some b := atI_nat (j := 1) rfl
theorem atI_2 : atI (a :: b :: c :: l) 2 = some c := atI_nat (j := 2) rfl
theorem atI_3 : atI (a :: b :: c :: d :: l) 3 = some d := atI_nat (j := 3) rfl
theorem atI_4 : atI (a :: b :: c :: d :: e :: l) 4 = some e := atI_nat (j := 4) rfl
theorem atI_map {α : Type} {g : α → D} {xs : List α} {i : Nat} {x : α} (h : xs[i]? = some x) : atI (xs.map g) (i : Int) = some (g x) := atI_nat (by rw [List.getElem?_map, h]; rfl)
end
theorem ix_nat {n i : Nat} (h : i < n) : ixN n (i : Int) = some i := by simp [ixN, h]

theorem v_rep {st : S} {Q : D → S → Prop} {n : Nat} {k : Int} {xs : List D} (h : st[n]? = some (.lst xs)) : Ok (dMul (.ref n) (.int k) st) Q ↔ (-(2 ^ 63) ≤ k ∧ k < 2 ^ 63 ∧ xs.length * k.toNat ≤ sizeLine) ∧ Q (.ref st.length) (st ++ [.lst (List.replicate k.toNat xs).flatten]) := by
  simp only [dMul, h]; exact ok_iteB
theorem v_pop {st : S} {Q : D → S → Prop} {n k : Nat} {xs : List D} {d : D} (h : st[n]? = some (.lst xs)) (hk : xs[k]? = some d) (hz : xs.length ≤ 10000) : Ok (mPopAt (.ref n) [.int (k : Nat)] st) Q ↔ Q d (st.set n (.lst (xs.eraseIdx k))) := by
  have hl := (List.getElem?_eq_some_iff.mp hk).1
  have h1 : -(2 ^ 63) ≤ (k : Int) ∧ (k : Int) < 2 ^ 63 := by omega
  have h2 : seqIndex? (k : Int) xs.length = some k := by
    unfold seqIndex?
    simp
    omega
  simp only [mPopAt, h, h1, h2, hk, and_self, if_true]
  exact Iff.rfl
theorem v_insert {st : S} {Q : D → S → Prop} {n : Nat} {i : Int} {l : List D} {y : D} (h : st[n]? = some (.lst l)) : Ok (mInsert (.ref n) [.int i, y] st) Q ↔ (l.length < sizeLine ∧ 0 ≤ i ∧ i < 2 ^ 63) ∧ Q .non (st.set n (.lst (l.take i.toNat ++ [y] ++ l.drop i.toNat))) := by
  simp only [mInsert, h]; exact ok_iteB
theorem ok_isC {c : Str} {m : EM} {en : En} {st : S} {Q : D → S → Prop} : Ok (dIsC c m en st) Q ↔ Ok (m en st) fun d st1 => ∃ n fs, d = .ref n ∧ st1[n]? = some (.ins c fs) ∧ Q (.bl true) st1 := by
  unfold dIsC; rw [ok_bind]
  constructor
  · intro h
    refine h.mono fun d st1 q => ?_
    split at q
    · split at q
      · rename_i n c' fs g
        split at q
        · rename_i e; subst e; exact ⟨_, _, rfl, g, q⟩
        · exact q.elim
      · exact q.elim
    · exact q.elim
  · intro h
    refine h.mono fun d st1 ⟨n, fs, e, g, q⟩ => ?_
    subst e
    simp only [g, if_true]
    exact q
/-- a slice of what is at hand -/
def slD (x : D) (lo hi : Option Int) (st : S) : Out D := match x with
  | .tup l => .ok (.tup (cutD l lo hi)) st
  | .ref n => match st[n]? with
    | some (.lst l) => .ok (.ref st.length) (st ++ [.lst (cutD l lo hi)])
    | some (.frz l) => .ok (.ref st.length) (st ++ [.lst (cutD l lo hi)])
    | _ => .bad
  | .str z => if z.length ≤ sizeLine then .ok (.str (cutS z lo hi)) st else .bad
  | _ => .bad
section
variable {st : S} {en : En} {Q : D → S → Prop} {R : Option Int → S → Prop} {m ma : EM} {ml mh : OM} {lo hi : Option Int} {n : Nat} {l : List D}
theorem ok_nop : Ok (dNoP en st) R ↔ R none st := Iff.rfl
theorem ok_P : Ok (dP m en st) R ↔ Ok (m en st) fun x st1 => ∃ i, x = .int i ∧ R (some i) st1 := by
  unfold dP; rw [ok_bind]
  constructor
  · intro h
    refine h.mono fun d st1 q => ?_
    cases d <;> first | exact ⟨_, rfl, q⟩ | exact q.elim
  · intro h
    refine h.mono fun d st1 ⟨k, e, q⟩ => ?_
    subst e; exact q
theorem ok_sl : Ok (dSl ma ml mh en st) Q ↔ Ok (ma en st) fun x st1 => Ok (ml en st1) fun lo st2 => Ok (mh en st2) fun hi st3 => Ok (slD x lo hi st3) Q := by
  unfold dSl; simp only [ok_bind]; exact Iff.rfl
theorem v_slT : Ok (slD (.tup l) lo hi st) Q ↔ Q (.tup (cutD l lo hi)) st := Iff.rfl
theorem v_slR (h : st[n]? = some (.lst l)) : Ok (slD (.ref n) lo hi st) Q ↔ Q (.ref st.length) (st ++ [.lst (cutD l lo hi)]) := by
  simp only [slD, h]; exact Iff.rfl
end
theorem take_min' {α : Type} {l : List α} {m : Nat} : l.take (min m l.length) = l.take m := by
  by_cases h : m ≤ l.length
  · rw [Nat.min_eq_left h]
  · rw [Nat.min_eq_right (by omega), List.take_length, List.take_of_length_le (by omega)]
theorem cut_to {l : List D} {m : Nat} : cutD l none (some (m : Int)) = l.take m := by
  unfold cutD
  rw [HT.sIx_none, HT.sIx_nat, Nat.sub_zero, List.drop_zero, take_min']
theorem cut_from {l : List D} {m : Nat} : cutD l (some (m : Int)) none = l.drop m := by
  unfold cutD
  rw [HT.sIx_none, HT.sIx_nat]
  by_cases h : m ≤ l.length
  · rw [Nat.min_eq_left h, List.take_of_length_le (by simp)]
  · rw [Nat.min_eq_right (by omega), Nat.sub_self, List.take_zero, List.drop_of_length_le (by omega)]
/-! ### a comprehension that changes nothing: what it makes -/
/-- the test and the item of a comprehension, item by item -/
theorem ok_lcP {w : Wk} {b : BM} {t : TM} {m : EM} {en : En} {st : S} {R : List D → S → Prop} (f : D → Option D) (hw : WkOk w st) (hz : w.items.length < sizeLine)
    (h : ∀ (i : Nat) d, w.items[i]? = some d → ∃ en1, b d en = some en1 ∧ Ok (t en1 st) fun k st1 => st1 = st ∧ if k = true then Ok (m en1 st) fun y st2 => st2 = st ∧ f d = some y else f d = none)
    (hR : R (w.items.filterMap f) st) : Ok (lcD w b t m en w.items [] st) R := by
  refine ok_lcD0 (fun i acc st' => st' = st ∧ acc = (w.items.take i).filterMap f ∧ acc.length ≤ i) ⟨rfl, by simp, Nat.le_refl _⟩ (fun i acc st' ⟨e, _⟩ => by subst e; exact hw) ?_ ?_
  · rintro i d acc st' hd ⟨rfl, e, l⟩
    obtain ⟨en1, e1, h1⟩ := h i d hd
    refine ⟨en1, e1, h1.mono ?_⟩
    rintro k _ ⟨rfl, h2⟩
    have hi := (List.getElem?_eq_some_iff.mp hd).1
    have ht : w.items.take (i + 1) = w.items.take i ++ [d] := by rw [List.take_add_one, hd]; rfl
    cases k with
    | true =>
      simp only [if_true] at h2 ⊢
      refine h2.mono ?_
      rintro y _ ⟨rfl, e2⟩
      exact ⟨by omega, rfl, by rw [ht, List.filterMap_append, e]; simp [e2], by simp; omega⟩
    | false =>
      simp only [Bool.false_eq_true, if_false] at h2 ⊢
      exact ⟨trivial, by rw [ht, List.filterMap_append, e]; simp [h2], by omega⟩
  · rintro acc st' ⟨rfl, e, _⟩
    rw [List.take_length] at e
    rw [e]; exact hR
/-- .. told by a list of what each item gives -/
theorem ok_lcX {w : Wk} {b : BM} {t : TM} {m : EM} {en : En} {st : S} {R : List D → S → Prop} (l : List (Option D)) (hl : l.length = w.items.length) (hw : WkOk w st) (hz : w.items.length < sizeLine)
    (h : ∀ (i : Nat) d, w.items[i]? = some d → ∃ en1, b d en = some en1 ∧ Ok (t en1 st) fun k st1 => st1 = st ∧ if k = true then Ok (m en1 st) fun y st2 => st2 = st ∧ l[i]? = some (some y) else l[i]? = some none)
    (hR : R (l.filterMap id) st) : Ok (lcD w b t m en w.items [] st) R := by
  refine ok_lcD0 (fun i acc st' => st' = st ∧ acc = (l.take i).filterMap id ∧ acc.length ≤ i) ⟨rfl, by simp, Nat.le_refl _⟩ (fun i acc st' ⟨e, _⟩ => by subst e; exact hw) ?_ ?_
  · rintro i d acc st' hd ⟨rfl, e, le⟩
    obtain ⟨en1, e1, h1⟩ := h i d hd
    refine ⟨en1, e1, h1.mono ?_⟩
    rintro k _ ⟨rfl, h2⟩
    have hi := (List.getElem?_eq_some_iff.mp hd).1
    cases k with
    | true =>
      simp only [if_true] at h2 ⊢
      refine h2.mono ?_
      rintro y _ ⟨rfl, e2⟩
      have ht : l.take (i + 1) = l.take i ++ [some y] := by rw [List.take_add_one, e2]; rfl
      exact ⟨by omega, rfl, by rw [ht, List.filterMap_append, e]; rfl, by simp; omega⟩
    | false =>
      simp only [Bool.false_eq_true, if_false] at h2 ⊢
      have ht : l.take (i + 1) = l.take i ++ [none] := by rw [List.take_add_one, h2]; rfl
      exact ⟨trivial, by rw [ht, List.filterMap_append, e]; simp, by omega⟩
  · rintro acc st' ⟨rfl, e, _⟩
    rw [← hl, List.take_length] at e
    rw [e]; exact hR
theorem ok_lcM {w : Wk} {b : BM} {m : EM} {en : En} {st : S} {R : List D → S → Prop} (f : D → D) (hw : WkOk w st) (hz : w.items.length < sizeLine)
    (h : ∀ (i : Nat) d, w.items[i]? = some d → ∃ en1, b d en = some en1 ∧ Ok (m en1 st) fun y st2 => st2 = st ∧ f d = y)
    (hR : R (w.items.map f) st) : Ok (lcD w b cYes m en w.items [] st) R := by
  refine ok_lcP (fun d => some (f d)) hw hz (fun i d hd => ?_) (by rw [List.filterMap_eq_map']; exact hR)
  obtain ⟨en1, e1, h1⟩ := h i d hd
  refine ⟨en1, e1, ?_⟩
  rw [show cYes en1 st = .ok true st from rfl, ok_ok]
  exact ⟨rfl, by simp only [if_true]; exact h1.mono fun y st2 ⟨e, q⟩ => ⟨e, by rw [q]⟩⟩
theorem wkn {l : List D} {st : S} : WkOk ⟨l, []⟩ st := fun p hp => nomatch hp
theorem wk1 {st : S} {n : Nat} {l : List D} (h : st[n]? = some (.lst l)) {its : List D} : WkOk ⟨its, [(n, l)]⟩ st := fun p hp => by
  rw [List.mem_singleton] at hp; subst hp
  exact seqD_lst h
theorem rg_get {lo hi : Int} {i : Nat} {d : D} (h : (rgD lo hi)[i]? = some d) : i < (hi - lo).toNat ∧ d = .int (lo + (i : Int)) := by
  unfold rgD at h
  rw [List.getElem?_map] at h
  cases e : (List.range (hi - lo).toNat)[i]? with
  | none => rw [e] at h; cases h
  | some x =>
    rw [e] at h
    obtain ⟨h1, h2⟩ := List.getElem?_eq_some_iff.mp e
    rw [List.length_range] at h1
    rw [List.getElem_range] at h2
    subst h2
    exact ⟨h1, (Option.some.inj h).symm⟩
theorem rg_len {lo hi : Int} : (rgD lo hi).length = (hi - lo).toNat := by unfold rgD; rw [List.length_map, List.length_range]
theorem rg_map {n : Nat} {f : D → D} {g : Nat → D} (h : ∀ i : Nat, i < n → f (.int (i : Int)) = g i) : (rgD 0 (n : Int)).map f = (List.range n).map g := by
  unfold rgD
  simp only [Int.sub_zero, Int.toNat_natCast, List.map_map]
  refine List.map_congr_left fun i hi => ?_
  simp only [Function.comp, Int.zero_add]
  exact h i (List.mem_range.mp hi)
/-- a loop over range(n), as natural numbers -/
theorem ok_forN {n : Nat} {i : Nat} {body : SM} {V : Fl × En → S → Prop} {en : En} {st : S} (I : Nat → En → S → Prop) (h0 : I 0 en st)
    (hs : ∀ (k : Nat) en st, k < n → I k en st → Ok (body (en.set i (some (.int (k : Int)))) st) (Tn (I (k + 1)) V)) (hd : ∀ en st, I n en st → V (.nx, en) st) : Ok (loopD ⟨rgD 0 (n : Int), []⟩ (bName i) body (rgD 0 (n : Int)) en st) V := by
  refine ok_loop0 (w := ⟨rgD 0 (n : Int), []⟩) I h0 (fun _ _ _ _ => wkn) (fun k d en st hd h => ?_) (fun en st h => hd en st ?_)
  · obtain ⟨hk, rfl⟩ := rg_get hd
    exact ⟨_, rfl, by rw [Int.zero_add]; exact hs k en st (by omega) h⟩
  · have e : (rgD 0 (n : Int)).length = n := by rw [rg_len]; omega
    rw [← e]; exact h
theorem nd_inj {α : Type} : ∀ {l : List α} {i j : Nat} {x : α}, l.Nodup → l[i]? = some x → l[j]? = some x → i = j
  | [], _, _, _, _, h, _ => by simp at h
  | y :: l, 0, 0, _, _, _, _ => rfl
  | y :: l, 0, j + 1, x, n, h, h' => by
    simp at h h'; subst h
    exact absurd (List.mem_of_getElem? h') (List.nodup_cons.mp n).1
  | y :: l, i + 1, 0, x, n, h, h' => by
    simp at h h'; subst h'
    exact absurd (List.mem_of_getElem? h) (List.nodup_cons.mp n).1
  | y :: l, i + 1, j + 1, x, n, h, h' => by
    simp at h h'
    rw [nd_inj (List.nodup_cons.mp n).2 h h']
theorem perm_erase {α : Type} : ∀ {l : List α} {i : Nat} (h : i < l.length), (l[i] :: l.eraseIdx i).Perm l
  | x :: l, 0, _ => .refl _
  | x :: l, i + 1, h => by
    have := perm_erase (l := l) (i := i) (by simpa using h)
    exact (List.Perm.swap _ _ _).trans (this.cons x)
theorem mem_split {α : Type} {l : List α} {i : Nat} {x : α} (h : l[i]? = some x) : l.take (i + 1) = l.take i ++ [x] := by rw [List.take_add_one, h]; rfl

/-! ### pure data as == sees it by its form -/
def Pn (d : D) : Prop := pureD 4 d = true ∧ nrm d = d
theorem Pn.eq {a b : D} (h : Pn a) (h' : Pn b) : (PyData.eqv (toP a) (toP b) = true) ↔ a = b := by
  rw [eqv_pure 4 4 a b h.1 h'.1, h.2, h'.2]
theorem Pn.eqb {a b : D} (h : Pn a) (h' : Pn b) : PyData.eqv (toP a) (toP b) = @decide (a = b) (Classical.propDecidable _) := by
  rw [Bool.eq_iff_iff, h.eq h', @decide_eq_true_iff _ (Classical.propDecidable _)]
theorem firstAt_of {l : List D} {i : Nat} {d : D} (hd : Pn d) (hl : ∀ x ∈ l, Pn x) (nd : l.Nodup) (h : l[i]? = some d) : firstAt (toP d) (l.map toP) = some i := by
  induction l generalizing i with
  | nil => simp at h
  | cons x l ih =>
    have hx := hl x List.mem_cons_self
    obtain ⟨n1, n2⟩ := List.nodup_cons.mp nd
    simp only [List.map_cons, firstAt]
    cases i with
    | zero =>
      simp at h; subst h
      rw [if_pos ((hx.eq hx).mpr rfl)]
    | succ i =>
      simp at h
      rw [if_neg (fun z => n1 (by rw [(hx.eq hd).mp z]; exact List.mem_of_getElem? h)), ih (fun y hy => hl y (List.mem_cons_of_mem _ hy)) n2 h]
      rfl
section
variable {st : S} {Q : D → S → Prop} {l : List D} {n i : Nat} {d : D}
theorem v_index (h : st[n]? = some (.lst l)) (hd : Pn d) (hl : ∀ x ∈ l, Pn x) (nd : l.Nodup) (hi : l[i]? = some d) : Ok (mIndex (.ref n) [d] st) Q ↔ Q (.int (i : Nat)) st := by
  unfold mIndex
  have e2 : mapO (tre st 11) l = some (l.map toP) := mapO_pure fun x hx => tre_pure 4 11 x (hl x hx).1 (by decide)
  simp only [h, e2, tre_pure 4 12 d hd.1 (by decide), shaped_pure hd.1 (by decide), shaped_list (fun x hx => (hl x hx).1) (by decide), Bool.and_self, if_true, firstAt_of hd hl nd hi]
  exact Iff.rfl
theorem any_eq {l : List D} {d : D} (hd : Pn d) (hl : ∀ x ∈ l, Pn x) : ((l.map toP).any fun z => PyData.eqv z (toP d)) = @decide (d ∈ l) (Classical.propDecidable _) := by
  rw [Bool.eq_iff_iff, List.any_eq_true, @decide_eq_true_iff _ (Classical.propDecidable _)]
  constructor
  · rintro ⟨z, hz, e⟩
    obtain ⟨x, hx, rfl⟩ := List.mem_map.mp hz
    rw [(hl x hx).eq hd] at e
    rw [← e]; exact hx
  · intro h
    exact ⟨toP d, List.mem_map.mpr ⟨d, h, rfl⟩, (hd.eq hd).mpr rfl⟩
/-- a tuple in a list of tuples -/
theorem v_inL {g : Bool → Bool} {k : List D} (h : st[n]? = some (.lst l)) (hd : Pn (.tup k)) (hl : ∀ x ∈ l, Pn x) : Ok (dIn2 g (.tup k) (.ref n) st) Q ↔ Q (.bl (g (@decide (.tup k ∈ l) (Classical.propDecidable _)))) st := by
  unfold dIn2
  have e2 : mapO (tre st 11) l = some (l.map toP) := mapO_pure fun x hx => tre_pure 4 11 x (hl x hx).1 (by decide)
  simp only [h, flatD, Bool.false_and, Bool.false_eq_true, if_false, e2, tre_pure 4 12 _ hd.1 (by decide), shaped_pure hd.1 (by decide), shaped_list (fun x hx => (hl x hx).1) (by decide), Bool.and_self, if_true, any_eq hd hl]
  exact Iff.rfl
/-- a list of lists of pure data, as a tree -/
theorem tre_ll {g : Nat} {gs : List Nat} {ls : Nat → List D} (hg : st[g]? = some (.lst (gs.map D.ref))) (h : ∀ (i x : Nat), gs[i]? = some x → st[x]? = some (.lst (ls i))) (hp : ∀ i, i < gs.length → ∀ d ∈ ls i, pureD 4 d = true) : tre st 12 (.ref g) = some (.list ((List.range gs.length).map fun i => .list ((ls i).map toP))) := by
  have key : ∀ (gs : List Nat) (ls : Nat → List D), (∀ (i x : Nat), gs[i]? = some x → st[x]? = some (.lst (ls i))) → (∀ i, i < gs.length → ∀ d ∈ ls i, pureD 4 d = true) → mapO (tre st 11) (gs.map D.ref) = some ((List.range gs.length).map fun i => .list ((ls i).map toP)) := by
    intro gs
    induction gs with
    | nil => intros; rfl
    | cons x gs ih =>
      intro ls h hp
      have h0 := h 0 x rfl
      have e0 : tre st 11 (.ref x) = some (.list ((ls 0).map toP)) := by
        simp only [tre, h0]; rw [mapO_pure fun d hd => tre_pure 4 10 d (hp 0 (by simp) d hd) (by decide)]; rfl
      have e1 := ih (fun i => ls (i + 1)) (fun i y hy => h (i + 1) y (by simpa using hy)) (fun i hi => hp (i + 1) (by simp; omega))
      simp only [List.map_cons, mapO, e0, e1, List.length_cons, List.range_succ_eq_map, List.map_map]
      rfl
  show (match st[g]? with
    | some (.lst l) => (mapO (tre st 11) l).map PyData.list
    | some (.frz l) => (mapO (tre st 11) l).map PyData.list
    | _ => none) = _
  rw [hg]
  simp only [key gs ls h hp, Option.map_some]
theorem canLay_ll {n : Nat} {ls : Nat → List D} (hp : ∀ i, i < n → ∀ d ∈ ls i, pureD 4 d = true) : PyData.canLay0 (.list ((List.range n).map fun i => .list ((ls i).map toP))) = true ∧ SeqAt.shaped (.list ((List.range n).map fun i => .list ((ls i).map toP))) = true := by
  have h1 : ∀ p ∈ (List.range n).map (fun i => PyData.list ((ls i).map toP)), PyData.canLay0 p = true ∧ PyData.depth p ≤ 6 := fun p hp' => by
    obtain ⟨i, hi, rfl⟩ := List.mem_map.mp hp'
    have hi := List.mem_range.mp hi
    have h2 : ∀ p ∈ (ls i).map toP, PyData.canLay0 p = true ∧ PyData.depth p ≤ 4 := fun p hp2 => by
      obtain ⟨d, hd, rfl⟩ := List.mem_map.mp hp2
      exact lay_pure 4 d (hp i hi d hd)
    simp only [PyData.canLay0, PyData.depth]
    exact ⟨canLayAll_of fun p hp => (h2 p hp).1, by have := depthAll_of fun p hp => (h2 p hp).2; omega⟩
  have a1 := canLayAll_of fun p hp => (h1 p hp).1
  have a2 := depthAll_of fun p hp => (h1 p hp).2
  unfold SeqAt.shaped
  simp only [PyData.canLay0, PyData.depth, a1, Bool.true_and, true_and]
  exact decide_eq_true (by omega)
/-- == of two lists of lists that hold the same -/
theorem v_eqLL {g : Bool → Bool} {m : Nat} {gs hs : List Nat} {ls : Nat → List D} (h1 : st[n]? = some (.lst (gs.map D.ref))) (h2 : st[m]? = some (.lst (hs.map D.ref))) (hl : gs.length = hs.length) (k1 : ∀ (i x : Nat), gs[i]? = some x → st[x]? = some (.lst (ls i))) (k2 : ∀ (i x : Nat), hs[i]? = some x → st[x]? = some (.lst (ls i)))
    (hp : ∀ i, i < gs.length → ∀ d ∈ ls i, pureD 4 d = true) : Ok (dEq2 g (.ref n) (.ref m) st) Q ↔ Q (.bl (g true)) st := by
  have e1 := tre_ll h1 k1 hp
  have e2 := tre_ll h2 k2 (by rw [← hl]; exact hp)
  obtain ⟨c1, c2⟩ := canLay_ll hp
  unfold dEq2
  rw [← hl] at e2
  simp only [e1, e2, c2, Bool.and_self, if_true]
  rw [PySem.SeqAt.eqv_refl _ c1]
  exact Iff.rfl
/-- == of two lists of pure data as they stand -/
theorem v_eqLn {g : Bool → Bool} {k : List D} {m : Nat} (h1 : st[n]? = some (.lst l)) (h2 : st[m]? = some (.lst k)) (hl : ∀ x ∈ l, Pn x) (hk : ∀ x ∈ k, Pn x) : Ok (dEq2 g (.ref n) (.ref m) st) Q ↔ Q (.bl (g (@decide (l = k) (Classical.propDecidable _)))) st := by
  unfold dEq2
  have e1 : tre st 12 (.ref n) = some (.list (l.map toP)) := by simp only [tre, h1]; rw [mapO_pure fun d hd => tre_pure 4 11 d (hl d hd).1 (by decide)]; rfl
  have e2 : tre st 12 (.ref m) = some (.list (k.map toP)) := by simp only [tre, h2]; rw [mapO_pure fun d hd => tre_pure 4 11 d (hk d hd).1 (by decide)]; rfl
  have nl : ∀ l : List D, (∀ x ∈ l, Pn x) → l.map nrm = l := fun l h => by
    induction l with
    | nil => rfl
    | cons x l ih => rw [List.map_cons, (h x List.mem_cons_self).2, ih fun y hy => h y (List.mem_cons_of_mem _ hy)]
  simp only [e1, e2, shaped_list (fun x hx => (hl x hx).1) (by decide), shaped_list (fun x hx => (hk x hx).1) (by decide), Bool.and_self, if_true]
  have : PyData.eqv (.list (l.map toP)) (.list (k.map toP)) = @decide (l = k) (Classical.propDecidable _) := by
    rw [Bool.eq_iff_iff, eqv_list (n := 4) (k := 4) (fun x hx => (hl x hx).1) (fun x hx => (hk x hx).1), nl l hl, nl k hk]
    exact (@decide_eq_true_iff _ (Classical.propDecidable _)).symm
  rw [this]
  exact Iff.rfl
end
end Dn

/-! Dn, U: reasoning about T; texts. -/
namespace Dn
open PySem L2 TL
section
variable {en : En} {st : S} {Q : D → S → Prop} {V : Fl × En → S → Prop} {mo mv : EM} {mr : AM} {cs : List Str} {f : Str} {g : Int → Int → Int} {np : Nat} {dv : List D} {F : List D → S → Out D}
theorem ok_fldI : Ok (sFldI cs f g mo mv en st) V ↔ Ok (mo en st) fun o st1 => ∃ n c fs i, o = .ref n ∧ st1[n]? = some (.ins c fs) ∧ fs.lookup f = some (.int i) ∧ cs.contains c = true ∧ Ok (mv en st1) fun d st2 => ∃ j fs', d = .int j ∧ st2[n]? = some (.ins c fs') ∧ fs'.length < 1000 ∧ V (.nx, en) (st2.set n (.ins c (putD f (.int (g i j)) fs'))) := by
  unfold sFldI; simp only [ok_bind]
  constructor
  · intro h
    refine h.mono fun o st1 q => ?_
    split at q
    · rename_i n
      split at q
      · rename_i c fs e1
        split at q
        · rename_i i e2
          split at q
          · rename_i hc
            rw [ok_bind] at q
            refine ⟨n, c, fs, i, rfl, e1, e2, hc, q.mono fun d st2 q => ?_⟩
            split at q
            · rename_i j
              split at q
              · rename_i c' fs' e3
                rw [ok_iteB] at q
                obtain ⟨⟨rfl, hl⟩, q⟩ := q
                exact ⟨j, fs', rfl, e3, hl, q⟩
              · exact q.elim
            · exact q.elim
          · exact q.elim
        · exact q.elim
      · exact q.elim
    · exact q.elim
  · intro h
    refine h.mono fun o st1 ⟨n, c, fs, i, e, e1, e2, hc, q⟩ => ?_
    subst e
    simp only [e1, e2, hc, if_true, ok_bind]
    refine q.mono fun d st2 ⟨j, fs', e, e3, hl, q⟩ => ?_
    subst e
    simp only [e3, hl, and_self, if_true]
    exact q
theorem ok_callD : Ok (dCallD np dv F mr en st) Q ↔ Ok (mr en st) fun ds st1 => ds.length + dv.length = np ∧ Ok (F (ds ++ dv) st1) Q := by
  unfold dCallD; rw [ok_bind]; simp only [ok_iteB, ok_atEn]
theorem ok_sbad : Ok (sBad en st) V ↔ False := Iff.rfl
theorem v_split {a b : Str} : Ok (mSplit (.str a) [.str b] st) Q ↔ ((b.length == 0) = false ∧ a.length + 2 ≤ sizeLine) ∧ Q (.ref st.length) (st ++ [.lst ((Txt.split a b).map D.str)]) := by unfold mSplit; exact ok_iteB
theorem v_starts {a b : Str} : Ok (mStarts (.str a) [.str b] st) Q ↔ Q (.bl (Txt.startswith a b)) st := Iff.rfl
theorem v_parti {a b : Str} : Ok (mParti (.str a) [.str b] st) Q ↔ ((b.length == 0) = false ∧ a.length ≤ sizeLine) ∧ Q (.tup [.str (Txt.partition a b).1, .str (Txt.partition a b).2.1, .str (Txt.partition a b).2.2]) st := by unfold mParti; exact ok_iteB
theorem v_slS {z : Str} {lo hi : Option Int} : Ok (slD (.str z) lo hi st) Q ↔ z.length ≤ sizeLine ∧ Q (.str (cutS z lo hi)) st := by unfold slD; exact ok_iteB
theorem v_intS {z : Str} {n : Int} (h : PySem.intText? z = some n) : Ok (dInt [.str z] st) Q ↔ z.length ≤ 640 ∧ Q (.int n) st := by unfold dInt; simp only [h]; exact ok_iteB
theorem v_inC {h : Bool → Bool} {c : Nat} {y : Str} : Ok (dIn2 h (.str ⟨#[c]⟩) (.str y) st) Q ↔ Q (.bl (h (decide (c ∈ y.cps.toList)))) st := by
  rw [v_inS, ← PySem.StrLaws.found_one y c]
theorem v_ixS {z : Str} {i : Int} : Ok (dIx (.str z) (.int i) st) Q ↔ z.length ≤ sizeLine ∧ ∃ c, atI z.cps.toList i = some c ∧ Q (.str ⟨#[c]⟩) st := by
  unfold dIx
  rw [ok_iteB]
  refine and_congr Iff.rfl ?_
  cases atI z.cps.toList i with
  | none => exact ⟨fun h => h.elim, fun ⟨c, h, _⟩ => nomatch h⟩
  | some c => exact ⟨fun h => ⟨c, rfl, h⟩, fun ⟨c', h, q⟩ => by cases h; exact q⟩
end
theorem cutS_from {z : Str} {m : Nat} : (cutS z (some (m : Int)) none).cps.toList = z.cps.toList.drop m := by
  show (((z.cps.toList.drop (HT.sIx z.length 0 (some (m : Int)))).take (HT.sIx z.length z.length none - HT.sIx z.length 0 (some (m : Int)))).toArray).toList = _
  rw [HT.sIx_none, HT.sIx_nat]
  have hl : z.length = z.cps.toList.length := by rw [Array.length_toList]; rfl
  simp only [List.toList_toArray]
  by_cases h : m ≤ z.length
  · rw [Nat.min_eq_left h, List.take_of_length_le (by rw [List.length_drop]; omega)]
  · rw [Nat.min_eq_right (by omega), Nat.sub_self, List.take_zero, List.drop_of_length_le (by omega)]
/-- the text of an int: its signs -/
theorem tl_nat (n : Nat) : tl (Str.ofString (toString ((n : Nat) : Int))) = numL n := tl_num n
theorem tl_neg {n : Nat} (h : 0 < n) : tl (Str.ofString (toString (-((n : Nat) : Int)))) = 45 :: numL n := by
  obtain ⟨m, rfl⟩ : ∃ m, n = m + 1 := ⟨n - 1, by omega⟩
  rw [tl_ofString]
  have e : toString (-((m + 1 : Nat) : Int)) = "-" ++ toString (m + 1) := rfl
  rw [e, String.toList_append, List.map_append]
  have e2 : (toString (m + 1)).toList.map Char.toNat = numL (m + 1) := by rw [← tl_num, tl_ofString]; rfl
  rw [e2]; rfl
theorem starts_one {x : Str} {c : Nat} : Txt.startswith x ⟨#[c]⟩ = true ↔ (tl x)[0]? = some c := by
  unfold Txt.startswith
  rw [Bool.and_eq_true, decide_eq_true_eq]
  exact PySem.StrLaws.subAt_one x c 0
theorem minus_is : Str.ofString "-" = ⟨#[45]⟩ := by decide +kernel
/-- no zero leads -/
theorem numL_lead : ∀ {n : Nat}, 0 < n → ∀ r, numL n ≠ 48 :: r := by
  intro n
  induction n using Nat.strongRecOn with
  | _ n ih =>
    intro h0 r e
    by_cases h : n < 10
    · rw [numL_lt h] at e
      simp only [List.cons.injEq] at e
      omega
    · rw [numL_step (by omega)] at e
      cases e2 : numL (n / 10) with
      | nil => exact numL_ne _ e2
      | cons c l =>
        rw [e2] at e
        simp only [List.cons_append, List.cons.injEq] at e
        exact ih (n / 10) (by omega) (by omega) l (by rw [e2, e.1])
end Dn

/-! Dn, Z: reasoning about sorted(list, key=def). -/
namespace Dn
open PySem L2
theorem ok_sortK {F : List D → S → Out D} {m : AM} {en : En} {st : S} {Q : D → S → Prop} : Ok (dSortK F m en st) Q ↔ Ok (m en st) fun ds st1 => ∃ n l ks, ds = [.ref n] ∧ st1[n]? = some (.lst l) ∧ mapO (keyOf F st1) l = some ks ∧ Q (.ref st1.length) (st1 ++ [.lst (sortBy l ks)]) := by
  unfold dSortK
  rw [ok_bind]
  constructor
  · intro h
    refine h.mono fun ds st1 h => ?_
    have hd : ∃ n, ds = [.ref n] := by
      cases ds with
      | nil => exact h.elim
      | cons d ds =>
        cases ds with
        | nil =>
          cases d with
          | ref n => exact ⟨n, rfl⟩
          | _ => exact h.elim
        | cons _ _ => cases d <;> exact h.elim
    obtain ⟨n, rfl⟩ := hd
    cases e1 : st1[n]? with
    | none => simp only [e1] at h; exact h.elim
    | some o =>
      cases o with
      | lst l =>
        simp only [e1] at h
        cases e2 : mapO (keyOf F st1) l with
        | none => simp only [e2] at h; exact h.elim
        | some ks => simp only [e2] at h; exact ⟨n, l, ks, rfl, e1, e2, h⟩
      | frz l => simp only [e1] at h; exact h.elim
      | ins c fs => simp only [e1] at h; exact h.elim
      | set l => simp only [e1] at h; exact h.elim
      | dT l => simp only [e1] at h; exact h.elim
      | dK l => simp only [e1] at h; exact h.elim
  · intro h
    refine h.mono fun ds st1 ⟨n, l, ks, e, e1, e2, q⟩ => ?_
    subst e
    simp only [e1, e2]
    exact q
/-- the order of items by their keys -/
def leK (g : D → Int × Int) (a b : D) : Bool := decide ((g a).1 < (g b).1 ∨ ((g a).1 = (g b).1 ∧ (g a).2 ≤ (g b).2))
theorem sortBy_map {l : List D} {g : D → Int × Int} : sortBy l (l.map g) = l.mergeSort (leK g) := by
  unfold sortBy
  have h := List.map_mergeSort (r := ordK (l.map g)) (s := leK g) (f := fun i => l.getD i .non) (l := List.range l.length) fun a ha b hb => by
    have ha := List.mem_range.mp ha
    have hb := List.mem_range.mp hb
    have e : ∀ i, i < l.length → (l.map g).getD i (0, 0) = g (l.getD i .non) := fun i hi => by
      rw [List.getD_eq_getElem?_getD, List.getD_eq_getElem?_getD, List.getElem?_map, List.getElem?_eq_getElem hi]; rfl
    unfold ordK leK
    rw [e a ha, e b hb]
  rw [h]
  congr 1
  apply List.ext_getElem?
  intro i
  rw [List.getElem?_map]
  by_cases hi : i < l.length
  · rw [List.getElem?_range hi, List.getElem?_eq_getElem hi]
    show some (l.getD i .non) = _
    rw [List.getD_eq_getElem?_getD, List.getElem?_eq_getElem hi]; rfl
  · rw [List.getElem?_eq_none (by rw [List.length_range]; omega), List.getElem?_eq_none (by omega)]; rfl
/-- sorted by keys, where the def says g of each item and leaves the store -/
theorem v_sortK {F : List D → S → Out D} {m : AM} {en : En} {st st1 : S} {Q : D → S → Prop} {n : Nat} {l : List D} (g : D → Int × Int) (h1 : st1[n]? = some (.lst l)) (hk : ∀ d ∈ l, F [d] st1 = .ok (.tup [.int (g d).1, .int (g d).2]) st1) (hm : m en st = .ok [.ref n] st1)
    (q : Q (.ref st1.length) (st1 ++ [.lst (l.mergeSort (leK g))])) : Ok (dSortK F m en st) Q := by
  rw [ok_sortK, hm, ok_ok]
  exact ⟨n, l, l.map g, rfl, h1, mapO_map fun d hd => keyOf_of (hk d hd), by rw [sortBy_map]; exact q⟩
end Dn

/-! Dn, M: reasoning about chains. -/
namespace Dn
open PySem L2
theorem ok_ch {f g : D → D → S → Out D} {ma mb mc : EM} {en : En} {st : S} {Q : D → S → Prop} : Ok (dCh f g ma mb mc en st) Q ↔ Ok (ma en st) fun x st1 => Ok (mb en st1) fun y st2 => Ok (f x y st2) fun z st3 => ∃ k, z = .bl k ∧ if k = true then Ok (mc en st3) fun u st4 => Ok (g y u st4) Q else Q (.bl false) st3 := by
  unfold dCh
  simp only [ok_bind]
  constructor
  · intro h
    refine h.mono fun x st1 h => h.mono fun y st2 h => h.mono fun z st3 h => ?_
    cases z with
    | bl k =>
      cases k with
      | true => exact ⟨true, rfl, by simpa only [ok_bind, if_true] using h⟩
      | false => exact ⟨false, rfl, h⟩
    | _ => exact h.elim
  · intro h
    refine h.mono fun x st1 h => h.mono fun y st2 h => h.mono fun z st3 h => ?_
    obtain ⟨k, rfl, h⟩ := h
    cases k with
    | true => simpa only [ok_bind, if_true] using h
    | false => exact h
end Dn

/-! Dn, I: reasoning about dicts. -/
namespace Dn
open PySem L2
theorem ok_newT {en : En} {st : S} {Q : D → S → Prop} : Ok (dNewT en st) Q ↔ Q (.ref st.length) (st ++ [.dT []]) := Iff.rfl
theorem ok_newK {en : En} {st : S} {Q : D → S → Prop} : Ok (dNewK en st) Q ↔ Q (.ref st.length) (st ++ [.dK []]) := Iff.rfl
theorem ok_p0 {en : En} {st : S} {Q : List (D × D) → S → Prop} : Ok (dP0 en st) Q ↔ Q [] st := Iff.rfl
theorem ok_pc {mk mv : EM} {mr : PM} {en : En} {st : S} {Q : List (D × D) → S → Prop} : Ok (dPc mk mv mr en st) Q ↔ Ok (mk en st) fun d st1 => Ok (mv en st1) fun e st2 => Ok (mr en st2) fun ps st3 => Q ((d, e) :: ps) st3 := by
  unfold dPc; simp only [ok_bind, ok_ok]
theorem ok_dispT {m : PM} {en : En} {st : S} {Q : D → S → Prop} : Ok (dDispT m en st) Q ↔ Ok (m en st) fun ps st1 => ∃ l, mapO keyTI ps = some l ∧ l.length ≤ 15 ∧ Q (.ref st1.length) (st1 ++ [.dT (mgQ [] l)]) := by
  unfold dDispT; simp only [ok_bind]
  constructor
  · intro h
    refine h.mono fun ps st1 h => ?_
    cases e : mapO keyTI ps with
    | none => simp only [e] at h; exact h.elim
    | some l =>
      by_cases hl : l.length ≤ 15
      · simp only [e, hl, if_true] at h; exact ⟨l, rfl, hl, h⟩
      · simp only [e, hl, if_false] at h; exact h.elim
  · intro h
    refine h.mono fun ps st1 ⟨l, e, hl, h⟩ => ?_
    simp only [e, hl, if_true]; exact h
theorem v_getT {n : Nat} {y : D} {st : S} {Q : D → S → Prop} : Ok (dGetD (.ref n) y st) Q ↔ (∃ l k v, st[n]? = some (.dT l) ∧ tupI y = some k ∧ getQ l k = some v ∧ Q v st) ∨ ∃ l k v, st[n]? = some (.dK l) ∧ keyI y = some k ∧ getQ l k = some v ∧ Q v st := by
  unfold dGetD
  constructor
  · intro h
    cases gl : st[n]? with
    | none => simp only [gl] at h; exact h.elim
    | some o =>
      cases o with
      | dT l =>
        simp only [gl] at h
        cases ez : (tupI y).bind (getQ l) with
        | none => simp only [ez] at h; exact h.elim
        | some z =>
          obtain ⟨k, ek, eg⟩ := Option.bind_eq_some_iff.mp ez
          simp only [ez] at h
          exact .inl ⟨l, k, z, rfl, ek, eg, h⟩
      | dK l =>
        simp only [gl] at h
        cases ez : (keyI y).bind (getQ l) with
        | none => simp only [ez] at h; exact h.elim
        | some z =>
          obtain ⟨k, ek, eg⟩ := Option.bind_eq_some_iff.mp ez
          simp only [ez] at h
          exact .inr ⟨l, k, z, rfl, ek, eg, h⟩
      | lst l => simp only [gl] at h; exact h.elim
      | frz l => simp only [gl] at h; exact h.elim
      | ins c l => simp only [gl] at h; exact h.elim
      | set l => simp only [gl] at h; exact h.elim
  · rintro (⟨l, k, v, h1, h2, h3, h⟩ | ⟨l, k, v, h1, h2, h3, h⟩) <;> simp only [h1, h2, h3, Option.bind_some] <;> exact h
/-- the walks want to know the dict -/
theorem v_getT' {n : Nat} {y : D} {st : S} {l : List (List Int × D)} {Q : D → S → Prop} (g : st[n]? = some (.dT l)) : Ok (dGetD (.ref n) y st) Q ↔ ∃ k v, tupI y = some k ∧ getQ l k = some v ∧ Q v st := by
  rw [v_getT]
  constructor
  · rintro (⟨l', k, v, h1, h2, h3, h⟩ | ⟨l', k, v, h1, h2, h3, h⟩)
    · rw [g] at h1; cases h1; exact ⟨k, v, h2, h3, h⟩
    · rw [g] at h1; cases h1
  · rintro ⟨k, v, h2, h3, h⟩; exact .inl ⟨l, k, v, g, h2, h3, h⟩
theorem v_inT' {f : Bool → Bool} {n : Nat} {y : D} {st : S} {l : List (List Int × D)} {Q : D → S → Prop} (g : st[n]? = some (.dT l)) : Ok (dInD f y (.ref n) st) Q ↔ ∃ k, tupI y = some k ∧ Q (.bl (f (getQ l k).isSome)) st := by
  unfold dInD
  simp only [g]
  cases tupI y with
  | none => simp; exact fun h => h
  | some k => simp; exact Iff.rfl
theorem ok_putD {ma mi m : EM} {en : En} {st : S} {V : Fl × En → S → Prop} : Ok (sPutD ma mi m en st) V ↔ Ok (m en st) fun d st1 => Ok (ma en st1) fun o st2 => Ok (mi en st2) fun i st3 =>
    ∃ n, o = .ref n ∧ ((∃ l k, st3[n]? = some (.dT l) ∧ tupI i = some k ∧ l.length < 100000 ∧ V (.nx, en) (st3.set n (.dT (putQ l k d)))) ∨
      ∃ l k, st3[n]? = some (.dK l) ∧ keyI i = some k ∧ l.length < 100000 ∧ V (.nx, en) (st3.set n (.dK (putQ l k d)))) := by
  unfold sPutD; simp only [ok_bind]
  constructor
  · intro h
    refine h.mono fun d st1 h => h.mono fun o st2 h => h.mono fun i st3 h => ?_
    cases o with
    | ref n =>
      refine ⟨n, rfl, ?_⟩
      cases gl : st3[n]? with
      | none => simp only [gl] at h; exact h.elim
      | some o =>
        cases o with
        | dT l =>
          simp only [gl] at h
          cases ek : tupI i with
          | none => simp only [ek] at h; exact h.elim
          | some k =>
            by_cases hl : l.length < 100000
            · simp only [ek, hl, if_true] at h; exact .inl ⟨l, k, rfl, rfl, hl, h⟩
            · simp only [ek, hl, if_false] at h; exact h.elim
        | dK l =>
          simp only [gl] at h
          cases ek : keyI i with
          | none => simp only [ek] at h; exact h.elim
          | some k =>
            by_cases hl : l.length < 100000
            · simp only [ek, hl, if_true] at h; exact .inr ⟨l, k, rfl, rfl, hl, h⟩
            · simp only [ek, hl, if_false] at h; exact h.elim
        | lst l => simp only [gl] at h; exact h.elim
        | frz l => simp only [gl] at h; exact h.elim
        | ins c l => simp only [gl] at h; exact h.elim
        | set l => simp only [gl] at h; exact h.elim
    | _ => exact h.elim
  · intro h
    refine h.mono fun d st1 h => h.mono fun o st2 h => h.mono fun i st3 h => ?_
    obtain ⟨n, rfl, ⟨l, k, h1, h2, h3, h⟩ | ⟨l, k, h1, h2, h3, h⟩⟩ := h <;> simp only [h1, h2, h3, if_true] <;> exact h
end Dn

namespace G
open PySem L2 Dn
def topS (i : Nat) : Stmt := PySem.Challenge.pw_whensure_k25_bounds_of_a_clock_are_its_r.main.body.getD i (.Pass ⟨0, 0, 0, 0⟩)
section
variable {P : Program} {w : World} {K : Frag} {mg : Str → Option Value} {base : Heap} {cl : Clm}
/-! ### _law_draws -/
abbrev s_llaw_draws : Stmt := topS 20
abbrev N_llaw_draws : List Str := ["_law_script", "_law_count", "_law_rows", "_law_place", "_law_cell"]
noncomputable def b_llaw_draws : SM :=
    (sSeq (sSet 2 (dLst dNil))
    (sSeq (sFor (iRng1D (dCons (dVar 1) dNil)) (bName 3)
    (sSeq (sSet 4 (dC (.int 0)))
    (sSeq (sIf (dB (dO2 dLt (dVar 3) (dON dLen (dCons (dVar 0) dNil))))
    (sSet 4 (dON dInt (dCons (dO2 dIx (dVar 0) (dVar 3)) dNil)))
    sPass)
    (sSeq (sIf (dB (dO2 dLt (dVar 4) (dC (.int 0))))
    (sSet 4 (dO2 dSub (dC (.int 1)) (dO2 dMul (dC (.int 2)) (dVar 4))))
    sPass)
    (sSeq (sIf (dB (dO2 dLt (dVar 4) (dC (.int 1000000000))))
    (sSeq (sSet 4 (dO2 dMod (dON dInt (dCons (dO2 dAdd (dO2 dMul (dO2 dAdd (dO2 dAdd (dVar 4) (dO2 dMul (dC (.int 7)) (dVar 3))) (dC (.int 3))) (dC (.int 1103515245))) (dO2 dMul (dO2 dMul (dVar 3) (dVar 3)) (dC (.int 12345)))) dNil)) (dC (.int 2305843009213693951))))
    (sSet 4 (dO2 dMod (dON dInt (dCons (dO2 dAdd (dO2 dMul (dVar 4) (dC (.int 6364136223846793005))) (dC (.int 1442695040888963407))) dNil)) (dC (.int 9223372036854775783)))))
    sPass)
    (sExpr (dMt "list" mAppend (dVar 2) (dCons (dVar 4) dNil))))))))
    (sRet (dVar 2))))
@[irreducible] noncomputable def dn_llaw_draws : List D → S → Out D := defD 2 5 b_llaw_draws
theorem sc_llaw_draws : FnScope N_llaw_draws ["_law_script", "_law_count"] (defScope s_llaw_draws) := ⟨rfl, rfl, rfl, by decide +kernel, rfl, by decide +kernel, by decide +kernel⟩
theorem ok_llaw_draws (d : DefAt K mg "_law_draws" "_law_draws" s_llaw_draws) (m_range : mg "range" = none) (m_len : mg "len" = none) (m_int : mg "int" = none) : FnD P w K mg base cl "_law_draws" 2 1 dn_llaw_draws := by
  obtain ⟨fa, fd, hm, F⟩ := d
  unfold dn_llaw_draws
  exact fnD_of (body := b_llaw_draws) F sc_llaw_draws rfl rfl hm (F.binds fun _ _ _ _ _ _ us hl => match us, hl with | [_, _], _ => rfl) (fun cdv A outer s H E hr tk =>
    (sl_cons (ss_set (i := 2) sc_llaw_draws.nd rfl (Or.inl rfl) (se_lst sa_nil))
    (sl_cons (ss_for (sl := [3]) (passes_of rfl) rfl (si_rng1 rfl m_range (sa_cons (se_var (pv 1)) sa_nil)) (pg_name (i := 3) sc_llaw_draws.nd rfl (Or.inl rfl)) (gm_name (by decide))
    (sl_cons (ss_set (i := 4) sc_llaw_draws.nd rfl (Or.inl rfl) se_int)
    (sl_cons (ss_if (sb_cmp op_lt op2_i2 (nomark _) (se_var (pv 3)) (se_callB call_len opn_len rfl m_len PySem.boot_len (sa_cons (se_var (pv 0)) sa_nil)))
    (sl_one (ss_set (i := 4) sc_llaw_draws.nd rfl (Or.inl rfl) (se_callTy call_intA opn_int rfl m_int (by decide +kernel) (sa_cons (se_ix ix_seq op2_ix (se_var (pv 0)) (se_var (pv 3)) (fun _ _ => rfl)) sa_nil))))
    sl_nil)
    (sl_cons (ss_if (sb_cmp op_lt op2_i2 (nomark _) (se_var (pv 4)) se_int)
    (sl_one (ss_set (i := 4) sc_llaw_draws.nd rfl (Or.inl rfl) (se_bin op_sub op2_sub se_int (se_bin or_mul op2_mul se_int (se_var (pv 4))))))
    sl_nil)
    (sl_cons (ss_if (sb_cmp op_lt op2_i2 (nomark _) (se_var (pv 4)) se_int)
    (sl_cons (ss_set (i := 4) sc_llaw_draws.nd rfl (Or.inl rfl) (se_bin op_mod op2_mod (se_callTy call_intA opn_int rfl m_int (by decide +kernel) (sa_cons (se_bin or_add op2_add (se_bin or_mul op2_mul (se_bin or_add op2_add (se_bin or_add op2_add (se_var (pv 4)) (se_bin or_mul op2_mul se_int (se_var (pv 3)))) se_int) se_int) (se_bin or_mul op2_mul (se_bin or_mul op2_mul (se_var (pv 3)) (se_var (pv 3))) se_int)) sa_nil)) se_int))
    (sl_one (ss_set (i := 4) sc_llaw_draws.nd rfl (Or.inl rfl) (se_bin op_mod op2_mod (se_callTy call_intA opn_int rfl m_int (by decide +kernel) (sa_cons (se_bin or_add op2_add (se_bin or_mul op2_mul (se_var (pv 4)) se_int) se_int) sa_nil)) se_int))))
    sl_nil)
    (sl_one (ss_expr (se_mt PySem.F.plainAttrs_list PySem.F.slot_list_append PySem.F.type_list_append mt_append opm_append (se_var (pv 2)) (sa_cons (se_var (pv 4)) sa_nil)))))))))
    (sl_one (ss_ret (se_var (pv 2)))))))
/-! ### _law_take -/
abbrev s_llaw_take : Stmt := topS 21
abbrev N_llaw_take : List Str := ["_law_rows", "_law_at", "_law_many", "_law_got"]
noncomputable def b_llaw_take : SM :=
    (sSeq (sSet 3 (dO2 dMod (dON dInt (dCons (dO2 dIx (dVar 0) (dVar 1)) dNil)) (dVar 2)))
    (sSeq (sSetI (dVar 0) (dVar 1) (dO2 dDiv (dON dInt (dCons (dO2 dIx (dVar 0) (dVar 1)) dNil)) (dVar 2)))
    (sRet (dVar 3))))
@[irreducible] noncomputable def dn_llaw_take : List D → S → Out D := defD 3 4 b_llaw_take
theorem sc_llaw_take : FnScope N_llaw_take ["_law_rows", "_law_at", "_law_many"] (defScope s_llaw_take) := ⟨rfl, rfl, rfl, by decide +kernel, rfl, by decide +kernel, by decide +kernel⟩
theorem ok_llaw_take (d : DefAt K mg "_law_take" "_law_take" s_llaw_take) (m_int : mg "int" = none) : FnD P w K mg base cl "_law_take" 3 1 dn_llaw_take := by
  obtain ⟨fa, fd, hm, F⟩ := d
  unfold dn_llaw_take
  exact fnD_of (body := b_llaw_take) F sc_llaw_take rfl rfl hm (F.binds fun _ _ _ _ _ _ us hl => match us, hl with | [_, _, _], _ => rfl) (fun cdv A outer s H E hr tk =>
    (sl_cons (ss_set (i := 3) sc_llaw_take.nd rfl (Or.inl rfl) (se_bin op_mod op2_mod (se_callTy call_intA opn_int rfl m_int (by decide +kernel) (sa_cons (se_ix ix_seq op2_ix (se_var (pv 0)) (se_var (pv 1)) (fun _ _ => rfl)) sa_nil)) (se_var (pv 2))))
    (sl_cons (ss_setI (se_var (pv 0)) (se_var (pv 1)) (se_bin op_fdivW op2_div (se_callTy call_intA opn_int rfl m_int (by decide +kernel) (sa_cons (se_ix ix_seq op2_ix (se_var (pv 0)) (se_var (pv 1)) (fun _ _ => rfl)) sa_nil)) (se_var (pv 2))))
    (sl_one (ss_ret (se_var (pv 3)))))))
/-! ### _law_kinds -/
abbrev s_llaw_kinds : Stmt := topS 22
abbrev N_llaw_kinds : List Str := ["_law_rows", "_law_at", "_law_kinds_here", "_law_j", "_law_low"]
noncomputable def bt_llaw_kinds_1 : SM :=
    (sRet (dON dTuple (dCons (dVar 2) dNil)))
noncomputable def bl_llaw_kinds_1 : SM :=
    (sSeq (sSet 4 (dO2 dAdd (dC (.int 1)) (dCall 3 dn_llaw_take (dCons (dVar 0) (dCons (dVar 1) (dCons (dC (.int 6)) dNil))))))
    (sExpr (dMt "list" mAppend (dVar 2) (dCons (dTup (dCons (dO2 dAdd (dC (.str "k")) (dON dStr (dCons (dVar 3) dNil))) (dCons (dVar 4) (dCons (dO2 dAdd (dVar 4) (dCall 3 dn_llaw_take (dCons (dVar 0) (dCons (dVar 1) (dCons (dC (.int 8)) dNil))))) dNil)))) dNil))))
noncomputable def b_llaw_kinds : SM :=
    (sSeq (sSet 2 (dLst dNil))
    (sSeq (sFor (iRng1D (dCons (dC (.int 2)) dNil)) (bName 3)
    bl_llaw_kinds_1)
    bt_llaw_kinds_1))
@[irreducible] noncomputable def dn_llaw_kinds : List D → S → Out D := defD 2 5 b_llaw_kinds
theorem sc_llaw_kinds : FnScope N_llaw_kinds ["_law_rows", "_law_at"] (defScope s_llaw_kinds) := ⟨rfl, rfl, rfl, by decide +kernel, rfl, by decide +kernel, by decide +kernel⟩
theorem ok_llaw_kinds (d : DefAt K mg "_law_kinds" "_law_kinds" s_llaw_kinds) (m_range : mg "range" = none) (m_tuple : mg "tuple" = none) (m_str : mg "str" = none) (c_llaw_take : FnD P w K mg base cl "_law_take" 3 1 dn_llaw_take) : FnD P w K mg base cl "_law_kinds" 2 2 dn_llaw_kinds := by
  obtain ⟨fa, fd, hm, F⟩ := d
  unfold dn_llaw_kinds
  exact fnD_of (body := b_llaw_kinds) F sc_llaw_kinds rfl rfl hm (F.binds fun _ _ _ _ _ _ us hl => match us, hl with | [_, _], _ => rfl) (fun cdv A outer s H E hr tk =>
    (sl_cons (ss_set (i := 2) sc_llaw_kinds.nd rfl (Or.inl rfl) (se_lst sa_nil))
    (sl_cons (ss_for (sl := [3]) (passes_of rfl) rfl (si_rng1 rfl m_range (sa_cons se_int sa_nil)) (pg_name (i := 3) sc_llaw_kinds.nd rfl (Or.inl rfl)) (gm_name (by decide))
    (sl_cons (ss_set (i := 4) sc_llaw_kinds.nd rfl (Or.inl rfl) (se_bin or_add op2_add se_int (se_call c_llaw_take (hr.mono (by decide)) tk rfl (sa_cons (se_var (pv 0)) (sa_cons (se_var (pv 1)) (sa_cons se_int sa_nil))))))
    (sl_one (ss_expr (se_mt PySem.F.plainAttrs_list PySem.F.slot_list_append PySem.F.type_list_append mt_append opm_append (se_var (pv 2)) (sa_cons (se_tup (sa_cons (se_bin or_add op2_add se_str (se_callTy call_str_int opn_str rfl m_str (by decide +kernel) (sa_cons (se_var (pv 3)) sa_nil))) (sa_cons (se_var (pv 4)) (sa_cons (se_bin or_add op2_add (se_var (pv 4)) (se_call c_llaw_take (hr.mono (by decide)) tk rfl (sa_cons (se_var (pv 0)) (sa_cons (se_var (pv 1)) (sa_cons se_int sa_nil))))) sa_nil)))) sa_nil))))))
    (sl_one (ss_ret (se_callTy call_tuple_of opn_tuple rfl m_tuple (by decide +kernel) (sa_cons (se_var (pv 2)) sa_nil)))))))
/-! ### _law_begin -/
abbrev s_llaw_begin : Stmt := topS 23
abbrev N_llaw_begin : List Str := ["_law_clock", "_law_rows", "_law_kinds_here", "_law_low"]
noncomputable def b_llaw_begin : SM :=
    (sSeq (sSetI (dVar 0) (dC (.int 3)) (dC (.int 0)))
    (sSeq (sSet 3 (dO2 dIx (dO2 dIx (dVar 2) (dO2 dIx (dVar 0) (dC (.int 1)))) (dC (.int 1))))
    (sSeq (sSetI (dVar 0) (dC (.int 4)) (dO2 dAdd (dVar 3) (dCall 3 dn_llaw_take (dCons (dVar 1) (dCons (dO2 dAdd (dC (.int 9)) (dO2 dMod (dON dInt (dCons (dO2 dIx (dVar 0) (dC (.int 5))) dNil)) (dC (.int 50)))) (dCons (dO2 dAdd (dO2 dSub (dO2 dIx (dO2 dIx (dVar 2) (dO2 dIx (dVar 0) (dC (.int 1)))) (dC (.int 2))) (dVar 3)) (dC (.int 1))) dNil))))))
    (sSetI (dVar 0) (dC (.int 5)) (dO2 dAdd (dO2 dIx (dVar 0) (dC (.int 5))) (dC (.int 1)))))))
@[irreducible] noncomputable def dn_llaw_begin : List D → S → Out D := defD 3 4 b_llaw_begin
theorem sc_llaw_begin : FnScope N_llaw_begin ["_law_clock", "_law_rows", "_law_kinds_here"] (defScope s_llaw_begin) := ⟨rfl, rfl, rfl, by decide +kernel, rfl, by decide +kernel, by decide +kernel⟩
theorem ok_llaw_begin (d : DefAt K mg "_law_begin" "_law_begin" s_llaw_begin) (m_int : mg "int" = none) (c_llaw_take : FnD P w K mg base cl "_law_take" 3 1 dn_llaw_take) : FnD P w K mg base cl "_law_begin" 3 2 dn_llaw_begin := by
  obtain ⟨fa, fd, hm, F⟩ := d
  unfold dn_llaw_begin
  exact fnD_of (body := b_llaw_begin) F sc_llaw_begin rfl rfl hm (F.binds fun _ _ _ _ _ _ us hl => match us, hl with | [_, _, _], _ => rfl) (fun cdv A outer s H E hr tk =>
    (sl_cons (ss_setI (se_var (pv 0)) se_int se_int)
    (sl_cons (ss_set (i := 3) sc_llaw_begin.nd rfl (Or.inl rfl) (se_ix ix_seq op2_ix (se_ix ix_seq op2_ix (se_var (pv 2)) (se_ix ix_seq op2_ix (se_var (pv 0)) se_int (fun _ _ => rfl)) (fun _ _ => rfl)) se_int (fun _ _ => rfl)))
    (sl_cons (ss_setI (se_var (pv 0)) se_int (se_bin or_add op2_add (se_var (pv 3)) (se_call c_llaw_take (hr.mono (by decide)) tk rfl (sa_cons (se_var (pv 1)) (sa_cons (se_bin or_add op2_add se_int (se_bin op_mod op2_mod (se_callTy call_intA opn_int rfl m_int (by decide +kernel) (sa_cons (se_ix ix_seq op2_ix (se_var (pv 0)) se_int (fun _ _ => rfl)) sa_nil)) se_int)) (sa_cons (se_bin or_add op2_add (se_bin op_sub op2_sub (se_ix ix_seq op2_ix (se_ix ix_seq op2_ix (se_var (pv 2)) (se_ix ix_seq op2_ix (se_var (pv 0)) se_int (fun _ _ => rfl)) (fun _ _ => rfl)) se_int (fun _ _ => rfl)) (se_var (pv 3))) se_int) sa_nil))))))
    (sl_one (ss_setI (se_var (pv 0)) se_int (se_bin or_add op2_add (se_ix ix_seq op2_ix (se_var (pv 0)) se_int (fun _ _ => rfl)) se_int)))))))
/-! ### _law_run -/
abbrev s_llaw_run : Stmt := topS 24
abbrev N_llaw_run : List Str := ["_law_clock", "_law_rows", "_law_amount", "_law_kinds_here", "_law_k"]
noncomputable def ba_llaw_run_1 : SM :=
    (sSeq (sSetI (dVar 0) (dC (.int 0)) (dO2 dAdd (dO2 dIx (dVar 0) (dC (.int 0))) (dC (.int 1))))
    (sExpr (dCall 3 dn_llaw_begin (dCons (dVar 0) (dCons (dVar 1) (dCons (dVar 3) dNil))))))
noncomputable def bl_llaw_run_1 : SM :=
    (sSeq (sSetI (dVar 0) (dC (.int 3)) (dO2 dAdd (dO2 dIx (dVar 0) (dC (.int 3))) (dC (.int 1))))
    (sIf (dB (dO2 dGe (dO2 dIx (dVar 0) (dC (.int 3))) (dO2 dIx (dVar 0) (dC (.int 4)))))
    ba_llaw_run_1
    sPass))
noncomputable def b_llaw_run : SM :=
    (sFor (iRng1D (dCons (dVar 2) dNil)) (bName 4)
    bl_llaw_run_1)
@[irreducible] noncomputable def dn_llaw_run : List D → S → Out D := defD 4 5 b_llaw_run
theorem sc_llaw_run : FnScope N_llaw_run ["_law_clock", "_law_rows", "_law_amount", "_law_kinds_here"] (defScope s_llaw_run) := ⟨rfl, rfl, rfl, by decide +kernel, rfl, by decide +kernel, by decide +kernel⟩
theorem ok_llaw_run (d : DefAt K mg "_law_run" "_law_run" s_llaw_run) (m_range : mg "range" = none) (c_llaw_begin : FnD P w K mg base cl "_law_begin" 3 2 dn_llaw_begin) : FnD P w K mg base cl "_law_run" 4 3 dn_llaw_run := by
  obtain ⟨fa, fd, hm, F⟩ := d
  unfold dn_llaw_run
  exact fnD_of (body := b_llaw_run) F sc_llaw_run rfl rfl hm (F.binds fun _ _ _ _ _ _ us hl => match us, hl with | [_, _, _, _], _ => rfl) (fun cdv A outer s H E hr tk =>
    (sl_one (ss_for (sl := [4]) (passes_of rfl) rfl (si_rng1 rfl m_range (sa_cons (se_var (pv 2)) sa_nil)) (pg_name (i := 4) sc_llaw_run.nd rfl (Or.inl rfl)) (gm_name (by decide))
    (sl_cons (ss_setI (se_var (pv 0)) se_int (se_bin or_add op2_add (se_ix ix_seq op2_ix (se_var (pv 0)) se_int (fun _ _ => rfl)) se_int))
    (sl_one (ss_if (sb_cmp op_ge op2_i2 (nomark _) (se_ix ix_seq op2_ix (se_var (pv 0)) se_int (fun _ _ => rfl)) (se_ix ix_seq op2_ix (se_var (pv 0)) se_int (fun _ _ => rfl)))
    (sl_cons (ss_setI (se_var (pv 0)) se_int (se_bin or_add op2_add (se_ix ix_seq op2_ix (se_var (pv 0)) se_int (fun _ _ => rfl)) se_int))
    (sl_one (ss_expr (se_call c_llaw_begin (hr.mono (by decide)) tk rfl (sa_cons (se_var (pv 0)) (sa_cons (se_var (pv 1)) (sa_cons (se_var (pv 3)) sa_nil)))))))
    sl_nil))))))
/-! ### _law_view -/
abbrev s_llaw_view : Stmt := topS 25
abbrev N_llaw_view : List Str := ["_law_rows", "_law_kinds_here", "_law_goes_on", "_law_clock", "_law_events", "_law_n", "_law_asleep", "_law_gap", "_law_shown", "_law_way", "_law_deed"]
noncomputable def bt_llaw_view_1 : SM :=
    (sRet (dVar 4))
noncomputable def bi_llaw_view_4 : SM :=
    (sExpr (dMt "list" mAppend (dVar 4) (dCons (dTup (dCons (dVar 6) (dCons (dTup (dCons (dVar 8) dNil)) (dCons (dTup (dCons (dO2 dIx (dVar 3) (dC (.int 0))) dNil)) (dCons (dVar 10) (dCons (dTup (dCons (dO2 dAdd (dVar 5) (dC (.int 1))) dNil)) dNil)))))) dNil)))
noncomputable def bi_llaw_view_3 : SM :=
    (sSeq (sIf (dOrT (dB (dO2 dEq (dVar 9) (dC (.int 0)))) (dB (dO2 dNe (dO2 dIx (dVar 3) (dC (.int 0))) (dVar 8))))
    (sExpr (dCall 3 dn_llaw_begin (dCons (dVar 3) (dCons (dVar 0) (dCons (dVar 1) dNil)))))
    sPass)
    bi_llaw_view_4)
noncomputable def bi_llaw_view_2 : SM :=
    (sSeq (sIf (dB (dO2 dEq (dVar 9) (dC (.int 1))))
    (sSetI (dVar 3) (dC (.int 0)) (dO2 dSub (dCall 3 dn_llaw_take (dCons (dVar 0) (dCons (dVar 5) (dCons (dC (.int 41)) dNil)))) (dC (.int 20))))
    sPass)
    bi_llaw_view_3)
noncomputable def ba_llaw_view_2 : SM :=
    (sSeq (sSet 10 (dTup (dCons (dC (.str "kind")) (dCons (dC (.int 0)) (dCons (dCall 3 dn_llaw_take (dCons (dVar 0) (dCons (dVar 5) (dCons (dC (.int 2)) dNil)))) dNil)))))
    (sSetI (dVar 3) (dC (.int 1)) (dO2 dIx (dVar 10) (dC (.int 2)))))
noncomputable def bi_llaw_view_1 : SM :=
    (sSeq (sSet 8 (dO2 dIx (dVar 3) (dC (.int 0))))
    (sSeq (sSet 9 (dCall 3 dn_llaw_take (dCons (dVar 0) (dCons (dVar 5) (dCons (dC (.int 6)) dNil)))))
    (sSeq (sSet 10 (dTup (dCons (dC (.str "note")) dNil)))
    (sSeq (sIf (dB (dO2 dEq (dVar 9) (dC (.int 0))))
    ba_llaw_view_2
    sPass)
    bi_llaw_view_2))))
noncomputable def bl_llaw_view_1 : SM :=
    (sSeq (sSet 6 (dO2 dEq (dCall 3 dn_llaw_take (dCons (dVar 0) (dCons (dVar 5) (dCons (dC (.int 4)) dNil)))) (dC (.int 0))))
    (sSeq (sSet 7 (dCall 3 dn_llaw_take (dCons (dVar 0) (dCons (dVar 5) (dCons (dC (.int 31)) dNil)))))
    (sSeq (sIf (dOrT (dTru (dVar 2)) (dNotT (dTru (dVar 6))))
    (sExpr (dCall 4 dn_llaw_run (dCons (dVar 3) (dCons (dVar 0) (dCons (dVar 7) (dCons (dVar 1) dNil))))))
    sPass)
    bi_llaw_view_1)))
noncomputable def b_llaw_view : SM :=
    (sSeq (sSet 3 (dLst (dCons (dO2 dSub (dCall 3 dn_llaw_take (dCons (dVar 0) (dCons (dC (.int 0)) (dCons (dC (.int 21)) dNil)))) (dC (.int 10))) (dCons (dC (.int 0)) (dCons (dC (.int 0)) (dCons (dC (.int 0)) (dCons (dC (.int 0)) (dCons (dC (.int 0)) dNil))))))))
    (sSeq (sExpr (dCall 3 dn_llaw_begin (dCons (dVar 3) (dCons (dVar 0) (dCons (dVar 1) dNil)))))
    (sSeq (sSet 4 (dLst (dCons (dTup (dCons (dC (.bl false)) (dCons (dTup dNil) (dCons (dTup dNil) (dCons (dTup (dCons (dC (.str "note")) dNil)) (dCons (dTup (dCons (dC (.int 1)) dNil)) dNil)))))) dNil)))
    (sSeq (sFor (iRng2D (dCons (dC (.int 1)) (dCons (dO2 dAdd (dC (.int 1)) (dCall 3 dn_llaw_take (dCons (dVar 0) (dCons (dC (.int 1)) (dCons (dC (.int 9)) dNil))))) dNil))) (bName 5)
    bl_llaw_view_1)
    bt_llaw_view_1))))
@[irreducible] noncomputable def dn_llaw_view : List D → S → Out D := defD 3 11 b_llaw_view
theorem sc_llaw_view : FnScope N_llaw_view ["_law_rows", "_law_kinds_here", "_law_goes_on"] (defScope s_llaw_view) := ⟨rfl, rfl, rfl, by decide +kernel, rfl, by decide +kernel, by decide +kernel⟩
theorem ok_llaw_view (d : DefAt K mg "_law_view" "_law_view" s_llaw_view) (m_range : mg "range" = none) (c_llaw_begin : FnD P w K mg base cl "_law_begin" 3 2 dn_llaw_begin) (c_llaw_take : FnD P w K mg base cl "_law_take" 3 1 dn_llaw_take) (c_llaw_run : FnD P w K mg base cl "_law_run" 4 3 dn_llaw_run) : FnD P w K mg base cl "_law_view" 3 4 dn_llaw_view := by
  obtain ⟨fa, fd, hm, F⟩ := d
  unfold dn_llaw_view
  exact fnD_of (body := b_llaw_view) F sc_llaw_view rfl rfl hm (F.binds fun _ _ _ _ _ _ us hl => match us, hl with | [_, _, _], _ => rfl) (fun cdv A outer s H E hr tk =>
    (sl_cons (ss_set (i := 3) sc_llaw_view.nd rfl (Or.inl rfl) (se_lst (sa_cons (se_bin op_sub op2_sub (se_call c_llaw_take (hr.mono (by decide)) tk rfl (sa_cons (se_var (pv 0)) (sa_cons se_int (sa_cons se_int sa_nil)))) se_int) (sa_cons se_int (sa_cons se_int (sa_cons se_int (sa_cons se_int (sa_cons se_int sa_nil))))))))
    (sl_cons (ss_expr (se_call c_llaw_begin (hr.mono (by decide)) tk rfl (sa_cons (se_var (pv 3)) (sa_cons (se_var (pv 0)) (sa_cons (se_var (pv 1)) sa_nil)))))
    (sl_cons (ss_set (i := 4) sc_llaw_view.nd rfl (Or.inl rfl) (se_lst (sa_cons (se_tup (sa_cons se_bl (sa_cons (se_tup sa_nil) (sa_cons (se_tup sa_nil) (sa_cons (se_tup (sa_cons se_str sa_nil)) (sa_cons (se_tup (sa_cons se_int sa_nil)) sa_nil)))))) sa_nil)))
    (sl_cons (ss_for (sl := [5]) (passes_of rfl) rfl (si_rng2 rfl m_range (sa_cons se_int (sa_cons (se_bin or_add op2_add se_int (se_call c_llaw_take (hr.mono (by decide)) tk rfl (sa_cons (se_var (pv 0)) (sa_cons se_int (sa_cons se_int sa_nil))))) sa_nil))) (pg_name (i := 5) sc_llaw_view.nd rfl (Or.inl rfl)) (gm_name (by decide))
    (sl_cons (ss_set (i := 6) sc_llaw_view.nd rfl (Or.inl rfl) (se_cmp (or_eq (hu64 hr)) op2_eq (nomark _) (se_call c_llaw_take (hr.mono (by decide)) tk rfl (sa_cons (se_var (pv 0)) (sa_cons (se_var (pv 5)) (sa_cons se_int sa_nil)))) se_int))
    (sl_cons (ss_set (i := 7) sc_llaw_view.nd rfl (Or.inl rfl) (se_call c_llaw_take (hr.mono (by decide)) tk rfl (sa_cons (se_var (pv 0)) (sa_cons (se_var (pv 5)) (sa_cons se_int sa_nil)))))
    (sl_cons (ss_if (SW.sb (sw_or (sb_tru (se_var (pv 2))) (sw_or1 (sb_not (sb_tru (se_var (pv 6)))))))
    (sl_one (ss_expr (se_call c_llaw_run (hr.mono (by decide)) tk rfl (sa_cons (se_var (pv 3)) (sa_cons (se_var (pv 0)) (sa_cons (se_var (pv 7)) (sa_cons (se_var (pv 1)) sa_nil)))))))
    sl_nil)
    (sl_cons (ss_set (i := 8) sc_llaw_view.nd rfl (Or.inl rfl) (se_ix ix_seq op2_ix (se_var (pv 3)) se_int (fun _ _ => rfl)))
    (sl_cons (ss_set (i := 9) sc_llaw_view.nd rfl (Or.inl rfl) (se_call c_llaw_take (hr.mono (by decide)) tk rfl (sa_cons (se_var (pv 0)) (sa_cons (se_var (pv 5)) (sa_cons se_int sa_nil)))))
    (sl_cons (ss_set (i := 10) sc_llaw_view.nd rfl (Or.inl rfl) (se_tup (sa_cons se_str sa_nil)))
    (sl_cons (ss_if (sb_cmp (or_eq (hu64 hr)) op2_eq (nomark _) (se_var (pv 9)) se_int)
    (sl_cons (ss_set (i := 10) sc_llaw_view.nd rfl (Or.inl rfl) (se_tup (sa_cons se_str (sa_cons se_int (sa_cons (se_call c_llaw_take (hr.mono (by decide)) tk rfl (sa_cons (se_var (pv 0)) (sa_cons (se_var (pv 5)) (sa_cons se_int sa_nil)))) sa_nil)))))
    (sl_one (ss_setI (se_var (pv 3)) se_int (se_ix ix_seq op2_ix (se_var (pv 10)) se_int (fun _ _ => rfl)))))
    sl_nil)
    (sl_cons (ss_if (sb_cmp (or_eq (hu64 hr)) op2_eq (nomark _) (se_var (pv 9)) se_int)
    (sl_one (ss_setI (se_var (pv 3)) se_int (se_bin op_sub op2_sub (se_call c_llaw_take (hr.mono (by decide)) tk rfl (sa_cons (se_var (pv 0)) (sa_cons (se_var (pv 5)) (sa_cons se_int sa_nil)))) se_int)))
    sl_nil)
    (sl_cons (ss_if (SW.sb (sw_or (sb_cmp (or_eq (hu64 hr)) op2_eq (nomark _) (se_var (pv 9)) se_int) (sw_or1 (sb_cmp (or_ne (hu64 hr)) op2_ne (nomark _) (se_ix ix_seq op2_ix (se_var (pv 3)) se_int (fun _ _ => rfl)) (se_var (pv 8))))))
    (sl_one (ss_expr (se_call c_llaw_begin (hr.mono (by decide)) tk rfl (sa_cons (se_var (pv 3)) (sa_cons (se_var (pv 0)) (sa_cons (se_var (pv 1)) sa_nil))))))
    sl_nil)
    (sl_one (ss_expr (se_mt PySem.F.plainAttrs_list PySem.F.slot_list_append PySem.F.type_list_append mt_append opm_append (se_var (pv 4)) (sa_cons (se_tup (sa_cons (se_var (pv 6)) (sa_cons (se_tup (sa_cons (se_var (pv 8)) sa_nil)) (sa_cons (se_tup (sa_cons (se_ix ix_seq op2_ix (se_var (pv 3)) se_int (fun _ _ => rfl)) sa_nil)) (sa_cons (se_var (pv 10)) (sa_cons (se_tup (sa_cons (se_bin or_add op2_add (se_var (pv 5)) se_int) sa_nil)) sa_nil)))))) sa_nil))))))))))))))
    (sl_one (ss_ret (se_var (pv 4)))))))))
/-! ### Frame.__init__ -/
abbrev s_Frame_init : Stmt := inClass (topS 18) 0
abbrev N_Frame_init : List Str := ["self", "devices", "clocks", "links", "sources", "faults"]
noncomputable def b_Frame_init : SM :=
    (sSeq (sFldS ["Frame"] "devices" (dVar 0) (dON dList (dCons (dVar 1) dNil)))
    (sSeq (sFldS ["Frame"] "clocks" (dVar 0) (dON dList (dCons (dVar 2) dNil)))
    (sSeq (sFldS ["Frame"] "links" (dVar 0) (dON dList (dCons (dVar 3) dNil)))
    (sSeq (sFldS ["Frame"] "sources" (dVar 0) (dON dList (dCons (dVar 4) dNil)))
    (sFldS ["Frame"] "faults" (dVar 0) (dVar 5))))))
@[irreducible] noncomputable def dn_Frame_init : List D → S → Out D := defD 6 6 b_Frame_init
theorem sc_Frame_init : FnScope N_Frame_init ["self", "devices", "clocks", "links", "sources", "faults"] (defScope s_Frame_init) := ⟨rfl, rfl, rfl, by decide +kernel, rfl, by decide +kernel, by decide +kernel⟩
theorem ok_Frame_init (d : MkAt K cl mg "Frame" "Frame.__init__" s_Frame_init) (m_list : mg "list" = none) (f_Frame_devices : FldAt K cl "Frame" "devices") (f_Frame_clocks : FldAt K cl "Frame" "clocks") (f_Frame_links : FldAt K cl "Frame" "links") (f_Frame_sources : FldAt K cl "Frame" "sources") (f_Frame_faults : FldAt K cl "Frame" "faults") : MkD P w K mg base cl "Frame" 6 1 dn_Frame_init := by
  unfold dn_Frame_init
  exact mkD_of (body := b_Frame_init) d sc_Frame_init rfl rfl (fun _ _ _ _ _ _ us hl => match us, hl with | [_, _, _, _, _, _], _ => rfl) fun fa => fun cdv A outer s H E hr tk =>
    (sl_cons (ss_fld (se_var (pv 0)) (se_callTy call_list_of opn_list rfl m_list (by decide +kernel) (sa_cons (se_var (pv 1)) sa_nil)) (all_cons f_Frame_devices all_nil))
    (sl_cons (ss_fld (se_var (pv 0)) (se_callTy call_list_of opn_list rfl m_list (by decide +kernel) (sa_cons (se_var (pv 2)) sa_nil)) (all_cons f_Frame_clocks all_nil))
    (sl_cons (ss_fld (se_var (pv 0)) (se_callTy call_list_of opn_list rfl m_list (by decide +kernel) (sa_cons (se_var (pv 3)) sa_nil)) (all_cons f_Frame_links all_nil))
    (sl_cons (ss_fld (se_var (pv 0)) (se_callTy call_list_of opn_list rfl m_list (by decide +kernel) (sa_cons (se_var (pv 4)) sa_nil)) (all_cons f_Frame_sources all_nil))
    (sl_one (ss_fld (se_var (pv 0)) (se_var (pv 5)) (all_cons f_Frame_faults all_nil)))))))
/-! ### Table.__init__ -/
abbrev s_Table_init : Stmt := inClass (topS 14) 0
abbrev N_Table_init : List Str := ["self"]
noncomputable def b_Table_init : SM :=
    (sSeq (sFldS ["Table"] "names" (dVar 0) (dLst dNil))
    (sSeq (sFldS ["Table"] "rows" (dVar 0) (dLst dNil))
    (sFldS ["Table"] "whole" (dVar 0) (dC (.bl true)))))
@[irreducible] noncomputable def dn_Table_init : List D → S → Out D := defD 1 1 b_Table_init
theorem sc_Table_init : FnScope N_Table_init ["self"] (defScope s_Table_init) := ⟨rfl, rfl, rfl, by decide +kernel, rfl, by decide +kernel, by decide +kernel⟩
theorem ok_Table_init (d : MkAt K cl mg "Table" "Table.__init__" s_Table_init) (f_Table_names : FldAt K cl "Table" "names") (f_Table_rows : FldAt K cl "Table" "rows") (f_Table_whole : FldAt K cl "Table" "whole") : MkD P w K mg base cl "Table" 1 1 dn_Table_init := by
  unfold dn_Table_init
  exact mkD_of (body := b_Table_init) d sc_Table_init rfl rfl (fun _ _ _ _ _ _ us hl => match us, hl with | [_], _ => rfl) fun fa => fun cdv A outer s H E hr tk =>
    (sl_cons (ss_fld (se_var (pv 0)) (se_lst sa_nil) (all_cons f_Table_names all_nil))
    (sl_cons (ss_fld (se_var (pv 0)) (se_lst sa_nil) (all_cons f_Table_rows all_nil))
    (sl_one (ss_fld (se_var (pv 0)) se_bl (all_cons f_Table_whole all_nil)))))
/-! ### Table.possible -/
abbrev s_Table_possible : Stmt := inClass (topS 14) 2
abbrev N_Table_possible : List Str := ["self"]
noncomputable def b_Table_possible : SM :=
    (sRet (dFld ["Table"] "whole" (dVar 0)))
@[irreducible] noncomputable def dn_Table_possible : List D → S → Out D := defD 1 1 b_Table_possible
theorem sc_Table_possible : FnScope N_Table_possible ["self"] (defScope s_Table_possible) := ⟨rfl, rfl, rfl, by decide +kernel, rfl, by decide +kernel, by decide +kernel⟩
theorem ok_Table_possible (d : PropAt K cl "Table" "possible" "Table.possible" s_Table_possible) (m_property : mg "property" = none) (f_Table_whole : FldAt K cl "Table" "whole") : PrD P w K mg base cl "Table" "possible" 1 dn_Table_possible := by
  unfold dn_Table_possible
  exact prD_of (body := b_Table_possible) d sc_Table_possible rfl rfl (fun _ _ _ _ _ _ us hl => match us, hl with | [_], _ => rfl) fun fa => fun cdv A outer s H E hr tk =>
    (sl_one (ss_ret (se_fld (se_var (pv 0)) (all_cons f_Table_whole all_nil))))
/-! ### Table.add_point -/
abbrev s_Table_add_point : Stmt := inClass (topS 14) 3
abbrev N_Table_add_point : List Str := ["self", "point", "row"]
noncomputable def b_Table_add_point : SM :=
    (sSeq (sExpr (dMt "list" mAppend (dFld ["Table"] "names" (dVar 0)) (dCons (dVar 1) dNil)))
    (sSeq (sFor (iAny (dFld ["Table"] "rows" (dVar 0))) (bName 2)
    (sExpr (dMt "list" mAppend (dVar 2) (dCons (dC .non) dNil))))
    (sExpr (dMt "list" mAppend (dFld ["Table"] "rows" (dVar 0)) (dCons (dO2 dAdd (dO2 dMul (dLst (dCons (dC .non) dNil)) (dO2 dSub (dON dLen (dCons (dFld ["Table"] "names" (dVar 0)) dNil)) (dC (.int 1)))) (dLst (dCons (dC (.int 0)) dNil))) dNil)))))
@[irreducible] noncomputable def dn_Table_add_point : List D → S → Out D := defD 2 3 b_Table_add_point
theorem sc_Table_add_point : FnScope N_Table_add_point ["self", "point"] (defScope s_Table_add_point) := ⟨rfl, rfl, rfl, by decide +kernel, rfl, by decide +kernel, by decide +kernel⟩
theorem ok_Table_add_point (d : MethAt K cl "Table" "add_point" "Table.add_point" s_Table_add_point) (m_len : mg "len" = none) (f_Table_rows : FldAt K cl "Table" "rows") (f_Table_names : FldAt K cl "Table" "names") : MtD P w K mg base cl "Table" "add_point" 2 1 dn_Table_add_point := by
  unfold dn_Table_add_point
  exact mtD_of (body := b_Table_add_point) d sc_Table_add_point rfl rfl (fun _ _ _ _ _ _ us hl => match us, hl with | [_, _], _ => rfl) fun fa => fun cdv A outer s H E hr tk =>
    (sl_cons (ss_expr (se_mt PySem.F.plainAttrs_list PySem.F.slot_list_append PySem.F.type_list_append mt_append opm_append (se_fld (se_var (pv 0)) (all_cons f_Table_names all_nil)) (sa_cons (se_var (pv 1)) sa_nil)))
    (sl_cons (ss_for (sl := [2]) (passes_of rfl) rfl (si_any (se_fld (se_var (pv 0)) (all_cons f_Table_rows all_nil))) (pg_name (i := 2) sc_Table_add_point.nd rfl (Or.inl rfl)) (gm_name (by decide))
    (sl_one (ss_expr (se_mt PySem.F.plainAttrs_list PySem.F.slot_list_append PySem.F.type_list_append mt_append opm_append (se_var (pv 2)) (sa_cons se_non sa_nil)))))
    (sl_one (ss_expr (se_mt PySem.F.plainAttrs_list PySem.F.slot_list_append PySem.F.type_list_append mt_append opm_append (se_fld (se_var (pv 0)) (all_cons f_Table_rows all_nil)) (sa_cons (se_bin or_add op2_add (se_bin or_mul op2_mul (se_lst (sa_cons se_non sa_nil)) (se_bin op_sub op2_sub (se_callB call_len opn_len rfl m_len PySem.boot_len (sa_cons (se_fld (se_var (pv 0)) (all_cons f_Table_names all_nil)) sa_nil)) se_int)) (se_lst (sa_cons se_int sa_nil))) sa_nil))))))
/-! ### lesser -/
abbrev s_lesser : Stmt := topS 13
abbrev N_lesser : List Str := ["one", "other"]
noncomputable def b_lesser : SM :=
    (sSeq (sIf (dB (dO2 dIs (dVar 0) (dC .non)))
    (sRet (dVar 1))
    sPass)
    (sSeq (sIf (dB (dO2 dIs (dVar 1) (dC .non)))
    (sRet (dVar 0))
    sPass)
    (sRet (dON dMin2 (dCons (dVar 0) (dCons (dVar 1) dNil))))))
@[irreducible] noncomputable def dn_lesser : List D → S → Out D := defD 2 2 b_lesser
theorem sc_lesser : FnScope N_lesser ["one", "other"] (defScope s_lesser) := ⟨rfl, rfl, rfl, by decide +kernel, rfl, by decide +kernel, by decide +kernel⟩
theorem ok_lesser (d : DefAt K mg "lesser" "lesser" s_lesser) (m_min : mg "min" = none) : FnD P w K mg base cl "lesser" 2 1 dn_lesser := by
  obtain ⟨fa, fd, hm, F⟩ := d
  unfold dn_lesser
  exact fnD_of (body := b_lesser) F sc_lesser rfl rfl hm (F.binds fun _ _ _ _ _ _ us hl => match us, hl with | [_, _], _ => rfl) (fun cdv A outer s H E hr tk =>
    (sl_cons (ss_if (sb_cmp or_is op2_is (nomark _) (se_var (pv 0)) se_non)
    (sl_one (ss_ret (se_var (pv 1))))
    sl_nil)
    (sl_cons (ss_if (sb_cmp or_is op2_is (nomark _) (se_var (pv 1)) se_non)
    (sl_one (ss_ret (se_var (pv 0))))
    sl_nil)
    (sl_one (ss_ret (se_callB (call_min2 rfl) opn_min2 rfl m_min (by decide +kernel) (sa_cons (se_var (pv 0)) (sa_cons (se_var (pv 1)) sa_nil))))))))
/-! ### Table.put_bound -/
abbrev s_Table_put_bound : Stmt := inClass (topS 14) 4
abbrev N_Table_put_bound : List Str := ["self", "first", "second", "amount", "here", "there", "back", "onward", "row", "base", "k", "step"]
noncomputable def b_Table_put_bound : SM :=
    (sSeq (sSet 4 (dMt "list" mIndex (dFld ["Table"] "names" (dVar 0)) (dCons (dVar 1) dNil)))
    (sSeq (sSet 5 (dMt "list" mIndex (dFld ["Table"] "names" (dVar 0)) (dCons (dVar 2) dNil)))
    (sSeq (sSet 6 (dO2 dIx (dO2 dIx (dFld ["Table"] "rows" (dVar 0)) (dVar 5)) (dVar 4)))
    (sSeq (sIf (dAndT (dB (dO2 dIsNot (dVar 6) (dC .non))) (dB (dO2 dLt (dO2 dAdd (dVar 6) (dVar 3)) (dC (.int 0)))))
    (sSeq (sFldS ["Table"] "whole" (dVar 0) (dC (.bl false)))
    (sRet (dC (.bl false))))
    sPass)
    (sSeq (sSet 7 (dON dList (dCons (dO2 dIx (dFld ["Table"] "rows" (dVar 0)) (dVar 5)) dNil)))
    (sSeq (sFor (iAny (dFld ["Table"] "rows" (dVar 0))) (bName 8)
    (sIf (dB (dO2 dIsNot (dO2 dIx (dVar 8) (dVar 4)) (dC .non)))
    (sSeq (sSet 9 (dO2 dAdd (dO2 dIx (dVar 8) (dVar 4)) (dVar 3)))
    (sFor (iEn (dCons (dVar 7) dNil)) (bTup 2 (bCons (bName 10) (bCons (bName 11) bNil)))
    (sIf (dB (dO2 dIsNot (dVar 11) (dC .non)))
    (sSetI (dVar 8) (dVar 10) (dCall 2 dn_lesser (dCons (dO2 dIx (dVar 8) (dVar 10)) (dCons (dO2 dAdd (dVar 9) (dVar 11)) dNil))))
    sPass)))
    sPass))
    (sRet (dC (.bl true)))))))))
@[irreducible] noncomputable def dn_Table_put_bound : List D → S → Out D := defD 4 12 b_Table_put_bound
theorem sc_Table_put_bound : FnScope N_Table_put_bound ["self", "first", "second", "amount"] (defScope s_Table_put_bound) := ⟨rfl, rfl, rfl, by decide +kernel, rfl, by decide +kernel, by decide +kernel⟩
theorem ok_Table_put_bound (d : MethAt K cl "Table" "put_bound" "Table.put_bound" s_Table_put_bound) (m_list : mg "list" = none) (m_enumerate : mg "enumerate" = none) (f_Table_rows : FldAt K cl "Table" "rows") (f_Table_whole : FldAt K cl "Table" "whole") (f_Table_names : FldAt K cl "Table" "names") (c_lesser : FnD P w K mg base cl "lesser" 2 1 dn_lesser) : MtD P w K mg base cl "Table" "put_bound" 4 2 dn_Table_put_bound := by
  unfold dn_Table_put_bound
  exact mtD_of (body := b_Table_put_bound) d sc_Table_put_bound rfl rfl (fun _ _ _ _ _ _ us hl => match us, hl with | [_, _, _, _], _ => rfl) fun fa => fun cdv A outer s H E hr tk =>
    (sl_cons (ss_set (i := 4) sc_Table_put_bound.nd rfl (Or.inl rfl) (se_mt PySem.F.plainAttrs_list PySem.F.slot_list_index PySem.F.type_list_index (mt_indexD (hu65 hr)) opm_index (se_fld (se_var (pv 0)) (all_cons f_Table_names all_nil)) (sa_cons (se_var (pv 1)) sa_nil)))
    (sl_cons (ss_set (i := 5) sc_Table_put_bound.nd rfl (Or.inl rfl) (se_mt PySem.F.plainAttrs_list PySem.F.slot_list_index PySem.F.type_list_index (mt_indexD (hu65 hr)) opm_index (se_fld (se_var (pv 0)) (all_cons f_Table_names all_nil)) (sa_cons (se_var (pv 2)) sa_nil)))
    (sl_cons (ss_set (i := 6) sc_Table_put_bound.nd rfl (Or.inl rfl) (se_ix ix_seq op2_ix (se_ix ix_seq op2_ix (se_fld (se_var (pv 0)) (all_cons f_Table_rows all_nil)) (se_var (pv 5)) (fun _ _ => rfl)) (se_var (pv 4)) (fun _ _ => rfl)))
    (sl_cons (ss_if (SW.sb (sw_and (sb_cmp or_isnot op2_isnot (nomark _) (se_var (pv 6)) se_non) (sw_and1 (sb_cmp op_lt op2_i2 (nomark _) (se_bin or_add op2_add (se_var (pv 6)) (se_var (pv 3))) se_int))))
    (sl_cons (ss_fld (se_var (pv 0)) se_bl (all_cons f_Table_whole all_nil))
    (sl_one (ss_ret se_bl)))
    sl_nil)
    (sl_cons (ss_set (i := 7) sc_Table_put_bound.nd rfl (Or.inl rfl) (se_callTy call_list_of opn_list rfl m_list (by decide +kernel) (sa_cons (se_ix ix_seq op2_ix (se_fld (se_var (pv 0)) (all_cons f_Table_rows all_nil)) (se_var (pv 5)) (fun _ _ => rfl)) sa_nil)))
    (sl_cons (ss_for (sl := [8]) (passes_of rfl) rfl (si_any (se_fld (se_var (pv 0)) (all_cons f_Table_rows all_nil))) (pg_name (i := 8) sc_Table_put_bound.nd rfl (Or.inl rfl)) (gm_name (by decide))
    (sl_one (ss_if (sb_cmp or_isnot op2_isnot (nomark _) (se_ix ix_seq op2_ix (se_var (pv 8)) (se_var (pv 4)) (fun _ _ => rfl)) se_non)
    (sl_cons (ss_set (i := 9) sc_Table_put_bound.nd rfl (Or.inl rfl) (se_bin or_add op2_add (se_ix ix_seq op2_ix (se_var (pv 8)) (se_var (pv 4)) (fun _ _ => rfl)) (se_var (pv 3))))
    (sl_one (ss_for (sl := [10, 11]) (passes_of rfl) rfl (si_en rfl m_enumerate (sa_cons (se_var (pv 7)) sa_nil)) (pg_tup rfl (pgs_cons (pg_name (i := 10) sc_Table_put_bound.nd rfl (Or.inl rfl)) (pgs_cons (pg_name (i := 11) sc_Table_put_bound.nd rfl (Or.inl rfl)) pgs_nil))) (gm_tup (gms_cons (gm_name (by decide)) (gms_cons (gm_name (by decide)) gms_nil)))
    (sl_one (ss_if (sb_cmp or_isnot op2_isnot (nomark _) (se_var (pv 11)) se_non)
    (sl_one (ss_setI (se_var (pv 8)) (se_var (pv 10)) (se_call c_lesser (hr.mono (by decide)) tk rfl (sa_cons (se_ix ix_seq op2_ix (se_var (pv 8)) (se_var (pv 10)) (fun _ _ => rfl)) (sa_cons (se_bin or_add op2_add (se_var (pv 9)) (se_var (pv 11))) sa_nil)))))
    sl_nil)))))
    sl_nil)))
    (sl_one (ss_ret se_bl))))))))
/-! ### table_of -/
abbrev s_table_of : Stmt := topS 16
abbrev N_table_of : List Str := ["bounds", "points", "table", "known", "point", "first", "second", "amount", "part"]
noncomputable def b_table_of : SM :=
    (sSeq (sSet 2 (dMake "Table" 1 dn_Table_init dNil))
    (sSeq (sSet 3 dSet0)
    (sSeq (sFor (iAny (dVar 1)) (bName 4)
    (sIf (dB (dO2 (dSIn2 not) (dVar 4) (dVar 3)))
    (sSeq (sExpr (dSAdd (dVar 3) (dVar 4)))
    (sExpr (dMet [("Table", dn_Table_add_point)] "add_point" 2 (dVar 2) (dCons (dVar 4) dNil))))
    sPass))
    (sSeq (sFor (iAny (dVar 0)) (bTup 4 (bCons (bName 5) (bCons (bName 6) (bCons (bName 7) (bCons (bName 8) bNil)))))
    (sFor (iAny (dTup (dCons (dVar 5) (dCons (dVar 6) dNil)))) (bName 4)
    (sIf (dB (dO2 (dSIn2 not) (dVar 4) (dVar 3)))
    (sSeq (sExpr (dSAdd (dVar 3) (dVar 4)))
    (sExpr (dMet [("Table", dn_Table_add_point)] "add_point" 2 (dVar 2) (dCons (dVar 4) dNil))))
    sPass)))
    (sSeq (sFor (iAny (dVar 0)) (bTup 4 (bCons (bName 5) (bCons (bName 6) (bCons (bName 7) (bCons (bName 8) bNil)))))
    (sIf (dTru (dProp [("Table", dn_Table_possible)] (dVar 2)))
    (sExpr (dMet [("Table", dn_Table_put_bound)] "put_bound" 4 (dVar 2) (dCons (dVar 5) (dCons (dVar 6) (dCons (dVar 7) dNil)))))
    sPass))
    (sRet (dVar 2)))))))
@[irreducible] noncomputable def dn_table_of : List D → S → Out D := defD 2 9 b_table_of
theorem sc_table_of : FnScope N_table_of ["bounds", "points"] (defScope s_table_of) := ⟨rfl, rfl, rfl, by decide +kernel, rfl, by decide +kernel, by decide +kernel⟩
theorem ok_table_of (d : DefAt K mg "table_of" "table_of" s_table_of) (m_set : mg "set" = none) (z_set : cl.P = P ∧ cl.w = w) (c_Table_init : MkD P w K mg base cl "Table" 1 1 dn_Table_init) (c_Table_possible : PrD P w K mg base cl "Table" "possible" 1 dn_Table_possible) (c_Table_add_point : MtD P w K mg base cl "Table" "add_point" 2 1 dn_Table_add_point) (c_Table_put_bound : MtD P w K mg base cl "Table" "put_bound" 4 2 dn_Table_put_bound) : FnD P w K mg base cl "table_of" 2 3 dn_table_of := by
  obtain ⟨fa, fd, hm, F⟩ := d
  unfold dn_table_of
  exact fnD_of (body := b_table_of) F sc_table_of rfl rfl hm (F.binds fun _ _ _ _ _ _ us hl => match us, hl with | [_, _], _ => rfl) (fun cdv A outer s H E hr tk =>
    (sl_cons (ss_set (i := 2) sc_table_of.nd rfl (Or.inl rfl) (se_make0 c_Table_init (hr.mono (by decide)) tk rfl))
    (sl_cons (ss_set (i := 3) sc_table_of.nd rfl (Or.inl rfl) (se_set0 z_set rfl m_set))
    (sl_cons (ss_for (sl := [4]) (passes_of rfl) rfl (si_any (se_var (pv 1))) (pg_name (i := 4) sc_table_of.nd rfl (Or.inl rfl)) (gm_name (by decide))
    (sl_one (ss_if (sb_cmp (op_snotinT (hu8 hr)) (op2_sin z_set) (by rfl) (se_var (pv 4)) (se_var (pv 3)))
    (sl_cons (ss_expr (se_sadd z_set hr (se_var (pv 3)) (se_var (pv 4))))
    (sl_one (ss_expr (se_met (k := 1) (se_var (pv 2)) (all_cons (c_Table_add_point.mono (by decide)) all_nil) (hr.mono (by decide)) tk (sa_cons (se_var (pv 4)) sa_nil)))))
    sl_nil)))
    (sl_cons (ss_for (sl := [5, 6, 7, 8]) (passes_of rfl) rfl (si_any (se_var (pv 0))) (pg_tup rfl (pgs_cons (pg_name (i := 5) sc_table_of.nd rfl (Or.inl rfl)) (pgs_cons (pg_name (i := 6) sc_table_of.nd rfl (Or.inl rfl)) (pgs_cons (pg_name (i := 7) sc_table_of.nd rfl (Or.inl rfl)) (pgs_cons (pg_name (i := 8) sc_table_of.nd rfl (Or.inl rfl)) pgs_nil))))) (gm_tup (gms_cons (gm_name (by decide)) (gms_cons (gm_name (by decide)) (gms_cons (gm_name (by decide)) (gms_cons (gm_name (by decide)) gms_nil)))))
    (sl_one (ss_for (sl := [4]) (passes_of rfl) rfl (si_any (se_tup (sa_cons (se_var (pv 5)) (sa_cons (se_var (pv 6)) sa_nil)))) (pg_name (i := 4) sc_table_of.nd rfl (Or.inl rfl)) (gm_name (by decide))
    (sl_one (ss_if (sb_cmp (op_snotinT (hu8 hr)) (op2_sin z_set) (by rfl) (se_var (pv 4)) (se_var (pv 3)))
    (sl_cons (ss_expr (se_sadd z_set hr (se_var (pv 3)) (se_var (pv 4))))
    (sl_one (ss_expr (se_met (k := 1) (se_var (pv 2)) (all_cons (c_Table_add_point.mono (by decide)) all_nil) (hr.mono (by decide)) tk (sa_cons (se_var (pv 4)) sa_nil)))))
    sl_nil)))))
    (sl_cons (ss_for (sl := [5, 6, 7, 8]) (passes_of rfl) rfl (si_any (se_var (pv 0))) (pg_tup rfl (pgs_cons (pg_name (i := 5) sc_table_of.nd rfl (Or.inl rfl)) (pgs_cons (pg_name (i := 6) sc_table_of.nd rfl (Or.inl rfl)) (pgs_cons (pg_name (i := 7) sc_table_of.nd rfl (Or.inl rfl)) (pgs_cons (pg_name (i := 8) sc_table_of.nd rfl (Or.inl rfl)) pgs_nil))))) (gm_tup (gms_cons (gm_name (by decide)) (gms_cons (gm_name (by decide)) (gms_cons (gm_name (by decide)) (gms_cons (gm_name (by decide)) gms_nil)))))
    (sl_one (ss_if (sb_tru (se_prop (k := 1) (se_var (pv 2)) (all_cons (c_Table_possible.mono (by decide)) all_nil) (hr.mono (by decide))))
    (sl_one (ss_expr (se_met (k := 2) (se_var (pv 2)) (all_cons (c_Table_put_bound.mono (by decide)) all_nil) (hr.mono (by decide)) tk (sa_cons (se_var (pv 5)) (sa_cons (se_var (pv 6)) (sa_cons (se_var (pv 7)) sa_nil))))))
    sl_nil)))
    (sl_one (ss_ret (se_var (pv 2))))))))))
/-! ### Frame.clocks_of -/
abbrev s_Frame_clocks_of : Stmt := inClass (topS 18) 2
abbrev N_Frame_clocks_of : List Str := ["self", "device", "k", "clock"]
noncomputable def b_Frame_clocks_of : SM :=
    (sRet (dLc (iEn (dCons (dFld ["Frame"] "clocks" (dVar 0)) dNil)) [2, 3] (bTup 2 (bCons (bName 2) (bCons (bName 3) bNil))) (dB (dO2 dEq (dO2 dIx (dVar 3) (dC (.int 1))) (dVar 1))) (dVar 2)))
@[irreducible] noncomputable def dn_Frame_clocks_of : List D → S → Out D := defD 2 4 b_Frame_clocks_of
theorem sc_Frame_clocks_of : FnScope N_Frame_clocks_of ["self", "device"] (defScope s_Frame_clocks_of) := ⟨rfl, rfl, rfl, by decide +kernel, rfl, by decide +kernel, by decide +kernel⟩
theorem ok_Frame_clocks_of (d : MethAt K cl "Frame" "clocks_of" "Frame.clocks_of" s_Frame_clocks_of) (m_enumerate : mg "enumerate" = none) (f_Frame_clocks : FldAt K cl "Frame" "clocks") : MtD P w K mg base cl "Frame" "clocks_of" 2 1 dn_Frame_clocks_of := by
  unfold dn_Frame_clocks_of
  exact mtD_of (body := b_Frame_clocks_of) d sc_Frame_clocks_of rfl rfl (fun _ _ _ _ _ _ us hl => match us, hl with | [_, _], _ => rfl) fun fa => fun cdv A outer s H E hr tk =>
    (sl_one (ss_ret (se_lc (sl := [2, 3]) (own := [("k", 2), ("clock", 3)]) rfl sc_Frame_clocks_of.nd (si_en rfl m_enumerate (sa_cons (se_fld (se_var (pv 0)) (all_cons f_Frame_clocks all_nil)) sa_nil)) (blkOk_by (N := N_Frame_clocks_of) (sc := defScope s_Frame_clocks_of) (by decide +kernel)) (gm_tup (gms_cons (gm_name (by decide)) (gms_cons (gm_name (by decide)) gms_nil))) (by decide) (fun _ _ _ _ _ => (pg_tup rfl (pgs_cons (pg_name (i := 2) sc_Frame_clocks_of.nd rfl (Or.inl rfl)) (pgs_cons (pg_name (i := 3) sc_Frame_clocks_of.nd rfl (Or.inl rfl)) pgs_nil)))) (fun _ _ _ _ _ => (sts_one (sb_cmp (or_eq (hu64 hr)) op2_eq (nomark _) (se_ix ix_seq op2_ix (se_var (pv 3)) se_int (fun _ _ => rfl)) (se_var (pv 1))))) (fun _ _ _ _ _ => (se_var (pv 2))))))
/-! ### first_hands -/
abbrev s_first_hands : Stmt := topS 4
abbrev N_first_hands : List Str := ["frame", "device", "clock"]
noncomputable def b_first_hands : SM :=
    (sRet (dLc (iAny (dMet [("Frame", dn_Frame_clocks_of)] "clocks_of" 2 (dVar 0) (dCons (dVar 1) dNil))) [2] (bName 2) cYes (dTup (dCons (dC .non) (dCons (dC (.int 0)) (dCons (dC (.int 0)) dNil))))))
@[irreducible] noncomputable def dn_first_hands : List D → S → Out D := defD 2 3 b_first_hands
theorem sc_first_hands : FnScope N_first_hands ["frame", "device"] (defScope s_first_hands) := ⟨rfl, rfl, rfl, by decide +kernel, rfl, by decide +kernel, by decide +kernel⟩
theorem ok_first_hands (d : DefAt K mg "first_hands" "first_hands" s_first_hands) (c_Frame_clocks_of : MtD P w K mg base cl "Frame" "clocks_of" 2 1 dn_Frame_clocks_of) : FnD P w K mg base cl "first_hands" 2 2 dn_first_hands := by
  obtain ⟨fa, fd, hm, F⟩ := d
  unfold dn_first_hands
  exact fnD_of (body := b_first_hands) F sc_first_hands rfl rfl hm (F.binds fun _ _ _ _ _ _ us hl => match us, hl with | [_, _], _ => rfl) (fun cdv A outer s H E hr tk =>
    (sl_one (ss_ret (se_lc (sl := [2]) (own := [("clock", 2)]) rfl sc_first_hands.nd (si_any (se_met (k := 1) (se_var (pv 0)) (all_cons (c_Frame_clocks_of.mono (by decide)) all_nil) (hr.mono (by decide)) tk (sa_cons (se_var (pv 1)) sa_nil))) (blkOk_by (N := N_first_hands) (sc := defScope s_first_hands) (by decide +kernel)) (gm_name (by decide)) (by decide) (fun _ _ _ _ _ => (pg_name (i := 2) sc_first_hands.nd rfl (Or.inl rfl))) (fun _ _ _ _ _ => sts_nil) (fun _ _ _ _ _ => (se_tup (sa_cons se_non (sa_cons se_int (sa_cons se_int sa_nil)))))))))
/-! ### sent_kind -/
abbrev s_sent_kind : Stmt := topS 10
abbrev N_sent_kind : List Str := ["view", "frame", "deed", "word"]
noncomputable def b_sent_kind : SM :=
    (sSeq (sIf (dB (dO2 dNe (dO2 dIx (dVar 2) (dC (.int 0))) (dC (.str "hear"))))
    (sRet (dC .non))
    sPass)
    (sSeq (sSet 3 (dO2 dIx (dO2 dIx (dO2 dIx (dVar 0) (dO2 dIx (dO2 dIx (dFld ["Frame"] "links" (dVar 1)) (dO2 dIx (dVar 2) (dC (.int 1)))) (dC (.int 1)))) (dO2 dIx (dVar 2) (dC (.int 2)))) (dC (.int 3))))
    (sRet (dIfE (dB (dO2 dEq (dO2 dIx (dVar 3) (dC (.int 0))) (dC (.str "send")))) (dO2 dIx (dVar 3) (dC (.int 2))) (dC .non)))))
@[irreducible] noncomputable def dn_sent_kind : List D → S → Out D := defD 3 4 b_sent_kind
theorem sc_sent_kind : FnScope N_sent_kind ["view", "frame", "deed"] (defScope s_sent_kind) := ⟨rfl, rfl, rfl, by decide +kernel, rfl, by decide +kernel, by decide +kernel⟩
theorem ok_sent_kind (d : DefAt K mg "sent_kind" "sent_kind" s_sent_kind) (f_Frame_links : FldAt K cl "Frame" "links") : FnD P w K mg base cl "sent_kind" 3 1 dn_sent_kind := by
  obtain ⟨fa, fd, hm, F⟩ := d
  unfold dn_sent_kind
  exact fnD_of (body := b_sent_kind) F sc_sent_kind rfl rfl hm (F.binds fun _ _ _ _ _ _ us hl => match us, hl with | [_, _, _], _ => rfl) (fun cdv A outer s H E hr tk =>
    (sl_cons (ss_if (sb_cmp (or_ne (hu64 hr)) op2_ne (nomark _) (se_ix ix_seq op2_ix (se_var (pv 2)) se_int (fun _ _ => rfl)) se_str)
    (sl_one (ss_ret se_non))
    sl_nil)
    (sl_cons (ss_set (i := 3) sc_sent_kind.nd rfl (Or.inl rfl) (se_ix ix_seq op2_ix (se_ix ix_seq op2_ix (se_ix ix_seq op2_ix (se_var (pv 0)) (se_ix ix_seq op2_ix (se_ix ix_seq op2_ix (se_fld (se_var (pv 1)) (all_cons f_Frame_links all_nil)) (se_ix ix_seq op2_ix (se_var (pv 2)) se_int (fun _ _ => rfl)) (fun _ _ => rfl)) se_int (fun _ _ => rfl)) (fun _ _ => rfl)) (se_ix ix_seq op2_ix (se_var (pv 2)) se_int (fun _ _ => rfl)) (fun _ _ => rfl)) se_int (fun _ _ => rfl)))
    (sl_one (ss_ret (se_ifE (sb_cmp (or_eq (hu64 hr)) op2_eq (nomark _) (se_ix ix_seq op2_ix (se_var (pv 3)) se_int (fun _ _ => rfl)) se_str) (se_ix ix_seq op2_ix (se_var (pv 3)) se_int (fun _ _ => rfl)) se_non))))))
/-! ### within -/
abbrev s_within : Stmt := topS 3
abbrev N_within : List Str := ["first", "second", "least", "most", "part"]
noncomputable def b_within : SM :=
    (sRet (dLst (dCons (dTup (dCons (dVar 0) (dCons (dVar 1) (dCons (dVar 3) (dCons (dVar 4) dNil))))) (dCons (dTup (dCons (dVar 1) (dCons (dVar 0) (dCons (dO1 dNeg (dVar 2)) (dCons (dVar 4) dNil))))) dNil))))
@[irreducible] noncomputable def dn_within : List D → S → Out D := defD 5 5 b_within
theorem sc_within : FnScope N_within ["first", "second", "least", "most", "part"] (defScope s_within) := ⟨rfl, rfl, rfl, by decide +kernel, rfl, by decide +kernel, by decide +kernel⟩
theorem ok_within (d : DefAt K mg "within" "within" s_within)  : FnD P w K mg base cl "within" 5 1 dn_within := by
  obtain ⟨fa, fd, hm, F⟩ := d
  unfold dn_within
  exact fnD_of (body := b_within) F sc_within rfl rfl hm (F.binds fun _ _ _ _ _ _ us hl => match us, hl with | [_, _, _, _, _], _ => rfl) (fun cdv A outer s H E hr tk =>
    (sl_one (ss_ret (se_lst (sa_cons (se_tup (sa_cons (se_var (pv 0)) (sa_cons (se_var (pv 1)) (sa_cons (se_var (pv 3)) (sa_cons (se_var (pv 4)) sa_nil))))) (sa_cons (se_tup (sa_cons (se_var (pv 1)) (sa_cons (se_var (pv 0)) (sa_cons (se_un un_neg op1_neg (se_var (pv 2))) (sa_cons (se_var (pv 4)) sa_nil))))) sa_nil))))))
/-! ### clock_bounds -/
abbrev s_clock_bounds : Stmt := topS 7
abbrev N_clock_bounds : List Str := ["rule", "hand", "stopped", "tick", "event", "before", "shown", "rows", "low", "high", "part", "since", "value", "kind", "gain"]
noncomputable def b_clock_bounds : SM :=
    (sSeq (sAsg (bTup 3 (bCons (bName 8) (bCons (bName 9) (bCons (bName 10) bNil)))) (dVar 0))
    (sSeq (sAsg (bTup 3 (bCons (bName 11) (bCons (bName 12) (bCons (bName 13) bNil)))) (dVar 1))
    (sSeq (sIf (dAndT (dB (dO2 dIsNot (dVar 11) (dC .non))) (dAndT (dNotT (dTru (dVar 2))) (dB (dO2 dEq (dVar 6) (dVar 12)))))
    (sRet (dTup (dCons (dCall 5 dn_within (dCons (dVar 11) (dCons (dVar 4) (dCons (dC (.int 0)) (dCons (dVar 9) (dCons (dVar 10) dNil)))))) (dCons (dVar 11) dNil))))
    sPass)
    (sSeq (sSet 7 (dLst dNil))
    (sSeq (sIf (dAndT (dB (dO2 dIsNot (dVar 11) (dC .non))) (dNotT (dTru (dVar 2))))
    (sSeq (sSet 14 (dO2 dSub (dVar 6) (dVar 12)))
    (sSeq (sSet 7 (dCall 5 dn_within (dCons (dVar 11) (dCons (dVar 3) (dCons (dO2 dMul (dVar 8) (dVar 14)) (dCons (dO2 dMul (dVar 9) (dVar 14)) (dCons (dVar 10) dNil)))))))
    (sSeq (sExpr (dMt "list" mAppend (dVar 7) (dCons (dTup (dCons (dVar 3) (dCons (dVar 11) (dCons (dC (.int 0)) (dCons (dVar 10) dNil))))) dNil)))
    (sExpr (dMt "list" mAppend (dVar 7) (dCons (dTup (dCons (dVar 3) (dCons (dVar 5) (dCons (dO2 dMul (dO1 dNeg (dVar 8)) (dO2 dSub (dVar 14) (dC (.int 1)))) (dCons (dVar 10) dNil))))) dNil))))))
    sPass)
    (sRet (dTup (dCons (dO2 dAdd (dVar 7) (dCall 5 dn_within (dCons (dVar 3) (dCons (dVar 4) (dCons (dC (.int 0)) (dCons (dVar 9) (dCons (dVar 10) dNil))))))) (dCons (dVar 3) dNil)))))))))
@[irreducible] noncomputable def dn_clock_bounds : List D → S → Out D := defD 7 15 b_clock_bounds
theorem sc_clock_bounds : FnScope N_clock_bounds ["rule", "hand", "stopped", "tick", "event", "before", "shown"] (defScope s_clock_bounds) := ⟨rfl, rfl, rfl, by decide +kernel, rfl, by decide +kernel, by decide +kernel⟩
theorem ok_clock_bounds (d : DefAt K mg "clock_bounds" "clock_bounds" s_clock_bounds) (c_within : FnD P w K mg base cl "within" 5 1 dn_within) : FnD P w K mg base cl "clock_bounds" 7 2 dn_clock_bounds := by
  obtain ⟨fa, fd, hm, F⟩ := d
  unfold dn_clock_bounds
  exact fnD_of (body := b_clock_bounds) F sc_clock_bounds rfl rfl hm (F.binds fun _ _ _ _ _ _ us hl => match us, hl with | [_, _, _, _, _, _, _], _ => rfl) (fun cdv A outer s H E hr tk =>
    (sl_cons (ss_asg (sl := [8, 9, 10]) (se_var (pv 0)) (pg_tup rfl (pgs_cons (pg_name (i := 8) sc_clock_bounds.nd rfl (Or.inl rfl)) (pgs_cons (pg_name (i := 9) sc_clock_bounds.nd rfl (Or.inl rfl)) (pgs_cons (pg_name (i := 10) sc_clock_bounds.nd rfl (Or.inl rfl)) pgs_nil)))) (gm_tup (gms_cons (gm_name (by decide)) (gms_cons (gm_name (by decide)) (gms_cons (gm_name (by decide)) gms_nil)))))
    (sl_cons (ss_asg (sl := [11, 12, 13]) (se_var (pv 1)) (pg_tup rfl (pgs_cons (pg_name (i := 11) sc_clock_bounds.nd rfl (Or.inl rfl)) (pgs_cons (pg_name (i := 12) sc_clock_bounds.nd rfl (Or.inl rfl)) (pgs_cons (pg_name (i := 13) sc_clock_bounds.nd rfl (Or.inl rfl)) pgs_nil)))) (gm_tup (gms_cons (gm_name (by decide)) (gms_cons (gm_name (by decide)) (gms_cons (gm_name (by decide)) gms_nil)))))
    (sl_cons (ss_if (SW.sb (sw_and (sb_cmp or_isnot op2_isnot (nomark _) (se_var (pv 11)) se_non) (sw_and (sb_not (sb_tru (se_var (pv 2)))) (sw_and1 (sb_cmp (or_eq (hu64 hr)) op2_eq (nomark _) (se_var (pv 6)) (se_var (pv 12)))))))
    (sl_one (ss_ret (se_tup (sa_cons (se_call c_within (hr.mono (by decide)) tk rfl (sa_cons (se_var (pv 11)) (sa_cons (se_var (pv 4)) (sa_cons se_int (sa_cons (se_var (pv 9)) (sa_cons (se_var (pv 10)) sa_nil)))))) (sa_cons (se_var (pv 11)) sa_nil)))))
    sl_nil)
    (sl_cons (ss_set (i := 7) sc_clock_bounds.nd rfl (Or.inl rfl) (se_lst sa_nil))
    (sl_cons (ss_if (SW.sb (sw_and (sb_cmp or_isnot op2_isnot (nomark _) (se_var (pv 11)) se_non) (sw_and1 (sb_not (sb_tru (se_var (pv 2)))))))
    (sl_cons (ss_set (i := 14) sc_clock_bounds.nd rfl (Or.inl rfl) (se_bin op_sub op2_sub (se_var (pv 6)) (se_var (pv 12))))
    (sl_cons (ss_set (i := 7) sc_clock_bounds.nd rfl (Or.inl rfl) (se_call c_within (hr.mono (by decide)) tk rfl (sa_cons (se_var (pv 11)) (sa_cons (se_var (pv 3)) (sa_cons (se_bin or_mul op2_mul (se_var (pv 8)) (se_var (pv 14))) (sa_cons (se_bin or_mul op2_mul (se_var (pv 9)) (se_var (pv 14))) (sa_cons (se_var (pv 10)) sa_nil)))))))
    (sl_cons (ss_expr (se_mt PySem.F.plainAttrs_list PySem.F.slot_list_append PySem.F.type_list_append mt_append opm_append (se_var (pv 7)) (sa_cons (se_tup (sa_cons (se_var (pv 3)) (sa_cons (se_var (pv 11)) (sa_cons se_int (sa_cons (se_var (pv 10)) sa_nil))))) sa_nil)))
    (sl_one (ss_expr (se_mt PySem.F.plainAttrs_list PySem.F.slot_list_append PySem.F.type_list_append mt_append opm_append (se_var (pv 7)) (sa_cons (se_tup (sa_cons (se_var (pv 3)) (sa_cons (se_var (pv 5)) (sa_cons (se_bin or_mul op2_mul (se_un un_neg op1_neg (se_var (pv 8))) (se_bin op_sub op2_sub (se_var (pv 14)) se_int)) (sa_cons (se_var (pv 10)) sa_nil))))) sa_nil)))))))
    sl_nil)
    (sl_one (ss_ret (se_tup (sa_cons (se_bin or_add op2_add (se_var (pv 7)) (se_call c_within (hr.mono (by decide)) tk rfl (sa_cons (se_var (pv 3)) (sa_cons (se_var (pv 4)) (sa_cons se_int (sa_cons (se_var (pv 9)) (sa_cons (se_var (pv 10)) sa_nil))))))) (sa_cons (se_var (pv 3)) sa_nil)))))))))))
/-! ### told_kind -/
abbrev s_told_kind : Stmt := topS 5
abbrev N_told_kind : List Str := ["deed", "clock", "place"]
noncomputable def b_told_kind : SM :=
    (sSeq (sIf (dAndT (dB (dO2 dEq (dO2 dIx (dVar 0) (dC (.int 0))) (dC (.str "kind")))) (dB (dO2 dEq (dO2 dIx (dVar 0) (dC (.int 1))) (dVar 1))))
    (sRet (dO2 dIx (dVar 0) (dC (.int 2))))
    sPass)
    (sSeq (sIf (dB (dO2 dEq (dO2 dIx (dVar 0) (dC (.int 0))) (dC (.str "anew"))))
    (sRet (dO2 dIx (dO2 dIx (dVar 0) (dC (.int 1))) (dVar 2)))
    sPass)
    (sRet (dC .non))))
@[irreducible] noncomputable def dn_told_kind : List D → S → Out D := defD 3 3 b_told_kind
theorem sc_told_kind : FnScope N_told_kind ["deed", "clock", "place"] (defScope s_told_kind) := ⟨rfl, rfl, rfl, by decide +kernel, rfl, by decide +kernel, by decide +kernel⟩
theorem ok_told_kind (d : DefAt K mg "told_kind" "told_kind" s_told_kind)  : FnD P w K mg base cl "told_kind" 3 1 dn_told_kind := by
  obtain ⟨fa, fd, hm, F⟩ := d
  unfold dn_told_kind
  exact fnD_of (body := b_told_kind) F sc_told_kind rfl rfl hm (F.binds fun _ _ _ _ _ _ us hl => match us, hl with | [_, _, _], _ => rfl) (fun cdv A outer s H E hr tk =>
    (sl_cons (ss_if (SW.sb (sw_and (sb_cmp (or_eq (hu64 hr)) op2_eq (nomark _) (se_ix ix_seq op2_ix (se_var (pv 0)) se_int (fun _ _ => rfl)) se_str) (sw_and1 (sb_cmp (or_eq (hu64 hr)) op2_eq (nomark _) (se_ix ix_seq op2_ix (se_var (pv 0)) se_int (fun _ _ => rfl)) (se_var (pv 1))))))
    (sl_one (ss_ret (se_ix ix_seq op2_ix (se_var (pv 0)) se_int (fun _ _ => rfl))))
    sl_nil)
    (sl_cons (ss_if (sb_cmp (or_eq (hu64 hr)) op2_eq (nomark _) (se_ix ix_seq op2_ix (se_var (pv 0)) se_int (fun _ _ => rfl)) se_str)
    (sl_one (ss_ret (se_ix ix_seq op2_ix (se_ix ix_seq op2_ix (se_var (pv 0)) se_int (fun _ _ => rfl)) (se_var (pv 2)) (fun _ _ => rfl))))
    sl_nil)
    (sl_one (ss_ret se_non)))))
/-! ### hand_after -/
abbrev s_hand_after : Stmt := topS 6
abbrev N_hand_after : List Str := ["deed", "clock", "place", "point", "hand", "event", "after", "kind"]
noncomputable def b_hand_after : SM :=
    (sSeq (sSet 7 (dCall 3 dn_told_kind (dCons (dVar 0) (dCons (dVar 1) (dCons (dVar 2) dNil)))))
    (sSeq (sIf (dB (dO2 dIsNot (dVar 7) (dC .non)))
    (sRet (dTup (dCons (dVar 3) (dCons (dVar 6) (dCons (dVar 7) dNil)))))
    sPass)
    (sSeq (sIf (dB (dO2 dNe (dVar 6) (dO2 dIx (dVar 4) (dC (.int 1)))))
    (sRet (dTup (dCons (dVar 3) (dCons (dVar 6) (dCons (dO2 dIx (dVar 4) (dC (.int 2))) dNil)))))
    sPass)
    (sRet (dVar 4)))))
@[irreducible] noncomputable def dn_hand_after : List D → S → Out D := defD 7 8 b_hand_after
theorem sc_hand_after : FnScope N_hand_after ["deed", "clock", "place", "point", "hand", "event", "after"] (defScope s_hand_after) := ⟨rfl, rfl, rfl, by decide +kernel, rfl, by decide +kernel, by decide +kernel⟩
theorem ok_hand_after (d : DefAt K mg "hand_after" "hand_after" s_hand_after) (c_told_kind : FnD P w K mg base cl "told_kind" 3 1 dn_told_kind) : FnD P w K mg base cl "hand_after" 7 2 dn_hand_after := by
  obtain ⟨fa, fd, hm, F⟩ := d
  unfold dn_hand_after
  exact fnD_of (body := b_hand_after) F sc_hand_after rfl rfl hm (F.binds fun _ _ _ _ _ _ us hl => match us, hl with | [_, _, _, _, _, _, _], _ => rfl) (fun cdv A outer s H E hr tk =>
    (sl_cons (ss_set (i := 7) sc_hand_after.nd rfl (Or.inl rfl) (se_call c_told_kind (hr.mono (by decide)) tk rfl (sa_cons (se_var (pv 0)) (sa_cons (se_var (pv 1)) (sa_cons (se_var (pv 2)) sa_nil)))))
    (sl_cons (ss_if (sb_cmp or_isnot op2_isnot (nomark _) (se_var (pv 7)) se_non)
    (sl_one (ss_ret (se_tup (sa_cons (se_var (pv 3)) (sa_cons (se_var (pv 6)) (sa_cons (se_var (pv 7)) sa_nil))))))
    sl_nil)
    (sl_cons (ss_if (sb_cmp (or_ne (hu64 hr)) op2_ne (nomark _) (se_var (pv 6)) (se_ix ix_seq op2_ix (se_var (pv 4)) se_int (fun _ _ => rfl)))
    (sl_one (ss_ret (se_tup (sa_cons (se_var (pv 3)) (sa_cons (se_var (pv 6)) (sa_cons (se_ix ix_seq op2_ix (se_var (pv 4)) se_int (fun _ _ => rfl)) sa_nil))))))
    sl_nil)
    (sl_one (ss_ret (se_var (pv 4))))))))
/-! ### Frame.source_part -/
abbrev s_Frame_source_part : Stmt := inClass (topS 18) 4
abbrev N_Frame_source_part : List Str := ["self", "source"]
noncomputable def b_Frame_source_part : SM :=
    (sRet (dO2 dAdd (dO2 dAdd (dON dLen (dCons (dFld ["Frame"] "clocks" (dVar 0)) dNil)) (dON dLen (dCons (dFld ["Frame"] "links" (dVar 0)) dNil))) (dVar 1)))
@[irreducible] noncomputable def dn_Frame_source_part : List D → S → Out D := defD 2 2 b_Frame_source_part
theorem sc_Frame_source_part : FnScope N_Frame_source_part ["self", "source"] (defScope s_Frame_source_part) := ⟨rfl, rfl, rfl, by decide +kernel, rfl, by decide +kernel, by decide +kernel⟩
theorem ok_Frame_source_part (d : MethAt K cl "Frame" "source_part" "Frame.source_part" s_Frame_source_part) (m_len : mg "len" = none) (f_Frame_clocks : FldAt K cl "Frame" "clocks") (f_Frame_links : FldAt K cl "Frame" "links") : MtD P w K mg base cl "Frame" "source_part" 2 1 dn_Frame_source_part := by
  unfold dn_Frame_source_part
  exact mtD_of (body := b_Frame_source_part) d sc_Frame_source_part rfl rfl (fun _ _ _ _ _ _ us hl => match us, hl with | [_, _], _ => rfl) fun fa => fun cdv A outer s H E hr tk =>
    (sl_one (ss_ret (se_bin or_add op2_add (se_bin or_add op2_add (se_callB call_len opn_len rfl m_len PySem.boot_len (sa_cons (se_fld (se_var (pv 0)) (all_cons f_Frame_clocks all_nil)) sa_nil)) (se_callB call_len opn_len rfl m_len PySem.boot_len (sa_cons (se_fld (se_var (pv 0)) (all_cons f_Frame_links all_nil)) sa_nil))) (se_var (pv 1)))))
/-! ### Frame.link_part -/
abbrev s_Frame_link_part : Stmt := inClass (topS 18) 3
abbrev N_Frame_link_part : List Str := ["self", "link"]
noncomputable def b_Frame_link_part : SM :=
    (sRet (dO2 dAdd (dON dLen (dCons (dFld ["Frame"] "clocks" (dVar 0)) dNil)) (dVar 1)))
@[irreducible] noncomputable def dn_Frame_link_part : List D → S → Out D := defD 2 2 b_Frame_link_part
theorem sc_Frame_link_part : FnScope N_Frame_link_part ["self", "link"] (defScope s_Frame_link_part) := ⟨rfl, rfl, rfl, by decide +kernel, rfl, by decide +kernel, by decide +kernel⟩
theorem ok_Frame_link_part (d : MethAt K cl "Frame" "link_part" "Frame.link_part" s_Frame_link_part) (m_len : mg "len" = none) (f_Frame_clocks : FldAt K cl "Frame" "clocks") : MtD P w K mg base cl "Frame" "link_part" 2 1 dn_Frame_link_part := by
  unfold dn_Frame_link_part
  exact mtD_of (body := b_Frame_link_part) d sc_Frame_link_part rfl rfl (fun _ _ _ _ _ _ us hl => match us, hl with | [_, _], _ => rfl) fun fa => fun cdv A outer s H E hr tk =>
    (sl_one (ss_ret (se_bin or_add op2_add (se_callB call_len opn_len rfl m_len PySem.boot_len (sa_cons (se_fld (se_var (pv 0)) (all_cons f_Frame_clocks all_nil)) sa_nil)) (se_var (pv 1)))))
/-! ### deed_bounds -/
abbrev s_deed_bounds : Stmt := topS 8
abbrev N_deed_bounds : List Str := ["frame", "event", "deed", "kind", "word", "rows", "part", "name", "early", "late", "least", "most"]
noncomputable def b_deed_bounds : SM :=
    (sSeq (sIf (dB (dO2 dEq (dO2 dIx (dVar 2) (dC (.int 0))) (dC (.str "mark"))))
    (sSeq (sAsg (bTup 3 (bCons (bName 7) (bCons (bName 8) (bCons (bName 9) bNil)))) (dO2 dIx (dO2 dIx (dO2 dIx (dFld ["Frame"] "sources" (dVar 0)) (dO2 dIx (dVar 2) (dC (.int 1)))) (dC (.int 2))) (dO2 dIx (dVar 2) (dC (.int 2)))))
    (sSeq (sSet 6 (dMet [("Frame", dn_Frame_source_part)] "source_part" 2 (dVar 0) (dCons (dO2 dIx (dVar 2) (dC (.int 1))) dNil)))
    (sRet (dCall 5 dn_within (dCons (dC (.tup [(.int (-1)), (.int 0), (.int (-1))])) (dCons (dVar 1) (dCons (dO2 dSub (dO2 dIx (dVar 2) (dC (.int 3))) (dVar 8)) (dCons (dO2 dAdd (dO2 dIx (dVar 2) (dC (.int 3))) (dVar 9)) (dCons (dVar 6) dNil)))))))))
    sPass)
    (sSeq (sIf (dB (dO2 dNe (dO2 dIx (dVar 2) (dC (.int 0))) (dC (.str "hear"))))
    (sRet (dLst dNil))
    sPass)
    (sSeq (sSet 4 (dTup (dCons (dO2 dIx (dO2 dIx (dFld ["Frame"] "links" (dVar 0)) (dO2 dIx (dVar 2) (dC (.int 1)))) (dC (.int 1))) (dCons (dO2 dIx (dVar 2) (dC (.int 2))) (dCons (dO1 dNeg (dC (.int 1))) dNil)))))
    (sSeq (sSet 5 (dLst (dCons (dTup (dCons (dVar 1) (dCons (dVar 4) (dCons (dC (.int 0)) (dCons (dO1 dNeg (dC (.int 1))) dNil))))) dNil)))
    (sSeq (sIf (dB (dO2 dIsNot (dVar 3) (dC .non)))
    (sSeq (sAsg (bTup 3 (bCons (bName 7) (bCons (bName 10) (bCons (bName 11) bNil)))) (dO2 dIx (dO2 dIx (dO2 dIx (dFld ["Frame"] "links" (dVar 0)) (dO2 dIx (dVar 2) (dC (.int 1)))) (dC (.int 3))) (dVar 3)))
    (sSeq (sSet 6 (dMet [("Frame", dn_Frame_link_part)] "link_part" 2 (dVar 0) (dCons (dO2 dIx (dVar 2) (dC (.int 1))) dNil)))
    (sSeq (sExpr (dMt "list" mAppend (dVar 5) (dCons (dTup (dCons (dVar 1) (dCons (dVar 4) (dCons (dO1 dNeg (dVar 10)) (dCons (dVar 6) dNil))))) dNil)))
    (sIf (dB (dO2 dIsNot (dVar 11) (dC .non)))
    (sExpr (dMt "list" mAppend (dVar 5) (dCons (dTup (dCons (dVar 4) (dCons (dVar 1) (dCons (dVar 11) (dCons (dVar 6) dNil))))) dNil)))
    sPass))))
    sPass)
    (sRet (dVar 5)))))))
@[irreducible] noncomputable def dn_deed_bounds : List D → S → Out D := defD 4 12 b_deed_bounds
theorem sc_deed_bounds : FnScope N_deed_bounds ["frame", "event", "deed", "kind"] (defScope s_deed_bounds) := ⟨rfl, rfl, rfl, by decide +kernel, rfl, by decide +kernel, by decide +kernel⟩
theorem ok_deed_bounds (d : DefAt K mg "deed_bounds" "deed_bounds" s_deed_bounds) (k_START : CstAt K mg "START" (.tup [(.int (-1)), (.int 0), (.int (-1))])) (f_Frame_links : FldAt K cl "Frame" "links") (f_Frame_sources : FldAt K cl "Frame" "sources") (c_Frame_source_part : MtD P w K mg base cl "Frame" "source_part" 2 1 dn_Frame_source_part) (c_within : FnD P w K mg base cl "within" 5 1 dn_within) (c_Frame_link_part : MtD P w K mg base cl "Frame" "link_part" 2 1 dn_Frame_link_part) : FnD P w K mg base cl "deed_bounds" 4 2 dn_deed_bounds := by
  obtain ⟨fa, fd, hm, F⟩ := d
  unfold dn_deed_bounds
  exact fnD_of (body := b_deed_bounds) F sc_deed_bounds rfl rfl hm (F.binds fun _ _ _ _ _ _ us hl => match us, hl with | [_, _, _, _], _ => rfl) (fun cdv A outer s H E hr tk =>
    (sl_cons (ss_if (sb_cmp (or_eq (hu64 hr)) op2_eq (nomark _) (se_ix ix_seq op2_ix (se_var (pv 2)) se_int (fun _ _ => rfl)) se_str)
    (sl_cons (ss_asg (sl := [7, 8, 9]) (se_ix ix_seq op2_ix (se_ix ix_seq op2_ix (se_ix ix_seq op2_ix (se_fld (se_var (pv 0)) (all_cons f_Frame_sources all_nil)) (se_ix ix_seq op2_ix (se_var (pv 2)) se_int (fun _ _ => rfl)) (fun _ _ => rfl)) se_int (fun _ _ => rfl)) (se_ix ix_seq op2_ix (se_var (pv 2)) se_int (fun _ _ => rfl)) (fun _ _ => rfl)) (pg_tup rfl (pgs_cons (pg_name (i := 7) sc_deed_bounds.nd rfl (Or.inl rfl)) (pgs_cons (pg_name (i := 8) sc_deed_bounds.nd rfl (Or.inl rfl)) (pgs_cons (pg_name (i := 9) sc_deed_bounds.nd rfl (Or.inl rfl)) pgs_nil)))) (gm_tup (gms_cons (gm_name (by decide)) (gms_cons (gm_name (by decide)) (gms_cons (gm_name (by decide)) gms_nil)))))
    (sl_cons (ss_set (i := 6) sc_deed_bounds.nd rfl (Or.inl rfl) (se_met (k := 1) (se_var (pv 0)) (all_cons (c_Frame_source_part.mono (by decide)) all_nil) (hr.mono (by decide)) tk (sa_cons (se_ix ix_seq op2_ix (se_var (pv 2)) se_int (fun _ _ => rfl)) sa_nil)))
    (sl_one (ss_ret (se_call c_within (hr.mono (by decide)) tk rfl (sa_cons (se_cst k_START rfl) (sa_cons (se_var (pv 1)) (sa_cons (se_bin op_sub op2_sub (se_ix ix_seq op2_ix (se_var (pv 2)) se_int (fun _ _ => rfl)) (se_var (pv 8))) (sa_cons (se_bin or_add op2_add (se_ix ix_seq op2_ix (se_var (pv 2)) se_int (fun _ _ => rfl)) (se_var (pv 9))) (sa_cons (se_var (pv 6)) sa_nil))))))))))
    sl_nil)
    (sl_cons (ss_if (sb_cmp (or_ne (hu64 hr)) op2_ne (nomark _) (se_ix ix_seq op2_ix (se_var (pv 2)) se_int (fun _ _ => rfl)) se_str)
    (sl_one (ss_ret (se_lst sa_nil)))
    sl_nil)
    (sl_cons (ss_set (i := 4) sc_deed_bounds.nd rfl (Or.inl rfl) (se_tup (sa_cons (se_ix ix_seq op2_ix (se_ix ix_seq op2_ix (se_fld (se_var (pv 0)) (all_cons f_Frame_links all_nil)) (se_ix ix_seq op2_ix (se_var (pv 2)) se_int (fun _ _ => rfl)) (fun _ _ => rfl)) se_int (fun _ _ => rfl)) (sa_cons (se_ix ix_seq op2_ix (se_var (pv 2)) se_int (fun _ _ => rfl)) (sa_cons (se_un un_neg op1_neg se_int) sa_nil)))))
    (sl_cons (ss_set (i := 5) sc_deed_bounds.nd rfl (Or.inl rfl) (se_lst (sa_cons (se_tup (sa_cons (se_var (pv 1)) (sa_cons (se_var (pv 4)) (sa_cons se_int (sa_cons (se_un un_neg op1_neg se_int) sa_nil))))) sa_nil)))
    (sl_cons (ss_if (sb_cmp or_isnot op2_isnot (nomark _) (se_var (pv 3)) se_non)
    (sl_cons (ss_asg (sl := [7, 10, 11]) (se_ix ix_seq op2_ix (se_ix ix_seq op2_ix (se_ix ix_seq op2_ix (se_fld (se_var (pv 0)) (all_cons f_Frame_links all_nil)) (se_ix ix_seq op2_ix (se_var (pv 2)) se_int (fun _ _ => rfl)) (fun _ _ => rfl)) se_int (fun _ _ => rfl)) (se_var (pv 3)) (fun _ _ => rfl)) (pg_tup rfl (pgs_cons (pg_name (i := 7) sc_deed_bounds.nd rfl (Or.inl rfl)) (pgs_cons (pg_name (i := 10) sc_deed_bounds.nd rfl (Or.inl rfl)) (pgs_cons (pg_name (i := 11) sc_deed_bounds.nd rfl (Or.inl rfl)) pgs_nil)))) (gm_tup (gms_cons (gm_name (by decide)) (gms_cons (gm_name (by decide)) (gms_cons (gm_name (by decide)) gms_nil)))))
    (sl_cons (ss_set (i := 6) sc_deed_bounds.nd rfl (Or.inl rfl) (se_met (k := 1) (se_var (pv 0)) (all_cons (c_Frame_link_part.mono (by decide)) all_nil) (hr.mono (by decide)) tk (sa_cons (se_ix ix_seq op2_ix (se_var (pv 2)) se_int (fun _ _ => rfl)) sa_nil)))
    (sl_cons (ss_expr (se_mt PySem.F.plainAttrs_list PySem.F.slot_list_append PySem.F.type_list_append mt_append opm_append (se_var (pv 5)) (sa_cons (se_tup (sa_cons (se_var (pv 1)) (sa_cons (se_var (pv 4)) (sa_cons (se_un un_neg op1_neg (se_var (pv 10))) (sa_cons (se_var (pv 6)) sa_nil))))) sa_nil)))
    (sl_one (ss_if (sb_cmp or_isnot op2_isnot (nomark _) (se_var (pv 11)) se_non)
    (sl_one (ss_expr (se_mt PySem.F.plainAttrs_list PySem.F.slot_list_append PySem.F.type_list_append mt_append opm_append (se_var (pv 5)) (sa_cons (se_tup (sa_cons (se_var (pv 4)) (sa_cons (se_var (pv 1)) (sa_cons (se_var (pv 11)) (sa_cons (se_var (pv 6)) sa_nil))))) sa_nil))))
    sl_nil)))))
    sl_nil)
    (sl_one (ss_ret (se_var (pv 5))))))))))
/-! ### event_bounds -/
abbrev s_event_bounds : Stmt := topS 9
abbrev N_event_bounds : List Str := ["frame", "record", "hands", "kind", "event", "here", "before", "rows", "later", "device", "number", "asleep", "shown", "after", "deed", "knows", "place", "clock", "row", "hand", "rule", "stopped", "tick", "now", "more", "since"]
noncomputable def b_event_bounds : SM :=
    (sSeq (sAsg (bTup 3 (bCons (bName 9) (bCons (bName 10) (bCons (bName 4) bNil)))) (dVar 1))
    (sSeq (sAsg (bTup 5 (bCons (bName 11) (bCons (bName 12) (bCons (bName 13) (bCons (bName 14) (bCons (bName 15) bNil)))))) (dVar 4))
    (sSeq (sSet 5 (dTup (dCons (dVar 9) (dCons (dVar 10) (dCons (dO1 dNeg (dC (.int 1))) dNil)))))
    (sSeq (sSet 6 (dTup (dCons (dVar 9) (dCons (dO2 dSub (dVar 10) (dC (.int 1))) (dCons (dO1 dNeg (dC (.int 1))) dNil)))))
    (sSeq (sSet 7 (dLst (dCons (dTup (dCons (dVar 5) (dCons (dVar 6) (dCons (dC (.int 0)) (dCons (dO1 dNeg (dC (.int 1))) dNil))))) dNil)))
    (sSeq (sSet 8 (dLst dNil))
    (sSeq (sFor (iEn (dCons (dMet [("Frame", dn_Frame_clocks_of)] "clocks_of" 2 (dVar 0) (dCons (dVar 9) dNil)) dNil)) (bTup 2 (bCons (bName 16) (bCons (bName 17) bNil)))
    (sSeq (sSet 18 (dO2 dIx (dFld ["Frame"] "clocks" (dVar 0)) (dVar 17)))
    (sSeq (sSet 19 (dO2 dIx (dVar 2) (dVar 16)))
    (sSeq (sSet 20 (dTup (dCons (dO2 dIx (dO2 dIx (dO2 dIx (dVar 18) (dC (.int 3))) (dO2 dIx (dVar 19) (dC (.int 2)))) (dC (.int 1))) (dCons (dO2 dIx (dO2 dIx (dO2 dIx (dVar 18) (dC (.int 3))) (dO2 dIx (dVar 19) (dC (.int 2)))) (dC (.int 2))) (dCons (dVar 17) dNil)))))
    (sSeq (sSet 21 (dOrV (dAndV (dVar 11) (dNotV (dO2 dIx (dVar 18) (dC (.int 2))))) (dO2 dEq (dO2 dIx (dVar 14) (dC (.int 0))) (dC (.str "anew")))))
    (sSeq (sSet 22 (dTup (dCons (dVar 9) (dCons (dVar 10) (dCons (dVar 17) dNil)))))
    (sSeq (sAsg (bTup 2 (bCons (bName 24) (bCons (bName 25) bNil))) (dCall 7 dn_clock_bounds (dCons (dVar 20) (dCons (dVar 19) (dCons (dVar 21) (dCons (dVar 22) (dCons (dVar 5) (dCons (dVar 6) (dCons (dO2 dIx (dVar 12) (dVar 16)) dNil)))))))))
    (sSeq (sSet 7 (dO2 dAdd (dVar 7) (dVar 24)))
    (sSeq (sSet 23 (dTup (dCons (dVar 25) (dCons (dO2 dIx (dVar 12) (dVar 16)) (dCons (dO2 dIx (dVar 19) (dC (.int 2))) dNil)))))
    (sExpr (dMt "list" mAppend (dVar 8) (dCons (dCall 7 dn_hand_after (dCons (dVar 14) (dCons (dVar 17) (dCons (dVar 16) (dCons (dVar 5) (dCons (dVar 23) (dCons (dVar 4) (dCons (dO2 dIx (dVar 13) (dVar 16)) dNil)))))))) dNil))))))))))))
    (sRet (dTup (dCons (dO2 dAdd (dVar 7) (dCall 4 dn_deed_bounds (dCons (dVar 0) (dCons (dVar 5) (dCons (dVar 14) (dCons (dVar 3) dNil)))))) (dCons (dVar 8) dNil)))))))))))
@[irreducible] noncomputable def dn_event_bounds : List D → S → Out D := defD 4 26 b_event_bounds
theorem sc_event_bounds : FnScope N_event_bounds ["frame", "record", "hands", "kind"] (defScope s_event_bounds) := ⟨rfl, rfl, rfl, by decide +kernel, rfl, by decide +kernel, by decide +kernel⟩
theorem ok_event_bounds (d : DefAt K mg "event_bounds" "event_bounds" s_event_bounds) (m_enumerate : mg "enumerate" = none) (f_Frame_clocks : FldAt K cl "Frame" "clocks") (c_Frame_clocks_of : MtD P w K mg base cl "Frame" "clocks_of" 2 1 dn_Frame_clocks_of) (c_clock_bounds : FnD P w K mg base cl "clock_bounds" 7 2 dn_clock_bounds) (c_hand_after : FnD P w K mg base cl "hand_after" 7 2 dn_hand_after) (c_deed_bounds : FnD P w K mg base cl "deed_bounds" 4 2 dn_deed_bounds) : FnD P w K mg base cl "event_bounds" 4 3 dn_event_bounds := by
  obtain ⟨fa, fd, hm, F⟩ := d
  unfold dn_event_bounds
  exact fnD_of (body := b_event_bounds) F sc_event_bounds rfl rfl hm (F.binds fun _ _ _ _ _ _ us hl => match us, hl with | [_, _, _, _], _ => rfl) (fun cdv A outer s H E hr tk =>
    (sl_cons (ss_asg (sl := [9, 10, 4]) (se_var (pv 1)) (pg_tup rfl (pgs_cons (pg_name (i := 9) sc_event_bounds.nd rfl (Or.inl rfl)) (pgs_cons (pg_name (i := 10) sc_event_bounds.nd rfl (Or.inl rfl)) (pgs_cons (pg_name (i := 4) sc_event_bounds.nd rfl (Or.inl rfl)) pgs_nil)))) (gm_tup (gms_cons (gm_name (by decide)) (gms_cons (gm_name (by decide)) (gms_cons (gm_name (by decide)) gms_nil)))))
    (sl_cons (ss_asg (sl := [11, 12, 13, 14, 15]) (se_var (pv 4)) (pg_tup rfl (pgs_cons (pg_name (i := 11) sc_event_bounds.nd rfl (Or.inl rfl)) (pgs_cons (pg_name (i := 12) sc_event_bounds.nd rfl (Or.inl rfl)) (pgs_cons (pg_name (i := 13) sc_event_bounds.nd rfl (Or.inl rfl)) (pgs_cons (pg_name (i := 14) sc_event_bounds.nd rfl (Or.inl rfl)) (pgs_cons (pg_name (i := 15) sc_event_bounds.nd rfl (Or.inl rfl)) pgs_nil)))))) (gm_tup (gms_cons (gm_name (by decide)) (gms_cons (gm_name (by decide)) (gms_cons (gm_name (by decide)) (gms_cons (gm_name (by decide)) (gms_cons (gm_name (by decide)) gms_nil)))))))
    (sl_cons (ss_set (i := 5) sc_event_bounds.nd rfl (Or.inl rfl) (se_tup (sa_cons (se_var (pv 9)) (sa_cons (se_var (pv 10)) (sa_cons (se_un un_neg op1_neg se_int) sa_nil)))))
    (sl_cons (ss_set (i := 6) sc_event_bounds.nd rfl (Or.inl rfl) (se_tup (sa_cons (se_var (pv 9)) (sa_cons (se_bin op_sub op2_sub (se_var (pv 10)) se_int) (sa_cons (se_un un_neg op1_neg se_int) sa_nil)))))
    (sl_cons (ss_set (i := 7) sc_event_bounds.nd rfl (Or.inl rfl) (se_lst (sa_cons (se_tup (sa_cons (se_var (pv 5)) (sa_cons (se_var (pv 6)) (sa_cons se_int (sa_cons (se_un un_neg op1_neg se_int) sa_nil))))) sa_nil)))
    (sl_cons (ss_set (i := 8) sc_event_bounds.nd rfl (Or.inl rfl) (se_lst sa_nil))
    (sl_cons (ss_for (sl := [16, 17]) (passes_of rfl) rfl (si_en rfl m_enumerate (sa_cons (se_met (k := 1) (se_var (pv 0)) (all_cons (c_Frame_clocks_of.mono (by decide)) all_nil) (hr.mono (by decide)) tk (sa_cons (se_var (pv 9)) sa_nil)) sa_nil)) (pg_tup rfl (pgs_cons (pg_name (i := 16) sc_event_bounds.nd rfl (Or.inl rfl)) (pgs_cons (pg_name (i := 17) sc_event_bounds.nd rfl (Or.inl rfl)) pgs_nil))) (gm_tup (gms_cons (gm_name (by decide)) (gms_cons (gm_name (by decide)) gms_nil)))
    (sl_cons (ss_set (i := 18) sc_event_bounds.nd rfl (Or.inl rfl) (se_ix ix_seq op2_ix (se_fld (se_var (pv 0)) (all_cons f_Frame_clocks all_nil)) (se_var (pv 17)) (fun _ _ => rfl)))
    (sl_cons (ss_set (i := 19) sc_event_bounds.nd rfl (Or.inl rfl) (se_ix ix_seq op2_ix (se_var (pv 2)) (se_var (pv 16)) (fun _ _ => rfl)))
    (sl_cons (ss_set (i := 20) sc_event_bounds.nd rfl (Or.inl rfl) (se_tup (sa_cons (se_ix ix_seq op2_ix (se_ix ix_seq op2_ix (se_ix ix_seq op2_ix (se_var (pv 18)) se_int (fun _ _ => rfl)) (se_ix ix_seq op2_ix (se_var (pv 19)) se_int (fun _ _ => rfl)) (fun _ _ => rfl)) se_int (fun _ _ => rfl)) (sa_cons (se_ix ix_seq op2_ix (se_ix ix_seq op2_ix (se_ix ix_seq op2_ix (se_var (pv 18)) se_int (fun _ _ => rfl)) (se_ix ix_seq op2_ix (se_var (pv 19)) se_int (fun _ _ => rfl)) (fun _ _ => rfl)) se_int (fun _ _ => rfl)) (sa_cons (se_var (pv 17)) sa_nil)))))
    (sl_cons (ss_set (i := 21) sc_event_bounds.nd rfl (Or.inl rfl) (se_or (se_and (se_var (pv 11)) (se_one (se_not (se_ix ix_seq op2_ix (se_var (pv 18)) se_int (fun _ _ => rfl))))) (se_one (se_cmp (or_eq (hu64 hr)) op2_eq (nomark _) (se_ix ix_seq op2_ix (se_var (pv 14)) se_int (fun _ _ => rfl)) se_str))))
    (sl_cons (ss_set (i := 22) sc_event_bounds.nd rfl (Or.inl rfl) (se_tup (sa_cons (se_var (pv 9)) (sa_cons (se_var (pv 10)) (sa_cons (se_var (pv 17)) sa_nil)))))
    (sl_cons (ss_asg (sl := [24, 25]) (se_call c_clock_bounds (hr.mono (by decide)) tk rfl (sa_cons (se_var (pv 20)) (sa_cons (se_var (pv 19)) (sa_cons (se_var (pv 21)) (sa_cons (se_var (pv 22)) (sa_cons (se_var (pv 5)) (sa_cons (se_var (pv 6)) (sa_cons (se_ix ix_seq op2_ix (se_var (pv 12)) (se_var (pv 16)) (fun _ _ => rfl)) sa_nil)))))))) (pg_tup rfl (pgs_cons (pg_name (i := 24) sc_event_bounds.nd rfl (Or.inl rfl)) (pgs_cons (pg_name (i := 25) sc_event_bounds.nd rfl (Or.inl rfl)) pgs_nil))) (gm_tup (gms_cons (gm_name (by decide)) (gms_cons (gm_name (by decide)) gms_nil))))
    (sl_cons (ss_set (i := 7) sc_event_bounds.nd rfl (Or.inl rfl) (se_bin or_add op2_add (se_var (pv 7)) (se_var (pv 24))))
    (sl_cons (ss_set (i := 23) sc_event_bounds.nd rfl (Or.inl rfl) (se_tup (sa_cons (se_var (pv 25)) (sa_cons (se_ix ix_seq op2_ix (se_var (pv 12)) (se_var (pv 16)) (fun _ _ => rfl)) (sa_cons (se_ix ix_seq op2_ix (se_var (pv 19)) se_int (fun _ _ => rfl)) sa_nil)))))
    (sl_one (ss_expr (se_mt PySem.F.plainAttrs_list PySem.F.slot_list_append PySem.F.type_list_append mt_append opm_append (se_var (pv 8)) (sa_cons (se_call c_hand_after (hr.mono (by decide)) tk rfl (sa_cons (se_var (pv 14)) (sa_cons (se_var (pv 17)) (sa_cons (se_var (pv 16)) (sa_cons (se_var (pv 5)) (sa_cons (se_var (pv 23)) (sa_cons (se_var (pv 4)) (sa_cons (se_ix ix_seq op2_ix (se_var (pv 13)) (se_var (pv 16)) (fun _ _ => rfl)) sa_nil)))))))) sa_nil)))))))))))))
    (sl_one (ss_ret (se_tup (sa_cons (se_bin or_add op2_add (se_var (pv 7)) (se_call c_deed_bounds (hr.mono (by decide)) tk rfl (sa_cons (se_var (pv 0)) (sa_cons (se_var (pv 5)) (sa_cons (se_var (pv 14)) (sa_cons (se_var (pv 3)) sa_nil)))))) (sa_cons (se_var (pv 8)) sa_nil)))))))))))))
/-! ### view_bounds -/
abbrev s_view_bounds : Stmt := topS 11
abbrev N_view_bounds : List Str := ["frame", "view", "rows", "device", "events", "hands", "number", "event", "kind", "more"]
noncomputable def b_view_bounds : SM :=
    (sSeq (sSet 2 (dLst dNil))
    (sSeq (sFor (iEn (dCons (dVar 1) dNil)) (bTup 2 (bCons (bName 3) (bCons (bName 4) bNil)))
    (sSeq (sSet 5 (dCall 2 dn_first_hands (dCons (dVar 0) (dCons (dVar 3) dNil))))
    (sFor (iRng2D (dCons (dC (.int 1)) (dCons (dON dLen (dCons (dVar 4) dNil)) dNil))) (bName 6)
    (sSeq (sSet 7 (dO2 dIx (dVar 4) (dVar 6)))
    (sSeq (sSet 8 (dCall 3 dn_sent_kind (dCons (dVar 1) (dCons (dVar 0) (dCons (dO2 dIx (dVar 7) (dC (.int 3))) dNil)))))
    (sSeq (sAsg (bTup 2 (bCons (bName 9) (bCons (bName 5) bNil))) (dCall 4 dn_event_bounds (dCons (dVar 0) (dCons (dTup (dCons (dVar 3) (dCons (dVar 6) (dCons (dVar 7) dNil)))) (dCons (dVar 5) (dCons (dVar 8) dNil))))))
    (sSet 2 (dO2 dAdd (dVar 2) (dVar 9)))))))))
    (sRet (dVar 2))))
@[irreducible] noncomputable def dn_view_bounds : List D → S → Out D := defD 2 10 b_view_bounds
theorem sc_view_bounds : FnScope N_view_bounds ["frame", "view"] (defScope s_view_bounds) := ⟨rfl, rfl, rfl, by decide +kernel, rfl, by decide +kernel, by decide +kernel⟩
theorem ok_view_bounds (d : DefAt K mg "view_bounds" "view_bounds" s_view_bounds) (m_enumerate : mg "enumerate" = none) (m_range : mg "range" = none) (m_len : mg "len" = none) (c_first_hands : FnD P w K mg base cl "first_hands" 2 2 dn_first_hands) (c_sent_kind : FnD P w K mg base cl "sent_kind" 3 1 dn_sent_kind) (c_event_bounds : FnD P w K mg base cl "event_bounds" 4 3 dn_event_bounds) : FnD P w K mg base cl "view_bounds" 2 4 dn_view_bounds := by
  obtain ⟨fa, fd, hm, F⟩ := d
  unfold dn_view_bounds
  exact fnD_of (body := b_view_bounds) F sc_view_bounds rfl rfl hm (F.binds fun _ _ _ _ _ _ us hl => match us, hl with | [_, _], _ => rfl) (fun cdv A outer s H E hr tk =>
    (sl_cons (ss_set (i := 2) sc_view_bounds.nd rfl (Or.inl rfl) (se_lst sa_nil))
    (sl_cons (ss_for (sl := [3, 4]) (passes_of rfl) rfl (si_en rfl m_enumerate (sa_cons (se_var (pv 1)) sa_nil)) (pg_tup rfl (pgs_cons (pg_name (i := 3) sc_view_bounds.nd rfl (Or.inl rfl)) (pgs_cons (pg_name (i := 4) sc_view_bounds.nd rfl (Or.inl rfl)) pgs_nil))) (gm_tup (gms_cons (gm_name (by decide)) (gms_cons (gm_name (by decide)) gms_nil)))
    (sl_cons (ss_set (i := 5) sc_view_bounds.nd rfl (Or.inl rfl) (se_call c_first_hands (hr.mono (by decide)) tk rfl (sa_cons (se_var (pv 0)) (sa_cons (se_var (pv 3)) sa_nil))))
    (sl_one (ss_for (sl := [6]) (passes_of rfl) rfl (si_rng2 rfl m_range (sa_cons se_int (sa_cons (se_callB call_len opn_len rfl m_len PySem.boot_len (sa_cons (se_var (pv 4)) sa_nil)) sa_nil))) (pg_name (i := 6) sc_view_bounds.nd rfl (Or.inl rfl)) (gm_name (by decide))
    (sl_cons (ss_set (i := 7) sc_view_bounds.nd rfl (Or.inl rfl) (se_ix ix_seq op2_ix (se_var (pv 4)) (se_var (pv 6)) (fun _ _ => rfl)))
    (sl_cons (ss_set (i := 8) sc_view_bounds.nd rfl (Or.inl rfl) (se_call c_sent_kind (hr.mono (by decide)) tk rfl (sa_cons (se_var (pv 1)) (sa_cons (se_var (pv 0)) (sa_cons (se_ix ix_seq op2_ix (se_var (pv 7)) se_int (fun _ _ => rfl)) sa_nil)))))
    (sl_cons (ss_asg (sl := [9, 5]) (se_call c_event_bounds (hr.mono (by decide)) tk rfl (sa_cons (se_var (pv 0)) (sa_cons (se_tup (sa_cons (se_var (pv 3)) (sa_cons (se_var (pv 6)) (sa_cons (se_var (pv 7)) sa_nil)))) (sa_cons (se_var (pv 5)) (sa_cons (se_var (pv 8)) sa_nil))))) (pg_tup rfl (pgs_cons (pg_name (i := 9) sc_view_bounds.nd rfl (Or.inl rfl)) (pgs_cons (pg_name (i := 5) sc_view_bounds.nd rfl (Or.inl rfl)) pgs_nil))) (gm_tup (gms_cons (gm_name (by decide)) (gms_cons (gm_name (by decide)) gms_nil))))
    (sl_one (ss_set (i := 2) sc_view_bounds.nd rfl (Or.inl rfl) (se_bin or_add op2_add (se_var (pv 2)) (se_var (pv 9))))))))))))
    (sl_one (ss_ret (se_var (pv 2)))))))
/-! ### Table.time_of -/
abbrev s_Table_time_of : Stmt := inClass (topS 14) 7
abbrev N_Table_time_of : List Str := ["self", "point", "at", "row"]
noncomputable def b_Table_time_of : SM :=
    (sSeq (sSet 2 (dMt "list" mIndex (dFld ["Table"] "names" (dVar 0)) (dCons (dVar 1) dNil)))
    (sRet (dON dMinL (dCons (dO2 dAdd (dLst (dCons (dC (.int 0)) dNil)) (dLc (iAny (dFld ["Table"] "rows" (dVar 0))) [3] (bName 3) (dB (dO2 dIsNot (dO2 dIx (dVar 3) (dVar 2)) (dC .non))) (dO2 dIx (dVar 3) (dVar 2)))) dNil))))
@[irreducible] noncomputable def dn_Table_time_of : List D → S → Out D := defD 2 4 b_Table_time_of
theorem sc_Table_time_of : FnScope N_Table_time_of ["self", "point"] (defScope s_Table_time_of) := ⟨rfl, rfl, rfl, by decide +kernel, rfl, by decide +kernel, by decide +kernel⟩
theorem ok_Table_time_of (d : MethAt K cl "Table" "time_of" "Table.time_of" s_Table_time_of) (m_min : mg "min" = none) (f_Table_names : FldAt K cl "Table" "names") (f_Table_rows : FldAt K cl "Table" "rows") : MtD P w K mg base cl "Table" "time_of" 2 1 dn_Table_time_of := by
  unfold dn_Table_time_of
  exact mtD_of (body := b_Table_time_of) d sc_Table_time_of rfl rfl (fun _ _ _ _ _ _ us hl => match us, hl with | [_, _], _ => rfl) fun fa => fun cdv A outer s H E hr tk =>
    (sl_cons (ss_set (i := 2) sc_Table_time_of.nd rfl (Or.inr rfl) (se_mt PySem.F.plainAttrs_list PySem.F.slot_list_index PySem.F.type_list_index (mt_indexD (hu65 hr)) opm_index (se_fld (se_var (pv 0)) (all_cons f_Table_names all_nil)) (sa_cons (se_var (pv 1)) sa_nil)))
    (sl_one (ss_ret (se_callB (cr_min rfl) opn_minL rfl m_min (by decide +kernel) (sa_cons (se_bin or_add op2_add (se_lst (sa_cons se_int sa_nil)) (se_lc (sl := [3]) (own := [("row", 3)]) rfl sc_Table_time_of.nd (si_any (se_fld (se_var (pv 0)) (all_cons f_Table_rows all_nil))) (blkOk_by (N := N_Table_time_of) (sc := defScope s_Table_time_of) (by decide +kernel)) (gm_name (by decide)) (by decide) (fun _ _ _ _ _ => (pg_name (i := 3) sc_Table_time_of.nd rfl (Or.inl rfl))) (fun _ _ _ _ _ => (sts_one (sb_cmp or_isnot op2_isnot (nomark _) (se_ix ix_seq op2_ix (se_var (pv 3)) (se_var (pv 2)) (fun _ _ => rfl)) se_non))) (fun _ _ _ _ _ => (se_ix ix_seq op2_ix (se_var (pv 3)) (se_var (pv 2)) (fun _ _ => rfl))))) sa_nil)))))
/-! ### _law_fits -/
abbrev s_llaw_fits : Stmt := topS 26
abbrev N_llaw_fits : List Str := ["_law_start", "_law_look", "_law_stop", "_law_gain", "_law_low", "_law_high", "_law_first", "_law_rest"]
noncomputable def bi_llaw_fits_1 : SM :=
    (sSeq (sSet 6 (dON dMax3 (dCons (dVar 1) (dCons (dO2 dAdd (dVar 0) (dVar 4)) (dCons (dO2 dSub (dVar 2) (dO2 dMul (dVar 5) (dO2 dSub (dVar 3) (dC (.int 1))))) dNil)))))
    (sSeq (sSet 7 (dO2 dSub (dVar 2) (dVar 6)))
    (sRet (dAndV (dCh dLe dLe (dO2 dAdd (dVar 0) (dVar 4)) (dVar 6) (dO2 dAdd (dVar 0) (dVar 5))) (dCh dLe dLe (dO2 dMul (dVar 4) (dO2 dSub (dVar 3) (dC (.int 1)))) (dVar 7) (dO2 dMul (dVar 5) (dO2 dSub (dVar 3) (dC (.int 1)))))))))
noncomputable def b_llaw_fits : SM :=
    (sSeq (sIf (dB (dO2 dLt (dVar 3) (dC (.int 1))))
    (sRet (dC (.bl false)))
    sPass)
    bi_llaw_fits_1)
@[irreducible] noncomputable def dn_llaw_fits : List D → S → Out D := defD 6 8 b_llaw_fits
theorem sc_llaw_fits : FnScope N_llaw_fits ["_law_start", "_law_look", "_law_stop", "_law_gain", "_law_low", "_law_high"] (defScope s_llaw_fits) := ⟨rfl, rfl, rfl, by decide +kernel, rfl, by decide +kernel, by decide +kernel⟩
theorem ok_llaw_fits (d : DefAt K mg "_law_fits" "_law_fits" s_llaw_fits) (m_max : mg "max" = none) : FnD P w K mg base cl "_law_fits" 6 1 dn_llaw_fits := by
  obtain ⟨fa, fd, hm, F⟩ := d
  unfold dn_llaw_fits
  exact fnD_of (body := b_llaw_fits) F sc_llaw_fits rfl rfl hm (F.binds fun _ _ _ _ _ _ us hl => match us, hl with | [_, _, _, _, _, _], _ => rfl) (fun cdv A outer s H E hr tk =>
    (sl_cons (ss_if (sb_cmp op_lt op2_i2 (nomark _) (se_var (pv 3)) se_int)
    (sl_one (ss_ret se_bl))
    sl_nil)
    (sl_cons (ss_set (i := 6) sc_llaw_fits.nd rfl (Or.inl rfl) (se_callB (call_max3Nu rfl) opn_max3 rfl m_max (by decide +kernel) (sa_cons (se_var (pv 1)) (sa_cons (se_bin or_add op2_add (se_var (pv 0)) (se_var (pv 4))) (sa_cons (se_bin op_sub op2_sub (se_var (pv 2)) (se_bin or_mul op2_mul (se_var (pv 5)) (se_bin op_sub op2_sub (se_var (pv 3)) se_int))) sa_nil)))))
    (sl_cons (ss_set (i := 7) sc_llaw_fits.nd rfl (Or.inl rfl) (se_bin op_sub op2_sub (se_var (pv 2)) (se_var (pv 6))))
    (sl_one (ss_ret (se_and (se_chain op_le op2_i2 op_le op2_i2 (se_bin or_add op2_add (se_var (pv 0)) (se_var (pv 4))) (se_var (pv 6)) (se_bin or_add op2_add (se_var (pv 0)) (se_var (pv 5)))) (se_one (se_chain op_le op2_i2 op_le op2_i2 (se_bin or_mul op2_mul (se_var (pv 4)) (se_bin op_sub op2_sub (se_var (pv 3)) se_int)) (se_var (pv 7)) (se_bin or_mul op2_mul (se_var (pv 5)) (se_bin op_sub op2_sub (se_var (pv 3)) se_int)))))))))))
/-! ### _law_walk -/
abbrev s_llaw_walk : Stmt := topS 27
abbrev N_llaw_walk : List Str := ["_law_events", "_law_kinds_here", "_law_goes_on", "_law_table", "_law_since", "_law_value", "_law_kind", "_law_n", "_law_here", "_law_look", "_law_low", "_law_high", "_law_asleep", "_law_shown", "_law_after", "_law_deed", "_law_knows", "_law_stop"]
noncomputable def bt_llaw_walk_1 : SM :=
    (sRet (dC (.bl true)))
noncomputable def bi_llaw_walk_7 : SM :=
    (sSet 5 (dO2 dIx (dVar 14) (dC (.int 0))))
noncomputable def bi_llaw_walk_6 : SM :=
    (sSeq (sIf (dB (dO2 dEq (dO2 dIx (dVar 15) (dC (.int 0))) (dC (.str "kind"))))
    (sSet 6 (dO2 dIx (dVar 15) (dC (.int 2))))
    sPass)
    bi_llaw_walk_7)
noncomputable def bi_llaw_walk_5 : SM :=
    (sSeq (sIf (dOrT (dB (dO2 dEq (dO2 dIx (dVar 15) (dC (.int 0))) (dC (.str "kind")))) (dB (dO2 dNe (dVar 14) (dVar 13))))
    (sSet 4 (dVar 8))
    sPass)
    bi_llaw_walk_6)
noncomputable def bi_llaw_walk_2 : SM :=
    (sSeq (sIf (dNotT (dB (dCh dLe dLe (dC (.int 0)) (dO2 dSub (dVar 8) (dVar 4)) (dVar 11))))
    (sRet (dC (.bl false)))
    sPass)
    bi_llaw_walk_5)
noncomputable def bi_llaw_walk_4 : SM :=
    (sSet 4 (dVar 17))
noncomputable def ba_llaw_walk_3 : SM :=
    (sSeq (sSet 17 (dMet [("Table", dn_Table_time_of)] "time_of" 2 (dVar 3) (dCons (dTup (dCons (dC (.int 0)) (dCons (dVar 7) (dCons (dC (.int 0)) dNil)))) dNil)))
    (sSeq (sIf (dNotT (dTru (dCall 6 dn_llaw_fits (dCons (dVar 4) (dCons (dVar 9) (dCons (dVar 17) (dCons (dO2 dSub (dO2 dIx (dVar 13) (dC (.int 0))) (dVar 5)) (dCons (dVar 10) (dCons (dVar 11) dNil)))))))))
    (sRet (dC (.bl false)))
    sPass)
    bi_llaw_walk_4))
noncomputable def bi_llaw_walk_1 : SM :=
    (sSeq (sSet 10 (dO2 dIx (dO2 dIx (dVar 1) (dVar 6)) (dC (.int 1))))
    (sSeq (sSet 11 (dO2 dIx (dO2 dIx (dVar 1) (dVar 6)) (dC (.int 2))))
    (sSeq (sIf (dOrT (dB (dO2 dIs (dVar 4) (dC .non))) (dAndT (dTru (dVar 12)) (dNotT (dTru (dVar 2)))))
    (sSet 4 (dMet [("Table", dn_Table_time_of)] "time_of" 2 (dVar 3) (dCons (dTup (dCons (dC (.int 0)) (dCons (dVar 7) (dCons (dC (.int 0)) dNil)))) dNil)))
    (sIf (dB (dO2 dNe (dO2 dIx (dVar 13) (dC (.int 0))) (dVar 5)))
    ba_llaw_walk_3
    sPass))
    bi_llaw_walk_2)))
noncomputable def bl_llaw_walk_1 : SM :=
    (sSeq (sAsg (bTup 5 (bCons (bName 12) (bCons (bName 13) (bCons (bName 14) (bCons (bName 15) (bCons (bName 16) bNil)))))) (dO2 dIx (dVar 0) (dVar 7)))
    (sSeq (sSet 8 (dMet [("Table", dn_Table_time_of)] "time_of" 2 (dVar 3) (dCons (dTup (dCons (dC (.int 0)) (dCons (dVar 7) (dCons (dO1 dNeg (dC (.int 1))) dNil)))) dNil)))
    (sSeq (sSet 9 (dMet [("Table", dn_Table_time_of)] "time_of" 2 (dVar 3) (dCons (dTup (dCons (dC (.int 0)) (dCons (dO2 dSub (dVar 7) (dC (.int 1))) (dCons (dO1 dNeg (dC (.int 1))) dNil)))) dNil)))
    (sSeq (sIf (dB (dO2 dLt (dVar 8) (dVar 9)))
    (sRet (dC (.bl false)))
    sPass)
    bi_llaw_walk_1))))
noncomputable def b_llaw_walk : SM :=
    (sSeq (sSet 4 (dC .non))
    (sSeq (sSet 5 (dC (.int 0)))
    (sSeq (sSet 6 (dC (.int 0)))
    (sSeq (sFor (iRng2D (dCons (dC (.int 1)) (dCons (dON dLen (dCons (dVar 0) dNil)) dNil))) (bName 7)
    bl_llaw_walk_1)
    bt_llaw_walk_1))))
@[irreducible] noncomputable def dn_llaw_walk : List D → S → Out D := defD 4 18 b_llaw_walk
theorem sc_llaw_walk : FnScope N_llaw_walk ["_law_events", "_law_kinds_here", "_law_goes_on", "_law_table"] (defScope s_llaw_walk) := ⟨rfl, rfl, rfl, by decide +kernel, rfl, by decide +kernel, by decide +kernel⟩
theorem ok_llaw_walk (d : DefAt K mg "_law_walk" "_law_walk" s_llaw_walk) (m_range : mg "range" = none) (m_len : mg "len" = none) (c_Table_time_of : MtD P w K mg base cl "Table" "time_of" 2 1 dn_Table_time_of) (c_llaw_fits : FnD P w K mg base cl "_law_fits" 6 1 dn_llaw_fits) : FnD P w K mg base cl "_law_walk" 4 2 dn_llaw_walk := by
  obtain ⟨fa, fd, hm, F⟩ := d
  unfold dn_llaw_walk
  exact fnD_of (body := b_llaw_walk) F sc_llaw_walk rfl rfl hm (F.binds fun _ _ _ _ _ _ us hl => match us, hl with | [_, _, _, _], _ => rfl) (fun cdv A outer s H E hr tk =>
    (sl_cons (ss_set (i := 4) sc_llaw_walk.nd rfl (Or.inl rfl) se_non)
    (sl_cons (ss_set (i := 5) sc_llaw_walk.nd rfl (Or.inl rfl) se_int)
    (sl_cons (ss_set (i := 6) sc_llaw_walk.nd rfl (Or.inl rfl) se_int)
    (sl_cons (ss_for (sl := [7]) (passes_of rfl) rfl (si_rng2 rfl m_range (sa_cons se_int (sa_cons (se_callB call_len opn_len rfl m_len PySem.boot_len (sa_cons (se_var (pv 0)) sa_nil)) sa_nil))) (pg_name (i := 7) sc_llaw_walk.nd rfl (Or.inl rfl)) (gm_name (by decide))
    (sl_cons (ss_asg (sl := [12, 13, 14, 15, 16]) (se_ix ix_seq op2_ix (se_var (pv 0)) (se_var (pv 7)) (fun _ _ => rfl)) (pg_tup rfl (pgs_cons (pg_name (i := 12) sc_llaw_walk.nd rfl (Or.inl rfl)) (pgs_cons (pg_name (i := 13) sc_llaw_walk.nd rfl (Or.inl rfl)) (pgs_cons (pg_name (i := 14) sc_llaw_walk.nd rfl (Or.inl rfl)) (pgs_cons (pg_name (i := 15) sc_llaw_walk.nd rfl (Or.inl rfl)) (pgs_cons (pg_name (i := 16) sc_llaw_walk.nd rfl (Or.inl rfl)) pgs_nil)))))) (gm_tup (gms_cons (gm_name (by decide)) (gms_cons (gm_name (by decide)) (gms_cons (gm_name (by decide)) (gms_cons (gm_name (by decide)) (gms_cons (gm_name (by decide)) gms_nil)))))))
    (sl_cons (ss_set (i := 8) sc_llaw_walk.nd rfl (Or.inl rfl) (se_met (k := 1) (se_var (pv 3)) (all_cons (c_Table_time_of.mono (by decide)) all_nil) (hr.mono (by decide)) tk (sa_cons (se_tup (sa_cons se_int (sa_cons (se_var (pv 7)) (sa_cons (se_un un_neg op1_neg se_int) sa_nil)))) sa_nil)))
    (sl_cons (ss_set (i := 9) sc_llaw_walk.nd rfl (Or.inl rfl) (se_met (k := 1) (se_var (pv 3)) (all_cons (c_Table_time_of.mono (by decide)) all_nil) (hr.mono (by decide)) tk (sa_cons (se_tup (sa_cons se_int (sa_cons (se_bin op_sub op2_sub (se_var (pv 7)) se_int) (sa_cons (se_un un_neg op1_neg se_int) sa_nil)))) sa_nil)))
    (sl_cons (ss_if (sb_cmp op_lt op2_i2 (nomark _) (se_var (pv 8)) (se_var (pv 9)))
    (sl_one (ss_ret se_bl))
    sl_nil)
    (sl_cons (ss_set (i := 10) sc_llaw_walk.nd rfl (Or.inl rfl) (se_ix ix_seq op2_ix (se_ix ix_seq op2_ix (se_var (pv 1)) (se_var (pv 6)) (fun _ _ => rfl)) se_int (fun _ _ => rfl)))
    (sl_cons (ss_set (i := 11) sc_llaw_walk.nd rfl (Or.inl rfl) (se_ix ix_seq op2_ix (se_ix ix_seq op2_ix (se_var (pv 1)) (se_var (pv 6)) (fun _ _ => rfl)) se_int (fun _ _ => rfl)))
    (sl_cons (ss_if (SW.sb (sw_or (sb_cmp or_is op2_is (nomark _) (se_var (pv 4)) se_non) (sw_or1 (SW.sb (sw_and (sb_tru (se_var (pv 12))) (sw_and1 (sb_not (sb_tru (se_var (pv 2))))))))))
    (sl_one (ss_set (i := 4) sc_llaw_walk.nd rfl (Or.inl rfl) (se_met (k := 1) (se_var (pv 3)) (all_cons (c_Table_time_of.mono (by decide)) all_nil) (hr.mono (by decide)) tk (sa_cons (se_tup (sa_cons se_int (sa_cons (se_var (pv 7)) (sa_cons se_int sa_nil)))) sa_nil))))
    (sl_one (ss_if (sb_cmp (or_ne (hu64 hr)) op2_ne (nomark _) (se_ix ix_seq op2_ix (se_var (pv 13)) se_int (fun _ _ => rfl)) (se_var (pv 5)))
    (sl_cons (ss_set (i := 17) sc_llaw_walk.nd rfl (Or.inl rfl) (se_met (k := 1) (se_var (pv 3)) (all_cons (c_Table_time_of.mono (by decide)) all_nil) (hr.mono (by decide)) tk (sa_cons (se_tup (sa_cons se_int (sa_cons (se_var (pv 7)) (sa_cons se_int sa_nil)))) sa_nil)))
    (sl_cons (ss_if (sb_not (sb_tru (se_call c_llaw_fits (hr.mono (by decide)) tk rfl (sa_cons (se_var (pv 4)) (sa_cons (se_var (pv 9)) (sa_cons (se_var (pv 17)) (sa_cons (se_bin op_sub op2_sub (se_ix ix_seq op2_ix (se_var (pv 13)) se_int (fun _ _ => rfl)) (se_var (pv 5))) (sa_cons (se_var (pv 10)) (sa_cons (se_var (pv 11)) sa_nil)))))))))
    (sl_one (ss_ret se_bl))
    sl_nil)
    (sl_one (ss_set (i := 4) sc_llaw_walk.nd rfl (Or.inl rfl) (se_var (pv 17))))))
    sl_nil)))
    (sl_cons (ss_if (sb_not (sb_chain op_le op2_i2 op_le op2_i2 se_int (se_bin op_sub op2_sub (se_var (pv 8)) (se_var (pv 4))) (se_var (pv 11))))
    (sl_one (ss_ret se_bl))
    sl_nil)
    (sl_cons (ss_if (SW.sb (sw_or (sb_cmp (or_eq (hu64 hr)) op2_eq (nomark _) (se_ix ix_seq op2_ix (se_var (pv 15)) se_int (fun _ _ => rfl)) se_str) (sw_or1 (sb_cmp (or_ne (hu64 hr)) op2_ne (nomark _) (se_var (pv 14)) (se_var (pv 13))))))
    (sl_one (ss_set (i := 4) sc_llaw_walk.nd rfl (Or.inl rfl) (se_var (pv 8))))
    sl_nil)
    (sl_cons (ss_if (sb_cmp (or_eq (hu64 hr)) op2_eq (nomark _) (se_ix ix_seq op2_ix (se_var (pv 15)) se_int (fun _ _ => rfl)) se_str)
    (sl_one (ss_set (i := 6) sc_llaw_walk.nd rfl (Or.inl rfl) (se_ix ix_seq op2_ix (se_var (pv 15)) se_int (fun _ _ => rfl))))
    sl_nil)
    (sl_one (ss_set (i := 5) sc_llaw_walk.nd rfl (Or.inl rfl) (se_ix ix_seq op2_ix (se_var (pv 14)) se_int (fun _ _ => rfl)))))))))))))))
    (sl_one (ss_ret se_bl)))))))
/-! ### law -/
abbrev s_law : Stmt := topS 28
abbrev N_law : List Str := ["_law_script", "_law_rows", "_law_kinds_here", "_law_goes_on", "_law_events", "_law_frame", "_law_table"]
noncomputable def bi_law_1 : SM :=
    (sSeq (sSet 5 (dMake "Frame" 6 dn_Frame_init (dCons (dLst (dCons (dC (.str "a")) dNil)) (dCons (dLst (dCons (dTup (dCons (dC (.str "c")) (dCons (dC (.int 0)) (dCons (dVar 3) (dCons (dVar 2) dNil))))) dNil)) (dCons (dLst dNil) (dCons (dLst dNil) (dCons (dC (.int 0)) dNil)))))))
    (sSeq (sSet 6 (dCall 2 dn_table_of (dCons (dCall 2 dn_view_bounds (dCons (dVar 5) (dCons (dLst (dCons (dVar 4) dNil)) dNil))) (dCons (dLst (dCons (dTup (dCons (dC (.int 0)) (dCons (dC (.int 0)) (dCons (dO1 dNeg (dC (.int 1))) dNil)))) dNil)) dNil))))
    (sRet (dAndV (dO2 dIs (dProp [("Table", dn_Table_possible)] (dVar 6)) (dC (.bl true))) (dCall 4 dn_llaw_walk (dCons (dVar 4) (dCons (dVar 2) (dCons (dVar 3) (dCons (dVar 6) dNil)))))))))
noncomputable def b_law : SM :=
    (sSeq (sSet 1 (dCall 2 dn_llaw_draws (dCons (dVar 0) (dCons (dC (.int 60)) dNil))))
    (sSeq (sSet 2 (dCall 2 dn_llaw_kinds (dCons (dVar 1) (dCons (dC (.int 0)) dNil))))
    (sSeq (sSet 3 (dO2 dEq (dCall 3 dn_llaw_take (dCons (dVar 1) (dCons (dC (.int 0)) (dCons (dC (.int 2)) dNil)))) (dC (.int 1))))
    (sSeq (sSet 4 (dCall 3 dn_llaw_view (dCons (dVar 1) (dCons (dVar 2) (dCons (dVar 3) dNil)))))
    (sSeq (sIf (dB (dO2 dEq (dON dLen (dCons (dVar 4) dNil)) (dC (.int 1))))
    (sRet (dC (.bl true)))
    sPass)
    bi_law_1)))))
@[irreducible] noncomputable def dn_law : List D → S → Out D := defD 1 7 b_law
theorem sc_law : FnScope N_law ["_law_script"] (defScope s_law) := ⟨rfl, rfl, rfl, by decide +kernel, rfl, by decide +kernel, by decide +kernel⟩
theorem ok_law {fa : Addr} {fd : FuncData} (F : Fun K "law" "law" s_law fa fd) (m_len : mg "len" = none) (c_llaw_draws : FnD P w K mg base cl "_law_draws" 2 1 dn_llaw_draws) (c_llaw_kinds : FnD P w K mg base cl "_law_kinds" 2 2 dn_llaw_kinds) (c_llaw_view : FnD P w K mg base cl "_law_view" 3 4 dn_llaw_view) (c_Frame_init : MkD P w K mg base cl "Frame" 6 1 dn_Frame_init) (c_table_of : FnD P w K mg base cl "table_of" 2 3 dn_table_of) (c_llaw_take : FnD P w K mg base cl "_law_take" 3 1 dn_llaw_take) (c_view_bounds : FnD P w K mg base cl "view_bounds" 2 4 dn_view_bounds) (c_llaw_walk : FnD P w K mg base cl "_law_walk" 4 2 dn_llaw_walk) (c_Table_possible : PrD P w K mg base cl "Table" "possible" 1 dn_Table_possible) : FnOk P w K mg base (L2.CX P w) 5 fa fd ["_law_script"] (spD K cl 1 dn_law) := by
  unfold dn_law
  exact fnOk_of (body := b_law) F sc_law rfl rfl (fun cdv A outer s H E hr tk =>
    (sl_cons (ss_set (i := 1) sc_law.nd rfl (Or.inl rfl) (se_call c_llaw_draws (hr.mono (by decide)) tk rfl (sa_cons (se_var (pv 0)) (sa_cons se_int sa_nil))))
    (sl_cons (ss_set (i := 2) sc_law.nd rfl (Or.inl rfl) (se_call c_llaw_kinds (hr.mono (by decide)) tk rfl (sa_cons (se_var (pv 1)) (sa_cons se_int sa_nil))))
    (sl_cons (ss_set (i := 3) sc_law.nd rfl (Or.inl rfl) (se_cmp (or_eq (hu64 hr)) op2_eq (nomark _) (se_call c_llaw_take (hr.mono (by decide)) tk rfl (sa_cons (se_var (pv 1)) (sa_cons se_int (sa_cons se_int sa_nil)))) se_int))
    (sl_cons (ss_set (i := 4) sc_law.nd rfl (Or.inl rfl) (se_call c_llaw_view (hr.mono (by decide)) tk rfl (sa_cons (se_var (pv 1)) (sa_cons (se_var (pv 2)) (sa_cons (se_var (pv 3)) sa_nil)))))
    (sl_cons (ss_if (sb_cmp (or_eq (hu64 hr)) op2_eq (nomark _) (se_callB call_len opn_len rfl m_len PySem.boot_len (sa_cons (se_var (pv 4)) sa_nil)) se_int)
    (sl_one (ss_ret se_bl))
    sl_nil)
    (sl_cons (ss_set (i := 5) sc_law.nd rfl (Or.inl rfl) (se_make c_Frame_init (hr.mono (by decide)) tk rfl (sa_cons (se_lst (sa_cons se_str sa_nil)) (sa_cons (se_lst (sa_cons (se_tup (sa_cons se_str (sa_cons se_int (sa_cons (se_var (pv 3)) (sa_cons (se_var (pv 2)) sa_nil))))) sa_nil)) (sa_cons (se_lst sa_nil) (sa_cons (se_lst sa_nil) (sa_cons se_int sa_nil)))))))
    (sl_cons (ss_set (i := 6) sc_law.nd rfl (Or.inl rfl) (se_call c_table_of (hr.mono (by decide)) tk rfl (sa_cons (se_call c_view_bounds (hr.mono (by decide)) tk rfl (sa_cons (se_var (pv 5)) (sa_cons (se_lst (sa_cons (se_var (pv 4)) sa_nil)) sa_nil))) (sa_cons (se_lst (sa_cons (se_tup (sa_cons se_int (sa_cons se_int (sa_cons (se_un un_neg op1_neg se_int) sa_nil)))) sa_nil)) sa_nil))))
    (sl_one (ss_ret (se_and (se_cmp or_is op2_is (nomark _) (se_prop (k := 1) (se_var (pv 6)) (all_cons (c_Table_possible.mono (by decide)) all_nil) (hr.mono (by decide))) se_bl) (se_one (se_call c_llaw_walk (hr.mono (by decide)) tk rfl (sa_cons (se_var (pv 4)) (sa_cons (se_var (pv 2)) (sa_cons (se_var (pv 3)) (sa_cons (se_var (pv 6)) sa_nil)))))))))))))))))
theorem use_Table {K : Frag} {h : Heap} {mg : Str → Option Value} {Z : Prop} {C : Addr} {g_init : Addr} {od_init an_init : Option Addr} {sl_init : Array (Option Value)} {oc_init kV_init dc_init pm_init cd_init ct_init : Value} {g_possible : Addr} {od_possible an_possible : Option Addr} {sl_possible : Array (Option Value)} {oc_possible kV_possible dc_possible pm_possible cd_possible ct_possible : Value} {p_possible : Addr} {r_possible : List Value} {g_add_point : Addr} {od_add_point an_add_point : Option Addr} {sl_add_point : Array (Option Value)} {oc_add_point kV_add_point dc_add_point pm_add_point cd_add_point ct_add_point : Value} {g_put_bound : Addr} {od_put_bound an_put_bound : Option Addr} {sl_put_bound : Array (Option Value)} {oc_put_bound kV_put_bound dc_put_bound pm_put_bound cd_put_bound ct_put_bound : Value} {g_time_of : Addr} {od_time_of an_time_of : Option Addr} {sl_time_of : Array (Option Value)} {oc_time_of kV_time_of dc_time_of pm_time_of cd_time_of ct_time_of : Value} (X : K.In h) (N : h.Ns mainGlobals mg) (aC : PySem.W.nsIn K mainGlobals "Table" = some (some (.ref C))) (pg : PySem.W.plainGet K C Str.empty = true) (hd : PySem.W.hasDictIn K C = true) (po : PySem.W.plainOver K C = true) (sa : PySem.W.findIn K (.ref C) "__setattr__" = some (some (.builtin "object.__setattr__"))) (n_names : PySem.W.findIn K (.ref C) "names" = some none) (n_rows : PySem.W.findIn K (.ref C) "rows" = some none) (n_whole : PySem.W.findIn K (.ref C) "whole" = some none) (at_init : PySem.W.findIn K (.ref C) "__init__" = some (some (.ref g_init))) (fn_init : PySem.W.isFn K (.ref g_init) = true) (lk_init : K.lookup g_init = some ⟨oc_init, od_init, .func (PySem.W.fnOf "__init__" "Table.__init__" (defArgs s_Table_init) (defBody s_Table_init) (defScope s_Table_init) .none kV_init dc_init pm_init an_init cd_init ct_init), sl_init⟩) (co_init : PySem.W.codeIn K cd_init "Table.__init__" = true) (kp_init : PySem.W.keepIn K (.ref g_init) = true) (mk : PySem.W.makesIn K C = true) (kc : PySem.W.keepIn K (.ref C) = true) (at_possible : PySem.W.findIn K (.ref C) "possible" = some (some (.ref p_possible))) (gt_possible : PySem.W.specialIn K (.ref p_possible) "__get__" = some (some (.builtin "property.__get__"))) (ta_possible : PySem.W.takesIn K (.ref p_possible) = some true) (rc_possible : PySem.W.recIn K p_possible "property" = some (.ref g_possible :: r_possible)) (lk_possible : K.lookup g_possible = some ⟨oc_possible, od_possible, .func (PySem.W.fnOf "possible" "Table.possible" (defArgs s_Table_possible) (defBody s_Table_possible) (defScope s_Table_possible) .none kV_possible dc_possible pm_possible an_possible cd_possible ct_possible), sl_possible⟩) (co_possible : PySem.W.codeIn K cd_possible "Table.possible" = true) (kp_possible : PySem.W.keepIn K (.ref g_possible) = true) (at_add_point : PySem.W.findIn K (.ref C) "add_point" = some (some (.ref g_add_point))) (fn_add_point : PySem.W.isFn K (.ref g_add_point) = true) (lk_add_point : K.lookup g_add_point = some ⟨oc_add_point, od_add_point, .func (PySem.W.fnOf "add_point" "Table.add_point" (defArgs s_Table_add_point) (defBody s_Table_add_point) (defScope s_Table_add_point) .none kV_add_point dc_add_point pm_add_point an_add_point cd_add_point ct_add_point), sl_add_point⟩) (co_add_point : PySem.W.codeIn K cd_add_point "Table.add_point" = true) (kp_add_point : PySem.W.keepIn K (.ref g_add_point) = true) (at_put_bound : PySem.W.findIn K (.ref C) "put_bound" = some (some (.ref g_put_bound))) (fn_put_bound : PySem.W.isFn K (.ref g_put_bound) = true) (lk_put_bound : K.lookup g_put_bound = some ⟨oc_put_bound, od_put_bound, .func (PySem.W.fnOf "put_bound" "Table.put_bound" (defArgs s_Table_put_bound) (defBody s_Table_put_bound) (defScope s_Table_put_bound) .none kV_put_bound dc_put_bound pm_put_bound an_put_bound cd_put_bound ct_put_bound), sl_put_bound⟩) (co_put_bound : PySem.W.codeIn K cd_put_bound "Table.put_bound" = true) (kp_put_bound : PySem.W.keepIn K (.ref g_put_bound) = true) (at_time_of : PySem.W.findIn K (.ref C) "time_of" = some (some (.ref g_time_of))) (fn_time_of : PySem.W.isFn K (.ref g_time_of) = true) (lk_time_of : K.lookup g_time_of = some ⟨oc_time_of, od_time_of, .func (PySem.W.fnOf "time_of" "Table.time_of" (defArgs s_Table_time_of) (defBody s_Table_time_of) (defScope s_Table_time_of) .none kV_time_of dc_time_of pm_time_of an_time_of cd_time_of ct_time_of), sl_time_of⟩) (co_time_of : PySem.W.codeIn K cd_time_of "Table.time_of" = true) (kp_time_of : PySem.W.keepIn K (.ref g_time_of) = true)
    (z : ∀ C : Addr, (∀ cl : Clm, cl "Table" = some C → FldAt K cl "Table" "names" ∧ FldAt K cl "Table" "rows" ∧ FldAt K cl "Table" "whole" ∧ MkAt K cl mg "Table" "Table.__init__" s_Table_init ∧ PropAt K cl "Table" "possible" "Table.possible" s_Table_possible ∧ MethAt K cl "Table" "add_point" "Table.add_point" s_Table_add_point ∧ MethAt K cl "Table" "put_bound" "Table.put_bound" s_Table_put_bound ∧ MethAt K cl "Table" "time_of" "Table.time_of" s_Table_time_of) → Z) : Z :=
  z C fun cl e => ⟨⟨C, e, ⟨pg, hd, po, sa⟩, n_names⟩, ⟨C, e, ⟨pg, hd, po, sa⟩, n_rows⟩, ⟨C, e, ⟨pg, hd, po, sa⟩, n_whole⟩, ⟨C, g_init, _, e, PySem.W.mg_of X N aC, ⟨mk, at_init, fn_init, kc⟩, fun_mk lk_init co_init kp_init⟩, ⟨C, p_possible, g_possible, _, e, ⟨pg, hd, po, sa⟩, ⟨at_possible, gt_possible, ta_possible, _, rc_possible⟩, fun_mk lk_possible co_possible kp_possible⟩, ⟨C, g_add_point, _, e, ⟨pg, hd, po, sa⟩, ⟨at_add_point, fn_add_point, kp_add_point⟩, fun_mk lk_add_point co_add_point kp_add_point⟩, ⟨C, g_put_bound, _, e, ⟨pg, hd, po, sa⟩, ⟨at_put_bound, fn_put_bound, kp_put_bound⟩, fun_mk lk_put_bound co_put_bound kp_put_bound⟩, ⟨C, g_time_of, _, e, ⟨pg, hd, po, sa⟩, ⟨at_time_of, fn_time_of, kp_time_of⟩, fun_mk lk_time_of co_time_of kp_time_of⟩⟩
theorem use_Frame {K : Frag} {h : Heap} {mg : Str → Option Value} {Z : Prop} {C : Addr} {g_init : Addr} {od_init an_init : Option Addr} {sl_init : Array (Option Value)} {oc_init kV_init dc_init pm_init cd_init ct_init : Value} {g_clocks_of : Addr} {od_clocks_of an_clocks_of : Option Addr} {sl_clocks_of : Array (Option Value)} {oc_clocks_of kV_clocks_of dc_clocks_of pm_clocks_of cd_clocks_of ct_clocks_of : Value} {g_link_part : Addr} {od_link_part an_link_part : Option Addr} {sl_link_part : Array (Option Value)} {oc_link_part kV_link_part dc_link_part pm_link_part cd_link_part ct_link_part : Value} {g_source_part : Addr} {od_source_part an_source_part : Option Addr} {sl_source_part : Array (Option Value)} {oc_source_part kV_source_part dc_source_part pm_source_part cd_source_part ct_source_part : Value} (X : K.In h) (N : h.Ns mainGlobals mg) (aC : PySem.W.nsIn K mainGlobals "Frame" = some (some (.ref C))) (pg : PySem.W.plainGet K C Str.empty = true) (hd : PySem.W.hasDictIn K C = true) (po : PySem.W.plainOver K C = true) (sa : PySem.W.findIn K (.ref C) "__setattr__" = some (some (.builtin "object.__setattr__"))) (n_devices : PySem.W.findIn K (.ref C) "devices" = some none) (n_clocks : PySem.W.findIn K (.ref C) "clocks" = some none) (n_links : PySem.W.findIn K (.ref C) "links" = some none) (n_sources : PySem.W.findIn K (.ref C) "sources" = some none) (n_faults : PySem.W.findIn K (.ref C) "faults" = some none) (at_init : PySem.W.findIn K (.ref C) "__init__" = some (some (.ref g_init))) (fn_init : PySem.W.isFn K (.ref g_init) = true) (lk_init : K.lookup g_init = some ⟨oc_init, od_init, .func (PySem.W.fnOf "__init__" "Frame.__init__" (defArgs s_Frame_init) (defBody s_Frame_init) (defScope s_Frame_init) .none kV_init dc_init pm_init an_init cd_init ct_init), sl_init⟩) (co_init : PySem.W.codeIn K cd_init "Frame.__init__" = true) (kp_init : PySem.W.keepIn K (.ref g_init) = true) (mk : PySem.W.makesIn K C = true) (kc : PySem.W.keepIn K (.ref C) = true) (at_clocks_of : PySem.W.findIn K (.ref C) "clocks_of" = some (some (.ref g_clocks_of))) (fn_clocks_of : PySem.W.isFn K (.ref g_clocks_of) = true) (lk_clocks_of : K.lookup g_clocks_of = some ⟨oc_clocks_of, od_clocks_of, .func (PySem.W.fnOf "clocks_of" "Frame.clocks_of" (defArgs s_Frame_clocks_of) (defBody s_Frame_clocks_of) (defScope s_Frame_clocks_of) .none kV_clocks_of dc_clocks_of pm_clocks_of an_clocks_of cd_clocks_of ct_clocks_of), sl_clocks_of⟩) (co_clocks_of : PySem.W.codeIn K cd_clocks_of "Frame.clocks_of" = true) (kp_clocks_of : PySem.W.keepIn K (.ref g_clocks_of) = true) (at_link_part : PySem.W.findIn K (.ref C) "link_part" = some (some (.ref g_link_part))) (fn_link_part : PySem.W.isFn K (.ref g_link_part) = true) (lk_link_part : K.lookup g_link_part = some ⟨oc_link_part, od_link_part, .func (PySem.W.fnOf "link_part" "Frame.link_part" (defArgs s_Frame_link_part) (defBody s_Frame_link_part) (defScope s_Frame_link_part) .none kV_link_part dc_link_part pm_link_part an_link_part cd_link_part ct_link_part), sl_link_part⟩) (co_link_part : PySem.W.codeIn K cd_link_part "Frame.link_part" = true) (kp_link_part : PySem.W.keepIn K (.ref g_link_part) = true) (at_source_part : PySem.W.findIn K (.ref C) "source_part" = some (some (.ref g_source_part))) (fn_source_part : PySem.W.isFn K (.ref g_source_part) = true) (lk_source_part : K.lookup g_source_part = some ⟨oc_source_part, od_source_part, .func (PySem.W.fnOf "source_part" "Frame.source_part" (defArgs s_Frame_source_part) (defBody s_Frame_source_part) (defScope s_Frame_source_part) .none kV_source_part dc_source_part pm_source_part an_source_part cd_source_part ct_source_part), sl_source_part⟩) (co_source_part : PySem.W.codeIn K cd_source_part "Frame.source_part" = true) (kp_source_part : PySem.W.keepIn K (.ref g_source_part) = true)
    (z : ∀ C : Addr, (∀ cl : Clm, cl "Frame" = some C → FldAt K cl "Frame" "devices" ∧ FldAt K cl "Frame" "clocks" ∧ FldAt K cl "Frame" "links" ∧ FldAt K cl "Frame" "sources" ∧ FldAt K cl "Frame" "faults" ∧ MkAt K cl mg "Frame" "Frame.__init__" s_Frame_init ∧ MethAt K cl "Frame" "clocks_of" "Frame.clocks_of" s_Frame_clocks_of ∧ MethAt K cl "Frame" "link_part" "Frame.link_part" s_Frame_link_part ∧ MethAt K cl "Frame" "source_part" "Frame.source_part" s_Frame_source_part) → Z) : Z :=
  z C fun cl e => ⟨⟨C, e, ⟨pg, hd, po, sa⟩, n_devices⟩, ⟨C, e, ⟨pg, hd, po, sa⟩, n_clocks⟩, ⟨C, e, ⟨pg, hd, po, sa⟩, n_links⟩, ⟨C, e, ⟨pg, hd, po, sa⟩, n_sources⟩, ⟨C, e, ⟨pg, hd, po, sa⟩, n_faults⟩, ⟨C, g_init, _, e, PySem.W.mg_of X N aC, ⟨mk, at_init, fn_init, kc⟩, fun_mk lk_init co_init kp_init⟩, ⟨C, g_clocks_of, _, e, ⟨pg, hd, po, sa⟩, ⟨at_clocks_of, fn_clocks_of, kp_clocks_of⟩, fun_mk lk_clocks_of co_clocks_of kp_clocks_of⟩, ⟨C, g_link_part, _, e, ⟨pg, hd, po, sa⟩, ⟨at_link_part, fn_link_part, kp_link_part⟩, fun_mk lk_link_part co_link_part kp_link_part⟩, ⟨C, g_source_part, _, e, ⟨pg, hd, po, sa⟩, ⟨at_source_part, fn_source_part, kp_source_part⟩, fun_mk lk_source_part co_source_part kp_source_part⟩⟩
end
end G
-- NAMEIFS
-- NAMES _law_run _law_begin _law_view _law_kinds _law_fits _law_walk
-- DICTT
namespace G
open PySem L2 Dn
local macro_rules | `(tactic| walk_at "ev") => `(tactic| simp only [ok_ok, ok_o2, ok_o1, ok_nil, ok_cons, ok_on, ok_mt, ok_tup, ok_lst, ok_call, ok_ifE, ok_dB, ok_tru, ok_notT, ok_andT, ok_orT, ok_andV, ok_orV, ok_notV, ok_set, ok_expr, ok_ret, ok_retN, ok_pass, ok_brk, ok_cnt, ok_if, ok_asg, ok_setI, ok_for, ok_iAny, ok_rng1, ok_rng2, ok_lc, ok_c, ok_var,
  v_add, v_sub, v_neg, v_lt, v_le, v_gt, v_ge, v_eqI, v_neI, v_eqS, v_neS, v_isN, v_isnotN, v_int, v_lenT, v_mod, v_ix, v_ixR, v_lenR, v_mul, v_div,
  List.map_cons, List.map_nil, List.cons_append, List.nil_append, Nat.reduceSub, List.replicate_succ, List.replicate_zero, D.bl.injEq, D.ref.injEq, D.int.injEq,
  List.getElem?_cons_zero, List.getElem?_cons_succ, List.set_cons_zero, List.set_cons_succ, Option.some.injEq, exists_eq_left', List.length_cons, List.length_nil, true_and, and_true, exists_eq_left, sq_ret, rt_ret, rt_nx, tn_nx, tn_ret])
local macro_rules | `(tactic| wide_open using [$ts,*]) => do
  let ls ← ts.getElems.mapM fun t => `(Lean.Parser.Tactic.simpLemma| $t:term)
  `(tactic| simp only [ok_seq, sq_nx, ok_ok, ok_o2, ok_o1, ok_nil, ok_cons, ok_on, ok_mt, ok_tup, ok_lst, ok_call, ok_ifE, ok_dB, ok_tru, ok_notT, ok_andT, ok_orT, ok_andV, ok_orV, ok_notV, ok_set, ok_expr, ok_ret, ok_retN, ok_pass, ok_brk, ok_cnt, ok_if, ok_asg, ok_setI, ok_for, ok_iAny, ok_iEn, ok_rng1, ok_rng2, ok_lc, ok_c, ok_var, ok_fld, ok_fldS, ok_met, ok_prop, ok_make, ok_isC, ok_nop, ok_P, ok_sl, v_slT, ok_ch,
  v_add, v_sub, v_neg, v_lt, v_le, v_gt, v_ge, v_eqI, v_neI, v_eqS, v_neS, v_isN, v_isnotN, v_int, v_lenT, v_mod, v_ix, v_ixR, v_lenR, v_mul, v_div, v_append, v_list, v_isi, sb_bool_bool, sb_bool_int, sb_bool_str, sb_bool_tuple, sb_bool_list, sb_int_bool, sb_int_int, sb_int_str, sb_int_tuple, sb_int_list, sb_str_bool, sb_str_int, sb_str_str, sb_str_tuple, sb_str_list, sb_tuple_bool, sb_tuple_int, sb_tuple_str, sb_tuple_tuple, sb_tuple_list, sb_list_bool, sb_list_int, sb_list_str, sb_list_tuple, sb_list_list, sb_NoneType_bool, sb_NoneType_int, sb_NoneType_str, sb_NoneType_tuple, sb_NoneType_list, ty_non, ty_bl, ty_int, ty_str, ty_tup, ty_ref, sq_tup, sq_ref, wk_tup, wk_str, wk_ref, v_isB, v_isnotB, v_eqB, v_neB, v_intB, isT, ct1, beq_self_eq_true, Bool.true_and, Bool.and_true, v_tuple, nonD_non, nonD_int, nonD_tup, nonD_str, nonD_ref, nonD_bl, optD_n, optD_s, tru_non, tru_bl, tru_int, tru_tup, tru_ref,
  atI_0, atI_1, atI_2, atI_3, atI_4, bName, wipeE,
  List.map_cons, List.map_nil, List.cons_append, List.nil_append, Nat.reduceSub, Nat.zero_add, Nat.reduceAdd, List.replicate_succ, List.replicate_zero, D.bl.injEq, D.ref.injEq, D.int.injEq, D.tup.injEq, O.ins.injEq, O.lst.injEq, List.cons.injEq,
  List.getElem?_cons_zero, List.getElem?_cons_succ, List.set_cons_zero, List.set_cons_succ, Option.some.injEq, exists_eq_left', List.length_cons, List.length_nil, true_and, and_true, exists_eq_left, sq_ret, sq_bk, sq_ct, rt_ret, rt_nx, tn_nx, tn_ret, tn_bk, tn_ct,
  Bool.not_true, Bool.not_false, Bool.false_eq_true, if_true, if_false, ite_true, ite_false, decide_true, decide_false, decide_eq_true_eq, and_assoc, exists_and_left, exists_and_right, exists_eq', exists_eq, and_self, List.set_set, lk_one, Nat.zero_le, Int.cast_ofNat_Int, eq_self, $ls,*])

/-! walks over arcs: plain Lean -/
abbrev Arc := Nat × Nat × Int
/-- a walk from u to v over k arcs with the sum d -/
inductive Wlk (A : List Arc) : Nat → Nat → Nat → Int → Prop
  | nil (u : Nat) : Wlk A u u 0 0
  | snoc {u x v k : Nat} {d w : Int} : Wlk A u x k d → (x, v, w) ∈ A → Wlk A u v (k + 1) (d + w)
theorem Wlk.cast {A : List Arc} {u v k k' : Nat} {d d' : Int} (h : Wlk A u v k d) (e : k = k') (e' : d = d') : Wlk A u v k' d' := by subst e e'; exact h
theorem Wlk.one {A : List Arc} {u v : Nat} {w : Int} (h : (u, v, w) ∈ A) : Wlk A u v 1 w := (Wlk.snoc (.nil u) h).cast rfl (by omega)
theorem Wlk.append {A : List Arc} {u x v k k' : Nat} {d d' : Int} (h : Wlk A u x k d) (h' : Wlk A x v k' d') : Wlk A u v (k + k') (d + d') := by
  induction h' with
  | nil => exact h.cast rfl (by omega)
  | snoc a m ih => exact (Wlk.snoc ih m).cast (by omega) (by omega)
theorem Wlk.mono {A B : List Arc} {u v k : Nat} {d : Int} (h : Wlk A u v k d) (q : ∀ a ∈ A, a ∈ B) : Wlk B u v k d := by
  induction h with
  | nil => exact .nil _
  | snoc a m ih => exact .snoc ih (q _ m)
/-- the vertices of arcs -/
def InR (A : List Arc) (n : Nat) : Prop := ∀ a ∈ A, a.1 < n ∧ a.2.1 < n
/-- D is the table of least sums -/
structure Dist (A : List Arc) (D : Nat → Nat → Option Int) : Prop where
  sound : ∀ u v d, D u v = some d → ∃ k, Wlk A u v k d
  least : ∀ u v k d, Wlk A u v k d → ∃ d', D u v = some d' ∧ d' ≤ d
theorem Dist.unique {A : List Arc} {D E : Nat → Nat → Option Int} (h : Dist A D) (h' : Dist A E) (u v : Nat) : D u v = E u v := by
  cases e : D u v with
  | none =>
    cases e' : E u v with
    | none => rfl
    | some d =>
      obtain ⟨k, w⟩ := h'.sound u v d e'
      obtain ⟨d', q, _⟩ := h.least u v k d w
      rw [e] at q; cases q
  | some d =>
    obtain ⟨k, w⟩ := h.sound u v d e
    obtain ⟨d', q, l⟩ := h'.least u v k d w
    obtain ⟨k', w'⟩ := h'.sound u v d' q
    obtain ⟨d'', q', l'⟩ := h.least u v k' d' w'
    rw [e] at q'; cases q'
    rw [q]
    congr 1; omega
theorem Dist.self {A : List Arc} {D : Nat → Nat → Option Int} (h : Dist A D) (u : Nat) : ∃ d, D u u = some d ∧ d ≤ 0 := h.least u u 0 0 (.nil u)
/-- no ring below 0 -/
def NoRing (A : List Arc) : Prop := ∀ u k d, Wlk A u u k d → 0 ≤ d
theorem Dist.noRing {A : List Arc} {D : Nat → Nat → Option Int} (h : Dist A D) : NoRing A := by
  intro u k d w
  -- a ring of sum d < 0 repeated gives ever less
  obtain ⟨d0, e0, l0⟩ := h.self u
  obtain ⟨k0, w0⟩ := h.sound u u d0 e0
  obtain ⟨d1, e1, l1⟩ := h.least u u _ _ (w0.append w)
  rw [e0] at e1; cases e1
  omega
theorem Dist.self0 {A : List Arc} {D : Nat → Nat → Option Int} (h : Dist A D) (u : Nat) : D u u = some 0 := by
  obtain ⟨d, e, l⟩ := h.self u
  obtain ⟨k, w⟩ := h.sound u u d e
  have := h.noRing u k d w
  rw [e]; congr 1; omega
theorem dist_nil : Dist [] fun u v => if u = v then some 0 else none := ⟨fun u v d h => by
    by_cases e : u = v
    · subst e
      simp at h; subst h
      exact ⟨0, .nil u⟩
    · simp [e] at h,
  fun u v k d w => by
    cases w with
    | nil => exact ⟨0, by simp, by omega⟩
    | snoc _ m => cases m⟩
/-- the lesser one; none is no distance -/
def mn : Option Int → Option Int → Option Int
  | none, y => y
  | some x, none => some x
  | some x, some y => some (if y < x then y else x)
def ad : Option Int → Option Int → Option Int
  | some x, some y => some (x + y)
  | _, _ => none
theorem mn_some {x y : Option Int} {d : Int} (h : mn x y = some d) : x = some d ∨ y = some d := by
  cases x with
  | none => exact .inr h
  | some a =>
    cases y with
    | none => exact .inl h
    | some b =>
      simp only [mn, Option.some.injEq] at h
      split at h
      · exact .inr (by rw [h])
      · exact .inl (by rw [h])
theorem mn_le_l {x y : Option Int} {d : Int} (h : x = some d) : ∃ d', mn x y = some d' ∧ d' ≤ d := by
  subst h
  cases y with
  | none => exact ⟨d, rfl, Int.le_refl _⟩
  | some b => refine ⟨_, rfl, ?_⟩; split <;> omega
theorem mn_le_r {x y : Option Int} {d : Int} (h : y = some d) : ∃ d', mn x y = some d' ∧ d' ≤ d := by
  subst h
  cases x with
  | none => exact ⟨d, rfl, Int.le_refl _⟩
  | some a => refine ⟨_, rfl, ?_⟩; split <;> omega
theorem ad_some {x y : Option Int} {d : Int} (h : ad x y = some d) : ∃ a b, x = some a ∧ y = some b ∧ d = a + b := by
  cases x with
  | none => cases h
  | some a =>
    cases y with
    | none => cases h
    | some b => simp only [ad, Option.some.injEq] at h; exact ⟨a, b, rfl, rfl, h.symm⟩
/-- an arc is put in -/
def upD (D : Nat → Nat → Option Int) (h t : Nat) (w : Int) : Nat → Nat → Option Int := fun u v => mn (D u v) (ad (D u h) (ad (some w) (D t v)))
theorem Dist.put {A : List Arc} {D : Nat → Nat → Option Int} (hd : Dist A D) {h t : Nat} {w : Int} (ok : ∀ d, D t h = some d → 0 ≤ d + w) : Dist (A ++ [(h, t, w)]) (upD D h t w) := by
  have sub : ∀ a ∈ A, a ∈ A ++ [(h, t, w)] := fun a m => List.mem_append_left _ m
  refine ⟨fun u v d e => ?_, fun u v k d q => ?_⟩
  · rcases mn_some e with e | e
    · obtain ⟨k, x⟩ := hd.sound u v d e
      exact ⟨k, x.mono sub⟩
    · obtain ⟨a, b, e1, e2, rfl⟩ := ad_some e
      obtain ⟨w', c, e3, e4, rfl⟩ := ad_some e2
      cases e3
      obtain ⟨k1, x1⟩ := hd.sound _ _ _ e1
      obtain ⟨k2, x2⟩ := hd.sound _ _ _ e4
      exact ⟨_, ((x1.mono sub).append ((Wlk.one (by simp)).append (x2.mono sub)))⟩
  · -- by the last arc
    induction q with
    | nil =>
      exact mn_le_l (hd.self0 u)
    | @snoc x v k d w' q m ih =>
      obtain ⟨d1, e1, l1⟩ := ih
      rcases List.mem_append.mp m with m | m
      · rcases mn_some e1 with e | e
        · obtain ⟨k1, y⟩ := hd.sound _ _ _ e
          obtain ⟨d2, e2, l2⟩ := hd.least _ _ _ _ (Wlk.snoc y m)
          obtain ⟨d3, e3, l3⟩ := mn_le_l (y := ad (D u h) (ad (some w) (D t v))) e2
          exact ⟨d3, e3, by omega⟩
        · obtain ⟨a, b, z1, z2, rfl⟩ := ad_some e
          obtain ⟨_, c, z3, z4, rfl⟩ := ad_some z2
          cases z3
          obtain ⟨k1, y⟩ := hd.sound _ _ _ z4
          obtain ⟨d2, e2, l2⟩ := hd.least _ _ _ _ (Wlk.snoc y m)
          obtain ⟨d3, e3, l3⟩ := mn_le_r (x := D u v) (y := ad (D u h) (ad (some w) (D t v))) (d := a + (w + d2)) (by rw [z1, e2]; rfl)
          exact ⟨d3, e3, by omega⟩
      · rw [List.mem_singleton] at m
        cases m
        -- the new arc: D u h is at most d1
        have key : ∃ d2, D u h = some d2 ∧ d2 ≤ d1 := by
          rcases mn_some e1 with e | e
          · exact ⟨d1, e, Int.le_refl _⟩
          · obtain ⟨a, b, z1, z2, rfl⟩ := ad_some e
            obtain ⟨_, c, z3, z4, rfl⟩ := ad_some z2
            cases z3
            have := ok c z4
            exact ⟨a, z1, by omega⟩
        obtain ⟨d2, e2, l2⟩ := key
        obtain ⟨d3, e3, l3⟩ := mn_le_r (x := D u t) (y := ad (D u h) (ad (some w) (D t t))) (d := d2 + (w + 0)) (by rw [e2, hd.self0]; rfl)
        exact ⟨d3, e3, by omega⟩
/-- an arc that makes a ring below 0 -/
theorem Dist.ring {A : List Arc} {D : Nat → Nat → Option Int} (hd : Dist A D) {h t : Nat} {w d : Int} (e : D t h = some d) (l : d + w < 0) : ¬ NoRing (A ++ [(h, t, w)]) := fun q => by
  obtain ⟨k, x⟩ := hd.sound _ _ _ e
  have := q h _ _ ((Wlk.one (A := A ++ [(h, t, w)]) (u := h) (v := t) (w := w) (by simp)).append (x.mono fun a m => List.mem_append_left _ m))
  omega
theorem NoRing.mono {A B : List Arc} (h : NoRing B) (q : ∀ a ∈ A, a ∈ B) : NoRing A := fun u k d w => h u k d (w.mono q)

/-! ### few arcs are enough -/
theorem nodup_le : ∀ (n : Nat) (l : List Nat), l.Nodup → (∀ x ∈ l, x < n) → l.length ≤ n
  | 0, [], _, _ => Nat.le_refl _
  | 0, x :: _, _, h => absurd (h x List.mem_cons_self) (Nat.not_lt_zero _)
  | n + 1, l, hn, h => by
    have h1 := nodup_le n (l.erase n) (hn.erase n) fun x hx => by
      have h2 := (hn.mem_erase_iff).mp hx
      have := h x h2.2
      have := h2.1
      omega
    have := List.length_erase (a := n) (l := l)
    split at this <;> omega
/-- the vertices of a walk ahead of its end, the last one first -/
inductive Wpt (A : List Arc) : Nat → List Nat → Nat → Int → Prop
  | nil (u : Nat) : Wpt A u [] u 0
  | snoc {u x v : Nat} {l : List Nat} {d w : Int} : Wpt A u l x d → (x, v, w) ∈ A → Wpt A u (x :: l) v (d + w)
theorem Wlk.pt {A : List Arc} {u v k : Nat} {d : Int} (h : Wlk A u v k d) : ∃ l, l.length = k ∧ Wpt A u l v d := by
  induction h with
  | nil => exact ⟨[], rfl, .nil _⟩
  | snoc a m ih => obtain ⟨l, e, w⟩ := ih; exact ⟨_ :: l, by simp [e], .snoc w m⟩
theorem Wpt.wlk {A : List Arc} {u v : Nat} {l : List Nat} {d : Int} (h : Wpt A u l v d) : Wlk A u v l.length d := by
  induction h with
  | nil => exact .nil _
  | snoc a m ih => exact .snoc ih m
/-- a walk that meets x may be cut there -/
theorem Wpt.cut {A : List Arc} {u v x : Nat} {l : List Nat} {d : Int} (h : Wpt A u l v d) (hx : x ∈ l) : ∃ l1 d1 k d2, Wpt A u l1 x d1 ∧ Wlk A x v k d2 ∧ d = d1 + d2 ∧ (∀ y ∈ l1, y ∈ l) ∧ (l.Nodup → l1.Nodup ∧ x ∉ l1) := by
  induction h with
  | nil => cases hx
  | @snoc y v l d w a m ih =>
    rcases List.mem_cons.mp hx with rfl | hx
    · exact ⟨l, d, 1, w, a, .one m, rfl, fun y hy => List.mem_cons_of_mem _ hy, fun z => ⟨(List.nodup_cons.mp z).2, (List.nodup_cons.mp z).1⟩⟩
    · obtain ⟨l1, d1, k, d2, q1, q2, rfl, q4, q5⟩ := ih hx
      exact ⟨l1, d1, k + 1, d2 + w, q1, .snoc q2 m, by omega, fun y hy => List.mem_cons_of_mem _ (q4 y hy), fun z => q5 (List.nodup_cons.mp z).2⟩
/-- without rings below 0, each walk has one of at most the same sum that meets no vertex twice -/
theorem simple {A : List Arc} (hr : NoRing A) {u v k : Nat} {d : Int} (h : Wlk A u v k d) : ∃ l d', Wpt A u l v d' ∧ d' ≤ d ∧ l.Nodup ∧ v ∉ l := by
  induction h with
  | nil => exact ⟨[], 0, .nil u, Int.le_refl _, List.nodup_nil, by simp⟩
  | @snoc x v k d w a m ih =>
    obtain ⟨l, d', q, le, nd, nx⟩ := ih
    by_cases hv : v ∈ x :: l
    · obtain ⟨l1, d1, k, d2, q1, q2, e, q4, q5⟩ := (Wpt.snoc q m).cut hv
      have h0 := hr v k d2 q2
      obtain ⟨z1, z2⟩ := q5 (List.nodup_cons.mpr ⟨nx, nd⟩)
      exact ⟨l1, d1, q1, by omega, z1, z2⟩
    · exact ⟨x :: l, d' + w, .snoc q m, by omega, List.nodup_cons.mpr ⟨nx, nd⟩, hv⟩
theorem Wpt.inr {A : List Arc} {n : Nat} (hA : InR A n) {u v : Nat} {l : List Nat} {d : Int} (h : Wpt A u l v d) (hu : u < n) : v < n ∧ ∀ x ∈ l, x < n := by
  induction h with
  | nil => exact ⟨hu, fun _ z => nomatch z⟩
  | snoc a m ih =>
    refine ⟨(hA _ m).2, fun y hy => ?_⟩
    rcases List.mem_cons.mp hy with rfl | hy
    · exact (hA _ m).1
    · exact ih.2 y hy
theorem short {A : List Arc} {n : Nat} (hr : NoRing A) (hA : InR A n) {u v k : Nat} {d : Int} (h : Wlk A u v k d) (hu : u < n) : ∃ k' d', Wlk A u v k' d' ∧ d' ≤ d ∧ k' < n := by
  obtain ⟨l, d', q, le, nd, nv⟩ := simple hr h
  obtain ⟨h1, h2⟩ := q.inr hA hu
  refine ⟨l.length, d', q.wlk, le, ?_⟩
  have := nodup_le n (v :: l) (List.nodup_cons.mpr ⟨nv, nd⟩) fun x hx => by
    rcases List.mem_cons.mp hx with rfl | hx
    · exact h1
    · exact h2 x hx
  rw [List.length_cons] at this
  omega

/-! ### rounds over the arcs from one vertex (Bellman, Ford) -/
abbrev Row := List (Option Int)
/-- one arc -/
def relax (r : Row) (a : Arc) : Row := match r[a.1]? with
  | some (some d) => match r[a.2.1]? with
    | some (some e) => if d + a.2.2 < e then r.set a.2.1 (some (d + a.2.2)) else r
    | _ => r.set a.2.1 (some (d + a.2.2))
  | _ => r
def round (A : List Arc) (r : Row) : Row := A.foldl relax r
def rounds (A : List Arc) : Nat → Row → Row
  | 0, r => r
  | k + 1, r => rounds A k (round A r)
def row0 (n s : Nat) : Row := (List.replicate n none).set s (some 0)
theorem relax_len {r : Row} {a : Arc} : (relax r a).length = r.length := by
  unfold relax
  split
  · split
    · split <;> simp
    · simp
  · rfl
theorem round_len {A : List Arc} : ∀ {r : Row}, (round A r).length = r.length := by
  unfold round
  induction A with
  | nil => intro r; rfl
  | cons a A ih => intro r; rw [List.foldl_cons, ih, relax_len]
theorem rounds_succ {A : List Arc} : ∀ {k : Nat} {r : Row}, rounds A (k + 1) r = round A (rounds A k r)
  | 0, _ => rfl
  | k + 1, r => by rw [rounds, rounds_succ, rounds]
theorem rounds_len {A : List Arc} : ∀ {k : Nat} {r : Row}, (rounds A k r).length = r.length
  | 0, _ => rfl
  | k + 1, r => by rw [rounds_succ, round_len, rounds_len]
/-- r is not above r' -/
def Le (r r' : Row) : Prop := ∀ (v : Nat) (d : Int), r'[v]? = some (some d) → ∃ d' : Int, r[v]? = some (some d') ∧ d' ≤ d
theorem Le.refl (r : Row) : Le r r := fun v d h => ⟨d, h, Int.le_refl _⟩
theorem Le.trans {a b c : Row} (h : Le a b) (h' : Le b c) : Le a c := fun v d e => by
  obtain ⟨d1, e1, l1⟩ := h' v d e
  obtain ⟨d2, e2, l2⟩ := h v d1 e1
  exact ⟨d2, e2, by omega⟩
theorem set_le {r : Row} {v : Nat} {e : Int} (h : ∀ d : Int, r[v]? = some (some d) → e ≤ d) : Le (r.set v (some e)) r := fun x d q => by
  by_cases z : v = x
  · subst z
    have := (List.getElem?_eq_some_iff.mp q).1
    exact ⟨e, List.getElem?_set_self this, h d q⟩
  · exact ⟨d, by rw [List.getElem?_set_ne z]; exact q, Int.le_refl _⟩
theorem relax_le {r : Row} {a : Arc} : Le (relax r a) r := by
  unfold relax
  split
  · split
    · split
      · refine set_le fun d q => ?_
        rename_i e e2 hlt
        rw [e2] at q; cases q; omega
      · exact .refl _
    · rename_i h
      exact set_le fun d q => absurd q (h d)
  · exact .refl _
theorem relax_arc {r : Row} {a : Arc} {d : Int} (h : r[a.1]? = some (some d)) (hv : a.2.1 < r.length) : ∃ e, (relax r a)[a.2.1]? = some (some e) ∧ e ≤ d + a.2.2 := by
  unfold relax
  rw [h]
  simp only
  split
  · rename_i e q
    split
    · exact ⟨_, List.getElem?_set_self hv, Int.le_refl _⟩
    · exact ⟨e, q, by omega⟩
  · exact ⟨_, List.getElem?_set_self hv, Int.le_refl _⟩
theorem round_le {A : List Arc} : ∀ {r : Row}, Le (round A r) r := by
  unfold round
  induction A with
  | nil => intro r; exact .refl r
  | cons a A ih => intro r; exact (ih (r := relax r a)).trans relax_le
theorem round_arc {A : List Arc} {a : Arc} (m : a ∈ A) : ∀ {r : Row} {d : Int}, r[a.1]? = some (some d) → a.2.1 < r.length → ∃ e, (round A r)[a.2.1]? = some (some e) ∧ e ≤ d + a.2.2 := by
  unfold round
  induction A with
  | nil => cases m
  | cons b A ih =>
    intro r d h hv
    rcases List.mem_cons.mp m with rfl | m
    · obtain ⟨e, q, l⟩ := relax_arc h hv
      obtain ⟨e', q', l'⟩ := (round_le (A := A) (r := relax r a)) _ _ q
      exact ⟨e', q', by omega⟩
    · obtain ⟨d', q, l⟩ := relax_le (r := r) (a := b) _ _ h
      obtain ⟨e, q', l'⟩ := ih m (r := relax r b) q (by rw [relax_len]; exact hv)
      exact ⟨e, q', by omega⟩
/-- each number of the row is the sum of a walk that starts where P says -/
def Snd (A : List Arc) (P : Nat → Int → Prop) (r : Row) : Prop := ∀ (v : Nat) (d : Int), r[v]? = some (some d) → ∃ u p k e, P u p ∧ Wlk A u v k e ∧ d = p + e
theorem relax_snd {A : List Arc} {P : Nat → Int → Prop} {r : Row} {a : Arc} (m : a ∈ A) (h : Snd A P r) : Snd A P (relax r a) := by
  have key : ∀ d, r[a.1]? = some (some d) → Snd A P (r.set a.2.1 (some (d + a.2.2))) := fun d q v x e => by
    by_cases z : a.2.1 = v
    · subst z
      have hl := (List.getElem?_eq_some_iff.mp e).1
      rw [List.length_set] at hl
      rw [List.getElem?_set_self hl] at e
      cases e
      obtain ⟨u, p, k, e, hp, w, rfl⟩ := h _ _ q
      exact ⟨u, p, k + 1, e + a.2.2, hp, .snoc w m, by omega⟩
    · rw [List.getElem?_set_ne z] at e
      exact h _ _ e
  unfold relax
  split
  · rename_i d q
    split
    · split
      · exact key d q
      · exact h
    · exact key d q
  · exact h
theorem round_snd {A B : List Arc} {P : Nat → Int → Prop} (hs : ∀ a ∈ B, a ∈ A) : ∀ {r : Row}, Snd A P r → Snd A P (round B r) := by
  unfold round
  induction B with
  | nil => intro r h; exact h
  | cons a B ih =>
    intro r h
    exact ih (fun b m => hs b (List.mem_cons_of_mem _ m)) (relax_snd (hs a List.mem_cons_self) h)
theorem rounds_snd {A : List Arc} {P : Nat → Int → Prop} {r : Row} (h : Snd A P r) : ∀ k, Snd A P (rounds A k r)
  | 0 => h
  | k + 1 => by rw [rounds_succ]; exact round_snd (fun _ z => z) (rounds_snd h k)
/-- behind k rounds the walks over k arcs are in -/
theorem rounds_walk {A : List Arc} {n : Nat} (hA : InR A n) {r : Row} (hl : r.length = n) {u v k : Nat} {p d : Int} (hu : r[u]? = some (some p)) (h : Wlk A u v k d) : ∃ e, (rounds A k r)[v]? = some (some e) ∧ e ≤ p + d := by
  induction h with
  | nil => exact ⟨p, hu, by omega⟩
  | snoc a m ih =>
    obtain ⟨e, q, l⟩ := ih
    rw [rounds_succ]
    obtain ⟨e', q', l'⟩ := round_arc m q (by rw [rounds_len, hl]; exact (hA _ m).2)
    exact ⟨e', q', by simp only at l'; omega⟩
theorem rounds_more {A : List Arc} {r : Row} : ∀ {k m : Nat}, k ≤ m → Le (rounds A m r) (rounds A k r) := by
  intro k m h
  induction m with
  | zero => have : k = 0 := by omega
            subst this; exact .refl _
  | succ m ih =>
    by_cases e : k = m + 1
    · subst e; exact .refl _
    · rw [rounds_succ]
      exact round_le.trans (ih (by omega))
/-- n rounds find the least sums -/
theorem rounds_dist {A : List Arc} {D : Nat → Nat → Option Int} (hd : Dist A D) {n : Nat} (hA : InR A n) {s v : Nat} (hs : s < n) (hv : v < n) : (rounds A n (row0 n s))[v]? = some (D s v) := by
  have hlen : (row0 n s).length = n := by simp [row0]
  have h0 : (row0 n s)[s]? = some (some 0) := by unfold row0; exact List.getElem?_set_self (by simpa using hs)
  have hsnd : Snd A (fun u p => u = s ∧ p = 0) (row0 n s) := fun x d e => by
    by_cases z : s = x
    · subst z
      rw [h0] at e; cases e
      exact ⟨s, 0, 0, 0, ⟨rfl, rfl⟩, .nil _, rfl⟩
    · unfold row0 at e
      rw [List.getElem?_set_ne z] at e
      have := List.mem_of_getElem? e
      rw [List.mem_replicate] at this
      cases this.2
  have hvl : v < (rounds A n (row0 n s)).length := by rw [rounds_len, hlen]; exact hv
  have hget := List.getElem?_eq_getElem hvl
  generalize (rounds A n (row0 n s))[v] = x at hget
  rw [hget]
  congr 1
  cases x with
  | some d =>
    obtain ⟨u, p, k, e, ⟨rfl, rfl⟩, w, rfl⟩ := rounds_snd hsnd n v d hget
    obtain ⟨d', q, l⟩ := hd.least _ _ _ _ w
    obtain ⟨k', w'⟩ := hd.sound _ _ _ q
    obtain ⟨k2, d2, w2, l2, hk2⟩ := short hd.noRing hA w' hs
    obtain ⟨y, hy, ly⟩ := rounds_walk hA hlen h0 w2
    obtain ⟨y2, hy2, ly2⟩ := rounds_more (r := row0 n u) (A := A) (Nat.le_of_lt hk2) _ _ hy
    rw [hget] at hy2; cases hy2
    rw [q]; congr 1; omega
  | none =>
    cases e : D s v with
    | none => rfl
    | some d =>
      obtain ⟨k', w'⟩ := hd.sound _ _ _ e
      obtain ⟨k2, d2, w2, l2, hk2⟩ := short hd.noRing hA w' hs
      obtain ⟨y, hy, ly⟩ := rounds_walk hA hlen h0 w2
      obtain ⟨y2, hy2, ly2⟩ := rounds_more (r := row0 n s) (A := A) (Nat.le_of_lt hk2) _ _ hy
      rw [hget] at hy2; cases hy2
/-! ### whether there is a ring below 0 -/
/-- a round tells whether it lowered -/
def lowA (r : Row) (a : Arc) : Bool := match r[a.1]?, r[a.2.1]? with
  | some (some d), some (some e) => decide (d + a.2.2 < e)
  | _, _ => false
def low : List Arc → Row → Bool
  | [], _ => false
  | a :: A, r => lowA r a || low A (relax r a)
def AllS (r : Row) : Prop := ∀ x ∈ r, ∃ d : Int, x = some d
theorem AllS.at_ {r : Row} (h : AllS r) {v : Nat} (hv : v < r.length) : ∃ d, r[v]? = some (some d) := by
  obtain ⟨d, e⟩ := h r[v] (List.getElem_mem hv)
  exact ⟨d, by rw [List.getElem?_eq_getElem hv, e]⟩
theorem relax_all {r : Row} {a : Arc} (h : AllS r) : AllS (relax r a) := by
  unfold relax
  have key : ∀ (v : Nat) (d : Int), AllS (r.set v (some d)) := fun v d x hx => by
    rcases List.mem_or_eq_of_mem_set hx with z | z
    · exact h x z
    · exact ⟨d, z⟩
  split
  · split
    · split
      · exact key _ _
      · exact h
    · exact key _ _
  · exact h
theorem round_all {A : List Arc} : ∀ {r : Row}, AllS r → AllS (round A r) := by
  unfold round
  induction A with
  | nil => intro r h; exact h
  | cons a A ih => intro r h; exact ih (relax_all h)
theorem rounds_all {A : List Arc} {r : Row} (h : AllS r) : ∀ k, AllS (rounds A k r)
  | 0 => h
  | k + 1 => by rw [rounds_succ]; exact round_all (rounds_all h k)
/-- nothing lowered: no arc asks for less -/
theorem low_false {A : List Arc} {n : Nat} (hA : InR A n) : ∀ {r : Row}, r.length = n → AllS r → low A r = false → ∀ a ∈ A, ∀ d e : Int, r[a.1]? = some (some d) → r[a.2.1]? = some (some e) → e ≤ d + a.2.2 := by
  induction A with
  | nil => intro r _ _ _ a m; cases m
  | cons b A ih =>
    intro r hl hs h a m d e h1 h2
    simp only [low, Bool.or_eq_false_iff] at h
    have hb := hA b List.mem_cons_self
    obtain ⟨x, hx⟩ := hs.at_ (v := b.1) (by rw [hl]; exact hb.1)
    obtain ⟨y, hy⟩ := hs.at_ (v := b.2.1) (by rw [hl]; exact hb.2)
    have hxy : ¬ x + b.2.2 < y := by
      have := h.1
      simp only [lowA, hx, hy, decide_eq_false_iff_not] at this
      exact this
    have er : relax r b = r := by unfold relax; simp only [hx, hy, hxy, if_false]
    rcases List.mem_cons.mp m with rfl | m
    · rw [hx] at h1; rw [hy] at h2; cases h1; cases h2; omega
    · rw [er] at h
      exact ih (fun c mc => hA c (List.mem_cons_of_mem _ mc)) hl hs h.2 a m d e h1 h2
theorem noRing_of {A : List Arc} {n : Nat} (hA : InR A n) {r : Row} (hl : r.length = n) (hs : AllS r) (h : low A r = false) : NoRing A := fun u k d w => by
  have key : ∀ {v k d}, Wlk A u v k d → u < n → ∀ p : Int, r[u]? = some (some p) → ∃ q : Int, r[v]? = some (some q) ∧ q ≤ p + d := fun w hu p hp => by
    induction w with
    | nil => exact ⟨p, hp, by omega⟩
    | snoc a m ih =>
      obtain ⟨q, e, l⟩ := ih
      obtain ⟨y, hy⟩ := hs.at_ (v := _) (by rw [hl]; exact (hA _ m).2)
      have := low_false hA hl hs h _ m _ _ e hy
      exact ⟨y, hy, by simp only at this; omega⟩
  cases k with
  | zero => cases w; omega
  | succ k =>
    have hu : u < n := by
      cases w with
      | snoc a m => exact (hA _ m).2
    obtain ⟨p, hp⟩ := hs.at_ (v := u) (by rw [hl]; exact hu)
    obtain ⟨q, hq, l⟩ := key w hu p hp
    rw [hp] at hq; cases hq; omega
theorem low_true {A : List Arc} : ∀ {r : Row}, low A r = true → ∃ B a C, A = B ++ a :: C ∧ ∃ d e : Int, (round B r)[a.1]? = some (some d) ∧ (round B r)[a.2.1]? = some (some e) ∧ d + a.2.2 < e := by
  induction A with
  | nil => intro r h; cases h
  | cons b A ih =>
    intro r h
    simp only [low, Bool.or_eq_true] at h
    rcases h with h | h
    · refine ⟨[], b, A, rfl, ?_⟩
      unfold lowA at h
      split at h
      · rename_i d e h1 h2
        exact ⟨d, e, h1, h2, of_decide_eq_true h⟩
      · cases h
    · obtain ⟨B, a, C, rfl, d, e, h1, h2, h3⟩ := ih h
      exact ⟨b :: B, a, C, rfl, d, e, h1, h2, h3⟩
def zeros (n : Nat) : Row := List.replicate n (some 0)
theorem zeros_all (n : Nat) : AllS (zeros n) := fun x hx => ⟨0, (List.mem_replicate.mp hx).2⟩
theorem zeros_at {n v : Nat} (h : v < n) : (zeros n)[v]? = some (some 0) := by unfold zeros; rw [List.getElem?_replicate, if_pos h]
theorem still {A : List Arc} (hr : NoRing A) {n : Nat} (hA : InR A n) : low A (rounds A n (zeros n)) = false := by
  cases h : low A (rounds A n (zeros n)) with
  | false => rfl
  | true =>
    exfalso
    obtain ⟨B, ⟨a1, a2, aw⟩, C, hAB, d, e, h1, h2, h3⟩ := low_true h
    have hlen : (zeros n).length = n := by simp [zeros]
    have ma : (a1, a2, aw) ∈ A := by rw [hAB]; simp
    have hB : ∀ b ∈ B, b ∈ A := fun b hb => by rw [hAB]; exact List.mem_append_left _ hb
    have hsnd : Snd A (fun u p => u < n ∧ p = 0) (zeros n) := fun v d e => by
      have hv := (List.getElem?_eq_some_iff.mp e).1
      rw [hlen] at hv
      rw [zeros_at hv] at e; cases e
      exact ⟨v, 0, 0, 0, ⟨hv, rfl⟩, .nil _, rfl⟩
    obtain ⟨u, p, k, x, ⟨hu, rfl⟩, w, rfl⟩ := round_snd (B := B) hB (rounds_snd hsnd n) _ _ h1
    obtain ⟨k2, d2, w2, l2, hk2⟩ := short hr hA (Wlk.snoc w ma) hu
    obtain ⟨y, hy, ly⟩ := rounds_walk hA hlen (zeros_at hu) w2
    obtain ⟨y2, hy2, ly2⟩ := rounds_more (r := zeros n) (A := A) (Nat.le_of_lt hk2) _ _ hy
    obtain ⟨y3, hy3, ly3⟩ := round_le (A := B) (r := rounds A n (zeros n)) _ _ hy2
    rw [h2] at hy3; cases hy3
    simp only at h3
    omega

theorem ixN_nat {n i : Nat} (h : i < n) : ixN n (i : Int) = some i := by simp [ixN, h]
/-- rows of the law's draws: ints that are not below 0 -/
def Rows (st : S) (a n : Nat) : Prop := ∃ rs : List Int, st[a]? = some (.lst (rs.map D.int)) ∧ rs.length = n ∧ ∀ r ∈ rs, 0 ≤ r
theorem take_ok {st : S} {a : Nat} {i n : Nat} {many : Int} {Q : D → S → Prop} (h : Rows st a n) (hi : i < n) (h0 : 0 < many) (h1 : many.natAbs.log2 < 9000)
    (q : ∀ g st', 0 ≤ g → g < many → st'.length = st.length → (∀ b, b ≠ a → st'[b]? = st[b]?) → Rows st' a n → Q (.int g) st') : Ok (dn_llaw_take [.ref a, .int (i : Nat), .int many] st) Q := by
  obtain ⟨rs, e1, e2, e3⟩ := h
  have hr : (rs.map D.int)[i]? = some (.int (rs[i]'(by omega))) := by rw [List.getElem?_map, List.getElem?_eq_getElem (by omega)]; rfl
  have hn : 0 ≤ rs[i]'(by omega) := e3 _ (List.getElem_mem _)
  unfold dn_llaw_take b_llaw_take
  rw [ok_def]
  refine ⟨rfl, ?_⟩
  rw [ok_seq]
  walk_at "ev"
  refine ⟨_, _, seqD_lst e1, atI_lt hr, ?_⟩
  walk_at "ev"
  refine ⟨h0, ?_⟩
  rw [sq_nx, ok_seq]
  walk_at "ev"
  refine ⟨_, _, seqD_lst e1, atI_lt hr, ?_⟩
  walk_at "ev"
  refine ⟨⟨h0, h1⟩, a, _, _, i, rfl, rfl, e1, ixN_nat (by rw [List.length_map]; omega), ?_⟩
  rw [sq_nx]
  walk_at "ev"
  refine q _ _ (Int.emod_nonneg _ (by omega)) (Int.emod_lt_of_pos _ h0) (by rw [List.length_set]) (fun b hb => by rw [List.getElem?_set_ne (Ne.symm hb)]) ⟨rs.set i (rs[i]'(by omega) / many), ?_, by rw [List.length_set]; exact e2, fun r hr => ?_⟩
  · have hl : a < st.length := (List.getElem?_eq_some_iff.mp e1).1
    rw [List.getElem?_set_self hl, List.map_set]
  · rcases List.mem_or_eq_of_mem_set hr with z | z
    · exact e3 _ z
    · rw [z]; exact Int.ediv_nonneg hn (by omega)
theorem rgD_get {lo hi : Int} {i : Nat} {d : D} (h : (rgD lo hi)[i]? = some d) : i < (hi - lo).toNat ∧ d = .int (lo + (i : Int)) := by
  unfold rgD at h
  rw [List.getElem?_map] at h
  cases e : (List.range (hi - lo).toNat)[i]? with
  | none => rw [e] at h; cases h
  | some x =>
    rw [e] at h
    obtain ⟨h1, h2⟩ := List.getElem?_eq_some_iff.mp e
    rw [List.length_range] at h1
    rw [List.getElem_range] at h2
    subst h2
    exact ⟨h1, (Option.some.inj h).symm⟩
theorem rgD_len {lo hi : Int} : (rgD lo hi).length = (hi - lo).toNat := by unfold rgD; rw [List.length_map, List.length_range]
theorem ok_mid {s z : SM} {en : En} {st : S} {V P : Fl × En → S → Prop} (h : Ok (s en st) P) (q : ∀ p st1, P p st1 → Sq z V p st1) : Ok (sSeq s z en st) V := ok_seq.mpr (h.mono q)
theorem wk_nil {l : List D} {st : S} : WkOk ⟨l, []⟩ st := fun p hp => nomatch hp
theorem draws_ok {st : S} {a m : Nat} {ns : List Int} {Q : D → S → Prop} (h : st[a]? = some (.frz (ns.map D.int))) (hm : m ≤ 100) (q : ∀ st', st'.length = st.length + 1 → (∀ b, b < st.length → st'[b]? = st[b]?) → Rows st' st.length m → Q (.ref st.length) st') :
    Ok (dn_llaw_draws [.ref a, .int (m : Nat)] st) Q := by
  have ha : a < st.length := (List.getElem?_eq_some_iff.mp h).1
  unfold dn_llaw_draws b_llaw_draws
  rw [ok_def]
  refine ⟨rfl, ?_⟩
  rw [ok_seq]
  walk_at "ev"
  refine ⟨Nat.zero_le _, ?_⟩
  rw [sq_nx, ok_seq]
  walk_at "ev"
  refine ⟨_, rfl, ⟨by omega, by omega⟩, ?_⟩
  refine ok_loop0 (fun k en st' => ∃ p c, en = [some (.ref a), some (.int (m : Nat)), some (.ref st.length), p, c] ∧ st'.length = st.length + 1 ∧ (∀ b, b < st.length → st'[b]? = st[b]?) ∧
    ∃ rs : List Int, st'[st.length]? = some (.lst (rs.map D.int)) ∧ rs.length = k ∧ ∀ r ∈ rs, 0 ≤ r) ⟨_, _, rfl, by simp, fun b hb => List.getElem?_append_left hb, [], by simp, rfl, by simp⟩ (fun _ _ _ _ => wk_nil) ?_ ?_
  · rintro k d en st1 hd ⟨p, c, rfl, l1, o1, rs, e1, e2, e3⟩
    obtain ⟨hk, rfl⟩ := rgD_get hd
    have hk : k < m := by omega
    have h1 : st1[a]? = some (.frz (ns.map D.int)) := by rw [o1 a ha]; exact h
    refine ⟨_, rfl, ?_⟩
    rw [ok_seq]
    walk_at "ev"
    rw [sq_nx]
    refine ok_mid (P := fun p st2 => ∃ c : Int, p = (.nx, [some (.ref a), some (.int (m : Nat)), some (.ref st.length), some (.int (0 + (k : Int))), some (.int c)]) ∧ st1 = st2) ?_ ?_
    · walk_at "ev"
      refine ⟨_, seqD_frz h1, ?_⟩
      split
      · rename_i hc
        simp only [decide_eq_true_eq, List.length_map] at hc
        try walk_at "ev"
        refine ⟨_, .int (ns[k]'(by omega)), seqD_frz h1, ?_, ?_⟩
        · rw [Int.zero_add]
          exact atI_lt (by rw [List.getElem?_map, List.getElem?_eq_getElem (by omega)]; rfl)
        · walk_at "ev"
          exact ⟨_, rfl⟩
      · try walk_at "ev"
        exact ⟨_, rfl⟩
    rintro _ _ ⟨c, rfl, rfl⟩
    rw [sq_nx]
    refine ok_mid (P := fun p st2 => ∃ c : Int, 0 ≤ c ∧ p = (.nx, [some (.ref a), some (.int (m : Nat)), some (.ref st.length), some (.int (0 + (k : Int))), some (.int c)]) ∧ st1 = st2) ?_ ?_
    · walk_at "ev"
      split
      · rename_i hc
        simp only [decide_eq_true_eq] at hc
        try walk_at "ev"
        refine ⟨.inl (by omega), _, ?_, rfl⟩
        omega
      · rename_i hc
        simp only [decide_eq_true_eq] at hc
        try walk_at "ev"
        refine ⟨_, ?_, rfl⟩
        omega
    rintro _ _ ⟨c, c0, rfl, rfl⟩
    rw [sq_nx]
    refine ok_mid (P := fun p st2 => ∃ c : Int, 0 ≤ c ∧ p = (.nx, [some (.ref a), some (.int (m : Nat)), some (.ref st.length), some (.int (0 + (k : Int))), some (.int c)]) ∧ st1 = st2) ?_ ?_
    · walk_at "ev"
      split
      · rename_i hc
        simp only [decide_eq_true_eq] at hc
        rw [ok_seq]
        walk_at "ev"
        refine ⟨.inl (by omega), .inr (.inl (by omega)), .inl (by omega), .inr (.inl (by omega)), by omega, ?_⟩
        rw [sq_nx]
        walk_at "ev"
        refine ⟨.inr (.inl (by omega)), by omega, _, Int.emod_nonneg _ (by omega), rfl⟩
      · try walk_at "ev"
        exact ⟨_, c0, rfl⟩
    rintro _ _ ⟨c, c0, rfl, rfl⟩
    rw [sq_nx]
    walk_at "ev"
    refine ⟨isT_lst e1, ?_⟩
    rw [v_append]
    refine ⟨_, e1, by rw [List.length_map, e2]; exact Nat.lt_of_lt_of_le hk (Nat.le_trans hm (by decide)), ?_⟩
    refine ⟨_, _, rfl, by rw [List.length_set]; exact l1, fun b hb => by rw [List.getElem?_set_ne (by omega)]; exact o1 b hb, rs ++ [c], ?_, by rw [List.length_append, e2]; rfl, fun r hr => ?_⟩
    · rw [List.getElem?_set_self (by omega), List.map_append]; rfl
    · rcases List.mem_append.mp hr with z | z
      · exact e3 r z
      · rw [List.mem_singleton.mp z]; exact c0
  · rintro en st1 ⟨p, c, rfl, l1, o1, rs, e1, e2, e3⟩
    rw [sq_nx]
    walk_at "ev"
    refine q st1 l1 o1 ⟨rs, e1, ?_, e3⟩
    rw [e2, rgD_len]; omega
/-- what a call that only draws leaves of the store -/
structure Dr (st st' : S) (a n : Nat) : Prop where
  len : st'.length = st.length
  oth : ∀ b, b ≠ a → st'[b]? = st[b]?
  rows : Rows st' a n
theorem Dr.trans {st s1 s2 : S} {a n : Nat} (h : Dr st s1 a n) (h' : Dr s1 s2 a n) : Dr st s2 a n := ⟨h'.len.trans h.len, fun b hb => (h'.oth b hb).trans (h.oth b hb), h'.rows⟩
theorem tk {st : S} {a : Nat} {i n : Nat} {j many : Int} {Q : D → S → Prop} (h : Rows st a n) (hj : j = (i : Int)) (hi : i < n) (h0 : 0 < many) (h1 : many.natAbs.log2 < 9000)
    (q : ∀ g st', 0 ≤ g → g < many → Dr st st' a n → Q (.int g) st') : Ok (dn_llaw_take [.ref a, .int j, .int many] st) Q := by
  subst hj
  exact take_ok h hi h0 h1 fun g st' g0 g1 l o r => q g st' g0 g1 ⟨l, o, r⟩
theorem log_lt {i : Int} {k : Nat} (h : i.natAbs < 2 ^ k) (h0 : 0 < k) (h9 : k ≤ 9000) : i.natAbs.log2 < 9000 := Nat.lt_of_lt_of_le (PySem.Flt.log2_lt_of h0 h) h9
theorem Dr.fr {st st' : S} {a n : Nat} (h : Dr st st' a n) : Fr (fun b => b = a) st st' := ⟨Nat.le_of_eq h.len.symm, fun b _ hn => h.oth b hn⟩
theorem Rows.fr {st st' : S} {F : Nat → Prop} {a n : Nat} (h : Rows st a n) (f : Fr F st st') (ha : ¬ F a) : Rows st' a n := by
  obtain ⟨rs, e, l, p⟩ := h
  exact ⟨rs, f.at_ e ha, l, p⟩
theorem Dr.at1 {st st' : S} {a k n : Nat} {o : O} (h : Dr st st' a k) (e : st[n]? = some o) (hn : n ≠ a) : st'[n]? = some o := (h.oth n hn).trans e
theorem Rows.lt {st : S} {a n : Nat} (h : Rows st a n) : a < st.length := by
  obtain ⟨rs, e, _⟩ := h
  exact lt_at e

def arcD (a : Arc) : D := .tup [.int (a.1 : Nat), .int (a.2.1 : Nat), .int a.2.2]

/-! ### frames with clocks, and the bounds of events: what they are -/
def pp (a b c : Int) : D := .tup [.int a, .int b, .int c]
def bd (p q : D) (i k : Int) : D := .tup [p, q, .int i, .int k]
structure Clk where
  nm : D
  own : Int
  on : Bool
  ks : List (D × Int × Int)
def kdD (k : D × Int × Int) : D := .tup [k.1, .int k.2.1, .int k.2.2]
def clkD (c : Clk) : D := .tup [c.nm, .int c.own, .bl c.on, .tup (c.ks.map kdD)]
structure Hand where
  sn : Option (Int × Int × Int)
  vl : Int
  kd : Nat
def sinD : Option (Int × Int × Int) → D
  | none => .non
  | some p => pp p.1 p.2.1 p.2.2
def handD (h : Hand) : D := .tup [sinD h.sn, .int h.vl, .int (h.kd : Nat)]
def hand0 : Hand := ⟨none, 0, 0⟩
inductive Dd where
  | oth (s : Str) (l : List D)
  | kind (c k : Nat)
  | anew (ks : List Nat)
  | mark (s k : Nat) (v : Int)
  | hear (l n : Nat)
def ddD : Dd → D
  | .oth s l => .tup (.str s :: l)
  | .kind c k => .tup [.str "kind", .int (c : Nat), .int (k : Nat)]
  | .anew ks => .tup [.str "anew", .tup (ks.map fun k => .int (k : Nat))]
  | .mark s k v => .tup [.str "mark", .int (s : Nat), .int (k : Nat), .int v]
  | .hear l n => .tup [.str "hear", .int (l : Nat), .int (n : Nat)]
def Dd.ok : Dd → Prop
  | .oth s _ => (s = "kind") = False ∧ (s = "anew") = False ∧ (s = "mark") = False ∧ (s = "hear") = False
  | _ => True
def Dd.isAnew : Dd → Bool
  | .anew _ => true
  | _ => false
structure Ev where
  as : Bool
  sh : List Int
  af : List Int
  dd : Dd
  kn : D
def evD (e : Ev) : D := .tup [.bl e.as, .tup (e.sh.map .int), .tup (e.af.map .int), ddD e.dd, e.kn]
/-- told_kind -/
def toldK : Dd → Nat → Nat → Option Nat
  | .kind c k, c', _ => if c = c' then some k else none
  | .anew ks, _, p => ks[p]?
  | _, _, _ => none
def handAf (dd : Dd) (c p : Nat) (pt : Int × Int × Int) (h : Hand) (a : Int) : Hand := match toldK dd c p with
  | some k => ⟨some pt, a, k⟩
  | none => if a = h.vl then h else ⟨some pt, a, h.kd⟩
/-- clock_bounds -/
def cbR (lo hi : Int) (c : Nat) (h : Hand) (stop : Bool) (tick : Int × Int × Int) (ev bf : D) (s : Int) : List D × (Int × Int × Int) := match h.sn with
  | none => ([bd (sinD (some tick)) ev hi c, bd ev (sinD (some tick)) 0 c], tick)
  | some p => if stop = true then ([bd (sinD (some tick)) ev hi c, bd ev (sinD (some tick)) 0 c], tick) else
    if s = h.vl then ([bd (sinD (some p)) ev hi c, bd ev (sinD (some p)) 0 c], p) else
    ([bd (sinD (some p)) (sinD (some tick)) (hi * (s - h.vl)) c, bd (sinD (some tick)) (sinD (some p)) (-(lo * (s - h.vl))) c, bd (sinD (some tick)) (sinD (some p)) 0 c, bd (sinD (some tick)) bf (-lo * (s - h.vl - 1)) c, bd (sinD (some tick)) ev hi c, bd ev (sinD (some tick)) 0 c], tick)
def stepK (K : Clk) (k : D × Int × Int) (h : Hand) (s a : Int) (e : Ev) (dev num : Int) (c p : Nat) : List D × Hand :=
  ((cbR k.2.1 k.2.2 c h ((e.as && !K.on) || e.dd.isAnew) (dev, num, (c : Int)) (pp dev num (-1)) (pp dev (num - 1) (-1)) s).1,
   handAf e.dd c p (dev, num, -1) ⟨some (cbR k.2.1 k.2.2 c h ((e.as && !K.on) || e.dd.isAnew) (dev, num, (c : Int)) (pp dev num (-1)) (pp dev (num - 1) (-1)) s).2, s, h.kd⟩ a)
def stepR (cks : List Clk) (hs : List Hand) (e : Ev) (dev num : Int) (x : Nat × Nat) : List D × Hand := match cks[x.1]?, hs[x.2]?, e.sh[x.2]?, e.af[x.2]? with
  | some K, some h, some s, some a => match K.ks[h.kd]? with
    | some k => stepK K k h s a e dev num x.1 x.2
    | none => ([], hand0)
  | _, _, _, _ => ([], hand0)
def ownL (cks : List Clk) (dev : Int) : List Nat := (cks.zipIdx.filter fun x => decide (x.1.own = dev)).map (·.2)
/-- what stands in an event for the clocks of a device -/
structure Fits (cks : List Clk) (own : List Nat) (hs : List Hand) (e : Ev) : Prop where
  lh : hs.length = own.length
  ls : e.sh.length = own.length
  la : e.af.length = own.length
  dd : e.dd.ok
  an : ∀ ks, e.dd = .anew ks → ks.length = own.length
  kd : ∀ (p c : Nat) (h : Hand), own[p]? = some c → hs[p]? = some h → ∃ K k, cks[c]? = some K ∧ K.ks[h.kd]? = some k ∧ (0 ≤ k.2.1 ∧ k.2.1 < 2 ^ 62) ∧ (0 ≤ k.2.2 ∧ k.2.2 < 2 ^ 62)
theorem Fits.at_ {cks : List Clk} {own : List Nat} {hs : List Hand} {e : Ev} (f : Fits cks own hs e) {p c : Nat} (hp : own[p]? = some c) : ∃ K k h s a, cks[c]? = some K ∧ K.ks[h.kd]? = some k ∧ hs[p]? = some h ∧ e.sh[p]? = some s ∧ e.af[p]? = some a ∧ ((0 ≤ k.2.1 ∧ k.2.1 < 2 ^ 62) ∧ (0 ≤ k.2.2 ∧ k.2.2 < 2 ^ 62)) ∧ ∀ dev num, stepR cks hs e dev num (c, p) = stepK K k h s a e dev num c p := by
  have hl := (List.getElem?_eq_some_iff.mp hp).1
  have h1 := List.getElem?_eq_getElem (l := hs) (i := p) (by rw [f.lh]; exact hl)
  have h2 := List.getElem?_eq_getElem (l := e.sh) (i := p) (by rw [f.ls]; exact hl)
  have h3 := List.getElem?_eq_getElem (l := e.af) (i := p) (by rw [f.la]; exact hl)
  obtain ⟨K, k, h4, h5, b1, b2⟩ := f.kd p c _ hp h1
  refine ⟨K, k, _, _, _, h4, h5, h1, h2, h3, ⟨b1, b2⟩, fun dev num => ?_⟩
  unfold stepR
  simp only [h4, h1, h2, h3, h5]
/-! ### the walks -/
theorem within_iff {st : S} {p q : D} {i j k : Int} {Q : D → S → Prop} : Ok (dn_within [p, q, .int i, .int j, .int k] st) Q ↔ Q (.ref st.length) (st ++ [.lst [bd p q j k, bd q p (-i) k]]) := by
  unfold dn_within b_within
  rw [ok_def]
  wide_open using [show (4 : Nat) ≤ sizeLine from by decide, show (2 : Nat) ≤ sizeLine from by decide]
  rfl
theorem told_iff {st : S} {dd : Dd} {c p : Nat} {Q : D → S → Prop} (hd : dd.ok) (ha : ∀ ks, dd = .anew ks → p < ks.length) : Ok (dn_told_kind [ddD dd, .int (c : Nat), .int (p : Nat)] st) Q ↔ Q (match toldK dd c p with
    | some k => .int (k : Nat)
    | none => .non) st := by
  unfold dn_told_kind b_told_kind
  rw [ok_def]
  cases dd with
  | oth s l =>
    obtain ⟨h1, h2, h3, h4⟩ := hd
    wide_open using [ddD, h1, h2, toldK]
  | kind c' k =>
    by_cases e : c' = c
    · subst e
      wide_open using [ddD, toldK]
    · have e2 : ((c' : Int) = (c : Int)) = False := eq_false fun z => e (by omega)
      wide_open using [ddD, toldK, e, e2, show (("kind" : Str) = "anew") = False from by decide]
  | anew ks =>
    have hp := List.getElem?_eq_getElem (ha ks rfl)
    generalize ks[p]'(ha ks rfl) = k at hp
    have g : atI (ks.map fun k => D.int (k : Nat)) (p : Int) = some (.int (k : Nat)) := atI_map (g := fun k => D.int ((k : Nat) : Int)) hp
    wide_open using [ddD, toldK, g, hp, show (("anew" : Str) = "kind") = False from by decide]
  | mark s k v => wide_open using [ddD, toldK, show (("mark" : Str) = "kind") = False from by decide, show (("mark" : Str) = "anew") = False from by decide]
  | hear l n => wide_open using [ddD, toldK, show (("hear" : Str) = "kind") = False from by decide, show (("hear" : Str) = "anew") = False from by decide]
theorem after_iff {st : S} {dd : Dd} {c p : Nat} {pt : Int × Int × Int} {h : Hand} {e : D} {a : Int} {Q : D → S → Prop} (hd : dd.ok) (ha : ∀ ks, dd = .anew ks → p < ks.length) : Ok (dn_hand_after [ddD dd, .int (c : Nat), .int (p : Nat), sinD (some pt), handD h, e, .int a] st) Q ↔ Q (handD (handAf dd c p pt h a)) st := by
  unfold dn_hand_after b_hand_after
  rw [ok_def]
  have z3 : (3 : Nat) ≤ sizeLine := by decide
  cases hk : toldK dd c p with
  | some k => wide_open using [fun Q => told_iff (Q := Q) (st := st) (c := c) (p := p) hd ha, hk, handAf, handD, z3]
  | none =>
    by_cases e : a = h.vl
    · wide_open using [fun Q => told_iff (Q := Q) (st := st) (c := c) (p := p) hd ha, hk, handAf, handD, e, z3]
    · wide_open using [fun Q => told_iff (Q := Q) (st := st) (c := c) (p := p) hd ha, hk, handAf, handD, e, z3]
section
variable {i j k l m : Nat} {a b c d e : D} {en : En}
theorem bt2 : bTup 2 (bCons (bName i) (bCons (bName j) bNil)) (.tup [a, b]) en = some ((en.set i (some a)).set j (some b)) := rfl
theorem bt3 : bTup 3 (bCons (bName i) (bCons (bName j) (bCons (bName k) bNil))) (.tup [a, b, c]) en = some (((en.set i (some a)).set j (some b)).set k (some c)) := rfl
theorem bt5 : bTup 5 (bCons (bName i) (bCons (bName j) (bCons (bName k) (bCons (bName l) (bCons (bName m) bNil))))) (.tup [a, b, c, d, e]) en = some (((((en.set i (some a)).set j (some b)).set k (some c)).set l (some d)).set m (some e)) := rfl
end
theorem sin_n : sinD none = .non := rfl
theorem nonS {p : Int × Int × Int} : isNonD (sinD (some p)) = false := rfl
theorem cb_ok {st : S} {lo hi : Int} {c : Nat} {h : Hand} {stop : Bool} {tick : Int × Int × Int} {ev bf : D} {s : Int} {Q : D → S → Prop} (hlo : 0 ≤ lo ∧ lo < 2 ^ 62) (hhi : 0 ≤ hi ∧ hi < 2 ^ 62)
    (q0 : ∀ st' m R X, Fr FN st st' → st.length ≤ m → st'[m]? = some (.lst R) → cbR lo hi c h stop tick ev bf s = (R, X) → Q (.tup [.ref m, sinD (some X)]) st') :
    Ok (dn_clock_bounds [.tup [.int lo, .int hi, .int (c : Nat)], handD h, .bl stop, sinD (some tick), ev, bf, .int s] st) Q := by
  have q : ∀ st' m, Fr FN st st' → st.length ≤ m → st'[m]? = some (.lst (cbR lo hi c h stop tick ev bf s).1) → Q (.tup [.ref m, sinD (some (cbR lo hi c h stop tick ev bf s).2)]) st' := fun st' m f l e => q0 st' m _ _ f l e rfl
  clear q0
  obtain ⟨sn, vl, kd⟩ := h
  unfold dn_clock_bounds b_clock_bounds
  rw [ok_def]
  refine ⟨rfl, ?_⟩
  have z2 : (2 : Nat) ≤ sizeLine := by decide
  have z3 : (3 : Nat) ≤ sizeLine := by decide
  have z4 : (4 : Nat) ≤ sizeLine := by decide
  have z5 : (5 : Nat) ≤ sizeLine := by decide
  have z6 : (6 : Nat) ≤ sizeLine := by decide
  have plain : (∀ st' m, Fr FN st st' → st.length ≤ m → st'[m]? = some (.lst [bd (sinD (some tick)) ev hi c, bd ev (sinD (some tick)) 0 c]) → Q (.tup [.ref m, sinD (some tick)]) st') →
      Q (.tup [.ref ((st ++ [.lst []] ++ [.lst [bd (sinD (some tick)) ev hi c, bd ev (sinD (some tick)) 0 c]] : S).length), sinD (some tick)]) (st ++ [.lst []] ++ [.lst [bd (sinD (some tick)) ev hi c, bd ev (sinD (some tick)) 0 c]] ++ [.lst [bd (sinD (some tick)) ev hi c, bd ev (sinD (some tick)) 0 c]]) := fun q =>
    q _ _ (((Fr.push _ _).trans (.push _ _)).trans (.push _ _)) (by simp) (fr_at _ _)
  have x0 := (Fr.push (F := FN) (st ++ [.lst []]) (.lst [bd (sinD (some tick)) ev hi c, bd ev (sinD (some tick)) 0 c])).at0 (fr_at st (.lst []))
  have x1 := fr_at (st ++ [.lst []]) (.lst [bd (sinD (some tick)) ev hi c, bd ev (sinD (some tick)) 0 c])
  cases sn with
  | none =>
    have e : ∀ stop, cbR lo hi c ⟨none, vl, kd⟩ stop tick ev bf s = ([bd (sinD (some tick)) ev hi c, bd ev (sinD (some tick)) 0 c], tick) := fun _ => rfl
    rw [e] at q
    wide_open using [handD, sin_n, bt3, isNonD, fun Q st p q i j k => within_iff (st := st) (p := p) (q := q) (i := i) (j := j) (k := k) (Q := Q), Int.neg_zero, fun Q => v_addL (Q := Q) x0 x1, z2]
    exact plain q
  | some p =>
    cases stop with
    | true =>
      have e : cbR lo hi c ⟨some p, vl, kd⟩ true tick ev bf s = ([bd (sinD (some tick)) ev hi c, bd ev (sinD (some tick)) 0 c], tick) := rfl
      rw [e] at q
      wide_open using [handD, nonS, bt3, fun Q st p q i j k => within_iff (st := st) (p := p) (q := q) (i := i) (j := j) (k := k) (Q := Q), Int.neg_zero, fun Q => v_addL (Q := Q) x0 x1, z2]
      exact plain q
    | false =>
      by_cases hs : s = vl
      · have e : cbR lo hi c ⟨some p, vl, kd⟩ false tick ev bf s = ([bd (sinD (some p)) ev hi c, bd ev (sinD (some p)) 0 c], p) := by simp [cbR, hs]
        rw [e] at q
        wide_open using [handD, nonS, bt3, hs, fun Q st p q i j k => within_iff (st := st) (p := p) (q := q) (i := i) (j := j) (k := k) (Q := Q), Int.neg_zero, z2]
        exact q _ _ (.push _ _) (Nat.le_refl _) (fr_at _ _)
      · have e : cbR lo hi c ⟨some p, vl, kd⟩ false tick ev bf s = ([bd (sinD (some p)) (sinD (some tick)) (hi * (s - vl)) c, bd (sinD (some tick)) (sinD (some p)) (-(lo * (s - vl))) c, bd (sinD (some tick)) (sinD (some p)) 0 c, bd (sinD (some tick)) bf (-lo * (s - vl - 1)) c, bd (sinD (some tick)) ev hi c, bd ev (sinD (some tick)) 0 c], tick) := by simp [cbR, hs]
        rw [e] at q
        wide_open using [handD, nonS, bt3, hs, fun Q st p q i j k => within_iff (st := st) (p := p) (q := q) (i := i) (j := j) (k := k) (Q := Q), Int.neg_zero, z2]
        refine ⟨.inl (by omega), .inl (by omega), ?_⟩
        have y1 := fr_at (st ++ [.lst []]) (.lst [bd (sinD (some p)) (sinD (some tick)) (hi * (s - vl)) c, bd (sinD (some tick)) (sinD (some p)) (-(lo * (s - vl))) c])
        have f1 := (Fr.push (F := FN) st (.lst [])).trans (Fr.push (F := FN) (st ++ [.lst []]) (.lst [bd (sinD (some p)) (sinD (some tick)) (hi * (s - vl)) c, bd (sinD (some tick)) (sinD (some p)) (-(lo * (s - vl))) c]))
        have lm : st.length ≤ (st ++ [O.lst []]).length := by simp
        generalize (st ++ [O.lst []]).length = m at y1 lm ⊢
        generalize st ++ [O.lst []] ++ [O.lst [bd (sinD (some p)) (sinD (some tick)) (hi * (s - vl)) c, bd (sinD (some tick)) (sinD (some p)) (-(lo * (s - vl))) c]] = s1 at y1 f1 ⊢
        have y2 := fun l => st_at (o := O.lst l) y1
        wide_open using [y1, y2, z4, show (2 : Nat) < sizeLine from by decide, show (3 : Nat) < sizeLine from by decide]
        refine ⟨.inl (by omega), ?_⟩
        have y3 := y2 [bd (sinD (some p)) (sinD (some tick)) (hi * (s - vl)) c, bd (sinD (some tick)) (sinD (some p)) (-(lo * (s - vl))) c, .tup [sinD (some tick), sinD (some p), .int 0, .int c], .tup [sinD (some tick), bf, .int (-lo * (s - vl - 1)), .int c]]
        have f3 := f1.set (m := m) (o := .lst [bd (sinD (some p)) (sinD (some tick)) (hi * (s - vl)) c, bd (sinD (some tick)) (sinD (some p)) (-(lo * (s - vl))) c, .tup [sinD (some tick), sinD (some p), .int 0, .int c], .tup [sinD (some tick), bf, .int (-lo * (s - vl - 1)), .int c]]) (.inr lm)
        generalize s1.set m (.lst [bd (sinD (some p)) (sinD (some tick)) (hi * (s - vl)) c, bd (sinD (some tick)) (sinD (some p)) (-(lo * (s - vl))) c, .tup [sinD (some tick), sinD (some p), .int 0, .int c], .tup [sinD (some tick), bf, .int (-lo * (s - vl - 1)), .int c]]) = s2 at y3 f3 ⊢
        have y4 := (Fr.push (F := FN) s2 (.lst [bd (sinD (some tick)) ev hi c, bd ev (sinD (some tick)) 0 c])).at0 y3
        have y5 := fr_at s2 (.lst [bd (sinD (some tick)) ev hi c, bd ev (sinD (some tick)) 0 c])
        have f4 := f3.trans (Fr.push (F := FN) s2 (.lst [bd (sinD (some tick)) ev hi c, bd ev (sinD (some tick)) 0 c]))
        refine (v_addL y4 y5).mpr ⟨z6, ?_⟩
        wide_open using [z2]
        exact q _ _ (f4.trans (.push _ _)) f4.len (fr_at _ _)

/-! ### the Frame -/
abbrev frmO (a b c d : Nat) (z : D) : O := .ins "Frame" [("devices", .ref a), ("clocks", .ref b), ("links", .ref c), ("sources", .ref d), ("faults", z)]
structure Fm (st : S) (n : Nat) (dv ck lk sc : List D) (z : D) (N : Nat → Prop) : Prop where
  ex : ∃ a b c d, st[n]? = some (frmO a b c d z) ∧ st[a]? = some (.lst dv) ∧ st[b]? = some (.lst ck) ∧ st[c]? = some (.lst lk) ∧ st[d]? = some (.lst sc) ∧ N n ∧ N a ∧ N b ∧ N c ∧ N d
theorem Fm.fr {st st' : S} {n : Nat} {dv ck lk sc : List D} {z : D} {N F : Nat → Prop} (h : Fm st n dv ck lk sc z N) (f : Fr F st st') (hN : ∀ b, N b → ¬ F b) : Fm st' n dv ck lk sc z N := by
  obtain ⟨a, b, c, d, h0, h1, h2, h3, h4, n0, n1, n2, n3, n4⟩ := h
  exact ⟨a, b, c, d, f.at_ h0 (hN _ n0), f.at_ h1 (hN _ n1), f.at_ h2 (hN _ n2), f.at_ h3 (hN _ n3), f.at_ h4 (hN _ n4), n0, n1, n2, n3, n4⟩
theorem Fm.fr0 {st st' : S} {n : Nat} {dv ck lk sc : List D} {z : D} {N : Nat → Prop} (h : Fm st n dv ck lk sc z N) (f : Fr FN st st') : Fm st' n dv ck lk sc z N := h.fr f fun _ _ z => z
theorem init1 {st : S} {n a j : Nat} {fs : List (Str × D)} {f : Str} {l : List D} {en : En} {V : Fl × En → S → Prop} (hn : st[n]? = some (.ins "Frame" fs)) (hl : fs.length < 1000) (e0 : en[0]? = some (some (.ref n))) (ej : en[j]? = some (some (.ref a)))
    (ha : st[a]? = some (.lst l)) (q : ∀ st', st'.length = st.length + 1 → st'[n]? = some (.ins "Frame" (putD f (.ref st.length) fs)) → st'[st.length]? = some (.lst l) → Fr (fun b => b = n) st st' → V (.nx, en) st') :
    Ok (sFldS ["Frame"] f (dVar 0) (dON dList (dCons (dVar j) dNil)) en st) V := by
  have hlt := lt_at hn
  have h1 := (Fr.push (F := FN) st (.lst l)).at0 hn
  wide_open using [e0, ej, ha, h1]
  refine ⟨hl, q _ (by simp) (st_at h1) (st_ot (fr_at st (.lst l)) (by omega)) ((Fr.push _ _).set (.inl rfl))⟩
theorem frame_mk {st : S} {a b c d : Nat} {z : D} {dv ck lk sc : List D} {Q : D → S → Prop} (ha : st[a]? = some (.lst dv)) (hb : st[b]? = some (.lst ck)) (hc : st[c]? = some (.lst lk)) (hd : st[d]? = some (.lst sc))
    (q : ∀ st', Fr FN st st' → Fm st' st.length dv ck lk sc z (fun x => st.length ≤ x ∧ x < st'.length) → Q .non st') : Ok (dn_Frame_init [.ref st.length, .ref a, .ref b, .ref c, .ref d, z] (st ++ [.ins "Frame" []])) Q := by
  have la := lt_at ha
  have lb := lt_at hb
  have lc := lt_at hc
  have ld := lt_at hd
  have hn : (st ++ [O.ins "Frame" []])[st.length]? = some (.ins "Frame" []) := fr_at _ _
  have f0 : Fr FN st (st ++ [.ins "Frame" []]) := .push _ _
  have l0 : (st ++ [O.ins "Frame" []]).length = st.length + 1 := by simp
  generalize st ++ [O.ins "Frame" []] = s0 at hn f0 l0 ⊢
  unfold dn_Frame_init b_Frame_init
  rw [ok_def]
  refine ⟨rfl, ?_⟩
  rw [ok_seq]
  refine init1 hn (by decide) rfl rfl (f0.at0 ha) fun s1 l1 n1 t1 o1 => ?_
  rw [sq_nx, ok_seq]
  refine init1 n1 (show (1 : Nat) < 1000 from by decide) rfl rfl (o1.at_ (f0.at0 hb) (by omega)) fun s2 l2 n2 t2 o2 => ?_
  have o12 := o1.trans o2
  rw [sq_nx, ok_seq]
  refine init1 n2 (show (2 : Nat) < 1000 from by decide) rfl rfl (o12.at_ (f0.at0 hc) (by omega)) fun s3 l3 n3 t3 o3 => ?_
  have o13 := o12.trans o3
  rw [sq_nx, ok_seq]
  refine init1 n3 (show (3 : Nat) < 1000 from by decide) rfl rfl (o13.at_ (f0.at0 hd) (by omega)) fun s4 l4 n4 t4 o4 => ?_
  have o14 := o13.trans o4
  rw [sq_nx]
  wide_open using [n4]
  refine ⟨(show (4 : Nat) < 1000 from by decide), q _ ((f0.trans' o14 fun b hb => .inr (by omega)).set (.inr (Nat.le_refl _))) ⟨s0.length, s1.length, s2.length, s3.length, st_at n4, ?_, ?_, ?_, st_ot t4 (by omega), ?_, ?_, ?_, ?_, ?_⟩⟩
  · exact st_ot (((o2.trans o3).trans o4).at_ t1 (by omega)) (by omega)
  · exact st_ot ((o3.trans o4).at_ t2 (by omega)) (by omega)
  · exact st_ot (o4.at_ t3 (by omega)) (by omega)
  all_goals (rw [List.length_set]; omega)
section
variable {a b c d e : D}
theorem lf_dev : List.lookup ("devices" : Str) [("devices", a), ("clocks", b), ("links", c), ("sources", d), ("faults", e)] = some a := rfl
theorem lf_clk : List.lookup ("clocks" : Str) [("devices", a), ("clocks", b), ("links", c), ("sources", d), ("faults", e)] = some b := rfl
theorem lf_lnk : List.lookup ("links" : Str) [("devices", a), ("clocks", b), ("links", c), ("sources", d), ("faults", e)] = some c := rfl
theorem lf_src : List.lookup ("sources" : Str) [("devices", a), ("clocks", b), ("links", c), ("sources", d), ("faults", e)] = some d := rfl
end
theorem fm_cg {α β : Type} {f g : α → Option β} : ∀ {l : List α}, (∀ x ∈ l, f x = g x) → l.filterMap f = l.filterMap g
  | [], _ => rfl
  | x :: l, h => by
    rw [List.filterMap_cons, List.filterMap_cons, h x List.mem_cons_self, fm_cg fun y hy => h y (List.mem_cons_of_mem _ hy)]
theorem clocks_ok {st : S} {n : Nat} {dv lk sc : List D} {z : D} {cks : List Clk} {dev : Int} {N : Nat → Prop} {Q : D → S → Prop} (h : Fm st n dv (cks.map clkD) lk sc z N) (hz : cks.length ≤ 1000) (q : Q (.ref st.length) (st ++ [.lst ((ownL cks dev).map fun k => .int (k : Nat))])) :
    Ok (dn_Frame_clocks_of [.ref n, .int dev] st) Q := by
  obtain ⟨a, b, c, d, h0, h1, h2, h3, h4, _⟩ := h
  unfold dn_Frame_clocks_of b_Frame_clocks_of
  rw [ok_def]
  refine ⟨rfl, ?_⟩
  wide_open using [h0, lf_clk, h2]
  refine ok_lcP (fun d => match d with
    | .tup [k, .tup [_, .int o, _, _]] => if o = dev then some k else none
    | _ => none) (wk1 h2) (by show (enD (cks.map clkD)).length < _; simp [enD]; exact sml' (by omega)) (fun i d hd => ?_) ?_
  · obtain ⟨x, hx, rfl⟩ := enD_get hd
    rw [List.getElem?_map, Option.map_eq_some_iff] at hx
    obtain ⟨K, hK, rfl⟩ := hx
    refine ⟨_, bt2, ?_⟩
    by_cases ho : K.own = dev
    · wide_open using [clkD, ho]
    · wide_open using [clkD, ho]
  · have e : (enD (cks.map clkD)).filterMap (fun d => match d with
      | .tup [k, .tup [_, .int o, _, _]] => if o = dev then some k else none
      | _ => none) = (ownL cks dev).map fun k => .int (k : Nat) := by
      unfold ownL enD
      rw [List.zipIdx_map, List.map_map, List.filterMap_map, List.map_map, ← List.filterMap_eq_filter, List.map_filterMap]
      refine fm_cg fun x _ => ?_
      simp only [Function.comp, clkD, Option.guard]
      by_cases ho : x.1.own = dev <;> simp [ho, clkD]
    simp only [e]
    exact q
theorem hands_ok {st : S} {n : Nat} {dv lk sc : List D} {z : D} {cks : List Clk} {dev : Int} {N : Nat → Prop} {Q : D → S → Prop} (h : Fm st n dv (cks.map clkD) lk sc z N) (hz : cks.length ≤ 1000)
    (q : ∀ st' m, Fr FN st st' → st.length ≤ m → st'[m]? = some (.lst ((List.replicate (ownL cks dev).length hand0).map handD)) → Q (.ref m) st') : Ok (dn_first_hands [.ref n, .int dev] st) Q := by
  obtain ⟨a, b, c, d, h0, h1, h2, h3, h4, hN⟩ := h
  have hF : Fm st n dv (cks.map clkD) lk sc z N := ⟨a, b, c, d, h0, h1, h2, h3, h4, hN⟩
  have hol : (ownL cks dev).length ≤ cks.length := by
    unfold ownL
    rw [List.length_map]
    have := List.length_filter_le (fun x : Clk × Nat => decide (x.1.own = dev)) cks.zipIdx
    rw [List.length_zipIdx] at this
    exact this
  unfold dn_first_hands b_first_hands
  rw [ok_def]
  refine ⟨rfl, ?_⟩
  wide_open using [h0]
  refine ⟨rfl, clocks_ok hF hz ?_⟩
  have m1 := fr_at st (.lst ((ownL cks dev).map fun k => .int (k : Nat)))
  have f1 := Fr.push (F := FN) st (.lst ((ownL cks dev).map fun k => .int (k : Nat)))
  generalize st ++ [O.lst ((ownL cks dev).map fun k => .int (k : Nat))] = s1 at m1 f1 ⊢
  wide_open using [m1]
  refine ok_lcM (fun _ => handD hand0) (wk1 m1) (by show ((ownL cks dev).map fun k => D.int (k : Nat)).length < _; rw [List.length_map]; exact sml' (by omega)) (fun i d hd => ⟨_, rfl, ?_⟩) ?_
  · wide_open using [handD, hand0, sin_n, show (3 : Nat) ≤ sizeLine from by decide]
    first | done | rfl
  · rw [List.map_const']
    refine q _ _ (f1.trans (.push _ _)) f1.len ?_
    rw [fr_at, List.map_replicate, List.length_map]

/-! ### the bounds of an event -/
def Dd.word : Dd → Str
  | .oth s _ => s
  | .kind _ _ => "kind"
  | .anew _ => "anew"
  | .mark _ _ _ => "mark"
  | .hear _ _ => "hear"
theorem at0_iff {st : S} {dd : Dd} {Q : D → S → Prop} : Ok (dIx (ddD dd) (.int 0) st) Q ↔ Q (.str dd.word) st := by
  cases dd <;> wide_open using [ddD, Dd.word]
theorem word_anew {dd : Dd} (h : dd.ok) : decide (dd.word = "anew") = dd.isAnew := by
  cases dd with
  | oth s l => exact decide_eq_false (fun z => h.2.1.mp z)
  | kind c k => rfl
  | anew ks => rfl
  | mark s k v => rfl
  | hear l n => rfl
def evA (cks : List Clk) (hs : List Hand) (e : Ev) (dev num : Int) (k : Nat) : List D := bd (pp dev num (-1)) (pp dev (num - 1) (-1)) 0 (-1) :: ((ownL cks dev).zipIdx.take k).flatMap fun x => (stepR cks hs e dev num x).1
def evH (cks : List Clk) (hs : List Hand) (e : Ev) (dev num : Int) (k : Nat) : List Hand := ((ownL cks dev).zipIdx.take k).map fun x => (stepR cks hs e dev num x).2
theorem cbR_len {lo hi : Int} {c : Nat} {h : Hand} {stop : Bool} {tick : Int × Int × Int} {ev bf : D} {s : Int} : (cbR lo hi c h stop tick ev bf s).1.length ≤ 6 := by
  unfold cbR
  split
  · exact (by decide : 2 ≤ 6)
  · split
    · exact (by decide : 2 ≤ 6)
    · split
      · exact (by decide : 2 ≤ 6)
      · exact Nat.le_refl 6
theorem evA_succ {cks : List Clk} {hs : List Hand} {e : Ev} {dev num : Int} {k c : Nat} (h : (ownL cks dev)[k]? = some c) : evA cks hs e dev num (k + 1) = evA cks hs e dev num k ++ (stepR cks hs e dev num (c, k)).1 := by
  have hx : (ownL cks dev).zipIdx[k]? = some (c, k) := by rw [List.getElem?_zipIdx, h]; simp
  unfold evA
  rw [mem_split hx]; simp
theorem evH_succ {cks : List Clk} {hs : List Hand} {e : Ev} {dev num : Int} {k c : Nat} (h : (ownL cks dev)[k]? = some c) : evH cks hs e dev num (k + 1) = evH cks hs e dev num k ++ [(stepR cks hs e dev num (c, k)).2] := by
  have hx : (ownL cks dev).zipIdx[k]? = some (c, k) := by rw [List.getElem?_zipIdx, h]; simp
  unfold evH
  rw [mem_split hx]; simp
def EI (s0 st' : S) (a0 a1 a2 a3 a4 a5 a6 a9 a10 a11 a12 a13 a14 a15 : Option D) (lr : Nat) (cks : List Clk) (hs : List Hand) (e : Ev) (dev num : Int) (k : Nat) (en : En) : Prop := ∃ (rr : Nat) (b0 b1 b2 b3 b4 b5 b6 b7 b8 b9 : Option D),
  en = [a0, a1, a2, a3, a4, a5, a6, some (.ref rr), some (.ref lr), a9, a10, a11, a12, a13, a14, a15, b0, b1, b2, b3, b4, b5, b6, b7, b8, b9] ∧ Fr (fun b => b = lr) s0 st' ∧ rr ≠ lr ∧ st'[rr]? = some (.lst (evA cks hs e dev num k)) ∧ st'[lr]? = some (.lst ((evH cks hs e dev num k).map handD)) ∧ (evA cks hs e dev num k).length ≤ 6 * k + 1
theorem event_ok {st : S} {n hr : Nat} {dv lk sc dr : List D} {z kd : D} {cks : List Clk} {hs : List Hand} {e : Ev} {dev num : Int} {N : Nat → Prop} {Q : D → S → Prop} (F : Fm st n dv (cks.map clkD) lk sc z N) (hN : ∀ b, N b → b < st.length) (hz : cks.length ≤ 1000) (hh : st[hr]? = some (.lst (hs.map handD))) (ft : Fits cks (ownL cks dev) hs e) (dl : dr.length ≤ 100) (ol : (ownL cks dev).length ≤ 100)
    (hd : ∀ st1 (Q1 : D → S → Prop), Fr FN st st1 → (∀ st' m, Fr FN st1 st' → st'[m]? = some (.lst dr) → Q1 (.ref m) st') → Ok (dn_deed_bounds [.ref n, pp dev num (-1), ddD e.dd, kd] st1) Q1)
    (q : ∀ st' m k, Fr FN st st' → st.length ≤ m → st.length ≤ k → st'[m]? = some (.lst (evA cks hs e dev num (ownL cks dev).length ++ dr)) → st'[k]? = some (.lst ((evH cks hs e dev num (ownL cks dev).length).map handD)) → Q (.tup [.ref m, .ref k]) st') :
    Ok (dn_event_bounds [.ref n, .tup [.int dev, .int num, evD e], .ref hr, kd] st) Q := by
  have F0 := F
  have lh := lt_at hh
  obtain ⟨fa, fb, fc, fd, h0, h1, h2, h3, h4, n0, n1, n2, n3, n4⟩ := F
  unfold dn_event_bounds b_event_bounds
  rw [ok_def]
  refine ⟨rfl, ?_⟩
  have z2 : (2 : Nat) ≤ sizeLine := by decide
  have z3 : (3 : Nat) ≤ sizeLine := by decide
  have z4 : (4 : Nat) ≤ sizeLine := by decide
  have z1 : (1 : Nat) ≤ sizeLine := by decide
  have hlt := lt_at h0
  wide_open using [bt3, evD, bt5, z1, z3, z4]
  have f1 := (Fr.push (F := FN) st (.lst [.tup [.tup [.int dev, .int num, .int (-1)], .tup [.int dev, .int (num - 1), .int (-1)], .int 0, .int (-1)]])).trans (Fr.push (F := FN) (st ++ [O.lst [.tup [.tup [.int dev, .int num, .int (-1)], .tup [.int dev, .int (num - 1), .int (-1)], .int 0, .int (-1)]]]) (.lst []))
  have r1 : (st ++ [O.lst [.tup [.tup [.int dev, .int num, .int (-1)], .tup [.int dev, .int (num - 1), .int (-1)], .int 0, .int (-1)]]] ++ [O.lst []])[st.length]? = some (.lst (evA cks hs e dev num 0)) := (Fr.push (F := FN) _ _).at0 (fr_at st _)
  have k1 : (st ++ [O.lst [.tup [.tup [.int dev, .int num, .int (-1)], .tup [.int dev, .int (num - 1), .int (-1)], .int 0, .int (-1)]]] ++ [O.lst []])[(st ++ [O.lst [.tup [.tup [.int dev, .int num, .int (-1)], .tup [.int dev, .int (num - 1), .int (-1)], .int 0, .int (-1)]]] : S).length]? = some (.lst ((evH cks hs e dev num 0).map handD)) := fr_at _ _
  have hlr : (st ++ [O.lst [.tup [.tup [.int dev, .int num, .int (-1)], .tup [.int dev, .int (num - 1), .int (-1)], .int 0, .int (-1)]]] : S).length = st.length + 1 := by simp
  generalize (st ++ [O.lst [.tup [.tup [.int dev, .int num, .int (-1)], .tup [.int dev, .int (num - 1), .int (-1)], .int 0, .int (-1)]]] : S).length = lr at k1 hlr ⊢
  generalize st ++ [O.lst [.tup [.tup [.int dev, .int num, .int (-1)], .tup [.int dev, .int (num - 1), .int (-1)], .int 0, .int (-1)]]] ++ [O.lst []] = s1 at f1 r1 k1 ⊢
  have h01 := f1.at0 h0
  wide_open using [h01]
  refine ⟨rfl, clocks_ok (F0.fr0 f1) hz ?_⟩
  have f2 := f1.trans (Fr.push (F := FN) s1 (.lst ((ownL cks dev).map fun k => .int (k : Nat))))
  have r2 := (Fr.push (F := FN) s1 (.lst ((ownL cks dev).map fun k => .int (k : Nat)))).at0 r1
  have k2 := (Fr.push (F := FN) s1 (.lst ((ownL cks dev).map fun k => .int (k : Nat)))).at0 k1
  have o2 := fr_at s1 (.lst ((ownL cks dev).map fun k => .int (k : Nat)))
  have lk1 := lt_at k1
  generalize s1 ++ [O.lst ((ownL cks dev).map fun k => .int (k : Nat))] = s2 at f2 r2 k2 o2 ⊢
  wide_open using [o2]
  have F2 := F0.fr0 f2
  have lB : ∀ s3 : S, Fr (fun b => b = lr) s2 s3 → Fr FN st s3 := fun s3 f => f2.trans' f fun b hb => .inr (by omega)
  refine ok_loop0 (w := ⟨enD ((ownL cks dev).map fun k => .int (k : Nat)), [(s1.length, (ownL cks dev).map fun k => .int (k : Nat))]⟩) (fun k en st' => EI s2 st' (some (.ref n)) (some (.tup [.int dev, .int num, .tup [.bl e.as, .tup (e.sh.map .int), .tup (e.af.map .int), ddD e.dd, e.kn]])) (some (.ref hr)) (some kd) (some (.tup [.bl e.as, .tup (e.sh.map .int), .tup (e.af.map .int), ddD e.dd, e.kn])) (some (.tup [.int dev, .int num, .int (-1)])) (some (.tup [.int dev, .int (num - 1), .int (-1)])) (some (.int dev)) (some (.int num)) (some (.bl e.as)) (some (.tup (e.sh.map .int))) (some (.tup (e.af.map .int))) (some (ddD e.dd)) (some e.kn) lr cks hs e dev num k en)
    ⟨_, _, _, _, _, _, _, _, _, _, _, rfl, .refl _, (by omega), r2, k2, by simp [evA]⟩ (fun k en st' ⟨_, _, _, _, _, _, _, _, _, _, _, _, f, _⟩ => wk1 (f.at_ o2 (by omega))) ?_ ?_
  · rintro k d en s3 hk ⟨rr, b0, b1, b2, b3, b4, b5, b6, b7, b8, b9, rfl, f3, ne, r3, k3, len⟩
    obtain ⟨x, hx, rfl⟩ := enD_get hk
    rw [List.getElem?_map, Option.map_eq_some_iff] at hx
    obtain ⟨c, hc, rfl⟩ := hx
    have hkl := (List.getElem?_eq_some_iff.mp hc).1
    obtain ⟨K, kk, h, s, a, e1, e2, e3, e4, e5, ⟨⟨b1', b2'⟩, b3', b4'⟩, e6⟩ := ft.at_ hc
    have f03 := lB s3 f3
    have g0 := f03.at0 h0
    have g2 := f03.at0 h2
    have gh := f03.at0 hh
    have q1 : atI (cks.map clkD) (c : Int) = some (clkD K) := atI_map e1
    have q2 : atI (hs.map handD) (k : Int) = some (handD h) := atI_map e3
    have q3 : atI (K.ks.map kdD) (h.kd : Int) = some (kdD kk) := atI_map e2
    have q4 : atI (e.sh.map D.int) (k : Int) = some (.int s) := atI_map e4
    have q5 : atI (e.af.map D.int) (k : Int) = some (.int a) := atI_map e5
    have wa := word_anew ft.dd
    refine ⟨_, bt2, ?_⟩
    simp only [List.set_cons_succ, List.set_cons_zero]
    cases he : e.as <;> cases ho : K.on
    all_goals
      wide_open using [g0, lf_clk, g2, q1, gh, q2, clkD, handD, q3, kdD, q4, fun Q st => at0_iff (st := st) (dd := e.dd) (Q := Q), wa, he, ho, z3]
      refine cb_ok (h := h) (tick := (dev, num, (c : Int))) ⟨b1', b2'⟩ ⟨b3', b4'⟩ fun s4 m R X f4 lm m4 hRX => ?_
      have e7 : stepR cks hs e dev num (c, k) = (R, handAf e.dd c k (dev, num, -1) ⟨some X, s, h.kd⟩ a) := by
        rw [e6]
        unfold stepK
        rw [he, ho]
        exact congrArg (fun (y : List D × (Int × Int × Int)) => (y.1, handAf e.dd c k (dev, num, -1) ⟨some y.2, s, h.kd⟩ a)) hRX
      have lR : R.length ≤ 6 := by
        have := congrArg (fun (y : List D × (Int × Int × Int)) => y.1) hRX
        simp only at this
        rw [← this]; exact cbR_len
      have r4 := f4.at0 r3
      have k4 := f4.at0 k3
      have hss := evA_succ (hs := hs) (e := e) (num := num) hc
      have hsh := evH_succ (hs := hs) (e := e) (num := num) hc
      rw [e7] at hss hsh
      have k5 := (Fr.push (F := FN) s4 (.lst (evA cks hs e dev num k ++ R))).at0 k4
      have r5 := fr_at s4 (.lst (evA cks hs e dev num k ++ R))
      have f5 := (f3.trans f4.w0).trans (Fr.push (F := fun b => b = lr) s4 (.lst (evA cks hs e dev num k ++ R)))
      have l4 := lt_at k4
      wide_open using [bt2]
      refine (v_addL r4 m4).mpr ⟨sml (by omega), ?_⟩
      generalize s4 ++ [O.lst (evA cks hs e dev num k ++ R)] = s5 at k5 r5 f5 ⊢
      wide_open using [q4, k5, z3, q5]
      refine (after_iff (pt := (dev, num, -1)) (h := ⟨some X, s, h.kd⟩) ft.dd fun ks hks => by rw [ft.an ks hks]; exact hkl).mpr ?_
      wide_open using [k5]
      refine ⟨?_, ?_⟩
      · rw [List.length_map]; unfold evH; rw [List.length_map, List.length_take]; exact sml' (by omega)
      refine ⟨_, _, _, _, _, _, _, _, _, _, _, rfl, f5.set (.inl rfl), ?_, ?_, ?_, ?_⟩
      · omega
      · rw [hss]; exact st_ot r5 (by omega)
      · rw [hsh, st_at k5]; simp
      · rw [hss, List.length_append]; simp only; omega
  · rintro en s3 ⟨rr, b0, b1, b2, b3, b4, b5, b6, b7, b8, b9, rfl, f3, ne, r3, k3, len⟩
    have el : (enD ((ownL cks dev).map fun k => D.int (k : Nat))).length = (ownL cks dev).length := by simp [enD]
    simp only [el] at r3 k3 len
    wide_open using []
    refine hd s3 _ (lB s3 f3) fun s4 m f4 m4 => ?_
    have r4 := f4.at0 r3
    have k4 := f4.at0 k3
    refine (v_addL r4 m4).mpr ⟨sml (by omega), ?_⟩
    wide_open using [z2]
    have fin := ((lB s3 f3).trans f4).trans (Fr.push (F := FN) s4 (.lst (evA cks hs e dev num (ownL cks dev).length ++ dr)))
    exact q _ _ _ fin ((lB s3 f3).trans f4).len (by omega) (fr_at _ _) ((Fr.push (F := FN) s4 _).at0 k4)

/-! ### the bounds of a device's events -/
def evN (cks : List Clk) (dev : Int) (es : List Ev) (dr : Nat → List D) : Nat → List D × List Hand
  | 0 => ([], List.replicate (ownL cks dev).length hand0)
  | k + 1 => match es[k]? with
    | none => evN cks dev es dr k
    | some e => ((evN cks dev es dr k).1 ++ (evA cks (evN cks dev es dr k).2 e dev ((k + 1 : Nat) : Int) (ownL cks dev).length ++ dr k), evH cks (evN cks dev es dr k).2 e dev ((k + 1 : Nat) : Int) (ownL cks dev).length)
theorem evN_some {cks : List Clk} {dev : Int} {es : List Ev} {dr : Nat → List D} {k : Nat} {e : Ev} (h : es[k]? = some e) : evN cks dev es dr (k + 1) = ((evN cks dev es dr k).1 ++ (evA cks (evN cks dev es dr k).2 e dev ((k + 1 : Nat) : Int) (ownL cks dev).length ++ dr k), evH cks (evN cks dev es dr k).2 e dev ((k + 1 : Nat) : Int) (ownL cks dev).length) := by
  conv => lhs; unfold evN
  rw [h]
theorem evN_ext {cks : List Clk} {dev : Int} {es es' : List Ev} {dr : Nat → List D} : ∀ {k : Nat}, k ≤ es.length → evN cks dev (es ++ es') dr k = evN cks dev es dr k
  | 0, _ => rfl
  | k + 1, h => by
    have e := List.getElem?_eq_getElem (l := es) (i := k) (by omega)
    rw [evN_some e, evN_some (es := es ++ es') (by rw [List.getElem?_append_left (by omega)]; exact e), evN_ext (by omega)]
/-- the rule for what a deed gives, and for the kind of a word -/
structure Drs (fn vr : Nat) (st : S) (dev : Int) (es : List Ev) (dr : Nat → List D) (kd : Nat → D) : Prop where
  hd : ∀ (k : Nat) (e : Ev) (st1 : S) (Q1 : D → S → Prop), es[k]? = some e → Fr FN st st1 → (∀ st' m, Fr FN st1 st' → st'[m]? = some (.lst (dr k)) → Q1 (.ref m) st') → Ok (dn_deed_bounds [.ref fn, pp dev ((k + 1 : Nat) : Int) (-1), ddD e.dd, kd k] st1) Q1
  hk : ∀ (k : Nat) (e : Ev) (st1 : S) (Q1 : D → S → Prop), es[k]? = some e → Fr FN st st1 → Q1 (kd k) st1 → Ok (dn_sent_kind [.ref vr, .ref fn, ddD e.dd] st1) Q1
  len : ∀ k, (dr k).length ≤ 3
def VI (s0 st' : S) (r0 fn vr er hn : Nat) (dev : Int) (rows : List D) (cks : List Clk) (es : List Ev) (dr : Nat → List D) (k : Nat) (en : En) : Prop := ∃ (rr hr : Nat) (a6 a7 a8 a9 : Option D),
  en = [some (.ref fn), some (.ref vr), some (.ref rr), some (.int dev), some (.ref er), some (.ref hr), a6, a7, a8, a9] ∧ Fr FN s0 st' ∧ st'[rr]? = some (.lst (rows ++ (evN cks dev es dr k).1)) ∧ st'[hr]? = some (.lst ((evN cks dev es dr k).2.map handD)) ∧ (evN cks dev es dr k).1.length ≤ 100 * k ∧ (rr = r0 ∨ s0.length ≤ rr)
theorem evA_len {cks : List Clk} {hs : List Hand} {e : Ev} {dev num : Int} (ft : Fits cks (ownL cks dev) hs e) : ∀ k, k ≤ (ownL cks dev).length → (evA cks hs e dev num k).length ≤ 6 * k + 1
  | 0, _ => by simp [evA]
  | k + 1, h => by
    have hc := List.getElem?_eq_getElem (l := ownL cks dev) (i := k) (by omega)
    obtain ⟨K, kk, hh, s, a, _, _, _, _, _, _, e6⟩ := ft.at_ hc
    rw [evA_succ hc, List.length_append, e6]
    have := evA_len ft k (by omega) (num := num)
    have : (stepK K kk hh s a e dev num (ownL cks dev)[k] k).1.length ≤ 6 := cbR_len
    omega
theorem dev_ok {st : S} {fn vr er rr : Nat} {dv lk sc rows : List D} {z b0 : D} {cks : List Clk} {es : List Ev} {dev : Int} {dr : Nat → List D} {kd : Nat → D} {N : Nat → Prop} {a5 a6 a7 a8 a9 : Option D} {V : Fl × En → S → Prop} (F : Fm st fn dv (cks.map clkD) lk sc z N) (hN : ∀ b, N b → b < st.length) (hz : cks.length ≤ 100) (ol : (ownL cks dev).length ≤ 10)
    (he : st[er]? = some (.lst (b0 :: es.map evD))) (hl : es.length ≤ 20) (hr : st[rr]? = some (.lst rows)) (hrl : rows.length ≤ 4000) (ds : Drs fn vr st dev es dr kd) (ft : ∀ k e, es[k]? = some e → Fits cks (ownL cks dev) (evN cks dev es dr k).2 e)
    (q : ∀ st' rr' a5 a6 a7 a8 a9, Fr FN st st' → st'[rr']? = some (.lst (rows ++ (evN cks dev es dr es.length).1)) → (evN cks dev es dr es.length).1.length ≤ 2000 → (rr' = rr ∨ st.length ≤ rr') → V (.nx, [some (.ref fn), some (.ref vr), some (.ref rr'), some (.int dev), some (.ref er), a5, a6, a7, a8, a9]) st') :
    Ok (sSeq (sSet 5 (dCall 2 dn_first_hands (dCons (dVar 0) (dCons (dVar 3) dNil))))
    (sFor (iRng2D (dCons (dC (.int 1)) (dCons (dON dLen (dCons (dVar 4) dNil)) dNil))) (bName 6)
    (sSeq (sSet 7 (dO2 dIx (dVar 4) (dVar 6)))
    (sSeq (sSet 8 (dCall 3 dn_sent_kind (dCons (dVar 1) (dCons (dVar 0) (dCons (dO2 dIx (dVar 7) (dC (.int 3))) dNil)))))
    (sSeq (sAsg (bTup 2 (bCons (bName 9) (bCons (bName 5) bNil))) (dCall 4 dn_event_bounds (dCons (dVar 0) (dCons (dTup (dCons (dVar 3) (dCons (dVar 6) (dCons (dVar 7) dNil)))) (dCons (dVar 5) (dCons (dVar 8) dNil))))))
    (sSet 2 (dO2 dAdd (dVar 2) (dVar 9))))))) [some (.ref fn), some (.ref vr), some (.ref rr), some (.int dev), some (.ref er), a5, a6, a7, a8, a9] st) V := by
  wide_open using []
  refine hands_ok F (by omega) fun s1 m f1 lm m1 => ?_
  have e1 := f1.at0 he
  wide_open using [e1, List.length_cons, List.length_map]
  refine ⟨by omega, by omega, by omega, by omega, ?_⟩
  refine ok_loop0 (w := ⟨rgD 1 ((es.length + 1 : Nat) : Int), []⟩) (fun k en st' => VI st st' rr fn vr er m dev rows cks es dr k en) ⟨rr, m, _, _, _, _, rfl, f1, by simp only [evN, List.append_nil]; exact f1.at0 hr, m1, by simp [evN], .inl rfl⟩ (fun _ _ _ _ => wkn) ?_ ?_
  · rintro k d en s2 hd ⟨rr, hr2, a6, a7, a8, a9, rfl, f2, r2, h2, ln, _⟩
    obtain ⟨hk, rfl⟩ := rg_get hd
    have hk : k < es.length := by omega
    have hev := List.getElem?_eq_getElem (l := es) (i := k) hk
    generalize es[k]'hk = e at hev
    have ek : (1 + (k : Int)) = ((k + 1 : Nat) : Int) := by omega
    have g1 : atI (b0 :: es.map evD) ((k + 1 : Nat) : Int) = some (evD e) := by
      refine atI_lt ?_
      rw [List.getElem?_cons_succ, List.getElem?_map, hev]; rfl
    have e2 := f2.at0 he
    refine ⟨_, rfl, ?_⟩
    have z3 : (3 : Nat) ≤ sizeLine := by decide
    rw [ek]
    have dx : ∀ (s : S) (Q : D → S → Prop), Ok (dIx (evD e) (.int 3) s) Q ↔ Q (ddD e.dd) s := fun s Q => by unfold evD; wide_open using []
    wide_open using [e2, g1, dx]
    refine ds.hk k e s2 _ hev f2 ?_
    wide_open using [z3]
    refine event_ok (F.fr0 f2) (fun b hb => by have := hN b hb; have := f2.len; omega) (by omega) h2 (ft k e hev) (dr := dr k) (by have := ds.len k; omega) (by omega) (fun st1 Q1 f q => ds.hd k e st1 Q1 hev (f2.trans f) q) fun s3 m3 k3 f3 _ _ hm hk3 => ?_
    have r3 := f3.at0 r2
    have el := evA_len (num := ((k + 1 : Nat) : Int)) (ft k e hev) _ (Nat.le_refl _)
    have dl := ds.len k
    wide_open using [bt2]
    refine (v_addL r3 hm).mpr ⟨sml (by simp only [List.length_append]; omega), ?_⟩
    refine ⟨_, _, _, _, _, _, rfl, (f2.trans f3).trans (.push _ _), ?_, ?_, ?_, ?_⟩
    · rw [evN_some hev, fr_at, List.append_assoc]
    · rw [evN_some hev]; exact (Fr.push (F := FN) s3 _).at0 hk3
    · rw [evN_some hev]; simp only [List.length_append]; omega
    · have := f2.len; have := f3.len; exact .inr (by omega)
  · rintro en s2 ⟨rr, hr2, a6, a7, a8, a9, rfl, f2, r2, h2, ln, hge⟩
    have e : (rgD 1 ((es.length + 1 : Nat) : Int)).length = es.length := by rw [rg_len]; omega
    simp only [e] at r2 ln
    exact q _ _ _ _ _ _ _ f2 r2 (by omega) hge
/-- view_bounds, one device -/
theorem view1_ok {st : S} {fn vr er : Nat} {dv lk sc : List D} {z b0 : D} {cks : List Clk} {es : List Ev} {dr : Nat → List D} {kd : Nat → D} {N : Nat → Prop} {Q : D → S → Prop} (F : Fm st fn dv (cks.map clkD) lk sc z N) (hN : ∀ b, N b → b < st.length) (hz : cks.length ≤ 100) (ol : (ownL cks 0).length ≤ 10)
    (hv : st[vr]? = some (.lst [.ref er])) (he : st[er]? = some (.lst (b0 :: es.map evD))) (hl : es.length ≤ 20) (ds : Drs fn vr st 0 es dr kd) (ft : ∀ k e, es[k]? = some e → Fits cks (ownL cks 0) (evN cks 0 es dr k).2 e)
    (q : ∀ st' m, Fr FN st st' → st'[m]? = some (.lst (evN cks 0 es dr es.length).1) → (evN cks 0 es dr es.length).1.length ≤ 2000 → st.length ≤ m → Q (.ref m) st') : Ok (dn_view_bounds [.ref fn, .ref vr] st) Q := by
  unfold dn_view_bounds b_view_bounds
  rw [ok_def]
  refine ⟨rfl, ?_⟩
  have f1 := Fr.push (F := FN) st (.lst [])
  have r1 := fr_at st (.lst [])
  have v1 := f1.at0 hv
  have e1 := f1.at0 he
  have F1 := F.fr0 f1
  have lt1 : st.length < (st ++ [O.lst []]).length := by simp
  have ds1 : Drs fn vr (st ++ [O.lst []]) 0 es dr kd := ⟨fun k e st1 Q1 h f => ds.hd k e st1 Q1 h (f1.trans f), fun k e st1 Q1 h f => ds.hk k e st1 Q1 h (f1.trans f), ds.len⟩
  generalize hs1 : st ++ [O.lst []] = s1 at f1 r1 v1 e1 F1 ds1 lt1
  wide_open using [hs1, v1]
  refine ok_loop0 (w := ⟨enD [.ref er], [(vr, [.ref er])]⟩) (fun k en st' => ∃ rr a3 a4 a5 a6 a7 a8 a9, en = [some (.ref fn), some (.ref vr), some (.ref rr), a3, a4, a5, a6, a7, a8, a9] ∧ Fr FN s1 st' ∧ st'[rr]? = some (.lst (if k = 0 then [] else (evN cks 0 es dr es.length).1)) ∧ (k = 0 ∨ (evN cks 0 es dr es.length).1.length ≤ 2000) ∧ st.length ≤ rr) ⟨_, _, _, _, _, _, _, _, rfl, .refl _, r1, .inl rfl, Nat.le_refl _⟩ (fun k en st' ⟨_, _, _, _, _, _, _, _, _, f, _⟩ => wk1 (f.at0 v1)) ?_ ?_
  · rintro k d en s2 hd ⟨rr, a3, a4, a5, a6, a7, a8, a9, rfl, f2, r2, _, lrr⟩
    obtain ⟨x, hx, rfl⟩ := enD_get hd
    have hk : k < 1 := (List.getElem?_eq_some_iff.mp hx).1
    have hk : k = 0 := by omega
    subst hk
    simp only [List.getElem?_cons_zero, Option.some.injEq] at hx
    subst hx
    refine ⟨_, bt2, ?_⟩
    simp only [List.set_cons_succ, List.set_cons_zero]
    refine dev_ok (dev := 0) (rows := []) (F1.fr0 f2) (fun b hb => by have := hN b hb; have := f2.len; omega) hz ol (f2.at0 e1) hl r2 (by simp) ⟨fun k e st1 Q1 h f => ds1.hd k e st1 Q1 h (f2.trans f), fun k e st1 Q1 h f => ds1.hk k e st1 Q1 h (f2.trans f), ds1.len⟩ ft fun s3 rr' b5 b6 b7 b8 b9 f3 r3 l3 hge => ?_
    rw [tn_nx]
    exact ⟨_, _, _, _, _, _, _, _, rfl, f2.trans f3, by simpa using r3, .inr l3, by have := f1.len; have := f2.len; rcases hge with z | z <;> omega⟩
  · rintro en s2 ⟨rr, a3, a4, a5, a6, a7, a8, a9, rfl, f2, r2, l2, lrr⟩
    wide_open using []
    exact q s2 rr (f1.trans f2) r2 (l2.elim (fun z => nomatch z) id) lrr
theorem sent_non {st : S} {v f : D} {dd : Dd} {Q : D → S → Prop} (h : (dd.word = "hear") = False) : Ok (dn_sent_kind [v, f, ddD dd] st) Q ↔ Q .non st := by
  unfold dn_sent_kind b_sent_kind
  rw [ok_def]
  wide_open using [fun Q st => at0_iff (st := st) (dd := dd) (Q := Q), h]
theorem deed_non {st : S} {f p k : D} {dd : Dd} {Q : D → S → Prop} (h : (dd.word = "hear") = False) (h' : (dd.word = "mark") = False) : Ok (dn_deed_bounds [f, p, ddD dd, k] st) Q ↔ Q (.ref st.length) (st ++ [.lst []]) := by
  unfold dn_deed_bounds b_deed_bounds
  rw [ok_def]
  wide_open using [fun Q st => at0_iff (st := st) (dd := dd) (Q := Q), h, h']

/-! ### what bounds look like -/
def isBd (x : D) : Prop := ∃ a b c d e f i k : Int, x = bd (pp a b c) (pp d e f) i k
theorem isBd.pn {x : D} (h : isBd x) : Pn x := by
  obtain ⟨a, b, c, d, e, f, i, k, rfl⟩ := h
  exact ⟨rfl, rfl⟩
theorem bd_mk {a b c d e f i k : Int} : isBd (bd (pp a b c) (pp d e f) i k) := ⟨_, _, _, _, _, _, _, _, rfl⟩
theorem cbR_bd {lo hi : Int} {c : Nat} {h : Hand} {stop : Bool} {tick : Int × Int × Int} {a b d a' b' d' s : Int} : ∀ x ∈ (cbR lo hi c h stop tick (pp a b d) (pp a' b' d') s).1, isBd x := by
  intro x hx
  unfold cbR at hx
  split at hx
  · simp only [List.mem_cons, List.not_mem_nil, or_false] at hx
    rcases hx with rfl | rfl <;> exact bd_mk
  · split at hx
    · simp only [List.mem_cons, List.not_mem_nil, or_false] at hx
      rcases hx with rfl | rfl <;> exact bd_mk
    · split at hx
      · simp only [List.mem_cons, List.not_mem_nil, or_false] at hx
        rcases hx with rfl | rfl <;> exact bd_mk
      · simp only [List.mem_cons, List.not_mem_nil, or_false] at hx
        rcases hx with rfl | rfl | rfl | rfl | rfl | rfl <;> exact bd_mk
theorem evA_bd {cks : List Clk} {hs : List Hand} {e : Ev} {dev num : Int} {k : Nat} : ∀ x ∈ evA cks hs e dev num k, isBd x := by
  intro x hx
  unfold evA at hx
  rcases List.mem_cons.mp hx with rfl | hx
  · exact bd_mk
  · obtain ⟨y, _, hy⟩ := List.mem_flatMap.mp hx
    unfold stepR at hy
    split at hy
    · split at hy
      · exact cbR_bd x hy
      · cases hy
    · cases hy
theorem evN_bd {cks : List Clk} {dev : Int} {es : List Ev} {dr : Nat → List D} (hd : ∀ k, ∀ x ∈ dr k, isBd x) : ∀ k, ∀ x ∈ (evN cks dev es dr k).1, isBd x
  | 0, x, hx => by cases hx
  | k + 1, x, hx => by
    unfold evN at hx
    split at hx
    · exact evN_bd hd k x hx
    · rcases List.mem_append.mp hx with z | z
      · exact evN_bd hd k x z
      · rcases List.mem_append.mp z with y | y
        · exact evA_bd x y
        · exact hd k x y
theorem own_range {cks : List Clk} (h : ∀ K ∈ cks, K.own = 0) : ownL cks 0 = List.range cks.length := by
  unfold ownL
  rw [List.filter_eq_self.mpr fun x hx => ?_, List.zipIdx_map_snd, List.range_eq_range']
  have := List.mem_of_getElem? (List.mem_zipIdx_iff_getElem?.mp (show (x.1, x.2) ∈ cks.zipIdx from hx))
  exact decide_eq_true (h _ this)

/-! ### the Table of the program -/
theorem lesser_iff {st : S} {x y : Option Int} {Q : D → S → Prop} : Ok (dn_lesser [optD x, optD y] st) Q ↔ Q (optD (mn x y)) st := by
  unfold dn_lesser b_lesser
  rw [ok_def]
  cases x with
  | none =>
    wide_open using []
    cases y <;> exact Iff.rfl
  | some x =>
    cases y with
    | none => wide_open using []; exact Iff.rfl
    | some y =>
      wide_open using []
      simp only [dMin2, ok_ok, mn, optD]
abbrev tabO (n r : Nat) (w : Bool) : O := .ins "Table" [("names", .ref n), ("rows", .ref r), ("whole", .bl w)]
section
variable {a b c : D}
theorem lk_names : List.lookup ("names" : Str) [("names", a), ("rows", b), ("whole", c)] = some a := rfl
theorem lk_rows : List.lookup ("rows" : Str) [("names", a), ("rows", b), ("whole", c)] = some b := rfl
theorem lk_whole : List.lookup ("whole" : Str) [("names", a), ("rows", b), ("whole", c)] = some c := rfl
theorem pd_names {v : D} : putD "names" v [("names", a), ("rows", b), ("whole", c)] = ([("names", v), ("rows", b), ("whole", c)] : List (Str × D)) := rfl
theorem pd_rows {v : D} : putD "rows" v [("names", a), ("rows", b), ("whole", c)] = ([("names", a), ("rows", v), ("whole", c)] : List (Str × D)) := rfl
theorem pd_whole {v : D} : putD "whole" v [("names", a), ("rows", b), ("whole", c)] = ([("names", a), ("rows", b), ("whole", v)] : List (Str × D)) := rfl
end
/-- the places of the table's objects -/
structure Tp (st : S) (t n r : Nat) (rs : List Nat) (names : List D) (rows : List Row) (w : Bool) : Prop where
  ht : st[t]? = some (tabO n r w)
  hn : st[n]? = some (.lst names)
  hr : st[r]? = some (.lst (rs.map D.ref))
  hl : rs.length = rows.length
  hrow : ∀ (i ri : Nat) (row : Row), rs[i]? = some ri → rows[i]? = some row → st[ri]? = some (.lst (row.map optD))
  nd : rs.Nodup
  tn : t ≠ n
  tr : t ≠ r
  nr : n ≠ r
  rt : ∀ x ∈ rs, x ≠ t ∧ x ≠ n ∧ x ≠ r
def Fp (t n r : Nat) (rs : List Nat) : Nat → Prop := fun b => b = t ∨ b = n ∨ b = r ∨ b ∈ rs
theorem Tp.lt {st : S} {t n r : Nat} {rs : List Nat} {names : List D} {rows : List Row} {w : Bool} (h : Tp st t n r rs names rows w) : ∀ b, Fp t n r rs b → b < st.length := by
  rintro b (rfl | rfl | rfl | hb)
  · exact lt_at h.ht
  · exact lt_at h.hn
  · exact lt_at h.hr
  · obtain ⟨i, hi⟩ := List.getElem?_of_mem hb
    have hl := h.hl
    have h2 := (List.getElem?_eq_some_iff.mp hi).1
    exact lt_at (h.hrow i b rows[i] hi (List.getElem?_eq_getElem (by omega)))
theorem Tp.fr {st st' : S} {t n r : Nat} {rs : List Nat} {names : List D} {rows : List Row} {w : Bool} {F : Nat → Prop} (h : Tp st t n r rs names rows w) (f : Fr F st st') (hF : ∀ b, Fp t n r rs b → ¬ F b) : Tp st' t n r rs names rows w :=
  ⟨f.at_ h.ht (hF _ (.inl rfl)), f.at_ h.hn (hF _ (.inr (.inl rfl))), f.at_ h.hr (hF _ (.inr (.inr (.inl rfl)))), h.hl, fun i ri row a b => f.at_ (h.hrow i ri row a b) (hF _ (.inr (.inr (.inr (List.mem_of_getElem? a))))), h.nd, h.tn, h.tr, h.nr, h.rt⟩
/-- a table: its points with the numbers of their vertices, the distances of these -/
structure Tab (st : S) (t : Nat) (F : Nat → Prop) (L : List (D × Nat)) (E : Nat → Nat → Option Int) (w : Bool) : Prop where
  tp : ∃ n r rs, Tp st t n r rs (L.map (·.1)) (L.map fun p => L.map fun q => E p.2 q.2) w ∧ ∀ b, F b ↔ Fp t n r rs b
  pn : ∀ p ∈ L, Pn p.1
  nd : (L.map (·.1)).Nodup
  sm : L.length ≤ 1000
theorem Tab.fr {st st' : S} {t : Nat} {F G : Nat → Prop} {L : List (D × Nat)} {E : Nat → Nat → Option Int} {w : Bool} (h : Tab st t F L E w) (f : Fr G st st') (hF : ∀ b, F b → ¬ G b) : Tab st' t F L E w := by
  obtain ⟨⟨n, r, rs, a, b⟩, c, d, e⟩ := h
  exact ⟨⟨n, r, rs, a.fr f fun x hx => hF x ((b x).mpr hx), b⟩, c, d, e⟩
theorem Tab.fr0 {st st' : S} {t : Nat} {F : Nat → Prop} {L : List (D × Nat)} {E : Nat → Nat → Option Int} {w : Bool} (h : Tab st t F L E w) (f : Fr FN st st') : Tab st' t F L E w := h.fr f fun _ _ z => z
theorem Tab.lt {st : S} {t : Nat} {F : Nat → Prop} {L : List (D × Nat)} {E : Nat → Nat → Option Int} {w : Bool} (h : Tab st t F L E w) : ∀ b, F b → b < st.length := by
  obtain ⟨⟨n, r, rs, a, b⟩, c, d, e⟩ := h
  exact fun x hx => a.lt x ((b x).mp hx)
theorem Tab.self {st : S} {t : Nat} {F : Nat → Prop} {L : List (D × Nat)} {E : Nat → Nat → Option Int} {w : Bool} (h : Tab st t F L E w) : F t := by
  obtain ⟨⟨n, r, rs, a, b⟩, c, d, e⟩ := h
  exact (b t).mpr (.inl rfl)
/-- two maps of distances that say the same of the table's vertices -/
theorem Tab.congr {st : S} {t : Nat} {F : Nat → Prop} {L : List (D × Nat)} {E E' : Nat → Nat → Option Int} {w : Bool} (h : Tab st t F L E w) (e : ∀ p ∈ L, ∀ q ∈ L, E p.2 q.2 = E' p.2 q.2) : Tab st t F L E' w := by
  obtain ⟨⟨n, r, rs, a, b⟩, c, d, s⟩ := h
  have : (L.map fun p => L.map fun q => E p.2 q.2) = L.map fun p => L.map fun q => E' p.2 q.2 := List.map_congr_left fun p hp => List.map_congr_left fun q hq => e p hp q hq
  rw [this] at a
  exact ⟨⟨n, r, rs, a, b⟩, c, d, s⟩
/-- a new table -/
theorem table_init {st : S} {Q : D → S → Prop} (E : Nat → Nat → Option Int) (q : ∀ st' F, Fr FN st st' → (∀ b, F b → st.length ≤ b) → Tab st' st.length F [] E true → Q .non st') : Ok (dn_Table_init [.ref st.length] (st ++ [.ins "Table" []])) Q := by
  have h0 : (st ++ [O.ins "Table" []])[st.length]? = some (.ins "Table" []) := fr_at _ _
  have f0 : Fr FN st (st ++ [O.ins "Table" []]) := .push _ _
  have l0 : (st ++ [O.ins "Table" []]).length = st.length + 1 := by simp
  generalize st ++ [O.ins "Table" []] = s0 at h0 f0 l0
  unfold dn_Table_init b_Table_init
  rw [ok_def]
  refine ⟨rfl, ?_⟩
  have a1 : (s0 ++ [O.lst []])[st.length]? = some (.ins "Table" []) := (Fr.push (F := FN) _ _).at0 h0
  have b1 : (s0 ++ [O.lst []])[s0.length]? = some (.lst []) := fr_at _ _
  wide_open using [a1, show (0 : Nat) ≤ sizeLine from Nat.zero_le _, show (0 : Nat) < 1000 by decide]
  have a2 : ((s0 ++ [O.lst []]).set st.length (.ins "Table" (putD "names" (.ref s0.length) [])))[st.length]? = some (.ins "Table" [("names", .ref s0.length)]) := st_at a1
  have b2 := st_ot (o := .ins "Table" (putD "names" (.ref s0.length) [])) b1 (show st.length ≠ s0.length by omega)
  have f2 : Fr FN st ((s0 ++ [O.lst []]).set st.length (.ins "Table" (putD "names" (.ref s0.length) []))) := (f0.trans (.push _ _)).set (.inr (Nat.le_refl _))
  have l2 : ((s0 ++ [O.lst []]).set st.length (.ins "Table" (putD "names" (.ref s0.length) []))).length = st.length + 2 := by simp [l0]
  generalize (s0 ++ [O.lst []]).set st.length (.ins "Table" (putD "names" (.ref s0.length) [])) = s2 at a2 b2 f2 l2
  have a3 : (s2 ++ [O.lst []])[st.length]? = some (.ins "Table" [("names", .ref s0.length)]) := (Fr.push (F := FN) _ _).at0 a2
  have b3 : (s2 ++ [O.lst []])[s0.length]? = some (.lst []) := (Fr.push (F := FN) _ _).at0 b2
  have c3 : (s2 ++ [O.lst []])[s2.length]? = some (.lst []) := fr_at _ _
  have f3 : Fr FN st (s2 ++ [O.lst []]) := f2.trans (.push _ _)
  generalize s2 ++ [O.lst []] = s3 at a3 b3 c3 f3
  have a4 : (s3.set st.length (.ins "Table" (putD "rows" (.ref s2.length) [("names", .ref s0.length)])))[st.length]? = some (.ins "Table" [("names", .ref s0.length), ("rows", .ref s2.length)]) := st_at a3
  wide_open using [a3, show (1 : Nat) < 1000 by decide, show (0 : Nat) + 1 < 1000 by decide, a4, show (2 : Nat) < 1000 by decide, show (0 : Nat) + 1 + 1 < 1000 by decide]
  have a5 : (s3.set st.length (.ins "Table" (putD "whole" (.bl true) [("names", .ref s0.length), ("rows", .ref s2.length)])))[st.length]? = some (tabO s0.length s2.length true) := st_at a3
  refine q _ (Fp st.length s0.length s2.length []) (f3.set (.inr (Nat.le_refl _))) ?_ ⟨⟨s0.length, s2.length, [], ⟨a5, st_ot b3 (by omega), st_ot c3 (by omega), rfl, fun i _ _ z => by simp at z, List.nodup_nil, by omega, by omega, by omega, (fun _ z => nomatch z)⟩, fun _ => Iff.rfl⟩, (fun _ z => nomatch z), List.nodup_nil, by simp⟩
  rintro b (rfl | rfl | rfl | hb)
  · omega
  · omega
  · omega
  · cases hb

section
variable {st : S} {t : Nat} {F : Nat → Prop} {L : List (D × Nat)} {E : Nat → Nat → Option Int} {w : Bool} {Q : D → S → Prop}
theorem Tab.obj (h : Tab st t F L E w) : ∃ n r, st[t]? = some (tabO n r w) := by
  obtain ⟨⟨n, r, rs, a, b⟩, c, d, s⟩ := h
  exact ⟨n, r, a.ht⟩
theorem possible_iff (h : Tab st t F L E w) : Ok (dn_Table_possible [.ref t] st) Q ↔ Q (.bl w) st := by
  obtain ⟨n, r, ht⟩ := h.obj
  unfold dn_Table_possible b_Table_possible
  rw [ok_def]
  wide_open using [ht, lk_whole]
end
/-! put_bound -/
theorem mn_none {x : Option Int} : mn x none = x := by cases x <;> rfl
theorem zipWith_map2 {α β γ δ : Type} {f : β → γ → δ} {g : α → β} {h : α → γ} : ∀ {l : List α}, List.zipWith f (l.map g) (l.map h) = l.map fun x => f (g x) (h x)
  | [] => rfl
  | x :: l => by rw [List.map_cons, List.map_cons, List.zipWith_cons_cons, zipWith_map2, List.map_cons]
def zipR (base : Int) (cur ow : Row) : Row := List.zipWith (fun x y => mn x (ad (some base) y)) cur ow
theorem zipR_at {base : Int} {cur ow : Row} {k : Nat} {x y : Option Int} (h : cur[k]? = some x) (h' : ow[k]? = some y) : (zipR base cur ow)[k]? = some (mn x (ad (some base) y)) := by
  unfold zipR; rw [List.getElem?_zipWith, h, h']
theorem set_mid {α : Type} {Z C : List α} {k : Nat} {z : α} (hl : Z.length = C.length) (hz : Z[k]? = some z) : (Z.take k ++ C.drop k).set k z = Z.take (k + 1) ++ C.drop (k + 1) := by
  have hk := (List.getElem?_eq_some_iff.mp hz).1
  have e1 : (Z.take k).length = k := by rw [List.length_take]; omega
  rw [List.set_append_right _ _ (by omega), e1, Nat.sub_self, mem_split hz, List.append_assoc]
  rw [List.drop_eq_getElem_cons (show k < C.length by omega)]
  rfl
theorem put_inner {st : S} {ri o : Nat} {base : Int} {cur ow : Row} {a0 a1 a2 a3 a4 a5 a6 a10 a11 : Option D} {V : Fl × En → S → Prop} (hl : cur.length = ow.length) (hz : cur.length ≤ 1000) (h : st[ri]? = some (.lst (cur.map optD))) (ho : st[o]? = some (.lst (ow.map optD))) (ne : ri ≠ o)
    (q : ∀ a10 a11, V (.nx, [a0, a1, a2, a3, a4, a5, a6, some (.ref o), some (.ref ri), some (.int base), a10, a11]) (st.set ri (.lst ((zipR base cur ow).map optD)))) :
    Ok (loopD ⟨enD (ow.map optD), [(o, ow.map optD)]⟩ (bTup 2 (bCons (bName 10) (bCons (bName 11) bNil)))
    (sIf (dB (dO2 dIsNot (dVar 11) (dC .non)))
    (sSetI (dVar 8) (dVar 10) (dCall 2 dn_lesser (dCons (dO2 dIx (dVar 8) (dVar 10)) (dCons (dO2 dAdd (dVar 9) (dVar 11)) dNil))))
    sPass) (enD (ow.map optD)) [a0, a1, a2, a3, a4, a5, a6, some (.ref o), some (.ref ri), some (.int base), a10, a11] st) V := by
  have hZ : (zipR base cur ow).length = cur.length := by simp [zipR]; omega
  have z0 : st.set ri (.lst (((zipR base cur ow).take 0 ++ cur.drop 0).map optD)) = st := set_same (by simpa using h)
  refine ok_loop0 (fun k en st' => ∃ a10 a11, en = [a0, a1, a2, a3, a4, a5, a6, some (.ref o), some (.ref ri), some (.int base), a10, a11] ∧ st' = st.set ri (.lst (((zipR base cur ow).take k ++ cur.drop k).map optD)))
    ⟨_, _, rfl, z0.symm⟩ (fun i en st' ⟨_, _, _, e⟩ => ?_) ?_ ?_
  · subst e
    exact wk1 (st_ot ho ne)
  · rintro k d en st' hd ⟨a10, a11, rfl, rfl⟩
    obtain ⟨x, hx, rfl⟩ := enD_get hd
    rw [List.getElem?_map, Option.map_eq_some_iff] at hx
    obtain ⟨y, hy, rfl⟩ := hx
    have hk := (List.getElem?_eq_some_iff.mp hy).1
    have hc := List.getElem?_eq_getElem (l := cur) (i := k) (by omega)
    generalize cur[k]'(by omega) = c at hc
    have hzk := zipR_at (base := base) hc hy
    have hs := set_mid hZ hzk
    have hm : ((zipR base cur ow).take k ++ cur.drop k)[k]? = some c := by
      rw [List.getElem?_append_right (by rw [List.length_take]; omega), List.length_take, List.getElem?_drop, Nat.min_eq_left (by omega)]
      rw [show k + (k - k) = k by omega]; exact hc
    have hml : ((zipR base cur ow).take k ++ cur.drop k).length = cur.length := by simp [hZ]; omega
    generalize (zipR base cur ow).take k ++ cur.drop k = M at hs hm hml ⊢
    have h1 := st_at (o := .lst (M.map optD)) h
    have g1 : atI (M.map optD) (k : Int) = some (optD c) := atI_map hm
    have i1 : ixN (M.map optD).length (k : Int) = some k := ix_nat (by rw [List.length_map]; omega)
    refine ⟨_, rfl, ?_⟩
    rw [← hs]
    cases y with
    | none =>
      have e : M.set k (mn c (ad (some base) none)) = M := by
        rw [show ad (some base) none = none from rfl, mn_none]
        exact List.ext_getElem? fun j => by
          by_cases z : k = j
          · subst z; rw [List.getElem?_set_self (by omega), hm]
          · rw [List.getElem?_set_ne z]
      wide_open using [e]
    | some y =>
      have l1 : ∀ Q : D → S → Prop, Ok (dn_lesser [optD c, .int (base + y)] (st.set ri (.lst (M.map optD)))) Q ↔ Q (optD (mn c (some (base + y)))) (st.set ri (.lst (M.map optD))) := fun Q => lesser_iff (y := some (base + y))
      wide_open using [h1, g1, l1, i1, List.map_set, ad]
  · rintro en st' ⟨a10, a11, rfl, rfl⟩
    have e : (enD (ow.map optD)).length = cur.length := by simp [enD, hl]
    have := q a10 a11
    simp only [e]
    rw [List.take_of_length_le (by omega), List.drop_of_length_le (by omega), List.append_nil]
    exact this
theorem Tp.setRow {st : S} {t n r : Nat} {rs : List Nat} {names : List D} {rows : List Row} {w : Bool} (h : Tp st t n r rs names rows w) {k ri : Nat} (hk : rs[k]? = some ri) (row : Row) : Tp (st.set ri (.lst (row.map optD))) t n r rs names (rows.set k row) w := by
  have hm := h.rt ri (List.mem_of_getElem? hk)
  refine ⟨st_ot h.ht hm.1, st_ot h.hn hm.2.1, st_ot h.hr hm.2.2, by rw [List.length_set]; exact h.hl, fun i x y hx hy => ?_, h.nd, h.tn, h.tr, h.nr, h.rt⟩
  have hkl := (List.getElem?_eq_some_iff.mp hk).1
  have hl := h.hl
  by_cases e : i = k
  · subst e
    rw [hk] at hx; cases hx
    rw [List.getElem?_set_self (by omega)] at hy; cases hy
    have hz := List.getElem?_eq_getElem (l := rows) (i := i) (by omega)
    exact st_at (h.hrow i ri _ hk hz)
  · rw [List.getElem?_set_ne (Ne.symm e)] at hy
    refine st_ot (h.hrow i x y hx hy) fun z => e ?_
    subst z
    exact nd_inj h.nd hx hk
theorem put_ok {st : S} {t : Nat} {F : Nat → Prop} {L : List (D × Nat)} {E : Nat → Nat → Option Int} {w : Bool} {Q : D → S → Prop} (h : Tab st t F L E w) {i j : Nat} {p q : D × Nat} (hp : L[i]? = some p) (hq : L[j]? = some q) {a : Int}
    (q1 : ∀ d, E q.2 p.2 = some d → d + a < 0 → ∀ st', Fr F st st' → Tab st' t F L E false → Q (.bl false) st')
    (q2 : (∀ d, E q.2 p.2 = some d → 0 ≤ d + a) → ∀ st', Fr F st st' → Tab st' t F L (upD E p.2 q.2 a) w → Q (.bl true) st') :
    Ok (dn_Table_put_bound [.ref t, p.1, q.1, .int a] st) Q := by
  obtain ⟨⟨n, r, rs, T, b⟩, c, d, s⟩ := h
  have hF := fun x => (b x).mpr
  have h1 := T.ht
  have h2 := T.hn
  have h3 := T.hr
  have hi := (List.getElem?_eq_some_iff.mp hp).1
  have hj := (List.getElem?_eq_some_iff.mp hq).1
  have hl := T.hl
  rw [List.length_map] at hl
  have h4 := List.getElem?_eq_getElem (l := rs) (i := j) (by omega)
  generalize rs[j]'(by omega) = rj at h4
  have h5 := T.hrow j rj (L.map fun x => E q.2 x.2) h4 (by rw [List.getElem?_map, hq]; rfl)
  have i1 : ∀ Q : D → S → Prop, Ok (mIndex (.ref n) [p.1] st) Q ↔ Q (.int (i : Nat)) st := fun Q => v_index h2 (c p (List.mem_of_getElem? hp)) (fun x hx => by obtain ⟨y, hy, rfl⟩ := List.mem_map.mp hx; exact c y hy) d (by rw [List.getElem?_map, hp]; rfl)
  have i2 : ∀ Q : D → S → Prop, Ok (mIndex (.ref n) [q.1] st) Q ↔ Q (.int (j : Nat)) st := fun Q => v_index h2 (c q (List.mem_of_getElem? hq)) (fun x hx => by obtain ⟨y, hy, rfl⟩ := List.mem_map.mp hx; exact c y hy) d (by rw [List.getElem?_map, hq]; rfl)
  have g1 : atI (rs.map D.ref) (j : Int) = some (.ref rj) := atI_map h4
  have g2 : atI ((L.map fun x => E q.2 x.2).map optD) (i : Int) = some (optD (E q.2 p.2)) := atI_map (x := E q.2 p.2) (by rw [List.getElem?_map, hp]; rfl)
  unfold dn_Table_put_bound b_Table_put_bound
  rw [ok_def]
  refine ⟨rfl, ?_⟩
  have fz : Fr F st (st ++ [.lst ((L.map fun x => E q.2 x.2).map optD)]) := .push _ _
  have T0 : Tp (st ++ [.lst ((L.map fun x => E q.2 x.2).map optD)]) t n r rs (L.map (·.1)) (L.map fun p => L.map fun q => E p.2 q.2) w := T.fr (F := FN) (.push _ _) fun _ _ z => z
  have o0 : (st ++ [O.lst ((L.map fun x => E q.2 x.2).map optD)])[st.length]? = some (.lst ((L.map fun x => E q.2 x.2).map optD)) := fr_at _ _
  have k1 := T0.ht
  have k3 := T0.hr
  have main : (∀ d, E q.2 p.2 = some d → 0 ≤ d + a) → Ok
    (loopD ⟨rs.map D.ref, [(r, rs.map D.ref)]⟩ (bName 8)
      (sIf (dB (dO2 dIsNot (dO2 dIx (dVar 8) (dVar 4)) (dC .non)))
    (sSeq (sSet 9 (dO2 dAdd (dO2 dIx (dVar 8) (dVar 4)) (dVar 3)))
    (sFor (iEn (dCons (dVar 7) dNil)) (bTup 2 (bCons (bName 10) (bCons (bName 11) bNil)))
    (sIf (dB (dO2 dIsNot (dVar 11) (dC .non)))
    (sSetI (dVar 8) (dVar 10) (dCall 2 dn_lesser (dCons (dO2 dIx (dVar 8) (dVar 10)) (dCons (dO2 dAdd (dVar 9) (dVar 11)) dNil))))
    sPass)))
    sPass) (rs.map D.ref) [some (.ref t), some p.1, some q.1, some (.int a), some (.int (i : Nat)), some (.int (j : Nat)), some (optD (E q.2 p.2)), some (.ref st.length), none, none, none, none]
      (st ++ [.lst ((L.map fun x => E q.2 x.2).map optD)]))
      (Sq (sRet (dC (.bl true))) (Rt Q)) := fun hd => by
    generalize st ++ [O.lst ((L.map fun x => E q.2 x.2).map optD)] = s0 at fz T0 o0 k1 k3 ⊢
    have hold : (L.map fun p => L.map fun q => E p.2 q.2).length = L.length := by simp
    have hnew : (L.map fun x => L.map fun y => upD E p.2 q.2 a x.2 y.2).length = (L.map fun p => L.map fun q => E p.2 q.2).length := by simp
    refine ok_loop0 (fun k en st' => ∃ a8 a9 a10 a11, en = [some (.ref t), some p.1, some q.1, some (.int a), some (.int (i : Nat)), some (.int (j : Nat)), some (optD (E q.2 p.2)), some (.ref st.length), a8, a9, a10, a11] ∧ Fr F st st' ∧ st'[st.length]? = some (.lst ((L.map fun x => E q.2 x.2).map optD)) ∧
        Tp st' t n r rs (L.map (·.1)) ((L.map fun x => L.map fun y => upD E p.2 q.2 a x.2 y.2).take k ++ (L.map fun p => L.map fun q => E p.2 q.2).drop k) w)
      ⟨_, _, _, _, rfl, fz, o0, by simpa using T0⟩ (fun k en st' ⟨_, _, _, _, _, _, _, T'⟩ => wk1 T'.hr) ?_ ?_
    · rintro k d en st' hk ⟨a8, a9, a10, a11, rfl, f', o', T'⟩
      have hk : (rs.map D.ref)[k]? = some d := hk
      rw [List.getElem?_map, Option.map_eq_some_iff] at hk
      obtain ⟨ri, hri, rfl⟩ := hk
      have hkl := (List.getElem?_eq_some_iff.mp hri).1
      have hu := List.getElem?_eq_getElem (l := L) (i := k) (by omega)
      generalize L[k]'(by omega) = u at hu
      have hnk : (L.map fun x => L.map fun y => upD E p.2 q.2 a x.2 y.2)[k]? = some (L.map fun y => upD E p.2 q.2 a u.2 y.2) := by rw [List.getElem?_map, hu]; rfl
      have hok : ((L.map fun x => L.map fun y => upD E p.2 q.2 a x.2 y.2).take k ++ (L.map fun p => L.map fun q => E p.2 q.2).drop k)[k]? = some (L.map fun y => E u.2 y.2) := by
        rw [List.getElem?_append_right (by rw [List.length_take]; omega), List.length_take, List.getElem?_drop, Nat.min_eq_left (by omega), show k + (k - k) = k by omega, List.getElem?_map, hu]; rfl
      have hs := set_mid hnew hnk
      have hrow := T'.hrow k ri _ hri hok
      have g3 : atI ((L.map fun y => E u.2 y.2).map optD) (i : Int) = some (optD (E u.2 p.2)) := atI_map (x := E u.2 p.2) (by rw [List.getElem?_map, hp]; rfl)
      have Tn := T'.setRow hri (L.map fun y => upD E p.2 q.2 a u.2 y.2)
      rw [hs] at Tn
      have hro : ri ≠ st.length := by
        have := T.lt ri (.inr (.inr (.inr (List.mem_of_getElem? hri)))); omega
      have fri : F ri := (b ri).mpr (.inr (.inr (.inr (List.mem_of_getElem? hri))))
      refine ⟨_, rfl, ?_⟩
      cases hE : E u.2 p.2 with
      | none =>
        have er : (L.map fun y => upD E p.2 q.2 a u.2 y.2) = L.map fun y => E u.2 y.2 := List.map_congr_left fun y _ => by unfold upD; rw [hE]; exact mn_none
        rw [er, set_same hrow] at Tn
        rw [hE] at g3
        wide_open using [hrow, g3]
        exact ⟨f', o', Tn⟩
      | some e =>
        rw [hE] at g3
        have er : (L.map fun y => upD E p.2 q.2 a u.2 y.2) = zipR (e + a) (L.map fun y => E u.2 y.2) (L.map fun x => E q.2 x.2) := by
          unfold zipR upD
          rw [hE, zipWith_map2]
          refine List.map_congr_left fun y _ => ?_
          cases E q.2 y.2 <;> simp [ad, Int.add_assoc]
        simp only [bName, List.set_cons_succ, List.set_cons_zero]
        wide_open using [hrow, g3, o']
        refine put_inner (by simp) (by simpa using s) hrow o' hro fun a10 a11 => ?_
        rw [tn_nx]
        rw [er] at Tn
        exact ⟨⟨_, _, _, _, rfl⟩, f'.set (.inl fri), st_ot o' hro, Tn⟩
    · rintro en st' ⟨a8, a9, a10, a11, rfl, f', o', T'⟩
      wide_open using []
      have e : (rs.map D.ref).length = L.length := by rw [List.length_map]; exact hl
      simp only [e] at T'
      rw [List.take_of_length_le (by simp), List.drop_of_length_le (by simp), List.append_nil] at T'
      exact q2 hd st' f' ⟨⟨n, r, rs, T', b⟩, c, d, s⟩
  cases he : E q.2 p.2 with
  | none =>
    have := main (by rw [he]; intro d z; cases z)
    rw [he] at g2 this
    wide_open using [h1, lk_names, lk_rows, h2, h3, i1, i2, g1, h5, g2, k1, k3]
    exact this
  | some d =>
    rw [he] at g2
    wide_open using [h1, lk_names, lk_rows, h2, h3, i1, i2, g1, h5, g2, k1, k3]
    split
    · rename_i hlt
      refine ⟨by decide, ?_⟩
      rw [pd_whole]
      refine q1 d he hlt _ ((Fr.refl _).set (.inl ((b t).mpr (.inl rfl)))) ⟨⟨n, r, rs, ?_, b⟩, c, by assumption, s⟩
      exact ⟨st_at h1, st_ot T.hn T.tn, st_ot T.hr T.tr, T.hl, fun i ri row x y => st_ot (T.hrow i ri row x y) (T.rt ri (List.mem_of_getElem? x)).1.symm, T.nd, T.tn, T.tr, T.nr, T.rt⟩
    · rename_i hlt
      have := main (by rw [he]; intro d' z; cases z; omega)
      rw [he] at this
      exact this

/-! add_point -/
theorem add_ok {st : S} {t : Nat} {F : Nat → Prop} {L : List (D × Nat)} {E : Nat → Nat → Option Int} {w : Bool} {Q : D → S → Prop} (h : Tab st t F L E w) {p : D} {v : Nat} (hp : Pn p) (np : p ∉ L.map (·.1)) (hm : L.length < 1000)
    (e0 : E v v = some 0) (e1 : ∀ x ∈ L, E x.2 v = none) (e2 : ∀ x ∈ L, E v x.2 = none)
    (q : ∀ st' F', Fr F st st' → (∀ b, F' b → F b ∨ st.length ≤ b) → Tab st' t F' (L ++ [(p, v)]) E w → Q .non st') : Ok (dn_Table_add_point [.ref t, p] st) Q := by
  obtain ⟨⟨n, r, rs, T, b⟩, c, d, s⟩ := h
  have h1 := T.ht
  have h2 := T.hn
  have h3 := T.hr
  have hl := T.hl
  have ltt := T.lt
  rw [List.length_map] at hl
  unfold dn_Table_add_point b_Table_add_point
  rw [ok_def]
  refine ⟨rfl, ?_⟩
  have Tz : Tp (st.set n (.lst (L.map (·.1) ++ [p]))) t n r rs (L.map (·.1) ++ [p]) (L.map fun p => L.map fun q => E p.2 q.2) w :=
    ⟨st_ot h1 T.tn.symm, st_at h2, st_ot h3 T.nr, T.hl, fun i ri row x y => st_ot (T.hrow i ri row x y) (T.rt ri (List.mem_of_getElem? x)).2.1.symm, T.nd, T.tn, T.tr, T.nr, T.rt⟩
  have fz : Fr F st (st.set n (.lst (L.map (·.1) ++ [p]))) := (Fr.refl _).set (.inl ((b n).mpr (.inr (.inl rfl))))
  have lz : (st.set n (.lst (L.map (·.1) ++ [p]))).length = st.length := by rw [List.length_set]
  have k1 := Tz.ht
  have k3 := Tz.hr
  wide_open using [h1, lk_names, lk_rows, h2, k1, k3]
  refine ⟨by rw [List.length_map]; exact sml' (by omega), ?_⟩
  generalize st.set n (.lst (L.map (·.1) ++ [p])) = s0 at fz Tz k1 k3 lz ⊢
  have hold : (L.map fun p => L.map fun q => E p.2 q.2).length = L.length := by simp
  have hnew : (L.map fun x => (L.map fun y => E x.2 y.2) ++ [none]).length = (L.map fun p => L.map fun q => E p.2 q.2).length := by simp
  refine ok_loop0 (fun k en st' => (∃ a2, en = [some (.ref t), some p, a2]) ∧ Fr F st st' ∧ st'.length = st.length ∧
        Tp st' t n r rs (L.map (·.1) ++ [p]) ((L.map fun x => (L.map fun y => E x.2 y.2) ++ [none]).take k ++ (L.map fun p => L.map fun q => E p.2 q.2).drop k) w)
      ⟨⟨_, rfl⟩, fz, lz, by simpa using Tz⟩ (fun k en st' ⟨_, _, _, T'⟩ => wk1 T'.hr) ?_ ?_
  · rintro k d en st' hk ⟨⟨a2, rfl⟩, f', l', T'⟩
    have hk : (rs.map D.ref)[k]? = some d := hk
    rw [List.getElem?_map, Option.map_eq_some_iff] at hk
    obtain ⟨ri, hri, rfl⟩ := hk
    have hkl := (List.getElem?_eq_some_iff.mp hri).1
    have hu := List.getElem?_eq_getElem (l := L) (i := k) (by omega)
    generalize L[k]'(by omega) = u at hu
    have hnk : (L.map fun x => (L.map fun y => E x.2 y.2) ++ [none])[k]? = some ((L.map fun y => E u.2 y.2) ++ [none]) := by rw [List.getElem?_map, hu]; rfl
    have hok : ((L.map fun x => (L.map fun y => E x.2 y.2) ++ [none]).take k ++ (L.map fun p => L.map fun q => E p.2 q.2).drop k)[k]? = some (L.map fun y => E u.2 y.2) := by
      rw [List.getElem?_append_right (by rw [List.length_take]; omega), List.length_take, List.getElem?_drop, Nat.min_eq_left (by omega), show k + (k - k) = k by omega, List.getElem?_map, hu]; rfl
    have hs := set_mid hnew hnk
    have hrow := T'.hrow k ri _ hri hok
    have Tn := T'.setRow hri ((L.map fun y => E u.2 y.2) ++ [none])
    rw [hs] at Tn
    have fri : F ri := (b ri).mpr (.inr (.inr (.inr (List.mem_of_getElem? hri))))
    refine ⟨_, rfl, ?_⟩
    wide_open using [hrow]
    refine ⟨by simp; exact sml' (by omega), f'.set (.inl fri), by rw [List.length_set]; exact l', ?_⟩
    rw [List.map_append] at Tn
    exact Tn
  · rintro en st' ⟨⟨a2, rfl⟩, f', l', T'⟩
    have e : (rs.map D.ref).length = L.length := by rw [List.length_map]; exact hl
    simp only [e] at T'
    rw [List.take_of_length_le (by simp), List.drop_of_length_le (by simp), List.append_nil] at T'
    have j1 := T'.ht
    have j2 := T'.hn
    have j3 := T'.hr
    have x1 := (Fr.push (F := FN) st' (.lst [D.non])).at0 j1
    have x2 := (Fr.push (F := FN) st' (.lst [D.non])).at0 j2
    have x0 := fr_at st' (.lst [D.non])
    have f1 := f'.trans (Fr.push (F := F) st' (.lst [D.non]))
    have T1 := T'.fr (Fr.push (F := FN) st' (.lst [D.non])) fun _ _ z => z
    have l1 : (st' ++ [O.lst [D.non]]).length = st.length + 1 := by simp [l']
    generalize hs1 : st' ++ [O.lst [D.non]] = s1 at x1 x2 x0 f1 T1 l1
    have m1 : ∀ (Q : D → S → Prop) (k : Int), Ok (dMul (.ref st'.length) (.int k) s1) Q ↔ _ := fun Q k => v_rep x0
    wide_open using [j1, j3, lk_rows, lk_names, hs1, x1, x2, m1]
    have em : (((L.map (·.1) ++ [p]).length : Nat) : Int) - 1 = (L.length : Nat) := by simp
    rw [em]
    have ef : (List.replicate ((L.length : Nat) : Int).toNat [D.non]).flatten = (List.replicate L.length (none : Option Int)).map optD := by
      rw [Int.toNat_natCast, List.map_replicate]
      show _ = List.replicate L.length D.non
      induction L.length with
      | zero => rfl
      | succ k ih => rw [List.replicate_succ, List.replicate_succ, List.flatten_cons, ih]; rfl
    rw [ef]
    refine ⟨sml (by omega), by omega, by omega, by rw [Int.toNat_natCast]; exact sml (by omega), sml (by omega), ?_⟩
    have y2 := fr_at s1 (.lst ((List.replicate L.length (none : Option Int)).map optD))
    have f2 := f1.trans (Fr.push (F := F) s1 (.lst ((List.replicate L.length (none : Option Int)).map optD)))
    have T2 := T1.fr (Fr.push (F := FN) s1 (.lst ((List.replicate L.length (none : Option Int)).map optD))) fun _ _ z => z
    have l2 : (s1 ++ [O.lst ((List.replicate L.length (none : Option Int)).map optD)]).length = st.length + 2 := by simp [l1]
    generalize s1 ++ [O.lst ((List.replicate L.length (none : Option Int)).map optD)] = s2 at y2 f2 T2 l2 ⊢
    have y3 := (Fr.push (F := FN) s2 (.lst [D.int 0])).at0 y2
    have z3 := fr_at s2 (.lst [D.int 0])
    have f3 := f2.trans (Fr.push (F := F) s2 (.lst [D.int 0]))
    have T3 := T2.fr (Fr.push (F := FN) s2 (.lst [D.int 0])) fun _ _ z => z
    have l3 : (s2 ++ [O.lst [D.int 0]]).length = st.length + 3 := by simp [l2]
    generalize s2 ++ [O.lst [D.int 0]] = s3 at y3 z3 f3 T3 l3 ⊢
    rw [v_addL y3 z3]
    refine ⟨by simp; exact sml (by omega), ?_⟩
    have er : (List.replicate L.length (none : Option Int)).map optD ++ [D.int 0] = ((L.map fun x => E v x.2) ++ [E v v]).map optD := by
      rw [e0, List.map_append]
      congr 1
      rw [List.map_replicate, List.map_map]
      symm
      rw [List.eq_replicate_iff]
      refine ⟨by simp, fun x hx => ?_⟩
      obtain ⟨y, hy, rfl⟩ := List.mem_map.mp hx
      simp only [Function.comp, e2 y hy]
    rw [er]
    have z4 := fr_at s3 (.lst (((L.map fun x => E v x.2) ++ [E v v]).map optD))
    have f4 := f3.trans (Fr.push (F := F) s3 (.lst (((L.map fun x => E v x.2) ++ [E v v]).map optD)))
    have T4 := T3.fr (Fr.push (F := FN) s3 (.lst (((L.map fun x => E v x.2) ++ [E v v]).map optD))) fun _ _ z => z
    generalize hs4 : s3 ++ [O.lst (((L.map fun x => E v x.2) ++ [E v v]).map optD)] = s4 at z4 f4 T4 ⊢
    refine ⟨_, T4.hr, by simp; exact sml' (by omega), ?_⟩
    have ltr := ltt r (.inr (.inr (.inl rfl)))
    refine q _ (Fp t n r (rs ++ [s3.length])) (f4.set (.inl ((b r).mpr (.inr (.inr (.inl rfl)))))) ?_ ⟨⟨n, r, rs ++ [s3.length], ?_, fun _ => Iff.rfl⟩, fun x hx => ?_, ?_, by simp; omega⟩
    · rintro x (z | z | z | z)
      · exact .inl ((b x).mpr (.inl z))
      · exact .inl ((b x).mpr (.inr (.inl z)))
      · exact .inl ((b x).mpr (.inr (.inr (.inl z))))
      · rcases List.mem_append.mp z with z | z
        · exact .inl ((b x).mpr (.inr (.inr (.inr z))))
        · rw [List.mem_singleton.mp z]; exact .inr (by omega)
    · have hrl : ∀ x ∈ rs, x < st.length := fun x hx => ltt x (.inr (.inr (.inr hx)))
      have htl := ltt t (.inl rfl)
      have hnl := ltt n (.inr (.inl rfl))
      have rowsE : ((L ++ [(p, v)]).map fun x => (L ++ [(p, v)]).map fun y => E x.2 y.2) = (L.map fun x => (L.map fun y => E x.2 y.2) ++ [none]) ++ [(L.map fun x => E v x.2) ++ [E v v]] := by
        simp only [List.map_append, List.map_cons, List.map_nil]
        congr 1
        exact List.map_congr_left fun x hx => by rw [e1 x hx]
      rw [rowsE]
      refine ⟨st_ot T4.ht T.tr.symm, by rw [List.map_append]; exact st_ot T4.hn T.nr.symm, ?_, by simp [hl], fun i x y hx hy => ?_, ?_, T.tn, T.tr, T.nr, fun x hx => ?_⟩
      · rw [st_at T4.hr, List.map_append]; rfl
      · by_cases hi : i < L.length
        · rw [List.getElem?_append_left (by omega)] at hx
          rw [List.getElem?_append_left (by simpa using hi)] at hy
          exact st_ot (T4.hrow i x y hx hy) (T.rt x (List.mem_of_getElem? hx)).2.2.symm
        · have hi2 := (List.getElem?_eq_some_iff.mp hy).1
          simp at hi2
          have : i = L.length := by omega
          subst this
          rw [List.getElem?_append_right (by omega), hl, Nat.sub_self] at hx
          rw [List.getElem?_append_right (by simp)] at hy
          simp at hx hy
          subst hx hy
          exact st_ot (by simpa using z4) (by omega)
      · rw [List.nodup_append]
        exact ⟨T.nd, by simp, fun x hx y hy => by rw [List.mem_singleton.mp hy]; have := hrl x hx; omega⟩
      · rcases List.mem_append.mp hx with z | z
        · exact T.rt x z
        · rw [List.mem_singleton.mp z]; omega
    · rcases List.mem_append.mp hx with z | z
      · exact c x z
      · rw [List.mem_singleton.mp z]; exact hp
    · rw [List.map_append, List.nodup_append]
      exact ⟨by assumption, by simp, fun x hx y hy => by simp at hy; subst hy; intro z; subst z; exact np hx⟩

/-! keep_points -/
theorem enD_map {l : List D} : enD l = l.zipIdx.map fun p => .tup [.int ((p.2 : Nat) : Int), p.1] := rfl
theorem zipIdx_mem {α : Type} {l : List α} {x : α × Nat} (h : x ∈ l.zipIdx) : l[x.2]? = some x.1 := by
  obtain ⟨a, i⟩ := x
  exact List.mem_zipIdx_iff_getElem?.mp h
/-- the numbers of those that stay -/
noncomputable def stay (L : List (D × Nat)) (ks : List D) : List ((D × Nat) × Nat) := L.zipIdx.filter fun x => @decide (x.1.1 ∈ ks) (Classical.propDecidable _)
noncomputable def keepL (L : List (D × Nat)) (ks : List D) : List (D × Nat) := L.filter fun x => @decide (x.1 ∈ ks) (Classical.propDecidable _)
theorem fm_congr {α β : Type} {f g : α → Option β} : ∀ {l : List α}, (∀ x ∈ l, f x = g x) → l.filterMap f = l.filterMap g
  | [], _ => rfl
  | x :: l, h => by
    rw [List.filterMap_cons, List.filterMap_cons, h x List.mem_cons_self, fm_congr fun y hy => h y (List.mem_cons_of_mem _ hy)]
theorem stay_fst {L : List (D × Nat)} {ks : List D} : (stay L ks).map (·.1) = keepL L ks := by
  unfold stay keepL
  have h1 : (L.zipIdx.map (·.1)) = L := List.zipIdx_map_fst 0 L
  conv => rhs; rw [← h1]
  rw [List.filter_map]
  rfl
theorem stay_at {L : List (D × Nat)} {ks : List D} {x : (D × Nat) × Nat} (h : x ∈ stay L ks) : L[x.2]? = some x.1 := zipIdx_mem (List.mem_filter.mp h).1
theorem stay_len {L : List (D × Nat)} {ks : List D} : (stay L ks).length ≤ L.length := by
  have := List.length_filter_le (fun x : (D × Nat) × Nat => @decide (x.1.1 ∈ ks) (Classical.propDecidable _)) L.zipIdx
  rw [List.length_zipIdx] at this
  exact this

/-! the points of the laws of tables -/
def p3 (a b c : Int) : D := .tup [.int a, .int b, .int c]
def pts7 : List D := [p3 (-1) 0 (-1), p3 0 1 (-1), p3 0 2 (-1), p3 1 1 (-1), p3 0 1 0, p3 0 2 0, p3 1 1 1]
theorem pts7_pn : ∀ x ∈ pts7, Pn x ∧ ∃ k, x = .tup k := by
  intro x hx
  simp only [pts7, List.mem_cons, List.not_mem_nil, or_false] at hx
  rcases hx with rfl | rfl | rfl | rfl | rfl | rfl | rfl <;> exact ⟨⟨rfl, rfl⟩, _, rfl⟩
theorem pts7_nd : pts7.Nodup := by simp [pts7, p3]
/-- the points of a law, numbered -/
def num (P : List D) : List (D × Nat) := P.zipIdx
theorem num_at {P : List D} {i : Nat} {p : D} (h : P[i]? = some p) : (num P)[i]? = some (p, i) := by
  unfold num; rw [List.getElem?_zipIdx, h]; simp
theorem num_fst {P : List D} : (num P).map (·.1) = P := List.zipIdx_map_fst 0 P
theorem num_len {P : List D} : (num P).length = P.length := List.length_zipIdx ..
theorem num_mem {P : List D} {x : D × Nat} (h : x ∈ num P) : P[x.2]? = some x.1 := zipIdx_mem h
/-- all points of a list are put into an empty table: the loop in any def, at any slots -/
theorem fill_ok {st : S} {t pr i j : Nat} {en : En} {F : Nat → Prop} {P : List D} {E : Nat → Nat → Option Int} {V : Fl × En → S → Prop} (ht : Tab st t F [] E true) (ne : i ≠ j) (hi : en[i]? = some (some (.ref t))) (hj : j < en.length)
    (hp : st[pr]? = some (.lst P)) (fp : ¬ F pr) (hmP : ∀ x ∈ P, Pn x) (nd : P.Nodup) (hz : P.length < 1000) (e0 : ∀ v, E v v = some 0) (e1 : ∀ u v, u ≠ v → E u v = none)
    (q : ∀ a st' F', Fr F st st' → (∀ b, F' b → F b ∨ st.length ≤ b) → Tab st' t F' (num P) E true → V (.nx, en.set j a) st') :
    Ok (loopD ⟨P, [(pr, P)]⟩ (bName j) (sExpr (dMet [("Table", dn_Table_add_point)] "add_point" 2 (dVar i) (dCons (dVar j) dNil))) P en st) V := by
  have hpl := lt_at hp
  have hself : en.set j (en[j]'hj) = en := List.set_getElem_self hj
  refine ok_loop0 (w := ⟨P, [(pr, P)]⟩) (fun k en' st' => (∃ a, en' = en.set j a) ∧ ∃ F', Tab st' t F' (num (P.take k)) E true ∧ (∀ b, F' b → F b ∨ st.length ≤ b) ∧ Fr F st st')
    ⟨⟨_, hself.symm⟩, F, by simpa [num] using ht, fun b hb => .inl hb, .refl _⟩ (fun k en st' ⟨_, _, _, _, f⟩ => wk1 (f.at_ hp fp)) ?_ ?_
  · rintro k p en' st' hpk ⟨⟨a, rfl⟩, F', tb, hF, f⟩
    have hpk : P[k]? = some p := hpk
    obtain ⟨n, r, ho⟩ := tb.obj
    have hk := (List.getElem?_eq_some_iff.mp hpk).1
    have g1 : (en.set j (some p))[i]? = some (some (.ref t)) := by rw [List.getElem?_set_ne (Ne.symm ne)]; exact hi
    have g2 : (en.set j (some p))[j]? = some (some p) := List.getElem?_set_self hj
    refine ⟨_, rfl, ?_⟩
    wide_open using [g1, g2, ho]
    refine ⟨rfl, ?_⟩
    have hlen : (num (P.take k)).length = k := by rw [num_len, List.length_take]; omega
    have hid : ∀ x ∈ num (P.take k), x.2 < k := fun x hx => by
      have := (List.getElem?_eq_some_iff.mp (num_mem hx)).1
      rw [List.length_take] at this; omega
    refine add_ok tb (v := k) (hmP p (List.mem_of_getElem? hpk)) (by
      rw [num_fst]
      intro z
      obtain ⟨i, hi⟩ := List.getElem?_of_mem z
      have hi2 := (List.getElem?_eq_some_iff.mp hi).1
      rw [List.length_take] at hi2
      rw [List.getElem?_take_of_lt (by omega)] at hi
      have := nd_inj nd hi hpk
      omega) (by omega) (e0 k) (fun x hx => e1 _ _ (by have := hid x hx; omega)) (fun x hx => e1 _ _ (by have := hid x hx; omega)) fun st'' F'' f'' hF'' tb' => ?_
    refine ⟨⟨_, rfl⟩, F'', ?_, fun b hb => ?_, f.trans' f'' hF⟩
    · have : num (P.take (k + 1)) = num (P.take k) ++ [(p, k)] := by
        unfold num
        rw [mem_split hpk, List.zipIdx_append, List.length_take, Nat.min_eq_left (by omega)]
        simp
      rw [this]; exact tb'
    · rcases hF'' b hb with z | z
      · exact hF b z
      · exact .inr (Nat.le_trans f.len z)
  · rintro en' st' ⟨⟨a, rfl⟩, F', tb, hF, f⟩
    rw [show ({ items := P, src := [(pr, P)] } : Wk).items.length = P.length from rfl, List.take_length] at tb
    exact q a st' F' f hF tb
/-- no arcs: the first distances -/
def E0 : Nat → Nat → Option Int := fun u v => if u = v then some 0 else none
theorem E0_self (v : Nat) : E0 v v = some 0 := by simp [E0]
theorem E0_ne (u v : Nat) (h : u ≠ v) : E0 u v = none := by simp [E0, h]
theorem E0_dist : Dist [] E0 := dist_nil

/-! time_of -/
/-- the least of 0 and of the distances to v -/
def tm (L : List (D × Nat)) (E : Nat → Nat → Option Int) (v : Nat) : Int := leastI 0 (L.filterMap fun u => E u.2 v)
theorem tm_le0 {L : List (D × Nat)} {E : Nat → Nat → Option Int} {v : Nat} : tm L E v ≤ 0 := (leastI_spec _ 0).2 0 List.mem_cons_self
theorem tm_le {L : List (D × Nat)} {E : Nat → Nat → Option Int} {v : Nat} {x : D × Nat} {d : Int} (hx : x ∈ L) (h : E x.2 v = some d) : tm L E v ≤ d :=
  (leastI_spec _ 0).2 d (List.mem_cons_of_mem _ (List.mem_filterMap.mpr ⟨x, hx, h⟩))
theorem tm_is {L : List (D × Nat)} {E : Nat → Nat → Option Int} {v : Nat} : tm L E v = 0 ∨ ∃ x ∈ L, E x.2 v = some (tm L E v) := by
  rcases List.mem_cons.mp (leastI_spec (L.filterMap fun u => E u.2 v) 0).1 with h | h
  · exact .inl h
  · obtain ⟨x, hx, e⟩ := List.mem_filterMap.mp h
    exact .inr ⟨x, hx, e⟩
theorem leastI_snoc {m d : Int} {l : List Int} : leastI m (l ++ [d]) = if d < leastI m l then d else leastI m l := by
  unfold leastI; rw [List.foldl_append]; rfl
/-- the times meet each bound between points of the table -/
theorem tm_meets {L : List (D × Nat)} {A : List Arc} {E : Nat → Nat → Option Int} (hd : Dist A E) {u v : Nat} {w : Int} (m : (u, v, w) ∈ A) {x : D × Nat} (hx : x ∈ L) (hu : x.2 = u) : tm L E v ≤ tm L E u + w := by
  rcases tm_is (L := L) (E := E) (v := u) with h | ⟨y, hy, e⟩
  · obtain ⟨d, e, l⟩ := hd.least _ _ _ _ (Wlk.one m)
    have := tm_le (v := v) hx (by rw [hu]; exact e)
    omega
  · obtain ⟨k, wk⟩ := hd.sound _ _ _ e
    obtain ⟨d, e2, l⟩ := hd.least _ _ _ _ (wk.snoc m)
    have := tm_le hy e2
    omega
theorem ints_mapO : ∀ l : List Int, mapO intOf (l.map D.int) = some l
  | [] => rfl
  | x :: l => by simp only [List.map_cons, mapO, intOf, ints_mapO l]
theorem v_minL {st : S} {n : Nat} {m : Int} {l : List Int} {Q : D → S → Prop} (h : st[n]? = some (.lst ((m :: l).map D.int))) : Ok (dMinL [.ref n] st) Q ↔ Q (.int (leastI m l)) st := by
  unfold dMinL dAgg
  simp only [h, ints_mapO, minF]
  exact Iff.rfl
theorem fm_optD : ∀ (L : List (D × Nat)) (f : D × Nat → Option Int), (L.map f).filterMap (fun x => x.map D.int) = (L.filterMap f).map D.int
  | [], _ => rfl
  | x :: L, f => by
    rw [List.map_cons, List.filterMap_cons, List.filterMap_cons]
    cases h : f x <;> simp [fm_optD L f]
theorem time_ok {st : S} {t : Nat} {F : Nat → Prop} {L : List (D × Nat)} {E : Nat → Nat → Option Int} {w : Bool} {Q : D → S → Prop} (h : Tab st t F L E w) {p : D} {v : Nat} (hp : (p, v) ∈ L)
    (q : ∀ st', Fr FN st st' → Q (.int (tm L E v)) st') : Ok (dn_Table_time_of [.ref t, p] st) Q := by
  obtain ⟨⟨n, r, rs, T, b⟩, c, d, s⟩ := h
  have h1 := T.ht
  have h2 := T.hn
  have h3 := T.hr
  have hl := T.hl
  rw [List.length_map] at hl
  obtain ⟨i, hi⟩ := List.getElem?_of_mem hp
  have i1 : ∀ Q : D → S → Prop, Ok (mIndex (.ref n) [p] st) Q ↔ Q (.int (i : Nat)) st := fun Q => v_index h2 (c _ hp) (fun x hx => by obtain ⟨y, hy, rfl⟩ := List.mem_map.mp hx; exact c y hy) d (by rw [List.getElem?_map, hi]; rfl)
  unfold dn_Table_time_of b_Table_time_of
  rw [ok_def]
  refine ⟨rfl, ?_⟩
  have a1 := (Fr.push (F := FN) st (.lst [D.int 0])).at0 h1
  have a3 := (Fr.push (F := FN) st (.lst [D.int 0])).at0 h3
  have z1 := fr_at st (.lst [D.int 0])
  have f1 := Fr.push (F := FN) st (.lst [D.int 0])
  have T1 := T.fr f1 fun _ _ z => z
  wide_open using [h1, lk_names, lk_rows, h2, i1, a1, a3]
  refine ⟨sml (by omega), ?_⟩
  generalize st ++ [O.lst [D.int 0]] = s1 at a1 a3 z1 f1 T1 ⊢
  refine ok_lcX (L.map fun u => (E u.2 v).map D.int) (by show _ = (rs.map D.ref).length; simp [hl]) (wk1 a3) (by show (rs.map D.ref).length < _; rw [List.length_map]; exact sml' (by omega)) (fun k x hx => ?_) ?_
  · have hx : (rs.map D.ref)[k]? = some x := hx
    rw [List.getElem?_map, Option.map_eq_some_iff] at hx
    obtain ⟨ri, hri, rfl⟩ := hx
    have hk := (List.getElem?_eq_some_iff.mp hri).1
    have hu := List.getElem?_eq_getElem (l := L) (i := k) (by omega)
    generalize L[k]'(by omega) = u at hu
    have hrow := T1.hrow k ri (L.map fun y => E u.2 y.2) hri (by rw [List.getElem?_map, hu]; rfl)
    have g1 : atI ((L.map fun y => E u.2 y.2).map optD) (i : Int) = some (optD (E u.2 v)) := atI_map (x := E u.2 v) (by rw [List.getElem?_map, hi]; rfl)
    have g2 : (L.map fun u => (E u.2 v).map D.int)[k]? = some ((E u.2 v).map D.int) := by rw [List.getElem?_map, hu]; rfl
    refine ⟨_, rfl, ?_⟩
    wide_open using [hrow, g1, g2, optD_non]
    cases E u.2 v with
    | none => wide_open using [Option.isNone_none, Option.map_none]
    | some y => wide_open using [Option.isNone_some, Option.map_some]
  · have em : (L.map fun u => (E u.2 v).map D.int).filterMap id = (L.filterMap fun u => E u.2 v).map D.int := by
      rw [← fm_optD, List.filterMap_map, List.filterMap_map]; rfl
    simp only [em]
    have z2 := (Fr.push (F := FN) s1 (.lst ((L.filterMap fun u => E u.2 v).map D.int))).at0 z1
    have y2 := fr_at s1 (.lst ((L.filterMap fun u => E u.2 v).map D.int))
    have f2 := f1.trans (Fr.push (F := FN) s1 (.lst ((L.filterMap fun u => E u.2 v).map D.int)))
    generalize s1 ++ [O.lst ((L.filterMap fun u => E u.2 v).map D.int)] = s2 at z2 y2 f2 ⊢
    rw [v_addL z2 y2]
    have hlen : (L.filterMap fun u => E u.2 v).length ≤ L.length := List.length_filterMap_le _ _
    refine ⟨by simp; exact sml (by omega), ?_⟩
    have y3 := fr_at s2 (.lst ([D.int 0] ++ (L.filterMap fun u => E u.2 v).map D.int))
    have e3 : [D.int 0] ++ (L.filterMap fun u => E u.2 v).map D.int = (0 :: (L.filterMap fun u => E u.2 v)).map D.int := rfl
    rw [e3] at y3 ⊢
    have f3 := f2.trans (Fr.push (F := FN) s2 (.lst ((0 :: (L.filterMap fun u => E u.2 v)).map D.int)))
    rw [v_minL y3]
    exact q _ f3

/-! ### table_of: the points of a list and those that bounds name -/
def dk (k : List Int) : D := .tup (k.map D.int)
theorem tupI_dk {k : List Int} : tupI (dk k) = some k := by
  show mapO intOf (k.map D.int) = some k
  induction k with
  | nil => rfl
  | cons x k ih => rw [List.map_cons]; simp only [mapO, intOf, ih]
theorem dk_inj {a b : List Int} (h : dk a = dk b) : a = b := by
  have := congrArg tupI h
  rw [tupI_dk, tupI_dk] at this
  exact Option.some.inj this
theorem dk_pn (k : List Int) : Pn (dk k) := by
  refine ⟨?_, ?_⟩
  · show ((k.map D.int).all fun d => pureD 3 d) = true
    rw [List.all_eq_true]
    intro d hd
    obtain ⟨x, _, rfl⟩ := List.mem_map.mp hd
    rfl
  · rw [dk, nrm, nrms_map, List.map_map]
    congr 1
theorem dk_mem {k : List Int} {N : List (List Int)} : dk k ∈ N.map dk ↔ k ∈ N :=
  ⟨fun h => by obtain ⟨x, hx, e⟩ := List.mem_map.mp h; rw [← dk_inj e]; exact hx, fun h => List.mem_map_of_mem h⟩
theorem dk_nd {N : List (List Int)} (h : N.Nodup) : (N.map dk).Nodup := List.pairwise_map.mpr (h.imp fun n e => n (dk_inj e))
theorem putS_mem {k x : List Int} {N : List (List Int)} : x ∈ putS k N ↔ x ∈ N ∨ x = k := by
  unfold putS
  split
  · rename_i h
    exact ⟨.inl, fun z => z.elim id fun e => e ▸ h⟩
  · simp
theorem putS_nd {k : List Int} {N : List (List Int)} (h : N.Nodup) : (putS k N).Nodup := by
  unfold putS
  split
  · exact h
  · rename_i z
    rw [List.nodup_append]
    exact ⟨h, by simp, fun x hx y hy => by rw [List.mem_singleton.mp hy]; intro e; exact z (e ▸ hx)⟩
theorem putS_pre {k : List Int} {N : List (List Int)} : N <+: putS k N := by
  unfold putS
  split
  · exact List.prefix_refl _
  · exact List.prefix_append _ _
def fillN (N ks : List (List Int)) : List (List Int) := ks.foldl (fun N k => putS k N) N
theorem fillN_pre {ks : List (List Int)} : ∀ {N : List (List Int)}, N <+: fillN N ks := by
  unfold fillN
  induction ks with
  | nil => intro N; exact List.prefix_refl _
  | cons k ks ih => intro N; rw [List.foldl_cons]; exact putS_pre.trans ih
theorem fillN_app {N a b : List (List Int)} : fillN N (a ++ b) = fillN (fillN N a) b := List.foldl_append
theorem fillN_nd {ks : List (List Int)} : ∀ {N : List (List Int)}, N.Nodup → (fillN N ks).Nodup := by
  unfold fillN
  induction ks with
  | nil => intro N h; exact h
  | cons k ks ih => intro N h; rw [List.foldl_cons]; exact ih (putS_nd h)
theorem fillN_mem {ks : List (List Int)} {x : List Int} : ∀ {N : List (List Int)}, x ∈ fillN N ks ↔ x ∈ N ∨ x ∈ ks := by
  unfold fillN
  induction ks with
  | nil => intro N; simp
  | cons k ks ih => intro N; rw [List.foldl_cons, ih, putS_mem, List.mem_cons, or_assoc]
theorem fillN_len {ks : List (List Int)} : ∀ {N : List (List Int)}, (fillN N ks).length ≤ N.length + ks.length := by
  unfold fillN
  induction ks with
  | nil => intro N; simp
  | cons k ks ih =>
    intro N
    rw [List.foldl_cons]
    have := ih (N := putS k N)
    have h2 : (putS k N).length ≤ N.length + 1 := by unfold putS; split <;> simp
    simp only [List.length_cons]
    omega
theorem fillN_take {N ks : List (List Int)} {i : Nat} {k : List Int} (h : ks[i]? = some k) : fillN N (ks.take (i + 1)) = putS k (fillN N (ks.take i)) := by rw [mem_split h, fillN_app]; rfl
theorem fillN_le {N ks : List (List Int)} {i : Nat} : (fillN N (ks.take i)).length ≤ (fillN N ks).length := by
  have h : fillN N ks = fillN (fillN N (ks.take i)) (ks.drop i) := by rw [← fillN_app, List.take_append_drop]
  rw [h]
  exact fillN_pre.length_le
/-- without doubles, the points of a list are these -/
theorem fillN_self : ∀ {ks N : List (List Int)}, (N ++ ks).Nodup → fillN N ks = N ++ ks := by
  intro ks
  induction ks with
  | nil => intro N _; simp [fillN]
  | cons k ks ih =>
    intro N h
    have hk : k ∉ N := fun z => by
      rw [List.nodup_append] at h
      exact h.2.2 k z k List.mem_cons_self rfl
    have e : putS k N = N ++ [k] := by unfold putS; rw [if_neg hk]
    show fillN (putS k N) ks = _
    rw [e, ih (by simpa using h)]
    simp
theorem num_snoc {P : List D} {p : D} : num (P ++ [p]) = num P ++ [(p, P.length)] := by
  unfold num; rw [List.zipIdx_append]; simp
/-- the points with their vertices -/
def vx (vn : List Int → Nat) (N : List (List Int)) : List (D × Nat) := N.map fun k => (dk k, vn k)
/-- the numbers tell the points apart -/
def Inj (vn : List Int → Nat) (K : List Int → Prop) : Prop := ∀ a b, K a → K b → vn a = vn b → a = b
/-- the table and the set of its points -/
structure TI (vn : List Int → Nat) (K : List Int → Prop) (st0 st : S) (t s : Nat) (N : List (List Int)) : Prop where
  inK : ∀ k ∈ N, K k
  ex : ∃ F, Tab st t F (vx vn N) E0 true ∧ (∀ b, F b → st0.length ≤ b) ∧ ¬ F s
  hs : st[s]? = some (.set N)
  nd : N.Nodup
  fr : Fr FN st0 st
  ls : st0.length ≤ s
noncomputable def stepS : SM := (sIf (dB (dO2 (dSIn2 not) (dVar 4) (dVar 3)))
    (sSeq (sExpr (dSAdd (dVar 3) (dVar 4)))
    (sExpr (dMet [("Table", dn_Table_add_point)] "add_point" 2 (dVar 2) (dCons (dVar 4) dNil))))
    sPass)
theorem sin_at {st : S} {s : Nat} {k : List Int} {N : List (List Int)} {Q : D → S → Prop} (hs : st[s]? = some (.set N)) : Ok (dSIn2 not (dk k) (.ref s) st) Q ↔ Q (.bl (!(decide (k ∈ N)))) st := by
  unfold dSIn2
  simp only [hs, tupI_dk, ok_ok]
theorem sadd_at {st : S} {en : En} {s : Nat} {k : List Int} {N : List (List Int)} {Q : D → S → Prop} (g3 : en[3]? = some (some (.ref s))) (g4 : en[4]? = some (some (dk k))) (hs : st[s]? = some (.set N)) (hl : N.length < 60) : Ok (dSAdd (dVar 3) (dVar 4) en st) Q ↔ Q .non (st.set s (.set (putS k N))) := by
  unfold dSAdd dVar
  simp only [g3, g4, Out.bind, hs, tupI_dk, hl, if_true, ok_ok]
theorem TI.step {vn : List Int → Nat} {K : List Int → Prop} (hv : Inj vn K) {st0 st : S} {t s : Nat} {N : List (List Int)} (h : TI vn K st0 st t s N) {k : List Int} (kK : K k) (hl : (putS k N).length < 60) {en : En} (g2 : en[2]? = some (some (.ref t))) (g3 : en[3]? = some (some (.ref s))) (g4 : en[4]? = some (some (dk k))) {V : Fl × En → S → Prop}
    (q : ∀ st', TI vn K st0 st' t s (putS k N) → V (.nx, en) st') : Ok (stepS en st) V := by
  obtain ⟨inK, ⟨F, tb, hF, nF⟩, hs, nd, fr, ls⟩ := h
  have hl0 : N.length < 60 := Nat.lt_of_le_of_lt putS_pre.length_le hl
  unfold stepS
  wide_open using [g2, g3, g4, fun Q => sin_at (Q := Q) (k := k) hs]
  by_cases hk : k ∈ N
  · have e : putS k N = N := by unfold putS; rw [if_pos hk]
    rw [e] at q
    wide_open using [hk]
    exact q _ ⟨inK, ⟨F, tb, hF, nF⟩, hs, nd, fr, ls⟩
  · have e : putS k N = N ++ [k] := by unfold putS; rw [if_neg hk]
    wide_open using [hk, fun Q => sadd_at (Q := Q) (k := k) g3 g4 hs hl0, g2, g4]
    have fS : Fr (fun b => b = s) st (st.set s (.set (putS k N))) := (Fr.refl _).set (.inl rfl)
    have tb1 := tb.fr fS fun b hb z => nF (z ▸ hb)
    have hs1 : (st.set s (.set (putS k N)))[s]? = some (.set (putS k N)) := st_at hs
    have fr1 : Fr FN st0 (st.set s (.set (putS k N))) := fr.set (.inr ls)
    have hsl := lt_at hs1
    generalize st.set s (.set (putS k N)) = st1 at tb1 hs1 fr1 hsl ⊢
    obtain ⟨n, r, ho⟩ := tb1.obj
    wide_open using [ho]
    have hnl : (vx vn N).length = N.length := by unfold vx; rw [List.length_map]
    have hfst : (vx vn N).map (·.1) = N.map dk := by unfold vx; rw [List.map_map]; rfl
    have hid : ∀ x ∈ vx vn N, x.2 ≠ vn k := fun x hx e => by
      obtain ⟨y, hy, rfl⟩ := List.mem_map.mp hx
      exact hk (hv y k (inK y hy) kK e ▸ hy)
    refine ⟨rfl, add_ok tb1 (v := vn k) (dk_pn k) (by rw [hfst, dk_mem]; exact hk) (by omega) (E0_self _) (fun x hx => E0_ne _ _ (hid x hx)) (fun x hx => E0_ne _ _ (Ne.symm (hid x hx))) fun st2 F2 f2 hF2 tb2 => ?_⟩
    refine q _ ⟨fun x hx => ?_, ⟨F2, ?_, fun b hb => ?_, fun z => ?_⟩, f2.at_ hs1 nF, putS_nd nd, fr1.trans' f2 fun b hb => .inr (hF b hb), ls⟩
    · rcases putS_mem.mp hx with z | z
      · exact inK x z
      · rw [z]; exact kK
    · rw [e]; unfold vx; rw [List.map_append]
      exact tb2
    · rcases hF2 b hb with z | z
      · exact hF b z
      · exact Nat.le_trans fr1.len z
    · rcases hF2 s z with z | z
      · exact nF z
      · omega
/-- a bound between two points -/
structure Bd where
  p : List Int
  q : List Int
  am : Int
  pa : Int
def bdD (b : Bd) : D := .tup [dk b.p, dk b.q, .int b.am, .int b.pa]
def bdN (bs : List Bd) : List (List Int) := bs.flatMap fun b => [b.p, b.q]
def namesOf (ps : List (List Int)) (bs : List Bd) : List (List Int) := fillN (fillN [] ps) (bdN bs)
def arcV (vn : List Int → Nat) (b : Bd) : Arc := (vn b.p, vn b.q, b.am)
/-- what the bounds that were put in come to: c of them, and whether all could be -/
def CutA (A : List Arc) (c : Nat) (w : Bool) : Prop := (w = true ∧ c = A.length) ∨ (w = false ∧ c < A.length ∧ ¬ NoRing (A.take (c + 1)))
theorem bdN_split {bs : List Bd} {i : Nat} {b : Bd} (h : bs[i]? = some b) : bdN (bs.take (i + 1)) = bdN (bs.take i) ++ [b.p, b.q] := by
  unfold bdN; rw [mem_split h, List.flatMap_append]; simp
theorem bdN_le {N : List (List Int)} {bs : List Bd} {i : Nat} : (fillN N (bdN (bs.take i))).length ≤ (fillN N (bdN bs)).length := by
  have h : bdN bs = bdN (bs.take i) ++ bdN (bs.drop i) := by unfold bdN; rw [← List.flatMap_append, List.take_append_drop]
  rw [h, fillN_app]
  exact fillN_pre.length_le
theorem bdN_len {bs : List Bd} : (bdN bs).length = 2 * bs.length := by
  unfold bdN
  induction bs with
  | nil => rfl
  | cons b bs ih => rw [List.flatMap_cons, List.length_append, ih, List.length_cons]; simp; omega
theorem namesOf_nd {ps : List (List Int)} {bs : List Bd} : (namesOf ps bs).Nodup := fillN_nd (fillN_nd List.nodup_nil)
theorem namesOf_mem {ps : List (List Int)} {bs : List Bd} {b : Bd} (h : b ∈ bs) : b.p ∈ namesOf ps bs ∧ b.q ∈ namesOf ps bs := by
  unfold namesOf bdN
  simp only [fillN_mem, List.mem_flatMap]
  exact ⟨.inr ⟨b, h, by simp⟩, .inr ⟨b, h, by simp⟩⟩
theorem vx_mem {vn : List Int → Nat} {N : List (List Int)} {k : List Int} (h : k ∈ N) : ∃ i : Nat, (vx vn N)[i]? = some (dk k, vn k) := by
  obtain ⟨i, hi⟩ := List.getElem?_of_mem h
  exact ⟨i, by unfold vx; rw [List.getElem?_map, hi]; rfl⟩
/-- the third loop's invariant -/
structure T3 (vn : List Int → Nat) (st0 st : S) (t k : Nat) (N : List (List Int)) (A : List Arc) : Prop where
  ex : ∃ F E c w, Tab st t F (vx vn N) E w ∧ (∀ b, F b → st0.length ≤ b) ∧ Dist (A.take c) E ∧ CutA (A.take k) c w
  fr : Fr FN st0 st
theorem tofV_ok {vn : List Int → Nat} {K : List Int → Prop} (hv : Inj vn K) {st : S} {br pr : Nat} {bs : List Bd} {ps : List (List Int)} {Q : D → S → Prop} (hb : st[br]? = some (.lst (bs.map bdD))) (hp : st[pr]? = some (.lst (ps.map dk))) (hN : (namesOf ps bs).length < 60) (pK : ∀ k ∈ ps, K k) (bK : ∀ b ∈ bs, K b.p ∧ K b.q)
    (q : ∀ st' t F E c w, Fr FN st st' → (∀ b, F b → st.length ≤ b) → Tab st' t F (vx vn (namesOf ps bs)) E w → Dist ((bs.map (arcV vn)).take c) E → CutA (bs.map (arcV vn)) c w → Q (.ref t) st') :
    Ok (dn_table_of [.ref br, .ref pr] st) Q := by
  have hbl := lt_at hb
  have hpl := lt_at hp
  unfold dn_table_of b_table_of
  rw [← stepS, ok_def]
  refine ⟨rfl, ?_⟩
  wide_open using []
  refine table_init E0 fun st1 F1 f1 hF1 tb1 => ?_
  refine ⟨rfl, ?_⟩
  have es : dSet0 = fun (_ : En) (st : S) => (.ok (.ref st.length) (st ++ [.set []]) : Out D) := rfl
  rw [es]
  wide_open using []
  have f2 := f1.trans (Fr.push (F := FN) st1 (.set []))
  have tb2 := tb1.fr0 (Fr.push (F := FN) st1 (.set []))
  have hs2 := fr_at st1 (.set [])
  have t0 : TI vn K st (st1 ++ [.set []]) st.length st1.length [] := ⟨(fun _ z => nomatch z), ⟨F1, by simpa [vx] using tb2, hF1, fun z => by have := tb1.lt _ z; omega⟩, hs2, List.nodup_nil, f2, f1.len⟩
  generalize st1 ++ [O.set []] = st2 at t0 f2 ⊢
  wide_open using [f2.at0 hp]
  refine ok_loop0 (fun k en st' => (∃ a4, en = [some (.ref br), some (.ref pr), some (.ref st.length), some (.ref st1.length), a4, none, none, none, none]) ∧ TI vn K st st' st.length st1.length (fillN [] (ps.take k))) ⟨⟨_, rfl⟩, t0⟩ (fun i en st' ⟨_, h⟩ => wk1 (h.fr.at0 hp)) ?_ ?_
  · rintro i d en st' hd ⟨⟨a4, rfl⟩, h⟩
    have hd : (ps.map dk)[i]? = some d := hd
    rw [List.getElem?_map, Option.map_eq_some_iff] at hd
    obtain ⟨k, hk, rfl⟩ := hd
    refine ⟨_, rfl, h.step hv (k := k) (pK k (List.mem_of_getElem? hk)) ?_ rfl rfl rfl fun st3 h3 => ⟨⟨_, rfl⟩, by rw [fillN_take hk]; exact h3⟩⟩
    rw [← fillN_take hk]
    exact Nat.lt_of_le_of_lt (Nat.le_trans fillN_le fillN_pre.length_le) hN
  · rintro en st3 ⟨⟨a4, rfl⟩, h3⟩
    have e : ps.take (ps.map dk).length = ps := by rw [List.length_map, List.take_length]
    rw [show ({ items := ps.map dk, src := [(pr, ps.map dk)] } : Wk).items.length = (ps.map dk).length from rfl, e] at h3
    wide_open using [h3.fr.at0 hb]
    refine ok_loop0 (fun k en st' => (∃ a4 a5 a6 a7 a8, en = [some (.ref br), some (.ref pr), some (.ref st.length), some (.ref st1.length), a4, a5, a6, a7, a8]) ∧ TI vn K st st' st.length st1.length (fillN (fillN [] ps) (bdN (bs.take k)))) ⟨⟨_, _, _, _, _, rfl⟩, h3⟩ (fun i en st' ⟨_, h⟩ => wk1 (h.fr.at0 hb)) ?_ ?_
    · rintro i d en st' hd ⟨⟨a4, a5, a6, a7, a8, rfl⟩, h⟩
      have hd : (bs.map bdD)[i]? = some d := hd
      rw [List.getElem?_map, Option.map_eq_some_iff] at hd
      obtain ⟨b, hbi, rfl⟩ := hd
      have hle : (putS b.q (putS b.p (fillN (fillN [] ps) (bdN (bs.take i))))).length < 60 := by
        have h1 := bdN_le (N := fillN [] ps) (bs := bs) (i := i + 1)
        rw [bdN_split hbi, fillN_app] at h1
        exact Nat.lt_of_le_of_lt h1 hN
      have hnx : fillN (fillN [] ps) (bdN (bs.take (i + 1))) = putS b.q (putS b.p (fillN (fillN [] ps) (bdN (bs.take i)))) := by rw [bdN_split hbi, fillN_app]; rfl
      rw [hnx]
      generalize fillN (fillN [] ps) (bdN (bs.take i)) = N at h hle ⊢
      refine ⟨_, rfl, ?_⟩
      wide_open using [wkOf]
      refine ⟨by decide, ?_⟩
      refine ok_loop0 (w := ⟨[dk b.p, dk b.q], []⟩) (fun j en st' => (∃ a4, en = [some (.ref br), some (.ref pr), some (.ref st.length), some (.ref st1.length), a4, some (dk b.p), some (dk b.q), some (.int b.am), some (.int b.pa)]) ∧ TI vn K st st' st.length st1.length (fillN N ([b.p, b.q].take j))) ⟨⟨_, rfl⟩, h⟩ (fun i en st' _ => wkn) ?_ ?_
      · rintro j d en st' hd ⟨⟨a4, rfl⟩, h⟩
        have hd : ([b.p, b.q].map dk)[j]? = some d := hd
        rw [List.getElem?_map, Option.map_eq_some_iff] at hd
        obtain ⟨k, hk, rfl⟩ := hd
        have hkK : K k := by
          have hm := List.mem_of_getElem? hk
          obtain ⟨z1, z2⟩ := bK b (List.mem_of_getElem? hbi)
          simp only [List.mem_cons, List.not_mem_nil, or_false] at hm
          rcases hm with rfl | rfl
          · exact z1
          · exact z2
        refine ⟨_, rfl, h.step hv (k := k) hkK ?_ rfl rfl rfl fun st3 h3 => ⟨⟨_, rfl⟩, by rw [fillN_take hk]; exact h3⟩⟩
        rw [← fillN_take hk]
        exact Nat.lt_of_le_of_lt fillN_le hle
      · rintro en st' ⟨⟨a4, rfl⟩, h⟩
        exact ⟨⟨_, _, _, _, _, rfl⟩, h⟩
    · rintro en st4 ⟨⟨a4, a5, a6, a7, a8, rfl⟩, h4⟩
      have e : bs.take (bs.map bdD).length = bs := by rw [List.length_map, List.take_length]
      rw [show ({ items := bs.map bdD, src := [(br, bs.map bdD)] } : Wk).items.length = (bs.map bdD).length from rfl, e] at h4
      obtain ⟨_, ⟨F4, tb4, hF4, nF4⟩, hs4, nd4, fr4, ls4⟩ := h4
      wide_open using [fr4.at0 hb]
      refine ok_loop0 (fun k en st' => (∃ a4 a5 a6 a7 a8, en = [some (.ref br), some (.ref pr), some (.ref st.length), some (.ref st1.length), a4, a5, a6, a7, a8]) ∧ T3 vn st st' st.length k (namesOf ps bs) (bs.map (arcV vn))) ⟨⟨_, _, _, _, _, rfl⟩, ⟨F4, E0, 0, true, tb4, hF4, E0_dist, .inl ⟨rfl, rfl⟩⟩, fr4⟩ (fun i en st' ⟨_, h⟩ => wk1 (h.fr.at0 hb)) ?_ ?_
      · rintro i d en st' hd ⟨⟨a4, a5, a6, a7, a8, rfl⟩, ⟨F, E, c, w, tb, hF, ds, cut⟩, fr⟩
        have hd : (bs.map bdD)[i]? = some d := hd
        rw [List.getElem?_map, Option.map_eq_some_iff] at hd
        obtain ⟨b, hbi, rfl⟩ := hd
        obtain ⟨m1, m2⟩ := namesOf_mem (ps := ps) (List.mem_of_getElem? hbi)
        obtain ⟨i1, hi1⟩ := vx_mem (vn := vn) m1
        obtain ⟨i2, hi2⟩ := vx_mem (vn := vn) m2
        have hA : (bs.map (arcV vn))[i]? = some (arcV vn b) := by rw [List.getElem?_map, hbi]; rfl
        generalize hAd : bs.map (arcV vn) = A at *
        have hi := (List.getElem?_eq_some_iff.mp hA).1
        have hsp := mem_split hA
        obtain ⟨n, r, ho⟩ := tb.obj
        refine ⟨_, rfl, ?_⟩
        wide_open using [ho, fun Q => possible_iff (Q := Q) tb]
        rcases cut with ⟨rfl, hc⟩ | ⟨rfl, hc, hr⟩
        · rw [List.length_take, Nat.min_eq_left (by omega)] at hc
          subst hc
          wide_open using []
          refine ⟨rfl, put_ok tb hi1 hi2 (fun d hd hlt st5 f5 tb5 => ?_) fun hok st5 f5 tb5 => ?_⟩
          · refine ⟨⟨F, E, c, false, tb5, hF, ds, .inr ⟨rfl, by rw [List.length_take]; omega, ?_⟩⟩, fr.trans' f5 fun b hb => .inr (hF b hb)⟩
            rw [List.take_take, Nat.min_self, hsp]
            exact ds.ring hd hlt
          · refine ⟨⟨F, _, c + 1, true, tb5, hF, ?_, .inl ⟨rfl, by rw [List.length_take]; omega⟩⟩, fr.trans' f5 fun b hb => .inr (hF b hb)⟩
            rw [hsp]
            exact ds.put hok
        · wide_open using []
          rw [List.length_take, Nat.min_eq_left (by omega)] at hc
          refine ⟨⟨F, E, c, false, tb, hF, ds, .inr ⟨rfl, by rw [List.length_take]; omega, ?_⟩⟩, fr⟩
          rw [List.take_take, Nat.min_eq_left (by omega)] at hr ⊢
          exact hr
      · rintro en st' ⟨⟨a4, a5, a6, a7, a8, rfl⟩, ⟨F, E, c, w, tb, hF, ds, cut⟩, fr⟩
        have e2 : (bs.map (arcV vn)).take (bs.map bdD).length = bs.map (arcV vn) := List.take_of_length_le (by simp)
        rw [show ({ items := bs.map bdD, src := [(br, bs.map bdD)] } : Wk).items.length = (bs.map bdD).length from rfl, e2] at cut
        wide_open using []
        exact q _ _ _ _ _ _ fr hF tb ds cut

/-! ### the points that the bounds of a device name -/
def PtN (dev : Int) (C : Nat) (G : D → Prop) (n : Nat) (p : D) : Prop := G p ∨ ∃ k c : Int, p = pp dev k c ∧ 0 ≤ k ∧ k ≤ (n : Int) ∧ (c = -1 ∨ (0 ≤ c ∧ c < (C : Int)))
theorem PtN.up {dev : Int} {C : Nat} {G : D → Prop} {n m : Nat} {p : D} (h : PtN dev C G n p) (hm : n ≤ m) : PtN dev C G m p := by
  rcases h with h | ⟨k, c, e, h1, h2, h3⟩
  · exact .inl h
  · exact .inr ⟨k, c, e, h1, by omega, h3⟩
def BdN (dev : Int) (C : Nat) (G : D → Prop) (n : Nat) (x : D) : Prop := ∃ p q i j, x = bd p q i j ∧ PtN dev C G n p ∧ PtN dev C G n q
theorem BdN.up {dev : Int} {C : Nat} {G : D → Prop} {n m : Nat} {x : D} (h : BdN dev C G n x) (hm : n ≤ m) : BdN dev C G m x := by
  obtain ⟨p, q, i, j, e, h1, h2⟩ := h
  exact ⟨p, q, i, j, e, h1.up hm, h2.up hm⟩
theorem cbR_pts {dev : Int} {C : Nat} {G : D → Prop} {n c : Nat} {lo hi s : Int} {h : Hand} {stop : Bool} (hc : c < C) (hh : ∀ x, h.sn = some x → PtN dev C G n (sinD (some x))) :
    (∀ x ∈ (cbR lo hi c h stop (dev, ((n + 1 : Nat) : Int), (c : Int)) (pp dev ((n + 1 : Nat) : Int) (-1)) (pp dev (((n + 1 : Nat) : Int) - 1) (-1)) s).1, BdN dev C G (n + 1) x) ∧ PtN dev C G (n + 1) (sinD (some (cbR lo hi c h stop (dev, ((n + 1 : Nat) : Int), (c : Int)) (pp dev ((n + 1 : Nat) : Int) (-1)) (pp dev (((n + 1 : Nat) : Int) - 1) (-1)) s).2)) := by
  have pt : PtN dev C G (n + 1) (sinD (some (dev, ((n + 1 : Nat) : Int), (c : Int)))) := .inr ⟨((n + 1 : Nat) : Int), (c : Int), rfl, by omega, Int.le_refl _, .inr ⟨by omega, by omega⟩⟩
  have pe : PtN dev C G (n + 1) (pp dev ((n + 1 : Nat) : Int) (-1)) := .inr ⟨_, _, rfl, by omega, Int.le_refl _, .inl rfl⟩
  have pb : PtN dev C G (n + 1) (pp dev (((n + 1 : Nat) : Int) - 1) (-1)) := .inr ⟨_, _, rfl, by omega, by omega, .inl rfl⟩
  have plain : ∀ x ∈ ([bd (sinD (some (dev, ((n + 1 : Nat) : Int), (c : Int)))) (pp dev ((n + 1 : Nat) : Int) (-1)) hi c, bd (pp dev ((n + 1 : Nat) : Int) (-1)) (sinD (some (dev, ((n + 1 : Nat) : Int), (c : Int)))) 0 c] : List D), BdN dev C G (n + 1) x := fun x hx => by
    simp only [List.mem_cons, List.not_mem_nil, or_false] at hx
    rcases hx with rfl | rfl
    · exact ⟨_, _, _, _, rfl, pt, pe⟩
    · exact ⟨_, _, _, _, rfl, pe, pt⟩
  unfold cbR
  split
  · exact ⟨plain, pt⟩
  · rename_i p hp
    have ph := (hh p hp).up (Nat.le_succ n)
    split
    · exact ⟨plain, pt⟩
    · split
      · refine ⟨fun x hx => ?_, ph⟩
        simp only [List.mem_cons, List.not_mem_nil, or_false] at hx
        rcases hx with rfl | rfl
        · exact ⟨_, _, _, _, rfl, ph, pe⟩
        · exact ⟨_, _, _, _, rfl, pe, ph⟩
      · refine ⟨fun x hx => ?_, pt⟩
        simp only [List.mem_cons, List.not_mem_nil, or_false] at hx
        rcases hx with rfl | rfl | rfl | rfl | rfl | rfl
        · exact ⟨_, _, _, _, rfl, ph, pt⟩
        · exact ⟨_, _, _, _, rfl, pt, ph⟩
        · exact ⟨_, _, _, _, rfl, pt, ph⟩
        · exact ⟨_, _, _, _, rfl, pt, pb⟩
        · exact ⟨_, _, _, _, rfl, pt, pe⟩
        · exact ⟨_, _, _, _, rfl, pe, pt⟩
theorem evN_pts {cks : List Clk} {dev : Int} {es : List Ev} {dr : Nat → List D} {G : D → Prop} (ft : ∀ k e, es[k]? = some e → Fits cks (ownL cks dev) (evN cks dev es dr k).2 e) (hd : ∀ k, ∀ x ∈ dr k, BdN dev cks.length G (k + 1) x) :
    ∀ n, n ≤ es.length → (∀ x ∈ (evN cks dev es dr n).1, BdN dev cks.length G n x) ∧ ∀ h ∈ (evN cks dev es dr n).2, ∀ x, h.sn = some x → PtN dev cks.length G n (sinD (some x))
  | 0, _ => by
    refine ⟨(fun x hx => by cases hx), fun h hh x hx => ?_⟩
    have := List.mem_replicate.mp (show h ∈ List.replicate (ownL cks dev).length hand0 from hh)
    rw [this.2] at hx; cases hx
  | n + 1, hn => by
    obtain ⟨i1, i2⟩ := evN_pts ft hd n (by omega)
    obtain ⟨e, he⟩ : ∃ e, es[n]? = some e := ⟨_, List.getElem?_eq_getElem (by omega)⟩
    have ft' := ft n e he
    have step : ∀ x ∈ (ownL cks dev).zipIdx, ∃ K kk h s a, (ownL cks dev)[x.2]? = some x.1 ∧ cks[x.1]? = some K ∧ (evN cks dev es dr n).2[x.2]? = some h ∧ stepR cks (evN cks dev es dr n).2 e dev ((n + 1 : Nat) : Int) x = stepK K kk h s a e dev ((n + 1 : Nat) : Int) x.1 x.2 := fun x hx => by
      have hc := List.mem_zipIdx_iff_getElem?.mp (show (x.1, x.2) ∈ (ownL cks dev).zipIdx from hx)
      obtain ⟨K, kk, h, s, a, e1, e2, e3, e4, e5, _, e6⟩ := ft'.at_ hc
      exact ⟨K, kk, h, s, a, hc, e1, e3, e6 _ _⟩
    have hnum : (((n + 1 : Nat) : Int)) = (n : Int) + 1 := by omega
    rw [evN_some he]
    constructor
    · intro x hx
      rcases List.mem_append.mp hx with z | z
      · exact (i1 x z).up (Nat.le_succ n)
      rcases List.mem_append.mp z with y | y
      · unfold evA at y
        rcases List.mem_cons.mp y with rfl | y
        · exact ⟨_, _, _, _, rfl, .inr ⟨_, _, rfl, by omega, Int.le_refl _, .inl rfl⟩, .inr ⟨_, _, rfl, by omega, by omega, .inl rfl⟩⟩
        · obtain ⟨w, hw, hy⟩ := List.mem_flatMap.mp y
          obtain ⟨K, kk, h, s, a, c1, c2, c3, c4⟩ := step w (List.mem_of_mem_take hw)
          rw [c4] at hy
          exact (cbR_pts (List.getElem?_eq_some_iff.mp c2).1 fun x hx => i2 h (List.mem_of_getElem? c3) x hx).1 x hy
      · exact hd n x y
    · intro h hh x hx
      obtain ⟨w, hw, rfl⟩ := List.mem_map.mp hh
      obtain ⟨K, kk, h0, s, a, c1, c2, c3, c4⟩ := step w (List.mem_of_mem_take hw)
      rw [c4] at hx
      have hp := (cbR_pts (lo := kk.2.1) (hi := kk.2.2) (s := s) (stop := (e.as && !K.on) || e.dd.isAnew) (List.getElem?_eq_some_iff.mp c2).1 fun x hx => i2 h0 (List.mem_of_getElem? c3) x hx).2
      have pe : PtN dev cks.length G (n + 1) (sinD (some (dev, ((n + 1 : Nat) : Int), -1))) := .inr ⟨((n + 1 : Nat) : Int), -1, rfl, by omega, Int.le_refl _, .inl rfl⟩
      unfold stepK handAf at hx
      simp only at hx
      split at hx
      · cases hx; exact pe
      · split at hx
        · cases hx; exact hp
        · cases hx; exact pe

def startK : List Int := [-1, 0, -1]
def isSt (p : D) : Prop := p = pp (-1) 0 (-1)
def nm1 (m C : Nat) : List (List Int) := startK :: (List.range m).flatMap fun (k : Nat) => [(k : Int)].flatMap fun k => [0, k, -1] :: (List.range C).map fun (c : Nat) => [0, k, (c : Int)]
theorem nm1_start {m C : Nat} : startK ∈ nm1 m C := List.mem_cons_self
theorem nm1_ev {m C k : Nat} (h : k < m) : [0, (k : Int), -1] ∈ nm1 m C := List.mem_cons_of_mem _ (List.mem_flatMap.mpr ⟨k, List.mem_range.mpr h, by simp⟩)
theorem nm1_tick {m C k c : Nat} (h : k < m) (hc : c < C) : [0, (k : Int), (c : Int)] ∈ nm1 m C := List.mem_cons_of_mem _ (List.mem_flatMap.mpr ⟨k, List.mem_range.mpr h, by simp; exact ⟨c, hc, rfl⟩⟩)
theorem nm1_of {m C n : Nat} {k : List Int} (h : PtN 0 C isSt n (dk k)) (hm : n < m) : k ∈ nm1 m C := by
  rcases h with h | ⟨i, c, e, h1, h2, h3⟩
  · have h : dk k = dk startK := h
    rw [dk_inj h]; exact nm1_start
  · have e : dk k = dk [0, i, c] := e
    rw [dk_inj e]
    obtain ⟨j, rfl⟩ : ∃ j : Nat, i = (j : Int) := ⟨i.toNat, by omega⟩
    rcases h3 with rfl | ⟨c0, c1⟩
    · exact nm1_ev (by omega)
    · obtain ⟨x, rfl⟩ : ∃ x : Nat, c = (x : Int) := ⟨c.toNat, by omega⟩
      exact nm1_tick (by omega) (by omega)
theorem bds_nm {m C n : Nat} {bs : List Bd} (h : ∀ x ∈ bs.map bdD, BdN 0 C isSt n x) (hm : n < m) : ∀ b ∈ bs, b.p ∈ nm1 m C ∧ b.q ∈ nm1 m C := fun b hb => by
  obtain ⟨p, q, i, j, e, h1, h2⟩ := h _ (List.mem_map_of_mem hb)
  have e : D.tup [dk b.p, dk b.q, .int b.am, .int b.pa] = D.tup [p, q, .int i, .int j] := e
  simp only [D.tup.injEq, List.cons.injEq] at e
  obtain ⟨rfl, rfl, _⟩ := e
  exact ⟨nm1_of h1 hm, nm1_of h2 hm⟩

/-! ### a clock that runs -/
structure Ck where
  s : Int
  kd : Nat
  a : Int
  L : Int
  c : Nat
def ckL (x : Ck) : List D := [.int x.s, .int (x.kd : Nat), .int 0, .int x.a, .int x.L, .int (x.c : Nat)]
abbrev KS := List (D × Int × Int)
def goodS (ks : KS) : Prop := ks.length = 2 ∧ ∀ k ∈ ks, 1 ≤ k.2.1 ∧ k.2.1 ≤ k.2.2 ∧ k.2.2 ≤ 13
structure CkOk (ks : KS) (x : Ck) : Prop where
  kd : x.kd < 2
  ex : ∃ k, ks[x.kd]? = some k ∧ 0 ≤ x.a ∧ x.a < x.L ∧ k.2.1 ≤ x.L ∧ x.L ≤ k.2.2
/-- what has passed while t instants went by -/
def Run (lo hi : Int) (x : Ck) (t : Int) (y : Ck) : Prop := y.kd = x.kd ∧ ((y.s = x.s ∧ t - y.a = - x.a) ∨ (1 ≤ y.s - x.s ∧ lo * (y.s - x.s) ≤ (t - y.a) + x.a ∧ (t - y.a) + x.a ≤ hi * (y.s - x.s) ∧ lo * (y.s - x.s - 1) ≤ t - y.a))
theorem Run.refl {lo hi : Int} (x : Ck) : Run lo hi x 0 x := ⟨rfl, .inl ⟨rfl, by omega⟩⟩
theorem Run.more {lo hi t : Int} {x y z : Ck} (h : Run lo hi x t y) (h1 : z.s = y.s) (h2 : z.kd = y.kd) (h3 : z.a = y.a + 1) : Run lo hi x (t + 1) z := by
  obtain ⟨e, h⟩ := h
  refine ⟨h2.trans e, ?_⟩
  rw [h1, h3]
  rcases h with ⟨a, b⟩ | ⟨a, b, c, d⟩
  · exact .inl ⟨a, by omega⟩
  · exact .inr ⟨a, by omega, by omega, by omega⟩
theorem Run.tick {lo hi t : Int} {x y z : Ck} (h : Run lo hi x t y) (ht : 0 ≤ t) (hl : lo ≤ y.a + 1) (hh : y.a + 1 ≤ hi) (h1 : z.s = y.s + 1) (h2 : z.kd = y.kd) (h3 : z.a = 0) : Run lo hi x (t + 1) z := by
  obtain ⟨e, h⟩ := h
  refine ⟨h2.trans e, .inr ?_⟩
  rw [h1, h3]
  rcases h with ⟨a, b⟩ | ⟨a, b, c, d⟩
  · rw [a, show x.s + 1 - x.s = 1 by omega]
    refine ⟨Int.le_refl _, by omega, by omega, ?_⟩
    rw [show (1 : Int) - 1 = 0 by omega, Int.mul_zero]; omega
  · have e1 : y.s + 1 - x.s = (y.s - x.s) + 1 := by omega
    rw [e1, show y.s - x.s + 1 - 1 = y.s - x.s by omega, Int.mul_add, Int.mul_add, Int.mul_one, Int.mul_one]
    have e2 : lo * (y.s - x.s) = lo * (y.s - x.s - 1) + lo := by
      rw [show y.s - x.s = (y.s - x.s - 1) + 1 by omega, Int.mul_add, Int.mul_one, show y.s - x.s - 1 + 1 - 1 = y.s - x.s - 1 by omega]
    refine ⟨by omega, by omega, by omega, ?_⟩
    rw [e2]; omega
theorem i60 : ixN 6 0 = some 0 := rfl
theorem i61 : ixN 6 1 = some 1 := rfl
theorem i63 : ixN 6 3 = some 3 := rfl
theorem i64 : ixN 6 4 = some 4 := rfl
theorem i65 : ixN 6 5 = some 5 := rfl
theorem a65 {a b c d e f : D} : atI [a, b, c, d, e, f] 5 = some f := rfl
theorem dx_k1 {k : D × Int × Int} (s : S) (Q : D → S → Prop) : Ok (dIx (kdD k) (.int 1) s) Q ↔ Q (.int k.2.1) s := by unfold kdD; wide_open using []
theorem dx_k2 {k : D × Int × Int} (s : S) (Q : D → S → Prop) : Ok (dIx (kdD k) (.int 2) s) Q ↔ Q (.int k.2.2) s := by unfold kdD; wide_open using []
theorem kat {ks : KS} (g : goodS ks) {i : Nat} (h : i < 2) : ∃ k, ks[i]? = some k ∧ 1 ≤ k.2.1 ∧ k.2.1 ≤ k.2.2 ∧ k.2.2 ≤ 13 ∧ atI (ks.map kdD) (i : Int) = some (kdD k) := by
  obtain ⟨k, hk⟩ : ∃ k, ks[i]? = some k := ⟨_, List.getElem?_eq_getElem (by rw [g.1]; exact h)⟩
  obtain ⟨a, b, c⟩ := g.2 k (List.mem_of_getElem? hk)
  exact ⟨k, hk, a, b, c, atI_map hk⟩
theorem begin_ok {st : S} {cr : Nat} {ks : KS} {x : Ck} {Q : D → S → Prop} (h : Rows st 1 60) (hc : st[cr]? = some (.lst (ckL x))) (c1 : cr ≠ 1) (g : goodS ks) (hk : x.kd < 2)
    (q : ∀ st' y, Fr (fun b => b = 1 ∨ b = cr) st st' → st'.length = st.length → Rows st' 1 60 → st'[cr]? = some (.lst (ckL y)) → y.s = x.s → y.kd = x.kd → y.a = 0 → CkOk ks y → Q .non st') : Ok (dn_llaw_begin [.ref cr, .ref 1, .tup (ks.map kdD)] st) Q := by
  obtain ⟨k, hk1, g1, g2, g3, q1⟩ := kat g hk
  obtain ⟨s, kd, a, L, c⟩ := x
  unfold dn_llaw_begin b_llaw_begin
  rw [ok_def]
  refine ⟨rfl, ?_⟩
  have hc : st[cr]? = some (.lst [.int s, .int (kd : Nat), .int 0, .int a, .int L, .int (c : Nat)]) := hc
  have hk : kd < 2 := hk
  have y0 := fun l => st_at (o := O.lst l) hc
  have q1 : atI (ks.map kdD) (kd : Int) = some (kdD k) := q1
  wide_open using [hc, i63, y0, q1, dx_k1, dx_k2, a65]
  have f1 : Fr (fun b => b = 1 ∨ b = cr) st (st.set cr (.lst [.int s, .int (kd : Nat), .int 0, .int 0, .int L, .int (c : Nat)])) := (Fr.refl _).set (.inl (.inr rfl))
  have c2 := y0 [.int s, .int (kd : Nat), .int 0, .int 0, .int L, .int (c : Nat)]
  have r2 : Rows (st.set cr (.lst [.int s, .int (kd : Nat), .int 0, .int 0, .int L, .int (c : Nat)])) 1 60 := h.fr ((Fr.refl (F := fun b => b = cr) _).set (.inl rfl)) fun z => c1 z.symm
  have len2 : (st.set cr (.lst [.int s, .int (kd : Nat), .int 0, .int 0, .int L, .int (c : Nat)])).length = st.length := by simp
  generalize st.set cr (.lst [.int s, .int (kd : Nat), .int 0, .int 0, .int L, .int (c : Nat)]) = s2 at f1 c2 r2 len2 ⊢
  have hj : (9 : Int) + (c : Int) % 50 = ((9 + c % 50 : Nat) : Int) := by omega
  refine ⟨by decide, ?_⟩
  refine tk (i := 9 + c % 50) r2 hj (by omega) (by omega) (log_lt (k := 10) (by omega) (by decide) (by decide)) fun v s3 v0 v1 d3 => ?_
  have c3 := d3.at1 c2 c1
  have y3 := fun l => st_at (o := O.lst l) c3
  have len3 := d3.len
  wide_open using [c3, i64, i65, y3, a65]
  refine q _ ⟨s, kd, 0, k.2.1 + v, c + 1⟩ ((f1.trans (d3.fr.weak fun _ z => .inl z)).set (.inl (.inr rfl))) (by simp [len3, len2]) (d3.rows.fr ((Fr.refl (F := fun b => b = cr) _).set (.inl rfl)) fun z => c1 z.symm) (by rw [y3]; rfl) rfl rfl rfl ⟨hk, k, hk1, by simp only; omega, by simp only; omega, by simp only; omega, by simp only; omega⟩
/-! ### the deeds -/
def DeedR (x : Ck) (d : Dd) (y : Ck) : Prop := (∃ k : Nat, k < 2 ∧ d = .kind 0 k ∧ y.kd = k ∧ y.a = 0) ∨ (d = .oth "note" [] ∧ y.kd = x.kd ∧ ((y.s = x.s ∧ y.a = x.a) ∨ (y.s ≠ x.s ∧ y.a = 0)))
/-! ### the bounds are met, step by step -/
abbrev dkk (k : List Int) : D := .tup (k.map D.int)
theorem mapO_ints : ∀ l : List Int, mapO intOf (l.map D.int) = some l
  | [] => rfl
  | x :: l => by rw [List.map_cons]; simp only [mapO, intOf, mapO_ints l]
theorem tupI_k (k : List Int) : tupI (dkk k) = some k := mapO_ints k
abbrev TL := List (List Int × D)
def Met (l : TL) (b : D) : Prop := ∃ (P R : List Int) (am pa u v : Int), b = .tup [dkk P, dkk R, .int am, .int pa] ∧ getQ l P = some (.int u) ∧ getQ l R = some (.int v) ∧ v ≤ u + am
def Grow (l l' : TL) : Prop := ∀ P d, getQ l P = some d → getQ l' P = some d
theorem Met.up {l l' : TL} {b : D} (h : Met l b) (g : Grow l l') : Met l' b := by
  obtain ⟨P, R, am, pa, u, v, e, h1, h2, h3⟩ := h
  exact ⟨P, R, am, pa, u, v, e, g _ _ h1, g _ _ h2, h3⟩
theorem grow_put {l : TL} {P : List Int} {d : D} (h : getQ l P = none) : Grow l (putQ l P d) := fun R e hR => by
  rw [getQ_put]
  by_cases c : R = P
  · subst c; rw [h] at hR; cases hR
  · rw [if_neg c]; exact hR
theorem put_at {l : TL} {P : List Int} {d : D} : getQ (putQ l P d) P = some d := by rw [getQ_put, if_pos rfl]
abbrev dr0 : Nat → List D := fun _ => []
def pK (p : Int × Int × Int) : List Int := [p.1, p.2.1, p.2.2]
theorem sin_k (p : Int × Int × Int) : sinD (some p) = dkk (pK p) := rfl
theorem pp_k (a b c : Int) : pp a b c = dkk [a, b, c] := rfl
theorem cb_met {l : TL} {lo hi s : Int} {h : Hand} {stop : Bool} {m : Int} {now now1 a1 : Int} (hlo : 1 ≤ lo) (e0 : getQ l [0, m - 1, -1] = some (.int now)) (e1 : getQ l [0, m, -1] = some (.int now1)) (e2 : getQ l [0, m, 0] = some (.int (now1 - a1))) (a10 : 0 ≤ a1) (ahi : a1 ≤ hi)
    (hh : stop = true ∨ h.sn = none ∨ ∃ p T, h.sn = some p ∧ getQ l (pK p) = some (.int T) ∧ ((s = h.vl ∧ now1 - a1 = T) ∨ (1 ≤ s - h.vl ∧ lo * (s - h.vl) ≤ now1 - a1 - T ∧ now1 - a1 - T ≤ hi * (s - h.vl) ∧ lo * (s - h.vl - 1) ≤ now1 - a1 - now))) :
    (∀ b ∈ (cbR lo hi 0 h stop (0, m, 0) (pp 0 m (-1)) (pp 0 (m - 1) (-1)) s).1, Met l b) ∧ getQ l (pK (cbR lo hi 0 h stop (0, m, 0) (pp 0 m (-1)) (pp 0 (m - 1) (-1)) s).2) = some (.int (now1 - a1)) := by
  have plain : ∀ b ∈ ([bd (sinD (some (0, m, 0))) (pp 0 m (-1)) hi 0, bd (pp 0 m (-1)) (sinD (some (0, m, 0))) 0 0] : List D), Met l b := fun b hb => by
    simp only [List.mem_cons, List.not_mem_nil, or_false] at hb
    rcases hb with rfl | rfl
    · exact ⟨[0, m, 0], [0, m, -1], _, _, _, _, rfl, e2, e1, by omega⟩
    · exact ⟨[0, m, -1], [0, m, 0], _, _, _, _, rfl, e1, e2, by omega⟩
  unfold cbR
  split
  · exact ⟨plain, e2⟩
  · rename_i p hp
    split
    · exact ⟨plain, e2⟩
    · rename_i hstop
      rcases hh with hh | hh | ⟨p', T, hp', hT, hh⟩
      · exact absurd hh hstop
      · rw [hp] at hh; cases hh
      · rw [hp] at hp'; cases hp'
        split
        · rename_i hs
          have hTe : now1 - a1 = T := by
            rcases hh with ⟨_, h2⟩ | ⟨h1, _⟩
            · exact h2
            · omega
          refine ⟨fun b hb => ?_, by rw [hTe]; exact hT⟩
          simp only [List.mem_cons, List.not_mem_nil, or_false] at hb
          rcases hb with rfl | rfl
          · exact ⟨pK p, [0, m, -1], _, _, _, _, rfl, hT, e1, by omega⟩
          · exact ⟨[0, m, -1], pK p, _, _, _, _, rfl, e1, hT, by omega⟩
        · rename_i hs
          obtain ⟨h1, h2, h3, h4⟩ : 1 ≤ s - h.vl ∧ lo * (s - h.vl) ≤ now1 - a1 - T ∧ now1 - a1 - T ≤ hi * (s - h.vl) ∧ lo * (s - h.vl - 1) ≤ now1 - a1 - now := by
            rcases hh with ⟨z, _⟩ | z
            · exact absurd z hs
            · exact z
          have pos : 0 ≤ lo * (s - h.vl) := Int.mul_nonneg (by omega) (by omega)
          refine ⟨fun b hb => ?_, e2⟩
          simp only [List.mem_cons, List.not_mem_nil, or_false] at hb
          rcases hb with rfl | rfl | rfl | rfl | hb
          · exact ⟨pK p, [0, m, 0], _, _, _, _, rfl, hT, e2, by omega⟩
          · exact ⟨[0, m, 0], pK p, _, _, _, _, rfl, e2, hT, by omega⟩
          · exact ⟨[0, m, 0], pK p, _, _, _, _, rfl, e2, hT, by omega⟩
          · exact ⟨[0, m, 0], [0, m - 1, -1], _, _, _, _, rfl, e2, e0, by rw [Int.neg_mul]; omega⟩
          · exact plain b (by simpa using hb)
/-! ### what the law has built -/
abbrev cks1 (ks : KS) (on : Bool) : List Clk := [⟨.str "c", 0, on, ks⟩]
theorem own1 {ks : KS} {on : Bool} : ownL (cks1 ks on) 0 = [0] := rfl
structure Inv24 (ks : KS) (on : Bool) (es : List Ev) (l : TL) (now : Int) (x : Ck) : Prop where
  met : ∀ b ∈ (evN (cks1 ks on) 0 es dr0 es.length).1, Met l b
  hand : ∃ h, (evN (cks1 ks on) 0 es dr0 es.length).2 = [h] ∧ h.kd = x.kd ∧ (h.sn = none ∨ ∃ p, h.sn = some p ∧ h.vl = x.s ∧ getQ l (pK p) = some (.int (now - x.a)))
  cur : getQ l [0, (es.length : Int), -1] = some (.int now)
  new : ∀ (k : Nat) (c : Int), es.length < k → getQ l [0, (k : Int), c] = none
  len : l.length ≤ 2 + 2 * es.length
  ft : ∀ k e, es[k]? = some e → Fits (cks1 ks on) (ownL (cks1 ks on) 0) (evN (cks1 ks on) 0 es dr0 k).2 e
abbrev l24 (l : TL) (n : Nat) (now1 a1 : Int) : TL := putQ (putQ l [0, ((n + 1 : Nat) : Int), -1] (.int now1)) [0, ((n + 1 : Nat) : Int), 0] (.int (now1 - a1))
theorem DeedR.ok {x y : Ck} {d : Dd} (h : DeedR x d y) : d.ok ∧ d.isAnew = false ∧ ((d.word = "hear") = False ∧ (d.word = "mark") = False) := by
  rcases h with ⟨k, hk, rfl, _⟩ | ⟨rfl, _⟩
  · exact ⟨trivial, rfl, by show (("kind" : Str) = "hear") = False; decide, by show (("kind" : Str) = "mark") = False; decide⟩
  · exact ⟨⟨by decide, by decide, by decide, by decide⟩, rfl, by show (("note" : Str) = "hear") = False; decide, by show (("note" : Str) = "mark") = False; decide⟩
theorem step24 {ks : KS} {on as_ : Bool} {es : List Ev} {l : TL} {now t : Int} {x x1 y : Ck} {d : Dd} {kn : D} {k0 : D × Int × Int} (g : goodS ks) (I : Inv24 ks on es l now x) (hx : CkOk ks x) (hx1 : CkOk ks x1) (hk0 : ks[x.kd]? = some k0) (t0 : 0 ≤ t)
    (hr : (as_ = true ∧ on = false ∧ x1 = x) ∨ Run k0.2.1 k0.2.2 x t x1) (hd : DeedR x1 d y) : Inv24 ks on (es ++ [⟨as_, [x1.s], [y.s], d, kn⟩]) (l24 l es.length (now + t) x1.a) (now + t) y := by
  obtain ⟨h, hh, hkd, hsn⟩ := I.hand
  obtain ⟨kk, hkk, b1, b2, b3, b4⟩ := hx1.ex
  have hkdx : x1.kd = x.kd := by
    rcases hr with ⟨_, _, rfl⟩ | hr
    · rfl
    · exact hr.1
  have hk2 : kk = k0 := by rw [hkdx, hk0] at hkk; exact (Option.some.inj hkk).symm
  subst hk2
  obtain ⟨g1, g2, g3⟩ := g.2 kk (List.mem_of_getElem? hk0)
  have num : (((es.length + 1 : Nat)) : Int) - 1 = (es.length : Int) := by omega
  -- the dict
  have n1 : getQ l [0, ((es.length + 1 : Nat) : Int), -1] = none := I.new _ _ (by omega)
  have n2 : getQ (putQ l [0, ((es.length + 1 : Nat) : Int), -1] (.int (now + t))) [0, ((es.length + 1 : Nat) : Int), 0] = none := by
    rw [getQ_put, if_neg (by simp), I.new _ _ (by omega)]
  have gr : Grow l (l24 l es.length (now + t) x1.a) := fun P e hP => grow_put n2 _ _ (grow_put n1 _ _ hP)
  have c1 : getQ (l24 l es.length (now + t) x1.a) [0, ((es.length + 1 : Nat) : Int), -1] = some (.int (now + t)) := grow_put n2 _ _ put_at
  have c2 : getQ (l24 l es.length (now + t) x1.a) [0, ((es.length + 1 : Nat) : Int), 0] = some (.int (now + t - x1.a)) := put_at
  have c0 : getQ (l24 l es.length (now + t) x1.a) [0, ((es.length + 1 : Nat) : Int) - 1, -1] = some (.int now) := by rw [num]; exact gr _ _ I.cur
  have nw : ∀ (k : Nat) (c : Int), es.length + 1 < k → getQ (l24 l es.length (now + t) x1.a) [0, (k : Int), c] = none := fun k c hk => by
    have ne : (k : Int) ≠ ((es.length + 1 : Nat) : Int) := by omega
    rw [getQ_put, if_neg (by simp only [List.cons.injEq]; exact fun z => ne z.2.1), getQ_put, if_neg (by simp only [List.cons.injEq]; exact fun z => ne z.2.1), I.new _ _ (by omega)]
  have ln : (l24 l es.length (now + t) x1.a).length ≤ 2 + 2 * (es.length + 1) := by
    have h1 : (l24 l es.length (now + t) x1.a).length ≤ (putQ l [0, ((es.length + 1 : Nat) : Int), -1] (.int (now + t))).length + 1 := len_updQ (putQ l [0, ((es.length + 1 : Nat) : Int), -1] (.int (now + t))) [0, ((es.length + 1 : Nat) : Int), 0] (fun _ => .int (now + t - x1.a)) (.int (now + t - x1.a))
    have h2 : (putQ l [0, ((es.length + 1 : Nat) : Int), -1] (.int (now + t))).length ≤ l.length + 1 := len_updQ l [0, ((es.length + 1 : Nat) : Int), -1] (fun _ => .int (now + t)) (.int (now + t))
    have h3 := I.len
    exact Nat.le_trans h1 (by omega)
  generalize l24 l es.length (now + t) x1.a = l' at gr c1 c2 c0 nw ln
  obtain ⟨d1, d2, _, _⟩ := hd.ok
  generalize he : Ev.mk as_ [x1.s] [y.s] d kn = e
  have hlast : (es ++ [e])[es.length]? = some e := by simp
  have hlen : (es ++ [e]).length = es.length + 1 := by simp
  have ftE : Fits (cks1 ks on) (ownL (cks1 ks on) 0) [h] e := by
    rw [own1, ← he]
    refine ⟨rfl, rfl, rfl, d1, fun ks' z => ?_, fun p c h' hp hh' => ?_⟩
    · have z : d = .anew ks' := z
      rw [z] at d2; cases d2
    · have hp0 : p = 0 := by
        have := (List.getElem?_eq_some_iff.mp hp).1
        simpa using this
      subst hp0
      simp at hp hh'; subst hp hh'
      exact ⟨_, kk, rfl, by rw [hkd]; exact hk0, ⟨by omega, by omega⟩, by omega, by omega⟩
  have hst : stepR (cks1 ks on) [h] e 0 ((es.length + 1 : Nat) : Int) (0, 0) = stepK ⟨.str "c", 0, on, ks⟩ kk h x1.s y.s e 0 ((es.length + 1 : Nat) : Int) 0 0 := by
    obtain ⟨K, k, h', s', a', q1, q2, q3, q4, q5, _, q6⟩ := ftE.at_ (p := 0) (c := 0) rfl
    rw [q6]
    simp at q1 q3; subst q1 q3
    rw [← he] at q4 q5
    simp at q4 q5; subst q4 q5
    rw [hkd, hk0] at q2; cases q2
    rfl
  have cb := cb_met (l := l') (lo := kk.2.1) (hi := kk.2.2) (s := x1.s) (h := h) (stop := (e.as && !on) || e.dd.isAnew) (m := ((es.length + 1 : Nat) : Int)) (now := now) (now1 := now + t) (a1 := x1.a) g1 c0 c1 c2 b1 (by omega) (by
    rcases hr with ⟨r1, r2, _⟩ | hr
    · exact .inl (by rw [← he]; simp [r1, r2])
    · rcases hsn with hs | ⟨p, hs, hv, hT⟩
      · exact .inr (.inl hs)
      · refine .inr (.inr ⟨p, _, hs, gr _ _ hT, ?_⟩)
        rw [hv]
        rcases hr.2 with ⟨r1, r2⟩ | ⟨r1, r2, r3, r4⟩
        · exact .inl ⟨r1, by omega⟩
        · exact .inr ⟨r1, by omega, by omega, by omega⟩)
  have eN : evN (cks1 ks on) 0 (es ++ [e]) dr0 (es.length + 1) = ((evN (cks1 ks on) 0 es dr0 es.length).1 ++ (bd (pp 0 ((es.length + 1 : Nat) : Int) (-1)) (pp 0 (((es.length + 1 : Nat) : Int) - 1) (-1)) 0 (-1) :: (stepK ⟨.str "c", 0, on, ks⟩ kk h x1.s y.s e 0 ((es.length + 1 : Nat) : Int) 0 0).1), [(stepK ⟨.str "c", 0, on, ks⟩ kk h x1.s y.s e 0 ((es.length + 1 : Nat) : Int) 0 0).2]) := by
    rw [evN_some hlast, evN_ext (Nat.le_refl _), hh, own1, List.append_nil, ← hst]
    unfold evA evH
    rw [own1]
    simp
  refine ⟨?_, ?_, ?_, ?_, ?_, ?_⟩
  · rw [hlen, eN]
    intro b hb
    rcases List.mem_append.mp hb with z | z
    · exact (I.met b z).up gr
    · rcases List.mem_cons.mp z with rfl | z
      · exact ⟨[0, ((es.length + 1 : Nat) : Int), -1], [0, ((es.length + 1 : Nat) : Int) - 1, -1], _, _, _, _, rfl, c1, c0, by omega⟩
      · exact cb.1 b z
  · rw [hlen, eN]
    refine ⟨_, rfl, ?_⟩
    have dde : e.dd = d := by rw [← he]
    unfold stepK handAf
    simp only [dde]
    rcases hd with ⟨k, hk, rfl, y1, y2⟩ | ⟨rfl, y1, y2⟩
    · exact ⟨y1.symm, .inr ⟨_, rfl, rfl, by rw [y2, Int.sub_zero]; exact c1⟩⟩
    · show (if y.s = x1.s then _ else _ : Hand).kd = _ ∧ _
      by_cases hy : y.s = x1.s
      · have ya : y.a = x1.a := by
          rcases y2 with ⟨_, z⟩ | ⟨z, _⟩
          · exact z
          · exact absurd hy z
        have cb2 := cb.2
        rw [dde] at cb2
        simp only [toldK, if_pos hy]
        exact ⟨by rw [y1, hkdx]; exact hkd, .inr ⟨_, rfl, hy.symm, by rw [ya]; exact cb2⟩⟩
      · have ya : y.a = 0 := by
          rcases y2 with ⟨z, _⟩ | ⟨_, z⟩
          · exact absurd z hy
          · exact z
        simp only [toldK, if_neg hy]
        exact ⟨by rw [y1, hkdx]; exact hkd, .inr ⟨_, rfl, by first | trivial | rfl, by rw [ya, Int.sub_zero]; exact c1⟩⟩
  · rw [hlen]; exact c1
  · rw [hlen]; exact nw
  · rw [hlen]; exact ln
  · intro k e' hk
    by_cases hkl : k < es.length
    · rw [List.getElem?_append_left hkl] at hk
      rw [evN_ext (by omega)]
      exact I.ft k e' hk
    · have := (List.getElem?_eq_some_iff.mp hk).1
      rw [hlen] at this
      have : k = es.length := by omega
      subst this
      rw [hlast] at hk; cases hk
      rw [evN_ext (Nat.le_refl _), hh]
      exact ftE

theorem drs0 {fn vr : Nat} {st : S} {es : List Ev} (h : ∀ e ∈ es, (e.dd.word = "hear") = False ∧ (e.dd.word = "mark") = False) : Drs fn vr st 0 es dr0 (fun _ => .non) where
  hd := fun k e st1 Q1 hk f q => by
    have := h e (List.mem_of_getElem? hk)
    rw [deed_non this.1 this.2]
    exact q _ _ (.push _ _) (fr_at _ _)
  hk := fun k e st1 Q1 hk f q => (sent_non (h e (List.mem_of_getElem? hk)).1).mpr q
  len := fun _ => Nat.zero_le _
theorem kinds_ok {st : S} {Q : D → S → Prop} (h : Rows st 1 60) (q : ∀ st' ks, Fr (fun b => b = 1) st st' → Rows st' 1 60 → goodS ks → Q (.tup (ks.map kdD)) st') : Ok (dn_llaw_kinds [.ref 1, .int 0] st) Q := by
  have z3 : (3 : Nat) ≤ sizeLine := by decide
  have l0 := h.lt
  unfold dn_llaw_kinds b_llaw_kinds
  rw [ok_def]
  refine ⟨rfl, ?_⟩
  have f1 := Fr.push (F := FN) st (.lst [])
  have e1 := fr_at st (.lst [])
  have r1 := h.fr f1 fun z => z
  have len1 : (st ++ [O.lst []]).length = st.length + 1 := by simp
  wide_open using []
  generalize st ++ [O.lst []] = s1 at f1 e1 r1 len1 ⊢
  refine ⟨by decide, by decide, ?_⟩
  refine ok_forN (n := 2) (fun k en st' => (∃ a3 a4, en = [some (.ref 1), some (.int 0), some (.ref st.length), a3, a4]) ∧ Fr (fun b => b = 1 ∨ b = st.length) s1 st' ∧ Rows st' 1 60 ∧ ∃ ks : KS, st'[st.length]? = some (.lst (ks.map kdD)) ∧ ks.length = k ∧ ∀ k ∈ ks, 1 ≤ k.2.1 ∧ k.2.1 ≤ k.2.2 ∧ k.2.2 ≤ 13) ⟨⟨_, _, rfl⟩, .refl _, r1, [], e1, rfl, fun _ z => nomatch z⟩ ?_ ?_
  · rintro k en s2 hk ⟨⟨a3, a4, rfl⟩, f2, r2, ks, e2, l2, g2⟩
    simp only [List.set_cons_succ, List.set_cons_zero]
    have nm : (Str.ofString (toString ((k : Nat) : Int))).length ≤ 10 := by
      have : k = 0 ∨ k = 1 := by omega
      rcases this with rfl | rfl <;> decide
    have strk : ∀ (Q : D → S → Prop) (st : S), Ok (dStr [.int (k : Nat)] st) Q ↔ Q (.str (toString ((k : Nat) : Int))) st := fun Q st => by
      rw [v_str]
      exact ⟨fun z => z.2, fun z => ⟨Nat.lt_of_lt_of_le (PySem.Flt.log2_lt_of (k := 4) (by decide) (by omega)) (by decide), z⟩⟩
    have nmk : ∀ (Q : D → S → Prop) (st : S), Ok (dAdd (.str "k") (.str (toString ((k : Nat) : Int))) st) Q ↔ Q (.str (("k" : Str) ++ (toString ((k : Nat) : Int) : Str))) st := fun Q st => by
      rw [v_addS]
      exact ⟨fun z => z.2, fun z => ⟨Nat.le_trans (Nat.add_le_add (show ("k" : Str).length ≤ 10 by decide) nm) (by decide), z⟩⟩
    wide_open using [bl_llaw_kinds_1]
    refine tk (i := 0) r2 rfl (by decide) (by decide) (by decide) fun lo s3 lo0 lo1 d3 => ?_
    have e3 := d3.at1 e2 (by omega)
    wide_open using [e3, strk, nmk]
    refine tk (i := 0) d3.rows rfl (by decide) (by decide) (by decide) fun x s4 x0 x1 d4 => ?_
    have e4 := d4.at1 e3 (by omega)
    wide_open using [e4, z3]
    refine ⟨by rw [List.length_map]; exact sml' (by omega), (f2.trans ((d3.trans d4).fr.weak fun _ z => .inl z)).set (.inl (.inr rfl)), d4.rows.fr ((Fr.refl (F := fun b => b = st.length) _).set (.inl rfl)) (by omega), ks ++ [(.str (("k" : Str) ++ (toString ((k : Nat) : Int) : Str)), 1 + lo, 1 + lo + x)], by rw [st_at e4]; simp [kdD], by simp [l2], fun k hk => ?_⟩
    rcases List.mem_append.mp hk with z | z
    · exact g2 k z
    · rw [List.mem_singleton.mp z]; exact ⟨by simp only; omega, by simp only; omega, by simp only; omega⟩
  · rintro en s2 ⟨⟨a3, a4, rfl⟩, f2, r2, ks, e2, l2, g2⟩
    wide_open using [bt_llaw_kinds_1, e2]
    exact q s2 ks (f1.w0.trans' f2 fun b hb => hb.imp id fun z => by omega) r2 ⟨l2, g2⟩

/-! ### instants go by -/
def RnI (s0 st' : S) (cr : Nat) (ks : KS) (lo hi amount : Int) (x : Ck) (FD : D) (k : Nat) (en : En) : Prop := ∃ (y : Ck) (a4 : Option D), en = [some (.ref cr), some (.ref 1), some (.int amount), some FD, a4] ∧ Fr (fun b => b = 1 ∨ b = cr) s0 st' ∧ st'.length = s0.length ∧ Rows st' 1 60 ∧ st'[cr]? = some (.lst (ckL y)) ∧ CkOk ks y ∧ Run lo hi x k y
theorem run_ok {st : S} {cr : Nat} {ks : KS} {x : Ck} {k0 : D × Int × Int} {amount : Nat} {Q : D → S → Prop} (h : Rows st 1 60) (hc : st[cr]? = some (.lst (ckL x))) (c1 : cr ≠ 1) (g : goodS ks) (hx : CkOk ks x) (hk0 : ks[x.kd]? = some k0) (a1 : amount ≤ 100)
    (q : ∀ st' y, Fr (fun b => b = 1 ∨ b = cr) st st' → st'.length = st.length → Rows st' 1 60 → st'[cr]? = some (.lst (ckL y)) → CkOk ks y → Run k0.2.1 k0.2.2 x (amount : Int) y → Q .non st') : Ok (dn_llaw_run [.ref cr, .ref 1, .int (amount : Nat), .tup (ks.map kdD)] st) Q := by
  unfold dn_llaw_run b_llaw_run
  rw [ok_def]
  refine ⟨rfl, ?_⟩
  wide_open using []
  refine ⟨by omega, by omega, ?_⟩
  refine ok_forN (n := amount) (fun k en st' => RnI st st' cr ks k0.2.1 k0.2.2 amount x (.tup (ks.map kdD)) k en) ⟨x, _, rfl, .refl _, rfl, h, hc, hx, Run.refl x⟩ ?_ ?_
  · rintro k en s2 hk hI
    obtain ⟨y, a4, rfl, f2, l2, r2, c2, oy, hr⟩ := hI
    simp only [List.set_cons_succ, List.set_cons_zero]
    obtain ⟨k1, hk1, g1, g2, g3, q1⟩ := kat g oy.kd
    have hkk : k1 = k0 := by rw [hr.1, hk0] at hk1; exact (Option.some.inj hk1).symm
    subst hkk
    obtain ⟨k2, hk2, y1, y2, y3, y4⟩ := oy.ex
    rw [hk1] at hk2; cases hk2
    obtain ⟨ys, ykd, ya, yL, yc⟩ := y
    simp only at y1 y2 y3 y4
    have c2 : s2[cr]? = some (.lst [.int ys, .int (ykd : Nat), .int 0, .int ya, .int yL, .int (yc : Nat)]) := c2
    have hykd : ykd < 2 := oy.kd
    have w2 := fun l => st_at (o := O.lst l) c2
    have ek : (((k + 1 : Nat) : Int)) = (k : Int) + 1 := by omega
    have rset : ∀ o, Rows (s2.set cr o) 1 60 := fun o => r2.fr ((Fr.refl (F := fun b => b = cr) _).set (.inl rfl)) fun z => c1 z.symm
    by_cases hge : ya + 1 ≥ yL
    · wide_open using [bl_llaw_run_1, c2, i63, w2, hge, ba_llaw_run_1, i60]
      have f3 : Fr (fun b => b = 1 ∨ b = cr) st (s2.set cr (.lst [.int (ys + 1), .int (ykd : Nat), .int 0, .int (ya + 1), .int yL, .int (yc : Nat)])) := f2.set (.inl (.inr rfl))
      have c3 := w2 [.int (ys + 1), .int (ykd : Nat), .int 0, .int (ya + 1), .int yL, .int (yc : Nat)]
      have r3 := rset (.lst [.int (ys + 1), .int (ykd : Nat), .int 0, .int (ya + 1), .int yL, .int (yc : Nat)])
      have l3 : (s2.set cr (.lst [.int (ys + 1), .int (ykd : Nat), .int 0, .int (ya + 1), .int yL, .int (yc : Nat)])).length = st.length := by simp [l2]
      generalize s2.set cr (.lst [.int (ys + 1), .int (ykd : Nat), .int 0, .int (ya + 1), .int yL, .int (yc : Nat)]) = s3 at f3 c3 r3 l3 ⊢
      refine begin_ok (x := ⟨ys + 1, ykd, ya + 1, yL, yc⟩) r3 c3 c1 g hykd fun st' z f4 l4 r4 c4 e1 e2 e3 oz => ?_
      refine ⟨z, _, rfl, f3.trans f4, l4.trans l3, r4, c4, oz, ?_⟩
      rw [ek]
      exact hr.tick (by omega) (by simp only; omega) (by simp only; omega) e1 e2 e3
    · wide_open using [bl_llaw_run_1, c2, i63, w2, hge]
      refine ⟨⟨ys, ykd, ya + 1, yL, yc⟩, _, rfl, f2.set (.inl (.inr rfl)), by simp [l2], rset _, by rw [w2]; rfl, ⟨hykd, k1, hk1, by simp only; omega, by simp only; omega, by simp only; omega, by simp only; omega⟩, ?_⟩
      rw [ek]
      exact hr.more rfl rfl rfl
  · rintro en s2 ⟨y, a4, rfl, f2, l2, r2, c2, oy, hr⟩
    wide_open using []
    exact q s2 y f2 l2 r2 c2 oy hr

/-! ### the view -/
def EvG (ks : KS) (on : Bool) (es : List Ev) (n : Nat) (e : Ev) : Prop := ∃ (s a : Int) (h : Hand), e.sh = [s] ∧ e.af = [a] ∧ (evN (cks1 ks on) 0 es dr0 n).2 = [h] ∧ h.kd < 2 ∧ (e.dd = .oth "note" [] ∨ ∃ k, k < 2 ∧ e.dd = .kind 0 k) ∧ ((e.as = true ∧ on = false) ∨ h.sn = none ∨ s = h.vl ∨ 1 ≤ s - h.vl)
def LJ (s0 st' : S) (ks : KS) (on : Bool) (cr er : Nat) (b0 : D) (k : Nat) (en : En) : Prop := ∃ (es : List Ev) (l : TL) (now : Int) (x : Ck) (a5 a6 a7 a8 a9 a10 : Option D),
  en = [some (.ref 1), some (.tup (ks.map kdD)), some (.bl on), some (.ref cr), some (.ref er), a5, a6, a7, a8, a9, a10] ∧
  Fr (fun b => b = 1 ∨ b = cr ∨ b = er) s0 st' ∧ Rows st' 1 60 ∧ st'[cr]? = some (.lst (ckL x)) ∧ CkOk ks x ∧ st'[er]? = some (.lst (b0 :: es.map evD)) ∧ es.length = k ∧ Inv24 ks on es l now x ∧ ∀ n e, es[n]? = some e → EvG ks on es n e
theorem body25 {s0 st : S} {ks : KS} {on : Bool} {cr er k : Nat} {b0 : D} {en : En} {V : Fl × En → S → Prop} (g : goodS ks) (hk : k < 9) (ne : cr ≠ 1 ∧ er ≠ 1 ∧ cr ≠ er) (h : LJ s0 st ks on cr er b0 k en) :
    Ok (bl_llaw_view_1 (en.set 5 (some (.int ((k + 1 : Nat) : Int)))) st) (Tn (fun en st' => LJ s0 st' ks on cr er b0 (k + 1) en) V) := by
  have z1 : (1 : Nat) ≤ sizeLine := by decide
  have z3 : (3 : Nat) ≤ sizeLine := by decide
  have z5 : (5 : Nat) ≤ sizeLine := by decide
  obtain ⟨es, l, now, x, a5, a6, a7, a8, a9, a10, rfl, f0, r0, c0, ox, e0, lk, I, wd⟩ := h
  obtain ⟨n1, n3, n5⟩ := ne
  obtain ⟨k0, hk0, _⟩ := ox.ex
  simp only [List.set_cons_succ, List.set_cons_zero]
  wide_open using [bl_llaw_view_1]
  refine tk (i := k + 1) r0 rfl (by omega) (by decide) (by decide) fun v s1 v0 v1 d1 => ?_
  generalize has : decide (v = 0) = as_
  wide_open using [has]
  refine tk (i := k + 1) d1.rows rfl (by omega) (by decide) (by decide) fun t s2 t0 t1 d2 => ?_
  obtain ⟨t, rfl⟩ : ∃ n : Nat, t = (n : Int) := ⟨t.toNat, by omega⟩
  have c2 := d2.at1 (d1.at1 c0 n1) n1
  have e2 := d2.at1 (d1.at1 e0 n3) n3
  have f2 : Fr (fun b => b = 1 ∨ b = cr ∨ b = er) s0 s2 := f0.trans ((d1.trans d2).fr.weak fun _ z => .inl z)
  have rest : ∀ (s3 : S) (x1 : Ck), Fr (fun b => b = 1 ∨ b = cr) s2 s3 → Rows s3 1 60 → s3[cr]? = some (.lst (ckL x1)) → CkOk ks x1 → ((as_ = true ∧ on = false ∧ x1 = x) ∨ Run k0.2.1 k0.2.2 x t x1) →
      Ok (bi_llaw_view_1 [some (.ref 1), some (.tup (ks.map kdD)), some (.bl on), some (.ref cr), some (.ref er), some (.int ((k + 1 : Nat) : Int)), some (.bl as_), some (.int t), a8, a9, a10] s3) (Tn (fun en st' => LJ s0 st' ks on cr er b0 (k + 1) en) V) := by
    intro s3 x1 f3 r3 c3 ox1 hr
    have e3 := f3.at_ e2 (by omega)
    have f03 : Fr (fun b => b = 1 ∨ b = cr ∨ b = er) s0 s3 := f2.trans (f3.weak fun b z => by omega)
    -- the event
    have put : ∀ (s6 : S) (y : Ck) (d : Dd) (way : Int), Fr (fun b => b = 1 ∨ b = cr) s3 s6 → Rows s6 1 60 → s6[cr]? = some (.lst (ckL y)) → CkOk ks y → DeedR x1 d y →
        Ok (bi_llaw_view_4 [some (.ref 1), some (.tup (ks.map kdD)), some (.bl on), some (.ref cr), some (.ref er), some (.int ((k + 1 : Nat) : Int)), some (.bl as_), some (.int t), some (.int x1.s), some (.int way), some (ddD d)] s6) (Tn (fun en st' => LJ s0 st' ks on cr er b0 (k + 1) en) V) := by
      intro s6 y d way f6 r6 c6 oy hd
      have e6 := f6.at_ e3 (by omega)
      have cc6 : s6[cr]? = some (.lst [.int y.s, .int (y.kd : Nat), .int 0, .int y.a, .int y.L, .int (y.c : Nat)]) := c6
      wide_open using [bi_llaw_view_4, cc6, z1, z5, e6]
      have I2 := step24 (kn := .tup [.int (((k + 1 : Nat) : Int) + 1)]) g I ox ox1 hk0 (show (0 : Int) ≤ (t : Int) by omega) hr hd
      refine ⟨by simp only [List.length_cons, List.length_map]; exact sml' (by omega), ?_⟩
      have fin : LJ s0 (s6.set er (.lst (b0 :: (es.map evD ++ [evD ⟨as_, [x1.s], [y.s], d, .tup [.int (((k + 1 : Nat) : Int) + 1)]⟩])))) ks on cr er b0 (k + 1) [some (.ref 1), some (.tup (ks.map kdD)), some (.bl on), some (.ref cr), some (.ref er), some (.int ((k + 1 : Nat) : Int)), some (.bl as_), some (.int t), some (.int x1.s), some (.int way), some (ddD d)] := by
        refine ⟨es ++ [⟨as_, [x1.s], [y.s], d, .tup [.int (((k + 1 : Nat) : Int) + 1)]⟩], _, _, y, _, _, _, _, _, _, rfl, (f03.trans (f6.weak fun b z => by omega)).set (.inl (.inr (.inr rfl))), r6.fr ((Fr.refl (F := fun b => b = er) _).set (.inl rfl)) (fun z => n3 z.symm), st_ot c6 (by omega), oy, by rw [st_at e6, List.map_append]; rfl, by simp [lk], I2, fun n e he => ?_⟩
        by_cases hn : n < es.length
        · rw [List.getElem?_append_left hn] at he
          obtain ⟨s', a', h', w1, w2, w3, w4⟩ := wd n e he
          exact ⟨s', a', h', w1, w2, by rw [evN_ext (by omega)]; exact w3, w4⟩
        · have := (List.getElem?_eq_some_iff.mp he).1
          rw [List.length_append, List.length_singleton] at this
          have : n = es.length := by omega
          subst this
          rw [List.getElem?_append_right (Nat.le_refl _), Nat.sub_self] at he
          simp at he; subst he
          obtain ⟨h', hh, hkd, hsn⟩ := I.hand
          refine ⟨_, _, h', rfl, rfl, by rw [evN_ext (Nat.le_refl _)]; exact hh, by rw [hkd]; exact ox.kd, ?_, ?_⟩
          · rcases hd with ⟨k', hk', rfl, _⟩ | ⟨rfl, _⟩
            · exact .inr ⟨k', hk', rfl⟩
            · exact .inl rfl
          · rcases hr with ⟨q1, q2, _⟩ | hr
            · exact .inl ⟨q1, q2⟩
            · rcases hsn with q | ⟨p, q1, q2, _⟩
              · exact .inr (.inl q)
              · refine .inr (.inr ?_)
                rw [q2]
                rcases hr.2 with ⟨w, _⟩ | ⟨w, _⟩
                · exact .inl w
                · exact .inr w
      exact fin
    obtain ⟨s, kd, a, L, c⟩ := x1
    have cc : s3[cr]? = some (.lst [.int s, .int (kd : Nat), .int 0, .int a, .int L, .int (c : Nat)]) := c3
    wide_open using [bi_llaw_view_1, cc]
    refine tk (i := k + 1) r3 rfl (by omega) (by decide) (by decide) fun way s4 y0 y1 d4 => ?_
    have cc4 := d4.at1 cc n1
    have f4 : Fr (fun b => b = 1 ∨ b = cr) s3 s4 := d4.fr.weak fun _ z => .inl z
    by_cases h0 : way = 0
    · wide_open using [h0, z1, z3, ba_llaw_view_2]
      refine tk (i := k + 1) d4.rows rfl (by omega) (by decide) (by decide) fun kk s5 k00 k01 d5 => ?_
      obtain ⟨kk, rfl⟩ : ∃ n : Nat, kk = (n : Int) := ⟨kk.toNat, by omega⟩
      have cc5 := d5.at1 cc4 n1
      have w5 := fun l => st_at (o := O.lst l) cc5
      wide_open using [cc5, i61, w5, z3, bi_llaw_view_2, bi_llaw_view_3, show ((0 : Int) = 1) = False from by decide]
      have f6 : Fr (fun b => b = 1 ∨ b = cr) s3 (s5.set cr (.lst [.int s, .int (kk : Nat), .int 0, .int a, .int L, .int (c : Nat)])) := (f4.trans (d5.fr.weak fun _ z => .inl z)).set (.inl (.inr rfl))
      have c6 := w5 [.int s, .int (kk : Nat), .int 0, .int a, .int L, .int (c : Nat)]
      have r6 : Rows (s5.set cr (.lst [.int s, .int (kk : Nat), .int 0, .int a, .int L, .int (c : Nat)])) 1 60 := d5.rows.fr ((Fr.refl (F := fun b => b = cr) _).set (.inl rfl)) fun z => n1 z.symm
      generalize s5.set cr (.lst [.int s, .int (kk : Nat), .int 0, .int a, .int L, .int (c : Nat)]) = s6 at f6 c6 r6 ⊢
      refine begin_ok (x := ⟨s, kk, a, L, c⟩) r6 c6 n1 g (by simp only; omega) fun st' y f7 l7 r7 c7 e1 e2 e3 oy => ?_
      exact put st' y (.kind 0 kk) 0 (f6.trans f7) r7 c7 oy (.inl ⟨kk, by omega, rfl, e2, e3⟩)
    · by_cases h1 : way = 1
      · wide_open using [h0, h1, z1, z3, bi_llaw_view_2, show ((1 : Int) = 0) = False from by decide]
        refine tk (i := k + 1) d4.rows rfl (by omega) (by decide) (by decide) fun v s5 v0 v1 d5 => ?_
        have cc5 := d5.at1 cc4 n1
        have w5 := fun l => st_at (o := O.lst l) cc5
        have f6 : Fr (fun b => b = 1 ∨ b = cr) s3 (s5.set cr (.lst [.int (v - 20), .int (kd : Nat), .int 0, .int a, .int L, .int (c : Nat)])) := (f4.trans (d5.fr.weak fun _ z => .inl z)).set (.inl (.inr rfl))
        have c6 := w5 [.int (v - 20), .int (kd : Nat), .int 0, .int a, .int L, .int (c : Nat)]
        have r6 : Rows (s5.set cr (.lst [.int (v - 20), .int (kd : Nat), .int 0, .int a, .int L, .int (c : Nat)])) 1 60 := d5.rows.fr ((Fr.refl (F := fun b => b = cr) _).set (.inl rfl)) fun z => n1 z.symm
        by_cases hv : v - 20 = s
        · wide_open using [cc5, i60, w5, hv, bi_llaw_view_3, show ((1 : Int) = 0) = False from by decide]
          rw [hv] at f6 c6 r6
          exact put _ ⟨s, kd, a, L, c⟩ (.oth "note" []) 1 f6 r6 c6 ox1 (.inr ⟨rfl, rfl, .inl ⟨rfl, rfl⟩⟩)
        · wide_open using [cc5, i60, w5, hv, bi_llaw_view_3, show ((1 : Int) = 0) = False from by decide]
          generalize s5.set cr (.lst [.int (v - 20), .int (kd : Nat), .int 0, .int a, .int L, .int (c : Nat)]) = s6 at f6 c6 r6 ⊢
          refine begin_ok (x := ⟨v - 20, kd, a, L, c⟩) r6 c6 n1 g ox1.kd fun st' y f7 l7 r7 c7 e1 e2 e3 oy => ?_
          exact put st' y (.oth "note" []) 1 (f6.trans f7) r7 c7 oy (.inr ⟨rfl, e2, .inr ⟨by rw [e1]; exact hv, e3⟩⟩)
      · wide_open using [h0, h1, z1, bi_llaw_view_2, bi_llaw_view_3, cc4]
        exact put s4 ⟨s, kd, a, L, c⟩ (.oth "note" []) way f4 d4.rows cc4 ox1 (.inr ⟨rfl, rfl, .inl ⟨rfl, rfl⟩⟩)
  have go : Ok (dn_llaw_run [.ref cr, .ref 1, .int (t : Nat), .tup (ks.map kdD)] s2) fun _ s3 => Ok (bi_llaw_view_1 [some (.ref 1), some (.tup (ks.map kdD)), some (.bl on), some (.ref cr), some (.ref er), some (.int ((k + 1 : Nat) : Int)), some (.bl as_), some (.int t), a8, a9, a10] s3) (Tn (fun en st' => LJ s0 st' ks on cr er b0 (k + 1) en) V) :=
    run_ok d2.rows c2 n1 g ox hk0 (by omega) fun s3 x1 f3 _ r3 c3 ox1 hr => rest s3 x1 f3 r3 c3 ox1 (.inr hr)
  cases hon : on with
  | true =>
    subst hon
    wide_open using []
    exact go
  | false =>
    subst hon
    cases has2 : as_ with
    | true =>
      wide_open using []
      rw [has2] at rest
      exact rest s2 x (.refl _) d2.rows c2 ox (.inl ⟨rfl, rfl, rfl⟩)
    | false =>
      rw [has2] at go
      wide_open using []
      exact go

-- CUT
theorem view25_ok {st : S} {ks : KS} {on : Bool} {Q : D → S → Prop} (h : Rows st 1 60) (g : goodS ks) (q : ∀ st' er es l now x b0, Fr (fun b => b = 1) st st' → Rows st' 1 60 → st.length ≤ er → st'[er]? = some (.lst (b0 :: (es : List Ev).map evD)) → es.length ≤ 8 → Inv24 ks on es l now x → (∀ n e, es[n]? = some e → EvG ks on es n e) → Q (.ref er) st') :
    Ok (dn_llaw_view [.ref 1, .tup (ks.map kdD), .bl on] st) Q := by
  have z0 : (0 : Nat) ≤ sizeLine := by decide
  have z1 : (1 : Nat) ≤ sizeLine := by decide
  have z5 : (5 : Nat) ≤ sizeLine := by decide
  have z6 : (6 : Nat) ≤ sizeLine := by decide
  have l0 := h.lt
  unfold dn_llaw_view b_llaw_view
  rw [ok_def]
  refine ⟨rfl, ?_⟩
  rw [ok_seq]
  walk_at "ev"
  refine tk (i := 0) h rfl (by decide) (by decide) (by decide) fun v st6 v0 v1 d6 => ?_
  have l6 := d6.len
  wide_open using [z6]
  have f7 := Fr.push (F := FN) st6 (.lst (ckL ⟨v - 10, 0, 0, 0, 0⟩))
  have c7 := fr_at st6 (.lst (ckL ⟨v - 10, 0, 0, 0, 0⟩))
  have r7 := d6.rows.fr f7 fun z => z
  have l7 : (st6 ++ [O.lst (ckL ⟨v - 10, 0, 0, 0, 0⟩)]).length = st6.length + 1 := by simp
  rw [show [D.int (v - 10), .int 0, .int 0, .int 0, .int 0, .int 0] = ckL ⟨v - 10, 0, 0, 0, 0⟩ from rfl]
  have g7 : Fr (fun b => b = 1) st (st6 ++ [O.lst (ckL ⟨v - 10, 0, 0, 0, 0⟩)]) := d6.fr.trans f7.w0
  generalize st6 ++ [O.lst (ckL ⟨v - 10, 0, 0, 0, 0⟩)] = st7 at f7 c7 r7 l7 g7 ⊢
  generalize hcr : st6.length = cr at *
  have cr1 : cr ≠ 1 := by omega
  refine begin_ok r7 c7 cr1 g (show (0 : Nat) < 2 by decide) fun st8 x f8 l8 r8 c8 x1 x2 x3 ox => ?_
  have g8 : Fr (fun b => b = 1) st st8 := g7.trans' f8 fun b hb => hb.imp id fun z => by omega
  wide_open using [z0, z1, z5]
  generalize hb0 : D.tup [D.bl false, D.tup [], D.tup [], D.tup [D.str (Str.ofString "note")], D.tup [D.int 1]] = b0
  clear hb0
  have fG := Fr.push (F := FN) st8 (.lst [b0])
  have eG := fr_at st8 (.lst [b0])
  have rG := r8.fr fG fun z => z
  have cG := fG.at0 c8
  have gG := g8.trans fG.w0
  have lG : (st8 ++ [O.lst [b0]]).length = st8.length + 1 := by simp
  generalize st8 ++ [O.lst [b0]] = sG at fG eG rG cG gG lG ⊢
  generalize her : st8.length = er at *
  refine tk (i := 1) rG rfl (by decide) (by decide) (by decide) fun m sH m0 m1 dH => ?_
  obtain ⟨m, rfl⟩ : ∃ n : Nat, m = (n : Int) := ⟨m.toNat, by omega⟩
  have hm2 : (1 : Int) + (m : Int) = ((m + 1 : Nat) : Int) := by omega
  wide_open using [hm2]
  refine ⟨by decide, by decide, by omega, by omega, ?_⟩
  have ne : cr ≠ 1 ∧ er ≠ 1 ∧ cr ≠ er := by omega
  have hx0 : x.kd = 0 := x2
  let l0' : TL := [([0, 0, -1], D.int 0)]
  have I0 : Inv24 ks on [] [([0, 0, -1], D.int 0)] 0 x := by
    refine ⟨(fun b hb => nomatch hb), ⟨hand0, rfl, by rw [hx0]; rfl, .inl rfl⟩, rfl, fun k c hk => ?_, by simp, fun k e h => by simp at h⟩
    rw [getQ_neg (by simp only [List.cons.injEq]; intro z; have := z.2.1; simp at hk; omega)]; rfl
  refine ok_loop0 (w := ⟨rgD 1 ((m + 1 : Nat) : Int), []⟩) (fun k en st' => LJ sH st' ks on cr er b0 k en) ⟨[], [([0, 0, -1], D.int 0)], 0, x, _, _, _, _, _, _, rfl, .refl _, dH.rows, dH.at1 cG ne.1, ox, dH.at1 eG ne.2.1, rfl, I0, fun n e z => by simp at z⟩ (fun _ _ _ _ => wkn) ?_ ?_
  · rintro k d en sI hk0 hI
    obtain ⟨hk, rfl⟩ := rg_get hk0
    refine ⟨_, rfl, ?_⟩
    have ek : (1 + (k : Int)) = ((k + 1 : Nat) : Int) := by omega
    rw [ek]
    exact body25 g (by omega) ne hI
  rintro en sI ⟨es, l, now1, y, a5, a6, a7, a8, a9, a10, rfl, fI, rI, cI, oy, eI, lk, I, wd⟩
  have e : (rgD 1 ((m + 1 : Nat) : Int)).length = m := by rw [rg_len]; omega
  have lk : es.length = m := lk.trans e
  wide_open using [bt_llaw_view_1]
  exact q sI er es l now1 y b0 ((gG.trans dH.fr).trans' fI fun b hb => by omega) rI (by omega) eI (by omega) I wd
/-! ### no ring where all is met -/
theorem pot_ring {A : List Arc} {π : Nat → Int} (h : ∀ a ∈ A, π a.2.1 ≤ π a.1 + a.2.2) : NoRing A := by
  have key : ∀ u v k d, Wlk A u v k d → π v ≤ π u + d := by
    intro u v k d w
    induction w with
    | nil => omega
    | snoc w m ih => have := h _ m; simp only at this; omega
  intro u k d w
  have := key u u k d w
  omega
theorem mx3_le {i j k m : Int} (h1 : i ≤ m) (h2 : j ≤ m) (h3 : k ≤ m) : mx3 i j k ≤ m := by unfold mx3; split <;> split <;> omega
theorem mx3_ge {i j k : Int} : i ≤ mx3 i j k ∧ j ≤ mx3 i j k ∧ k ≤ mx3 i j k := by unfold mx3; split <;> split <;> omega
theorem fits_ok {st : S} {start look stop gain lo hi : Int} {Q : D → S → Prop} (hg : 1 ≤ gain) (hlo : lo ≤ hi) (b : 0 ≤ lo ∧ hi ≤ 13) (h1 : stop - start ≤ hi * gain) (h2 : lo * gain ≤ stop - start) (h3 : lo * (gain - 1) ≤ stop - look) (h4 : look - start ≤ hi)
    (q : Q (.bl true) st) : Ok (dn_llaw_fits [.int start, .int look, .int stop, .int gain, .int lo, .int hi] st) Q := by
  have e1 : hi * gain = hi * (gain - 1) + hi := by
    have : gain = (gain - 1) + 1 := by omega
    rw [this, Int.mul_add, Int.mul_one, show gain - 1 + 1 - 1 = gain - 1 by omega]
  have e2 : lo * gain = lo * (gain - 1) + lo := by
    have : gain = (gain - 1) + 1 := by omega
    rw [this, Int.mul_add, Int.mul_one, show gain - 1 + 1 - 1 = gain - 1 by omega]
  have e3 : lo * (gain - 1) ≤ hi * (gain - 1) := Int.mul_le_mul_of_nonneg_right hlo (by omega)
  obtain ⟨m1, m2, m3⟩ := mx3_ge (i := look) (j := start + lo) (k := stop - hi * (gain - 1))
  have m4 : mx3 look (start + lo) (stop - hi * (gain - 1)) ≤ start + hi := mx3_le (by omega) (by omega) (by omega)
  have m5 : mx3 look (start + lo) (stop - hi * (gain - 1)) ≤ stop - lo * (gain - 1) := mx3_le (by omega) (by omega) (by omega)
  unfold dn_llaw_fits b_llaw_fits
  rw [ok_def]
  refine ⟨rfl, ?_⟩
  wide_open using [show (gain < 1) = False from eq_false (by omega), bi_llaw_fits_1, dMax3, ok_ok]
  refine ⟨.inl (by omega), ?_⟩
  rw [if_pos (by omega), if_pos m4]
  refine ⟨.inl (by omega), ?_⟩
  rw [if_pos (by omega)]
  refine ⟨.inl (by omega), ?_⟩
  rw [decide_eq_true (show stop - mx3 look (start + lo) (stop - hi * (gain - 1)) ≤ hi * (gain - 1) by omega)]
  exact q
/-! ### what the bounds tell of any times that meet them -/
def SatR (NM : List (List Int)) (T : List Int → Int) (R : List D) : Prop := ∀ (P R' : List Int) (am pa : Int), (.tup [dkk P, dkk R', .int am, .int pa] : D) ∈ R → P ∈ NM ∧ R' ∈ NM ∧ T R' ≤ T P + am
theorem cb_sat {NM : List (List Int)} {T : List Int → Int} {R : List D} {lo hi s m : Int} {h : Hand} {stop : Bool} {X : Int × Int × Int} (sat : SatR NM T R) (sub : ∀ b ∈ (cbR lo hi 0 h stop (0, m, 0) (pp 0 m (-1)) (pp 0 (m - 1) (-1)) s).1, b ∈ R) (hX : (cbR lo hi 0 h stop (0, m, 0) (pp 0 m (-1)) (pp 0 (m - 1) (-1)) s).2 = X) :
    pK X ∈ NM ∧ 0 ≤ T [0, m, -1] - T (pK X) ∧ T [0, m, -1] - T (pK X) ≤ hi ∧ ((h.sn = none ∨ stop = true) → X = (0, m, 0)) ∧
    ∀ p, h.sn = some p → stop = false → (s = h.vl → X = p) ∧ (s ≠ h.vl → X = (0, m, 0) ∧ T [0, m, 0] - T (pK p) ≤ hi * (s - h.vl) ∧ lo * (s - h.vl) ≤ T [0, m, 0] - T (pK p) ∧ lo * (s - h.vl - 1) ≤ T [0, m, 0] - T [0, m - 1, -1]) := by
  have plain : ∀ Y : Int × Int × Int, (bd (sinD (some Y)) (pp 0 m (-1)) hi 0 : D) ∈ R → (bd (pp 0 m (-1)) (sinD (some Y)) 0 0 : D) ∈ R → pK Y ∈ NM ∧ 0 ≤ T [0, m, -1] - T (pK Y) ∧ T [0, m, -1] - T (pK Y) ≤ hi := fun Y h1 h2 => by
    obtain ⟨a1, _, a3⟩ := sat (pK Y) [0, m, -1] hi 0 h1
    obtain ⟨_, _, b3⟩ := sat [0, m, -1] (pK Y) 0 0 h2
    exact ⟨a1, by omega, by omega⟩
  subst hX
  unfold cbR at sub ⊢
  split at sub
  · rename_i hn
    obtain ⟨a, b, c⟩ := plain (0, m, 0) (sub _ (by simp)) (sub _ (by simp))
    simp only [hn]
    exact ⟨a, b, c, fun _ => trivial, fun p z => by cases z⟩
  · rename_i p hp
    simp only [hp]
    split at sub
    · rename_i hst
      obtain ⟨a, b, c⟩ := plain (0, m, 0) (sub _ (by simp)) (sub _ (by simp))
      simp only [hst, if_true]
      exact ⟨a, b, c, fun _ => trivial, fun q _ z => by cases z⟩
    · rename_i hst
      have hst : stop = false := by simpa using hst
      split at sub
      · rename_i hs
        obtain ⟨a, b, c⟩ := plain p (sub _ (by simp)) (sub _ (by simp))
        simp only [hst, hs, Bool.false_eq_true, if_false, if_true]
        refine ⟨a, b, c, fun z => ?_, fun q z _ => ⟨fun _ => Option.some.inj z, fun w => absurd rfl w⟩⟩
        rcases z with z | z <;> cases z
      · rename_i hs
        obtain ⟨a, b, c⟩ := plain (0, m, 0) (sub _ (by simp)) (sub _ (by simp))
        simp only [hst, hs, Bool.false_eq_true, if_false]
        refine ⟨a, b, c, fun z => ?_, fun q z _ => ⟨fun w => w.elim, fun _ => ⟨trivial, ?_⟩⟩⟩
        · rcases z with z | z <;> cases z
        · cases Option.some.inj z
          obtain ⟨_, _, u1⟩ := sat (pK p) [0, m, 0] (hi * (s - h.vl)) 0 (sub _ (by left))
          obtain ⟨_, _, u2⟩ := sat [0, m, 0] (pK p) (-(lo * (s - h.vl))) 0 (sub _ (by right; left))
          obtain ⟨_, _, u3⟩ := sat [0, m, 0] [0, m - 1, -1] (-lo * (s - h.vl - 1)) 0 (sub _ (by right; right; right; left))
          rw [Int.neg_mul] at u3
          exact ⟨by omega, by omega, by omega⟩

/-! ### the law's walk by a table's times -/
structure Tms (st : S) (t : Nat) (NM : List (List Int)) (T : List Int → Int) : Prop where
  obj : ∃ fs, st[t]? = some (.ins "Table" fs) ∧ List.lookup ("time_of" : Str) fs = none
  ask : ∀ (P : List Int) (Q : D → S → Prop) (st1 : S), P ∈ NM → Fr FN st st1 → (∀ st', Fr FN st1 st' → Q (.int (T P)) st') → Ok (dn_Table_time_of [.ref t, dkk P] st1) Q
theorem Tms.fr {st st' : S} {t : Nat} {NM : List (List Int)} {T : List Int → Int} (h : Tms st t NM T) (f : Fr FN st st') : Tms st' t NM T := by
  obtain ⟨fs, a, b⟩ := h.obj
  exact ⟨⟨fs, f.at0 a, b⟩, fun P Q st1 hp g q => h.ask P Q st1 hp (f.trans g) q⟩
theorem evN_mono {cks : List Clk} {dev : Int} {es : List Ev} {dr : Nat → List D} {n : Nat} : ∀ {m : Nat}, n ≤ m → ∀ b ∈ (evN cks dev es dr n).1, b ∈ (evN cks dev es dr m).1
  | 0, h, b, hb => by
    have : n = 0 := by omega
    subst this; exact hb
  | m + 1, h, b, hb => by
    by_cases e : n = m + 1
    · subst e; exact hb
    · have ih := evN_mono (m := m) (by omega) b hb
      cases he : es[m]? with
      | none => unfold evN; rw [he]; exact ih
      | some x => rw [evN_some he]; exact List.mem_append_left _ ih
theorem ne1_iff {a s : Int} {st : S} {Q : D → S → Prop} : Ok (dNe (.tup [.int a]) (.tup [.int s]) st) Q ↔ Q (.bl (!decide (a = s))) st := by
  have e : Ok (dNe (.tup [.int a]) (.tup [.int s]) st) Q ↔ Q (.bl (!(PyData.eqv (toP (.tup [.int a])) (toP (.tup [.int s]))))) st := Iff.rfl
  have key : PyData.eqv (toP (.tup [.int a])) (toP (.tup [.int s])) = decide (a = s) := by
    rw [Bool.eq_iff_iff, eqv_pure 2 2 _ _ rfl rfl, decide_eq_true_iff]
    simp [nrm, nrms]
  rw [e, key]
def WkI (s0 st' : S) (ks : KS) (on : Bool) (es : List Ev) (er t : Nat) (NM : List (List Int)) (T : List Int → Int) (n : Nat) (en : En) : Prop := ∃ (since : D) (value : Int) (h : Hand) (a7 a8 a9 a10 a11 a12 a13 a14 a15 a16 a17 : Option D),
  en = [some (.ref er), some (.tup (ks.map kdD)), some (.bl on), some (.ref t), some since, some (.int value), some (.int (h.kd : Nat)), a7, a8, a9, a10, a11, a12, a13, a14, a15, a16, a17] ∧ Fr FN s0 st' ∧ (evN (cks1 ks on) 0 es dr0 n).2 = [h] ∧ h.kd < 2 ∧
  ((since = .non ∧ h.sn = none) ∨ ∃ p k, h.sn = some p ∧ since = .int (T (pK p)) ∧ value = h.vl ∧ ks[h.kd]? = some k ∧ T [0, (n : Int), -1] - T (pK p) ≤ k.2.2)
theorem walk_ok {st : S} {ks : KS} {on : Bool} {es : List Ev} {er t : Nat} {b0 : D} {NM : List (List Int)} {T : List Int → Int} {R : List D} {Q : D → S → Prop} (g : goodS ks) (he : st[er]? = some (.lst (b0 :: es.map evD))) (hl : es.length ≤ 8) (tms : Tms st t NM T) (sat : SatR NM T R) (hR : ∀ b ∈ (evN (cks1 ks on) 0 es dr0 es.length).1, b ∈ R)
    (ft : ∀ k e, es[k]? = some e → Fits (cks1 ks on) (ownL (cks1 ks on) 0) (evN (cks1 ks on) 0 es dr0 k).2 e) (wd : ∀ n e, es[n]? = some e → EvG ks on es n e) (q : ∀ st', Q (.bl true) st') : Ok (dn_llaw_walk [.ref er, .tup (ks.map kdD), .bl on, .ref t] st) Q := by
  have z3 : (3 : Nat) ≤ sizeLine := by decide
  unfold dn_llaw_walk b_llaw_walk
  rw [ok_def]
  refine ⟨rfl, ?_⟩
  wide_open using [he, List.length_cons, List.length_map]
  refine ⟨by decide, by decide, by omega, by omega, ?_⟩
  refine ok_loop0 (w := ⟨rgD 1 ((es.length + 1 : Nat) : Int), []⟩) (fun n en st' => WkI st st' ks on es er t NM T n en) ⟨.non, 0, hand0, _, _, _, _, _, _, _, _, _, _, _, rfl, .refl _, rfl, by decide, .inl ⟨rfl, rfl⟩⟩ (fun _ _ _ _ => wkn) ?_ ?_
  · rintro n d en s1 hk0 ⟨since, value, h, a7, a8, a9, a10, a11, a12, a13, a14, a15, a16, a17, rfl, f1, hh, hkd, hs⟩
    obtain ⟨hk, rfl⟩ := rg_get hk0
    have hk : n < es.length := by omega
    obtain ⟨e, hev⟩ : ∃ e, es[n]? = some e := ⟨_, List.getElem?_eq_getElem hk⟩
    obtain ⟨s, a, h', e1, e2, e3, _, e4, e5⟩ := wd n e hev
    rw [hh] at e3
    cases e3
    refine ⟨_, rfl, ?_⟩
    simp only [List.set_cons_succ, List.set_cons_zero]
    have ek : (1 + (n : Int)) = ((n + 1 : Nat) : Int) := by omega
    rw [ek]
    obtain ⟨as_, sh, af, dd, kn⟩ := e
    simp only at e1 e2 e4 e5
    subst e1 e2
    obtain ⟨kk, hkk, g1, g2, g3, qk⟩ := kat g hkd
    have ftE := ft n _ hev
    rw [hh] at ftE
    have hst : stepR (cks1 ks on) [h] ⟨as_, [s], [a], dd, kn⟩ 0 ((n + 1 : Nat) : Int) (0, 0) = stepK ⟨.str "c", 0, on, ks⟩ kk h s a ⟨as_, [s], [a], dd, kn⟩ 0 ((n + 1 : Nat) : Int) 0 0 := by
      obtain ⟨K, k, h', s', a', q1, q2, q3, q4, q5, _, q6⟩ := ftE.at_ (p := 0) (c := 0) rfl
      rw [q6]
      simp at q1 q3 q4 q5; subst q1 q3 q4 q5
      rw [hkk] at q2; cases q2
      rfl
    have hd2 : dd.isAnew = false := by rcases e4 with rfl | ⟨k, _, rfl⟩ <;> rfl
    have eN : evN (cks1 ks on) 0 es dr0 (n + 1) = ((evN (cks1 ks on) 0 es dr0 n).1 ++ (bd (pp 0 ((n + 1 : Nat) : Int) (-1)) (pp 0 (((n + 1 : Nat) : Int) - 1) (-1)) 0 (-1) :: (stepK ⟨.str "c", 0, on, ks⟩ kk h s a ⟨as_, [s], [a], dd, kn⟩ 0 ((n + 1 : Nat) : Int) 0 0).1), [(stepK ⟨.str "c", 0, on, ks⟩ kk h s a ⟨as_, [s], [a], dd, kn⟩ 0 ((n + 1 : Nat) : Int) 0 0).2]) := by
      rw [evN_some hev, hh, own1, List.append_nil, ← hst]
      unfold evA evH
      rw [own1]
      simp
    have sub : ∀ b ∈ (evN (cks1 ks on) 0 es dr0 (n + 1)).1, b ∈ R := fun b hb => hR b (evN_mono (by omega) b hb)
    rw [eN] at sub
    obtain ⟨mE, mB, tB⟩ := sat [0, ((n + 1 : Nat) : Int), -1] [0, ((n + 1 : Nat) : Int) - 1, -1] 0 (-1) (sub _ (List.mem_append_right _ List.mem_cons_self))
    generalize hX : (cbR kk.2.1 kk.2.2 0 h ((as_ && !on) || dd.isAnew) (0, ((n + 1 : Nat) : Int), 0) (pp 0 ((n + 1 : Nat) : Int) (-1)) (pp 0 (((n + 1 : Nat) : Int) - 1) (-1)) s).2 = X
    obtain ⟨x1, x2, x3, x4, x5⟩ := cb_sat (X := X) sat (fun b hb => sub b (List.mem_append_right _ (List.mem_cons_of_mem _ hb))) hX
    rw [hd2, Bool.or_false] at x4 x5 hX
    have hH : (evN (cks1 ks on) 0 es dr0 (n + 1)).2 = [handAf dd 0 0 (0, ((n + 1 : Nat) : Int), -1) ⟨some X, s, h.kd⟩ a] := by
      rw [eN, ← hX]
      unfold stepK
      simp only [hd2, Bool.or_false]
      rfl
    have he1 := f1.at0 he
    have q1 : atI (b0 :: es.map evD) ((n + 1 : Nat) : Int) = some (evD ⟨as_, [s], [a], dd, kn⟩) := atI_lt (by rw [List.getElem?_cons_succ, List.getElem?_map, hev]; rfl)
    have tm1 := tms.fr f1
    obtain ⟨fs, y0, y1⟩ := tm1.obj
    have evd : evD ⟨as_, [s], [a], dd, kn⟩ = .tup [.bl as_, .tup [.int s], .tup [.int a], ddD dd, kn] := rfl
    rw [evd] at q1
    wide_open using [bl_llaw_walk_1, he1, q1, bt5, y0, y1, z3]
    refine tm1.ask [0, ((n + 1 : Nat) : Int), -1] _ s1 mE (.refl _) fun s2 f2 => ?_
    have tm2 := tm1.fr f2
    obtain ⟨fs2, w0, w1⟩ := tm2.obj
    wide_open using [w0, w1, z3]
    refine tm2.ask [0, ((n + 1 : Nat) : Int) - 1, -1] _ s2 mB (.refl _) fun s3 f3 => ?_
    have tm3 := tm2.fr f3
    obtain ⟨fs3, v0, v1⟩ := tm3.obj
    have g13 : Fr FN st s3 := (f1.trans f2).trans f3
    have tail : ∀ (s4 : S) (a17 : Option D), Fr FN st s4 → Ok (bi_llaw_walk_2 [some (.ref er), some (.tup (ks.map kdD)), some (.bl on), some (.ref t), some (.int (T (pK X))), some (.int value), some (.int (h.kd : Nat)), some (.int ((n + 1 : Nat) : Int)), some (.int (T [0, ((n + 1 : Nat) : Int), -1])), some (.int (T [0, ((n + 1 : Nat) : Int) - 1, -1])), some (.int kk.2.1), some (.int kk.2.2), some (.bl as_), some (.tup [.int s]), some (.tup [.int a]), some (ddD dd), some kn, a17] s4) (Tn (fun en st' => WkI st st' ks on es er t NM T (n + 1) en) (Sq bt_llaw_walk_1 (Rt Q))) := fun s4 a17 f4 => by
      have c1 : (0 ≤ T [0, ((n + 1 : Nat) : Int), -1] - T (pK X)) = True := eq_true x2
      have c2 : (T [0, ((n + 1 : Nat) : Int), -1] - T (pK X) ≤ kk.2.2) = True := eq_true x3
      rcases e4 with rfl | ⟨k, hk2, rfl⟩
      · have wk : (("note" : Str) = "kind") = False := by decide
        by_cases ha : a = s
        · have fin : WkI st s4 ks on es er t NM T (n + 1) [some (.ref er), some (.tup (ks.map kdD)), some (.bl on), some (.ref t), some (.int (T (pK X))), some (.int a), some (.int (h.kd : Nat)), some (.int ((n + 1 : Nat) : Int)), some (.int (T [0, ((n + 1 : Nat) : Int), -1])), some (.int (T [0, ((n + 1 : Nat) : Int) - 1, -1])), some (.int kk.2.1), some (.int kk.2.2), some (.bl as_), some (.tup [.int s]), some (.tup [.int a]), some (ddD (.oth "note" [])), some kn, a17] := by
            refine ⟨_, a, ⟨some X, s, h.kd⟩, _, _, _, _, _, _, _, _, _, _, _, rfl, f4, ?_, hkd, .inr ⟨X, kk, rfl, rfl, ha, hkk, x3⟩⟩
            rw [hH]; unfold handAf; simp only [toldK, if_pos ha]
          subst ha
          have ne0 : ∀ (st : S) (Q : D → S → Prop), Ok (dNe (.tup [.int a]) (.tup [.int a]) st) Q ↔ Q (.bl false) st := fun st Q => by rw [ne1_iff]; simp
          wide_open using [bi_llaw_walk_2, c1, c2, bi_llaw_walk_5, bi_llaw_walk_6, bi_llaw_walk_7, ddD, wk, ne0]
          exact fin
        · have fin : WkI st s4 ks on es er t NM T (n + 1) [some (.ref er), some (.tup (ks.map kdD)), some (.bl on), some (.ref t), some (.int (T [0, ((n + 1 : Nat) : Int), -1])), some (.int a), some (.int (h.kd : Nat)), some (.int ((n + 1 : Nat) : Int)), some (.int (T [0, ((n + 1 : Nat) : Int), -1])), some (.int (T [0, ((n + 1 : Nat) : Int) - 1, -1])), some (.int kk.2.1), some (.int kk.2.2), some (.bl as_), some (.tup [.int s]), some (.tup [.int a]), some (ddD (.oth "note" [])), some kn, a17] := by
            refine ⟨_, a, ⟨some (0, ((n + 1 : Nat) : Int), -1), a, h.kd⟩, _, _, _, _, _, _, _, _, _, _, _, rfl, f4, ?_, hkd, .inr ⟨(0, ((n + 1 : Nat) : Int), -1), kk, rfl, rfl, rfl, hkk, by show T [0, ((n + 1 : Nat) : Int), -1] - T [0, ((n + 1 : Nat) : Int), -1] ≤ _; omega⟩⟩
            rw [hH]; unfold handAf; simp only [toldK, if_neg ha]
          wide_open using [bi_llaw_walk_2, c1, c2, bi_llaw_walk_5, bi_llaw_walk_6, bi_llaw_walk_7, ddD, wk, fun Q st => ne1_iff (a := a) (s := s) (st := st) (Q := Q), ha]
          exact fin
      · obtain ⟨k2, hk22, _, _, _, _⟩ := kat g hk2
        have := (g.2 k2 (List.mem_of_getElem? hk22))
        have fin : WkI st s4 ks on es er t NM T (n + 1) [some (.ref er), some (.tup (ks.map kdD)), some (.bl on), some (.ref t), some (.int (T [0, ((n + 1 : Nat) : Int), -1])), some (.int a), some (.int (k : Nat)), some (.int ((n + 1 : Nat) : Int)), some (.int (T [0, ((n + 1 : Nat) : Int), -1])), some (.int (T [0, ((n + 1 : Nat) : Int) - 1, -1])), some (.int kk.2.1), some (.int kk.2.2), some (.bl as_), some (.tup [.int s]), some (.tup [.int a]), some (ddD (.kind 0 k)), some kn, a17] := by
          refine ⟨_, a, ⟨some (0, ((n + 1 : Nat) : Int), -1), a, k⟩, _, _, _, _, _, _, _, _, _, _, _, rfl, f4, ?_, hk2, .inr ⟨(0, ((n + 1 : Nat) : Int), -1), k2, rfl, rfl, rfl, hk22, by show T [0, ((n + 1 : Nat) : Int), -1] - T [0, ((n + 1 : Nat) : Int), -1] ≤ _; omega⟩⟩
          rw [hH]; rfl
        wide_open using [bi_llaw_walk_2, c1, c2, bi_llaw_walk_5, bi_llaw_walk_6, bi_llaw_walk_7, ddD]
        exact fin
    have tick : X = (0, ((n + 1 : Nat) : Int), 0) → ∀ a17, Ok (dn_Table_time_of [.ref t, .tup [.int 0, .int ((n + 1 : Nat) : Int), .int 0]] s3) fun d st1 => Ok (bi_llaw_walk_2 [some (.ref er), some (.tup (ks.map kdD)), some (.bl on), some (.ref t), some d, some (.int value), some (.int (h.kd : Nat)), some (.int ((n + 1 : Nat) : Int)), some (.int (T [0, ((n + 1 : Nat) : Int), -1])), some (.int (T [0, ((n + 1 : Nat) : Int) - 1, -1])), some (.int kk.2.1), some (.int kk.2.2), some (.bl as_), some (.tup [.int s]), some (.tup [.int a]), some (ddD dd), some kn, a17] st1) (Tn (fun en st' => WkI st st' ks on es er t NM T (n + 1) en) (Sq bt_llaw_walk_1 (Rt Q))) := fun hx a17 => by
      have m0 : [0, ((n + 1 : Nat) : Int), 0] ∈ NM := by rw [hx] at x1; exact x1
      refine tm3.ask [0, ((n + 1 : Nat) : Int), 0] _ s3 m0 (.refl _) fun s4 f4 => ?_
      have tl := tail s4 a17 (g13.trans f4)
      rw [hx] at tl
      exact tl
    wide_open using [show (T [0, ((n + 1 : Nat) : Int), -1] < T [0, ((n + 1 : Nat) : Int) - 1, -1]) = False from eq_false (by omega), bi_llaw_walk_1, qk, dx_k1, dx_k2]
    rcases hs with ⟨rfl, hsn⟩ | ⟨p, k1, hsn, rfl, rfl, hk1, hlk⟩
    · have tk0 := tick (x4 (.inl hsn)) a17
      wide_open using [nonD_non, v0, v1, z3]
      exact tk0
    · rw [hkk] at hk1; cases hk1
      have nn : isNonD (D.int (T (pK p))) = false := rfl
      by_cases hst2 : (as_ && !on) = true
      · have tk0 := tick (x4 (.inr hst2)) a17
        obtain ⟨w1, w2⟩ : as_ = true ∧ on = false := by simpa using hst2
        subst w1 w2
        wide_open using [nn, v0, v1, z3]
        exact tk0
      · have hst3 : (as_ && !on) = false := by simpa using hst2
        obtain ⟨y5, y6⟩ := x5 p hsn hst3
        by_cases hsv : s = h.vl
        · have hXp := y5 hsv
          have tl := tail s3 a17 g13
          rw [hXp] at tl
          cases as_ with
          | false =>
            wide_open using [nn, hsv]
            rw [hsv] at tl
            exact tl
          | true =>
            cases on with
            | false => simp at hst3
            | true =>
              wide_open using [nn, hsv]
              rw [hsv] at tl
              exact tl
        · obtain ⟨hXt, b1, b2, b3⟩ := y6 hsv
          have m0 : [0, ((n + 1 : Nat) : Int), 0] ∈ NM := by rw [hXt] at x1; exact x1
          have gain : 1 ≤ s - h.vl := by
            rcases e5 with ⟨w1, w2⟩ | w | w | w
            · subst w1 w2; simp at hst3
            · rw [hsn] at w; cases w
            · exact absurd w hsv
            · exact w
          have num : ((n + 1 : Nat) : Int) - 1 = (n : Int) := by omega
          have fit : ∀ a17, Ok (ba_llaw_walk_3 [some (.ref er), some (.tup (ks.map kdD)), some (.bl on), some (.ref t), some (.int (T (pK p))), some (.int h.vl), some (.int (h.kd : Nat)), some (.int ((n + 1 : Nat) : Int)), some (.int (T [0, ((n + 1 : Nat) : Int), -1])), some (.int (T [0, ((n + 1 : Nat) : Int) - 1, -1])), some (.int kk.2.1), some (.int kk.2.2), some (.bl as_), some (.tup [.int s]), some (.tup [.int a]), some (ddD dd), some kn, a17] s3) (Sq bi_llaw_walk_2 (Tn (fun en st' => WkI st st' ks on es er t NM T (n + 1) en) (Sq bt_llaw_walk_1 (Rt Q)))) := fun a17 => by
            wide_open using [ba_llaw_walk_3, v0, v1, z3]
            refine tm3.ask [0, ((n + 1 : Nat) : Int), 0] _ s3 m0 (.refl _) fun s4 f4 => ?_
            refine fits_ok gain (by omega) ⟨by omega, by omega⟩ b1 b2 (by omega) (by rw [num]; exact hlk) ?_
            have tl := tail s4 (some (.int (T [0, ((n + 1 : Nat) : Int), 0]))) (g13.trans f4)
            rw [hXt] at tl
            wide_open using [bi_llaw_walk_4]
            exact tl
          have ft0 := fit a17
          cases as_ with
          | false =>
            wide_open using [nn, hsv]
            exact ft0
          | true =>
            cases on with
            | false => simp at hst3
            | true =>
              wide_open using [nn, hsv]
              exact ft0
  · rintro en s1 _
    wide_open using [bt_llaw_walk_1]
    exact q _

theorem bds_of : ∀ {R : List D}, (∀ x ∈ R, isBd x) → ∃ bs : List Bd, R = bs.map bdD
  | [], _ => ⟨[], rfl⟩
  | x :: R, h => by
    obtain ⟨bs, e⟩ := bds_of fun y hy => h y (List.mem_cons_of_mem _ hy)
    obtain ⟨a, b, c, d, e', f, i, k, rfl⟩ := h x List.mem_cons_self
    exact ⟨⟨[a, b, c], [d, e', f], i, k⟩ :: bs, by rw [e]; rfl⟩
theorem idx_atN {N : List (List Int)} {k : List Int} (h : k ∈ N) : N[N.idxOf k]? = some k := by
  have hl := List.idxOf_lt_length_iff.mpr h
  rw [List.getElem?_eq_getElem hl]
  exact congrArg some (by simpa using List.getElem_idxOf hl)
theorem idx_injN {NM : List (List Int)} : Inj (fun k => NM.idxOf k) fun k => k ∈ NM := fun a b ha hb e => by
  have ea := idx_atN ha
  have eb := idx_atN hb
  have e : NM.idxOf a = NM.idxOf b := e
  rw [e, eb] at ea
  exact (Option.some.inj ea).symm
theorem sub_len {l NM : List (List Int)} (nd : l.Nodup) (h : ∀ x ∈ l, x ∈ NM) : l.length ≤ NM.length := by
  have := nodup_le NM.length (l.map fun k => NM.idxOf k) (by
    refine List.pairwise_map.mpr (nd.imp_of_mem fun ha hb n e => n ?_)
    exact idx_injN (NM := NM) _ _ (h _ ha) (h _ hb) e) (fun x hx => by
    obtain ⟨k, hk, rfl⟩ := List.mem_map.mp hx
    exact List.idxOf_lt_length_iff.mpr (h k hk))
  rwa [List.length_map] at this
theorem names_sub {ps : List (List Int)} {bs : List Bd} {NM : List (List Int)} (h : ∀ k ∈ ps, k ∈ NM) (hb : ∀ b ∈ bs, b.p ∈ NM ∧ b.q ∈ NM) : (namesOf ps bs).length ≤ NM.length := sub_len namesOf_nd fun x hx => by
  unfold namesOf bdN at hx
  simp only [fillN_mem, List.mem_flatMap] at hx
  rcases hx with (z | z) | ⟨b, h1, h2⟩
  · cases z
  · exact h x z
  · simp only [List.mem_cons, List.not_mem_nil, or_false] at h2
    rcases h2 with rfl | rfl
    · exact (hb b h1).1
    · exact (hb b h1).2

theorem law_true (ns : List Int) (hn : ns.length ≤ 63) : ∃ st', dn_law [.ref 0] [.frz (ns.map D.int)] = .ok (.bl true) st' := by
  suffices h : Ok (dn_law [.ref 0] [.frz (ns.map D.int)]) fun d _ => d = .bl true by
    obtain ⟨d, st', e, rfl⟩ := h.ex
    exact ⟨st', e⟩
  have z1 : (1 : Nat) ≤ sizeLine := by decide
  have z3 : (3 : Nat) ≤ sizeLine := by decide
  have z4 : (4 : Nat) ≤ sizeLine := by decide
  unfold dn_law b_law
  rw [ok_def]
  refine ⟨rfl, ?_⟩
  wide_open using []
  refine draws_ok (m := 60) (ns := ns) rfl (by decide) fun st1 l1 o1 r1 => ?_
  have r1 : Rows st1 1 60 := r1
  try wide_open using []
  refine kinds_ok r1 fun st2 ks f2 r2 g => ?_
  try wide_open using []
  refine tk (i := 0) r2 rfl (by decide) (by decide) (by decide) fun t st3 t0 t1 d3 => ?_
  generalize hon : decide (t = 1) = on
  wide_open using [hon]
  refine view25_ok d3.rows g fun st4 er es l now x b0 f4 r4 ler e4 le8 I wd => ?_
  wide_open using [e4, List.length_cons, List.length_map]
  by_cases h1 : ((es.length + 1 : Nat) : Int) = 1
  · wide_open using [h1]
  · wide_open using [h1, bi_law_1, z1, z4]
    have hlit : D.tup [.str "c", .int 0, .bl on, .tup (ks.map kdD)] = clkD ⟨.str "c", 0, on, ks⟩ := rfl
    rw [hlit]
    have fA := Fr.push (F := FN) st4 (.lst [.str "a"])
    have aA := fr_at st4 (.lst [.str "a"])
    have eA := fA.at0 e4
    generalize st4 ++ [O.lst [D.str "a"]] = sA at fA aA eA ⊢
    have fB := Fr.push (F := FN) sA (.lst ((cks1 ks on).map clkD))
    have bB := fr_at sA (.lst ((cks1 ks on).map clkD))
    have aB := fB.at0 aA
    have eB := fB.at0 eA
    rw [show [clkD ⟨.str "c", 0, on, ks⟩] = (cks1 ks on).map clkD from rfl]
    generalize sA ++ [O.lst ((cks1 ks on).map clkD)] = sB at fB bB aB eB ⊢
    have fC := Fr.push (F := FN) sB (.lst [])
    have cC := fr_at sB (.lst [])
    have aC := fC.at0 aB
    have bC := fC.at0 bB
    have eC := fC.at0 eB
    generalize sB ++ [O.lst []] = sC at fC cC aC bC eC ⊢
    have fD := Fr.push (F := FN) sC (.lst [])
    have dD := fr_at sC (.lst [])
    have aD := fD.at0 aC
    have bD := fD.at0 bC
    have cD := fD.at0 cC
    have eD := fD.at0 eC
    generalize sC ++ [O.lst []] = sD at fD dD aD bD cD eD ⊢
    refine frame_mk aD bD cD dD fun st5 f5 F5 => ⟨rfl, ?_⟩
    have e5 := f5.at0 eD
    generalize hNd : (fun x => sD.length ≤ x ∧ x < st5.length) = N at F5
    have hN : ∀ b, N b → b < st5.length := fun b hb => by subst hNd; exact hb.2
    generalize sD.length = fn at F5 ⊢
    have fJ := Fr.push (F := FN) st5 (.lst [.ref er])
    have vJ := fr_at st5 (.lst [.ref er])
    have FJ := F5.fr0 fJ
    have eJ := fJ.at0 e5
    have lJ := fJ.len
    have hNJ : ∀ b, N b → b < (st5 ++ [O.lst [D.ref er]]).length := fun b h => Nat.lt_of_lt_of_le (hN b h) lJ
    generalize st5 ++ [O.lst [D.ref er]] = sJ at fJ vJ FJ eJ lJ hNJ ⊢
    have wd2 : ∀ e ∈ es, (e.dd.word = "hear") = False ∧ (e.dd.word = "mark") = False := fun e he => by
      obtain ⟨n, hn⟩ := List.getElem?_of_mem he
      obtain ⟨_, _, _, _, _, _, _, w, _⟩ := wd n e hn
      rcases w with w | ⟨k, _, w⟩
      · rw [w]; exact ⟨by show (("note" : Str) = "hear") = False; decide, by show (("note" : Str) = "mark") = False; decide⟩
      · rw [w]; exact ⟨by show (("kind" : Str) = "hear") = False; decide, by show (("kind" : Str) = "mark") = False; decide⟩
    refine view1_ok FJ hNJ (by simp) (by rw [own1]; simp) vJ eJ (by omega) (drs0 wd2) I.ft fun sK br fK bK _ lbr => ?_
    have eK := fK.at0 eJ
    have met := I.met
    have hbd := evN_bd (cks := cks1 ks on) (dev := 0) (es := es) (dr := dr0) (fun k x hx => nomatch hx) es.length
    have hpt := (evN_pts (G := isSt) I.ft (fun k x hx => nomatch hx) es.length (Nat.le_refl _)).1
    obtain ⟨bs, hbs⟩ := bds_of hbd
    have hpt2 := hpt
    rw [hbs] at hpt2
    have nm := bds_nm (m := 9) hpt2 (by omega)
    have bK2 := bK
    rw [hbs] at bK2
    have fL := Fr.push (F := FN) sK (.lst ([[0, 0, -1]].map dk))
    have pL := fr_at sK (.lst ([[0, 0, -1]].map dk))
    have bL := fL.at0 bK2
    have eL := fL.at0 eK
    wide_open using [z1, z3]
    rw [show ([D.tup [.int 0, .int 0, .int (-1)]] : List D) = [[0, 0, -1]].map dk from rfl]
    generalize sK ++ [O.lst ([[0, 0, -1]].map dk)] = sL at fL pL bL eL ⊢
    have nmp : ∀ k ∈ ([[0, 0, -1]] : List (List Int)), k ∈ nm1 9 1 := fun k hk => by rw [List.mem_singleton.mp hk]; exact nm1_ev (k := 0) (by omega)
    have nl : (namesOf [[0, 0, -1]] bs).length < 60 := Nat.lt_of_le_of_lt (names_sub (NM := nm1 9 1) nmp nm) (by decide)
    refine tofV_ok (vn := fun k => (nm1 9 1).idxOf k) (K := fun k => k ∈ nm1 9 1) idx_injN bL pL nl nmp nm fun sM tt F E c w fM hF tb ds cut => ?_
    have bval : ∀ b ∈ bs, ∃ u v : Int, getQ l b.p = some (.int u) ∧ getQ l b.q = some (.int v) ∧ v ≤ u + b.am := fun b hb => by
      obtain ⟨P, R, am, pa, u, v, e, h1, h2, h3⟩ := met (bdD b) (by rw [hbs]; exact List.mem_map_of_mem hb)
      have e : D.tup [dk b.p, dk b.q, .int b.am, .int b.pa] = D.tup [dk P, dk R, .int am, .int pa] := e
      simp only [D.tup.injEq, List.cons.injEq, D.int.injEq] at e
      obtain ⟨e1, e2, e3, _⟩ := e
      rw [dk_inj e1, dk_inj e2, e3]
      exact ⟨u, v, h1, h2, h3⟩
    have vof : ∀ (P : List Int) (u : Int), getQ l P = some (.int u) → P ∈ nm1 9 1 → (match (nm1 9 1)[(nm1 9 1).idxOf P]? with
        | some k => (match getQ l k with
          | some (.int v) => v
          | _ => 0)
        | none => 0) = u := fun P u h hp => by
      rw [idx_atN hp]
      simp only [h]
    have nr : NoRing (bs.map (arcV fun k => (nm1 9 1).idxOf k)) := pot_ring (π := fun i => match (nm1 9 1)[i]? with
        | some k => (match getQ l k with
          | some (.int v) => v
          | _ => 0)
        | none => 0) fun a ha => by
      obtain ⟨b, hb, rfl⟩ := List.mem_map.mp ha
      obtain ⟨u, v, h1, h2, h3⟩ := bval b hb
      have w1 := vof b.p u h1 (nm b hb).1
      have w2 := vof b.q v h2 (nm b hb).2
      show (match (nm1 9 1)[(nm1 9 1).idxOf b.q]? with
        | some k => (match getQ l k with
          | some (.int v) => v
          | _ => 0)
        | none => 0) ≤ (match (nm1 9 1)[(nm1 9 1).idxOf b.p]? with
        | some k => (match getQ l k with
          | some (.int v) => v
          | _ => 0)
        | none => 0) + b.am
      rw [w1, w2]; exact h3
    have hw : w = true ∧ Dist (bs.map (arcV fun k => (nm1 9 1).idxOf k)) E := by
      rcases cut with ⟨hw, hc⟩ | ⟨hw, hc, hr⟩
      · subst hc
        rw [List.take_length] at ds
        exact ⟨hw, ds⟩
      · exact absurd (nr.mono fun a ha => List.mem_of_mem_take ha) hr
    obtain ⟨rfl, dE⟩ := hw
    obtain ⟨nn, r, ho⟩ := tb.obj
    wide_open using [ho, fun Q => possible_iff (Q := Q) tb]
    have eM := fM.at0 eL
    have mem : ∀ b ∈ bs, b.p ∈ namesOf [[0, 0, -1]] bs ∧ b.q ∈ namesOf [[0, 0, -1]] bs := fun b hb => by
      unfold namesOf bdN
      simp only [fillN_mem, List.mem_flatMap]
      exact ⟨.inr ⟨b, hb, by simp⟩, .inr ⟨b, hb, by simp⟩⟩
    have T0 : Tms sM tt (namesOf [[0, 0, -1]] bs) (fun P => tm (vx (fun k => (nm1 9 1).idxOf k) (namesOf [[0, 0, -1]] bs)) E ((nm1 9 1).idxOf P)) := by
      refine ⟨⟨_, ho, rfl⟩, fun P Q s1 hp f q => ?_⟩
      exact time_ok (tb.fr0 f) (List.mem_map_of_mem (f := fun k => (dk k, (nm1 9 1).idxOf k)) hp) fun st' f' => q st' f'
    have S0 : SatR (namesOf [[0, 0, -1]] bs) (fun P => tm (vx (fun k => (nm1 9 1).idxOf k) (namesOf [[0, 0, -1]] bs)) E ((nm1 9 1).idxOf P)) (bs.map bdD) := fun P R' am pa hm => by
      obtain ⟨b, hb, e⟩ := List.mem_map.mp hm
      have e : D.tup [dk b.p, dk b.q, .int b.am, .int b.pa] = D.tup [dk P, dk R', .int am, .int pa] := e
      simp only [D.tup.injEq, List.cons.injEq, D.int.injEq] at e
      obtain ⟨e1, e2, e3, _⟩ := e
      rw [← dk_inj e1, ← dk_inj e2, ← e3]
      exact ⟨(mem b hb).1, (mem b hb).2, tm_meets dE (List.mem_map_of_mem (f := arcV fun k => (nm1 9 1).idxOf k) hb) (x := (dk b.p, (nm1 9 1).idxOf b.p)) (List.mem_map_of_mem (f := fun k => (dk k, (nm1 9 1).idxOf k)) (mem b hb).1) rfl⟩
    exact walk_ok g eM (by omega) T0 S0 (fun b hb => by rw [← hbs]; exact hb) I.ft wd fun st' => rfl

end G


open PySem PySem.W PyProof.Rows in
set_option maxRecDepth 100000 in
set_option maxHeartbeats 0 in
theorem PySem.Challenge.cw_whensure_k25_bounds_of_a_clock_are_its_r_holds : PySem.Challenge.rw_whensure_k25_bounds_of_a_clock_are_its_r.Holds := by
  w_on; o_law; k_head; (case hw => w_witness2)
  k_fill
  refine Dn.walkC (l := PySem.Challenge.rw_whensure_k25_bounds_of_a_clock_are_its_r) (k := 5) (x := "_law_script") (f := G.dn_law) rfl rfl ⟨rfl, by decide, by decide⟩ (fun w h Y => PySem.W.kIn_of Y) G.law_true ?F
  case F =>
    intro w mg fa h KX G0 hmg
    refine' Dn.use_none (x := "range") KX G0 ?a (fun m_range => ?_); (case a => k_is)
    refine' Dn.use_none (x := "len") KX G0 ?a (fun m_len => ?_); (case a => k_is)
    refine' Dn.use_none (x := "int") KX G0 ?a (fun m_int => ?_); (case a => k_is)
    refine' Dn.use_none (x := "tuple") KX G0 ?a (fun m_tuple => ?_); (case a => k_is)
    refine' Dn.use_none (x := "str") KX G0 ?a (fun m_str => ?_); (case a => k_is)
    refine' Dn.use_none (x := "list") KX G0 ?a (fun m_list => ?_); (case a => k_is)
    refine' Dn.use_none (x := "property") KX G0 ?a (fun m_property => ?_); (case a => k_is)
    refine' Dn.use_none (x := "min") KX G0 ?a (fun m_min => ?_); (case a => k_is)
    refine' Dn.use_none (x := "enumerate") KX G0 ?a (fun m_enumerate => ?_); (case a => k_is)
    refine' Dn.use_none (x := "set") KX G0 ?a (fun m_set => ?_); (case a => k_is)
    refine' Dn.use_none (x := "max") KX G0 ?a (fun m_max => ?_); (case a => k_is)
    refine' Dn.use_cst (x := "START") (d := (.tup [(.int (-1)), (.int 0), (.int (-1))])) KX G0 ?a ?k (fun k_START => ?_); (case a => k_is); (case k => exact (Dn.kd_tup (by k_is) rfl rfl (by decide) (Dn.kds_cons Dn.kd_int (Dn.kds_cons Dn.kd_int (Dn.kds_cons Dn.kd_int Dn.kds_nil)))))
    refine' Dn.use_def (x := "_law_draws") (qual := "_law_draws") (st := G.s_llaw_draws) KX G0 ?a ?l ?c ?k (fun d_llaw_draws => ?_); (case a => k_is); (case l => k_is); (case c => k_is); (case k => k_is)
    refine' Dn.use_def (x := "_law_take") (qual := "_law_take") (st := G.s_llaw_take) KX G0 ?a ?l ?c ?k (fun d_llaw_take => ?_); (case a => k_is); (case l => k_is); (case c => k_is); (case k => k_is)
    refine' Dn.use_def (x := "_law_kinds") (qual := "_law_kinds") (st := G.s_llaw_kinds) KX G0 ?a ?l ?c ?k (fun d_llaw_kinds => ?_); (case a => k_is); (case l => k_is); (case c => k_is); (case k => k_is)
    refine' Dn.use_def (x := "_law_begin") (qual := "_law_begin") (st := G.s_llaw_begin) KX G0 ?a ?l ?c ?k (fun d_llaw_begin => ?_); (case a => k_is); (case l => k_is); (case c => k_is); (case k => k_is)
    refine' Dn.use_def (x := "_law_run") (qual := "_law_run") (st := G.s_llaw_run) KX G0 ?a ?l ?c ?k (fun d_llaw_run => ?_); (case a => k_is); (case l => k_is); (case c => k_is); (case k => k_is)
    refine' Dn.use_def (x := "_law_view") (qual := "_law_view") (st := G.s_llaw_view) KX G0 ?a ?l ?c ?k (fun d_llaw_view => ?_); (case a => k_is); (case l => k_is); (case c => k_is); (case k => k_is)
    refine' Dn.use_def (x := "lesser") (qual := "lesser") (st := G.s_lesser) KX G0 ?a ?l ?c ?k (fun d_lesser => ?_); (case a => k_is); (case l => k_is); (case c => k_is); (case k => k_is)
    refine' Dn.use_def (x := "table_of") (qual := "table_of") (st := G.s_table_of) KX G0 ?a ?l ?c ?k (fun d_table_of => ?_); (case a => k_is); (case l => k_is); (case c => k_is); (case k => k_is)
    refine' Dn.use_def (x := "first_hands") (qual := "first_hands") (st := G.s_first_hands) KX G0 ?a ?l ?c ?k (fun d_first_hands => ?_); (case a => k_is); (case l => k_is); (case c => k_is); (case k => k_is)
    refine' Dn.use_def (x := "sent_kind") (qual := "sent_kind") (st := G.s_sent_kind) KX G0 ?a ?l ?c ?k (fun d_sent_kind => ?_); (case a => k_is); (case l => k_is); (case c => k_is); (case k => k_is)
    refine' Dn.use_def (x := "within") (qual := "within") (st := G.s_within) KX G0 ?a ?l ?c ?k (fun d_within => ?_); (case a => k_is); (case l => k_is); (case c => k_is); (case k => k_is)
    refine' Dn.use_def (x := "clock_bounds") (qual := "clock_bounds") (st := G.s_clock_bounds) KX G0 ?a ?l ?c ?k (fun d_clock_bounds => ?_); (case a => k_is); (case l => k_is); (case c => k_is); (case k => k_is)
    refine' Dn.use_def (x := "told_kind") (qual := "told_kind") (st := G.s_told_kind) KX G0 ?a ?l ?c ?k (fun d_told_kind => ?_); (case a => k_is); (case l => k_is); (case c => k_is); (case k => k_is)
    refine' Dn.use_def (x := "hand_after") (qual := "hand_after") (st := G.s_hand_after) KX G0 ?a ?l ?c ?k (fun d_hand_after => ?_); (case a => k_is); (case l => k_is); (case c => k_is); (case k => k_is)
    refine' Dn.use_def (x := "deed_bounds") (qual := "deed_bounds") (st := G.s_deed_bounds) KX G0 ?a ?l ?c ?k (fun d_deed_bounds => ?_); (case a => k_is); (case l => k_is); (case c => k_is); (case k => k_is)
    refine' Dn.use_def (x := "event_bounds") (qual := "event_bounds") (st := G.s_event_bounds) KX G0 ?a ?l ?c ?k (fun d_event_bounds => ?_); (case a => k_is); (case l => k_is); (case c => k_is); (case k => k_is)
    refine' Dn.use_def (x := "view_bounds") (qual := "view_bounds") (st := G.s_view_bounds) KX G0 ?a ?l ?c ?k (fun d_view_bounds => ?_); (case a => k_is); (case l => k_is); (case c => k_is); (case k => k_is)
    refine' Dn.use_def (x := "_law_fits") (qual := "_law_fits") (st := G.s_llaw_fits) KX G0 ?a ?l ?c ?k (fun d_llaw_fits => ?_); (case a => k_is); (case l => k_is); (case c => k_is); (case k => k_is)
    refine' Dn.use_def (x := "_law_walk") (qual := "_law_walk") (st := G.s_llaw_walk) KX G0 ?a ?l ?c ?k (fun d_llaw_walk => ?_); (case a => k_is); (case l => k_is); (case c => k_is); (case k => k_is)
    refine' Dn.use_def (x := "law") (qual := "law") (st := G.s_law) KX G0 ?a ?l ?c ?k (fun d_law => ?_); (case a => k_is); (case l => k_is); (case c => k_is); (case k => k_is)
    refine' G.use_Table KX G0 ?aC ?pg ?hd ?po ?sa ?n_names ?n_rows ?n_whole ?at_init ?fn_init ?lk_init ?co_init ?kp_init ?mk ?kc ?at_possible ?gt_possible ?ta_possible ?rc_possible ?lk_possible ?co_possible ?kp_possible ?at_add_point ?fn_add_point ?lk_add_point ?co_add_point ?kp_add_point ?at_put_bound ?fn_put_bound ?lk_put_bound ?co_put_bound ?kp_put_bound ?at_time_of ?fn_time_of ?lk_time_of ?co_time_of ?kp_time_of (fun C_Table h_Table => ?_)
    (case aC => k_is)
    (case pg => k_is)
    (case hd => k_is)
    (case po => k_is)
    (case sa => k_is)
    (case n_names => k_is)
    (case n_rows => k_is)
    (case n_whole => k_is)
    (case at_init => k_is)
    (case fn_init => k_is)
    (case lk_init => k_is)
    (case co_init => k_is)
    (case kp_init => k_is)
    (case mk => k_is)
    (case kc => k_is)
    (case at_possible => k_is)
    (case gt_possible => k_is)
    (case ta_possible => k_is)
    (case rc_possible => k_is)
    (case lk_possible => k_is)
    (case co_possible => k_is)
    (case kp_possible => k_is)
    (case at_add_point => k_is)
    (case fn_add_point => k_is)
    (case lk_add_point => k_is)
    (case co_add_point => k_is)
    (case kp_add_point => k_is)
    (case at_put_bound => k_is)
    (case fn_put_bound => k_is)
    (case lk_put_bound => k_is)
    (case co_put_bound => k_is)
    (case kp_put_bound => k_is)
    (case at_time_of => k_is)
    (case fn_time_of => k_is)
    (case lk_time_of => k_is)
    (case co_time_of => k_is)
    (case kp_time_of => k_is)
    refine' G.use_Frame KX G0 ?aC ?pg ?hd ?po ?sa ?n_devices ?n_clocks ?n_links ?n_sources ?n_faults ?at_init ?fn_init ?lk_init ?co_init ?kp_init ?mk ?kc ?at_clocks_of ?fn_clocks_of ?lk_clocks_of ?co_clocks_of ?kp_clocks_of ?at_link_part ?fn_link_part ?lk_link_part ?co_link_part ?kp_link_part ?at_source_part ?fn_source_part ?lk_source_part ?co_source_part ?kp_source_part (fun C_Frame h_Frame => ?_)
    (case aC => k_is)
    (case pg => k_is)
    (case hd => k_is)
    (case po => k_is)
    (case sa => k_is)
    (case n_devices => k_is)
    (case n_clocks => k_is)
    (case n_links => k_is)
    (case n_sources => k_is)
    (case n_faults => k_is)
    (case at_init => k_is)
    (case fn_init => k_is)
    (case lk_init => k_is)
    (case co_init => k_is)
    (case kp_init => k_is)
    (case mk => k_is)
    (case kc => k_is)
    (case at_clocks_of => k_is)
    (case fn_clocks_of => k_is)
    (case lk_clocks_of => k_is)
    (case co_clocks_of => k_is)
    (case kp_clocks_of => k_is)
    (case at_link_part => k_is)
    (case fn_link_part => k_is)
    (case lk_link_part => k_is)
    (case co_link_part => k_is)
    (case kp_link_part => k_is)
    (case at_source_part => k_is)
    (case fn_source_part => k_is)
    (case lk_source_part => k_is)
    (case co_source_part => k_is)
    (case kp_source_part => k_is)
    refine Dn.law_finC (Dn.clm PySem.Challenge.rw_whensure_k25_bounds_of_a_clock_are_its_r.prog w [("Table", C_Table), ("Frame", C_Frame)]) rfl rfl d_law hmg (fun _ _ _ _ _ _ _ => rfl) fun base fa fd F => ?_
    have z_set : (Dn.clm PySem.Challenge.rw_whensure_k25_bounds_of_a_clock_are_its_r.prog w [("Table", C_Table), ("Frame", C_Frame)]).P = PySem.Challenge.rw_whensure_k25_bounds_of_a_clock_are_its_r.prog ∧ (Dn.clm PySem.Challenge.rw_whensure_k25_bounds_of_a_clock_are_its_r.prog w [("Table", C_Table), ("Frame", C_Frame)]).w = w := ⟨rfl, rfl⟩
    obtain ⟨f_Table_names, f_Table_rows, f_Table_whole, t_Table_init, t_Table_possible, t_Table_add_point, t_Table_put_bound, t_Table_time_of⟩ := h_Table (Dn.clm PySem.Challenge.rw_whensure_k25_bounds_of_a_clock_are_its_r.prog w [("Table", C_Table), ("Frame", C_Frame)]) (by rfl)
    obtain ⟨f_Frame_devices, f_Frame_clocks, f_Frame_links, f_Frame_sources, f_Frame_faults, t_Frame_init, t_Frame_clocks_of, t_Frame_link_part, t_Frame_source_part⟩ := h_Frame (Dn.clm PySem.Challenge.rw_whensure_k25_bounds_of_a_clock_are_its_r.prog w [("Table", C_Table), ("Frame", C_Frame)]) (by rfl)
    have c_llaw_draws := G.ok_llaw_draws (P := PySem.Challenge.rw_whensure_k25_bounds_of_a_clock_are_its_r.prog) (w := w) (mg := mg) (base := base) (cl := (Dn.clm PySem.Challenge.rw_whensure_k25_bounds_of_a_clock_are_its_r.prog w [("Table", C_Table), ("Frame", C_Frame)])) d_llaw_draws m_range m_len m_int
    have c_llaw_take := G.ok_llaw_take (P := PySem.Challenge.rw_whensure_k25_bounds_of_a_clock_are_its_r.prog) (w := w) (mg := mg) (base := base) (cl := (Dn.clm PySem.Challenge.rw_whensure_k25_bounds_of_a_clock_are_its_r.prog w [("Table", C_Table), ("Frame", C_Frame)])) d_llaw_take m_int
    have c_llaw_kinds := G.ok_llaw_kinds (P := PySem.Challenge.rw_whensure_k25_bounds_of_a_clock_are_its_r.prog) (w := w) (mg := mg) (base := base) (cl := (Dn.clm PySem.Challenge.rw_whensure_k25_bounds_of_a_clock_are_its_r.prog w [("Table", C_Table), ("Frame", C_Frame)])) d_llaw_kinds m_range m_tuple m_str c_llaw_take
    have c_llaw_begin := G.ok_llaw_begin (P := PySem.Challenge.rw_whensure_k25_bounds_of_a_clock_are_its_r.prog) (w := w) (mg := mg) (base := base) (cl := (Dn.clm PySem.Challenge.rw_whensure_k25_bounds_of_a_clock_are_its_r.prog w [("Table", C_Table), ("Frame", C_Frame)])) d_llaw_begin m_int c_llaw_take
    have c_llaw_run := G.ok_llaw_run (P := PySem.Challenge.rw_whensure_k25_bounds_of_a_clock_are_its_r.prog) (w := w) (mg := mg) (base := base) (cl := (Dn.clm PySem.Challenge.rw_whensure_k25_bounds_of_a_clock_are_its_r.prog w [("Table", C_Table), ("Frame", C_Frame)])) d_llaw_run m_range c_llaw_begin
    have c_llaw_view := G.ok_llaw_view (P := PySem.Challenge.rw_whensure_k25_bounds_of_a_clock_are_its_r.prog) (w := w) (mg := mg) (base := base) (cl := (Dn.clm PySem.Challenge.rw_whensure_k25_bounds_of_a_clock_are_its_r.prog w [("Table", C_Table), ("Frame", C_Frame)])) d_llaw_view m_range c_llaw_begin c_llaw_take c_llaw_run
    have c_Frame_init := G.ok_Frame_init (P := PySem.Challenge.rw_whensure_k25_bounds_of_a_clock_are_its_r.prog) (w := w) (mg := mg) (base := base) (cl := (Dn.clm PySem.Challenge.rw_whensure_k25_bounds_of_a_clock_are_its_r.prog w [("Table", C_Table), ("Frame", C_Frame)])) t_Frame_init m_list f_Frame_devices f_Frame_clocks f_Frame_links f_Frame_sources f_Frame_faults
    have c_Table_init := G.ok_Table_init (P := PySem.Challenge.rw_whensure_k25_bounds_of_a_clock_are_its_r.prog) (w := w) (mg := mg) (base := base) (cl := (Dn.clm PySem.Challenge.rw_whensure_k25_bounds_of_a_clock_are_its_r.prog w [("Table", C_Table), ("Frame", C_Frame)])) t_Table_init f_Table_names f_Table_rows f_Table_whole
    have c_Table_possible := G.ok_Table_possible (P := PySem.Challenge.rw_whensure_k25_bounds_of_a_clock_are_its_r.prog) (w := w) (mg := mg) (base := base) (cl := (Dn.clm PySem.Challenge.rw_whensure_k25_bounds_of_a_clock_are_its_r.prog w [("Table", C_Table), ("Frame", C_Frame)])) t_Table_possible m_property f_Table_whole
    have c_Table_add_point := G.ok_Table_add_point (P := PySem.Challenge.rw_whensure_k25_bounds_of_a_clock_are_its_r.prog) (w := w) (mg := mg) (base := base) (cl := (Dn.clm PySem.Challenge.rw_whensure_k25_bounds_of_a_clock_are_its_r.prog w [("Table", C_Table), ("Frame", C_Frame)])) t_Table_add_point m_len f_Table_rows f_Table_names
    have c_lesser := G.ok_lesser (P := PySem.Challenge.rw_whensure_k25_bounds_of_a_clock_are_its_r.prog) (w := w) (mg := mg) (base := base) (cl := (Dn.clm PySem.Challenge.rw_whensure_k25_bounds_of_a_clock_are_its_r.prog w [("Table", C_Table), ("Frame", C_Frame)])) d_lesser m_min
    have c_Table_put_bound := G.ok_Table_put_bound (P := PySem.Challenge.rw_whensure_k25_bounds_of_a_clock_are_its_r.prog) (w := w) (mg := mg) (base := base) (cl := (Dn.clm PySem.Challenge.rw_whensure_k25_bounds_of_a_clock_are_its_r.prog w [("Table", C_Table), ("Frame", C_Frame)])) t_Table_put_bound m_list m_enumerate f_Table_rows f_Table_whole f_Table_names c_lesser
    have c_table_of := G.ok_table_of (P := PySem.Challenge.rw_whensure_k25_bounds_of_a_clock_are_its_r.prog) (w := w) (mg := mg) (base := base) (cl := (Dn.clm PySem.Challenge.rw_whensure_k25_bounds_of_a_clock_are_its_r.prog w [("Table", C_Table), ("Frame", C_Frame)])) d_table_of m_set z_set c_Table_init c_Table_possible c_Table_add_point c_Table_put_bound
    have c_Frame_clocks_of := G.ok_Frame_clocks_of (P := PySem.Challenge.rw_whensure_k25_bounds_of_a_clock_are_its_r.prog) (w := w) (mg := mg) (base := base) (cl := (Dn.clm PySem.Challenge.rw_whensure_k25_bounds_of_a_clock_are_its_r.prog w [("Table", C_Table), ("Frame", C_Frame)])) t_Frame_clocks_of m_enumerate f_Frame_clocks
    have c_first_hands := G.ok_first_hands (P := PySem.Challenge.rw_whensure_k25_bounds_of_a_clock_are_its_r.prog) (w := w) (mg := mg) (base := base) (cl := (Dn.clm PySem.Challenge.rw_whensure_k25_bounds_of_a_clock_are_its_r.prog w [("Table", C_Table), ("Frame", C_Frame)])) d_first_hands c_Frame_clocks_of
    have c_sent_kind := G.ok_sent_kind (P := PySem.Challenge.rw_whensure_k25_bounds_of_a_clock_are_its_r.prog) (w := w) (mg := mg) (base := base) (cl := (Dn.clm PySem.Challenge.rw_whensure_k25_bounds_of_a_clock_are_its_r.prog w [("Table", C_Table), ("Frame", C_Frame)])) d_sent_kind f_Frame_links
    have c_within := G.ok_within (P := PySem.Challenge.rw_whensure_k25_bounds_of_a_clock_are_its_r.prog) (w := w) (mg := mg) (base := base) (cl := (Dn.clm PySem.Challenge.rw_whensure_k25_bounds_of_a_clock_are_its_r.prog w [("Table", C_Table), ("Frame", C_Frame)])) d_within 
    have c_clock_bounds := G.ok_clock_bounds (P := PySem.Challenge.rw_whensure_k25_bounds_of_a_clock_are_its_r.prog) (w := w) (mg := mg) (base := base) (cl := (Dn.clm PySem.Challenge.rw_whensure_k25_bounds_of_a_clock_are_its_r.prog w [("Table", C_Table), ("Frame", C_Frame)])) d_clock_bounds c_within
    have c_told_kind := G.ok_told_kind (P := PySem.Challenge.rw_whensure_k25_bounds_of_a_clock_are_its_r.prog) (w := w) (mg := mg) (base := base) (cl := (Dn.clm PySem.Challenge.rw_whensure_k25_bounds_of_a_clock_are_its_r.prog w [("Table", C_Table), ("Frame", C_Frame)])) d_told_kind 
    have c_hand_after := G.ok_hand_after (P := PySem.Challenge.rw_whensure_k25_bounds_of_a_clock_are_its_r.prog) (w := w) (mg := mg) (base := base) (cl := (Dn.clm PySem.Challenge.rw_whensure_k25_bounds_of_a_clock_are_its_r.prog w [("Table", C_Table), ("Frame", C_Frame)])) d_hand_after c_told_kind
    have c_Frame_source_part := G.ok_Frame_source_part (P := PySem.Challenge.rw_whensure_k25_bounds_of_a_clock_are_its_r.prog) (w := w) (mg := mg) (base := base) (cl := (Dn.clm PySem.Challenge.rw_whensure_k25_bounds_of_a_clock_are_its_r.prog w [("Table", C_Table), ("Frame", C_Frame)])) t_Frame_source_part m_len f_Frame_clocks f_Frame_links
    have c_Frame_link_part := G.ok_Frame_link_part (P := PySem.Challenge.rw_whensure_k25_bounds_of_a_clock_are_its_r.prog) (w := w) (mg := mg) (base := base) (cl := (Dn.clm PySem.Challenge.rw_whensure_k25_bounds_of_a_clock_are_its_r.prog w [("Table", C_Table), ("Frame", C_Frame)])) t_Frame_link_part m_len f_Frame_clocks
    have c_deed_bounds := G.ok_deed_bounds (P := PySem.Challenge.rw_whensure_k25_bounds_of_a_clock_are_its_r.prog) (w := w) (mg := mg) (base := base) (cl := (Dn.clm PySem.Challenge.rw_whensure_k25_bounds_of_a_clock_are_its_r.prog w [("Table", C_Table), ("Frame", C_Frame)])) d_deed_bounds k_START f_Frame_links f_Frame_sources c_Frame_source_part c_within c_Frame_link_part
    have c_event_bounds := G.ok_event_bounds (P := PySem.Challenge.rw_whensure_k25_bounds_of_a_clock_are_its_r.prog) (w := w) (mg := mg) (base := base) (cl := (Dn.clm PySem.Challenge.rw_whensure_k25_bounds_of_a_clock_are_its_r.prog w [("Table", C_Table), ("Frame", C_Frame)])) d_event_bounds m_enumerate f_Frame_clocks c_Frame_clocks_of c_clock_bounds c_hand_after c_deed_bounds
    have c_view_bounds := G.ok_view_bounds (P := PySem.Challenge.rw_whensure_k25_bounds_of_a_clock_are_its_r.prog) (w := w) (mg := mg) (base := base) (cl := (Dn.clm PySem.Challenge.rw_whensure_k25_bounds_of_a_clock_are_its_r.prog w [("Table", C_Table), ("Frame", C_Frame)])) d_view_bounds m_enumerate m_range m_len c_first_hands c_sent_kind c_event_bounds
    have c_Table_time_of := G.ok_Table_time_of (P := PySem.Challenge.rw_whensure_k25_bounds_of_a_clock_are_its_r.prog) (w := w) (mg := mg) (base := base) (cl := (Dn.clm PySem.Challenge.rw_whensure_k25_bounds_of_a_clock_are_its_r.prog w [("Table", C_Table), ("Frame", C_Frame)])) t_Table_time_of m_min f_Table_names f_Table_rows
    have c_llaw_fits := G.ok_llaw_fits (P := PySem.Challenge.rw_whensure_k25_bounds_of_a_clock_are_its_r.prog) (w := w) (mg := mg) (base := base) (cl := (Dn.clm PySem.Challenge.rw_whensure_k25_bounds_of_a_clock_are_its_r.prog w [("Table", C_Table), ("Frame", C_Frame)])) d_llaw_fits m_max
    have c_llaw_walk := G.ok_llaw_walk (P := PySem.Challenge.rw_whensure_k25_bounds_of_a_clock_are_its_r.prog) (w := w) (mg := mg) (base := base) (cl := (Dn.clm PySem.Challenge.rw_whensure_k25_bounds_of_a_clock_are_its_r.prog w [("Table", C_Table), ("Frame", C_Frame)])) d_llaw_walk m_range m_len c_Table_time_of c_llaw_fits
    exact G.ok_law F m_len c_llaw_draws c_llaw_kinds c_llaw_view c_Frame_init c_table_of c_llaw_take c_view_bounds c_llaw_walk c_Table_possible
#print axioms PySem.Challenge.cw_whensure_k25_bounds_of_a_clock_are_its_r_holds
