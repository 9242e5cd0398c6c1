import PyProof.Rows.All
import Wide.All
import OpenK.AllK
import Wide.FinOn
import HandS.ForMost
import HandS.ForExc
import HandS.Flow
import HandS.CallSlots
import HandS.Wide
import HandS.TupAny
import HandS.Deep
import HandS.Style
import HandS.WordsExc
import HandS.IsInst
import HandS.TupSets
import HandS.AnyAll
import HandS.JoinGen
import HandS.ExcCtx
import HandS.HotCalls
import HandS.Property
import PyProof.AutoSeq1
import HandS.Text
import HandS.Star
import HandS.Strs
import HandS.More
import HandS.SetKeys
import HandS.Defaults
import HandS.SortKw
import KE.SortKeyHeap
import HandS.Dict
import HandS.Flt
import KE.KExcIs
import HandS.ExcField
import HandS.TryMany
import KE.GoesZip
import KE.GoesMore
import HandS.Hot
import HandS.EndTab
import PySem.Challenge.RW_whensure_k02_written_forms
set_option Elab.async false
set_option linter.all false
set_option maxRecDepth 100000
set_option maxHeartbeats 4000000
/-! Dn, A: data by value, the abstract store, what a piece of the text is worth (a function of the store), and how that lies over the hand layer's readings. -/
namespace Dn
open PySem L2

/-- a value: tuples by what is in them, all else that may change by its number in the store -/
inductive D where
  | non | bl (b : Bool) | int (i : Int) | str (x : Str) | tup (l : List D) | ref (n : Nat) | ty (n : String)
/-- an object of the store -/
inductive O where
  | lst (l : List D) | frz (l : List D) | ins (c : Str) (fs : List (Str × D)) | set (l : List (List Int)) | dT (l : List (List Int × D)) | dK (l : List (Key × D)) | xcp (c : Str) (fs : List (Str × D)) | rng (lo hi : Int)
abbrev S := List O
abbrev En := List (Option D)
structure Ex where
  cls : Str
  fs : List (Str × D)
/-- how a computation ends; bad: not told -/
inductive Out (α : Type) where
  | ok (a : α) (st : S) | exc (e : Ex) (en : En) (st : S) | bad
def Out.bind {α β : Type} (x : Out α) (f : α → S → Out β) : Out β := match x with
  | .ok a st => f a st
  | .exc e en st => .exc e en st
  | .bad => .bad
@[simp] theorem bind_ok {α β : Type} (a : α) (st : S) (f : α → S → Out β) : (Out.ok a st).bind f = f a st := rfl
@[simp] theorem bind_bad {α β : Type} (f : α → S → Out β) : (Out.bad : Out α).bind f = .bad := rfl
@[simp] theorem bind_exc {α β : Type} (e : Ex) (en : En) (st : S) (f : α → S → Out β) : (Out.exc e en st : Out α).bind f = .exc e en st := rfl
abbrev EM := En → S → Out D
abbrev TM := En → S → Out Bool
abbrev AM := En → S → Out (List D)
inductive Fl where
  | nx | bk | ct | ret (d : D)
abbrev SM := En → S → Out (Fl × En)
abbrev Rho := Nat → Option Addr
abbrev Frag := PySem.W.Frag
/-- where the classes stand; whose program, in which world -/
structure Clm where
  f : Str → Option Addr
  P : Program
  w : World
  tb : List Addr := []
  hot : List Addr := []
instance : CoeFun Clm fun _ => Str → Option Addr := ⟨Clm.f⟩

mutual
def RD (K : Frag) (H : Hp) (r : Rho) : D → V → Prop
  | .non, v => v = .non
  | .bl b, v => v = .bl b
  | .int i, v => v = .int i
  | .str x, v => v = .str x
  | .tup l, v => ∃ a xs, v = .ref a ∧ SqT K H a xs ∧ RDs K H r l xs
  | .ref n, v => ∃ a, v = .ref a ∧ r n = some a
  | .ty n, v => v = .ty n
def RDs (K : Frag) (H : Hp) (r : Rho) : List D → List V → Prop
  | [], xs => xs = []
  | d :: ds, xs => ∃ v vs, xs = v :: vs ∧ RD K H r d v ∧ RDs K H r ds vs
end

section
variable {K : Frag} {H : Hp} {r : Rho}
theorem RDs.pr : ∀ {ds : List D} {vs : List V}, RDs K H r ds vs → Paired (RD K H r) ds vs
  | [], vs, h => by rw [RDs] at h; subst h; exact .nil
  | d :: ds, vs, h => by
    rw [RDs] at h
    obtain ⟨v, w, rfl, h1, h2⟩ := h
    exact .cons h1 (RDs.pr h2)
theorem RDs.of : ∀ {ds : List D} {vs : List V}, Paired (RD K H r) ds vs → RDs K H r ds vs
  | _, _, .nil => by rw [RDs]
  | _, _, .cons h t => by rw [RDs]; exact ⟨_, _, rfl, h, RDs.of t⟩
theorem RDs.nil : RDs K H r [] [] := by rw [RDs]
theorem RDs.cons {d : D} {v : V} {ds : List D} {vs : List V} (h : RD K H r d v) (t : RDs K H r ds vs) : RDs K H r (d :: ds) (v :: vs) := by rw [RDs]; exact ⟨_, _, rfl, h, t⟩
theorem RDs.nil_inv {vs : List V} (h : RDs K H r [] vs) : vs = [] := by rw [RDs] at h; exact h
theorem RDs.cons_inv {d : D} {ds : List D} {vs : List V} (h : RDs K H r (d :: ds) vs) : ∃ v w, vs = v :: w ∧ RD K H r d v ∧ RDs K H r ds w := by rw [RDs] at h; exact h
theorem RDs.length {ds : List D} {vs : List V} (h : RDs K H r ds vs) : ds.length = vs.length := h.pr.length
theorem RDs.get : ∀ {ds : List D} {vs : List V} {i : Nat} {d : D}, RDs K H r ds vs → ds[i]? = some d → ∃ v, vs[i]? = some v ∧ RD K H r d v
  | [], _, _, _, _, e => by simp at e
  | d :: ds, vs, 0, x, h, e => by
    obtain ⟨v, w, rfl, h1, h2⟩ := h.cons_inv
    simp at e; subst e
    exact ⟨v, rfl, h1⟩
  | d :: ds, vs, i + 1, x, h, e => by
    obtain ⟨v, w, rfl, h1, h2⟩ := h.cons_inv
    obtain ⟨u, e1, e2⟩ := RDs.get (i := i) h2 (by simpa using e)
    exact ⟨u, by simpa using e1, e2⟩
theorem RDs.get' : ∀ {ds : List D} {vs : List V} {i : Nat} {v : V}, RDs K H r ds vs → vs[i]? = some v → ∃ d, ds[i]? = some d ∧ RD K H r d v
  | [], _, _, _, h, e => by have := h.nil_inv; subst this; simp at e
  | d :: ds, vs, 0, x, h, e => by
    obtain ⟨v, w, rfl, h1, h2⟩ := h.cons_inv
    simp at e; subst e
    exact ⟨d, rfl, h1⟩
  | d :: ds, vs, i + 1, x, h, e => by
    obtain ⟨v, w, rfl, h1, h2⟩ := h.cons_inv
    obtain ⟨u, e1, e2⟩ := RDs.get' (i := i) h2 (by simpa using e)
    exact ⟨u, by simpa using e1, e2⟩
theorem RDs.append : ∀ {ds es : List D} {vs ws : List V}, RDs K H r ds vs → RDs K H r es ws → RDs K H r (ds ++ es) (vs ++ ws)
  | [], _, _, _, h, t => by have := h.nil_inv; subst this; exact t
  | d :: ds, _, _, _, h, t => by
    obtain ⟨v, w, rfl, h1, h2⟩ := h.cons_inv
    exact .cons h1 (RDs.append h2 t)
theorem RDs.set : ∀ {ds : List D} {vs : List V} (i : Nat) {d : D} {v : V}, RDs K H r ds vs → RD K H r d v → RDs K H r (ds.set i d) (vs.set i v)
  | [], _, _, _, _, h, _ => by have := h.nil_inv; subst this; exact .nil
  | d :: ds, _, 0, _, _, h, q => by
    obtain ⟨v, w, rfl, h1, h2⟩ := h.cons_inv
    exact .cons q h2
  | d :: ds, _, i + 1, _, _, h, q => by
    obtain ⟨v, w, rfl, h1, h2⟩ := h.cons_inv
    exact .cons h1 (RDs.set i h2 q)
theorem RDs.take : ∀ {ds : List D} {vs : List V} (i : Nat), RDs K H r ds vs → RDs K H r (ds.take i) (vs.take i)
  | [], _, _, h => by have := h.nil_inv; subst this; simp; exact .nil
  | _ :: _, _, 0, _ => by simp; exact .nil
  | d :: ds, _, i + 1, h => by
    obtain ⟨v, w, rfl, h1, h2⟩ := h.cons_inv
    exact .cons h1 (RDs.take i h2)
theorem RDs.drop : ∀ {ds : List D} {vs : List V} (i : Nat), RDs K H r ds vs → RDs K H r (ds.drop i) (vs.drop i)
  | [], _, _, h => by have := h.nil_inv; subst this; simp; exact .nil
  | _ :: _, _, 0, h => h
  | d :: ds, _, i + 1, h => by
    obtain ⟨v, w, rfl, h1, h2⟩ := h.cons_inv
    exact RDs.drop i h2
theorem RDs.eraseIdx : ∀ {ds : List D} {vs : List V} (i : Nat), RDs K H r ds vs → RDs K H r (ds.eraseIdx i) (vs.eraseIdx i)
  | [], _, _, h => by have := h.nil_inv; subst this; simp; exact .nil
  | d :: ds, _, 0, h => by
    obtain ⟨v, w, rfl, h1, h2⟩ := h.cons_inv
    simpa using h2
  | d :: ds, _, i + 1, h => by
    obtain ⟨v, w, rfl, h1, h2⟩ := h.cons_inv
    exact .cons h1 (RDs.eraseIdx i h2)
theorem RD.int {i : Int} : RD K H r (.int i) (.int i) := by rw [RD]
theorem RD.bl {b : Bool} : RD K H r (.bl b) (.bl b) := by rw [RD]
theorem RD.non : RD K H r .non .non := by rw [RD]
theorem RD.str {x : Str} : RD K H r (.str x) (.str x) := by rw [RD]
theorem RD.ref {n : Nat} {a : Addr} (h : r n = some a) : RD K H r (.ref n) (.ref a) := by rw [RD]; exact ⟨a, rfl, h⟩
theorem RD.tup {l : List D} {a : Addr} {xs : List V} (h : SqT K H a xs) (t : RDs K H r l xs) : RD K H r (.tup l) (.ref a) := by rw [RD]; exact ⟨a, xs, rfl, h, t⟩
theorem RD.int_inv {i : Int} {v : V} (h : RD K H r (.int i) v) : v = .int i := by rw [RD] at h; exact h
theorem RD.bl_inv {b : Bool} {v : V} (h : RD K H r (.bl b) v) : v = .bl b := by rw [RD] at h; exact h
theorem RD.non_inv {v : V} (h : RD K H r .non v) : v = .non := by rw [RD] at h; exact h
theorem RD.str_inv {x : Str} {v : V} (h : RD K H r (.str x) v) : v = .str x := by rw [RD] at h; exact h
theorem RD.ty {n : String} : RD K H r (.ty n) (.ty n) := by rw [RD]
theorem RD.ty_inv {n : String} {v : V} (h : RD K H r (.ty n) v) : v = .ty n := by rw [RD] at h; exact h
theorem RD.ref_inv {n : Nat} {v : V} (h : RD K H r (.ref n) v) : ∃ a, v = .ref a ∧ r n = some a := by rw [RD] at h; exact h
theorem RD.tup_inv {l : List D} {v : V} (h : RD K H r (.tup l) v) : ∃ a xs, v = .ref a ∧ SqT K H a xs ∧ RDs K H r l xs := by rw [RD] at h; exact h
end

/-- what is true of a later heap: the numbers keep their objects, new numbers stand for new objects, what bears no number stays -/
structure Xt (K : Frag) (r : Rho) (H : Hp) (r' : Rho) (H' : Hp) : Prop where
  ext : ∀ n a, r n = some a → r' n = some a
  new : ∀ n a, r' n = some a → r n = some a ∨ H a = none
  keep : ∀ b o, H b = some o → (∀ n, n ≠ 0 → r n ≠ some b) → (∀ ps, o ≠ .tbl ps) → H' b = some o
  there : ∀ b, H' b = none → H b = none
  sqt : ∀ b xs, SqT K H b xs → SqT K H' b xs
  frz : ∀ b ob u, H b = some (.frz ob u) → H' b = some (.frz ob u)
theorem Xt.refl {K : Frag} {r : Rho} {H : Hp} : Xt K r H r H := ⟨fun _ _ h => h, fun _ _ h => .inl h, fun _ _ h _ _ => h, fun _ h => h, fun _ _ h => h, fun _ _ _ h => h⟩
theorem Xt.trans {K : Frag} {r r1 r2 : Rho} {H H1 H2 : Hp} (a : Xt K r H r1 H1) (b : Xt K r1 H1 r2 H2) : Xt K r H r2 H2 where
  ext := fun n x h => b.ext n x (a.ext n x h)
  new := fun n x h => by
    rcases b.new n x h with q | q
    · exact a.new n x q
    · exact .inr (a.there x q)
  keep := fun c o h hn ht => b.keep c o (a.keep c o h hn ht) (fun n n0 q => by
    rcases a.new n c q with z | z
    · exact hn n n0 z
    · rw [h] at z; cases z) ht
  there := fun c h => a.there c (b.there c h)
  sqt := fun c xs h => b.sqt c xs (a.sqt c xs h)
  frz := fun c ob u h => b.frz c ob u (a.frz c ob u h)

/-- what values lean on -/
structure Mn (K : Frag) (r : Rho) (H : Hp) (r' : Rho) (H' : Hp) : Prop where
  ext : ∀ n a, r n = some a → r' n = some a
  sqt : ∀ b xs, SqT K H b xs → SqT K H' b xs
theorem Xt.mn {K : Frag} {r r' : Rho} {H H' : Hp} (x : Xt K r H r' H') : Mn K r H r' H' := ⟨x.ext, x.sqt⟩
section
variable {K : Frag} {r r' : Rho} {H H' : Hp}
mutual
theorem RD.mono (x : Mn K r H r' H') : ∀ {d : D} {v : V}, RD K H r d v → RD K H' r' d v
  | .non, v, h => by have := h.non_inv; subst this; exact .non
  | .bl b, v, h => by have := h.bl_inv; subst this; exact .bl
  | .int i, v, h => by have := h.int_inv; subst this; exact .int
  | .str z, v, h => by have := h.str_inv; subst this; exact .str
  | .ty z, v, h => by have := h.ty_inv; subst this; exact .ty
  | .tup l, v, h => by
    obtain ⟨a, xs, rfl, h1, h2⟩ := h.tup_inv
    exact .tup (x.sqt _ _ h1) (RDs.mono x h2)
  | .ref n, v, h => by
    obtain ⟨a, rfl, h1⟩ := h.ref_inv
    exact .ref (x.ext _ _ h1)
theorem RDs.mono (x : Mn K r H r' H') : ∀ {ds : List D} {vs : List V}, RDs K H r ds vs → RDs K H' r' ds vs
  | [], vs, h => by have := h.nil_inv; subst this; exact .nil
  | d :: ds, vs, h => by
    obtain ⟨v, w, rfl, h1, h2⟩ := h.cons_inv
    exact .cons (RD.mono x h1) (RDs.mono x h2)
end
end

/-- the fields of an instance -/
def RF (K : Frag) (H : Hp) (r : Rho) (fs : List (Str × D)) (vs : List (Str × V)) : Prop := Paired (fun p q => p.1 = q.1 ∧ RD K H r p.2 q.2) fs vs
/-- the locked objects alone -/
def fzH (H : Hp) : Hp := fun b => match H b with
  | some (.frz o u) => some (.frz o u)
  | _ => none
theorem fzH_some {H : Hp} {a : Addr} {u : HO} (h : fzH H a = some u) : H a = some u ∧ ∃ o z, u = .frz o z := by
  unfold fzH at h
  split at h
  · rename_i o z e
    cases h
    exact ⟨e, _, _, rfl⟩
  · cases h
theorem fzH_of {H : Hp} {a : Addr} {o : Obj} {u : HO} (h : H a = some (.frz o u)) : fzH H a = some (.frz o u) := by
  unfold fzH; rw [h]
theorem fz_sql {K : Frag} {H : Hp} {a : Addr} {xs : List V} (h : SqL K (fzH H) a xs) : SqL K H a xs := by
  rcases h with (h | ⟨ob, h⟩) | h
  · obtain ⟨_, _, _, e⟩ := fzH_some h
    cases e
  · exact .inl (.inr ⟨ob, (fzH_some h).1⟩)
  · exact .inr h
theorem fz_mono {K : Frag} {H H' : Hp} {a : Addr} {xs : List V} (hk : ∀ u, (∀ ps, u ≠ .tbl ps) → H a = some u → H' a = some u) (h : SqL K (fzH H) a xs) : SqL K (fzH H') a xs := by
  rcases h with (h | ⟨ob, h⟩) | h
  · obtain ⟨_, _, _, e⟩ := fzH_some h
    cases e
  · exact .inl (.inr ⟨ob, fzH_of (hk _ (fun _ z => nomatch z) (fzH_some h).1)⟩)
  · exact .inr h
/-- an exception that is held at a: its class, its dict -/
def XcpO (cls : Value) (d : Option Addr) (a : Addr) : HO := .ext fun h => ∃ (oe : Obj) (vs : Array Value), h.get? a = some oe ∧ L2N.Zn cls d oe ∧ oe.data = .fields vs
/-- an object that is read alone, whose context is None -/
def HotH (H : Hp) (a : Addr) : Prop := ∃ (ob : Obj) (u : HO) (vs : Array Value), H a = some (.frz ob u) ∧ ob.data = .fields vs ∧ vs[2]? = some .none
/-- a dict whose keys are tuples of ints: the keys' tuples by their addresses -/
def DicT0 (P : Program) (w : World) (h : Heap) (a : Addr) (L : List (List Int × Addr × V)) : Prop := L.length ≤ sizeLine ∧ (a == sysModules) = false ∧ ∃ xs : List (List Int × Addr × Value),
  Paired (fun p q => p.1 = q.1 ∧ p.2.1 = q.2.1 ∧ RelV p.2.2 q.2.2) L xs ∧ ∃ o es ep, h.get? a = some o ∧ o.ExactDict ∧ o.data = .dict es ep ∧ es.toList = xs.map (entryOfKey (tupleKind (intKind P w))) ∧ (xs.map (·.1)).Nodup
def DicTO (P : Program) (w : World) (a : Addr) (L : List (List Int × Addr × V)) : HO := .ext fun h => DicT0 P w h a L
/-- an object of the store at its address -/
def RO (K : Frag) (cl : Clm) (H : Hp) (r : Rho) : O → Addr → Prop
  | .lst l, a => ∃ xs, H a = some (.lst xs) ∧ RDs K H r l xs
  | .frz l, a => ∃ xs, SqL K (fzH H) a xs ∧ RDs K H r l xs
  | .ins c fs, a => ∃ C dx vs, cl c = some C ∧ H a = some (.ins C dx vs) ∧ RF K H r fs vs
  | .set l, a => ∃ L : List (Addr × List Int), H a = some (SetTO cl.P cl.w a L) ∧ (∀ p ∈ L, SqT K H p.1 (p.2.map V.int)) ∧ (∀ k, k ∈ L.map (·.2) ↔ k ∈ l) ∧ L.length ≤ l.length
  | .dT l, a => ∃ L : List (List Int × Addr × V), H a = some (DicTO cl.P cl.w a L) ∧ Paired (fun d p => d.1 = p.1 ∧ SqT K H p.2.1 (p.1.map V.int) ∧ RD K H r d.2 p.2.2) l L
  | .dK l, a => ∃ kvs : List (Key × V), H a = some (.dK kvs) ∧ Paired (fun d p => d.1 = p.1 ∧ RD K H r d.2 p.2) l kvs
  | .xcp c fs, a => ∃ C d ob vs, cl c = some C ∧ H a = some (.frz ob (XcpO (.ref C) d a)) ∧ L2N.Zn (.ref C) d ob ∧ ob.data = .fields vs ∧ ((fs = [] ∧ d = none) ∨ ∃ dx vs, d = some dx ∧ H dx = some (.xd vs) ∧ RF K H r fs vs ∧ ∀ n, n ≠ 0 → r n ≠ some dx)
  | .rng lo hi, a => H a = some (.rng lo hi)
def isFrz : O → Bool
  | .frz _ => true
  | _ => false
structure RS (K : Frag) (cl : Clm) (r : Rho) (st : S) (H : Hp) : Prop where
  dom : ∀ n a, r n = some a → n < st.length
  at_ : ∀ n o, st[n]? = some o → ∃ a, r n = some a ∧ RO K cl H r o a
  inj : ∀ m n a, m ≠ 0 → n ≠ 0 → r m = some a → r n = some a → m = n
  fz : ∀ n o, st[n]? = some o → (isFrz o = true ↔ n = 0)
  pos : 0 < st.length
  tabs : ∀ p ∈ cl.tb, GxR.TabG H p
  hotf : ∀ a ∈ cl.hot, HotH H a
/-- the slots -/
def RE (K : Frag) (H : Hp) (r : Rho) (en : En) (s : St) : Prop := en.length = s.length ∧ ∀ (i : Nat) (d : D), en[i]? = some (some d) → ∃ v : V, s[i]? = some (some v) ∧ RD K H r d v
/-- an exception: its class, its own dict -/
def RX (K : Frag) (cl : Clm) (H : Hp) (r : Rho) (e : Ex) (c : Value) (d : Option Addr) : Prop := ∃ C, cl e.cls = some C ∧ c = .ref C ∧
  ((e.fs = [] ∧ d = none) ∨ ∃ dx vs, d = some dx ∧ H dx = some (.xd vs) ∧ RF K H r e.fs vs ∧ ∀ n, n ≠ 0 → r n ≠ some dx)

theorem RF.mono {K : Frag} {r r' : Rho} {H H' : Hp} (x : Mn K r H r' H') {fs : List (Str × D)} {vs : List (Str × V)} (h : RF K H r fs vs) : RF K H' r' fs vs := Paired.mapP h fun _ _ q => ⟨q.1, q.2.mono x⟩
theorem RE.mono {K : Frag} {r r' : Rho} {H H' : Hp} (x : Mn K r H r' H') {en : En} {s : St} (h : RE K H r en s) : RE K H' r' en s :=
  ⟨h.1, fun i d e => let ⟨v, a, b⟩ := h.2 i d e; ⟨v, a, b.mono x⟩⟩

/-- what is wanted behind a computation -/
def Po {α : Type} (K : Frag) (cl : Clm) (r : Rho) (H : Hp) (W : WX) (o : Out α) (k : Rho → Hp → α → S → Prop) : Prop := match o with
  | .ok a st => ∀ r' H', Xt K r H r' H' → RS K cl r' st H' → k r' H' a st
  | .exc e en st => ∀ r' H' s c d, Xt K r H r' H' → RS K cl r' st H' → RE K H' r' en s → RX K cl H' r' e c d → W c d s H'
  | .bad => False
section
variable {K : Frag} {cl : Clm} {r r' : Rho} {H H' : Hp} {W : WX} {α β : Type}
theorem Po.xt {o : Out α} {k : Rho → Hp → α → S → Prop} (x : Xt K r H r' H') (h : Po K cl r H W o k) : Po K cl r' H' W o k := by
  cases o with
  | ok a st => exact fun r2 H2 y s => h r2 H2 (x.trans y) s
  | exc e en st => exact fun r2 H2 s c d y z q1 q2 => h r2 H2 s c d (x.trans y) z q1 q2
  | bad => exact h
theorem Po.mono {o : Out α} {k k' : Rho → Hp → α → S → Prop} (h : Po K cl r H W o k) (q : ∀ r' H' a st, Xt K r H r' H' → RS K cl r' st H' → k r' H' a st → k' r' H' a st) : Po K cl r H W o k' := by
  cases o with
  | ok a st => exact fun r2 H2 y s => q r2 H2 a st y s (h r2 H2 y s)
  | exc e en st => exact h
  | bad => exact h
theorem Po.bind {x : Out α} {f : α → S → Out β} {k : Rho → Hp → β → S → Prop} (h : Po K cl r H W (x.bind f) k) : Po K cl r H W x fun r' H' a st => Po K cl r' H' W (f a st) k := by
  cases x with
  | ok a st =>
    intro r1 H1 y s
    exact Po.xt y h
  | exc e en st => exact h
  | bad => exact h
end

/-! ### computations as readings -/
def tE (K : Frag) (cl : Clm) (W : WX) (m : EM) : TE := fun s H Q => ∃ r en st, RE K H r en s ∧ RS K cl r st H ∧ Po K cl r H W (m en st) fun r' H' d _ => ∀ v, RD K H' r' d v → Q v H'
def tT (K : Frag) (cl : Clm) (W : WX) (m : TM) : TT := fun s H Q => ∃ r en st, RE K H r en s ∧ RS K cl r st H ∧ Po K cl r H W (m en st) fun r' H' b _ => Q b H'
def tA (K : Frag) (cl : Clm) (W : WX) (m : AM) : TA := fun s H Q => ∃ r en st, RE K H r en s ∧ RS K cl r st H ∧ Po K cl r H W (m en st) fun r' H' ds _ => ∀ vs, RDs K H' r' ds vs → Q vs H'
def endOf (K : Frag) (Dn : Ends) (r : Rho) (H : Hp) (s : St) : Fl → Prop
  | .nx => Dn.nx s H
  | .bk => Dn.bk s H
  | .ct => Dn.ct s H
  | .ret d => ∀ v, RD K H r d v → Dn.rt v H
def tS (K : Frag) (cl : Clm) (W : WX) (m : SM) : TS := fun Dn s H => ∃ r en st, RE K H r en s ∧ RS K cl r st H ∧ Po K cl r H W (m en st) fun r' H' p _ => ∀ s', RE K H' r' p.2 s' → endOf K Dn r' H' s' p.1

structure SE (X : Cx) (cl : Clm) (W : WX) (e : Expr) (m : EM) : Prop where
  pe : PE X e (tE X.K cl W m)
structure SB (X : Cx) (cl : Clm) (W : WX) (e : Expr) (m : TM) : Prop where
  pt : PT X e (tT X.K cl W m)
structure SA (X : Cx) (cl : Clm) (W : WX) (es : List Expr) (m : AM) : Prop where
  pa : PA X es (tA X.K cl W m)
structure SS (X : Cx) (cl : Clm) (W : WX) (st : Stmt) (m : SM) : Prop where
  ps : PS X st (tS X.K cl W m)
structure SL (X : Cx) (cl : Clm) (W : WX) (st : List Stmt) (m : SM) : Prop where
  pss : PSs X st (tS X.K cl W m)

section
variable {X : Cx}
theorem pe_of {e : Expr} {t t' : TE} (h : PE X e t) (q : ∀ s H Q, t' s H Q → t s H Q) : PE X e t' := ⟨fun pins s σ H Q I w => h.run pins s σ H Q I (q _ _ _ w)⟩
theorem pt_of {e : Expr} {t t' : TT} (h : PT X e t) (q : ∀ s H Q, t' s H Q → t s H Q) : PT X e t' := ⟨fun pins s σ H Q I w => h.run pins s σ H Q I (q _ _ _ w)⟩
theorem pw_of {e : Expr} {t t' : TT} (h : PW X e t) (q : ∀ s H Q, t' s H Q → t s H Q) : PW X e t' := ⟨fun wh pins s σ H Q I w => h.run wh pins s σ H Q I (q _ _ _ w)⟩
theorem pa_of {e : List Expr} {t t' : TA} (h : PA X e t) (q : ∀ s H Q, t' s H Q → t s H Q) : PA X e t' := ⟨fun pos pins s σ H Q I w => h.run pos pins s σ H Q I (q _ _ _ w)⟩
theorem ps_of {e : Stmt} {t t' : TS} (h : PS X e t) (q : ∀ D s H, t' D s H → t D s H) : PS X e t' := ⟨fun pins s σ H D I w => h.run pins s σ H D I (q _ _ _ w)⟩
theorem pss_of {e : List Stmt} {t t' : TS} (h : PSs X e t) (q : ∀ D s H, t' D s H → t D s H) : PSs X e t' := ⟨fun pins s σ H D I w => h.run pins s σ H D I (q _ _ _ w)⟩
end

/-! ### the store's steps and the heap's -/
section
variable {K : Frag} {cl : Clm} {r : Rho} {st : S} {H : Hp}
theorem upd_eq {H : Hp} {a b : Addr} {o : HO} : upd H a o b = if b = a then some o else H b := rfl
theorem sqt_upd {a b : Addr} {o : HO} {xs : List V} (hn : ∀ ys, H a ≠ some (.tup ys)) (hf : ∀ ob u, H a ≠ some (.frz ob u)) (h : SqT K H b xs) : SqT K (upd H a o) b xs := by
  rcases h with (h | ⟨ob, h⟩) | h
  · exact .inl (.inl (by rw [upd_ne (fun e => by subst e; exact hn _ h)]; exact h))
  · exact .inl (.inr ⟨ob, by rw [upd_ne (fun e => by subst e; exact hf _ _ h)]; exact h⟩)
  · exact .inr h
/-- a new object that bears no number -/
theorem Xt.fresh {p : Addr} {o : HO} (hp : H p = none) : Xt K r H r (upd H p o) where
  ext := fun _ _ h => h
  new := fun _ _ h => .inl h
  keep := fun b u h _ _ => by rw [upd_ne (ne_of_none h hp)]; exact h
  there := fun b h => by
    by_cases e : b = p
    · subst e; exact hp
    · rw [upd_ne e] at h; exact h
  sqt := fun b xs h => sqt_upd (fun ys e => by rw [hp] at e; cases e) (fun _ _ e => by rw [hp] at e; cases e) h
  frz := fun b ob u h => by rw [upd_ne (ne_of_none h hp)]; exact h
/-- the dicts of exceptions stay -/
def XdK (r : Rho) (H : Hp) (r' : Rho) (H' : Hp) : Prop := ∀ dx vs, H dx = some (.xd vs) → (∀ n, n ≠ 0 → r n ≠ some dx) → H' dx = some (.xd vs) ∧ ∀ n, n ≠ 0 → r' n ≠ some dx
theorem Xt.xdk {r' : Rho} {H' : Hp} (x : Xt K r H r' H') : XdK r H r' H' := fun dx vs e hn => ⟨x.keep dx _ e hn (fun _ z => nomatch z), fun n n0 q => by
  rcases x.new n dx q with z | z
  · exact hn n n0 z
  · rw [e] at z; cases z⟩
theorem XdK.upd {a : Addr} {o u : HO} (ha : H a = some u) (hu : ∀ vs, u ≠ .xd vs) : XdK r H r (L2.upd H a o) := fun dx vs e hn => ⟨by
  rw [upd_ne (fun z => by rw [z, ha] at e; cases e; exact hu vs rfl)]
  exact e, hn⟩
theorem RO.xt {r' : Rho} {H' : Hp} {o : O} {a : Addr} (x : Mn K r H r' H') (hx : XdK r H r' H') (hk : ∀ u, (∀ ps, u ≠ .tbl ps) → H a = some u → H' a = some u) (h : RO K cl H r o a) : RO K cl H' r' o a := by
  cases o with
  | lst l =>
    obtain ⟨xs, h1, h2⟩ := h
    exact ⟨xs, hk _ (fun _ z => nomatch z) h1, h2.mono x⟩
  | frz l =>
    obtain ⟨xs, h1, h2⟩ := h
    exact ⟨xs, fz_mono hk h1, h2.mono x⟩
  | ins c fs =>
    obtain ⟨C, dx, vs, h1, h2, h3⟩ := h
    exact ⟨C, dx, vs, h1, hk _ (fun _ z => nomatch z) h2, h3.mono x⟩
  | set l =>
    obtain ⟨L, h1, h2, h3⟩ := h
    exact ⟨L, hk _ (fun _ z => nomatch z) h1, fun p hp => x.sqt _ _ (h2 p hp), h3⟩
  | dT l =>
    obtain ⟨L, h1, h2⟩ := h
    exact ⟨L, hk _ (fun _ z => nomatch z) h1, Paired.mapP h2 fun _ _ q => ⟨q.1, x.sqt _ _ q.2.1, q.2.2.mono x⟩⟩
  | dK l =>
    obtain ⟨L, h1, h2⟩ := h
    exact ⟨L, hk _ (fun _ z => nomatch z) h1, Paired.mapP h2 fun _ _ q => ⟨q.1, q.2.mono x⟩⟩
  | rng lo hi => exact hk _ (fun _ z => nomatch z) h
  | xcp c fs =>
    obtain ⟨C, d, ob, ovs, h1, h2, h2z, h2d, h3⟩ := h
    refine ⟨C, d, ob, ovs, h1, hk _ (fun _ z => nomatch z) h2, h2z, h2d, ?_⟩
    rcases h3 with h3 | ⟨dx, vs, e1, e2, e3, e4⟩
    · exact .inl h3
    · obtain ⟨q1, q2⟩ := hx dx vs e2 e4
      exact .inr ⟨dx, vs, e1, q1, e3.mono x, q2⟩
theorem tabG_upd {H : Hp} {a p : Addr} {o : HO} (t : GxR.TabG H p) (hn : p = a → False) : GxR.TabG (upd H a o) p := by
  obtain ⟨ps, h1, h2⟩ := t
  exact ⟨ps, by rw [upd_ne hn]; exact h1, h2⟩
theorem hotH_upd {H : Hp} {a p : Addr} {o : HO} (t : HotH H p) (hn : p = a → False) : HotH (upd H a o) p := by
  obtain ⟨ob, u, vs, h1, h2⟩ := t
  exact ⟨ob, u, vs, by rw [upd_ne hn]; exact h1, h2⟩
theorem Xt.hot {r r' : Rho} {H H' : Hp} {p : Addr} (x : Xt K r H r' H') (t : HotH H p) : HotH H' p := by
  obtain ⟨ob, u, vs, h1, h2⟩ := t
  exact ⟨ob, u, vs, x.frz _ _ _ h1, h2⟩
/-- a thing that bears no number is made -/
theorem RS.fresh {p : Addr} {o : HO} (h : RS K cl r st H) (hp : H p = none) : RS K cl r st (upd H p o) :=
  ⟨h.dom, fun n u e => let ⟨a, h1, h2⟩ := h.at_ n u e; ⟨a, h1, h2.xt (Xt.fresh hp).mn (Xt.fresh (K := K) hp).xdk fun z _ q => by rw [upd_ne (ne_of_none q hp)]; exact q⟩, h.inj, h.fz, h.pos, fun p hm => tabG_upd (h.tabs p hm) (fun e => by
    obtain ⟨_, q, _⟩ := h.tabs p hm
    rw [← e, q] at hp; cases hp), fun a hm => hotH_upd (h.hotf a hm) (fun e => by
    obtain ⟨_, _, _, q, _⟩ := h.hotf a hm
    rw [← e, q] at hp; cases hp)⟩
/-- the next number -/
def nxt (r : Rho) (n : Nat) (p : Addr) : Rho := fun m => if m = n then some p else r m
theorem nxt_self {n : Nat} {p : Addr} : nxt r n p n = some p := by unfold nxt; rw [if_pos rfl]
theorem nxt_old {n m : Nat} {p : Addr} (h : m ≠ n) : nxt r n p m = r m := by unfold nxt; rw [if_neg h]
/-- an object that stands at p already gets the next number; p was free at H0 -/
theorem Xt.name {p : Addr} {H0 : Hp} {r0 : Rho} (x : Xt K r0 H0 r H) (hp : H0 p = none) (hd : ∀ n a, r n = some a → n < st.length) : Xt K r0 H0 (nxt r st.length p) H where
  ext := fun n a h => by
    have h1 := x.ext n a h
    rw [nxt_old (Nat.ne_of_lt (hd _ _ h1))]
    exact h1
  new := fun n a h => by
    by_cases e : n = st.length
    · subst e; rw [nxt_self] at h; cases h; exact .inr hp
    · rw [nxt_old e] at h; exact x.new n a h
  keep := x.keep
  there := x.there
  sqt := x.sqt
  frz := x.frz
theorem Xt.nxt0 {p : Addr} (hd : ∀ n a, r n = some a → n < st.length) : ∀ n a, r n = some a → nxt r st.length p n = some a := fun n a h => by rw [nxt_old (Nat.ne_of_lt (hd _ _ h))]; exact h
theorem RS.ne0 (h : RS K cl r st H) {n : Nat} {o : O} (e : st[n]? = some o) (f : isFrz o = false) : n ≠ 0 := fun z => by
  have := (h.fz n o e).mpr z
  rw [f] at this; cases this
/-- what bears a number stands in the heap -/
theorem RS.some_of (h : RS K cl r st H) {n : Nat} {a : Addr} (n0 : n ≠ 0) (e : r n = some a) : H a ≠ none := fun z => by
  have hl := h.dom n a e
  obtain ⟨b, e1, e2⟩ := h.at_ n st[n] (List.getElem?_eq_getElem hl)
  rw [e] at e1; cases e1
  cases q : st[n] with
  | lst l => rw [q] at e2; obtain ⟨xs, y, _⟩ := e2; rw [z] at y; cases y
  | frz l => exact n0 ((h.fz n st[n] (List.getElem?_eq_getElem hl)).mp (by rw [q]; rfl))
  | ins c fs => rw [q] at e2; obtain ⟨_, _, _, _, y, _⟩ := e2; rw [z] at y; cases y
  | set l => rw [q] at e2; obtain ⟨_, y, _⟩ := e2; rw [z] at y; cases y
  | dT l => rw [q] at e2; obtain ⟨_, y, _⟩ := e2; rw [z] at y; cases y
  | dK l => rw [q] at e2; obtain ⟨_, y, _⟩ := e2; rw [z] at y; cases y
  | xcp c d => rw [q] at e2; obtain ⟨_, _, _, _, _, y, _⟩ := e2; rw [z] at y; cases y
  | rng c d => rw [q] at e2; have y : H a = some (.rng c d) := e2; rw [z] at y; cases y
theorem RO.nxd {o : O} {a : Addr} (h : RO K cl H r o a) (hf : isFrz o = false) : ∀ vs, H a ≠ some (.xd vs) := fun vs e => by
  cases o with
  | lst l => obtain ⟨_, y, _⟩ := h; rw [e] at y; cases y
  | frz l => cases hf
  | ins c fs => obtain ⟨_, _, _, _, y, _⟩ := h; rw [e] at y; cases y
  | set l => obtain ⟨_, y, _⟩ := h; rw [e] at y; cases y
  | dT l => obtain ⟨_, y, _⟩ := h; rw [e] at y; cases y
  | dK l => obtain ⟨_, y, _⟩ := h; rw [e] at y; cases y
  | xcp c d => obtain ⟨_, _, _, _, _, y, _⟩ := h; rw [e] at y; cases y
  | rng c d => have y : H a = some (.rng c d) := h; rw [e] at y; cases y
/-- the object at p, which no number stands for, gets the next one -/
theorem RS.push {p : Addr} {o : O} (h : RS K cl r st H) (hn : ∀ n, n ≠ 0 → r n ≠ some p) (ho : RO K cl H (nxt r st.length p) o p) (hf : isFrz o = false) : RS K cl (nxt r st.length p) (st ++ [o]) H where
  dom := fun n a e => by
    rw [List.length_append, List.length_singleton]
    by_cases q : n = st.length
    · omega
    · rw [nxt_old q] at e; have := h.dom n a e; omega
  at_ := fun n u e => by
    by_cases q : n = st.length
    · subst q
      rw [List.getElem?_append_right (Nat.le_refl _), Nat.sub_self] at e
      simp at e; subst e
      exact ⟨p, nxt_self, ho⟩
    · have hl : n < st.length := by
        have := (List.getElem?_eq_some_iff.mp e).1
        rw [List.length_append, List.length_singleton] at this; omega
      rw [List.getElem?_append_left hl] at e
      obtain ⟨a, h1, h2⟩ := h.at_ n u e
      exact ⟨a, by rw [nxt_old q]; exact h1, h2.xt (r' := nxt r st.length p) (H' := H) ⟨Xt.nxt0 h.dom, fun _ _ z => z⟩ (fun dx vs e hn => ⟨e, fun n n0 z => by
        by_cases q : n = st.length
        · subst q; rw [nxt_self] at z; cases z
          exact ho.nxd hf vs e
        · rw [nxt_old q] at z; exact hn n n0 z⟩) fun _ _ z => z⟩
  inj := fun m n a m0 n0 e1 e2 => by
    by_cases q1 : m = st.length
    · by_cases q2 : n = st.length
      · rw [q1, q2]
      · subst q1
        rw [nxt_self] at e1; cases e1
        rw [nxt_old q2] at e2
        exact absurd e2 (hn n n0)
    · by_cases q2 : n = st.length
      · subst q2
        rw [nxt_self] at e2; cases e2
        rw [nxt_old q1] at e1
        exact absurd e1 (hn m m0)
      · rw [nxt_old q1] at e1
        rw [nxt_old q2] at e2
        exact h.inj m n a m0 n0 e1 e2
  fz := fun n u e => by
    by_cases q : n = st.length
    · subst q
      rw [List.getElem?_append_right (Nat.le_refl _), Nat.sub_self] at e
      simp at e; subst e
      have := h.pos
      rw [hf]; constructor
      · intro z; cases z
      · intro z; omega
    · have hl : n < st.length := by
        have := (List.getElem?_eq_some_iff.mp e).1
        rw [List.length_append, List.length_singleton] at this; omega
      rw [List.getElem?_append_left hl] at e
      exact h.fz n u e
  pos := by rw [List.length_append]; have := h.pos; omega
  tabs := h.tabs
  hotf := h.hotf
/-- a new object with a number -/
theorem push_new {p : Addr} {o : O} {u : HO} (h : RS K cl r st H) (hp : H p = none) (ho : RO K cl (upd H p u) (nxt r st.length p) o p) (hf : isFrz o = false) :
    RS K cl (nxt r st.length p) (st ++ [o]) (upd H p u) ∧ Xt K r H (nxt r st.length p) (upd H p u) :=
  ⟨(h.fresh hp).push (fun n n0 e => h.some_of n0 e hp) ho hf, (Xt.fresh hp).name hp h.dom⟩
/-- an object that may change: a list, an instance -/
def Mu (u : HO) : Prop := (∃ xs, u = .lst xs) ∨ (∃ C dx fs, u = .ins C dx fs) ∨ (∃ f, u = .ext f) ∨ ∃ kvs, u = .dK kvs
theorem Mu.nt {H : Hp} {a : Addr} {u : HO} (mu : Mu u) (hu : H a = some u) : ∀ ys, H a ≠ some (.tup ys) := fun ys e => by
  rw [hu] at e; cases e
  rcases mu with ⟨_, z⟩ | ⟨_, _, _, z⟩ | ⟨_, z⟩ | ⟨_, z⟩ <;> cases z
theorem Mu.nf {H : Hp} {a : Addr} {u : HO} (mu : Mu u) (hu : H a = some u) : ∀ ob w, H a ≠ some (.frz ob w) := fun ob w e => by
  rw [hu] at e; cases e
  rcases mu with ⟨_, z⟩ | ⟨_, _, _, z⟩ | ⟨_, z⟩ | ⟨_, z⟩ <;> cases z
theorem Mu.ntb {u : HO} (mu : Mu u) {ps : Array Value} : u ≠ .tbl ps := fun e => by
  subst e
  rcases mu with ⟨_, z⟩ | ⟨_, _, _, z⟩ | ⟨_, z⟩ | ⟨_, z⟩ <;> cases z
/-- the object with the number n is changed -/
theorem write_at {n : Nat} {a : Addr} {u u' : HO} {o : O} (h : RS K cl r st H) (n0 : n ≠ 0) (hr : r n = some a) (hu : H a = some u) (mu : Mu u) (hf : isFrz o = false)
    (ho : RO K cl (upd H a u') r o a) : RS K cl r (st.set n o) (upd H a u') ∧ Xt K r H r (upd H a u') := by
  have x : Xt K r H r (upd H a u') := ⟨fun _ _ z => z, fun _ _ z => .inl z, fun b w z hn _ => by rw [upd_ne (fun e => hn n n0 (by rw [e]; exact hr))]; exact z, fun b z => by
    by_cases e : b = a
    · subst e; rw [upd_same] at z; cases z
    · rw [upd_ne e] at z; exact z, fun b xs z => sqt_upd (mu.nt hu) (mu.nf hu) z, fun b ob w z => by
    rw [upd_ne fun e => mu.nf hu ob w (by rw [← e]; exact z)]; exact z⟩
  refine ⟨⟨fun m b e => by rw [List.length_set]; exact h.dom m b e, fun m w e => ?_, h.inj, fun m w e => ?_, by rw [List.length_set]; exact h.pos, fun p hm => tabG_upd (h.tabs p hm) (fun e => by
    obtain ⟨ps, q, _⟩ := h.tabs p hm
    rw [e, hu] at q; cases q
    exact mu.ntb rfl), fun p hm => x.hot (h.hotf p hm)⟩, x⟩
  · by_cases q : m = n
    · subst q
      rw [List.getElem?_set_self (h.dom _ _ hr)] at e; cases e
      exact ⟨a, hr, ho⟩
    · rw [List.getElem?_set_ne (Ne.symm q)] at e
      obtain ⟨b, z1, z2⟩ := h.at_ m w e
      by_cases y : b = a
      · subst y
        by_cases m0 : m = 0
        · have fw := (h.fz m w e).mpr m0
          cases w with
          | lst l => cases fw
          | ins c fs => cases fw
          | set l => cases fw
          | dT l => cases fw
          | dK l => cases fw
          | xcp c d => cases fw
          | rng c d => cases fw
          | frz l =>
            obtain ⟨xs, y1, y2⟩ := z2
            refine ⟨b, z1, xs, ?_, y2.mono x.mn⟩
            rcases y1 with (y1 | ⟨ob, y1⟩) | y1
            · obtain ⟨_, _, _, e'⟩ := fzH_some y1
              cases e'
            · exact absurd (fzH_some y1).1 (mu.nf hu _ _)
            · exact .inr y1
        · exact absurd (h.inj m n b m0 n0 z1 hr) q
      · exact ⟨b, z1, z2.xt x.mn x.xdk fun w' _ z => by rw [upd_ne y]; exact z⟩
  · by_cases q : m = n
    · subst q
      rw [List.getElem?_set_self (h.dom _ _ hr)] at e; cases e
      rw [hf]; constructor
      · intro z; cases z
      · intro z; exact absurd z n0
    · rw [List.getElem?_set_ne (Ne.symm q)] at e
      exact h.fz m w e
/-- an exception's facts in a later heap -/
theorem RX.xt {r' : Rho} {H' : Hp} {e : Ex} {c : Value} {d : Option Addr} (x : Xt K r H r' H') (h : RX K cl H r e c d) : RX K cl H' r' e c d := by
  obtain ⟨C, h1, h2, h3⟩ := h
  refine ⟨C, h1, h2, ?_⟩
  rcases h3 with h3 | ⟨dx, vs, e1, e2, e3, e4⟩
  · exact .inl h3
  · refine .inr ⟨dx, vs, e1, x.keep dx _ e2 e4 (fun _ z => nomatch z), e3.mono x.mn, fun n n0 q => ?_⟩
    rcases x.new n dx q with z | z
    · exact e4 n n0 z
    · rw [e2] at z; cases z
end
end Dn

/-! Dn, B: expressions. -/
namespace Dn
open PySem L2

/-! ### names, constants -/
def dVar (i : Nat) : EM := fun en st => match en[i]? with
  | some (some d) => .ok d st
  | _ => .bad
def dC (d : D) : EM := fun _ st => .ok d st
section
variable {X : Cx} {cl : Clm} {W : WX} {e a b c : Expr} {pos : Pos}
theorem se_var {i : Nat} (h : PE X e (tVar i)) : SE X cl W e (dVar i) := ⟨pe_of h fun s H Q ⟨r, en, st, he, hs, hp⟩ => by
  unfold dVar at hp
  split at hp
  · rename_i d e
    obtain ⟨v, h1, h2⟩ := he.2 i d e
    exact ⟨v, h1, hp r H .refl hs v h2⟩
  · exact hp.elim⟩
theorem se_c {v : V} {d : D} (h : PE X e (tC v)) (hd : ∀ H r, RD X.K H r d v) : SE X cl W e (dC d) := ⟨pe_of h fun s H Q ⟨r, en, st, he, hs, hp⟩ => hp r H .refl hs v (hd H r)⟩
theorem se_int {i : Int} {j pos} : SE X cl W (.Constant (.int i) j pos) (dC (.int i)) := se_c pe_int fun _ _ => .int
theorem se_bl {i : Bool} {j pos} : SE X cl W (.Constant (.bool i) j pos) (dC (.bl i)) := se_c pe_bl fun _ _ => .bl
theorem se_non {j pos} : SE X cl W (.Constant .none j pos) (dC .non) := se_c pe_non fun _ _ => .non
theorem se_str {x : Str} {j pos} : SE X cl W (.Constant (.str x) j pos) (dC (.str x)) := se_c pe_str fun _ _ => .str
end

/-! ### operators by values -/
/-- f tells what r asks -/
def Op2 (K : Frag) (cl : Clm) (f : D → D → S → Out D) (p : R2) : Prop := ∀ (r : Rho) (st : S) (H : Hp) (W : WX) (x y : D) (v w : V) (Q : VK), RS K cl r st H → RD K H r x v → RD K H r y w →
  Po K cl r H W (f x y st) (fun r' H' d _ => ∀ z, RD K H' r' d z → Q z H') → p v w H Q
def Op1 (K : Frag) (cl : Clm) (f : D → S → Out D) (p : V → Hp → VK → Prop) : Prop := ∀ (r : Rho) (st : S) (H : Hp) (W : WX) (x : D) (v : V) (Q : VK), RS K cl r st H → RD K H r x v →
  Po K cl r H W (f x st) (fun r' H' d _ => ∀ z, RD K H' r' d z → Q z H') → p v H Q
def OpN (K : Frag) (cl : Clm) (f : List D → S → Out D) (p : List V → Hp → VK → Prop) : Prop := ∀ (r : Rho) (st : S) (H : Hp) (W : WX) (xs : List D) (vs : List V) (Q : VK), RS K cl r st H → RDs K H r xs vs →
  Po K cl r H W (f xs st) (fun r' H' d _ => ∀ z, RD K H' r' d z → Q z H') → p vs H Q
/-- a method: its object, its arguments -/
def OpM (K : Frag) (cl : Clm) (f : D → List D → S → Out D) (p : V → List V → Hp → VK → Prop) : Prop := ∀ (r : Rho) (st : S) (H : Hp) (W : WX) (x : D) (xs : List D) (v : V) (vs : List V) (Q : VK), RS K cl r st H → RD K H r x v → RDs K H r xs vs →
  Po K cl r H W (f x xs st) (fun r' H' d _ => ∀ z, RD K H' r' d z → Q z H') → p v vs H Q
def dO2 (f : D → D → S → Out D) (ma mb : EM) : EM := fun en st => (ma en st).bind fun x st1 => (mb en st1).bind fun y st2 => f x y st2
def dO1 (f : D → S → Out D) (ma : EM) : EM := fun en st => (ma en st).bind fun x st1 => f x st1
def dNil : AM := fun _ st => .ok [] st
def dCons (ma : EM) (mr : AM) : AM := fun en st => (ma en st).bind fun x st1 => (mr en st1).bind fun xs st2 => .ok (x :: xs) st2
def dON (f : List D → S → Out D) (ma : AM) : EM := fun en st => (ma en st).bind fun xs st1 => f xs st1
def dOM (f : D → List D → S → Out D) (ma : EM) (mr : AM) : EM := fun en st => (ma en st).bind fun x st1 => (mr en st1).bind fun xs st2 => f x xs st2
section
variable {K : Frag} {cl : Clm} {W : WX} {s : St} {H : Hp} {Q : VK}
theorem tE_o2 {f : D → D → S → Out D} {p : R2} (hf : Op2 K cl f p) {ma mb : EM} (h : tE K cl W (dO2 f ma mb) s H Q) : tOp p (tE K cl W ma) (tE K cl W mb) s H Q := by
  obtain ⟨r, en, st, he, hs, hp⟩ := h
  refine ⟨r, en, st, he, hs, (Po.bind hp).mono fun r1 H1 d1 st1 x1 s1 h1 v1 q1 => ?_⟩
  refine ⟨r1, en, st1, he.mono x1.mn, s1, (Po.bind h1).mono fun r2 H2 d2 st2 x2 s2 h2 v2 q2 => ?_⟩
  exact hf r2 st2 H2 W d1 d2 v1 v2 Q s2 (q1.mono x2.mn) q2 h2
theorem tE_o1 {f : D → S → Out D} {p : V → Hp → VK → Prop} (hf : Op1 K cl f p) {ma : EM} (h : tE K cl W (dO1 f ma) s H Q) : tE K cl W ma s H fun x H1 => p x H1 Q := by
  obtain ⟨r, en, st, he, hs, hp⟩ := h
  refine ⟨r, en, st, he, hs, (Po.bind hp).mono fun r1 H1 d1 st1 x1 s1 h1 v1 q1 => ?_⟩
  exact hf r1 st1 H1 W d1 v1 Q s1 q1 h1
theorem tA_cons {ma : EM} {mr : AM} {Q : List V → Hp → Prop} (h : tA K cl W (dCons ma mr) s H Q) : tCons (tE K cl W ma) (tA K cl W mr) s H Q := by
  obtain ⟨r, en, st, he, hs, hp⟩ := h
  refine ⟨r, en, st, he, hs, (Po.bind hp).mono fun r1 H1 d1 st1 x1 s1 h1 v1 q1 => ?_⟩
  refine ⟨r1, en, st1, he.mono x1.mn, s1, (Po.bind h1).mono fun r2 H2 ds st2 x2 s2 h2 vs q2 => ?_⟩
  exact h2 r2 H2 .refl s2 _ (.cons (q1.mono x2.mn) q2)
theorem tE_on {f : List D → S → Out D} {p : List V → Hp → VK → Prop} (hf : OpN K cl f p) {ma : AM} (h : tE K cl W (dON f ma) s H Q) : tA K cl W ma s H fun xs H1 => p xs H1 Q := by
  obtain ⟨r, en, st, he, hs, hp⟩ := h
  refine ⟨r, en, st, he, hs, (Po.bind hp).mono fun r1 H1 ds st1 x1 s1 h1 vs q1 => ?_⟩
  exact hf r1 st1 H1 W ds vs Q s1 q1 h1
theorem tE_om {f : D → List D → S → Out D} {p : V → List V → Hp → VK → Prop} (hf : OpM K cl f p) {ma : EM} {mr : AM} (h : tE K cl W (dOM f ma mr) s H Q) :
    tE K cl W ma s H fun x H1 => tA K cl W mr s H1 fun xs H2 => p x xs H2 Q := by
  obtain ⟨r, en, st, he, hs, hp⟩ := h
  refine ⟨r, en, st, he, hs, (Po.bind hp).mono fun r1 H1 d1 st1 x1 s1 h1 v1 q1 => ?_⟩
  refine ⟨r1, en, st1, he.mono x1.mn, s1, (Po.bind h1).mono fun r2 H2 ds st2 x2 s2 h2 vs q2 => ?_⟩
  exact hf r2 st2 H2 W d1 ds v1 vs Q s2 (q1.mono x2.mn) q2 h2
end
section
variable {X : Cx} {cl : Clm} {W : WX} {e a b c : Expr} {es : List Expr} {pos : Pos} {ma mb mc : EM} {mr : AM}
theorem se_bin {op : Operator} {f : D → D → S → Out D} {p : R2} (ho : OpR X (binaryOp op) p) (hf : Op2 X.K cl f p) (ha : SE X cl W a ma) (hb : SE X cl W b mb) : SE X cl W (.BinOp a op b pos) (dO2 f ma mb) :=
  ⟨pe_of (pe_op ho ha.pe hb.pe) fun _ _ _ h => tE_o2 hf h⟩
theorem se_un {op : UnaryOp} {f : D → S → Out D} {p : V → Hp → VK → Prop} (ho : UnR X (unaryOp op) p) (hf : Op1 X.K cl f p) (ha : SE X cl W a ma) : SE X cl W (.UnaryOp op a pos) (dO1 f ma) :=
  ⟨pe_of (pe_un ho ha.pe) fun _ _ _ h => tE_o1 hf h⟩
theorem se_cmp {op : CmpOp} {f : D → D → S → Out D} {p : R2} (ho : OpR X (compareOp op) p) (hf : Op2 X.K cl f p) (hm : behindInMarks op b = false) (ha : SE X cl W a ma) (hb : SE X cl W b mb) : SE X cl W (.Compare a [op] [b] pos) (dO2 f ma mb) :=
  ⟨pe_of (pe_cmpR ho ha.pe hb.pe hm) fun _ _ _ h => tE_o2 hf h⟩
theorem se_ix {f : D → D → S → Out D} {p : R2} (ho : IxR X p) (hf : Op2 X.K cl f p) (ha : SE X cl W a ma) (hb : SE X cl W b mb) (hs : PlainIx b) : SE X cl W (.Subscript a b pos) (dO2 f ma mb) :=
  ⟨pe_of (pe_ix ho ha.pe hb.pe hs) fun _ _ _ h => tE_o2 hf h⟩
theorem sa_nil : SA X cl W [] dNil := ⟨pa_of pa_nil fun _ H _ ⟨r, en, st, he, hs, hp⟩ => hp r H .refl hs [] .nil⟩
theorem sa_cons (ha : SE X cl W e ma) (hr : SA X cl W es mr) (hs : starEach (e :: es) X.env = (false, eval e X.env) :: starEach es X.env := by rfl) : SA X cl W (e :: es) (dCons ma mr) :=
  ⟨pa_of (pa_cons ha.pe hr.pa hs) fun _ _ _ h => tA_cons h⟩
end

/-! ### a value as a test -/
def dB (ma : EM) : TM := fun en st => (ma en st).bind fun x st1 => match x with
  | .bl k => .ok k st1
  | _ => .bad
def truD (st : S) : D → Option Bool
  | .non => some false
  | .bl b => some b
  | .int i => some (i != 0)
  | .str x => if x.length ≤ sizeLine then some ((x.length : Int) != 0) else none
  | .tup l => some (!l.isEmpty)
  | .ref n => match st[n]? with
    | some (.lst l) => some (!l.isEmpty)
    | some (.frz l) => some (!l.isEmpty)
    | _ => none
  | .ty _ => none
def dTru (ma : EM) : TM := fun en st => (ma en st).bind fun x st1 => match truD st1 x with
  | some k => .ok k st1
  | none => .bad
def dNotT (m : TM) : TM := fun en st => (m en st).bind fun k st1 => .ok (!k) st1
def dAndT (m n : TM) : TM := fun en st => (m en st).bind fun k st1 => if k then n en st1 else .ok false st1
def dOrT (m n : TM) : TM := fun en st => (m en st).bind fun k st1 => if k then .ok true st1 else n en st1
def dIfE (m : TM) (ma mb : EM) : EM := fun en st => (m en st).bind fun k st1 => if k then ma en st1 else mb en st1
/-- and, or of truth values as a value -/
def dAndV (ma mb : EM) : EM := fun en st => (ma en st).bind fun x st1 => match x with
  | .bl true => mb en st1
  | .bl false => .ok (.bl false) st1
  | _ => .bad
def dOrV (ma mb : EM) : EM := fun en st => (ma en st).bind fun x st1 => match x with
  | .bl true => .ok (.bl true) st1
  | .bl false => mb en st1
  | _ => .bad
def dNotV (ma : EM) : EM := fun en st => (ma en st).bind fun x st1 => match x with
  | .bl k => .ok (.bl (!k)) st1
  | _ => .bad
theorem RDs.isEmpty {K : Frag} {H : Hp} {r : Rho} {ds : List D} {vs : List V} (h : RDs K H r ds vs) : ds.isEmpty = vs.isEmpty := by
  have := h.length
  cases ds <;> cases vs <;> simp at this ⊢
section
variable {X : Cx} {cl : Clm} {W : WX} {e a b c : Expr} {rest : List Expr} {pos : Pos} {ma mb : EM} {m n : TM}
theorem sb_val (h : SE X cl W e ma) (he : ∀ whole, isTrue e X.env whole = (do let v ← whole; standAt e.pos; holding [v] (truthy v)) := by intro _; rfl) : SB X cl W e (dB ma) :=
  ⟨pt_of (pt_val h.pe he) fun s H Q ⟨r, en, st, he, hs, hp⟩ => ⟨r, en, st, he, hs, (Po.bind hp).mono fun r1 H1 d st1 x1 s1 h1 v q => by
    cases d with
    | bl k => exact ⟨k, q.bl_inv, h1 r1 H1 .refl s1⟩
    | _ => exact h1.elim⟩⟩
/-- a comparison as a test -/
theorem sb_cmp {op : CmpOp} {f : D → D → S → Out D} {p : R2} (ho : OpR X (compareOp op) p) (hf : Op2 X.K cl f p) (hm : behindInMarks op b = false) (ha : SE X cl W a ma) (hb : SE X cl W b mb) : SB X cl W (.Compare a [op] [b] pos) (dB (dO2 f ma mb)) :=
  ⟨pt_of (pt_cmpR ho ha.pe hb.pe hm) fun s H Q ⟨r, en, st, he, hs, hp⟩ => by
    refine tE_o2 (W := W) (Q := fun x H' => ∃ k, x = .bl k ∧ Q k H') hf ⟨r, en, st, he, hs, (Po.bind hp).mono fun r1 H1 d st1 x1 s1 h1 v q => ?_⟩
    cases d with
    | bl k => exact ⟨k, q.bl_inv, h1 r1 H1 .refl s1⟩
    | _ => exact h1.elim⟩
theorem truD_of {K : Frag} {r : Rho} {st : S} {H : Hp} {d : D} {v : V} {k : Bool} (hs : RS K cl r st H) (q : RD K H r d v) (e : truD st d = some k) : TruV K v H k := by
  cases d with
  | non => have := q.non_inv; subst this; simp only [truD, Option.some.injEq] at e; exact e.symm
  | bl b => have := q.bl_inv; subst this; simp only [truD, Option.some.injEq] at e; exact e.symm
  | int b => have := q.int_inv; subst this; simp only [truD, Option.some.injEq] at e; exact e.symm
  | str x =>
    have := q.str_inv; subst this
    simp only [truD] at e
    split at e
    · rename_i h
      cases e
      exact ⟨h, rfl⟩
    · cases e
  | tup l =>
    obtain ⟨a, xs, rfl, h1, h2⟩ := q.tup_inv
    simp only [truD, Option.some.injEq] at e
    subst e
    exact .inr (.inl ⟨xs, h1, by rw [h2.isEmpty]⟩)
  | ref n =>
    obtain ⟨a, rfl, h1⟩ := q.ref_inv
    simp only [truD] at e
    split at e
    · rename_i l g
      obtain ⟨b, e1, xs, e2, e3⟩ := hs.at_ n _ g
      rw [h1] at e1; cases e1
      cases e
      exact .inl ⟨xs, .of e2, by rw [e3.isEmpty]⟩
    · rename_i l g
      obtain ⟨b, e1, xs, e2, e3⟩ := hs.at_ n _ g
      rw [h1] at e1; cases e1
      cases e
      exact .inl ⟨xs, fz_sql e2, by rw [e3.isEmpty]⟩
    · cases e
  | ty n => simp only [truD] at e; cases e
theorem sb_tru (h : SE X cl W e ma) (he : ∀ whole, isTrue e X.env whole = (do let v ← whole; standAt e.pos; holding [v] (truthy v)) := by intro _; rfl) : SB X cl W e (dTru ma) :=
  ⟨pt_of (pt_truth h.pe he) fun s H Q ⟨r, en, st, he, hs, hp⟩ => ⟨r, en, st, he, hs, (Po.bind hp).mono fun r1 H1 d st1 x1 s1 h1 v q => by
    cases e : truD st1 d with
    | none => rw [e] at h1; exact h1.elim
    | some k => rw [e] at h1; exact ⟨k, truD_of s1 q e, h1 r1 H1 .refl s1⟩⟩⟩
theorem sb_not (h : SB X cl W a m) : SB X cl W (.UnaryOp .Not a pos) (dNotT m) :=
  ⟨pt_of (pt_not h.pt) fun s H Q ⟨r, en, st, he, hs, hp⟩ => ⟨r, en, st, he, hs, (Po.bind hp).mono fun r1 H1 k st1 x1 s1 h1 => h1 r1 H1 .refl s1⟩⟩
/-- and, or as tests: PW -/
structure SW (X : Cx) (cl : Clm) (W : WX) (e : Expr) (m : TM) : Prop where
  pw : PW X e (tT X.K cl W m)
theorem SW.sb (h : SW X cl W e m) : SB X cl W e m := ⟨h.pw.pt⟩
theorem sw_and1 (h : SB X cl W a m) : SW X cl W (.BoolOp .And [a] pos) m := ⟨pw_and1 h.pt⟩
theorem sw_or1 (h : SB X cl W a m) : SW X cl W (.BoolOp .Or [a] pos) m := ⟨pw_or1 h.pt⟩
theorem sw_and (h : SB X cl W a m) (h' : SW X cl W (.BoolOp .And (b :: rest) pos) n) : SW X cl W (.BoolOp .And (a :: b :: rest) pos) (dAndT m n) :=
  ⟨pw_of (pw_and h.pt h'.pw) fun s H Q ⟨r, en, st, he, hs, hp⟩ => ⟨r, en, st, he, hs, (Po.bind hp).mono fun r1 H1 k st1 x1 s1 h1 => by
    cases k with
    | true => rw [if_pos rfl] at h1 ⊢; exact ⟨r1, en, st1, he.mono x1.mn, s1, h1⟩
    | false => simp only [Bool.false_eq_true, if_false] at h1 ⊢; exact h1 r1 H1 .refl s1⟩⟩
theorem sw_or (h : SB X cl W a m) (h' : SW X cl W (.BoolOp .Or (b :: rest) pos) n) : SW X cl W (.BoolOp .Or (a :: b :: rest) pos) (dOrT m n) :=
  ⟨pw_of (pw_or h.pt h'.pw) fun s H Q ⟨r, en, st, he, hs, hp⟩ => ⟨r, en, st, he, hs, (Po.bind hp).mono fun r1 H1 k st1 x1 s1 h1 => by
    cases k with
    | true => rw [if_pos rfl] at h1 ⊢; exact h1 r1 H1 .refl s1
    | false => simp only [Bool.false_eq_true, if_false] at h1 ⊢; exact ⟨r1, en, st1, he.mono x1.mn, s1, h1⟩⟩⟩
theorem se_ifE (h : SB X cl W c m) (ha : SE X cl W a ma) (hb : SE X cl W b mb) : SE X cl W (.IfExp c a b pos) (dIfE m ma mb) :=
  ⟨pe_of (pe_ifExp h.pt ha.pe hb.pe) fun s H Q ⟨r, en, st, he, hs, hp⟩ => ⟨r, en, st, he, hs, (Po.bind hp).mono fun r1 H1 k st1 x1 s1 h1 => by
    cases k with
    | true => rw [if_pos rfl] at h1 ⊢; exact ⟨r1, en, st1, he.mono x1.mn, s1, h1⟩
    | false => simp only [Bool.false_eq_true, if_false] at h1 ⊢; exact ⟨r1, en, st1, he.mono x1.mn, s1, h1⟩⟩⟩
theorem se_one {op : BoolOp} (h : SE X cl W a ma) : SE X cl W (.BoolOp op [a] pos) ma := ⟨pe_one h.pe⟩
theorem se_and (ha : SE X cl W a ma) (hb : SE X cl W (.BoolOp .And (b :: rest) pos) mb) : SE X cl W (.BoolOp .And (a :: b :: rest) pos) (dAndV ma mb) :=
  ⟨pe_of (pe_and ha.pe hb.pe) fun s H Q ⟨r, en, st, he, hs, hp⟩ => ⟨r, en, st, he, hs, (Po.bind hp).mono fun r1 H1 d st1 x1 s1 h1 v q => by
    cases d with
    | bl k =>
      cases k with
      | true => exact ⟨true, q.bl_inv, by rw [if_pos rfl]; exact ⟨r1, en, st1, he.mono x1.mn, s1, h1⟩⟩
      | false => exact ⟨false, q.bl_inv, by rw [if_neg Bool.false_ne_true]; exact h1 r1 H1 .refl s1 _ .bl⟩
    | _ => exact h1.elim⟩⟩
theorem se_or (ha : SE X cl W a ma) (hb : SE X cl W (.BoolOp .Or (b :: rest) pos) mb) : SE X cl W (.BoolOp .Or (a :: b :: rest) pos) (dOrV ma mb) :=
  ⟨pe_of (pe_or ha.pe hb.pe) fun s H Q ⟨r, en, st, he, hs, hp⟩ => ⟨r, en, st, he, hs, (Po.bind hp).mono fun r1 H1 d st1 x1 s1 h1 v q => by
    cases d with
    | bl k =>
      cases k with
      | true => exact ⟨true, q.bl_inv, by rw [if_pos rfl]; exact h1 r1 H1 .refl s1 _ .bl⟩
      | false => exact ⟨false, q.bl_inv, by rw [if_neg Bool.false_ne_true]; exact ⟨r1, en, st1, he.mono x1.mn, s1, h1⟩⟩
    | _ => exact h1.elim⟩⟩
theorem se_not (ha : SE X cl W a ma) : SE X cl W (.UnaryOp .Not a pos) (dNotV ma) :=
  ⟨pe_of (pe_not ha.pe) fun s H Q ⟨r, en, st, he, hs, hp⟩ => ⟨r, en, st, he, hs, (Po.bind hp).mono fun r1 H1 d st1 x1 s1 h1 v q => by
    cases d with
    | bl k => exact ⟨k, q.bl_inv, h1 r1 H1 .refl s1 _ .bl⟩
    | _ => exact h1.elim⟩⟩
end

/-! ### arithmetic -/
def dAdd : D → D → S → Out D
  | .int i, .int j, st => .ok (.int (i + j)) st
  | .str a, .str b, st => if a.length + b.length ≤ sizeLine then .ok (.str (a ++ b)) st else .bad
  | .tup a, .tup b, st => if a.length + b.length ≤ sizeLine then .ok (.tup (a ++ b)) st else .bad
  | .ref a, .ref b, st => match st[a]?, st[b]? with
    | some (.lst xs), some (.lst ys) => if xs.length + ys.length ≤ sizeLine then .ok (.ref st.length) (st ++ [.lst (xs ++ ys)]) else .bad
    | _, _ => .bad
  | _, _, _ => .bad
def dSub : D → D → S → Out D
  | .int i, .int j, st => .ok (.int (i - j)) st
  | _, _, _ => .bad
def dMul : D → D → S → Out D
  | .int i, .int j, st => if (-(2 ^ 64) < i ∧ i < 2 ^ 64) ∨ (-(2 ^ 64) < j ∧ j < 2 ^ 64) then .ok (.int (i * j)) st else if i.natAbs.log2 + j.natAbs.log2 < 1000000 then .ok (.int (i * j)) st else .bad
  | .ref a, .int k, st => match st[a]? with
    | some (.lst xs) => if -(2 ^ 63) ≤ k ∧ k < 2 ^ 63 ∧ xs.length * k.toNat ≤ sizeLine then .ok (.ref st.length) (st ++ [.lst (List.replicate k.toNat xs).flatten]) else .bad
    | _ => .bad
  | _, _, _ => .bad
def dDiv : D → D → S → Out D
  | .int i, .int j, st => if 0 < j ∧ j.natAbs.log2 < 9000 then .ok (.int (i / j)) st else .bad
  | _, _, _ => .bad
def dMod : D → D → S → Out D
  | .int i, .int j, st => if 0 < j then .ok (.int (i % j)) st else .bad
  | _, _, _ => .bad
def dPow : D → D → S → Out D
  | .int i, .int j, st => if 0 ≤ j ∧ j ≤ 1000000 ∧ i.natAbs < 2 ^ 64 then .ok (.int (i ^ j.toNat)) st else .bad
  | _, _, _ => .bad
def dNeg : D → S → Out D
  | .int i, st => .ok (.int (-i)) st
  | _, _ => .bad
def pAdd (K : Frag) : R2 := fun x y H Q => rI0 (fun i j => .int (i + j)) x y H Q ∨ (∃ i j, x = .str i ∧ y = .str j ∧ i.length + j.length ≤ sizeLine ∧ Q (.str (i ++ j)) H) ∨ rCatA K x y H Q ∨ rCat x y H Q
theorem or_add {X : Cx} : OpR X (binaryOp .Add) (pAdd X.K) := op_add.or (op_add_str.or (op_catA.or op_cat))
theorem lst_at {K : Frag} {cl : Clm} {r : Rho} {st : S} {H : Hp} {n : Nat} {a : Addr} {l : List D} (hs : RS K cl r st H) (g : st[n]? = some (.lst l)) (h : r n = some a) : ∃ xs, H a = some (.lst xs) ∧ RDs K H r l xs := by
  obtain ⟨b, e1, xs, e2, e3⟩ := hs.at_ n _ g
  rw [h] at e1; cases e1
  exact ⟨xs, e2, e3⟩
theorem seq_at {K : Frag} {cl : Clm} {r : Rho} {st : S} {H : Hp} {n : Nat} {a : Addr} {l : List D} (hs : RS K cl r st H) (g : st[n]? = some (.lst l) ∨ st[n]? = some (.frz l)) (h : r n = some a) : ∃ xs, SqL K H a xs ∧ RDs K H r l xs := by
  rcases g with g | g
  · obtain ⟨xs, e1, e2⟩ := lst_at hs g h
    exact ⟨xs, .of e1, e2⟩
  · obtain ⟨b, e1, xs, e2, e3⟩ := hs.at_ n _ g
    rw [h] at e1; cases e1
    exact ⟨xs, fz_sql e2, e3⟩
/-- a new list, tuple behind a step -/
theorem new_lst {K : Frag} {cl : Clm} {r : Rho} {st : S} {H : Hp} {W : WX} {l : List D} {xs : List V} {Q : VK} (hs : RS K cl r st H) (h : RDs K H r l xs)
    (hp : Po K cl r H W (.ok (D.ref st.length) (st ++ [.lst l])) fun r' H' d _ => ∀ z, RD K H' r' d z → Q z H') : ∀ p, H p = none → Q (.ref p) (upd H p (.lst xs)) := fun p np => by
  obtain ⟨h1, h2⟩ := push_new (o := .lst l) (u := .lst xs) hs np ⟨xs, upd_same, h.mono ⟨Xt.nxt0 hs.dom, (Xt.fresh (r := r) np).sqt⟩⟩ rfl
  exact hp _ _ h2 h1 _ (.ref nxt_self)
theorem new_tup {K : Frag} {cl : Clm} {r : Rho} {st : S} {H : Hp} {W : WX} {l : List D} {xs : List V} {Q : VK} (hs : RS K cl r st H) (h : RDs K H r l xs)
    (hp : Po K cl r H W (.ok (D.tup l) st) fun r' H' d _ => ∀ z, RD K H' r' d z → Q z H') : ∀ p, H p = none → Q (.ref p) (upd H p (.tup xs)) := fun p np =>
  hp _ _ (Xt.fresh np) (hs.fresh np) _ (.tup (.of upd_same) (h.mono (Xt.fresh np).mn))
theorem op2_add {K : Frag} {cl : Clm} : Op2 K cl dAdd (pAdd K) := by
  intro r st H W x y v w Q hs hx hy hp
  unfold dAdd at hp
  split at hp
  · rw [hx.int_inv, hy.int_inv]
    exact .inl ⟨_, _, rfl, rfl, hp r H .refl hs _ .int⟩
  · split at hp
    · rename_i hz
      rw [hx.str_inv, hy.str_inv]
      exact .inr (.inl ⟨_, _, rfl, rfl, hz, hp r H .refl hs _ .str⟩)
    · exact hp.elim
  · split at hp
    · rename_i l1 l2 hz
      obtain ⟨a, xs, rfl, h1, h2⟩ := hx.tup_inv
      obtain ⟨b, ys, rfl, g1, g2⟩ := hy.tup_inv
      refine .inr (.inr (.inl ⟨a, b, xs, ys, rfl, rfl, h1, g1, by rw [← h2.length, ← g2.length]; exact hz, fun e => ?_, fun e1 e2 => ?_, fun e1 e2 p np => new_tup hs (h2.append g2) hp p np⟩))
      · subst e
        have hl := h2.length
        have e0 : l1 = [] := List.length_eq_zero_iff.mp hl
        subst e0
        exact hp r H .refl hs _ (.tup g1 (by simpa using g2))
      · subst e2
        have hl := g2.length
        have e0 : l2 = [] := List.length_eq_zero_iff.mp hl
        subst e0
        exact hp r H .refl hs _ (.tup h1 (by simpa using h2))
    · exact hp.elim
  · obtain ⟨a, rfl, h1⟩ := hx.ref_inv
    obtain ⟨b, rfl, g1⟩ := hy.ref_inv
    split at hp
    · rename_i xs ys q1 q2
      split at hp
      · rename_i hz
        obtain ⟨us, e1, e2⟩ := lst_at hs q1 h1
        obtain ⟨ws, f1, f2⟩ := lst_at hs q2 g1
        exact .inr (.inr (.inr ⟨a, b, us, ws, rfl, rfl, e1, f1, by rw [← e2.length, ← f2.length]; exact hz, new_lst hs (e2.append f2) hp⟩))
      · exact hp.elim
    · exact hp.elim
  · exact hp.elim
theorem op2_sub {K : Frag} {cl : Clm} : Op2 K cl dSub (rI0 fun i j => .int (i - j)) := by
  intro r st H W x y v w Q hs hx hy hp
  unfold dSub at hp
  split at hp
  · rw [hx.int_inv, hy.int_inv]
    exact ⟨_, _, rfl, rfl, hp r H .refl hs _ .int⟩
  · exact hp.elim
theorem rds_rep {K : Frag} {H : Hp} {r : Rho} {l : List D} {xs : List V} (h : RDs K H r l xs) : ∀ n : Nat, RDs K H r (List.replicate n l).flatten (List.replicate n xs).flatten
  | 0 => .nil
  | n + 1 => by rw [List.replicate_succ, List.replicate_succ, List.flatten_cons, List.flatten_cons]; exact h.append (rds_rep h n)
def pMul : R2 := fun x y H Q => rI CMul (fun i j => .int (i * j)) x y H Q ∨ rI CMulW (fun i j => .int (i * j)) x y H Q ∨ rRep x y H Q
theorem or_mul {X : Cx} : OpR X (binaryOp .Mult) pMul := op_mul.or (op_mulW.or op_rep)
theorem op2_mul {K : Frag} {cl : Clm} : Op2 K cl dMul pMul := by
  intro r st H W x y v w Q hs hx hy hp
  unfold dMul at hp
  split at hp
  · rw [hx.int_inv, hy.int_inv]
    split at hp
    · rename_i hc
      exact .inl ⟨_, _, rfl, rfl, hc, hp r H .refl hs _ .int⟩
    · split at hp
      · rename_i hc
        exact .inr (.inl ⟨_, _, rfl, rfl, hc, hp r H .refl hs _ .int⟩)
      · exact hp.elim
  · obtain ⟨a, rfl, h1⟩ := hx.ref_inv
    rw [hy.int_inv]
    split at hp
    · rename_i xs q1
      split at hp
      · rename_i hz
        obtain ⟨us, e1, e2⟩ := lst_at hs q1 h1
        exact .inr (.inr ⟨a, _, us, rfl, rfl, e1, hz.1, hz.2.1, by rw [← e2.length]; exact hz.2.2, new_lst hs (rds_rep e2 _) hp⟩)
      · exact hp.elim
    · exact hp.elim
  · exact hp.elim
theorem op2_div {K : Frag} {cl : Clm} : Op2 K cl dDiv (rI CDivW fun i j => .int (i / j)) := by
  intro r st H W x y v w Q hs hx hy hp
  unfold dDiv at hp
  split at hp
  · rw [hx.int_inv, hy.int_inv]
    split at hp
    · rename_i hc
      exact ⟨_, _, rfl, rfl, hc, hp r H .refl hs _ .int⟩
    · exact hp.elim
  · exact hp.elim
theorem op2_mod {K : Frag} {cl : Clm} : Op2 K cl dMod (rI (fun _ j => 0 < j) fun i j => .int (i % j)) := by
  intro r st H W x y v w Q hs hx hy hp
  unfold dMod at hp
  split at hp
  · rw [hx.int_inv, hy.int_inv]
    split at hp
    · rename_i hc
      exact ⟨_, _, rfl, rfl, hc, hp r H .refl hs _ .int⟩
    · exact hp.elim
  · exact hp.elim
theorem op2_pow {K : Frag} {cl : Clm} : Op2 K cl dPow (rI CPow fun i j => .int (i ^ j.toNat)) := by
  intro r st H W x y v w Q hs hx hy hp
  unfold dPow at hp
  split at hp
  · rw [hx.int_inv, hy.int_inv]
    split at hp
    · rename_i hc
      exact ⟨_, _, rfl, rfl, hc, hp r H .refl hs _ .int⟩
    · exact hp.elim
  · exact hp.elim
theorem op1_neg {K : Frag} {cl : Clm} : Op1 K cl dNeg (rU fun i => .int (-i)) := by
  intro r st H W x v Q hs hx hp
  unfold dNeg at hp
  split at hp
  · rw [hx.int_inv]
    exact ⟨_, rfl, hp r H .refl hs _ .int⟩
  · exact hp.elim
end Dn

/-! Dn, C: comparisons, items, slices, displays, fields, built-ins. -/
namespace Dn
open PySem L2

/-! ### data as a whole -/
def mapO {α β : Type} (f : α → Option β) : List α → Option (List β)
  | [] => some []
  | d :: ds => match f d, mapO f ds with
    | some a, some as => some (a :: as)
    | _, _ => none
def tre (st : S) : Nat → D → Option PyData
  | 0, _ => none
  | _ + 1, .non => some .none
  | _ + 1, .bl b => some (.bool b)
  | _ + 1, .int i => some (.int i)
  | _ + 1, .str x => some (.str x)
  | f + 1, .tup l => (mapO (tre st f) l).map .tuple
  | _ + 1, .ty _ => none
  | f + 1, .ref n => match st[n]? with
    | some (.lst l) => (mapO (tre st f) l).map .list
    | some (.frz l) => (mapO (tre st f) l).map .list
    | _ => none
section
variable {K : Frag} {cl : Clm} {r : Rho} {st : S} {H : Hp}
theorem dps_of {f : D → Option PyData} (hf : ∀ d p v, f d = some p → RD K H r d v → Dp K H v p) : ∀ {l : List D} {ps : List PyData} {vs : List V}, mapO f l = some ps → RDs K H r l vs → DpAll K H vs ps
  | [], ps, vs, e, h => by
    have := h.nil_inv; subst this
    simp only [mapO, Option.some.injEq] at e; subst e
    exact .nil
  | d :: ds, ps, vs, e, h => by
    obtain ⟨v, w, rfl, h1, h2⟩ := h.cons_inv
    simp only [mapO] at e
    split at e
    · rename_i a as e1 e2
      cases e
      exact .cons (hf _ _ _ e1 h1) (dps_of hf e2 h2)
    · cases e
theorem dp_of (hs : RS K cl r st H) : ∀ (f : Nat) (d : D) (p : PyData) (v : V), tre st f d = some p → RD K H r d v → Dp K H v p
  | 0, _, _, _, e, _ => by simp [tre] at e
  | f + 1, .non, p, v, e, h => by simp only [tre, Option.some.injEq] at e; subst e; rw [h.non_inv]; exact .non
  | f + 1, .bl b, p, v, e, h => by simp only [tre, Option.some.injEq] at e; subst e; rw [h.bl_inv]; exact .bl _
  | f + 1, .int i, p, v, e, h => by simp only [tre, Option.some.injEq] at e; subst e; rw [h.int_inv]; exact .int _
  | f + 1, .str x, p, v, e, h => by simp only [tre, Option.some.injEq] at e; subst e; rw [h.str_inv]; exact .str _
  | f + 1, .ty n, p, v, e, h => by simp [tre] at e
  | f + 1, .tup l, p, v, e, h => by
    obtain ⟨a, xs, rfl, h1, h2⟩ := h.tup_inv
    simp only [tre, Option.map_eq_some_iff] at e
    obtain ⟨ps, e1, rfl⟩ := e
    exact .tup h1 (dps_of (fun d q w g1 g2 => dp_of hs f d q w g1 g2) e1 h2)
  | f + 1, .ref n, p, v, e, h => by
    obtain ⟨a, rfl, h1⟩ := h.ref_inv
    simp only [tre] at e
    split at e
    · rename_i l g
      obtain ⟨ps, e1, rfl⟩ := Option.map_eq_some_iff.mp e
      obtain ⟨xs, q1, q2⟩ := seq_at hs (.inl g) h1
      exact .lst q1 (dps_of (fun d q w g1 g2 => dp_of hs f d q w g1 g2) e1 q2)
    · rename_i l g
      obtain ⟨ps, e1, rfl⟩ := Option.map_eq_some_iff.mp e
      obtain ⟨xs, q1, q2⟩ := seq_at hs (.inr g) h1
      exact .lst q1 (dps_of (fun d q w g1 g2 => dp_of hs f d q w g1 g2) e1 q2)
    · cases e
end

/-! ### == and != -/
def dEq2 (g : Bool → Bool) : D → D → S → Out D
  | .int i, .int j, st => .ok (.bl (g (decide (i = j)))) st
  | .str a, .str b, st => .ok (.bl (g (decide (a = b)))) st
  | .bl a, .bl b, st => .ok (.bl (g (decide (a = b)))) st
  | x, y, st => match tre st 12 x, tre st 12 y with
    | some a, some b => if (SeqAt.shaped a && SeqAt.shaped b) = true then .ok (.bl (g (PyData.eqv a b))) st else .bad
    | _, _ => .bad
abbrev dEq := dEq2 id
abbrev dNe := dEq2 not
def pEq (K : Frag) : R2 := fun x y H Q => rEq x y H Q ∨ rEqD K x y H Q
def pNe (K : Frag) : R2 := fun x y H Q => rNe x y H Q ∨ rNeD K x y H Q
theorem or_eq {X : Cx} (hu : X.A.units + 64 < cLine) : OpR X (compareOp .Eq) (pEq X.K) := op_eq.or (op_eqD hu)
theorem or_ne {X : Cx} (hu : X.A.units + 64 < cLine) : OpR X (compareOp .NotEq) (pNe X.K) := op_ne.or (op_neD hu)
section
variable {K : Frag} {cl : Clm}
theorem op2_eq : Op2 K cl dEq (pEq K) := by
  intro r st H W x y v w Q hs hx hy hp
  unfold dEq dEq2 at hp
  split at hp
  · rw [hx.int_inv, hy.int_inv]
    refine .inl ⟨rfl, ?_⟩
    rw [dec_int, Bool.beq_eq_decide_eq]
    exact hp r H .refl hs _ .bl
  · rw [hx.str_inv, hy.str_inv]
    refine .inl ⟨rfl, ?_⟩
    rw [dec_str, Bool.beq_eq_decide_eq]
    exact hp r H .refl hs _ .bl
  · rw [hx.bl_inv, hy.bl_inv]
    refine .inl ⟨rfl, ?_⟩
    rw [dec_bl, Bool.beq_eq_decide_eq]
    exact hp r H .refl hs _ .bl
  · split at hp
    · rename_i a b e1 e2
      split at hp
      · rename_i hc
        rw [Bool.and_eq_true] at hc
        exact .inr ⟨a, b, dp_of hs _ _ _ _ e1 hx, dp_of hs _ _ _ _ e2 hy, hc.1, hc.2, hp r H .refl hs _ .bl⟩
      · exact hp.elim
    · exact hp.elim
theorem op2_ne : Op2 K cl dNe (pNe K) := by
  intro r st H W x y v w Q hs hx hy hp
  unfold dNe dEq2 at hp
  split at hp
  · rw [hx.int_inv, hy.int_inv]
    refine .inl ⟨rfl, ?_⟩
    rw [dec_int, Bool.beq_eq_decide_eq]
    exact hp r H .refl hs _ .bl
  · rw [hx.str_inv, hy.str_inv]
    refine .inl ⟨rfl, ?_⟩
    rw [dec_str, Bool.beq_eq_decide_eq]
    exact hp r H .refl hs _ .bl
  · rw [hx.bl_inv, hy.bl_inv]
    refine .inl ⟨rfl, ?_⟩
    rw [dec_bl, Bool.beq_eq_decide_eq]
    exact hp r H .refl hs _ .bl
  · split at hp
    · rename_i a b e1 e2
      split at hp
      · rename_i hc
        rw [Bool.and_eq_true] at hc
        exact .inr ⟨a, b, dp_of hs _ _ _ _ e1 hx, dp_of hs _ _ _ _ e2 hy, hc.1, hc.2, hp r H .refl hs _ .bl⟩
      · exact hp.elim
    · exact hp.elim
end

/-! ### order, is -/
def dI2 (g : Int → Int → Bool) : D → D → S → Out D
  | .int i, .int j, st => .ok (.bl (g i j)) st
  | _, _, _ => .bad
abbrev dLt := dI2 fun i j => decide (i < j)
abbrev dLe := dI2 fun i j => decide (i ≤ j)
abbrev dGt := dI2 fun i j => decide (j < i)
abbrev dGe := dI2 fun i j => decide (j ≤ i)
def isNonD : D → Bool
  | .non => true
  | _ => false
def objD (st : S) (n : Nat) : Bool := match st[n]? with
  | some (.lst _) => true
  | some (.ins _ _) => true
  | _ => false
def dIs2 (g : Bool → Bool) : D → D → S → Out D
  | x, .non, st => .ok (.bl (g (isNonD x))) st
  | .bl a, .bl b, st => .ok (.bl (g (decide (a = b)))) st
  | .ref n, .ref m, st => if (objD st n && objD st m) = true then .ok (.bl (g (decide (n = m)))) st else .bad
  | _, _, _ => .bad
abbrev dIs := dIs2 id
abbrev dIsNot := dIs2 not
section
variable {K : Frag} {cl : Clm}
theorem op2_i2 {g : Int → Int → Bool} : Op2 K cl (dI2 g) (rI0 fun i j => .bl (g i j)) := by
  intro r st H W x y v w Q hs hx hy hp
  unfold dI2 at hp
  split at hp
  · rw [hx.int_inv, hy.int_inv]
    exact ⟨_, _, rfl, rfl, hp r H .refl hs _ .bl⟩
  · exact hp.elim
theorem isNon_of {H : Hp} {r : Rho} {d : D} {v : V} (h : RD K H r d v) : decide (v = .non) = isNonD d := by
  cases d with
  | non => rw [h.non_inv]; rfl
  | bl b => rw [h.bl_inv]; rfl
  | int b => rw [h.int_inv]; rfl
  | str b => rw [h.str_inv]; rfl
  | tup l => obtain ⟨a, xs, rfl, _, _⟩ := h.tup_inv; rfl
  | ref l => obtain ⟨a, rfl, _⟩ := h.ref_inv; rfl
  | ty l => rw [h.ty_inv]; rfl
theorem obj_at {r : Rho} {st : S} {H : Hp} {n : Nat} {a : Addr} (hs : RS K cl r st H) (h : r n = some a) (e : objD st n = true) : ∃ oa o, H a = some oa ∧ isObj oa = true ∧ st[n]? = some o ∧ isFrz o = false := by
  unfold objD at e
  split at e
  · rename_i l g
    obtain ⟨xs, q1, _⟩ := lst_at hs g h
    exact ⟨_, _, q1, rfl, g, rfl⟩
  · rename_i c fs g
    obtain ⟨b, e1, C, dx, vs, _, e2, _⟩ := hs.at_ n _ g
    rw [h] at e1; cases e1
    exact ⟨_, _, e2, rfl, g, rfl⟩
  · cases e
theorem ref_eq {r : Rho} {st : S} {H : Hp} {n m : Nat} {a b : Addr} (hs : RS K cl r st H) (h : r n = some a) (h' : r m = some b) (e : (objD st n && objD st m) = true) : decide (a = b) = decide (n = m) := by
  rw [Bool.and_eq_true] at e
  obtain ⟨_, o1, _, _, g1, f1⟩ := obj_at hs h e.1
  obtain ⟨_, o2, _, _, g2, f2⟩ := obj_at hs h' e.2
  by_cases q : n = m
  · subst q; rw [h] at h'; cases h'; simp
  · have : a ≠ b := fun z => by subst z; exact q (hs.inj n m a (hs.ne0 g1 f1) (hs.ne0 g2 f2) h h')
    simp [q, this]
def pIs : R2 := fun x y H Q => (y = .non ∧ Q (.bl (decide (x = .non))) H) ∨ ∃ a b oa ob, x = .ref a ∧ y = .ref b ∧ H a = some oa ∧ isObj oa = true ∧ H b = some ob ∧ isObj ob = true ∧ Q (.bl (decide (a = b))) H
def pIsZ : R2 := fun x y H Q => pIs x y H Q ∨ rIsB x y H Q
def pIsNot : R2 := fun x y H Q => (y = .non ∧ Q (.bl (!decide (x = .non))) H) ∨ ∃ a b oa ob, x = .ref a ∧ y = .ref b ∧ H a = some oa ∧ isObj oa = true ∧ H b = some ob ∧ isObj ob = true ∧ Q (.bl (!decide (a = b))) H
def pIsNotZ : R2 := fun x y H Q => pIsNot x y H Q ∨ rNotB x y H Q
theorem or_is {X : Cx} : OpR X (compareOp .Is) pIsZ := (op_isN.or op_is_ref).or op_isBl
theorem or_isnot {X : Cx} : OpR X (compareOp .IsNot) pIsNotZ := (op_notN.or op_isnot_ref).or op_notBl
theorem op2_is : Op2 K cl dIs pIsZ := by
  intro r st H W x y v w Q hs hx hy hp
  unfold dIs dIs2 at hp
  split at hp
  · exact .inl (.inl ⟨hy.non_inv, by rw [isNon_of hx]; exact hp r H .refl hs _ .bl⟩)
  · rw [hx.bl_inv, hy.bl_inv]
    exact .inr ⟨_, _, rfl, rfl, hp r H .refl hs _ .bl⟩
  · obtain ⟨a, rfl, h1⟩ := hx.ref_inv
    obtain ⟨b, rfl, h2⟩ := hy.ref_inv
    split at hp
    · rename_i hc
      have hc' := hc
      rw [Bool.and_eq_true] at hc'
      obtain ⟨oa, _, q1, q2, _, _⟩ := obj_at hs h1 hc'.1
      obtain ⟨ob, _, q3, q4, _, _⟩ := obj_at hs h2 hc'.2
      exact .inl (.inr ⟨a, b, oa, ob, rfl, rfl, q1, q2, q3, q4, by rw [ref_eq hs h1 h2 hc]; exact hp r H .refl hs _ .bl⟩)
    · exact hp.elim
  · exact hp.elim
theorem op2_isnot : Op2 K cl dIsNot pIsNotZ := by
  intro r st H W x y v w Q hs hx hy hp
  unfold dIsNot dIs2 at hp
  split at hp
  · exact .inl (.inl ⟨hy.non_inv, by rw [isNon_of hx]; exact hp r H .refl hs _ .bl⟩)
  · rw [hx.bl_inv, hy.bl_inv]
    exact .inr ⟨_, _, rfl, rfl, hp r H .refl hs _ .bl⟩
  · obtain ⟨a, rfl, h1⟩ := hx.ref_inv
    obtain ⟨b, rfl, h2⟩ := hy.ref_inv
    split at hp
    · rename_i hc
      have hc' := hc
      rw [Bool.and_eq_true] at hc'
      obtain ⟨oa, _, q1, q2, _, _⟩ := obj_at hs h1 hc'.1
      obtain ⟨ob, _, q3, q4, _, _⟩ := obj_at hs h2 hc'.2
      exact .inl (.inr ⟨a, b, oa, ob, rfl, rfl, q1, q2, q3, q4, by rw [ref_eq hs h1 h2 hc]; exact hp r H .refl hs _ .bl⟩)
    · exact hp.elim
  · exact hp.elim
end

/-! ### in -/
def flatD : D → Bool
  | .non => true
  | .bl _ => true
  | .int _ => true
  | .str _ => true
  | _ => false
def eqD : D → D → Bool
  | .non, .non => true
  | .bl a, .bl b => a == b
  | .bl a, .int b => (if a then 1 else 0) == b
  | .int a, .bl b => a == (if b then 1 else 0)
  | .int a, .int b => a == b
  | .str a, .str b => a == b
  | _, _ => false
def inD (x : D) (xs : List D) : Bool := xs.any fun y => eqD y x
def dIn2 (g : Bool → Bool) : D → D → S → Out D
  | .str a, .str b, st => .ok (.bl (g (!(Builtin.Str.occurrences b a 0 b.length 1).isEmpty))) st
  | x, .tup l, st => if (flatD x && l.all flatD) = true then .ok (.bl (g (inD x l))) st else .bad
  | x, .ref n, st => match st[n]? with
    | some (.lst l) => if (flatD x && l.all flatD) = true then .ok (.bl (g (inD x l))) st else match tre st 12 x, mapO (tre st 11) l with
      | some d, some ds => if (SeqAt.shaped d && SeqAt.shaped (.list ds)) = true then .ok (.bl (g (ds.any fun z => PyData.eqv z d))) st else .bad
      | _, _ => .bad
    | _ => .bad
  | _, _, _ => .bad
abbrev dIn := dIn2 id
abbrev dNotIn := dIn2 not
section
variable {K : Frag} {cl : Clm} {H : Hp} {r : Rho}
theorem flat_of {d : D} {v : V} (h : RD K H r d v) (f : flatD d = true) : flatV v = true := by
  cases d with
  | non => rw [h.non_inv]; rfl
  | bl b => rw [h.bl_inv]; rfl
  | int b => rw [h.int_inv]; rfl
  | str b => rw [h.str_inv]; rfl
  | tup l => cases f
  | ref l => cases f
  | ty l => cases f
theorem eqV_of {d e : D} {v w : V} (h : RD K H r d v) (h' : RD K H r e w) (f : flatD d = true) (f' : flatD e = true) : eqV v w = eqD d e := by
  cases d <;> first | (cases f; done) | skip
  all_goals (cases e <;> first | (cases f'; done) | skip)
  all_goals (first | rw [h.non_inv] | rw [h.bl_inv] | rw [h.int_inv] | rw [h.str_inv])
  all_goals (first | rw [h'.non_inv] | rw [h'.bl_inv] | rw [h'.int_inv] | rw [h'.str_inv])
  all_goals rfl
theorem flats_of : ∀ {l : List D} {vs : List V}, RDs K H r l vs → l.all flatD = true → vs.all flatV = true
  | [], _, h, _ => by rw [h.nil_inv]; rfl
  | d :: ds, _, h, f => by
    obtain ⟨v, w, rfl, h1, h2⟩ := h.cons_inv
    rw [List.all_cons, Bool.and_eq_true] at f ⊢
    exact ⟨flat_of h1 f.1, flats_of h2 f.2⟩
theorem inV_of {x : D} {v : V} (hx : RD K H r x v) (fx : flatD x = true) : ∀ {l : List D} {vs : List V}, RDs K H r l vs → l.all flatD = true → inV v vs = inD x l
  | [], _, h, _ => by rw [h.nil_inv]; rfl
  | d :: ds, _, h, f => by
    obtain ⟨u, w, rfl, h1, h2⟩ := h.cons_inv
    rw [List.all_cons, Bool.and_eq_true] at f
    unfold inV inD
    rw [List.any_cons, List.any_cons, eqV_of h1 hx f.1 fx]
    congr 1
    exact inV_of hx fx h2 f.2
def pIn (K : Frag) : R2 := fun x y H Q => (∃ i j, x = .str i ∧ y = .str j ∧ Q (.bl (!(Builtin.Str.occurrences j i 0 j.length 1).isEmpty)) H) ∨ rIn K false x y H Q ∨ rInD K x y H Q
def pNotIn (K : Frag) : R2 := fun x y H Q => (∃ i j, x = .str i ∧ y = .str j ∧ Q (.bl (!(!(Builtin.Str.occurrences j i 0 j.length 1).isEmpty))) H) ∨ rIn K true x y H Q ∨ rNotInD K x y H Q
theorem or_in {X : Cx} (hu : X.A.units + 65 < cLine) : OpR X (compareOp .In) (pIn X.K) := op_in_str.or (op_in_seq.or (op_inD hu))
theorem or_notin {X : Cx} (hu : X.A.units + 65 < cLine) : OpR X (compareOp .NotIn) (pNotIn X.K) := L2.op_notin_str.or (op_notIn_seq.or (op_notInD hu))
theorem op2_in : Op2 K cl dIn (pIn K) := by
  intro r st H W x y v w Q hs hx hy hp
  unfold dIn dIn2 at hp
  split at hp
  · rw [hx.str_inv, hy.str_inv]
    exact .inl ⟨_, _, rfl, rfl, hp r H .refl hs _ .bl⟩
  · obtain ⟨a, xs, rfl, h1, h2⟩ := hy.tup_inv
    split at hp
    · rename_i hc
      rw [Bool.and_eq_true] at hc
      refine .inr (.inl ⟨a, xs, rfl, .inr h1, flat_of hx hc.1, flats_of h2 hc.2, ?_⟩)
      rw [inV_of hx hc.1 h2 hc.2]
      exact hp r H .refl hs _ .bl
    · exact hp.elim
  · obtain ⟨a, rfl, h1⟩ := hy.ref_inv
    split at hp
    · rename_i l g
      obtain ⟨xs, q1, q2⟩ := lst_at hs g h1
      split at hp
      · rename_i hc
        rw [Bool.and_eq_true] at hc
        refine .inr (.inl ⟨a, xs, rfl, .inl (.of q1), flat_of hx hc.1, flats_of q2 hc.2, ?_⟩)
        rw [inV_of hx hc.1 q2 hc.2]
        exact hp r H .refl hs _ .bl
      · split at hp
        · rename_i d ds e1 e2
          split at hp
          · rename_i hc
            rw [Bool.and_eq_true] at hc
            exact .inr (.inr ⟨d, ds, dp_of hs _ _ _ _ e1 hx, .lst (.of q1) (dps_of (fun d q w g1 g2 => dp_of hs 11 d q w g1 g2) e2 q2), hc.1, hc.2, hp r H .refl hs _ .bl⟩)
          · exact hp.elim
        · exact hp.elim
    · exact hp.elim
  · exact hp.elim
theorem op2_notin : Op2 K cl dNotIn (pNotIn K) := by
  intro r st H W x y v w Q hs hx hy hp
  unfold dNotIn dIn2 at hp
  split at hp
  · rw [hx.str_inv, hy.str_inv]
    exact .inl ⟨_, _, rfl, rfl, hp r H .refl hs _ .bl⟩
  · obtain ⟨a, xs, rfl, h1, h2⟩ := hy.tup_inv
    split at hp
    · rename_i hc
      rw [Bool.and_eq_true] at hc
      refine .inr (.inl ⟨a, xs, rfl, .inr h1, flat_of hx hc.1, flats_of h2 hc.2, ?_⟩)
      rw [inV_of hx hc.1 h2 hc.2]
      exact hp r H .refl hs _ .bl
    · exact hp.elim
  · obtain ⟨a, rfl, h1⟩ := hy.ref_inv
    split at hp
    · rename_i l g
      obtain ⟨xs, q1, q2⟩ := lst_at hs g h1
      split at hp
      · rename_i hc
        rw [Bool.and_eq_true] at hc
        refine .inr (.inl ⟨a, xs, rfl, .inl (.of q1), flat_of hx hc.1, flats_of q2 hc.2, ?_⟩)
        rw [inV_of hx hc.1 q2 hc.2]
        exact hp r H .refl hs _ .bl
      · split at hp
        · rename_i d ds e1 e2
          split at hp
          · rename_i hc
            rw [Bool.and_eq_true] at hc
            exact .inr (.inr ⟨d, ds, dp_of hs _ _ _ _ e1 hx, .lst (.of q1) (dps_of (fun d q w g1 g2 => dp_of hs 11 d q w g1 g2) e2 q2), hc.1, hc.2, hp r H .refl hs _ .bl⟩)
          · exact hp.elim
        · exact hp.elim
    · exact hp.elim
  · exact hp.elim
end

/-! ### items, slices -/
def seqD (st : S) : D → Option (List D)
  | .tup l => some l
  | .ref n => match st[n]? with
    | some (.lst l) => some l
    | some (.frz l) => some l
    | _ => none
  | _ => none
def dIx : D → D → S → Out D
  | .str z, .int i, st => if z.length ≤ sizeLine then match atI z.cps.toList i with
      | some c => .ok (.str ⟨#[c]⟩) st
      | none => .bad
    else .bad
  | x, .int i, st => match seqD st x with
    | some l => match atI l i with
      | some d => .ok d st
      | none => .bad
    | none => .bad
  | _, _, _ => .bad
section
variable {K : Frag} {cl : Clm} {H : Hp} {r : Rho} {st : S}
theorem seqD_of {d : D} {v : V} {l : List D} (hs : RS K cl r st H) (h : RD K H r d v) (e : seqD st d = some l) : ∃ a xs, v = .ref a ∧ RDs K H r l xs ∧ ((∃ n, d = .ref n ∧ SqL K H a xs) ∨ (∃ l', d = .tup l' ∧ SqT K H a xs)) := by
  unfold seqD at e
  split at e
  · cases e
    obtain ⟨a, xs, rfl, h1, h2⟩ := h.tup_inv
    exact ⟨a, xs, rfl, h2, .inr ⟨_, rfl, h1⟩⟩
  · obtain ⟨a, rfl, h1⟩ := h.ref_inv
    split at e
    · rename_i g
      cases e
      obtain ⟨xs, q1, q2⟩ := seq_at hs (.inl g) h1
      exact ⟨a, xs, rfl, q2, .inl ⟨_, rfl, q1⟩⟩
    · rename_i g
      cases e
      obtain ⟨xs, q1, q2⟩ := seq_at hs (.inr g) h1
      exact ⟨a, xs, rfl, q2, .inl ⟨_, rfl, q1⟩⟩
    · cases e
  · cases e
theorem atI_of {l : List D} {xs : List V} {i : Int} {d : D} (h : RDs K H r l xs) (e : atI l i = some d) : ∃ v, atI xs i = some v ∧ RD K H r d v := by
  unfold atI at e ⊢
  rw [← h.length]
  cases q : ixN l.length i with
  | none => rw [q] at e; cases e
  | some j =>
    rw [q] at e
    exact h.get e
theorem op2_ix : Op2 K cl dIx (rIx K) := by
  intro r st H W x y v w Q hs hx hy hp
  unfold dIx at hp
  split at hp
  · rw [hx.str_inv, hy.int_inv]
    split at hp
    · rename_i hz
      split at hp
      · rename_i c e
        exact .inr (.inr ⟨_, _, c, rfl, rfl, hz, e, hp r H .refl hs _ .str⟩)
      · exact hp.elim
    · exact hp.elim
  · rw [hy.int_inv]
    split at hp
    · rename_i l e
      split at hp
      · rename_i d e2
        obtain ⟨a, xs, rfl, h1, h2⟩ := seqD_of hs hx e
        obtain ⟨z, q1, q2⟩ := atI_of h1 e2
        rcases h2 with ⟨_, _, h2⟩ | ⟨_, _, h2⟩
        · exact .inl ⟨a, xs, _, z, rfl, rfl, h2, q1, hp r H .refl hs _ q2⟩
        · exact .inr (.inl ⟨a, xs, _, z, rfl, rfl, h2, q1, hp r H .refl hs _ q2⟩)
      · exact hp.elim
    · exact hp.elim
  · exact hp.elim
end
/-- a part of a slice -/
abbrev OM := En → S → Out (Option Int)
def dNoP : OM := fun _ st => .ok none st
def dP (m : EM) : OM := fun en st => (m en st).bind fun x st1 => match x with
  | .int i => .ok (some i) st1
  | _ => .bad
def tO (K : Frag) (cl : Clm) (W : WX) (m : OM) : TO := fun s H Q => ∃ r en st, RE K H r en s ∧ RS K cl r st H ∧ Po K cl r H W (m en st) fun r' H' b _ => Q b H'
structure SO (X : Cx) (cl : Clm) (W : WX) (e : Option Expr) (m : OM) : Prop where
  po : PO X e (tO X.K cl W m)
def cutD (xs : List D) (lo hi : Option Int) : List D := (xs.drop (HT.sIx xs.length 0 lo)).take (HT.sIx xs.length xs.length hi - HT.sIx xs.length 0 lo)
def dSl (ma : EM) (ml mh : OM) : EM := fun en st => (ma en st).bind fun x st1 => (ml en st1).bind fun lo st2 => (mh en st2).bind fun hi st3 => match x with
  | .tup l => .ok (.tup (cutD l lo hi)) st3
  | .ref n => match st3[n]? with
    | some (.lst l) => .ok (.ref st3.length) (st3 ++ [.lst (cutD l lo hi)])
    | some (.frz l) => .ok (.ref st3.length) (st3 ++ [.lst (cutD l lo hi)])
    | _ => .bad
  | .str z => if z.length ≤ sizeLine then .ok (.str (cutS z lo hi)) st3 else .bad
  | _ => .bad
def pSl (K : Frag) : V → Option Int → Option Int → Hp → VK → Prop := fun x lo hi H Q => rSlL K x lo hi H Q ∨ rSlA K x lo hi H Q ∨ rSlS x lo hi H Q
section
variable {X : Cx} {cl : Clm} {W : WX} {e : Expr} {lo hi : Option Expr} {pos p2 : Pos} {ma m : EM} {ml mh : OM}
theorem sl_any : SlR X (pSl X.K) := sl_list.or (sl_tupA.or sl_str)
theorem so_none : SO X cl W none dNoP := ⟨⟨fun pins s σ H Q I w => po_none.run pins s σ H Q I (by obtain ⟨r, en, st, he, hs, hp⟩ := w; exact hp r H .refl hs)⟩⟩
theorem so_some (h : SE X cl W e m) : SO X cl W (some e) (dP m) := ⟨⟨fun pins s σ H Q I w => (po_some h.pe).run pins s σ H Q I (by
  obtain ⟨r, en, st, he, hs, hp⟩ := w
  refine ⟨r, en, st, he, hs, (Po.bind hp).mono fun r1 H1 d st1 x1 s1 h1 v q => ?_⟩
  cases d with
  | int i => exact ⟨i, q.int_inv, h1 r1 H1 .refl s1⟩
  | _ => exact h1.elim)⟩⟩
theorem rds_cut {K : Frag} {H : Hp} {r : Rho} {l : List D} {xs : List V} {lo hi : Option Int} (h : RDs K H r l xs) : RDs K H r (cutD l lo hi) (cutV xs lo hi) := by
  unfold cutD cutV
  rw [h.length]
  exact (h.drop _).take _
theorem cutD_whole {l : List D} {lo hi : Option Int} (h : HT.sIx l.length 0 lo = 0 ∧ HT.sIx l.length l.length hi = l.length) : cutD l lo hi = l := by
  unfold cutD
  rw [h.1, h.2]
  simp
theorem se_sl (he : SE X cl W e ma) (hl : SO X cl W lo ml) (hh : SO X cl W hi mh) : SE X cl W (.Subscript e (.Slice lo hi none p2) pos) (dSl ma ml mh) :=
  ⟨pe_of (pe_slice sl_any he.pe hl.po hh.po) fun s H Q ⟨r, en, st, he, hs, hp⟩ => ⟨r, en, st, he, hs, (Po.bind hp).mono fun r1 H1 d st1 x1 s1 h1 v q =>
    ⟨r1, en, st1, he.mono x1.mn, s1, (Po.bind h1).mono fun r2 H2 lo st2 x2 s2 h2 => ⟨r2, en, st2, he.mono (x1.trans x2).mn, s2, (Po.bind h2).mono fun r3 H3 hi st3 x3 s3 h3 => by
      have q3 := q.mono (x2.trans x3).mn
      cases d with
      | tup l =>
        obtain ⟨a, xs, rfl, g1, g2⟩ := q3.tup_inv
        refine .inr (.inl ⟨a, xs, rfl, g1, fun hw => ?_, fun hw => new_tup s3 (rds_cut g2) h3⟩)
        rw [← g2.length] at hw
        refine h3 r3 H3 .refl s3 _ ?_
        rw [cutD_whole hw]
        exact .tup g1 g2
      | ref n =>
        obtain ⟨a, rfl, g1⟩ := q3.ref_inv
        simp only at h3
        split at h3
        · rename_i l g
          obtain ⟨xs, y1, y2⟩ := seq_at s3 (.inl g) g1
          exact .inl ⟨a, xs, rfl, y1, new_lst s3 (rds_cut y2) h3⟩
        · rename_i l g
          obtain ⟨xs, y1, y2⟩ := seq_at s3 (.inr g) g1
          exact .inl ⟨a, xs, rfl, y1, new_lst s3 (rds_cut y2) h3⟩
        · exact h3.elim
      | str z =>
        rw [q3.str_inv]
        simp only at h3
        split at h3
        · rename_i hz
          exact .inr (.inr ⟨z, rfl, hz, h3 r3 H3 .refl s3 _ .str⟩)
        · exact h3.elim
      | _ => exact h3.elim⟩⟩⟩⟩
end

/-! ### displays -/
def dTup (m : AM) : EM := fun en st => (m en st).bind fun xs st1 => if xs.length ≤ sizeLine then .ok (.tup xs) st1 else .bad
def dLst (m : AM) : EM := fun en st => (m en st).bind fun xs st1 => if xs.length ≤ sizeLine then .ok (.ref st1.length) (st1 ++ [.lst xs]) else .bad
section
variable {X : Cx} {cl : Clm} {W : WX} {es : List Expr} {pos : Pos} {m : AM}
theorem se_tup {x1} (h : SA X cl W es m) : SE X cl W (.Tuple es x1 pos) (dTup m) := ⟨pe_of (pe_tup h.pa) fun s H Q ⟨r, en, st, he, hs, hp⟩ => ⟨r, en, st, he, hs, (Po.bind hp).mono fun r1 H1 ds st1 x1 s1 h1 vs q => by
  split at h1
  · rename_i hz
    exact ⟨by rw [← q.length]; exact hz, new_tup s1 q h1⟩
  · exact h1.elim⟩⟩
theorem se_lst (h : SA X cl W es m) : SE X cl W (.List es pos) (dLst m) := ⟨pe_of (pe_lst h.pa) fun s H Q ⟨r, en, st, he, hs, hp⟩ => ⟨r, en, st, he, hs, (Po.bind hp).mono fun r1 H1 ds st1 x1 s1 h1 vs q => by
  split at h1
  · rename_i hz
    exact ⟨by rw [← q.length]; exact hz, new_lst s1 q h1⟩
  · exact h1.elim⟩⟩
end
end Dn

/-! Dn, D0: what leaves a list comprehension: its list, or an exception of a callee. -/
namespace Dn
open PySem PySem.Spec PyProof.Rows L2

/-- what a callee lets out is taken -/
def TkC (X : Cx) (W : WX) : Prop := ∀ σ, PassesAt (L2N.CX X.prog X.w) X σ (WE W σ)
theorem tkc {X : Cx} {W : WX} (tk : L2N.Takes X W) : TkC X W := fun σ => L2N.passAt tk σ
theorem tkc0 {X : Cx} : TkC X (fun _ _ _ _ => False) := fun σ pins H s e s' I c => by
  obtain ⟨_, _, _, _, _, _, _, _, _, _, _, _, z⟩ := c
  exact z.elim

theorem noteFrame_eq {e1 e2 : Env} (h : e1.frame = e2.frame) (x : Value) : noteFrame x e1 = noteFrame x e2 := by
  unfold noteFrame PySem.frameOf
  rw [h]

/-! ### behind the block -/
/-- the names at C are let go: what is so then -/
abbrev Gone (C : Addr) (s : Shared) (P : Shared → Prop) : Prop := (∃ m, s.heap.Ns C m) ∧ ∀ h, Heap.SameBut C s.heap h → P { s with heap := h }
/-- how a block ends, and what is wanted then: a value (handed to use, where there is one), an exception, which is passed on from the frame f -/
def BlkEnd (M : Model) (A : Around) (E : Value → Shared → Prop) (use : Option (Value → Sem Unit)) (Q : Value → Shared → Prop) (acc : Value) (ce : Env) : Result → Shared → Prop
  | .error x, s => Gone ce.locals s fun s1 => ∀ env : Env, env.frame = ce.frame → wpAny M A (PySem.passOn "comprehension.variables-let-go" x env : Sem Value) (fun _ _ => False) E s1
  | .ok _, s => match use with
    | none => Gone ce.locals s (Q acc)
    | some u => wpAny M A (u acc) (fun _ s1 => Gone ce.locals s1 (Q .none)) E s
section
variable {M : Model} {A : Around} {E : Value → Shared → Prop} {s : Shared} {env : Env}
theorem comp_eval {e : Expr} {scope : Scope} {pos : Pos} {newAcc first : Sem Value} {g : Comprehension} {gs : List Comprehension} {cl : List (Str × Addr)} {use : Option (Value → Sem Unit)} {Q : Value → Shared → Prop}
    (hg : clausesOf e = g :: gs) (hfold : ∀ x, foldedSetIterable g.iter env x = pure x) (hclo : closureFor scope env = pure cl) (hfn : scope.kind = .function) (hloc : ∀ x ∈ scope.names, x.2 = .local → scope.names.lookup x.1 = some .local)
    (h : wpAny M A first (fun x s1 => wpAny M A (pyIter x) (fun it s2 => wpAny M A newAcc (fun acc s3 => wpAny M A (newFunctionEnv scope env.globals cl [] env.qual none .none (some env)) (fun ce s4 =>
      codeAny M A (.compStart e 0 it acc { ce with scope := relabel scope env }) (BlkEnd M A E use Q acc ce) s4) E s3) E s2) E s1) E s) :
    wpAny M A (comprehension e scope env pos newAcc false first use) Q E s := by
  have same : ∀ {α : Type} {t : Sem α} {P P' : α → Shared → Prop} {s0 : Shared}, wpAny M A t P E s0 → (∀ a s1, P a s1 → P' a s1) → wpAny M A t P' E s0 := fun a b => wpAny_mono a b fun _ _ z => z
  unfold comprehension
  rw [hclo, hg]
  apply wpAny_bind
  apply same h
  intro x s1 h1
  apply wpAny_bind; apply wpAny_standAt
  apply wpAny_bind; apply wpAny_of_eq (hfold x)
  apply wpAny_bind; apply wpAny_holding
  apply same h1
  intro it s2 h2
  apply wpAny_standIf
  apply wpAny_bind
  apply same h2
  intro acc s3 h3
  apply wpAny_bind; apply wpAny_pure
  apply wpAny_bind
  apply same h3
  intro ce s4 h4
  have known : ∀ l : List (Str × NameKind), (∀ x ∈ l, x ∈ scope.names) → ∀ x ∈ l, x.2 = .local → Env.kindOf { ce with scope := relabel scope env } x.1 = some .local := fun l hl x hx e => lookup_relabel_local (hloc x (hl x hx) e)
  have inN : ∀ x ∈ (scope.names.filter fun x => (x.2 == .local || x.2 == .cell) && x.1 != (".0" : Str)).reverse, x ∈ scope.names := fun x hx => (List.mem_filter.mp (List.mem_reverse.mp hx)).1
  dsimp only
  apply wpAny_holding
  apply wpAny_bind; apply wpAny_attempt; apply wpAny_holding
  refine wpAny_run (codeAny_mono h4 fun r s5 hr => ?_)
  match r, use, hr with
  | .error x, u, hr =>
    have hr : Gone ce.locals s5 fun s6 => ∀ env' : Env, env'.frame = ce.frame → wpAny M A (PySem.passOn "comprehension.variables-let-go" x env' : Sem Value) (fun _ _ => False) E s6 := hr
    obtain ⟨⟨m, hn⟩, hr⟩ := hr
    apply wpAny_bind; apply wpAny_holding
    exact wpAny_comp_letGo (cenv := { ce with scope := relabel scope env }) hfn _ s5 m (known _ inN) hn fun h6 _ _ sb => wpAny_mono (hr h6 sb _ rfl) (fun _ _ z => z.elim) fun _ _ z => z
  | .ok f, none, hr =>
    have hr : Gone ce.locals s5 (Q acc) := hr
    obtain ⟨⟨m, hn⟩, hr⟩ := hr
    apply wpAny_bind; apply wpAny_holding
    exact wpAny_comp_letGo (cenv := { ce with scope := relabel scope env }) hfn _ s5 m (known _ inN) hn fun h6 _ _ sb => wpAny_pure (hr h6 sb)
  | .ok f, some u, hr =>
    have hr : wpAny M A (u acc) (fun _ s6 => Gone ce.locals s6 (Q .none)) E s5 := hr
    apply wpAny_bind; apply wpAny_rule
    apply wpAny_bind; apply wpAny_holding
    apply same hr
    intro _ s6 q
    obtain ⟨⟨m, hn⟩, q⟩ := q
    apply wpAny_bind
    refine wpAny_comp_letGo (cenv := { ce with scope := relabel scope env }) hfn _ s6 m (known _ fun x hx => ?_) hn fun h7 _ _ sb => wpAny_pure (q h7 sb)
    rcases List.mem_append.mp hx with z | z
    · exact inN x (List.mem_of_mem_drop z)
    · exact inN x (List.mem_of_mem_take z)
end

/-! ### a callee's exception at the block's slots -/
/-- in flight over X's frames, S the state without it -/
structure Air (X : Cx) (a : Addr) (B : Heap) (S : Shared) (cls : Value) (d : Option Addr) (H : Hp) (s : Shared) : Prop where
  fl : HandSPX.FlyingZ B X.stack a (L2N.Zn cls d) s.heap
  gr : ∀ b o, b ∉ frs X.stack → S.heap.get? b = some o → B.get? b = some o
  up : S.heap.UpToSlots s.heap
  na : H a = none
  os : s.os = S.os
  ag : AllBare s.gens
theorem air_of {X : Cx} {pins : List (Addr × Obj)} {σ : L2.St} {H : Hp} {s s1 : Shared} {E : XK} {u : Value} (I : Inv X pins σ H s) (c : L2N.CX X.prog X.w X.stack H s E u s1) :
    ∃ a B S cls d H1, u = .ref a ∧ Inv X pins σ H1 S ∧ Air X a B S cls d H1 s1 ∧ E cls d H1 := by
  obtain ⟨a, B, H1, cls, d, eu, fl, held, kept, na, os, ag, hE⟩ := c
  -- the ground and the frames, as they stand behind the call
  obtain ⟨G, inG, notG⟩ := restrict s1.heap fun b => decide (b ∈ frs X.stack) || (B.get? b).isSome
  have stays : B.StaysIn s1.heap := fl.1
  have fromB : ∀ {b o}, B.get? b = some o → G.get? b = some o := fun {b o} e => (inG b (by rw [e]; simp)).trans (stays b o e)
  have fromF : ∀ {b}, b ∈ frs X.stack → G.get? b = s1.heap.get? b := fun {b} hb => inG b (by simp [hb])
  have ofG : ∀ b o, G.get? b = some o → s1.heap.get? b = some o ∧ (b ∈ frs X.stack ∨ ∃ o', B.get? b = some o') := fun b o e => by
    by_cases hb : b ∈ frs X.stack
    · exact ⟨(fromF hb).symm.trans e, .inl hb⟩
    · cases q : B.get? b with
      | some o' =>
        have z := fromB q
        rw [e] at z
        exact ⟨by rw [Option.some.inj z]; exact stays b o' q, .inr ⟨o', rfl⟩⟩
      | none => exact absurd ((notG b (by simp [hb, q])).symm.trans e) fun z => nomatch z
  refine ⟨a, B, { s with heap := G, gens := s1.gens, drawn := s1.drawn, toks := s1.toks }, cls, d, H1, eu, ?_, ⟨fl, fun b o hb e => ?_, fun b o e _ => ⟨o.slots, (ofG b o e).1⟩, na, os, ag⟩, hE⟩
  · refine I.call (ch := []) ⟨fun b o e n hb _ => fromB (kept.keep b o e n hb), fun b o e _ hb _ => ?_, fun b o e n _ => kept.free b o e n, fun b o e _ => ?_, kept.tups, kept.frzs, kept.tbls⟩ (held.kept fun _ _ => fromB) ag fun _ z => nomatch z
    · rw [fromF hb]
      exact kept.slot b o e hb
    · by_cases hb : b ∈ frs X.stack
      · rw [fromF hb]
        obtain ⟨sl, q⟩ := kept.slot b o e hb
        exact ⟨_, q⟩
      · obtain ⟨o', q⟩ := kept.there b o e hb
        exact ⟨o', fromB q⟩
  · obtain ⟨e1, z⟩ := ofG b o e
    rcases z with z | ⟨o', z⟩
    · exact absurd z hb
    · have q := fromB z
      rw [show G.get? b = some o from e] at q
      rw [Option.some.inj q]
      exact z

theorem funFrames_put {B B2 h1 h2 : Heap} {C : Addr} : ∀ {l : List Env}, h1.FunFrames B l → (∀ b o, h1.get? b = some o → b ≠ C → h2.get? b = some o) → (∀ b ∈ frs l, b ≠ C) → (∀ b, B.get? b = none → B2.get? b = none) → h2.FunFrames B2 l
  | [], _, _, _, _ => trivial
  | env :: l, h, k, hn, hb => by
    obtain ⟨hk, ⟨L, o, hf, hN, ho, hd⟩, hr⟩ := h
    exact ⟨hk, ⟨L, o, hf, hb L hN, k L o ho (hn L (List.mem_filterMap.mpr ⟨env, List.mem_cons_self, hf⟩)), hd⟩, funFrames_put hr k (fun b hm => hn b (by
      let ⟨env', m1, m2⟩ := List.mem_filterMap.mp hm
      exact List.mem_filterMap.mpr ⟨env', List.mem_cons_of_mem _ m1, m2⟩)) hb⟩
section
variable {X : Cx} {pins : List (Addr × Obj)} {σ : L2.St} {H : Hp} {sI s1 : Shared} {B : Heap} {W : WX} {a C : Addr} {cls : Value} {d : Option Addr}
/-- it passes through the frame's comprehension: noted, the block's names let go, passed on -/
theorem pass_comp {ce : Env} {what : String} {E0 : Value → Shared → Prop} (hs : X.stack = X.env :: X.outer) (hf : X.env.frame = some X.env.locals) (tk : L2N.Takes X W) (I : Inv X pins σ H sI)
    (air : Air X a B sI cls d H s1) (w : W cls d σ H) (fC : FpOk X pins H C) {m : Str → Option Value} (hC : sI.heap.Ns C m) (hce : ce.frame = X.env.frame) :
    wpAny (model X.prog X.w) X.A (noteFrame (.ref a) ce) (fun _ s2 => (∃ m, s2.heap.Ns C m) ∧ ∀ h', Heap.SameBut C s2.heap h' → ∀ cenv : Env, cenv.frame = X.env.frame →
      wpAny (model X.prog X.w) X.A (passOn what (.ref a) cenv : Sem Value) (fun _ _ => False) X.xe { s2 with heap := h' }) E0 s1 := by
  obtain ⟨fl, nb', up, na, os, ag⟩ := air
  have nb : ∀ b o, sI.heap.get? b = some o → b ∉ frs X.stack → B.get? b = some o := fun b o e hb => nb' b o hb e
  obtain ⟨f0, f1, f2, f3, f4, f5⟩ := fC
  have nF : C ∉ frs X.stack := fun z => by
    rcases List.mem_cons.mp (I.stkSub C z) with e | e
    · exact f1 e
    · exact f2 e
  have run : X.A.frames = some (X.env :: X.outer) := I.ok.frames.trans (congrArg some hs)
  obtain ⟨oC, es, ep, hoC, hdC, rC⟩ := id hC
  have bC : B.get? C = some oC := nb C oC hoC nF
  rw [noteFrame_eq hce]
  refine PXN.looks_onZ L2N.Zn.steady run hf (by rw [← hs]; exact fl) fun h1 hh1 up1 => ?_
  have c1 : h1.get? C = some oC := hh1.1 C oC bC
  refine ⟨⟨m, oC, es, ep, c1, hdC, rC⟩, fun h2 sb cenv hcf => ?_⟩
  obtain ⟨st1, hn1, ff1, oe, vs, T, oT, ts, he, hz, hd, hv1, hnT, hTe, hT, hdT, h3⟩ := hh1
  have aC : a ≠ C := fun z => by
    rw [z, c1] at he
    cases he
    rw [hdC] at hd
    cases hd
  have TC : T ≠ C := fun z => by
    rw [z, c1] at hT
    cases hT
    rw [hdC] at hdT
    cases hdT
  have k2 : ∀ b o, b ≠ C → h1.get? b = some o → h2.get? b = some o := fun b o hb e => (sb.2 b hb).trans e
  -- the ground with the block's names as they stand now
  obtain ⟨B2, b1, b2⟩ := restrict h2 fun b => (B.get? b).isSome
  obtain ⟨G2, g1, g2⟩ := restrict h2 fun b => (sI.heap.get? b).isSome
  have B2s : B2.StaysIn h2 := fun b o e => by
    cases q : (B.get? b).isSome with
    | false => rw [b2 b q] at e; cases e
    | true => rw [b1 b q] at e; exact e
  have B2n : ∀ b, B.get? b = none → B2.get? b = none := fun b e => b2 b (by rw [e]; rfl)
  have ff2 : h2.FunFrames B2 (X.env :: X.outer) := funFrames_put ff1 (fun b o e hn => k2 b o hn e) (fun b hb => by rw [← hs] at hb; exact fun z => nF (z ▸ hb)) B2n
  have hh2 : HandSPX.HeldZ B2 (X.env :: X.outer) a (L2N.Zn cls d) X.env.locals h2 :=
    ⟨B2s, B2n a hn1, ff2, oe, vs, T, oT, ts, k2 a _ aC he, hz, hd, hv1, B2n T hnT, hTe, k2 T _ TC hT, hdT, h3⟩
  -- X's state without the exception, as it stands now
  have gs : ∀ b o, G2.get? b = some o → h2.get? b = some o ∧ (sI.heap.get? b).isSome = true := fun b o e => by
    cases q : (sI.heap.get? b).isSome with
    | false => exact absurd ((g2 b q).symm.trans e) fun z => nomatch z
    | true => exact ⟨(g1 b q).symm.trans e, rfl⟩
  have g0 : ∀ b o, sI.heap.get? b = some o → G2.get? b = h2.get? b := fun b o e => g1 b (by rw [e]; rfl)
  have kB : ∀ b o, b ≠ C → sI.heap.get? b = some o → b ∉ frs X.stack → h2.get? b = some o := fun b o hb e hn => k2 b o hb (st1 b o (nb b o e hn))
  have kS : ∀ b o, b ≠ C → sI.heap.get? b = some o → (∀ vs, o.data ≠ .fields vs) → ∃ sl, h2.get? b = some { o with slots := sl } := fun b o hb e hn => by
    obtain ⟨sl, q⟩ := up b o e hn
    obtain ⟨sl2, q2⟩ := up1 b _ q hn
    exact ⟨sl2, k2 b _ hb q2⟩
  have nfd : ∀ b ∈ frs X.stack, ∀ o, sI.heap.get? b = some o → ∀ vs, o.data ≠ .fields vs := fun b hb o e => by
    obtain ⟨_, o', e', hd'⟩ := I.stack.mem hb
    rw [e] at e'; cases e'
    exact hd'
  have J : Inv X pins σ H { sI with heap := G2, gens := s1.gens, drawn := s1.drawn, toks := s1.toks } := by
    refine I.call (ch := [C]) ⟨fun b o e n hb hc => ?_, fun b o e n hb hc => ?_, fun _ _ _ n _ => n, fun b o e hc => ?_, fun _ _ e => e, fun _ _ _ e => e, fun b ps e => ⟨#[], by rw [e]; simp⟩⟩ (fun b u e => ?_) ag fun b hb => ?_
    · have hb2 : b ≠ C := fun z => hc (by rw [z]; exact List.mem_singleton.mpr rfl)
      rw [g0 b o e]
      exact kB b o hb2 e hb
    · have hb2 : b ≠ C := fun z => hc (by rw [z]; exact List.mem_singleton.mpr rfl)
      rw [g0 b o e]
      exact kS b o hb2 e (nfd b hb o e)
    · have hb2 : b ≠ C := fun z => hc (by rw [z]; exact List.mem_singleton.mpr rfl)
      rw [g0 b o e]
      by_cases hb : b ∈ frs X.stack
      · obtain ⟨sl, q⟩ := kS b o hb2 e (nfd b hb o e)
        exact ⟨_, q⟩
      · exact ⟨o, kB b o hb2 e hb⟩
    · refine (I.hok b u e).stay (fun c v hc q => ?_) (fun _ q => q) fun _ _ q => q
      have hn : H c ≠ none := by
        rcases hc with z | z
        · rw [z, e]; exact fun z => nomatch z
        · rw [z]; exact fun z => nomatch z
      rw [g0 c v q]
      exact kB c v (fun z => hn (by rw [z]; exact f0)) q fun z => hn (I.stkFree c z)
    · have ebC := List.mem_singleton.mp hb
      subst ebC
      exact ⟨f3, f1, f4, f5⟩
  unfold PySem.passOn
  refine wpAny_bind (wpAny_field (k2 a _ aC he) hd hv1 ?_)
  have noNone : ¬ ((Value.ref T == Value.none) = true) := by simp
  rw [if_neg noNone]
  have fin : wpAny (model X.prog X.w) X.A (setFlight (.ref a) cenv.frame) (fun _ s4 => wpAny (model X.prog X.w) X.A (throw (.ref a) : Sem Value) (fun _ _ => False) X.xe s4) X.xe { s1 with heap := h2 } := by
    rw [hcf, hf]
    refine HandSPX.setFlight_onZ hh2 fun h4 hh4 up4 => wpAny_throw (tk _ _ ?_)
    refine ⟨a, B2, { sI with heap := G2, gens := s1.gens, drawn := s1.drawn, toks := s1.toks }, pins, σ, H, cls, d, rfl, J, fun b o e hb => ?_, fun b o e hn => ?_, .inr (.inr (by rw [hs]; exact hh4)), na, os, ag, w⟩
    · obtain ⟨e2, q⟩ := gs b o e
      obtain ⟨o', q'⟩ := Option.isSome_iff_exists.mp q
      rw [b1 b (by rw [nb b o' q' hb]; rfl)]
      exact e2
    · exact up4 b o (gs b o e).1 hn
  first
    | exact wpAny_bind fin
    | exact wpAny_bind (wpAny_pure (wpAny_bind fin))
end

/-! ### the block as it runs -/
/-- the wish within the block: at the def's slots -/
abbrev wB (W : WX) (σ : L2.St) : WX := fun c d _ H => W c d σ H
abbrev Cx.blkX (X : Cx) (s : Shared) (H : Hp) (scope : Scope) (ce : Env) (fp : List Addr) (xe : Value → Shared → Prop) : Cx := (X.blk s H scope ce fp).wish xe
/-- a block of X that began at s; ce: its names, fp: what is walked -/
structure InBlk (X : Cx) (pins : List (Addr × Obj)) (σ : L2.St) (s : Shared) (H : Hp) (ce : Env) (fp : List Addr) : Prop where
  inv : Inv X pins σ H s
  fpo : ∀ b ∈ fp, FpOk X pins H b
  loc : ce.locals = s.heap.objs.size
  frm : ce.frame = X.env.frame
section
variable {X : Cx} {pins pins' : List (Addr × Obj)} {σ σ' : L2.St} {s s' : Shared} {H H' : Hp} {scope : Scope} {ce : Env} {fp : List Addr}
theorem InBlk.fpH (b : InBlk X pins σ s H ce fp) : ∀ a ∈ fp, (a ∈ X.ex ∨ X.s_0.heap.objs.size ≤ a) ∧ a ≠ X.env.locals ∧ (∀ x c, X.env.cells.lookup x = some c → c ≠ a) ∧ ∀ p ∈ X.pn ++ pins, p.1 ≠ a := fun a ha =>
  let ⟨_, f1, _, f3, f4, f5⟩ := b.fpo a ha
  ⟨f3, f1, f4, f5⟩
/-- what the block's state is for the def -/
theorem InBlk.out (b : InBlk X pins σ s H ce fp) (J : Inv (X.blk s H scope ce fp) pins' σ' H' s') : Inv X pins σ H' s' ∧ FpOk X pins H' ce.locals ∧ ∃ m, s'.heap.Ns ce.locals m := by
  refine ⟨b.inv.call' (ch := fp) J.os J.base J.hok J.bare b.fpH, ?_, ?_⟩
  · have free : H' ce.locals = none := J.free
    exact b.inv.fpOk (Nat.le_of_eq b.loc.symm) free
  · obtain ⟨m, hm, _⟩ := J.loc
    exact ⟨m, hm⟩
/-- what is walked stays out of reach -/
theorem InBlk.walk (b : InBlk X pins σ s H ce fp) {xe : Value → Shared → Prop} (J : Inv (Cx.blkX X s H scope ce fp xe) [] σ' H' s') (n : ∀ a ∈ fp, H' a = none) : ∀ a ∈ fp, FpOk (Cx.blkX X s H scope ce fp xe) [] H' a := fun a ha => by
  obtain ⟨e1, e2⟩ := J.ok.exf a ha
  exact ⟨n a ha, e1, J.ok.exfs a ha, .inl ha, e2, fun p hp => nomatch hp⟩
end
end Dn

/-! Dn, D: statements, loops, comprehensions. -/
namespace Dn
open PySem L2

/-! ### statements -/
def sSet (i : Nat) (m : EM) : SM := fun en st => (m en st).bind fun d st1 => .ok (.nx, en.set i (some d)) st1
def sExpr (m : EM) : SM := fun en st => (m en st).bind fun _ st1 => .ok (.nx, en) st1
def sRet (m : EM) : SM := fun en st => (m en st).bind fun d st1 => .ok (.ret d, en) st1
def sRetN : SM := fun en st => .ok (.ret .non, en) st
def sPass : SM := fun en st => .ok (.nx, en) st
def sBrk : SM := fun en st => .ok (.bk, en) st
def sCnt : SM := fun en st => .ok (.ct, en) st
def sSeq (m n : SM) : SM := fun en st => (m en st).bind fun p st1 => match p.1 with
  | .nx => n p.2 st1
  | _ => .ok p st1
def sIf (c : TM) (m n : SM) : SM := fun en st => (c en st).bind fun k st1 => if k then m en st1 else n en st1
theorem RE.set {K : Frag} {H : Hp} {r : Rho} {en : En} {s : St} {d : D} {v : V} (i : Nat) (h : RE K H r en s) (q : RD K H r d v) : RE K H r (en.set i (some d)) (s.set i (some v)) := by
  refine ⟨by rw [List.length_set, List.length_set]; exact h.1, fun j e g => ?_⟩
  by_cases z : i = j
  · subst z
    by_cases hl : i < en.length
    · rw [List.getElem?_set_self hl] at g
      cases g
      exact ⟨v, List.getElem?_set_self (by rw [← h.1]; exact hl), q⟩
    · rw [List.getElem?_eq_none (by rw [List.length_set]; omega)] at g; cases g
  · rw [List.getElem?_set_ne z] at g ⊢
    exact h.2 j e g
section
variable {X : Cx} {cl : Clm} {W : WX} {e : Expr} {st : Stmt} {rest : List Stmt} {pos : Pos} {m : EM} {c : TM} {u w : SM}
theorem ss_set {i : Nat} {x : Str} {pos' : Pos} (hN : X.N.Nodup) (hi : X.N[i]? = some x) (hx : Loc X.env.scope x) (he : SE X cl W e m) (hs : swapsWith e (some (.Name x pos')) pos.line X.env = pure false := by rfl)
    (hf : X.fn x = true ∨ X.env.scope.names.lookup x = some .local := by first | exact .inl rfl | exact .inr rfl | assumption) : SS X cl W (.Assign [.Name x pos'] e pos) (sSet i m) :=
  ⟨ps_of (ps_set (i := i) hN hi hx he.pe hs hf) fun D s H ⟨r, en, st, he, hs, hp⟩ => ⟨r, en, st, he, hs, (Po.bind hp).mono fun r1 H1 d st1 x1 s1 h1 v q => h1 r1 H1 .refl s1 _ ((he.mono x1.mn).set i q)⟩⟩
theorem ss_expr (he : SE X cl W e m) (hs : swapsWith e none pos.line X.env = pure false := by rfl) : SS X cl W (.Expr e pos) (sExpr m) :=
  ⟨ps_of (ps_expr he.pe hs) fun D s H ⟨r, en, st, he, hs, hp⟩ => ⟨r, en, st, he, hs, (Po.bind hp).mono fun r1 H1 d st1 x1 s1 h1 v q => h1 r1 H1 .refl s1 _ (he.mono x1.mn)⟩⟩
theorem ss_ret (he : SE X cl W e m) : SS X cl W (.Return (some e) pos) (sRet m) :=
  ⟨ps_of (ps_ret he.pe) fun D s H ⟨r, en, st, he, hs, hp⟩ => ⟨r, en, st, he, hs, (Po.bind hp).mono fun r1 H1 d st1 x1 s1 h1 v q => h1 r1 H1 .refl s1 _ (he.mono x1.mn) v q⟩⟩
theorem ss_retN : SS X cl W (.Return none pos) sRetN := ⟨ps_of ps_retN fun D s H ⟨r, en, st, he, hs, hp⟩ => hp r H .refl hs s he _ .non⟩
theorem ss_pass : SS X cl W (.Pass pos) sPass := ⟨ps_of ps_pass fun D s H ⟨r, en, st, he, hs, hp⟩ => hp r H .refl hs s he⟩
theorem ss_brk : SS X cl W (.Break pos) sBrk := ⟨ps_of ps_break fun D s H ⟨r, en, st, he, hs, hp⟩ => hp r H .refl hs s he⟩
theorem ss_cnt : SS X cl W (.Continue pos) sCnt := ⟨ps_of ps_continue fun D s H ⟨r, en, st, he, hs, hp⟩ => hp r H .refl hs s he⟩
theorem sl_nil : SL X cl W [] sPass := ⟨pss_of pss_nil fun D s H ⟨r, en, st, he, hs, hp⟩ => hp r H .refl hs s he⟩
theorem sl_one (h : SS X cl W st u) : SL X cl W [st] u := ⟨pss_one h.ps⟩
theorem sl_cons (h : SS X cl W st u) (h' : SL X cl W rest w) : SL X cl W (st :: rest) (sSeq u w) :=
  ⟨pss_of (pss_cons h.ps h'.pss) fun D s H ⟨r, en, st, he, hs, hp⟩ => ⟨r, en, st, he, hs, (Po.bind hp).mono fun r1 H1 p st1 x1 s1 h1 s' q => by
    obtain ⟨f, en1⟩ := p
    cases f with
    | nx => exact ⟨r1, en1, st1, q, s1, h1⟩
    | bk => exact h1 r1 H1 .refl s1 s' q
    | ct => exact h1 r1 H1 .refl s1 s' q
    | ret d => exact h1 r1 H1 .refl s1 s' q⟩⟩
theorem ss_if {e : Expr} {a b : List Stmt} (hc : SB X cl W e c) (ha : SL X cl W a u) (hb : SL X cl W b w) : SS X cl W (.If e a b pos) (sIf c u w) :=
  ⟨ps_of (ps_if hc.pt ha.pss hb.pss) fun D s H ⟨r, en, st, he, hs, hp⟩ => ⟨r, en, st, he, hs, (Po.bind hp).mono fun r1 H1 k st1 x1 s1 h1 => by
    cases k with
    | true => rw [if_pos rfl] at h1 ⊢; exact ⟨r1, en, st1, he.mono x1.mn, s1, h1⟩
    | false => simp only [Bool.false_eq_true, if_false] at h1 ⊢; exact ⟨r1, en, st1, he.mono x1.mn, s1, h1⟩⟩⟩
end

/-! ### targets -/
abbrev BM := D → En → Option En
def bName (i : Nat) : BM := fun d en => some (en.set i (some d))
/-- several targets -/
def bNil : List D → En → Option En
  | [], en => some en
  | _ :: _, _ => none
def bCons (b : BM) (bs : List D → En → Option En) : List D → En → Option En
  | [], _ => none
  | d :: ds, en => match b d en with
    | some en1 => bs ds en1
    | none => none
def bTup (n : Nat) (bs : List D → En → Option En) : BM := fun d en => match d with
  | .tup l => if l.length = n then bs l en else none
  | _ => none
/-- the slots but those in sl stay -/
def Out0 (sl : List Nat) (s s' : St) : Prop := s'.length = s.length ∧ ∀ i, i ∉ sl → s'[i]? = s[i]?
/-- the reading g of a target is what b says; the slots that it stores are among sl -/
def GM (K : Frag) (sl : List Nat) (g : TG) (b : BM) : Prop := ∀ (r : Rho) (H : Hp) (d : D) (v : V) (en en' : En) (s : St) (Q : St → Hp → Prop), RD K H r d v → RE K H r en s → b d en = some en' →
  (∀ s', RE K H r en' s' → Out0 sl s s' → Q s' H) → g v s H Q
def GMs (K : Frag) (sl : List Nat) (g : TGs) (b : List D → En → Option En) : Prop := ∀ (r : Rho) (H : Hp) (ds : List D) (vs : List V) (en en' : En) (s : St) (Q : St → Hp → Prop), RDs K H r ds vs → RE K H r en s → b ds en = some en' →
  (∀ s', RE K H r en' s' → Out0 sl s s' → Q s' H) → g vs s H Q
section
variable {K : Frag} {sl : List Nat}
theorem Out0.refl (s : St) : Out0 sl s s := ⟨rfl, fun _ _ => rfl⟩
theorem Out0.trans {a b c : St} (h : Out0 sl a b) (h' : Out0 sl b c) : Out0 sl a c := ⟨h'.1.trans h.1, fun i hi => (h'.2 i hi).trans (h.2 i hi)⟩
theorem gm_name {i : Nat} (hi : i ∈ sl) : GM K sl (gName i) (bName i) := fun r H d v en en' s Q q he e k => by
  cases e
  refine k _ (he.set i q) ⟨by rw [List.length_set], fun j hj => ?_⟩
  rw [List.getElem?_set_ne (fun z => hj (by rw [← z]; exact hi))]
theorem gms_nil : GMs K sl gNil bNil := fun r H ds vs en en' s Q q he e k => by
  cases ds with
  | nil =>
    cases e
    exact ⟨q.nil_inv, k s he (.refl s)⟩
  | cons _ _ => cases e
theorem gms_cons {g : TG} {gs : TGs} {b : BM} {bs : List D → En → Option En} (h : GM K sl g b) (h' : GMs K sl gs bs) : GMs K sl (gCons g gs) (bCons b bs) := fun r H ds vs en en' s Q q he e k => by
  cases ds with
  | nil => cases e
  | cons d ds =>
    obtain ⟨v, w, rfl, q1, q2⟩ := q.cons_inv
    simp only [bCons] at e
    cases e1 : b d en with
    | some en1 =>
      rw [e1] at e
      exact ⟨v, w, rfl, h r H d v en en1 s _ q1 he e1 fun s1 he1 o1 => h' r H ds w en1 en' s1 Q q2 he1 e fun s2 he2 o2 => k s2 he2 (o1.trans o2)⟩
    | none => rw [e1] at e; cases e
theorem gm_tup {n : Nat} {gs : TGs} {bs : List D → En → Option En} (h : GMs K sl gs bs) : GM K sl (gTup K n gs) (bTup n bs) := fun r H d v en en' s Q q he e k => by
  cases d with
  | tup l =>
    obtain ⟨a, xs, rfl, q1, q2⟩ := q.tup_inv
    simp only [bTup] at e
    split at e
    · rename_i hl
      exact ⟨a, xs, rfl, q1, by rw [← q2.length]; exact hl, h r H l xs en en' s Q q2 he e k⟩
    · cases e
  | _ => cases e
end
/-- target = e -/
def sAsg (b : BM) (m : EM) : SM := fun en st => (m en st).bind fun d st1 => match b d en with
  | some en1 => .ok (.nx, en1) st1
  | none => .bad
theorem ss_asg {X : Cx} {cl : Clm} {W : WX} {tg e : Expr} {pos : Pos} {sl : List Nat} {g : TG} {b : BM} {m : EM} (he : SE X cl W e m) (hg : PG X tg g) (hb : GM X.K sl g b) (hs : swapsWithSole [tg] e pos.line X.env = pure false := by rfl)
    (hw : swappedStores [tg] e X.env = pure none := by rfl) (h1 : (assignEach [tg] X.env).map (·.2) = [assign tg X.env] := by rfl) : SS X cl W (.Assign [tg] e pos) (sAsg b m) :=
  ⟨ps_of (ps_asg he.pe hg hs hw h1) fun D s H ⟨r, en, st, he, hs, hp⟩ => ⟨r, en, st, he, hs, (Po.bind hp).mono fun r1 H1 d st1 x1 s1 h1 v q => by
    cases e : b d en with
    | none => rw [e] at h1; exact h1.elim
    | some en1 => rw [e] at h1; exact hb r1 H1 d v en en1 s _ q (he.mono x1.mn) e fun s' he' _ => h1 r1 H1 .refl s1 s' he'⟩⟩
/-- a, b = e1, e2 of local names: no tuple is made -/
def sPar (i j : Nat) (m : AM) : SM := fun en st => (m en st).bind fun ds st1 => match ds with
  | [d, e] => .ok (.nx, (en.set i (some d)).set j (some e)) st1
  | _ => .bad
theorem ss_par {X : Cx} {cl : Clm} {W : WX} {pos : Pos} {i j : Nat} {x y : Str} {a b : Expr} {m : AM} {px py pt : Pos} {kt k2 pt2} (hc : X.calm = true) (hN : X.N.Nodup) (hi : X.N[i]? = some x) (hj : X.N[j]? = some y) (hij : i ≠ j)
    (hx : X.env.scope.names.lookup x = some .local) (hy : X.env.scope.names.lookup y = some .local) (ha : SA X cl W [a, b] m)
    (hw : swappedStores [.Tuple [.Name x px, .Name y py] kt pt] (.Tuple [a, b] k2 pt2) X.env = pure (some [x, y]))
    (hs : swapsWithSole [.Tuple [.Name x px, .Name y py] kt pt] (.Tuple [a, b] k2 pt2) pos.line X.env = pure false := by rfl) :
    SS X cl W (.Assign [.Tuple [.Name x px, .Name y py] kt pt] (.Tuple [a, b] k2 pt2) pos) (sPar i j m) :=
  ⟨ps_of (ps_par hc hN hi hj hij hx hy ha.pa hw hs) fun D s H ⟨r, en, st, he, hs, hp⟩ => ⟨r, en, st, he, hs, (Po.bind hp).mono fun r1 H1 ds st1 x1 s1 h1 vs q => by
    split at h1
    · obtain ⟨v, w, rfl, q1, q2⟩ := q.cons_inv
      obtain ⟨v', w', rfl, q3, q4⟩ := q2.cons_inv
      have := q4.nil_inv; subst this
      exact ⟨v, v', rfl, h1 r1 H1 .refl s1 _ (((he.mono x1.mn).set i q1).set j q3)⟩
    · exact h1.elim⟩⟩

/-! ### what is walked -/
structure Wk where
  items : List D
  src : List (Nat × List D)
/-- the lists that are walked stand as they stood -/
def WkOk (w : Wk) (st : S) : Prop := ∀ p ∈ w.src, seqD st (.ref p.1) = some p.2
abbrev IM := En → S → Out Wk
/-- the walk J is that of w -/
def Wj (K : Frag) (cl : Clm) (r0 : Rho) (H0 : Hp) (J : It) (w : Wk) : Prop := ∀ r H st, Xt K r0 H0 r H → RS K cl r st H → WkOk w st →
  (∀ i d, w.items[i]? = some d → J.go i H ∧ ∀ x H', J.yld i H x H' → Xt K r H r H' ∧ RS K cl r st H' ∧ RD K H' r d x) ∧ ∀ i, w.items.length ≤ i → J.stop i H
/-- the reading wi of a walked thing is what im says -/
def IMok (K : Frag) (cl : Clm) (W : WX) (wi : TI) (im : IM) : Prop := ∀ s H R, (∃ r en st, RE K H r en s ∧ RS K cl r st H ∧ Po K cl r H W (im en st) fun r' H' w _ => ∀ J, Wj K cl r' H' J w → R J H') → wi s H R
structure SI (X : Cx) (cl : Clm) (W : WX) (tg iter : Expr) (wi : TI) (im : IM) : Prop where
  pi : PI X tg iter wi
  ok : IMok X.K cl W wi im

/-- a list, a tuple, a text -/
def jAny (K : Frag) (x : V) (H : Hp) (R : It → Hp → Prop) : Prop :=
  (∃ a xs, x = .ref a ∧ SqL K H a xs ∧ R (Itl K a) H) ∨ (∃ a xs, x = .ref a ∧ SqT K H a xs ∧ R (Itt K a) H) ∨ ∃ z, x = .str z ∧ R (Its z) H
theorem pi_any {X : Cx} {tg e : Expr} {te : TE} (h : PE X e te) : PI X tg e fun s H R => te s H fun x H1 => jAny X.K x H1 R :=
  ⟨fun pins s σ H R I hw => thn (h.run pins s σ H _ I hw) fun v s1 ⟨x, H1, I1, rx, q⟩ => by
    rcases q with ⟨a, xs, ex, hq, q⟩ | ⟨a, xs, ex, hq, q⟩ | ⟨z, ex, q⟩
    · subst ex; cases rx
      obtain ⟨its, _, pl, _⟩ := I1.list hq
      exact wpAny_pyIter_list pl.isList (pi_one (tk := s1.toks) I1 _ (turn_list a _) ⟨_, Heap.get?_push_size _ rfl, rfl, rfl⟩ q)
    · subst ex; cases rx
      obtain ⟨its, _, pl, _⟩ := I1.tuple hq
      exact wpAny_pyIter_tuple (show s1.heap.IsTuple a its.toArray from pl) (pi_one (tk := s1.toks) I1 _ (turn_tuple a _) ⟨_, Heap.get?_push_size _ rfl, rfl, rfl⟩ q)
    · subst ex
      obtain ⟨t, rfl⟩ := rx
      by_cases ha : z.cps.all (· < 128) = true
      · exact wpAny_pyIter_ascii ha (pi_one (tk := s1.toks) I1 _ (turn_str _ z t _ (.inl rfl)) ⟨_, Heap.get?_push_size _ rfl, rfl, rfl⟩ q)
      · exact wpAny_pyIter_wide (by simpa using ha) (pi_one (tk := s1.toks) I1 _ (turn_str _ z t _ (.inr rfl)) ⟨_, Heap.get?_push_size _ rfl, rfl, rfl⟩ q)⟩
def signsD (z : Str) : List D := z.cps.toList.map fun c => .str ⟨#[c]⟩
def wkOf (st : S) : D → Option Wk
  | .tup l => some ⟨l, []⟩
  | .str z => some ⟨signsD z, []⟩
  | .ref n => match seqD st (.ref n) with
    | some l => some ⟨l, [(n, l)]⟩
    | none => none
  | _ => none
def iAny (m : EM) : IM := fun en st => (m en st).bind fun d st1 => match wkOf st1 d with
  | some w => .ok w st1
  | none => .bad
theorem wj_list {K : Frag} {cl : Clm} {r0 : Rho} {H0 : Hp} {n : Nat} {a : Addr} {l : List D} (h : r0 n = some a) : Wj K cl r0 H0 (Itl K a) ⟨l, [(n, l)]⟩ := fun r H st x hs ok => by
  have e : seqD st (.ref n) = some l := ok (n, l) List.mem_cons_self
  obtain ⟨b, xs, eb, q1, q2⟩ := seqD_of hs (.ref (x.ext _ _ h)) e
  cases eb
  have q2 : SqL K H a xs := by
    rcases q2 with ⟨_, _, q⟩ | ⟨_, z, _⟩
    · exact q
    · cases z
  refine ⟨fun i d g => ?_, fun i hi => ⟨xs, q2, by rw [← q1.length]; exact hi⟩⟩
  obtain ⟨v, g1, g2⟩ := q1.get g
  exact ⟨⟨xs, v, q2, g1⟩, fun y H' ⟨e1, e2⟩ => by subst e1; have := e2 xs q2; rw [g1] at this; cases this; exact ⟨.refl, hs, g2⟩⟩
theorem wj_tup {K : Frag} {cl : Clm} {r0 : Rho} {H0 : Hp} {a : Addr} {l : List D} {xs : List V} (h : SqT K H0 a xs) (hd : RDs K H0 r0 l xs) : Wj K cl r0 H0 (Itt K a) ⟨l, []⟩ := fun r H st x hs ok => by
  have q1 := hd.mono x.mn
  have q2 := x.sqt _ _ h
  refine ⟨fun i d g => ?_, fun i hi => ⟨xs, q2, by rw [← q1.length]; exact hi⟩⟩
  obtain ⟨v, g1, g2⟩ := q1.get g
  exact ⟨⟨xs, v, q2, g1⟩, fun y H' ⟨e1, e2⟩ => by subst e1; have := e2 xs q2; rw [g1] at this; cases this; exact ⟨.refl, hs, g2⟩⟩
theorem wj_str {K : Frag} {cl : Clm} {r0 : Rho} {H0 : Hp} {z : Str} : Wj K cl r0 H0 (Its z) ⟨signsD z, []⟩ := fun r H st x hs ok => by
  have hl : (signsD z).length = z.cps.size := by unfold signsD; rw [List.length_map, Array.length_toList]
  refine ⟨fun i d g => ?_, fun i hi => by have hi : (signsD z).length ≤ i := hi; rw [hl] at hi; exact hi⟩
  have g : (signsD z)[i]? = some d := g
  have hi := (List.getElem?_eq_some_iff.mp g).1
  rw [hl] at hi
  refine ⟨hi, fun y H' ⟨e1, c, e2, e3⟩ => ?_⟩
  subst e1 e3
  unfold signsD at g
  rw [List.getElem?_map, Array.getElem?_toList, e2] at g
  cases g
  exact ⟨.refl, hs, .str⟩
section
variable {X : Cx} {cl : Clm} {W : WX} {tg e e1 e2 : Expr} {pos p : Pos} {m : EM} {ma mb : AM}
theorem si_any (h : SE X cl W e m) : SI X cl W tg e (fun s H R => tE X.K cl W m s H fun x H1 => jAny X.K x H1 R) (iAny m) :=
  ⟨pi_any h.pe, fun s H R ⟨r, en, st, he, hs, hp⟩ => ⟨r, en, st, he, hs, (Po.bind hp).mono fun r1 H1 d st1 x1 s1 h1 v q => by
    cases g : wkOf st1 d with
    | none => rw [g] at h1; exact h1.elim
    | some w =>
      rw [g] at h1
      have h2 := h1 r1 H1 .refl s1
      cases d with
      | tup l =>
        cases g
        obtain ⟨a, xs, rfl, q1, q2⟩ := q.tup_inv
        exact .inr (.inl ⟨a, xs, rfl, q1, h2 _ (wj_tup q1 q2)⟩)
      | str z =>
        cases g
        exact .inr (.inr ⟨z, q.str_inv, h2 _ wj_str⟩)
      | ref n =>
        simp only [wkOf] at g
        split at g
        · rename_i l g1
          cases g
          obtain ⟨a, rfl, q1⟩ := q.ref_inv
          obtain ⟨b, xs, eb, _, y2⟩ := seqD_of s1 q g1
          cases eb
          rcases y2 with ⟨_, _, y2⟩ | ⟨_, z, _⟩
          · exact .inl ⟨a, xs, rfl, y2, h2 _ (wj_list q1)⟩
          · cases z
        · cases g
      | _ => cases g⟩⟩
/-- range(..): its ints -/
def rgD (lo hi : Int) : List D := (List.range (hi - lo).toNat).map fun (i : Nat) => .int (lo + (i : Int))
def iRng1D (m : AM) : IM := fun en st => (m en st).bind fun ds st1 => match ds with
  | [.int j] => if -(2 ^ 62) ≤ j ∧ j < 2 ^ 62 then .ok ⟨rgD 0 j, []⟩ st1 else .bad
  | _ => .bad
def iRng2D (m : AM) : IM := fun en st => (m en st).bind fun ds st1 => match ds with
  | [.int i, .int j] => if -(2 ^ 62) ≤ i ∧ i < 2 ^ 62 ∧ -(2 ^ 62) ≤ j ∧ j < 2 ^ 62 then .ok ⟨rgD i j, []⟩ st1 else .bad
  | _ => .bad
theorem wj_rng {K : Frag} {r0 : Rho} {H0 : Hp} {lo hi : Int} {n : Nat} (hn : n = (hi - lo).toNat) : Wj K cl r0 H0 (Itr lo n) ⟨rgD lo hi, []⟩ := fun r H st x hs ok => by
  have hl : (rgD lo hi).length = n := by unfold rgD; rw [List.length_map, List.length_range, hn]
  refine ⟨fun i d g => ?_, fun i hi => by have hi : (rgD lo _).length ≤ i := hi; rw [hl] at hi; exact hi⟩
  have g : (rgD lo hi)[i]? = some d := g
  have hi := (List.getElem?_eq_some_iff.mp g).1
  refine ⟨by show i < n; rw [← hl]; exact hi, fun y H' ⟨e1, e2⟩ => ?_⟩
  subst e1 e2
  unfold rgD at g
  rw [List.getElem?_map, List.getElem?_range (by rw [← hn, ← hl]; exact hi)] at g
  cases g
  exact ⟨.refl, hs, .int⟩
theorem si_rng1 (hg : Gl X "range") (hm : X.mg "range" = none) (ha : SA X cl W [e] ma) (hs : starEach [e] X.env = [(false, eval e X.env)] := by rfl) : SI X cl W tg (.Call (.Name "range" p) [e] [] pos) (iRng1 (tA X.K cl W ma)) (iRng1D ma) :=
  ⟨pi_range1 hg hm ha.pa hs, fun s H R ⟨r, en, st, he, hs, hp⟩ => ⟨r, en, st, he, hs, (Po.bind hp).mono fun r1 H1 ds st1 x1 s1 h1 vs q => by
    split at h1
    · rename_i j
      obtain ⟨v, w, rfl, q1, q2⟩ := q.cons_inv
      have := q2.nil_inv; subst this
      rw [q1.int_inv]
      split at h1
      · rename_i hz
        exact ⟨j, rfl, hz.1, hz.2, h1 r1 H1 .refl s1 _ (wj_rng (by simp))⟩
      · exact h1.elim
    · exact h1.elim⟩⟩
theorem si_rng2 (hg : Gl X "range") (hm : X.mg "range" = none) (ha : SA X cl W [e1, e2] ma) (hs : starEach [e1, e2] X.env = [(false, eval e1 X.env), (false, eval e2 X.env)] := by rfl) (hs2 : starEach [e2] X.env = [(false, eval e2 X.env)] := by rfl) :
    SI X cl W tg (.Call (.Name "range" p) [e1, e2] [] pos) (iRng2 (tA X.K cl W ma)) (iRng2D ma) :=
  ⟨pi_range2 hg hm ha.pa hs hs2, fun s H R ⟨r, en, st, he, hs, hp⟩ => ⟨r, en, st, he, hs, (Po.bind hp).mono fun r1 H1 ds st1 x1 s1 h1 vs q => by
    split at h1
    · rename_i i j
      obtain ⟨v, w, rfl, q1, q2⟩ := q.cons_inv
      obtain ⟨v', w', rfl, q3, q4⟩ := q2.cons_inv
      have := q4.nil_inv; subst this
      rw [q1.int_inv, q3.int_inv]
      split at h1
      · rename_i hz
        exact ⟨i, j, rfl, hz, h1 r1 H1 .refl s1 _ (wj_rng rfl)⟩
      · exact h1.elim
    · exact h1.elim⟩⟩
/-- enumerate of a list, zip of two lists -/
def enD (l : List D) : List D := l.zipIdx.map fun p => .tup [.int ((p.2 : Nat) : Int), p.1]
def iEn (m : AM) : IM := fun en st => (m en st).bind fun ds st1 => match ds with
  | [.ref n] => match seqD st1 (.ref n) with
    | some l => .ok ⟨enD l, [(n, l)]⟩ st1
    | none => .bad
  | _ => .bad
def ziD (l k : List D) : List D := (l.zip k).map fun p => .tup [p.1, p.2]
def iZi (m : AM) : IM := fun en st => (m en st).bind fun ds st1 => match ds with
  | [.ref n, .ref k] => match seqD st1 (.ref n), seqD st1 (.ref k) with
    | some l, some l' => .ok ⟨ziD l l', [(n, l), (k, l')]⟩ st1
    | _, _ => .bad
  | _ => .bad
theorem ref_seq {K : Frag} {cl : Clm} {r : Rho} {st : S} {H : Hp} {n : Nat} {a : Addr} {l : List D} (hs : RS K cl r st H) (h : r n = some a) (e : seqD st (.ref n) = some l) : ∃ xs, SqL K H a xs ∧ RDs K H r l xs := by
  obtain ⟨b, xs, eb, q1, q2⟩ := seqD_of hs (.ref h) e
  cases eb
  rcases q2 with ⟨_, _, q⟩ | ⟨_, z, _⟩
  · exact ⟨xs, q, q1⟩
  · cases z
theorem tup_fresh {K : Frag} {cl : Clm} {r : Rho} {st : S} {H : Hp} {T : Addr} {l : List D} {xs : List V} (hs : RS K cl r st H) (hT : H T = none) (q : RDs K H r l xs) :
    Xt K r H r (upd H T (.tup xs)) ∧ RS K cl r st (upd H T (.tup xs)) ∧ RD K (upd H T (.tup xs)) r (.tup l) (.ref T) :=
  ⟨.fresh hT, hs.fresh hT, .tup (.of upd_same) (q.mono (Xt.fresh hT).mn)⟩
theorem wj_en {K : Frag} {cl : Clm} {r0 : Rho} {H0 : Hp} {n : Nat} {a : Addr} {l : List D} (h : r0 n = some a) : Wj K cl r0 H0 (Ite K a) ⟨enD l, [(n, l)]⟩ := fun r H st x hs ok => by
  have e : seqD st (.ref n) = some l := ok (n, l) List.mem_cons_self
  obtain ⟨xs, q2, q1⟩ := ref_seq hs (x.ext _ _ h) e
  have hl : (enD l).length = l.length := by simp [enD]
  refine ⟨fun i d g => ?_, fun i hi => ⟨xs, q2, by rw [← q1.length]; have hi : (enD l).length ≤ i := hi; rw [hl] at hi; exact hi⟩⟩
  have g : (enD l)[i]? = some d := g
  unfold enD at g
  rw [List.getElem?_map, List.getElem?_zipIdx] at g
  cases q : l[i]? with
  | none => rw [q] at g; cases g
  | some y =>
    rw [q] at g
    have g : D.tup [.int ((0 + i : Nat) : Int), y] = d := Option.some.inj g
    rw [Nat.zero_add] at g
    subst g
    obtain ⟨v, g1, g2⟩ := q1.get q
    refine ⟨⟨xs, v, q2, g1⟩, fun z H' ⟨T, w, e1, e2, e3, e4⟩ => ?_⟩
    have := e4 xs q2
    rw [g1] at this; cases this
    subst e1 e3
    exact tup_fresh hs e2 (.cons .int (.cons g2 .nil))
theorem wj_zi {K : Frag} {cl : Clm} {r0 : Rho} {H0 : Hp} {n k : Nat} {a b : Addr} {l l' : List D} (h : r0 n = some a) (h' : r0 k = some b) : Wj K cl r0 H0 (Itz K a b) ⟨ziD l l', [(n, l), (k, l')]⟩ := fun r H st x hs ok => by
  have e : seqD st (.ref n) = some l := ok (n, l) List.mem_cons_self
  have e' : seqD st (.ref k) = some l' := ok (k, l') (List.mem_cons_of_mem _ List.mem_cons_self)
  obtain ⟨xs, q2, q1⟩ := ref_seq hs (x.ext _ _ h) e
  obtain ⟨ys, p2, p1⟩ := ref_seq hs (x.ext _ _ h') e'
  refine ⟨fun i d g => ?_, fun i hi => ⟨xs, ys, q2, p2, ?_⟩⟩
  · have g : (ziD l l')[i]? = some d := g
    unfold ziD at g
    rw [List.getElem?_map] at g
    cases q : (l.zip l')[i]? with
    | none => rw [q] at g; cases g
    | some y =>
      rw [q] at g
      have g : D.tup [y.1, y.2] = d := Option.some.inj g
      subst g
      rw [List.getElem?_zip_eq_some] at q
      obtain ⟨v, g1, g2⟩ := q1.get q.1
      obtain ⟨u, f1, f2⟩ := p1.get q.2
      refine ⟨⟨xs, ys, v, u, q2, p2, g1, f1⟩, fun z H' ⟨T, w, w', e1, e2, e3, e4, e5⟩ => ?_⟩
      have := e4 xs q2
      rw [g1] at this; cases this
      have := e5 ys p2
      rw [f1] at this; cases this
      subst e1 e3
      exact tup_fresh hs e2 (.cons g2 (.cons f2 .nil))
  · have hi : (ziD l l').length ≤ i := hi
    unfold ziD at hi
    rw [List.length_map, List.length_zip] at hi
    rw [← q1.length, ← p1.length]
    omega
theorem si_en {elts : List Expr} {kk : Nat} {tpos : Pos} (hg : Gl X "enumerate") (hm : X.mg "enumerate" = none) (ha : SA X cl W [e] ma) (hs : starEach [e] X.env = [(false, eval e X.env)] := by rfl) :
    SI X cl W (.Tuple elts kk tpos) (.Call (.Name "enumerate" p) [e] [] pos) (iEnum X.K (tA X.K cl W ma)) (iEn ma) :=
  ⟨pi_enum hg hm ha.pa hs, fun s H R ⟨r, en, st, he, hs, hp⟩ => ⟨r, en, st, he, hs, (Po.bind hp).mono fun r1 H1 ds st1 x1 s1 h1 vs q => by
    split at h1
    · rename_i n
      obtain ⟨v, w, rfl, q1, q2⟩ := q.cons_inv
      have := q2.nil_inv; subst this
      obtain ⟨a, rfl, g1⟩ := q1.ref_inv
      split at h1
      · rename_i l g
        obtain ⟨xs, y1, y2⟩ := ref_seq s1 g1 g
        exact ⟨a, xs, rfl, y1, h1 r1 H1 .refl s1 _ (wj_en g1)⟩
      · exact h1.elim
    · exact h1.elim⟩⟩
theorem si_zi {elts : List Expr} {kk : Nat} {tpos : Pos} (hg : Gl X "zip") (hm : X.mg "zip" = none) (ha : SA X cl W [e1, e2] ma) (hs : starEach [e1, e2] X.env = (false, eval e1 X.env) :: starEach [e2] X.env := by rfl)
    (hpl : (backTo pos (starEach [e2] X.env)).any (·.1) = false := by rfl) :
    SI X cl W (.Tuple elts kk tpos) (.Call (.Name "zip" p) [e1, e2] [] pos) (iZip X.K (tA X.K cl W ma)) (iZi ma) :=
  ⟨pi_zip hg hm ha.pa hs hpl, fun s H R ⟨r, en, st, he, hs, hp⟩ => ⟨r, en, st, he, hs, (Po.bind hp).mono fun r1 H1 ds st1 x1 s1 h1 vs q => by
    split at h1
    · rename_i n k
      obtain ⟨v, w, rfl, q1, q2⟩ := q.cons_inv
      obtain ⟨v', w', rfl, q3, q4⟩ := q2.cons_inv
      have := q4.nil_inv; subst this
      obtain ⟨a, rfl, g1⟩ := q1.ref_inv
      obtain ⟨b, rfl, g2⟩ := q3.ref_inv
      split at h1
      · rename_i l l' g g'
        obtain ⟨xs, y1, y2⟩ := ref_seq s1 g1 g
        obtain ⟨ys, z1, z2⟩ := ref_seq s1 g2 g'
        exact ⟨a, b, xs, ys, rfl, y1, z1, h1 r1 H1 .refl s1 _ (wj_zi g1 g2)⟩
      · exact h1.elim
    · exact h1.elim⟩⟩
end

/-! ### for -/
noncomputable def chk (w : Wk) (st : S) : Bool := @decide (WkOk w st) (Classical.propDecidable _)
theorem chk_iff {w : Wk} {st : S} : chk w st = true ↔ WkOk w st := @decide_eq_true_iff _ (Classical.propDecidable _)
noncomputable def loopD (w : Wk) (b : BM) (body : SM) : List D → SM
  | [], en, st => if chk w st then .ok (.nx, en) st else .bad
  | d :: ds, en, st => if chk w st then match b d en with
      | none => .bad
      | some en1 => (body en1 st).bind fun p st1 => match p.1 with
        | .nx => loopD w b body ds p.2 st1
        | .ct => loopD w b body ds p.2 st1
        | .bk => .ok (.nx, p.2) st1
        | .ret v => .ok (.ret v, p.2) st1
    else .bad
noncomputable def sFor (im : IM) (b : BM) (body : SM) : SM := fun en st => (im en st).bind fun w st1 => loopD w b body w.items en st1
section
variable {X : Cx} {cl : Clm} {W : WX} {tg iter : Expr} {body : List Stmt} {wi : TI} {im : IM} {g : TG} {b : BM} {u : SM} {sl : List Nat} {pos : Pos}
theorem ss_for (hp : PassesOwn (model X.prog X.w) X.A X.env X.xe) (hc : X.calm = true) (hi : SI X cl W tg iter wi im) (hg : PG X tg g) (hb : GM X.K sl g b) (hbd : SL X cl W body u) (hs : ∀ x, foldedSetIterable iter X.env x = pure x := by intro _; rfl) :
    SS X cl W (.For tg iter body [] pos) (sFor im b u) :=
  ⟨ps_of (ps_for hp hc hi.pi hg hbd.pss hs) fun D s H ⟨r, en, st, he, hs, hp⟩ => hi.ok s H _ ⟨r, en, st, he, hs, (Po.bind hp).mono fun r1 H1 w st1 x1 s1 h1 J hJ => by
    refine ⟨fun i m σ H' => m = w.items.length - i ∧ i ≤ w.items.length ∧ ∃ r' en' st', Xt X.K r1 H1 r' H' ∧ RE X.K H' r' en' σ ∧ RS X.K cl r' st' H' ∧ Po X.K cl r' H' W (loopD w b u (w.items.drop i) en' st') (fun r2 H2 p _ => ∀ s', RE X.K H2 r2 p.2 s' → endOf X.K D r2 H2 s' p.1),
      ⟨_, rfl, Nat.zero_le _, r1, en, st1, .refl, he.mono x1.mn, s1, by rw [List.drop_zero]; exact h1⟩, ?_⟩
    rintro i m σ H' ⟨rfl, hle, r', en', st', xx, he', hs', hq⟩
    by_cases hlt : i < w.items.length
    · rw [List.drop_eq_getElem_cons hlt] at hq
      unfold loopD at hq
      split at hq
      · rename_i hk
        obtain ⟨j1, j2⟩ := hJ r' H' st' xx hs' (chk_iff.mp hk)
        obtain ⟨go, yl⟩ := j1 i w.items[i] (List.getElem?_eq_getElem hlt)
        refine .inr ⟨go, fun σ2 H2 => ∃ r2 en2 st2, Xt X.K r1 H1 r2 H2 ∧ RE X.K H2 r2 en2 σ2 ∧ RS X.K cl r2 st2 H2 ∧ Po X.K cl r2 H2 W (loopD w b u (w.items.drop (i + 1)) en2 st2) (fun r2 H2 p _ => ∀ s', RE X.K H2 r2 p.2 s' → endOf X.K D r2 H2 s' p.1),
          fun σ2 H2 ⟨r2, en2, st2, q1, q2, q3, q4⟩ => ⟨w.items.length - (i + 1), by omega, rfl, hlt, r2, en2, st2, q1, q2, q3, q4⟩, fun x H2 y => ?_⟩
        obtain ⟨y1, y2, y3⟩ := yl x H2 y
        split at hq
        · exact hq.elim
        · rename_i en1 eb
          refine hb r' H2 _ x en' en1 σ _ y3 (he'.mono y1.mn) eb fun s' he2 _ => ?_
          refine ⟨r', en1, st', he2, y2, (Po.bind (Po.xt y1 hq)).mono fun r3 H3 p st3 x3 s3 h3 s4 re3 => ?_⟩
          obtain ⟨f, en3⟩ := p
          have xx3 := (xx.trans y1).trans x3
          cases f with
          | nx => exact ⟨r3, en3, st3, xx3, re3, s3, h3⟩
          | ct => exact ⟨r3, en3, st3, xx3, re3, s3, h3⟩
          | bk => exact h3 r3 H3 .refl s3 s4 re3
          | ret v => exact h3 r3 H3 .refl s3 s4 re3
      · exact hq.elim
    · have hi : i = w.items.length := by omega
      rw [List.drop_eq_nil_of_le (by omega)] at hq
      unfold loopD at hq
      split at hq
      · rename_i hk
        obtain ⟨j1, j2⟩ := hJ r' H' st' xx hs' (chk_iff.mp hk)
        exact .inl ⟨j2 i (by omega), hq r' H' .refl hs' σ he'⟩
      · exact hq.elim⟩⟩
end

/-! ### [elt for target in iter if test] -/
/-- what is raised in a callee is raised at the caller's slots -/
def atEn {α : Type} (en : En) : Out α → Out α
  | .exc e _ st => .exc e en st
  | o => o
def wipeE (en : En) : List Nat → En
  | [] => en
  | v :: vs => (wipeE en vs).set v none
abbrev wN : WX := fun _ _ _ _ => False
/-- nothing may be raised in it -/
def nox {α : Type} : Out α → Out α
  | .exc _ _ _ => .bad
  | o => o
noncomputable def lcD (w : Wk) (b : BM) (ct : TM) (elt : EM) (en : En) : List D → List D → S → Out (List D)
  | [], acc, st => if chk w st then .ok acc st else .bad
  | d :: ds, acc, st => if chk w st then match b d en with
      | none => .bad
      | some en1 => (ct en1 st).bind fun k st1 => if k then (elt en1 st1).bind fun y st2 => if acc.length < sizeLine then lcD w b ct elt en ds (acc ++ [y]) st2 else .bad
        else lcD w b ct elt en ds acc st1
    else .bad
noncomputable def dLc (im : IM) (own : List Nat) (b : BM) (ct : TM) (elt : EM) : EM := fun en st => (im en st).bind fun w st1 => (atEn en (lcD w b ct elt (wipeE en own) w.items [] st1)).bind fun acc st2 => .ok (.ref st2.length) (st2 ++ [.lst acc])
/-- .. within another one -/
noncomputable def dLc0 (im : IM) (own : List Nat) (b : BM) (ct : TM) (elt : EM) : EM := fun en st => (im en st).bind fun w st1 => (nox (lcD w b ct elt (wipeE en own) w.items [] st1)).bind fun acc st2 => .ok (.ref st2.length) (st2 ++ [.lst acc])
def cYes : TM := fun _ st => .ok true st
theorem RE.wipe {K : Frag} {H : Hp} {r : Rho} {en : En} {s : St} (h : RE K H r en s) : ∀ vs : List Nat, RE K H r (wipeE en vs) (wipe s vs)
  | [] => h
  | v :: vs => by
    have ih := RE.wipe h vs
    refine ⟨by unfold wipeE L2.wipe; rw [List.length_set, List.length_set]; exact ih.1, fun j e g => ?_⟩
    have g : ((wipeE en vs).set v none)[j]? = some (some e) := g
    show ∃ x : V, ((L2.wipe s vs).set v none)[j]? = some (some x) ∧ RD K H r e x
    by_cases z : v = j
    · subst z
      by_cases hl : v < (wipeE en vs).length
      · rw [List.getElem?_set_self hl] at g; cases g
      · rw [List.getElem?_eq_none (by rw [List.length_set]; omega)] at g; cases g
    · rw [List.getElem?_set_ne z] at g ⊢
      exact ih.2 j e g
theorem wipe_get {s : St} {i : Nat} : ∀ {vs : List Nat}, (L2.wipe s vs)[i]? = if i ∈ vs ∧ i < s.length then some none else s[i]?
  | [] => by simp [L2.wipe]
  | v :: vs => by
    show ((L2.wipe s vs).set v none)[i]? = _
    by_cases z : v = i
    · subst z
      by_cases hl : v < s.length
      · rw [List.getElem?_set_self (by rw [wipe_length]; exact hl)]; simp [hl]
      · rw [List.getElem?_eq_none (by rw [List.length_set, wipe_length]; omega), List.getElem?_eq_none (by omega)]
        simp [hl]
    · rw [List.getElem?_set_ne z, wipe_get]
      have : i ≠ v := fun e => z e.symm
      simp [this]
theorem wipe_out0 {s s' : St} {sl vs : List Nat} (h : Out0 sl s s') (hs : ∀ i ∈ sl, i ∈ vs) : wipe s' vs = wipe s vs := by
  apply List.ext_getElem?
  intro i
  rw [wipe_get, wipe_get, h.1]
  by_cases q : i ∈ vs
  · by_cases hl : i < s.length
    · simp [q, hl]
    · simp only [hl, and_false, if_false]
      rw [List.getElem?_eq_none (by rw [h.1]; omega), List.getElem?_eq_none (by omega)]
  · simp only [q, false_and, if_false]
    exact h.2 i fun z => q (hs i z)
/-- several tests -/
structure STs (X : Cx) (cl : Clm) (W : WX) (ifs : List Expr) (m : TM) : Prop where
  pts : PTs X ifs (tT X.K cl W m)
theorem wipe_wipe {s : St} {vs : List Nat} : wipe (wipe s vs) vs = wipe s vs := by
  apply List.ext_getElem?
  intro i
  rw [wipe_get, wipe_get, wipe_length]
  split <;> rfl
section
variable {X : Cx} {cl : Clm} {W : WX} {tg iter elt c : Expr} {ifs : List Expr} {scope : Scope} {own : List (Str × Nat)} {wi : TI} {im : IM} {g : TG} {b : BM} {ct : TM} {m : EM} {sl : List Nat} {pos : Pos}
theorem sts_nil : STs X cl W [] cYes := ⟨⟨fun pins s σ H Q I h => pts_nil.run pins s σ H Q I (by obtain ⟨r, en, st, he, hs, hp⟩ := h; exact hp r H .refl hs)⟩⟩
theorem sts_one (h : SB X cl W c ct) : STs X cl W [c] ct := ⟨pts_one h.pt⟩
theorem lc_tr {s : St} {H : Hp} {Q : VK} (hi : IMok X.K cl W wi im) (hb : GM X.K sl g b) (hsl : ∀ i ∈ sl, i ∈ own.map (·.2)) (h : tE X.K cl W (dLc0 im (own.map (·.2)) b ct m) s H Q) :
    tLc wi g (tT X.K cl wN ct) (tE X.K cl wN m) (own.map (·.2)) s H Q := by
  obtain ⟨r, en, st, he, hs, hp⟩ := h
  refine hi s H _ ⟨r, en, st, he, hs, (Po.bind hp).mono fun r1 H1 w st1 x1 s1 h1 J hJ Da nD => ?_⟩
  have he1 : RE X.K H1 r1 (wipeE en (own.map (·.2))) (wipe s (own.map (·.2))) := (he.mono x1.mn).wipe _
  refine ⟨fun i k H' => k = w.items.length - i ∧ i ≤ w.items.length ∧ ∃ r' st' acc vs, H' Da = some (.lst vs) ∧ (∀ n, n ≠ 0 → r' n ≠ some Da) ∧ Xt X.K r1 H1 r' H' ∧ RDs X.K H' r' acc vs ∧ RS X.K cl r' st' H' ∧
      Po X.K cl r1 H1 W ((nox (lcD w b ct m (wipeE en (own.map (·.2))) (w.items.drop i) acc st')).bind fun acc st2 => .ok (D.ref st2.length) (st2 ++ [.lst acc])) (fun r' H' d _ => ∀ v, RD X.K H' r' d v → Q v H'), ?_, ?_⟩
  · refine ⟨_, rfl, Nat.zero_le _, r1, st1, [], [], upd_same, fun n n0 e => s1.some_of n0 e nD, .fresh nD, .nil, s1.fresh nD, h1⟩
  · rintro i k H' ⟨rfl, hle, r', st', acc, vs, hD, hn, xx, ra, hs', hq⟩
    by_cases hlt : i < w.items.length
    · rw [List.drop_eq_getElem_cons hlt] at hq
      unfold lcD at hq
      split at hq
      · rename_i hk
        obtain ⟨j1, j2⟩ := hJ r' H' st' xx hs' (chk_iff.mp hk)
        obtain ⟨go, yl⟩ := j1 i w.items[i] (List.getElem?_eq_getElem hlt)
        refine .inr ⟨go, fun H2 => ∃ r' st' acc vs, H2 Da = some (.lst vs) ∧ (∀ n, n ≠ 0 → r' n ≠ some Da) ∧ Xt X.K r1 H1 r' H2 ∧ RDs X.K H2 r' acc vs ∧ RS X.K cl r' st' H2 ∧
          Po X.K cl r1 H1 W ((nox (lcD w b ct m (wipeE en (own.map (·.2))) (w.items.drop (i + 1)) acc st')).bind fun acc st2 => .ok (D.ref st2.length) (st2 ++ [.lst acc])) (fun r' H' d _ => ∀ v, RD X.K H' r' d v → Q v H'),
          fun H2 ⟨r2, st2, acc2, vs2, q1, q2, q3, q4, q5, q6⟩ => ⟨w.items.length - (i + 1), by omega, rfl, hlt, r2, st2, acc2, vs2, q1, q2, q3, q4, q5, q6⟩, fun x H2 y => ?_⟩
        obtain ⟨y1, y2, y3⟩ := yl x H2 y
        split at hq
        · exact hq.elim
        · rename_i en1 eb
          refine hb r' H2 _ x _ en1 _ _ y3 ((he1.mono xx.mn).mono y1.mn) eb fun s' he2 o2 => ⟨?_, ?_⟩
          · rw [wipe_out0 o2 hsl, wipe_wipe]
          · have hD2 := y1.keep _ _ hD hn (fun _ z => nomatch z)
            -- the test
            refine ⟨r', en1, st', he2, y2, ?_⟩
            cases e1 : ct en1 st' with
            | bad => rw [e1] at hq; exact hq.elim
            | exc e v s => rw [e1] at hq; exact hq.elim
            | ok k st3 =>
              rw [e1] at hq
              intro r3 H3 x3 s3
              have hD3 := x3.keep _ _ hD2 hn (fun _ z => nomatch z)
              have hn3 : ∀ n, n ≠ 0 → r3 n ≠ some Da := fun n n0 e => by
                rcases x3.new n _ e with z | z
                · exact hn n n0 z
                · rw [hD2] at z; cases z
              have xx3 := (xx.trans y1).trans x3
              cases k with
              | false =>
                refine iteF ?_
                exact ⟨r3, st3, acc, vs, hD3, hn3, xx3, ra.mono (y1.trans x3).mn, s3, hq⟩
              | true =>
                refine iteT ?_
                refine ⟨r3, en1, st3, he2.mono x3.mn, s3, ?_⟩
                simp only [bind_ok, if_true] at hq
                cases e2 : m en1 st3 with
                | bad => rw [e2] at hq; exact hq.elim
                | exc e v s => rw [e2] at hq; exact hq.elim
                | ok d st4 =>
                  rw [e2] at hq
                  intro r4 H4 x4 s4 yv q4
                  have hD4 := x4.keep _ _ hD3 hn3 (fun _ z => nomatch z)
                  have hn4 : ∀ n, n ≠ 0 → r4 n ≠ some Da := fun n n0 e => by
                    rcases x4.new n _ e with z | z
                    · exact hn3 n n0 z
                    · rw [hD3] at z; cases z
                  have x24 := (y1.trans x3).trans x4
                  have ra4 := ra.mono x24.mn
                  simp only [bind_ok] at hq
                  split at hq
                  · rename_i hz
                    have mu : Mu (.lst vs) := .inl ⟨_, rfl⟩
                    have mm : Mn X.K r4 H4 r4 (upd H4 Da (.lst (vs ++ [yv]))) := ⟨fun _ _ z => z, fun b xs z => sqt_upd (mu.nt hD4) (mu.nf hD4) z⟩
                    have xx4 : Xt X.K r1 H1 r4 (upd H4 Da (.lst (vs ++ [yv]))) := by
                      have z := xx3.trans x4
                      refine ⟨z.ext, z.new, fun b o e hnb hnt => ?_, fun b e => ?_, fun b xs e => mm.sqt _ _ (z.sqt _ _ e), fun b ob w e => by
                        rw [upd_ne (fun q => mu.nf hD4 ob w (by rw [← q]; exact z.frz b ob w e))]
                        exact z.frz b ob w e⟩
                      · rw [upd_ne (fun q => by rw [q, nD] at e; cases e)]
                        exact z.keep b o e hnb hnt
                      · by_cases q : b = Da
                        · subst q; exact nD
                        · rw [upd_ne q] at e; exact z.there b e
                    refine ⟨vs, hD4, by rw [← ra4.length]; exact hz, r4, st4, acc ++ [d], vs ++ [yv], upd_same, hn4, xx4, (ra4.append (.cons q4 .nil)).mono mm, ?_, ?_⟩
                    · refine ⟨s4.dom, fun n o e => ?_, s4.inj, s4.fz, s4.pos, fun p hm => tabG_upd (s4.tabs p hm) (fun e => by
                        obtain ⟨ps, q, _⟩ := s4.tabs p hm
                        rw [e, hD4] at q; cases q), fun p hm => hotH_upd (s4.hotf p hm) (fun e => by
                        obtain ⟨_, _, _, q, _⟩ := s4.hotf p hm
                        rw [e, hD4] at q; cases q)⟩
                      obtain ⟨a, z1, z2⟩ := s4.at_ n o e
                      by_cases n0 : n = 0
                      · have fo := (s4.fz n o e).mpr n0
                        cases o with
                        | lst l => cases fo
                        | ins c fs => cases fo
                        | set l => cases fo
                        | dT l => cases fo
                        | dK l => cases fo
                        | xcp c d => cases fo
                        | rng c d => cases fo
                        | frz l =>
                          obtain ⟨xs, w1, w2⟩ := z2
                          refine ⟨a, z1, xs, ?_, w2.mono mm⟩
                          rcases w1 with (w1 | ⟨ob, w1⟩) | w1
                          · obtain ⟨_, _, _, e'⟩ := fzH_some w1
                            cases e'
                          · refine .inl (.inr ⟨ob, ?_⟩)
                            rw [fzH_of (o := ob) (u := .lst xs)]
                            rw [upd_ne (fun q => mu.nf hD4 _ _ (by rw [← q]; exact (fzH_some w1).1))]
                            exact (fzH_some w1).1
                          · exact .inr w1
                      · exact ⟨a, z1, z2.xt mm (XdK.upd hD4 fun _ z => nomatch z) fun u _ z => by rw [upd_ne (fun q => hn4 n n0 (by rw [← q]; exact z1))]; exact z⟩
                    · exact hq
                  · exact hq.elim
      · exact hq.elim
    · have hi : i = w.items.length := by omega
      rw [List.drop_eq_nil_of_le (by omega)] at hq
      unfold lcD at hq
      split at hq
      · rename_i hk
        obtain ⟨j1, j2⟩ := hJ r' H' st' xx hs' (chk_iff.mp hk)
        refine .inl ⟨j2 i (by omega), ?_⟩
        have ps := hs'.push (p := Da) (o := .lst acc) hn ⟨vs, hD, ra.mono ⟨Xt.nxt0 hs'.dom, fun _ _ z => z⟩⟩ rfl
        have hq : Po X.K cl r1 H1 W (.ok (D.ref st'.length) (st' ++ [.lst acc])) (fun r' H' d _ => ∀ v, RD X.K H' r' d v → Q v H') := hq
        exact hq _ _ (xx.name nD hs'.dom) ps _ (.ref nxt_self)
      · exact hq.elim
end

/-! ### [..] whose parts may let an exception out -/
section
variable {X : Cx} {cl : Clm} {W : WX} {tg iter elt : Expr} {ifs : List Expr} {scope : Scope} {own : List (Str × Nat)} {wi : TI} {im : IM} {g : TG} {b : BM} {ct : TM} {m : EM} {sl : List Nat} {pos pos' : Pos}
/-- a step of the walk adds y to the list at D: the store goes on over it -/
theorem lc_put {K : Frag} {r r1 : Rho} {st : S} {H H1 : Hp} {D : Addr} {acc : List Dn.D} {vs : List V} {d : Dn.D} {v : V} (hs : RS K cl r st H) (hD : H D = some (.lst vs)) (hn : ∀ n, n ≠ 0 → r n ≠ some D) (h1D : H1 D = none) (x : Xt K r1 H1 r H) (ra : RDs K H r acc vs) (rd : RD K H r d v) :
    RS K cl r st (upd H D (.lst (vs ++ [v]))) ∧ Xt K r1 H1 r (upd H D (.lst (vs ++ [v]))) ∧ RDs K (upd H D (.lst (vs ++ [v]))) r (acc ++ [d]) (vs ++ [v]) := by
  have mu : Mu (.lst vs) := .inl ⟨_, rfl⟩
  have mm : Mn K r H r (upd H D (.lst (vs ++ [v]))) := ⟨fun _ _ z => z, fun c xs z => sqt_upd (mu.nt hD) (mu.nf hD) z⟩
  refine ⟨⟨hs.dom, fun n o e => ?_, hs.inj, hs.fz, hs.pos, fun p hp => tabG_upd (hs.tabs p hp) fun e => ?_, fun p hp => hotH_upd (hs.hotf p hp) fun e => ?_⟩, ⟨x.ext, x.new, fun c o e hc ht => ?_, fun c e => ?_, fun c xs e => mm.sqt _ _ (x.sqt _ _ e), fun c ob w e => ?_⟩, (ra.append (.cons rd .nil)).mono mm⟩
  · obtain ⟨a, z1, z2⟩ := hs.at_ n o e
    by_cases n0 : n = 0
    · have fo := (hs.fz n o e).mpr n0
      cases o with
      | lst l => cases fo
      | ins c fs => cases fo
      | set l => cases fo
      | dT l => cases fo
      | dK l => cases fo
      | xcp c d => cases fo
      | rng c d => cases fo
      | frz l =>
        obtain ⟨xs, w1, w2⟩ := z2
        refine ⟨a, z1, xs, ?_, w2.mono mm⟩
        rcases w1 with (w1 | ⟨ob, w1⟩) | w1
        · obtain ⟨_, _, _, e'⟩ := fzH_some w1
          cases e'
        · have ne : a ≠ D := fun q => mu.nf hD _ _ (q ▸ (fzH_some w1).1)
          exact .inl (.inr ⟨ob, fzH_of ((upd_ne ne).trans (fzH_some w1).1)⟩)
        · exact .inr w1
    · have ne : a ≠ D := fun q => hn n n0 (z1.trans (congrArg some q))
      exact ⟨a, z1, z2.xt mm (XdK.upd hD fun _ z => nomatch z) fun u _ z => (upd_ne ne).trans z⟩
  · obtain ⟨ps, q, _⟩ := hs.tabs p hp
    rw [e, hD] at q; cases q
  · obtain ⟨_, _, _, q, _⟩ := hs.hotf p hp
    rw [e, hD] at q; cases q
  · have ne : c ≠ D := fun q => by rw [q, h1D] at e; cases e
    exact (upd_ne ne).trans (x.keep c o e hc ht)
  · by_cases q : c = D
    · exact q ▸ h1D
    · exact x.there c ((upd_ne q).symm.trans e)
  · have z := x.frz c ob w e
    have ne : c ≠ D := fun q => mu.nf hD ob w (by rw [← q]; exact z)
    exact (upd_ne ne).trans z
theorem lc_go {pins : List (Addr × Obj)} {s : Shared} {σ : L2.St} {H : Hp} {Qv : VK} {use : Option (Value → Sem Unit)} {Qf : Value → Shared → Prop} (hs0 : X.stack = X.env :: X.outer) (hf0 : X.env.frame = some X.env.locals) (tk : L2N.Takes X W) (hc : X.calm = true) (hN : X.N.Nodup)
    (hi : SI X cl W tg iter wi im) (ok : BlkOk X.N X.env.scope scope own) (hb : GM X.K sl g b) (hsl : ∀ i ∈ sl, i ∈ own.map (·.2))
    (hg : ∀ (s : Shared) (H : Hp) (C : Addr) (q : List (Str × Addr)) (fp : List Addr) (xe : Value → Shared → Prop), PG (Cx.blkX X s H scope (compEnvC scope q C X.env) fp xe) tg g)
    (ht : ∀ (s : Shared) (H : Hp) (C : Addr) (q : List (Str × Addr)) (fp : List Addr) (xe : Value → Shared → Prop) (V : WX), TkC (Cx.blkX X s H scope (compEnvC scope q C X.env) fp xe) V → STs (Cx.blkX X s H scope (compEnvC scope q C X.env) fp xe) cl V ifs ct)
    (he : ∀ (s : Shared) (H : Hp) (C : Addr) (q : List (Str × Addr)) (fp : List Addr) (xe : Value → Shared → Prop) (V : WX), TkC (Cx.blkX X s H scope (compEnvC scope q C X.env) fp xe) V → SE (Cx.blkX X s H scope (compEnvC scope q C X.env) fp xe) cl V elt m)
    (hfold : ∀ x, foldedSetIterable iter X.env x = pure x) (I : Inv X pins σ H s) (h : tE X.K cl W (dLc im (own.map (·.2)) b ct m) σ H Qv)
    (hend : ∀ D ce s' H', Inv X pins σ H' s' → Qv (.ref D) H' → (∃ m, s'.heap.Ns ce.locals m) → FpOk X pins H' ce.locals → BlkEnd (model X.prog X.w) X.A X.xe use Qf (.ref D) ce (.ok .next) s') :
    wpAny (model X.prog X.w) X.A (comprehension (.ListComp elt [⟨tg, iter, ifs, 0⟩] scope pos) scope X.env pos' (newList []) false (eval iter X.env) use) Qf X.xe s := by
  obtain ⟨vs, hvs⟩ : ∃ vs, vs = own.map (·.2) := ⟨_, rfl⟩
  rw [← hvs] at h hsl
  obtain ⟨r0, en, st0, re0, rs0, po⟩ := h
  have there : ∀ y ∈ scope.names, y.2 = .free → ∃ c, X.env.cells.lookup y.1 = some c := fun y hy e => I.ok.has _ (ok.free y hy e)
  refine comp_eval rfl hfold (closure_ok there) ok.kind (fun y hy e => (ok.uniq y hy).trans (congrArg some e)) ?_
  -- what is walked
  refine wpAny_mono (hi.pi.run pins s σ H (fun J H1 => ∃ r1 st1 w, Wj X.K cl r1 H1 J w ∧ RE X.K H1 r1 en σ ∧ RS X.K cl r1 st1 H1 ∧
    Po X.K cl r1 H1 W ((atEn en (lcD w b ct m (wipeE en vs) w.items [] st1)).bind fun acc st2 => .ok (Dn.D.ref st2.length) (st2 ++ [.lst acc])) fun r' H' d _ => ∀ v, RD X.K H' r' d v → Qv v H') I ?_) (fun xv s1 h1 => ?_) fun _ _ z => z
  · exact hi.ok σ H _ ⟨r0, en, st0, re0, rs0, (Po.bind po).mono fun r1 H1 w st1 x1 rs1 p1 J hJ => ⟨r1, st1, w, hJ, re0.mono x1.mn, rs1, p1⟩⟩
  refine wpAny_mono h1 (fun itv s2 h2 => ?_) fun _ _ z => z
  obtain ⟨it, fp, tn, J, H2, eit, I2, T, tn0, fp2, r1, st1, w, hJ, re1, rs1, po1⟩ := h2
  subst eit
  -- the new list, the block's names
  refine wpAny_newObj_type (newEnv_comp ?_) (by show 0 ≤ sizeLine; decide)
  obtain ⟨D, hD⟩ : ∃ D, D = s2.heap.objs.size := ⟨_, rfl⟩
  rw [← hD]
  have nD : H2 D = none := I2.hok.fresh (Nat.le_of_eq hD.symm)
  have pushed : ∀ c o, s2.heap.get? c = some o → (s2.heap.push { cls := .type "list", data := .seq ([] : List Value).toArray }).get? c = some o := fun c o e => Heap.get?_push_of_some _ e
  obtain ⟨s3, hs3⟩ : ∃ s3 : Shared, s3 = { s2 with heap := s2.heap.push { cls := .type "list", data := .seq ([] : List Value).toArray } } := ⟨_, rfl⟩
  have hh3 : s3.heap = s2.heap.push { cls := .type "list", data := .seq ([] : List Value).toArray } := by rw [hs3]
  have I3 : Inv X pins σ (upd H2 D (.lst [])) s3 := by
    rw [hs3]
    exact I2.laid (t' := s2.toks) pushed (Nat.le_of_eq hD.symm) ⟨Nat.zero_le _, [], 0, .nil, by rw [hD]; exact Heap.get?_push_size _ rfl⟩
  have tn3 : tn 0 s3.heap := by
    rw [hh3]
    exact T.keep _ _ _ tn0 fun c _ o e => pushed c o e
  have small : ∀ a ∈ fp, a < s2.heap.objs.size := fun a ha => let ⟨_, e, _⟩ := T.obj _ _ tn0 a ha; Heap.lt_size e
  have fp3 : ∀ a ∈ fp, FpOk X pins (upd H2 D (.lst [])) a ∧ a < s3.heap.objs.size := fun a ha =>
    ⟨⟨(upd_ne (hD ▸ Nat.ne_of_lt (small a ha))).trans (fp2 a ha).1, (fp2 a ha).2⟩, by rw [hh3, Heap.size_push]; exact Nat.lt_succ_of_lt (small a ha)⟩
  rw [← hs3]
  have I4 := block_start I3 ok hN fp3
  have tn4 : tn 0 (pushCells (s3.heap.push { cls := .type "dict", data := .dict #[] }) scope.names) := T.keep _ _ _ tn3 fun c _ o e => pushCells_keeps _ _ _ _ (Heap.get?_push_of_some _ e)
  have bg := hg s3 (upd H2 D (.lst [])) s3.heap.objs.size (cellsFrom (s3.heap.objs.size + 1) scope.names (cloFrom X.env.cells scope.names [])) fp
  have bt := ht s3 (upd H2 D (.lst [])) s3.heap.objs.size (cellsFrom (s3.heap.objs.size + 1) scope.names (cloFrom X.env.cells scope.names [])) fp
  have be := he s3 (upd H2 D (.lst [])) s3.heap.objs.size (cellsFrom (s3.heap.objs.size + 1) scope.names (cloFrom X.env.cells scope.names [])) fp
  show codeAny _ _ (.compStart (.ListComp elt [⟨tg, iter, ifs, 0⟩] scope pos) 0 (.ref it) (.ref D) (compEnvC scope (cellsFrom (s3.heap.objs.size + 1) scope.names (cloFrom X.env.cells scope.names [])) s3.heap.objs.size X.env))
    (BlkEnd (model X.prog X.w) X.A X.xe use Qf (.ref D) (compEnvC scope (cellsFrom (s3.heap.objs.size + 1) scope.names (cloFrom X.env.cells scope.names [])) s3.heap.objs.size X.env)) _
  have blk : InBlk X pins σ s3 (upd H2 D (.lst [])) (compEnvC scope (cellsFrom (s3.heap.objs.size + 1) scope.names (cloFrom X.env.cells scope.names [])) s3.heap.objs.size X.env) fp := ⟨I3, fun a ha => (fp3 a ha).1, rfl, rfl⟩
  generalize compEnvC scope (cellsFrom (s3.heap.objs.size + 1) scope.names (cloFrom X.env.cells scope.names [])) s3.heap.objs.size X.env = ce at I4 bg bt be blk ⊢
  have start : RS X.K cl r1 st1 (upd H2 D (.lst [])) ∧ Xt X.K r1 H2 r1 (upd H2 D (.lst [])) := ⟨rs1.fresh nD, .fresh nD⟩
  have lst0 : upd H2 D (.lst []) D = some (.lst []) := upd_same
  generalize upd H2 D (.lst []) = H3 at I3 I4 fp3 bg bt be blk start lst0
  rw [← hvs] at I4
  -- what an exception of the block is for the def
  obtain ⟨xe, hxe⟩ : ∃ xe : Value → Shared → Prop, xe = fun u s' => ∃ pins' σ' H' sc E, Inv (X.blk s3 H3 scope ce fp) pins' σ' H' sc ∧ L2N.CX X.prog X.w X.stack H' sc E u s' ∧ ∀ c d H2, E c d H2 → W c d σ H2 := ⟨_, rfl⟩
  have tq : TkC (Cx.blkX X s3 H3 scope ce fp xe) (wB W σ) := fun σ' pins' H' sc u s' J c => by
    show xe u s'
    rw [hxe]
    exact ⟨pins', σ', H', sc, _, J.unwish, c, fun _ _ _ z => z⟩
  have out : ∀ u s', xe u s' → notedBy (model X.prog X.w) X.A ce (fun u s' => BlkEnd (model X.prog X.w) X.A X.xe use Qf (.ref D) ce (.error u) s') u s' := fun u s' x => by
    rw [hxe] at x
    obtain ⟨pins', σ', H', sc, E, J, c, hE⟩ := x
    obtain ⟨a, B, S, cls, d, H1, eu, J1, air, hw⟩ := air_of (X := X.blk s3 H3 scope ce fp) J c
    subst eu
    obtain ⟨o1, o2, m1, o3⟩ := blk.out J1
    exact wpAny_mono (pass_comp hs0 hf0 tk o1 ⟨air.fl, air.gr, air.up, air.na, air.os, air.ag⟩ (hE _ _ _ hw) o2 o3 blk.frm) (fun _ _ z => ⟨z.1, fun h sb env hf => z.2 h sb env (hf.trans blk.frm)⟩) fun _ _ z => z
  have bt := bt xe _ tq
  have be := be xe _ tq
  have bg := bg xe
  -- the walk
  have walk : codeAny (model X.prog X.w) X.A (.compLoop (.ListComp elt [⟨tg, iter, ifs, 0⟩] scope pos) 0 (.ref it) (.ref D) ce) (BlkEnd (model X.prog X.w) X.A X.xe use Qf (.ref D) ce) { s3 with heap := pushCells (s3.heap.push { cls := .type "dict", data := .dict #[] }) scope.names } := by
    refine compLoop_any (fun n s' => n ≤ w.items.length ∧ ∃ r st acc us H', Inv (Cx.blkX X s3 H3 scope ce fp xe) [] (wipe σ vs) H' s' ∧ tn (w.items.length - n) s'.heap ∧ (∀ a ∈ fp, H' a = none) ∧ H' D = some (.lst us) ∧ (∀ n, n ≠ 0 → r n ≠ some D) ∧ Xt X.K r1 H2 r H' ∧ RDs X.K H' r acc us ∧ RS X.K cl r st H' ∧
      Po X.K cl r1 H2 W ((atEn en (lcD w b ct m (wipeE en vs) (w.items.drop (w.items.length - n)) acc st)).bind fun acc st2 => .ok (Dn.D.ref st2.length) (st2 ++ [.lst acc])) fun r' H' d _ => ∀ v, RD X.K H' r' d v → Qv v H') ?_ w.items.length
      ⟨Nat.le_refl _, r1, st1, [], [], H3, I4.wish xe, by rw [Nat.sub_self]; exact tn4, fun a ha => (fp3 a ha).1.1, lst0, fun n n0 e => rs1.some_of n0 e nD, start.2, .nil, start.1, by rw [Nat.sub_self, List.drop_zero]; exact po1⟩
    rintro n s5 ⟨hn, r, st, acc, us, H5, J5, tn5, f5, us5, nn, x5, ra, rs5, po5⟩
    have fw := blk.walk J5 f5
    match n with
    | 0 =>
      rw [Nat.sub_zero, List.drop_length] at po5
      rw [Nat.sub_zero] at tn5
      unfold lcD at po5
      split at po5
      · rename_i hk
        have stop := ((hJ r H5 st x5 rs5 (chk_iff.mp hk)).2 _ (Nat.le_refl _))
        refine thnF (T.done (Cx.blkX X s3 H3 scope ce fp xe) rfl rfl rfl hc _ [] s5 _ H5 (fun _ _ => False) J5 fw tn5 stop) fun q s6 ⟨eq, J6⟩ => ?_
        subst eq
        obtain ⟨o1, o2, o3⟩ := blk.out J6.unwish
        refine hend D ce s6 H5 o1 ?_ o3 o2
        have ps := rs5.push (p := D) (o := .lst acc) nn ⟨us, us5, ra.mono ⟨Xt.nxt0 rs5.dom, fun _ _ z => z⟩⟩ rfl
        exact po5 _ _ (x5.name nD rs5.dom) ps _ (.ref nxt_self)
      · exact po5.elim
    | n + 1 =>
      have hlt : w.items.length - (n + 1) < w.items.length := by omega
      have nxi : w.items.length - (n + 1) + 1 = w.items.length - n := by omega
      rw [List.drop_eq_getElem_cons hlt, nxi] at po5
      unfold lcD at po5
      split at po5
      · rename_i hk
        obtain ⟨go, yl⟩ := (hJ r H5 st x5 rs5 (chk_iff.mp hk)).1 _ _ (List.getElem?_eq_getElem hlt)
        refine thnF (T.item (Cx.blkX X s3 H3 scope ce fp xe) rfl rfl rfl hc _ [] s5 _ H5 (fun _ _ => False) J5 fw tn5 go) fun q s6 ⟨u, eq, h6⟩ => ?_
        subst eq
        refine thnF h6 fun _ s7 ⟨x, H7, J7, rx, y7, tn7, f7⟩ => ?_
        obtain ⟨x7, rs7, rd7⟩ := yl x H7 y7
        split at po5
        · exact po5.elim
        · rename_i en1 eb
          have J7' := J7.pinned (blk.walk J7 f7) (T.obj _ _ tn7)
          have us7 := x7.keep D _ us5 nn (fun _ z => nomatch z)
          have re7 : RE X.K H7 r (wipeE en vs) (wipe σ vs) := (re1.wipe vs).mono (x5.trans x7).mn
          -- the target
          refine wpAny_mono (bg.run _ s7 _ H7 x u (fun σ8 H8 => H8 = H7 ∧ RE X.K H7 r en1 σ8 ∧ wipe σ8 vs = wipe σ vs) J7' rx (hb r H7 _ x _ en1 _ _ rd7 re7 eb fun σ8 he8 o8 => ⟨rfl, he8, (wipe_out0 o8 hsl).trans wipe_wipe⟩)) (fun _ s8 ⟨σ8, H8, J8, eH8, re8, w8⟩ => ?_) out
          subst eH8
          -- back in the walk with what was made
          have turn : ∀ {s' : Shared} {H' : Hp} {r' : Rho} {st' : S} {acc' : List Dn.D} {us' : List V}, Inv (Cx.blkX X s3 H3 scope ce fp xe) ([] ++ pinsAt fp s7.heap) σ8 H' s' → H' D = some (.lst us') → (∀ n, n ≠ 0 → r' n ≠ some D) → Xt X.K r1 H2 r' H' → RDs X.K H' r' acc' us' → RS X.K cl r' st' H' →
              Po X.K cl r1 H2 W ((atEn en (lcD w b ct m (wipeE en vs) (w.items.drop (w.items.length - n)) acc' st')).bind fun acc st2 => .ok (Dn.D.ref st2.length) (st2 ++ [.lst acc])) (fun r' H' d _ => ∀ v, RD X.K H' r' d v → Qv v H') →
              ∃ n', n' < n + 1 ∧ n' ≤ w.items.length ∧ ∃ r st acc us H', Inv (Cx.blkX X s3 H3 scope ce fp xe) [] (wipe σ vs) H' s' ∧ tn (w.items.length - n') s'.heap ∧ (∀ a ∈ fp, H' a = none) ∧ H' D = some (.lst us) ∧ (∀ n, n ≠ 0 → r n ≠ some D) ∧ Xt X.K r1 H2 r H' ∧ RDs X.K H' r acc us ∧ RS X.K cl r st H' ∧
                Po X.K cl r1 H2 W ((atEn en (lcD w b ct m (wipeE en vs) (w.items.drop (w.items.length - n')) acc st)).bind fun acc st2 => .ok (Dn.D.ref st2.length) (st2 ++ [.lst acc])) fun r' H' d _ => ∀ v, RD X.K H' r' d v → Qv v H' := fun {s' H' r' st' acc' us'} J us9 nn9 x9 ra9 rs9 po9 => by
            have pin : ∀ a ∈ fp, ∀ o, s7.heap.get? a = some o → s'.heap.get? a = some o ∧ H' a = none := fun a ha o e => by
              obtain ⟨z1, z2, _⟩ := J.pin (a, o) (List.mem_append_right _ (List.mem_append_right _ (mem_pinsAt ha e)))
              exact ⟨z1, z2⟩
            refine ⟨n, Nat.lt_succ_self n, by omega, r', st', acc', us', H', J.unpinned.weak (by rw [← w8, wipe_length]) (fun j v e => (wipe_some (w8 ▸ e)).1), ?_, fun a ha => ?_, us9, nn9, x9, ra9, rs9, po9⟩
            · rw [← nxi]
              exact T.keep _ _ _ tn7 fun a ha o e => (pin a ha o e).1
            · obtain ⟨o, e, _⟩ := T.obj _ _ tn7 a ha
              exact (pin a ha o e).2
          -- no number comes to stand for the list
          have still : ∀ {r' : Rho} {H' : Hp}, Xt X.K r H8 r' H' → ∀ n, n ≠ 0 → r' n ≠ some D := fun {r' H'} xx n n0 e => by
            rcases xx.new n _ e with z | z
            · exact nn n n0 z
            · rw [us7] at z; cases z
          -- the test
          refine wpAny_mono (bt.pts.run _ s8 σ8 H8 (fun k H9 => ∃ r9 st9, ct en1 st = .ok k st9 ∧ Xt X.K r H8 r9 H9 ∧ RS X.K cl r9 st9 H9) J8 ⟨r, en1, st, re8, rs7, ?_⟩) (fun k s9 ⟨H9, J9, r9, st9, e9, x9, rs9⟩ => ?_) out
          · cases e1 : ct en1 st with
            | ok k st9 => exact fun r9 H9 x9 rs9 => ⟨r9, st9, rfl, x9, rs9⟩
            | bad => rw [e1] at po5; exact po5.elim
            | exc e v st9 =>
              rw [e1] at po5
              exact fun r9 H9 _ c d x9 rs9 _ rx => po5 r9 H9 σ c d ((x5.trans x7).trans x9) rs9 (re1.mono ((x5.trans x7).trans x9).mn) rx
          rw [e9] at po5
          have us9 := x9.keep D _ us7 nn (fun _ z => nomatch z)
          cases k with
          | false =>
            simp only [Bool.false_eq_true, if_false]
            exact turn J9 us9 (still x9) ((x5.trans x7).trans x9) (ra.mono (x7.trans x9).mn) rs9 po5
          | true =>
            simp only [if_true]
            -- the element
            refine wpAny_mono (be.pe.run _ s9 σ8 H9 (fun v H10 => ∃ r10 st10 d, m en1 st9 = .ok d st10 ∧ Xt X.K r9 H9 r10 H10 ∧ RS X.K cl r10 st10 H10 ∧ RD X.K H10 r10 d v) J9 ⟨r9, en1, st9, re8.mono x9.mn, rs9, ?_⟩) (fun v s10 ⟨y, H10, J10, ry, r10, st10, d, e10, x10, rs10, rd10⟩ => ?_) out
            · cases e2 : m en1 st9 with
              | ok d st10 => exact fun r10 H10 x10 rs10 v rv => ⟨r10, st10, d, rfl, x10, rs10, rv⟩
              | bad => simp only [bind_ok, if_true, e2] at po5; exact po5.elim
              | exc e v st10 =>
                simp only [bind_ok, if_true, e2] at po5
                exact fun r10 H10 _ c d x10 rs10 _ rx => po5 r10 H10 σ c d (((x5.trans x7).trans x9).trans x10) rs10 (re1.mono (((x5.trans x7).trans x9).trans x10).mn) rx
            simp only [bind_ok, if_true, e10] at po5
            split at po5
            · rename_i hz
              have us10 := x10.keep D _ us9 (still x9) (fun _ z => nomatch z)
              have ra10 := ra.mono ((x7.trans x9).trans x10).mn
              have nn10 := still (x9.trans x10)
              obtain ⟨p1, p2, p3⟩ := lc_put rs10 us10 nn10 nD (((x5.trans x7).trans x9).trans x10) ra10 rd10
              exact app_ok (X := Cx.blkX X s3 H3 scope ce fp xe) J10 us10 (by rw [← ra10.length]; exact hz) ry fun s11 J11 => turn J11 upd_same nn10 p2 p3 p1 po5
            · exact po5.elim
      · exact po5.elim
  exact codeAny_compStart_list walk (T.self X.A 0 _ _ _ tn4 walk)
end
end Dn

/-! Dn, E: comprehensions as expressions, calls, defs. -/
namespace Dn
open PySem PySem.Spec PyProof.Rows L2

section
variable {X : Cx} {cl : Clm} {W : WX} {tg iter elt c : Expr} {ifs : List Expr} {scope : Scope} {own : List (Str × Nat)} {wi : TI} {im : IM} {g : TG} {b : BM} {ct : TM} {m : EM} {sl : List Nat} {pos spos : Pos}
theorem se_lc0 (hc : X.calm = true) (hN : X.N.Nodup) (hi : SI X cl W tg iter wi im) (ok : BlkOk X.N X.env.scope scope own) (hb : GM X.K sl g b) (hsl : ∀ i ∈ sl, i ∈ own.map (·.2))
    (hg : ∀ (s : Shared) (H : Hp) (C : Addr) (q : List (Str × Addr)) (fp : List Addr), PG (X.blk s H scope (compEnvC scope q C X.env) fp) tg g)
    (ht : ∀ (s : Shared) (H : Hp) (C : Addr) (q : List (Str × Addr)) (fp : List Addr), STs (X.blk s H scope (compEnvC scope q C X.env) fp) cl wN ifs ct)
    (he : ∀ (s : Shared) (H : Hp) (C : Addr) (q : List (Str × Addr)) (fp : List Addr), SE (X.blk s H scope (compEnvC scope q C X.env) fp) cl wN elt m)
    (hs : ∀ x, foldedSetIterable iter X.env x = pure x := by intro _; rfl) : SE X cl W (.ListComp elt [⟨tg, iter, ifs, 0⟩] scope pos) (dLc0 im (own.map (·.2)) b ct m) :=
  ⟨pe_of (pe_lc hc hN hi.pi ok hg (fun s H C q fp => (ht s H C q fp).pts) (fun s H C q fp => (he s H C q fp).pe) hs) fun s H Q h => lc_tr hi.ok hb hsl h⟩
theorem se_lc (tk : L2N.Takes X W) (hc : X.calm = true) (hN : X.N.Nodup) (hi : SI X cl W tg iter wi im) (ok : BlkOk X.N X.env.scope scope own) (hb : GM X.K sl g b) (hsl : ∀ i ∈ sl, i ∈ own.map (·.2))
    (hg : ∀ (s : Shared) (H : Hp) (C : Addr) (q : List (Str × Addr)) (fp : List Addr) (xe : Value → Shared → Prop), PG (Cx.blkX X s H scope (compEnvC scope q C X.env) fp xe) tg g)
    (ht : ∀ (s : Shared) (H : Hp) (C : Addr) (q : List (Str × Addr)) (fp : List Addr) (xe : Value → Shared → Prop) (V : WX), TkC (Cx.blkX X s H scope (compEnvC scope q C X.env) fp xe) V → STs (Cx.blkX X s H scope (compEnvC scope q C X.env) fp xe) cl V ifs ct)
    (he : ∀ (s : Shared) (H : Hp) (C : Addr) (q : List (Str × Addr)) (fp : List Addr) (xe : Value → Shared → Prop) (V : WX), TkC (Cx.blkX X s H scope (compEnvC scope q C X.env) fp xe) V → SE (Cx.blkX X s H scope (compEnvC scope q C X.env) fp xe) cl V elt m)
    (hs : ∀ x, foldedSetIterable iter X.env x = pure x := by intro _; rfl) (hs0 : X.stack = X.env :: X.outer := by rfl) (hf0 : X.env.frame = some X.env.locals := by rfl) : SE X cl W (.ListComp elt [⟨tg, iter, ifs, 0⟩] scope pos) (dLc im (own.map (·.2)) b ct m) :=
  ⟨⟨fun pins s σ H Q I w => by
    rw [eval_ListComp]
    refine lc_go hs0 hf0 tk hc hN hi ok hb hsl hg ht he hs I w fun D ce s' H' J q hn f => ⟨hn, fun h sb => ?_⟩
    obtain ⟨f0, f1, f2, f3, f4, f5⟩ := f
    exact ⟨.ref D, H', J.turned (t' := s'.toks) (fun c o hne e => (sb.2 c hne).trans e) f0 f1 f3 f4 f5, rfl, q⟩⟩⟩
theorem ss_setLc {i : Nat} {y : Str} {py : Pos} (tk : L2N.Takes X W) (hc : X.calm = true) (hN : X.N.Nodup) (hy : X.N[i]? = some y) (hyl : X.env.scope.names.lookup y = some .local)
    (hsw : swapsWith (.ListComp elt [⟨tg, iter, ifs, 0⟩] scope pos) (some (.Name y py)) spos.line X.env = pure true) (hi : SI X cl W tg iter wi im) (ok : BlkOk X.N X.env.scope scope own) (hb : GM X.K sl g b) (hsl : ∀ i ∈ sl, i ∈ own.map (·.2))
    (hg : ∀ (s : Shared) (H : Hp) (C : Addr) (q : List (Str × Addr)) (fp : List Addr) (xe : Value → Shared → Prop), PG (Cx.blkX X s H scope (compEnvC scope q C X.env) fp xe) tg g)
    (ht : ∀ (s : Shared) (H : Hp) (C : Addr) (q : List (Str × Addr)) (fp : List Addr) (xe : Value → Shared → Prop) (V : WX), TkC (Cx.blkX X s H scope (compEnvC scope q C X.env) fp xe) V → STs (Cx.blkX X s H scope (compEnvC scope q C X.env) fp xe) cl V ifs ct)
    (he : ∀ (s : Shared) (H : Hp) (C : Addr) (q : List (Str × Addr)) (fp : List Addr) (xe : Value → Shared → Prop) (V : WX), TkC (Cx.blkX X s H scope (compEnvC scope q C X.env) fp xe) V → SE (Cx.blkX X s H scope (compEnvC scope q C X.env) fp xe) cl V elt m)
    (hs : ∀ x, foldedSetIterable iter X.env x = pure x := by intro _; rfl) (hs0 : X.stack = X.env :: X.outer := by rfl) (hf0 : X.env.frame = some X.env.locals := by rfl) : SS X cl W (.Assign [.Name y py] (.ListComp elt [⟨tg, iter, ifs, 0⟩] scope pos) spos) (sSet i (dLc im (own.map (·.2)) b ct m)) :=
  ⟨⟨fun pins s σ H D I w => by
    obtain ⟨r, en, st, re, rs, po⟩ := w
    rw [exec_Assign_Name_used _ _ _ _ hsw]
    refine wpAny_bind (wpAny_standAt (wpAny_bind (wpAny_bind ?_)))
    refine wpAny_mono (lc_go (use := some (assign (.Name y py) X.env)) (Qf := fun _ s' => SP X pins D .next s') (Qv := fun v H' => D.nx (σ.set i (some v)) H') hs0 hf0 tk hc hN hi ok hb hsl hg ht he hs I
      ⟨r, en, st, re, rs, (Po.bind po).mono fun r1 H1 d st1 x1 s1 p1 v q => p1 r1 H1 .refl s1 _ ((re.mono x1.mn).set i q)⟩ fun L ce s' H' J q hn f => ?_) (fun _ s' hq => wpAny_pure (wpAny_pure hq)) fun _ _ z => z
    obtain ⟨f0, f1, f2, f3, f4, f5⟩ := f
    obtain ⟨m', hn⟩ := hn
    refine wpAny_assign_Name (store_ok2 (v := V.ref L) J hN hy (.inl hyl) rfl (fun s2 J2 ⟨a, sb, ha⟩ => ?_) (.inr hyl))
    have ne : ce.locals ≠ a := ha.elim (fun z => z ▸ f1) fun z e => f4 y a z e.symm
    exact ⟨⟨m', hn.sameBut sb ne⟩, fun h3 sb3 => ⟨_, H', J2.turned (t' := s2.toks) (fun c o hne e => (sb3.2 c hne).trans e) f0 f1 f3 f4 f5, q⟩⟩⟩⟩
end

/-! ### calls -/
def dCall (np : Nat) (f : List D → S → Out D) (m : AM) : EM := fun en st => (m en st).bind fun ds st1 => if ds.length = np then atEn en (f ds st1) else .bad
/-- the promise of a def that is worth f -/
def spD (K : Frag) (cl : Clm) (np : Nat) (f : List D → S → Out D) : Sp := fun vs H Q E => vs.length = np ∧ ∃ r st ds, RS K cl r st H ∧ RDs K H r ds vs ∧ match f ds st with
  | .ok d st' => ∀ r' H', Xt K r H r' H' → RS K cl r' st' H' → ∀ v, RD K H' r' d v → Q v H'
  | .exc e _ st' => ∀ r' H' c d, Xt K r H r' H' → RS K cl r' st' H' → RX K cl H' r' e c d → E c d H'
  | .bad => False
/-- the name x of the module is a def with np parameters that is worth f, at level k -/
def FnD (P : Program) (w : World) (K : Frag) (mg : Str → Option Value) (base : Heap) (cl : Clm) (x : Str) (np k : Nat) (f : List D → S → Out D) : Prop :=
  ∃ fa fd ps, mg x = some (.ref fa) ∧ PySem.W.keepIn K (.ref fa) = true ∧ Binds K fd ps [] ∧ FnOk P w K mg base (L2N.CX P w) k fa fd ps (spD K cl np f)
theorem tE_call {K : Frag} {cl : Clm} {W : WX} {np : Nat} {f : List D → S → Out D} {m : AM} {s : L2.St} {H : Hp} {Q : VK} (h : tE K cl W (dCall np f m) s H Q) : tA K cl W m s H fun vs H1 => spD K cl np f vs H1 Q (WE W s) := by
  obtain ⟨r, en, st, he, hs, hp⟩ := h
  refine ⟨r, en, st, he, hs, (Po.bind hp).mono fun r1 H1 ds st1 x1 s1 h1 vs q => ?_⟩
  split at h1
  · rename_i hl
    refine ⟨by rw [← q.length]; exact hl, r1, st1, ds, s1, q, ?_⟩
    cases e : f ds st1 with
    | ok d st' => rw [e] at h1; exact h1
    | exc x en' st' => rw [e] at h1; exact fun r' H' c d y z w => h1 r' H' s c d y z (he.mono (x1.trans y).mn) w
    | bad => rw [e] at h1; exact h1
  · exact h1.elim
section
variable {X : Cx} {cl : Clm} {W : WX} {e : Expr} {es : List Expr} {x : Str} {np k : Nat} {f : List D → S → Out D} {m : AM} {p pos : Pos}
theorem se_call (F : FnD X.prog X.w X.K X.mg X.base cl x np k f) (hr : Room k X.A) (tk : TkC X W) (hg : Gl X x) (ha : SA X cl W (e :: es) m) (hdb : (x == ("__debug__" : Str)) = false := by decide)
    (he : starEach (e :: es) X.env = (false, eval e X.env) :: starEach es X.env := by rfl) (hpl : (backTo pos (starEach es X.env)).any (·.1) = false := by rfl) : SE X cl W (.Call (.Name x p) (e :: es) [] pos) (dCall np f m) := by
  obtain ⟨fa, fd, ps, hm, hk, hb, F⟩ := F
  exact ⟨pe_of (pe_callS F hr hg hm hk hb tk ha.pa hdb he hpl) fun s H Q h => tE_call h⟩
theorem se_call0 (F : FnD X.prog X.w X.K X.mg X.base cl x np k f) (hr : Room k X.A) (tk : TkC X W) (hg : Gl X x) (hdb : (x == ("__debug__" : Str)) = false := by decide) : SE X cl W (.Call (.Name x p) [] [] pos) (dCall np f dNil) := by
  obtain ⟨fa, fd, ps, hm, hk, hb, F⟩ := F
  refine ⟨⟨fun pins s σ H Q I h => ?_⟩⟩
  refine wpAny_Call_Name_kw (ld_glob I hg hm ?_ hdb)
  obtain ⟨r, en, st, he, hs, hp⟩ := tE_call h
  exact PySem.W.callWith_K0 I.kIn hk (run_fnS (us := []) F hr hb (tk σ) I .nil (hp r H .refl hs [] .nil))
end

/-! ### a def by its body -/
def defD (np n : Nat) (body : SM) : List D → S → Out D := fun ds st => if ds.length = np then match body (ds.map some ++ List.replicate (n - np) none) st with
    | .ok (.ret d, _) st' => .ok d st'
    | .ok (.nx, _) st' => .ok .non st'
    | .ok _ _ => .bad
    | .exc e en st' => .exc e en st'
    | .bad => .bad
  else .bad
theorem RE.start {K : Frag} {H : Hp} {r : Rho} {ds : List D} {vs : List V} (N : List Str) (q : RDs K H r ds vs) : RE K H r (ds.map some ++ List.replicate (N.length - ds.length) none) (L2.start N vs) := by
  show RE K H r _ (vs.map some ++ List.replicate (N.length - vs.length) none)
  refine ⟨by rw [List.length_append, List.length_append, List.length_map, List.length_map, List.length_replicate, List.length_replicate, q.length], fun i d e => ?_⟩
  by_cases hi : i < ds.length
  · rw [List.getElem?_append_left (by rw [List.length_map]; exact hi), List.getElem?_map] at e
    rw [List.getElem?_append_left (by rw [List.length_map, ← q.length]; exact hi), List.getElem?_map]
    cases g : ds[i]? with
    | none => rw [g] at e; cases e
    | some x =>
      rw [g] at e
      cases e
      obtain ⟨v, q1, q2⟩ := q.get g
      exact ⟨v, by rw [q1]; rfl, q2⟩
  · rw [List.getElem?_append_right (by rw [List.length_map]; omega)] at e
    have := List.mem_of_getElem? e
    rw [List.mem_replicate] at this
    cases this.2
section
variable {P : Program} {w : World} {K : Frag} {mg : Str → Option Value} {base : Heap} {cl : Clm}
theorem okN {x qual : Str} {st : Stmt} {f : Addr} {fd : FuncData} {N ps : List Str} {k : Nat} {sp : Sp} (F : Fun K x qual st f fd) (S : FnScope N ps (defScope st)) (len : ∀ vs H Q E, sp vs H Q E → vs.length = ps.length)
    (hbody : ∀ (cdv : Value) (A : Around) (outer : List Env) (s : Shared) (H : Hp) (vs : List V) (Q : VK) (E : XK), Room k (A.deeper (envOfC qual (defScope st) s.heap.objs.size f cdv)) → sp vs H Q E →
      ∃ t, PSs (cxOf (L2N.CX P w) P w K mg base N qual (defScope st) f cdv A outer s H E) (defBody st) t ∧ t { nx := fun _ H' => Q .non H', rt := Q } (start N vs) H) : FnOk P w K mg base (L2N.CX P w) (k + 1) f fd ps sp := by
  obtain ⟨oc, od, kV, doc, pm, an, cdv, ct, osl, rfl, lk, hcd⟩ := F.ex
  exact fn_of lk hcd S len fun A outer s H vs Q E hr hsp => hbody cdv A outer s H vs Q E hr hsp
theorem fnOk_of {x qual : Str} {st : Stmt} {fa : Addr} {fd : FuncData} {N ps : List Str} {k np n : Nat} {body : SM} (F : Fun K x qual st fa fd) (sc : FnScope N ps (defScope st)) (h1 : ps.length = np) (h2 : N.length = n)
    (hbody : ∀ (cdv : Value) (A : Around) (outer : List Env) (s : Shared) (H : Hp) (E : XK), Room k (A.deeper (envOfC qual (defScope st) s.heap.objs.size fa cdv)) →
      L2N.Takes (cxOf (L2N.CX P w) P w K mg base N qual (defScope st) fa cdv A outer s H E) (fun c d _ H => E c d H) → SL (cxOf (L2N.CX P w) P w K mg base N qual (defScope st) fa cdv A outer s H E) cl (fun c d _ H => E c d H) (defBody st) body) :
    FnOk P w K mg base (L2N.CX P w) (k + 1) fa fd ps (spD K cl np (defD np n body)) := by
  subst h1 h2
  refine okN F sc (fun vs H Q E h => h.1) fun cdv A outer s H vs Q E hr h => ?_
  obtain ⟨hl, r, st0, ds, hs, q, hp⟩ := h
  refine ⟨_, (hbody cdv A outer s H E hr (L2N.takes_of rfl rfl rfl rfl)).pss, ?_⟩
  have hl2 : ds.length = ps.length := by rw [q.length]; exact hl
  refine ⟨r, ds.map some ++ List.replicate (N.length - ps.length) none, st0, by rw [← hl2]; exact .start N q, hs, ?_⟩
  unfold defD at hp
  rw [if_pos hl2] at hp
  cases e : body (ds.map some ++ List.replicate (N.length - ps.length) none) st0 with
  | bad => rw [e] at hp; exact hp
  | exc x en st' => rw [e] at hp; exact fun r' H' s' c d y z _ u => hp r' H' c d y z u
  | ok p st' =>
    obtain ⟨f, en⟩ := p
    rw [e] at hp
    cases f with
    | ret d => exact fun r' H' y z s' _ v qv => hp r' H' y z v qv
    | nx => exact fun r' H' y z s' _ => hp r' H' y z _ .non
    | bk => exact hp.elim
    | ct => exact hp.elim
theorem fnD_of {x qual : Str} {st : Stmt} {fa : Addr} {fd : FuncData} {N ps : List Str} {k np n : Nat} {body : SM} (F : Fun K x qual st fa fd) (sc : FnScope N ps (defScope st)) (h1 : ps.length = np) (h2 : N.length = n) (hm : mg x = some (.ref fa)) (hb : Binds K fd ps [])
    (hbody : ∀ (cdv : Value) (A : Around) (outer : List Env) (s : Shared) (H : Hp) (E : XK), Room k (A.deeper (envOfC qual (defScope st) s.heap.objs.size fa cdv)) →
      L2N.Takes (cxOf (L2N.CX P w) P w K mg base N qual (defScope st) fa cdv A outer s H E) (fun c d _ H => E c d H) → SL (cxOf (L2N.CX P w) P w K mg base N qual (defScope st) fa cdv A outer s H E) cl (fun c d _ H => E c d H) (defBody st) body) :
    FnD P w K mg base cl x np (k + 1) (defD np n body) := ⟨fa, fd, ps, hm, F.kp, hb, fnOk_of F sc h1 h2 hbody⟩
theorem FnD.mono {x : Str} {np j k : Nat} {f : List D → S → Out D} (F : FnD P w K mg base cl x np j f) (h : j ≤ k) : FnD P w K mg base cl x np k f :=
  let ⟨fa, fd, ps, a, b, c, d⟩ := F
  ⟨fa, fd, ps, a, b, c, d.mono h⟩
end

/-! ### built-ins by name -/
section
variable {X : Cx} {cl : Clm} {W : WX} {e : Expr} {es : List Expr} {x : Str} {f : List D → S → Out D} {q : List V → Hp → VK → Prop} {ma : AM} {p pos : Pos}
theorem se_callB {id : String} (hc : CallR X (.builtin id) q) (hf : OpN X.K cl f q) (hg : Gl X x) (hm : X.mg x = none) (hv : bootBuiltins x = some (.builtin id)) (ha : SA X cl W (e :: es) ma) (hn : x ≠ "__name__" := by decide) (hdb : (x == ("__debug__" : Str)) = false := by decide)
    (he : starEach (e :: es) X.env = (false, eval e X.env) :: starEach es X.env := by rfl) (hpl : (backTo pos (starEach es X.env)).any (·.1) = false := by rfl) : SE X cl W (.Call (.Name x p) (e :: es) [] pos) (dON f ma) :=
  ⟨pe_of (pe_callB hc hg hm hv ha.pa hn hdb he hpl) fun _ _ _ h => tE_on hf h⟩
theorem se_callTy {T : String} (hc : CallR X (.type T) q) (hf : OpN X.K cl f q) (hg : Gl X x) (hm : X.mg x = none) (hv : bootBuiltins x = some (.type T)) (ha : SA X cl W (e :: es) ma) (hn : x ≠ "__name__" := by decide) (hdb : (x == ("__debug__" : Str)) = false := by decide)
    (he : starEach (e :: es) X.env = (false, eval e X.env) :: starEach es X.env := by rfl) (hpl : (backTo pos (starEach es X.env)).any (·.1) = false := by rfl) : SE X cl W (.Call (.Name x p) (e :: es) [] pos) (dON f ma) :=
  ⟨pe_of (pe_callTy hc hg hm hv ha.pa hn hdb he hpl) fun _ _ _ h => tE_on hf h⟩
end
def dLen : List D → S → Out D
  | [.str z], st => if z.length ≤ sizeLine then .ok (.int z.length) st else .bad
  | [x], st => match seqD st x with
    | some l => .ok (.int l.length) st
    | none => .bad
  | _, _ => .bad
def dInt : List D → S → Out D
  | [.int i], st => .ok (.int i) st
  | [.bl k], st => .ok (.int (if k then 1 else 0)) st
  | [.str z], st => match PySem.intText? z with
    | some n => if z.length ≤ 640 then .ok (.int n) st else .bad
    | none => .bad
  | _, _ => .bad
def dStr : List D → S → Out D
  | [.int i], st => if i.natAbs.log2 < 1920 then .ok (.str (toString i)) st else .bad
  | _, _ => .bad
def dList : List D → S → Out D
  | [x], st => match seqD st x with
    | some l => .ok (.ref st.length) (st ++ [.lst l])
    | none => .bad
  | _, _ => .bad
def dTuple : List D → S → Out D
  | [x], st => match seqD st x with
    | some l => .ok (.tup l) st
    | none => .bad
  | _, _ => .bad
def dMax2 : List D → S → Out D
  | [.int i, .int j], st => .ok (.int (if j > i then j else i)) st
  | _, _ => .bad
def dMin2 : List D → S → Out D
  | [.int i, .int j], st => .ok (.int (if j < i then j else i)) st
  | _, _ => .bad
def dAbs : List D → S → Out D
  | [.int i], st => .ok (.int (if i < 0 then -i else i)) st
  | _, _ => .bad
section
variable {K : Frag} {cl : Clm}
theorem rds1 {H : Hp} {r : Rho} {x : D} {vs : List V} (h : RDs K H r [x] vs) : ∃ v, vs = [v] ∧ RD K H r x v := by
  obtain ⟨v, w, rfl, q1, q2⟩ := h.cons_inv
  have := q2.nil_inv; subst this
  exact ⟨v, rfl, q1⟩
theorem rds2 {H : Hp} {r : Rho} {x y : D} {vs : List V} (h : RDs K H r [x, y] vs) : ∃ v w, vs = [v, w] ∧ RD K H r x v ∧ RD K H r y w := by
  obtain ⟨v, w, rfl, q1, q2⟩ := h.cons_inv
  obtain ⟨u, rfl, q3⟩ := rds1 q2
  exact ⟨v, u, rfl, q1, q3⟩
abbrev pLen (K : Frag) : List V → Hp → VK → Prop := fun xs H Q => ∃ x n, xs = [x] ∧ LenV K x H n ∧ Q (.int n) H
theorem opn_len : OpN K cl dLen (pLen K) := by
  intro r st H W xs vs Q hs hx hp
  unfold dLen at hp
  split at hp
  · obtain ⟨v, rfl, q⟩ := rds1 hx
    split at hp
    · rename_i hz
      rw [q.str_inv]
      exact ⟨_, _, rfl, ⟨hz, rfl⟩, hp r H .refl hs _ .int⟩
    · exact hp.elim
  · obtain ⟨v, rfl, q⟩ := rds1 hx
    split at hp
    · rename_i l e
      obtain ⟨a, ys, rfl, q1, q2⟩ := seqD_of hs q e
      refine ⟨_, l.length, rfl, ?_, hp r H .refl hs _ .int⟩
      rcases q2 with ⟨_, _, q2⟩ | ⟨_, _, q2⟩
      · exact .inl ⟨ys, q2, q1.length⟩
      · exact .inr ⟨ys, q2, q1.length⟩
    · exact hp.elim
  · exact hp.elim
abbrev pInt : List V → Hp → VK → Prop := fun xs H Q => ((∃ i, xs = [.int i] ∧ Q (.int i) H) ∨ ∃ k, xs = [.bl k] ∧ Q (.int (if k then 1 else 0)) H) ∨ ∃ a n, xs = [.str a] ∧ PySem.intText? a = some n ∧ a.length ≤ 640 ∧ Q (.int n) H
theorem call_intA {X : Cx} : CallR X (.type "int") pInt := call_int1.or call_int_str
theorem opn_int : OpN K cl dInt pInt := by
  intro r st H W xs vs Q hs hx hp
  unfold dInt at hp
  split at hp
  · obtain ⟨v, rfl, q⟩ := rds1 hx
    rw [q.int_inv]
    exact .inl (.inl ⟨_, rfl, hp r H .refl hs _ .int⟩)
  · obtain ⟨v, rfl, q⟩ := rds1 hx
    rw [q.bl_inv]
    exact .inl (.inr ⟨_, rfl, hp r H .refl hs _ .int⟩)
  · obtain ⟨v, rfl, q⟩ := rds1 hx
    rw [q.str_inv]
    split at hp
    · rename_i n e
      split at hp
      · rename_i hz
        exact .inr ⟨_, n, rfl, e, hz, hp r H .refl hs _ .int⟩
      · exact hp.elim
    · exact hp.elim
  · exact hp.elim
abbrev pStr : List V → Hp → VK → Prop := fun xs H Q => ∃ i, xs = [.int i] ∧ i.natAbs.log2 < 1920 ∧ Q (.str (toString i)) H
theorem opn_str : OpN K cl dStr pStr := by
  intro r st H W xs vs Q hs hx hp
  unfold dStr at hp
  split at hp
  · obtain ⟨v, rfl, q⟩ := rds1 hx
    rw [q.int_inv]
    split at hp
    · rename_i hz
      exact ⟨_, rfl, hz, hp r H .refl hs _ .str⟩
    · exact hp.elim
  · exact hp.elim
abbrev pList (K : Frag) : List V → Hp → VK → Prop := fun xs H Q => ∃ p ys, xs = [.ref p] ∧ (SqL K H p ys ∨ SqT K H p ys) ∧ ∀ l, H l = none → Q (.ref l) (upd H l (.lst ys))
theorem opn_list : OpN K cl dList (pList K) := by
  intro r st H W xs vs Q hs hx hp
  unfold dList at hp
  split at hp
  · obtain ⟨v, rfl, q⟩ := rds1 hx
    split at hp
    · rename_i l e
      obtain ⟨a, ys, rfl, q1, q2⟩ := seqD_of hs q e
      refine ⟨a, ys, rfl, ?_, new_lst hs q1 hp⟩
      rcases q2 with ⟨_, _, q2⟩ | ⟨_, _, q2⟩
      · exact .inl q2
      · exact .inr q2
    · exact hp.elim
  · exact hp.elim
abbrev pTuple (K : Frag) : List V → Hp → VK → Prop := fun xs H Q => ∃ p ys, xs = [.ref p] ∧ ((SqL K H p ys ∧ ∀ l, H l = none → Q (.ref l) (upd H l (.tup ys))) ∨ (SqT K H p ys ∧ Q (.ref p) H))
theorem opn_tuple : OpN K cl dTuple (pTuple K) := by
  intro r st H W xs vs Q hs hx hp
  unfold dTuple at hp
  split at hp
  · obtain ⟨v, rfl, q⟩ := rds1 hx
    split at hp
    · rename_i l e
      obtain ⟨a, ys, rfl, q1, q2⟩ := seqD_of hs q e
      refine ⟨a, ys, rfl, ?_⟩
      rcases q2 with ⟨_, _, q2⟩ | ⟨_, _, q2⟩
      · exact .inl ⟨q2, new_tup hs q1 hp⟩
      · exact .inr ⟨q2, hp r H .refl hs _ (.tup q2 q1)⟩
    · exact hp.elim
  · exact hp.elim
abbrev pMax2 : List V → Hp → VK → Prop := fun xs H Q => ∃ i j, xs = [.int i, .int j] ∧ Q (.int (if j > i then j else i)) H
abbrev pMin2 : List V → Hp → VK → Prop := fun xs H Q => ∃ i j, xs = [.int i, .int j] ∧ Q (.int (if j < i then j else i)) H
theorem opn_max2 : OpN K cl dMax2 pMax2 := by
  intro r st H W xs vs Q hs hx hp
  unfold dMax2 at hp
  split at hp
  · obtain ⟨v, w, rfl, q1, q2⟩ := rds2 hx
    rw [q1.int_inv, q2.int_inv]
    exact ⟨_, _, rfl, hp r H .refl hs _ .int⟩
  · exact hp.elim
theorem opn_min2 : OpN K cl dMin2 pMin2 := by
  intro r st H W xs vs Q hs hx hp
  unfold dMin2 at hp
  split at hp
  · obtain ⟨v, w, rfl, q1, q2⟩ := rds2 hx
    rw [q1.int_inv, q2.int_inv]
    exact ⟨_, _, rfl, hp r H .refl hs _ .int⟩
  · exact hp.elim
abbrev pAbs : List V → Hp → VK → Prop := fun xs H Q => ∃ i, xs = [.int i] ∧ Q (.int (if i < 0 then -i else i)) H
theorem opn_abs : OpN K cl dAbs pAbs := by
  intro r st H W xs vs Q hs hx hp
  unfold dAbs at hp
  split at hp
  · obtain ⟨v, rfl, q1⟩ := rds1 hx
    rw [q1.int_inv]
    exact ⟨_, rfl, hp r H .refl hs _ .int⟩
  · exact hp.elim
end
/-- isinstance with a built-in class -/
def tyN (st : S) : D → Option String
  | .non => some "NoneType"
  | .bl _ => some "bool"
  | .int _ => some "int"
  | .str _ => some "str"
  | .tup _ => some "tuple"
  | .ref n => match st[n]? with
    | some (.lst _) => some "list"
    | some (.frz _) => some "list"
    | _ => none
  | .ty _ => none
def subTy (a b : String) : Option Bool := if b = "bool" ∨ b = "int" ∨ b = "str" ∨ b = "tuple" ∨ b = "list" then some (a = b ∨ (a = "bool" ∧ b = "int")) else none
def dIsi : List D → S → Out D
  | [x, .ty b], st => match tyN st x with
    | some a => match subTy a b with
      | some k => .ok (.bl k) st
      | none => .bad
    | none => .bad
  | _, _ => .bad
theorem subTy_kit {a b : String} {k : Bool} (ha : a = "NoneType" ∨ a = "bool" ∨ a = "int" ∨ a = "str" ∨ a = "tuple" ∨ a = "list") (h : subTy a b = some k) : kitB a b = some k := by
  unfold subTy at h
  split at h
  · rename_i hb
    cases h
    rcases ha with rfl | rfl | rfl | rfl | rfl | rfl <;> rcases hb with rfl | rfl | rfl | rfl | rfl <;> decide +kernel
  · cases h
theorem se_ty {X : Cx} {cl : Clm} {W : WX} {x : Str} {n : String} {pos : Pos} (hg : Gl X x) (hm : X.mg x = none) (hv : bootBuiltins x = some (.type n)) (hn : x ≠ "__name__" := by decide) (hd : (x == ("__debug__" : Str)) = false := by decide) : SE X cl W (.Name x pos) (dC (.ty n)) :=
  se_c (pe_bltn (v := .ty n) hg hm hv rfl hn hd) fun _ _ => .ty
theorem opn_isi {K : Frag} {cl : Clm} : OpN K cl dIsi (rIsi K) := by
  intro r st H W xs vs Q hs hx hp
  unfold dIsi at hp
  split at hp
  · rename_i x b
    obtain ⟨v, w, rfl, q1, q2⟩ := rds2 hx
    rw [q2.ty_inv]
    cases e : tyN st x with
    | none => rw [e] at hp; exact hp.elim
    | some a =>
      rw [e] at hp
      cases e2 : subTy a b with
      | none => simp only [e2] at hp; exact hp.elim
      | some k =>
        simp only [e2] at hp
        have done : ∀ t : String, TyX K H v (.type t) → a = t → (t = "NoneType" ∨ t = "bool" ∨ t = "int" ∨ t = "str" ∨ t = "tuple" ∨ t = "list") → rIsi K [v, .ty b] H Q := fun t ht hat hh => by
          subst hat
          exact ⟨v, .ty b, .type a, .type b, k, rfl, .ty b, ht, kit_ty (subTy_kit hh e2), hp r H .refl hs _ .bl⟩
        cases x with
        | non => cases e; rw [q1.non_inv] at done ⊢; exact done _ (.base .non) rfl (by simp)
        | bl y => cases e; rw [q1.bl_inv] at done ⊢; exact done _ (.base (.bl _)) rfl (by simp)
        | int y => cases e; rw [q1.int_inv] at done ⊢; exact done _ (.base (.int _)) rfl (by simp)
        | str y => cases e; rw [q1.str_inv] at done ⊢; exact done _ (.base (.str _)) rfl (by simp)
        | ty y => cases e
        | tup l =>
          cases e
          obtain ⟨p, ys, rfl, h1, h2⟩ := q1.tup_inv
          refine done "tuple" ?_ rfl (by simp)
          rcases h1 with (h1 | ⟨ob, h1⟩) | ⟨o, its, n, h1, h3, _⟩
          · exact .base (.tup h1)
          · exact .fTuple h1
          · exact .kTuple h1 h3
        | ref n =>
          obtain ⟨p, rfl, h1⟩ := q1.ref_inv
          have key : ∀ l, st[n]? = some (.lst l) ∨ st[n]? = some (.frz l) → TyX K H (.ref p) (.type "list") := fun l g => by
            obtain ⟨ys, h3, _⟩ := seq_at hs g h1
            rcases h3 with (h3 | ⟨ob, h3⟩) | ⟨o, its, n, h3, h4, _⟩
            · exact .base (.lst h3)
            · exact .base (.frz h3)
            · exact .kList h3 h4
          simp only [tyN] at e
          split at e
          · rename_i l g
            cases e
            exact done "list" (key l (.inl g)) rfl (by simp)
          · rename_i l g
            cases e
            exact done "list" (key l (.inr g)) rfl (by simp)
          · cases e
  · exact hp.elim
end Dn

/-! Dn, F: methods of built-ins, stores to items. -/
namespace Dn
open PySem L2

def isT (T : String) (st : S) : D → Bool
  | .str _ => T == "str"
  | .ref n => T == "list" && match st[n]? with
    | some (.lst _) => true
    | some (.frz _) => true
    | _ => false
  | _ => false
def dMt (T : String) (f : D → List D → S → Out D) (ma : EM) (mr : AM) : EM := fun en st => (ma en st).bind fun x st1 => if isT T st1 x then (mr en st1).bind fun xs st2 => f x xs st2 else .bad
theorem isT_of {K : Frag} {cl : Clm} {r : Rho} {st : S} {H : Hp} {T : String} {x : D} {v : V} (hs : RS K cl r st H) (q : RD K H r x v) (e : isT T st x = true) : tyV K T v H := by
  cases x with
  | str z =>
    rw [q.str_inv]
    exact beq_iff_eq.mp e
  | ref n =>
    obtain ⟨a, rfl, h1⟩ := q.ref_inv
    simp only [isT, Bool.and_eq_true, beq_iff_eq] at e
    obtain ⟨e1, e2⟩ := e
    refine .inl ⟨e1, ?_⟩
    split at e2
    · rename_i l g
      obtain ⟨xs, q1, _⟩ := seq_at hs (.inl g) h1
      exact ⟨xs, q1⟩
    · rename_i l g
      obtain ⟨xs, q1, _⟩ := seq_at hs (.inr g) h1
      exact ⟨xs, q1⟩
    · cases e2
  | _ => cases e
section
variable {X : Cx} {cl : Clm} {W : WX} {e o i : Expr} {es : List Expr} {name : Str} {T id : String} {f : D → List D → S → Out D} {q : V → List V → Hp → VK → Prop} {ma mi me : EM} {mr : AM} {p pos : Pos}
theorem se_mt (pa : PlainAttrs T) (slot : Slot T name id) (hty : typeOf (.builtin id) = pure (.type "method_descriptor")) (hm : MtR X id q) (hf : OpM X.K cl f q) (ho : SE X cl W o ma) (ha : SA X cl W (e :: es) mr)
    (h1 : attributeBase o name X.env (eval o X.env) = eval o X.env := by rfl)
    (h2 : ((backTo pos (starEach (e :: es) X.env)).all (fun x => !x.1) && (backToKw pos (keywordEach [] X.env)).all (fun x => x.1.isSome) && decide ((e :: es).length + ([] : List Keyword).length + (if ([] : List Keyword).isEmpty then 0 else 1) < 30)) = true := by rfl)
    (h3 : (p.endLine == pos.line) = true := by rfl) (h4 : starEach (e :: es) X.env = (false, eval e X.env) :: starEach es X.env := by rfl) (h5 : (backTo pos (starEach es X.env)).any (·.1) = false := by rfl) :
    SE X cl W (.Call (.Attribute o name p) (e :: es) [] pos) (dMt T f ma mr) :=
  ⟨pe_of (pe_bm pa slot hty hm ho.pe ha.pa h1 h2 h3 h4 h5) fun s H Q ⟨r, en, st, he, hs, hp⟩ => ⟨r, en, st, he, hs, (Po.bind hp).mono fun r1 H1 x st1 x1 s1 h1 v q1 => by
    split at h1
    · rename_i hk
      exact ⟨isT_of s1 q1 hk, r1, en, st1, he.mono x1.mn, s1, (Po.bind h1).mono fun r2 H2 ds st2 x2 s2 h2 vs q2 => hf r2 st2 H2 W x ds v vs Q s2 (q1.mono x2.mn) q2 h2⟩
    · exact h1.elim⟩⟩
theorem se_mt0 (pa : PlainAttrs T) (slot : Slot T name id) (hty : typeOf (.builtin id) = pure (.type "method_descriptor")) (hm : MtR X id q) (hf : OpM X.K cl f q) (ho : SE X cl W o ma)
    (h1 : attributeBase o name X.env (eval o X.env) = eval o X.env := by rfl) (h3 : (p.endLine == pos.line) = true := by rfl) : SE X cl W (.Call (.Attribute o name p) [] [] pos) (dMt T f ma dNil) :=
  ⟨pe_of (pe_bm0 pa slot hty hm ho.pe h1 h3) fun s H Q ⟨r, en, st, he, hs, hp⟩ => ⟨r, en, st, he, hs, (Po.bind hp).mono fun r1 H1 x st1 x1 s1 h1 v q1 => by
    split at h1
    · rename_i hk
      exact ⟨isT_of s1 q1 hk, hf r1 st1 H1 W x [] v [] Q s1 q1 .nil h1⟩
    · exact h1.elim⟩⟩

/-! ### o[i] = e -/
def sSetI (mo mi me : EM) : SM := fun en st => (me en st).bind fun d st1 => (mo en st1).bind fun o st2 => (mi en st2).bind fun i st3 => match o, i with
  | .ref n, .int k => match st3[n]? with
    | some (.lst xs) => match ixN xs.length k with
      | some j => .ok (.nx, en) (st3.set n (.lst (xs.set j d)))
      | none => .bad
    | _ => .bad
  | _, _ => .bad
theorem put_lst {K : Frag} {cl : Clm} {r : Rho} {st : S} {H : Hp} {n : Nat} {a : Addr} {l l' : List D} {xs xs' : List V} (hs : RS K cl r st H) (g : st[n]? = some (.lst l)) (h : r n = some a) (e : H a = some (.lst xs)) (q : RDs K H r l' xs') :
    RS K cl r (st.set n (.lst l')) (upd H a (.lst xs')) ∧ Xt K r H r (upd H a (.lst xs')) := by
  have mu : Mu (.lst xs) := .inl ⟨_, rfl⟩
  have mm : Mn K r H r (upd H a (.lst xs')) := ⟨fun _ _ z => z, fun b ys z => sqt_upd (mu.nt e) (mu.nf e) z⟩
  exact write_at hs (hs.ne0 g rfl) h e mu rfl ⟨xs', upd_same, q.mono mm⟩
theorem ss_setI {tpos : Pos} (ho : SE X cl W o ma) (hi : SE X cl W i mi) (he : SE X cl W e me) (ha : ∀ v, assign (.Subscript o i tpos) X.env v = (do
      let ov ← holding [v] (eval o X.env)
      let iv ← holding [v, ov] (eval i X.env)
      standAt tpos
      holding [v, ov, iv] (setItem ov iv v)
      release [v, ov, iv] []) := by intro _; rfl)
    (hs : swapsWithSole [.Subscript o i tpos] e pos.line X.env = pure false := by rfl) (hw : swappedStores [.Subscript o i tpos] e X.env = pure none := by rfl) (h1 : (assignEach [.Subscript o i tpos] X.env).map (·.2) = [assign (.Subscript o i tpos) X.env] := by rfl) :
    SS X cl W (.Assign [.Subscript o i tpos] e pos) (sSetI ma mi me) :=
  ⟨ps_of (ps_asg he.pe (pg_sub ho.pe hi.pe set_list ha) hs hw h1) fun D s H ⟨r, en, st, he, hs, hp⟩ => ⟨r, en, st, he, hs, (Po.bind hp).mono fun r1 H1 d st1 x1 s1 h1 v q1 =>
    ⟨r1, en, st1, he.mono x1.mn, s1, (Po.bind h1).mono fun r2 H2 o st2 x2 s2 h2 ov q2 => ⟨r2, en, st2, he.mono (x1.trans x2).mn, s2, (Po.bind h2).mono fun r3 H3 i st3 x3 s3 h3 iv q3 => by
      split at h3
      · rename_i n k
        obtain ⟨a, rfl, g1⟩ := (q2.mono x3.mn).ref_inv
        rw [q3.int_inv]
        split at h3
        · rename_i l g
          split at h3
          · rename_i j ej
            obtain ⟨xs, y1, y2⟩ := lst_at s3 g g1
            obtain ⟨z1, z2⟩ := put_lst s3 g g1 y1 (y2.set j (q1.mono (x2.trans x3).mn))
            exact ⟨a, xs, k, j, rfl, rfl, y1, by rw [← y2.length]; exact ej, h3 _ _ z2 z1 _ (he.mono (((x1.trans x2).trans x3).trans z2).mn)⟩
          · exact h3.elim
        · exact h3.elim
      · exact h3.elim⟩⟩⟩⟩
end

/-! ### methods of lists -/
def mAppend : D → List D → S → Out D
  | .ref n, [y], st => match st[n]? with
    | some (.lst xs) => if xs.length < sizeLine then .ok .non (st.set n (.lst (xs ++ [y]))) else .bad
    | _ => .bad
  | _, _, _ => .bad
def mExtend : D → List D → S → Out D
  | .ref n, [.ref m], st => match st[n]?, st[m]? with
    | some (.lst xs), some (.lst ys) => if xs.length + ys.length ≤ sizeLine then .ok .non (st.set n (.lst (xs ++ ys))) else .bad
    | _, _ => .bad
  | _, _, _ => .bad
def mPopAt : D → List D → S → Out D
  | .ref n, [.int i], st => match st[n]? with
    | some (.lst xs) => if -(2 ^ 63) ≤ i ∧ i < 2 ^ 63 then match seqIndex? i xs.length with
      | some k => match xs[k]? with
        | some y => .ok y (st.set n (.lst (xs.eraseIdx k)))
        | none => .bad
      | none => .bad
      else .bad
    | _ => .bad
  | _, _, _ => .bad
/-- the place of the first of the same -/
def firstAt (d : PyData) : List PyData → Option Nat
  | [] => none
  | z :: zs => if PyData.eqv z d then some 0 else (firstAt d zs).map (· + 1)
def mIndex : D → List D → S → Out D
  | .ref n, [y], st => match st[n]? with
    | some (.lst xs) => match tre st 12 y, mapO (tre st 11) xs with
      | some d, some ds => if (SeqAt.shaped d && SeqAt.shaped (.list ds)) = true then match firstAt d ds with
        | some j => .ok (.int (j : Nat)) st
        | none => .bad
        else .bad
      | _, _ => .bad
    | _ => .bad
  | _, _, _ => .bad
section
variable {K : Frag} {cl : Clm}
theorem opm_append : OpM K cl mAppend rAppend := by
  intro r st H W x xs v vs Q hs hx hxs hp
  unfold mAppend at hp
  split at hp
  · rename_i n y
    obtain ⟨a, rfl, g1⟩ := hx.ref_inv
    obtain ⟨w, rfl, q⟩ := rds1 hxs
    split at hp
    · rename_i l g
      split at hp
      · rename_i hz
        obtain ⟨ys, y1, y2⟩ := lst_at hs g g1
        obtain ⟨z1, z2⟩ := put_lst hs g g1 y1 (y2.append (.cons q .nil))
        exact ⟨a, ys, w, rfl, rfl, y1, by rw [← y2.length]; exact hz, hp _ _ z2 z1 _ .non⟩
      · exact hp.elim
    · exact hp.elim
  · exact hp.elim
theorem opm_extend : OpM K cl mExtend rExtend := by
  intro r st H W x xs v vs Q hs hx hxs hp
  unfold mExtend at hp
  split at hp
  · rename_i n y
    obtain ⟨a, rfl, g1⟩ := hx.ref_inv
    obtain ⟨w, rfl, q⟩ := rds1 hxs
    obtain ⟨b, rfl, g2⟩ := q.ref_inv
    split at hp
    · rename_i l l2 g g'
      split at hp
      · rename_i hz
        obtain ⟨ys, y1, y2⟩ := lst_at hs g g1
        obtain ⟨zs, w1, w2⟩ := lst_at hs g' g2
        obtain ⟨z1, z2⟩ := put_lst hs g g1 y1 (y2.append w2)
        exact ⟨a, b, ys, zs, rfl, rfl, y1, w1, by rw [← y2.length, ← w2.length]; exact hz, hp _ _ z2 z1 _ .non⟩
      · exact hp.elim
    · exact hp.elim
  · exact hp.elim
theorem opm_popAt : OpM K cl mPopAt rPopAt := by
  intro r st H W x xs v vs Q hs hx hxs hp
  unfold mPopAt at hp
  split at hp
  · rename_i n i
    obtain ⟨a, rfl, g1⟩ := hx.ref_inv
    obtain ⟨w, rfl, q⟩ := rds1 hxs
    rw [q.int_inv]
    split at hp
    · rename_i l g
      split at hp
      · rename_i hz
        split at hp
        · rename_i k ek
          split at hp
          · rename_i y ey
            obtain ⟨ys, y1, y2⟩ := lst_at hs g g1
            obtain ⟨u, q1, q2⟩ := y2.get ey
            obtain ⟨z1, z2⟩ := put_lst hs g g1 y1 (y2.eraseIdx k)
            exact ⟨a, ys, i, k, u, rfl, rfl, y1, hz.1, hz.2, by rw [← y2.length]; exact ek, q1, hp _ _ z2 z1 _ (q2.mono z2.mn)⟩
          · exact hp.elim
        · exact hp.elim
      · exact hp.elim
    · exact hp.elim
  · exact hp.elim
theorem firstAt_some {d : PyData} : ∀ {ds : List PyData} {j : Nat}, firstAt d ds = some j → ∃ z, ds[j]? = some z ∧ PyData.eqv z d = true ∧ ∀ (m : Nat) (z' : PyData), m < j → ds[m]? = some z' → PyData.eqv z' d = false
  | [], _, h => by simp [firstAt] at h
  | y :: ys, j, h => by
    simp only [firstAt] at h
    split at h
    · rename_i e
      cases h
      exact ⟨y, rfl, e, fun m _ hm => absurd hm (Nat.not_lt_zero _)⟩
    · rename_i e
      obtain ⟨i, e1, rfl⟩ := Option.map_eq_some_iff.mp h
      obtain ⟨z, q1, q2, q3⟩ := firstAt_some e1
      refine ⟨z, by simpa using q1, q2, fun m z' hm hz => ?_⟩
      cases m with
      | zero => simp at hz; subst hz; simpa using e
      | succ m => exact q3 m z' (by omega) (by simpa using hz)
theorem opm_index : OpM K cl mIndex (rIndexD K) := by
  intro r st H W x xs v vs Q hs hx hxs hp
  unfold mIndex at hp
  split at hp
  · rename_i n y
    obtain ⟨a, rfl, g1⟩ := hx.ref_inv
    obtain ⟨w, rfl, q⟩ := rds1 hxs
    split at hp
    · rename_i l g
      split at hp
      · rename_i d ds e1 e2
        split at hp
        · rename_i hc
          rw [Bool.and_eq_true] at hc
          split at hp
          · rename_i j ej
            obtain ⟨ys, y1, y2⟩ := lst_at hs g g1
            obtain ⟨z, q1, q2, q3⟩ := firstAt_some ej
            exact ⟨a, w, d, ds, j, z, rfl, rfl, .lst (.of y1) (dps_of (fun d q w g1 g2 => dp_of hs 11 d q w g1 g2) e2 y2), dp_of hs _ _ _ _ e1 q, hc.2, hc.1, q1, q2, q3, hp r H .refl hs _ .int⟩
          · exact hp.elim
        · exact hp.elim
      · exact hp.elim
    · exact hp.elim
  · exact hp.elim
end

theorem hu64 {A : Around} {k : Nat} (hr : Room k A) : A.units + 64 < cLine := by have := hr.un; omega
theorem hu65 {A : Around} {k : Nat} (hr : Room k A) : A.units + 65 < cLine := by have := hr.un; omega

/-! ### the law -/
/-- a def of the text as it stands behind the top -/
def DefAt (K : Frag) (mg : Str → Option Value) (x qual : Str) (st : Stmt) : Prop := ∃ fa fd, mg x = some (.ref fa) ∧ Fun K x qual st fa fd
theorem use_def {K : Frag} {h : Heap} {mg : Str → Option Value} {x qual : Str} {st : Stmt} {fa : Addr} {od an : Option Addr} {sl : Array (Option Value)} {oc kV dc pm cd ct : Value} {G : Prop} (X : K.In h) (N : h.Ns mainGlobals mg)
    (a : PySem.W.nsIn K mainGlobals x = some (some (.ref fa))) (l : K.lookup fa = some ⟨oc, od, .func (PySem.W.fnOf x qual (defArgs st) (defBody st) (defScope st) .none kV dc pm an cd ct), sl⟩) (c : PySem.W.codeIn K cd qual = true) (k : PySem.W.keepIn K (.ref fa) = true)
    (g : DefAt K mg x qual st → G) : G := g ⟨fa, _, PySem.W.mg_of X N a, fun_mk l c k⟩
theorem use_none {K : Frag} {h : Heap} {mg : Str → Option Value} {x : Str} {G : Prop} (X : K.In h) (N : h.Ns mainGlobals mg) (a : PySem.W.nsIn K mainGlobals x = some none) (g : mg x = none → G) : G := g (PySem.W.mg_none_of X N a)
theorem rds_ints {K : Frag} {H : Hp} {r : Rho} : ∀ ns : List Int, RDs K H r (ns.map D.int) (ns.map V.int)
  | [] => .nil
  | _ :: ns => .cons .int (rds_ints ns)
/-- the first state: the script alone -/
theorem rs_start {K : Frag} {cl : Clm} {H : Hp} {a : Addr} {ns : List Int} (hO : ∀ xs, H a ≠ some (.lst xs)) (hS : SqL K H a (ns.map V.int)) (tb : ∀ p ∈ cl.tb, GxR.TabG H p) (ht : ∀ a ∈ cl.hot, HotH H a) : RS K cl (fun n => if n = 0 then some a else none) [.frz (ns.map D.int)] H where
  dom := fun n b e => by
    by_cases q : n = 0
    · subst q; simp
    · simp [q] at e
  at_ := fun n o e => by
    have hn : n = 0 := by
      have := (List.getElem?_eq_some_iff.mp e).1
      simp at this; omega
    subst hn
    simp at e; subst e
    refine ⟨a, by simp, ns.map V.int, ?_, ?_⟩
    · rcases hS with (h | ⟨ob, h⟩) | h
      · exact absurd h (hO _)
      · exact .inl (.inr ⟨ob, fzH_of h⟩)
      · exact .inr h
    · exact rds_ints ns
  inj := fun m n b m0 n0 e1 e2 => by simp [m0] at e1
  fz := fun n o e => by
    have hn : n = 0 := by
      have := (List.getElem?_eq_some_iff.mp e).1
      simp at this; omega
    subst hn
    simp at e; subst e
    simp [isFrz]
  pos := by simp
  tabs := tb
  hotf := ht
theorem law_fin {P : Program} {w : World} {K : Frag} {mg : Str → Option Value} {cl : Clm} {k : Nat} {x y qual : Str} {st : Stmt} {fa : Addr} {f : List D → S → Out D} (dl : DefAt K mg x qual st) (hmg : mg x = some (.ref fa))
    (hb : ∀ (kV doc pm : Value) (an : Option Addr) (cdv ct u : Value), bindArgs (PySem.W.fnOf x qual (defArgs st) (defBody st) (defScope st) .none kV doc pm an cdv ct) ⟨[u], []⟩ = pure [(y, u)])
    (h : ∀ (base : Heap) (fa : Addr) (fd : FuncData), Fun K x qual st fa fd → FnOk P w K mg base (L2N.CX P w) k fa fd [y] (spD K cl 1 f)) :
    ∃ fd : FuncData, (∀ (s : Shared) (u : Value), BindsTo s fd ⟨[u], []⟩ [(y, u)]) ∧ ∀ base : Heap, K.In base → base.Ns mainGlobals mg → FnOk P w K mg base (L2N.CX P w) k fa fd [y] (spD K cl 1 f) := by
  obtain ⟨fa', fd, e, F⟩ := dl
  rw [hmg] at e; cases e
  refine ⟨fd, fun s u => ?_, fun base _ _ => h base fa fd F⟩
  obtain ⟨_, _, kV, doc, pm, an, cdv, ct, _, rfl, _, _⟩ := F.ex
  exact .of_eq (hb kV doc pm an cdv ct u)
end Dn

/-! Dn, G: classes: making, fields, methods, properties; names of the module that hold data. -/
namespace Dn
open PySem PySem.Spec PyProof.Rows L2

/-! ### what the text's classes have -/
def FldAt (K : Frag) (cl : Clm) (c f : Str) : Prop := ∃ C, cl c = some C ∧ Cls K C ∧ NoAttr K C f
def MethAt (K : Frag) (cl : Clm) (c m qual : Str) (st : Stmt) : Prop := ∃ C g fd, cl c = some C ∧ Cls K C ∧ Meth K C m g ∧ Fun K m qual st g fd
def PropAt (K : Frag) (cl : Clm) (c m qual : Str) (st : Stmt) : Prop := ∃ C p g fd, cl c = some C ∧ Cls K C ∧ PropOf K C m p g ∧ Fun K m qual st g fd
def MkAt (K : Frag) (cl : Clm) (mg : Str → Option Value) (c qual : Str) (st : Stmt) : Prop := ∃ C g fd, cl c = some C ∧ mg c = some (.ref C) ∧ Mk K C g ∧ Fun K "__init__" qual st g fd
section
variable (P : Program) (w : World) (K : Frag) (mg : Str → Option Value) (base : Heap) (cl : Clm)
def MtD (c m : Str) (np k : Nat) (f : List D → S → Out D) : Prop :=
  ∃ C g fd ps, cl c = some C ∧ Cls K C ∧ Meth K C m g ∧ Binds K fd ps [] ∧ FnOk P w K mg base (L2N.CX P w) k g fd ps (spD K cl np f)
def PrD (c m : Str) (k : Nat) (f : List D → S → Out D) : Prop :=
  ∃ C p g fd ps, cl c = some C ∧ Cls K C ∧ PropOf K C m p g ∧ Binds K fd ps [] ∧ FnOk P w K mg base (L2N.CX P w) k g fd ps (spD K cl 1 f)
def MkD (c : Str) (np k : Nat) (f : List D → S → Out D) : Prop :=
  ∃ C g fd ps, cl c = some C ∧ mg c = some (.ref C) ∧ Mk K C g ∧ Binds K fd ps [] ∧ FnOk P w K mg base (L2N.CX P w) k g fd ps (spD K cl np f)
end
theorem all_nil {α : Type} {P : α → Prop} : ∀ x ∈ ([] : List α), P x := fun _ h => nomatch h
theorem all_cons {α : Type} {P : α → Prop} {a : α} {l : List α} (h : P a) (t : ∀ x ∈ l, P x) : ∀ x ∈ a :: l, P x := fun x hx => by
  rcases List.mem_cons.mp hx with rfl | z
  · exact h
  · exact t x z
section
variable {P : Program} {w : World} {K : Frag} {mg : Str → Option Value} {base : Heap} {cl : Clm} {c m : Str} {np j k : Nat} {f : List D → S → Out D}
theorem MtD.mono (F : MtD P w K mg base cl c m np j f) (h : j ≤ k) : MtD P w K mg base cl c m np k f := let ⟨C, g, fd, ps, a, b, d, e, F⟩ := F; ⟨C, g, fd, ps, a, b, d, e, F.mono h⟩
theorem PrD.mono (F : PrD P w K mg base cl c m j f) (h : j ≤ k) : PrD P w K mg base cl c m k f := let ⟨C, p, g, fd, ps, a, b, d, e, F⟩ := F; ⟨C, p, g, fd, ps, a, b, d, e, F.mono h⟩
theorem MkD.mono (F : MkD P w K mg base cl c np j f) (h : j ≤ k) : MkD P w K mg base cl c np k f := let ⟨C, g, fd, ps, a, b, d, e, F⟩ := F; ⟨C, g, fd, ps, a, b, d, e, F.mono h⟩
end

/-! ### fields by name -/
def putD (f : Str) (v : D) : List (Str × D) → List (Str × D)
  | [] => [(f, v)]
  | (g, x) :: r => if g = f then (g, v) :: r else (g, x) :: putD f v r
section
variable {K : Frag} {H : Hp} {r : Rho}
theorem RF.nil_inv {vs : List (Str × V)} (h : RF K H r [] vs) : vs = [] := by cases h; rfl
theorem RF.put {f : Str} {d : D} {v : V} (q : RD K H r d v) : ∀ {fs : List (Str × D)} {vs : List (Str × V)}, RF K H r fs vs → RF K H r (putD f d fs) (putF f v vs)
  | [], _, .nil => .cons ⟨rfl, q⟩ .nil
  | (g, x) :: fs, (g', y) :: vs, .cons h t => by
    have e : g = g' := h.1
    subst e
    by_cases z : g = f
    · unfold putD putF
      rw [if_pos z, if_pos z]
      exact .cons ⟨rfl, q⟩ t
    · unfold putD putF
      rw [if_neg z, if_neg z]
      exact .cons h (RF.put q t)
theorem RF.length {fs : List (Str × D)} {vs : List (Str × V)} (h : RF K H r fs vs) : fs.length = vs.length := Paired.length h
theorem RF.look {f : Str} : ∀ {fs : List (Str × D)} {vs : List (Str × V)}, RF K H r fs vs → (fs.lookup f = none ∧ vs.lookup f = none) ∨ ∃ d v, fs.lookup f = some d ∧ vs.lookup f = some v ∧ RD K H r d v
  | [], _, .nil => .inl ⟨rfl, rfl⟩
  | (g, x) :: fs, (g', y) :: vs, .cons h t => by
    have e : g = g' := h.1
    subst e
    by_cases z : (f == g) = true
    · exact .inr ⟨x, y, by simp only [List.lookup, z], by simp only [List.lookup, z], h.2⟩
    · have z' : (f == g) = false := by simpa using z
      rcases RF.look (f := f) t with ⟨q1, q2⟩ | ⟨d, v, q1, q2, q3⟩
      · exact .inl ⟨by simp only [List.lookup, z']; exact q1, by simp only [List.lookup, z']; exact q2⟩
      · exact .inr ⟨d, v, by simp only [List.lookup, z']; exact q1, by simp only [List.lookup, z']; exact q2, q3⟩
theorem ins_at {cl : Clm} {st : S} {n : Nat} {a : Addr} {c : Str} {fs : List (Str × D)} (hs : RS K cl r st H) (g : st[n]? = some (.ins c fs)) (h : r n = some a) : ∃ C dx vs, cl c = some C ∧ H a = some (.ins C dx vs) ∧ RF K H r fs vs := by
  obtain ⟨b, e1, e2⟩ := hs.at_ n _ g
  rw [h] at e1; cases e1
  exact e2
end

/-! ### e.f -/
def dFld (cs : List Str) (f : Str) (m : EM) : EM := fun en st => (m en st).bind fun d st1 => match d with
  | .ref n => match st1[n]? with
    | some (.ins c fs) => if cs.contains c then match fs.lookup f with
        | some x => .ok x st1
        | none => .bad
      else .bad
    | _ => .bad
  | _ => .bad
theorem se_fld {X : Cx} {cl : Clm} {W : WX} {e : Expr} {f : Str} {pos : Pos} {cs : List Str} {m : EM} (he : SE X cl W e m) (hc : ∀ c ∈ cs, FldAt X.K cl c f) (hb : attributeBase e f X.env (eval e X.env) = eval e X.env := by rfl) :
    SE X cl W (.Attribute e f pos) (dFld cs f m) :=
  ⟨pe_of (pe_fld he.pe hb) fun s H Q ⟨r, en, st, he, hs, hp⟩ => ⟨r, en, st, he, hs, (Po.bind hp).mono fun r1 H1 d st1 x1 s1 h1 v q => by
    split at h1
    · rename_i n
      obtain ⟨a, rfl, g1⟩ := q.ref_inv
      split at h1
      · rename_i c fs g
        split at h1
        · rename_i hm
          obtain ⟨C, dx, vs, k1, k2, k3⟩ := ins_at s1 g g1
          obtain ⟨C', z1, z2, z3⟩ := hc c (List.contains_iff_mem.mp hm)
          rw [k1] at z1; cases z1
          split at h1
          · rename_i x ex
            rcases k3.look (f := f) with ⟨y1, _⟩ | ⟨d', v', y1, y2, y3⟩
            · rw [ex] at y1; cases y1
            · rw [ex] at y1; cases y1
              exact ⟨a, C, dx, vs, v', rfl, k2, z2, z3, y2, h1 r1 H1 .refl s1 v' y3⟩
          · exact h1.elim
        · exact h1.elim
      · exact h1.elim
    · exact h1.elim⟩⟩

/-! ### e.f = value -/
def sFldS (cs : List Str) (f : Str) (mo mv : EM) : SM := fun en st => (mv en st).bind fun d st1 => (mo en st1).bind fun o st2 => match o with
  | .ref n => match st2[n]? with
    | some (.ins c fs) => if cs.contains c && decide (fs.length < 1000) then .ok (.nx, en) (st2.set n (.ins c (putD f d fs))) else .bad
    | _ => .bad
  | _ => .bad
theorem put_ins {K : Frag} {cl : Clm} {r : Rho} {st : S} {H : Hp} {n : Nat} {a C dx : Addr} {c : Str} {fs fs' : List (Str × D)} {vs vs' : List (Str × V)} (hs : RS K cl r st H) (g : st[n]? = some (.ins c fs)) (h : r n = some a) (hc : cl c = some C)
    (e : H a = some (.ins C dx vs)) (q : RF K H r fs' vs') : RS K cl r (st.set n (.ins c fs')) (upd H a (.ins C dx vs')) ∧ Xt K r H r (upd H a (.ins C dx vs')) := by
  have mu : Mu (.ins C dx vs) := .inr (.inl ⟨_, _, _, rfl⟩)
  have mm : Mn K r H r (upd H a (.ins C dx vs')) := ⟨fun _ _ z => z, fun b ys z => sqt_upd (mu.nt e) (mu.nf e) z⟩
  exact write_at hs (hs.ne0 g rfl) h e mu rfl ⟨C, dx, vs', hc, upd_same, q.mono mm⟩
theorem ss_fld {X : Cx} {cl : Clm} {W : WX} {o value : Expr} {f : Str} {pos pos' : Pos} {cs : List Str} {mo mv : EM} (ho : SE X cl W o mo) (hv : SE X cl W value mv) (hc : ∀ c ∈ cs, FldAt X.K cl c f)
    (hs : swapsWith value (some (.Attribute o f pos')) pos.line X.env = pure false := by rfl) : SS X cl W (.Assign [.Attribute o f pos'] value pos) (sFldS cs f mo mv) :=
  ⟨ps_of (ps_fld ho.pe hv.pe hs) fun D s H ⟨r, en, st, he, hs, hp⟩ => ⟨r, en, st, he, hs, (Po.bind hp).mono fun r1 H1 d st1 x1 s1 h1 v q => ⟨r1, en, st1, he.mono x1.mn, s1, (Po.bind h1).mono fun r2 H2 o st2 x2 s2 h2 v2 q2 => by
    split at h2
    · rename_i n
      obtain ⟨a, rfl, g1⟩ := q2.ref_inv
      split at h2
      · rename_i c fs g
        split at h2
        · rename_i hm
          rw [Bool.and_eq_true] at hm
          obtain ⟨C, dx, vs, k1, k2, k3⟩ := ins_at s2 g g1
          obtain ⟨C', z1, z2, z3⟩ := hc c (List.contains_iff_mem.mp hm.1)
          rw [k1] at z1; cases z1
          obtain ⟨y1, y2⟩ := put_ins s2 g g1 k1 k2 (k3.put (f := f) (q.mono x2.mn))
          exact ⟨a, C, dx, vs, rfl, k2, z2, z3, by rw [← k3.length]; exact of_decide_eq_true hm.2, h2 _ _ y2 y1 s (he.mono ((x1.trans x2).trans y2).mn)⟩
        · exact h2.elim
      · exact h2.elim
    · exact h2.elim⟩⟩⟩

/-! ### o.m(..) -/
def dMet (tab : List (Str × (List D → S → Out D))) (m : Str) (np : Nat) (mo : EM) (ma : AM) : EM := fun en st => (mo en st).bind fun o st1 => match o with
  | .ref n => match st1[n]? with
    | some (.ins c fs) => match fs.lookup m, tab.lookup c with
      | none, some f => (ma en st1).bind fun ds st2 => if ds.length + 1 = np then atEn en (f (.ref n :: ds) st2) else .bad
      | _, _ => .bad
    | _ => .bad
  | _ => .bad
def tMtG (X : Cx) (W : WX) (k : Nat) (m : Str) (ta : TE) (t : TA) : TE := fun σ H Q => ta σ H fun x H1 => ∃ a C dx fs g fd ps sp, x = .ref a ∧ H1 a = some (.ins C dx fs) ∧ fs.lookup m = none ∧ Cls X.K C ∧ Meth X.K C m g ∧ Binds X.K fd ps [] ∧
  FnOk X.prog X.w X.K X.mg X.base (L2N.CX X.prog X.w) k g fd ps sp ∧ t σ H1 fun vs H2 => sp (x :: vs) H2 Q (WE W σ)
theorem lookup_mem {α : Type} {c : Str} : ∀ {tab : List (Str × α)} {f : α}, tab.lookup c = some f → (c, f) ∈ tab
  | [], _, h => by cases h
  | (d, g) :: tab, f, h => by
    by_cases z : (c == d) = true
    · simp only [List.lookup, z] at h
      cases h
      rw [beq_iff_eq.mp z]
      exact List.mem_cons_self
    · have z' : (c == d) = false := by simpa using z
      simp only [List.lookup, z'] at h
      exact List.mem_cons_of_mem _ (lookup_mem h)
section
variable {X : Cx} {cl : Clm} {W : WX} {o e : Expr} {es : List Expr} {m : Str} {np k : Nat} {p pos apos : Pos} {mo : EM} {ma : AM} {tab : List (Str × (List D → S → Out D))} {pl : Sem Bool}
theorem tE_met {es : List Expr} (hT : ∀ q ∈ tab, MtD X.prog X.w X.K X.mg X.base cl q.1 m np k q.2) {s : L2.St} {H : Hp} {Q : VK} (h : tE X.K cl W (dMet tab m np mo ma) s H Q) : tMtG X W k m (tE X.K cl W mo) (tA X.K cl W ma) s H Q := by
  obtain ⟨r, en, st, he, hs, hp⟩ := h
  refine ⟨r, en, st, he, hs, (Po.bind hp).mono fun r1 H1 d st1 x1 s1 h1 v q => ?_⟩
  split at h1
  · rename_i n
    obtain ⟨a, rfl, g1⟩ := q.ref_inv
    split at h1
    · rename_i c fs g
      split at h1
      · rename_i f e1 e2
        obtain ⟨C, dx, vs, k1, k2, k3⟩ := ins_at s1 g g1
        obtain ⟨C', gg, fd, ps, z1, z2, z3, z4, z5⟩ := hT (c, f) (lookup_mem e2)
        rw [show cl (c, f).1 = some C from k1] at z1; cases z1
        have z6 : FnOk X.prog X.w X.K X.mg X.base (L2N.CX X.prog X.w) k gg fd ps (spD X.K cl np f) := z5
        have hn : vs.lookup m = none := by
          rcases k3.look (f := m) with ⟨_, y⟩ | ⟨_, _, y, _, _⟩
          · exact y
          · rw [e1] at y; cases y
        refine ⟨a, C, dx, vs, gg, fd, ps, _, rfl, k2, hn, z2, z3, z4, z6, r1, en, st1, he.mono x1.mn, s1, (Po.bind h1).mono fun r2 H2 ds st2 x2 s2 h2 us q2 => ?_⟩
        split at h2
        · rename_i hl
          refine ⟨by rw [List.length_cons, ← q2.length]; exact hl, r2, st2, .ref n :: ds, s2, .cons (.ref (x2.ext _ _ g1)) q2, ?_⟩
          cases ef : f (.ref n :: ds) st2 with
          | ok d st' => rw [ef] at h2; exact h2
          | exc x en' st' => rw [ef] at h2; exact fun r' H' c d y z w => h2 r' H' s c d y z (he.mono ((x1.trans x2).trans y).mn) w
          | bad => rw [ef] at h2; exact h2
        · exact h2.elim
      · exact h1.elim
    · exact h1.elim
  · exact h1.elim
theorem se_met (ho : SE X cl W o mo) (hT : ∀ q ∈ tab, MtD X.prog X.w X.K X.mg X.base cl q.1 m np k q.2) (hr : Room k X.A) (tk : TkC X W) (ha : SA X cl W (e :: es) ma)
    (hst : starEach (e :: es) X.env = (false, eval e X.env) :: starEach es X.env := by rfl) (hpl : (backTo pos (starEach es X.env)).any (·.1) = false := by rfl)
    (ht : eval (.Call (.Attribute o m apos) (e :: es) [] pos) X.env = (do
      let ov ← eval o X.env
      standAt apos.atName
      let (f, first) ← holding [ov] (getMethod ov m pl)
      callWith pos f first (backTo pos (starEach (e :: es) X.env)) (backToKw pos (keywordEach [] X.env))) := by rfl) :
    SE X cl W (.Call (.Attribute o m apos) (e :: es) [] pos) (dMet tab m np mo ma) := by
  refine ⟨⟨fun pins s σ H Q I h => ?_⟩⟩
  refine PySem.W.methodCall_KW (pl := pl) (thn (ho.pe.run pins s σ H _ I (tE_met (es := []) hT h)) fun u s1 ⟨x, H1, I1, rx, a, C, dx, fs, g, fd, ps, sp, ex, ea, l, c, hm, hb, F, q⟩ => ?_) ht
  subst ex
  obtain rfl : u = Value.ref a := rx
  refine getmeth_ok I1 ea c hm l ?_
  refine PySem.W.callWith_K (first := [.ref a]) (h₀ := X.base) I.ok.mod.kin hm.kp (thn (ha.pa.run pos pins s1 σ H1 _ I1 q) fun us s2 ⟨vs, H2, I2, r, q2⟩ => ⟨I2.kIn, ?_⟩) hst hpl
  exact run_fnS (us := .ref a :: us) (vs := .ref a :: vs) (E := WE W) F hr hb (tk σ) I2 (.cons rfl r) q2
theorem se_met0 (ho : SE X cl W o mo) (hT : ∀ q ∈ tab, MtD X.prog X.w X.K X.mg X.base cl q.1 m np k q.2) (hr : Room k X.A) (tk : TkC X W)
    (ht : eval (.Call (.Attribute o m apos) [] [] pos) X.env = (do
      let ov ← eval o X.env
      standAt apos.atName
      let (f, first) ← holding [ov] (getMethod ov m pl)
      callWith pos f first (backTo pos (starEach [] X.env)) (backToKw pos (keywordEach [] X.env))) := by rfl) :
    SE X cl W (.Call (.Attribute o m apos) [] [] pos) (dMet tab m np mo dNil) := by
  refine ⟨⟨fun pins s σ H Q I h => ?_⟩⟩
  refine PySem.W.methodCall_KW (pl := pl) (thn (ho.pe.run pins s σ H _ I (tE_met (es := []) hT h)) fun u s1 ⟨x, H1, I1, rx, a, C, dx, fs, g, fd, ps, sp, ex, ea, l, c, hm, hb, F, q⟩ => ?_) ht
  subst ex
  obtain rfl : u = Value.ref a := rx
  refine getmeth_ok I1 ea c hm l ?_
  obtain ⟨r, en, st, he, hs, hp⟩ := q
  exact PySem.W.callWith_K0 (first := [.ref a]) I1.kIn hm.kp (run_fnS (us := [.ref a]) (vs := [.ref a]) (E := WE W) F hr hb (tk σ) I1 (.cons rfl .nil) (hp r H1 .refl hs [] .nil))
end

/-! ### e.f, a property -/
def dProp (tab : List (Str × (List D → S → Out D))) (mo : EM) : EM := fun en st => (mo en st).bind fun o st1 => match o with
  | .ref n => match st1[n]? with
    | some (.ins c _) => match tab.lookup c with
      | some f => match f [.ref n] st1 with
        | .ok d st2 => .ok d st2
        | _ => .bad
      | none => .bad
    | _ => .bad
  | _ => .bad
theorem se_prop {X : Cx} {cl : Clm} {W : WX} {e : Expr} {f : Str} {k : Nat} {pos : Pos} {mo : EM} {tab : List (Str × (List D → S → Out D))} (ho : SE X cl W e mo) (hT : ∀ q ∈ tab, PrD X.prog X.w X.K X.mg X.base cl q.1 f k q.2) (hr : Room (k + 1) X.A)
    (hab : attributeBase e f X.env (eval e X.env) = eval e X.env := by rfl) : SE X cl W (.Attribute e f pos) (dProp tab mo) := by
  refine ⟨⟨fun pins s σ H Q I h => ?_⟩⟩
  obtain ⟨r, en, st, he, hs, hp⟩ := h
  refine attr_of hab (thn (ho.pe.run pins s σ H (fun x H1 => ∃ a C dx fs p g fd ps sp, x = .ref a ∧ H1 a = some (.ins C dx fs) ∧ Cls X.K C ∧ PropOf X.K C f p g ∧ Binds X.K fd ps [] ∧ FnOk X.prog X.w X.K X.mg X.base (L2N.CX X.prog X.w) k g fd ps sp ∧ sp [x] H1 Q fun _ _ _ => False) I ?_) ?_)
  · refine ⟨r, en, st, he, hs, (Po.bind hp).mono fun r1 H1 d st1 x1 s1 h1 v q => ?_⟩
    split at h1
    · rename_i n
      obtain ⟨a, rfl, g1⟩ := q.ref_inv
      split at h1
      · rename_i c fs g
        split at h1
        · rename_i ff e2
          obtain ⟨C, dx, vs, k1, k2, k3⟩ := ins_at s1 g g1
          obtain ⟨C', pp, gg, fd, ps, z1, z2, z3, z4, z5⟩ := hT (c, ff) (lookup_mem e2)
          rw [show cl (c, ff).1 = some C from k1] at z1; cases z1
          have z6 : FnOk X.prog X.w X.K X.mg X.base (L2N.CX X.prog X.w) k gg fd ps (spD X.K cl 1 ff) := z5
          refine ⟨a, C, dx, vs, pp, gg, fd, ps, _, rfl, k2, z2, z3, z4, z6, rfl, r1, st1, [.ref n], s1, .cons (.ref g1) .nil, ?_⟩
          cases ef : ff [.ref n] st1 with
          | ok d st' => rw [show ff [.ref n] st1 = _ from ef] at h1; exact h1
          | exc x en' st' => rw [show ff [.ref n] st1 = _ from ef] at h1; exact h1.elim
          | bad => rw [show ff [.ref n] st1 = _ from ef] at h1; exact h1.elim
        · exact h1.elim
      · exact h1.elim
    · exact h1.elim
  · rintro u s1 ⟨x, H1, I1, rx, a, C, dx, fs, p, g, fd, ps, sp, ex, ea, c, hp', hb, F, q⟩
    subst ex
    obtain rfl : u = Value.ref a := rx
    exact getprop_ok (dvs := []) (ds := []) I1 ea c hp' F hr hb .nil (fun _ _ _ _ _ _ _ z => by
      obtain ⟨_, _, _, _, _, _, _, _, _, _, _, _, z⟩ := z
      exact z.elim) q

/-! ### C(..) -/
def dMake (c : Str) (np : Nat) (f : List D → S → Out D) (m : AM) : EM := fun en st => (m en st).bind fun ds st1 => if ds.length + 1 = np then atEn en ((f (.ref st1.length :: ds) (st1 ++ [.ins c []])).bind fun d st2 => match d with
    | .non => .ok (.ref st1.length) st2
    | _ => .bad) else .bad
section
variable {X : Cx} {cl : Clm} {W : WX} {e : Expr} {es : List Expr} {c : Str} {np k : Nat} {p pos : Pos} {ma : AM} {f : List D → S → Out D}
theorem run_makeS {C g : Addr} {fd : FuncData} {ps : List Str} {sp : Sp} {pins : List (Addr × Obj)} {σ : L2.St} {H : Hp} {s : Shared} {Q : VK} {us : List Value} {vs : List V} {E : L2.St → XK} {CX : CXT} (M : Mk X.K C g) (F : FnOk X.prog X.w X.K X.mg X.base CX k g fd ps sp) (hr : Room (k + 1) X.A) (hb : Binds X.K fd ps [])
    (hx : PassesAt CX X σ (E σ)) (I : Inv X pins σ H s) (r : Vals vs us)
    (h : ∀ x dx, H x = none → H dx = none → dx ≠ x → sp (.ref x :: vs) (upd (upd H dx (.own x)) x (.ins C dx [])) (fun v H2 => v = .non ∧ Q (.ref x) H2) (E σ)) :
    wpAny (model X.prog X.w) X.A (call (.ref C) us) (EP X pins σ Q) X.xe s := by
  have hq := h (s.heap.objs.size + 1) s.heap.objs.size (I.hok.fresh (Nat.le_succ _)) (I.hok.fresh (Nat.le_refl _)) (Nat.ne_of_lt (Nat.lt_succ_self _))
  have I2 := Inv.made (C := C) I
  have r2 : Vals (V.ref (s.heap.objs.size + 1) :: vs) (Value.ref (s.heap.objs.size + 1) :: us) := .cons rfl r
  have hl : (Value.ref (s.heap.objs.size + 1) :: us).length = ps.length := by
    have e := r2.length
    rw [F.len _ _ _ _ hq] at e
    exact e.symm
  have b := hb { s with heap := (s.heap.push PySem.W.emptyDict).push (PySem.W.instObj C s.heap.objs.size) } (Value.ref (s.heap.objs.size + 1) :: us) I2.kIn (by rw [List.append_nil]; exact hl)
  rw [List.append_nil] at b
  refine wpAny_call (make_map (f := g) I.kIn M.makes M.init (beq_iff_eq.mp M.fn) (codeAny_mono (F.run _ X.stack _ _ ⟨Value.ref (s.heap.objs.size + 1) :: us, []⟩ (Value.ref (s.heap.objs.size + 1) :: us) _ _ (E σ) (hr.make C us [])
    (I2.env0.make C us []) b r2 hq) fun r s' hq' => ?_))
  cases r with
  | error e => exact hx pins _ _ e s' I2 hq'
  | ok fl =>
    cases fl with
    | ret u =>
      obtain ⟨v, H', I3, rv, ev, q3⟩ := I2.after hq'
      subst ev
      exact ⟨rv, ⟨V.ref (s.heap.objs.size + 1), H', I3, rfl, q3⟩⟩
    | next => exact False.elim hq'
    | brk => exact False.elim hq'
    | cont => exact False.elim hq'
theorem make_rs {K : Frag} {r : Rho} {st : S} {H : Hp} {x dx C : Addr} (hs : RS K cl r st H) (hc : cl c = some C) (hx : H x = none) (hd : H dx = none) (ne : dx ≠ x) :
    RS K cl (nxt r st.length x) (st ++ [.ins c []]) (upd (upd H dx (.own x)) x (.ins C dx [])) ∧ Xt K r H (nxt r st.length x) (upd (upd H dx (.own x)) x (.ins C dx [])) := by
  have h1 : RS K cl r st (upd H dx (.own x)) := hs.fresh hd
  have hx1 : (upd H dx (.own x)) x = none := by rw [upd_ne (Ne.symm ne)]; exact hx
  obtain ⟨a, b⟩ := push_new (u := .ins C dx []) (o := .ins c []) h1 hx1 ⟨C, dx, [], hc, upd_same, .nil⟩ rfl
  exact ⟨a, (Xt.fresh hd).trans b⟩
theorem tE_make {K : Frag} {C : Addr} (hc : cl c = some C) {s : L2.St} {H : Hp} {Q : VK} (h : tE K cl W (dMake c np f ma) s H Q) : tA K cl W ma s H fun vs H1 => ∀ x dx, H1 x = none → H1 dx = none → dx ≠ x →
    spD K cl np f (.ref x :: vs) (upd (upd H1 dx (.own x)) x (.ins C dx [])) (fun v H2 => v = .non ∧ Q (.ref x) H2) (WE W s) := by
  obtain ⟨r, en, st, he, hs, hp⟩ := h
  refine ⟨r, en, st, he, hs, (Po.bind hp).mono fun r1 H1 ds st1 x1 s1 h1 vs q x dx hx hd ne => ?_⟩
  split at h1
  · rename_i hl
    obtain ⟨a, b⟩ := make_rs s1 hc hx hd ne
    refine ⟨by rw [List.length_cons, ← q.length]; exact hl, _, _, .ref st1.length :: ds, a, .cons (.ref nxt_self) (q.mono b.mn), ?_⟩
    cases e : f (.ref st1.length :: ds) (st1 ++ [.ins c []]) with
    | ok d st' =>
      rw [e] at h1
      intro r' H' y z v hv
      cases d with
      | non =>
        refine ⟨hv.non_inv, ?_⟩
        exact h1 r' H' (b.trans y) z _ (.ref (y.ext _ _ nxt_self))
      | _ => exact h1.elim
    | exc x en' st' => rw [e] at h1; exact fun r' H' c d y z w => h1 r' H' s c d (b.trans y) z (he.mono (x1.trans (b.trans y)).mn) w
    | bad => rw [e] at h1; exact h1
  · exact h1.elim
theorem se_make (M : MkD X.prog X.w X.K X.mg X.base cl c np k f) (hr : Room (k + 1) X.A) (tk : TkC X W) (hg : Gl X c) (ha : SA X cl W (e :: es) ma) (hdb : (c == ("__debug__" : Str)) = false := by decide)
    (he : starEach (e :: es) X.env = (false, eval e X.env) :: starEach es X.env := by rfl) (hpl : (backTo pos (starEach es X.env)).any (·.1) = false := by rfl) : SE X cl W (.Call (.Name c p) (e :: es) [] pos) (dMake c np f ma) := by
  obtain ⟨C, g, fd, ps, hcl, hm, M, hb, F⟩ := M
  refine ⟨⟨fun pins s σ H Q I h => ?_⟩⟩
  refine wpAny_Call_Name_kw (ld_glob I hg hm ?_ hdb)
  refine PySem.W.callWith_K (h₀ := X.base) I.ok.mod.kin M.kp (thn (ha.pa.run pos pins s σ H _ I (tE_make hcl h)) fun us s1 ⟨vs, H1, I1, r, q⟩ => ⟨I1.kIn, ?_⟩) he hpl
  exact run_makeS (E := WE W) M F hr hb (tk σ) I1 r q
theorem se_make0 (M : MkD X.prog X.w X.K X.mg X.base cl c np k f) (hr : Room (k + 1) X.A) (tk : TkC X W) (hg : Gl X c) (hdb : (c == ("__debug__" : Str)) = false := by decide) : SE X cl W (.Call (.Name c p) [] [] pos) (dMake c np f dNil) := by
  obtain ⟨C, g, fd, ps, hcl, hm, M, hb, F⟩ := M
  refine ⟨⟨fun pins s σ H Q I h => ?_⟩⟩
  refine wpAny_Call_Name_kw (ld_glob I hg hm ?_ hdb)
  obtain ⟨r, en, st, he, hs, hp⟩ := tE_make hcl h
  exact PySem.W.callWith_K0 I.kIn M.kp (run_makeS (us := []) (E := WE W) M F hr hb (tk σ) I .nil (hp r H .refl hs [] .nil))
end

/-! ### a method of the text is worth its body -/
section
variable {P : Program} {w : World} {K : Frag} {mg : Str → Option Value} {base : Heap} {cl : Clm} {c m qual : Str} {st : Stmt} {N ps : List Str} {k np n : Nat} {body : SM}
abbrev BodyOk (P : Program) (w : World) (K : Frag) (mg : Str → Option Value) (base : Heap) (cl : Clm) (qual : Str) (st : Stmt) (N : List Str) (k : Nat) (fa : Addr) (body : SM) : Prop :=
  ∀ (cdv : Value) (A : Around) (outer : List Env) (s : Shared) (H : Hp) (E : XK), Room k (A.deeper (envOfC qual (defScope st) s.heap.objs.size fa cdv)) →
      L2N.Takes (cxOf (L2N.CX P w) P w K mg base N qual (defScope st) fa cdv A outer s H E) (fun c d _ H => E c d H) → SL (cxOf (L2N.CX P w) P w K mg base N qual (defScope st) fa cdv A outer s H E) cl (fun c d _ H => E c d H) (defBody st) body
theorem mtD_of (M : MethAt K cl c m qual st) (sc : FnScope N ps (defScope st)) (h1 : ps.length = np) (h2 : N.length = n)
    (hb : ∀ (kV doc pm : Value) (an : Option Addr) (cdv ct : Value) (us : List Value), us.length = ps.length → bindArgs (PySem.W.fnOf m qual (defArgs st) (defBody st) (defScope st) .none kV doc pm an cdv ct) ⟨us, []⟩ = pure (ps.zip us))
    (h : ∀ fa, BodyOk P w K mg base cl qual st N k fa body) : MtD P w K mg base cl c m np (k + 1) (defD np n body) := by
  obtain ⟨C, g, fd, a, b, d, F⟩ := M
  exact ⟨C, g, fd, ps, a, b, d, F.binds hb, fnOk_of F sc h1 h2 (h g)⟩
theorem prD_of (M : PropAt K cl c m qual st) (sc : FnScope N ps (defScope st)) (h1 : ps.length = 1) (h2 : N.length = n)
    (hb : ∀ (kV doc pm : Value) (an : Option Addr) (cdv ct : Value) (us : List Value), us.length = ps.length → bindArgs (PySem.W.fnOf m qual (defArgs st) (defBody st) (defScope st) .none kV doc pm an cdv ct) ⟨us, []⟩ = pure (ps.zip us))
    (h : ∀ fa, BodyOk P w K mg base cl qual st N k fa body) : PrD P w K mg base cl c m (k + 1) (defD 1 n body) := by
  obtain ⟨C, p, g, fd, a, b, d, F⟩ := M
  exact ⟨C, p, g, fd, ps, a, b, d, F.binds hb, fnOk_of F sc h1 h2 (h g)⟩
theorem mkD_of (M : MkAt K cl mg c qual st) (sc : FnScope N ps (defScope st)) (h1 : ps.length = np) (h2 : N.length = n)
    (hb : ∀ (kV doc pm : Value) (an : Option Addr) (cdv ct : Value) (us : List Value), us.length = ps.length → bindArgs (PySem.W.fnOf "__init__" qual (defArgs st) (defBody st) (defScope st) .none kV doc pm an cdv ct) ⟨us, []⟩ = pure (ps.zip us))
    (h : ∀ fa, BodyOk P w K mg base cl qual st N k fa body) : MkD P w K mg base cl c np (k + 1) (defD np n body) := by
  obtain ⟨C, g, fd, a, b, d, F⟩ := M
  exact ⟨C, g, fd, ps, a, b, d, F.binds hb, fnOk_of F sc h1 h2 (h g)⟩
end

/-! ### names of the module that hold data -/
def CstAt (K : Frag) (mg : Str → Option Value) (x : Str) (d : D) : Prop := ∃ u v, mg x = some u ∧ RelV v u ∧ ∀ H r, RD K H r d v
theorem se_cst {X : Cx} {cl : Clm} {W : WX} {x : Str} {d : D} {pos : Pos} (hc : CstAt X.K X.mg x d) (hg : Gl X x) (hd : (x == ("__debug__" : Str)) = false := by decide) : SE X cl W (.Name x pos) (dC d) := by
  obtain ⟨u, v, hm, r, q⟩ := hc
  exact se_c (pe_glob hg hm r hd) q
/-- a value the top has made -/
def KD (K : Frag) (d : D) (u : Value) : Prop := ∃ v, RelV v u ∧ ∀ H r, RD K H r d v
def KDs (K : Frag) (ds : List D) (us : List Value) : Prop := ∃ vs, Vals vs us ∧ ∀ H r, RDs K H r ds vs
section
variable {K : Frag}
theorem kd_int {i : Int} {z} : KD K (.int i) (.int i z) := ⟨.int i, ⟨z, rfl⟩, fun _ _ => .int⟩
theorem kd_bl {b : Bool} : KD K (.bl b) (.bool b) := ⟨.bl b, rfl, fun _ _ => .bl⟩
theorem kd_non : KD K .non .none := ⟨.non, rfl, fun _ _ => .non⟩
theorem kd_str {x : Str} {z} : KD K (.str x) (.str x z) := ⟨.str x, ⟨z, rfl⟩, fun _ _ => .str⟩
theorem kds_nil : KDs K [] [] := ⟨[], .nil, fun _ _ => .nil⟩
theorem kds_cons {d : D} {u : Value} {ds : List D} {us : List Value} (h : KD K d u) (t : KDs K ds us) : KDs K (d :: ds) (u :: us) := by
  obtain ⟨v, a, b⟩ := h
  obtain ⟨vs, c, e⟩ := t
  exact ⟨v :: vs, .cons a c, fun H r => .cons (b H r) (e H r)⟩
theorem kd_tup {a : Addr} {o : Obj} {its : Array Value} {n : Nat} {ds : List D} (l : K.lookup a = some o) (hc : o.cls = .type "tuple") (hd : o.data = .seq its n) (hz : its.size ≤ sizeLine) (h : KDs K ds its.toList) : KD K (.tup ds) (.ref a) := by
  obtain ⟨vs, c, e⟩ := h
  exact ⟨.ref a, rfl, fun H r => .tup (.inr ⟨o, its, n, l, hc, hd, hz, c⟩) (e H r)⟩
theorem use_cst {h : Heap} {mg : Str → Option Value} {x : Str} {u : Value} {d : D} {G : Prop} (X : K.In h) (N : h.Ns mainGlobals mg) (a : PySem.W.nsIn K mainGlobals x = some (some u)) (k : KD K d u) (g : CstAt K mg x d → G) : G := by
  obtain ⟨v, r, q⟩ := k
  exact g ⟨u, v, PySem.W.mg_of X N a, r, q⟩
end

/-! ### the law, for classes at addresses that the top tells -/
def spAny (P : Program) (w : World) (K : Frag) (f : List D → S → Out D) : Sp := fun vs H Q E => ∀ cl : Clm, cl.P = P → cl.w = w → cl.tb = [] ∧ cl.hot = [] → spD K cl 1 f vs H Q E
theorem walkC {l : PySem.W.OpenLaw} {q : Program} {loose : List Str} {XP : (Str → Option Value) → Heap → Prop} {YP : World → Heap → Prop} {d : DefRec} {K : Params → Frag} {k : Nat} {x : Str} {f : List D → S → Out D}
    (hn : l.most = some 63) (hdf : d.params.defaults = []) (hr : Room k callerA) (hY : ∀ (w : World) (h : Heap), YP w h → (K w.params).In h)
    (hf : ∀ ns : List Int, ns.length ≤ 63 → ∃ st', f [.ref 0] [.frz (ns.map D.int)] = .ok (.bl true) st')
    (F : ∀ (w : World) (mg : Str → Option Value) (fa : Addr) (h : Heap), (K w.params).In h → h.Ns mainGlobals mg → mg d.name = some (.ref fa) →
      ∃ fd : FuncData, (∀ (s : Shared) (u : Value), BindsTo s fd ⟨[u], []⟩ [(x, u)]) ∧ ∀ base : Heap, (K w.params).In base → base.Ns mainGlobals mg → FnOk l.prog w (K w.params) mg base (L2N.CX l.prog w) k fa fd [x] (spAny l.prog w (K w.params) f)) :
    PySem.W.WalkO q loose XP YP l.row.toRowW d [] (fun f vs => PySem.call f vs) :=
  L2.walk_of (n := 63) (k := k) (x := x) (CX := fun w => L2N.CX l.prog w) (sp := fun w => spAny l.prog w (K w.params) f) hn (by decide) hdf hr hY F
    (fun w H a ns hl hO hS cl _ _ tb => by
      obtain ⟨st', e⟩ := hf ns hl
      refine ⟨rfl, _, _, [.ref 0], rs_start (fun xs z => by rcases hO a with e | ⟨o, xs, e⟩ <;> rw [z] at e <;> cases e) hS (fun p hp => by rw [tb.1] at hp; cases hp) (fun p hp => by rw [tb.2] at hp; cases hp), .cons (.ref (by simp)) .nil, ?_⟩
      rw [e]
      exact fun r' H' _ _ v q => q.bl_inv)
    fun w H s e s' z => by
      obtain ⟨_, _, _, _, _, _, _, _, _, _, _, _, z⟩ := z
      exact z
theorem law_finC {P : Program} {w : World} {K : Frag} {mg : Str → Option Value} (cl : Clm) (hP : cl.P = P) (hw : cl.w = w) (htb : cl.tb = [] ∧ cl.hot = []) {k : Nat} {x y qual : Str} {st : Stmt} {fa : Addr} {f : List D → S → Out D} (dl : DefAt K mg x qual st) (hmg : mg x = some (.ref fa))
    (hb : ∀ (kV doc pm : Value) (an : Option Addr) (cdv ct u : Value), bindArgs (PySem.W.fnOf x qual (defArgs st) (defBody st) (defScope st) .none kV doc pm an cdv ct) ⟨[u], []⟩ = pure [(y, u)])
    (h : ∀ (base : Heap) (fa : Addr) (fd : FuncData), Fun K x qual st fa fd → FnOk P w K mg base (L2N.CX P w) k fa fd [y] (spD K cl 1 f)) :
    ∃ fd : FuncData, (∀ (s : Shared) (u : Value), BindsTo s fd ⟨[u], []⟩ [(y, u)]) ∧ ∀ base : Heap, K.In base → base.Ns mainGlobals mg → FnOk P w K mg base (L2N.CX P w) k fa fd [y] (spAny P w K f) := by
  obtain ⟨fd, a, b⟩ := law_fin (P := P) (w := w) (cl := cl) (f := f) dl hmg hb h
  exact ⟨fd, a, fun base x y => (b base x y).imp fun _ _ _ _ z => z cl hP hw htb⟩
def clm (P : Program) (w : World) (l : List (Str × Addr)) : Clm := { f := fun c => l.lookup c, P := P, w := w }
end Dn

/-! Dn, H: extend by a tuple, join, stars in displays, the place of a text in a constant of the module. -/
namespace Dn
open PySem PySem.Spec PyProof.Rows L2
section
open PyProof AutoSeq1
theorem ext_tup (l : Addr) (items : Array Value) (n : Nat) (b : Addr) (items2 : Array Value) (n2 : Nat) (dd : Option Addr) (sl : Array (Option Value)) (hs0 : ¬(!items.isEmpty && Builtin.List.listTooLong (items.size + items2.size)) = true) (hs1 : items.size ≤ sizeLine) (hs2 : items.size + items2.size ≤ sizeLine + 1) :
    Meets (Builtin.«list.extend» ⟨[.ref l, .ref b], []⟩) (fun _ R s => s.heap.get? l = some { cls := .type "list", dict := none, data := .seq items n, slots := #[] } ∧ s.heap.get? b = some { cls := .type "tuple", dict := dd, data := .seq items2 n2, slots := sl } ∧ R (.ok (.ret Value.none)) { s with heap := s.heap.update l (Obj.mapSeq fun x => x ++ items2), toks := s.toks }) :=
  .of_wp fun prog w A R s h => by
    obtain ⟨hp, g, d, tk, os⟩ := s; obtain ⟨hl, hb, h⟩ := h; have f1 := PySem.AutoSeq1.idx_int; have f2 := PySem.AutoSeq1.sub_tuple_tuple; have f3 := PySem.AutoSeq1.sub_list_list; have f4 := PySem.AutoSeq1.sub_tuple_list; have f5 := PySem.AutoSeq1.sub_list_tuple;
    have hz' : (items ++ items2).size ≤ sizeLine + 1 := by rw [Array.size_append]; exact hs2
    wp_walk using (wpAny_updateSeq hl rfl (hz := hs1) (_hz' := hz')), wpAny_loadPart' hl, wpAny_loadPart' hb; exact ⟨_, rfl, h⟩
end
section
variable {X : Cx}
def rExtT (K : Frag) : V → List V → Hp → VK → Prop := fun x vs H Q => ∃ l b xs zs, x = .ref l ∧ vs = [.ref b] ∧ H l = some (.lst xs) ∧ SqT K H b zs ∧ xs.length + zs.length ≤ sizeLine ∧ Q .non (upd H l (.lst (xs ++ zs)))
theorem mt_extendT : MtM X "list.extend" (rExtT X.K) := by
  intro pins s σ H x vs v us Q I rx rv h
  obtain ⟨l, b, xs, zs, rfl, rfl, hH, hB, hz, q⟩ := h
  cases rx
  obtain ⟨u, rfl, ru⟩ := rv.one
  cases ru
  obtain ⟨z, its, n, r, hl, e⟩ := I.lstM hH
  obtain ⟨its2, r2, ⟨o2, e2, c2, n2, d2⟩, hl2⟩ := I.tuple hB
  obtain ⟨oc, od, data, sl⟩ := o2
  have c2 : oc = .type "tuple" := c2
  have d2 : data = .seq its2.toArray n2 := d2
  subst c2 d2
  have hl2 := r2.length
  have hsz : its.toArray.size + its2.toArray.size ≤ sizeLine := by rw [List.size_toArray, List.size_toArray]; omega
  have hlong : ¬ (!its.toArray.isEmpty && Builtin.List.listTooLong (its.toArray.size + its2.toArray.size)) = true := by
    rw [notLongL hsz, Bool.and_false]
    exact Bool.false_ne_true
  refine call_meets F.slot_list_extend ⟨_, e, rfl⟩ F.entry_list_extend (F.args_list_extend_2 _ _)
    (ext_tup l its.toArray n b its2.toArray n2 od sl hlong (by rw [List.size_toArray]; omega) (by omega)) ⟨e, e2, ?_⟩
  refine ⟨.non, _, I.lset (its' := its ++ its2) hH e (by simp) (r.append r2) ?_, rfl, q⟩
  rw [List.length_append]
  omega
theorem mt_extendA : MtR X "list.extend" (fun x vs H Q => rExtend x vs H Q ∨ rExtT X.K x vs H Q) := by
  intro pins s σ H x vs v us Q I rx rv h
  rcases h with h | h
  · exact mt_extend pins s σ H x vs v us Q I rx rv h
  · exact mt_extendT pins s σ H x vs v us Q I rx rv h
end
/-- xs.extend(a list or a tuple) -/
def mExtendA : D → List D → S → Out D
  | .ref n, [.tup l2], st => match st[n]? with
    | some (.lst l) => if l.length + l2.length ≤ sizeLine then .ok .non (st.set n (.lst (l ++ l2))) else .bad
    | _ => .bad
  | x, y, st => mExtend x y st
/-- sep.join(a list or a tuple of texts) -/
def strOf : D → Option Str
  | .str x => some x
  | _ => none
def mJoin : D → List D → S → Out D
  | .str a, [x], st => match seqD st x with
    | some l => match mapO strOf l with
      | some ys => if (ys.map (·.length)).sum + ys.length * a.length ≤ 16777216 then .ok (.str (Txt.join a ys)) st else .bad
      | none => .bad
    | none => .bad
  | _, _, _ => .bad
theorem strs_of {K : Frag} {H : Hp} {r : Rho} : ∀ {l : List D} {ys : List Str} {vs : List V}, mapO strOf l = some ys → RDs K H r l vs → vs = ys.map V.str
  | [], ys, vs, e, h => by
    have := h.nil_inv; subst this
    simp only [mapO, Option.some.injEq] at e; subst e
    rfl
  | d :: ds, ys, vs, e, h => by
    obtain ⟨v, w, rfl, h1, h2⟩ := h.cons_inv
    simp only [mapO] at e
    split at e
    · rename_i a as e1 e2
      cases e
      rw [strs_of e2 h2]
      cases d with
      | str x =>
        simp only [strOf, Option.some.injEq] at e1; subst e1
        rw [h1.str_inv]; rfl
      | _ => simp [strOf] at e1
    · cases e
section
variable {K : Frag} {cl : Clm}
theorem opm_extendA : OpM K cl mExtendA (fun x vs H Q => rExtend x vs H Q ∨ rExtT K x vs H Q) := by
  intro r st H W x xs v vs Q hs hx hxs hp
  unfold mExtendA at hp
  split at hp
  · rename_i n l2
    obtain ⟨a, rfl, g1⟩ := hx.ref_inv
    obtain ⟨w, rfl, q⟩ := rds1 hxs
    obtain ⟨b, zs, rfl, w1, w2⟩ := q.tup_inv
    split at hp
    · rename_i l g
      split at hp
      · rename_i hz
        obtain ⟨ys, y1, y2⟩ := lst_at hs g g1
        obtain ⟨z1, z2⟩ := put_lst hs g g1 y1 (y2.append w2)
        exact .inr ⟨a, b, ys, zs, rfl, rfl, y1, w1, by rw [← y2.length, ← w2.length]; exact hz, hp _ _ z2 z1 _ .non⟩
      · exact hp.elim
    · exact hp.elim
  · exact .inl (opm_extend r st H W x xs v vs Q hs hx hxs hp)
theorem opm_join : OpM K cl mJoin (fun x xs H Q => ∃ a p, ∃ ys : List Str, x = .str a ∧ xs = [.ref p] ∧ (SqL K H p (ys.map V.str) ∨ SqT K H p (ys.map V.str)) ∧ (ys.map (·.length)).sum + ys.length * a.length ≤ 16777216 ∧ Q (.str (Txt.join a ys)) H) := by
  intro r st H W x xs v vs Q hs hx hxs hp
  unfold mJoin at hp
  split at hp
  · rename_i a y
    rw [hx.str_inv]
    obtain ⟨w, rfl, q⟩ := rds1 hxs
    split at hp
    · rename_i l e
      split at hp
      · rename_i ys e2
        split at hp
        · rename_i hz
          obtain ⟨p, zs, rfl, q1, q2⟩ := seqD_of hs q e
          have := strs_of e2 q1
          subst this
          refine ⟨a, p, ys, rfl, rfl, ?_, hz, hp r H .refl hs _ .str⟩
          rcases q2 with ⟨_, _, q2⟩ | ⟨_, _, q2⟩
          · exact .inl q2
          · exact .inr q2
        · exact hp.elim
      · exact hp.elim
    · exact hp.elim
  · exact hp.elim
end

/-! ### stars in displays -/
def dStar (ma : EM) (mr : AM) : AM := fun en st => (ma en st).bind fun x st1 => match seqD st1 x with
  | some l => (mr en st1).bind fun ys st2 => .ok (l ++ ys) st2
  | none => .bad
theorem sa_star {X : Cx} {cl : Clm} {W : WX} {e : Expr} {es : List Expr} {p : Pos} {ma : EM} {mr : AM} (he : SE X cl W e ma) (hr : SA X cl W es mr) (hs : starEach (.Starred e p :: es) X.env = (true, eval e X.env) :: starEach es X.env := by rfl) :
    SA X cl W (.Starred e p :: es) (dStar ma mr) :=
  ⟨pa_of (StX.pa_star he.pe hr.pa hs) fun s H Q ⟨r, en, st, he, hs, hp⟩ => ⟨r, en, st, he, hs, (Po.bind hp).mono fun r1 H1 x st1 x1 s1 h1 v q => by
    cases e : seqD st1 x with
    | none => rw [e] at h1; exact h1.elim
    | some l =>
      rw [e] at h1
      obtain ⟨p, zs, rfl, q1, q2⟩ := seqD_of s1 q e
      refine ⟨p, zs, rfl, ?_, r1, en, st1, he.mono x1.mn, s1, (Po.bind h1).mono fun r2 H2 ys st2 x2 s2 h2 vs q3 => h2 r2 H2 .refl s2 _ ((q1.mono x2.mn).append q3)⟩
      rcases q2 with ⟨_, _, q2⟩ | ⟨_, _, q2⟩
      · exact .inr q2
      · exact .inl q2⟩⟩

/-! ### the place of a text in a tuple of texts that the module holds -/
def idxS (z : Str) : List Str → Option Nat
  | [] => none
  | y :: ys => if y = z then some 0 else (idxS z ys).map (· + 1)
theorem idxS_some {z : Str} : ∀ {ys : List Str} {j : Nat}, idxS z ys = some j → ys[j]? = some z ∧ ∀ m, m < j → ys[m]? ≠ some z
  | [], _, h => by cases h
  | y :: ys, j, h => by
    unfold idxS at h
    split at h
    · rename_i e
      cases h
      exact ⟨by rw [e]; rfl, fun m hm => absurd hm (Nat.not_lt_zero _)⟩
    · rename_i e
      obtain ⟨i, e1, rfl⟩ := Option.map_eq_some_iff.mp h
      obtain ⟨q1, q2⟩ := idxS_some e1
      refine ⟨q1, fun m hm => ?_⟩
      cases m with
      | zero => simpa using e
      | succ m => exact q2 m (by omega)
def dCIx (ys : List Str) (ma : AM) : EM := fun en st => (ma en st).bind fun xs st1 => match xs with
  | [.str z] => match idxS z ys with
    | some j => .ok (.int (j : Nat)) st1
    | none => .bad
  | _ => .bad
def CstX (K : Frag) (mg : Str → Option Value) (x : Str) (ys : List Str) : Prop := ∃ a o, mg x = some (.ref a) ∧ K.lookup a = some o ∧ o.cls = .type "tuple" ∧ o.dict = none ∧ ∀ H, SqT K H a (ys.map V.str)
theorem se_cix {X : Cx} {cl : Clm} {W : WX} {x : Str} {ys : List Str} {e : Expr} {px p pos : Pos} {ma : AM} (hc : CstX X.K X.mg x ys) (hg : Gl X x) (ha : SA X cl W [e] ma) (hd : (x == ("__debug__" : Str)) = false := by decide)
    (h1 : attributeBase (.Name x px) "index" X.env (eval (.Name x px) X.env) = eval (.Name x px) X.env := by rfl)
    (h2 : ((backTo pos (starEach [e] X.env)).all (fun x => !x.1) && (backToKw pos (keywordEach [] X.env)).all (fun x => x.1.isSome) && decide ([e].length + ([] : List Keyword).length + (if ([] : List Keyword).isEmpty then 0 else 1) < 30)) = true := by rfl)
    (h3 : (p.endLine == pos.line) = true := by rfl) (h4 : starEach [e] X.env = (false, eval e X.env) :: starEach [] X.env := by rfl) (h5 : (backTo pos (starEach [] X.env)).any (·.1) = false := by rfl) :
    SE X cl W (.Call (.Attribute (.Name x px) "index" p) [e] [] pos) (dCIx ys ma) := by
  obtain ⟨a, o, hm, k1, k2, k3, hq⟩ := hc
  refine ⟨pe_of (pe_bm PySem.F.plainAttrs_tuple PySem.F.slot_tuple_index PySem.F.type_tuple_index mt_tup_index (pe_glob hg hm (v := .ref a) rfl hd) ha.pa h1 h2 h3 h4 h5) fun s H Q ⟨r, en, st, he, hs, hp⟩ => ?_⟩
  refine ⟨.inr (.inl ⟨rfl, o, k1, k2, k3⟩), r, en, st, he, hs, (Po.bind hp).mono fun r1 H1 xs st1 x1 s1 h1 vs q => ?_⟩
  split at h1
  · rename_i z
    obtain ⟨v, rfl, q1⟩ := rds1 q
    split at h1
    · rename_i j ej
      rw [q1.str_inv]
      obtain ⟨y1, y2⟩ := idxS_some ej
      exact ⟨a, ys, z, j, rfl, rfl, hq H1, y1, y2, h1 r1 H1 .refl s1 _ .int⟩
    · exact h1.elim
  · exact h1.elim
theorem use_cstx {K : Frag} {h : Heap} {mg : Str → Option Value} {x : Str} {a : Addr} {o : Obj} {its : Array Value} {n : Nat} {ys : List Str} {G : Prop} (X : K.In h) (N : h.Ns mainGlobals mg) (e : PySem.W.nsIn K mainGlobals x = some (some (.ref a)))
    (l : K.lookup a = some o) (hc : o.cls = .type "tuple") (ho : o.dict = none) (hd : o.data = .seq its n) (hz : its.size ≤ sizeLine) (hv : KDs K (ys.map D.str) its.toList) (g : CstX K mg x ys → G) : G := by
  refine g ⟨a, o, PySem.W.mg_of X N e, l, hc, ho, fun H => ?_⟩
  obtain ⟨vs, c, q⟩ := hv
  have := strs_of (ys := ys) (by
    have h1 : ∀ l : List Str, mapO strOf (l.map D.str) = some l := fun l => by
      induction l with
      | nil => rfl
      | cons y l ih => simp only [List.map_cons, mapO, strOf, ih]
    exact h1 ys) (q H fun _ => none)
  subst this
  exact .inr ⟨o, its, n, l, hc, hd, hz, c⟩

/-! ### a def that calls itself: by how deep it may go -/
theorem fnD_bad {P : Program} {w : World} {K : Frag} {mg : Str → Option Value} {base : Heap} {cl : Clm} {x qual : Str} {st : Stmt} {fa : Addr} {fd : FuncData} {N ps : List Str} {k np : Nat} (F : Fun K x qual st fa fd) (sc : FnScope N ps (defScope st)) (h1 : ps.length = np) (hm : mg x = some (.ref fa)) (hb : Binds K fd ps []) :
    FnD P w K mg base cl x np (k + 1) (fun _ _ => .bad) :=
  ⟨fa, fd, ps, hm, F.kp, hb, okN F sc (fun vs H Q E h => by subst h1; exact h.1) fun cdv A outer s H vs Q E hr h => by obtain ⟨_, r, st, ds, _, _, hp⟩ := h; exact hp.elim⟩

/-! ### insert; texts: split, partition, startswith -/
def mInsert : D → List D → S → Out D
  | .ref n, [.int i, y], st => match st[n]? with
    | some (.lst l) => if l.length < sizeLine ∧ 0 ≤ i ∧ i < 2 ^ 63 then .ok .non (st.set n (.lst (l.take i.toNat ++ [y] ++ l.drop i.toNat))) else .bad
    | _ => .bad
  | _, _, _ => .bad
theorem opm_insert {K : Frag} {cl : Clm} : OpM K cl mInsert (fun x vs H Q => ∃ (l : Addr) (xs : List V) (i : Int) (y : V), x = .ref l ∧ vs = [.int i, y] ∧ H l = some (.lst xs) ∧ xs.length < sizeLine ∧ 0 ≤ i ∧ i < 2 ^ 63 ∧
    Q .non (upd H l (.lst (xs.take i.toNat ++ [y] ++ xs.drop i.toNat)))) := by
  intro r st H W x xs v vs Q hs hx hxs hp
  unfold mInsert at hp
  split at hp
  · rename_i n i y
    obtain ⟨a, rfl, g1⟩ := hx.ref_inv
    obtain ⟨w1, w2, rfl, q1, q2⟩ := rds2 hxs
    rw [q1.int_inv]
    split at hp
    · rename_i l g
      split at hp
      · rename_i hz
        obtain ⟨ys, y1, y2⟩ := lst_at hs g g1
        obtain ⟨z1, z2⟩ := put_lst hs g g1 y1 (((y2.take i.toNat).append (.cons q2 .nil)).append (y2.drop i.toNat))
        exact ⟨a, ys, i, w2, rfl, rfl, y1, by rw [← y2.length]; exact hz.1, hz.2.1, hz.2.2, hp _ _ z2 z1 _ .non⟩
      · exact hp.elim
    · exact hp.elim
  · exact hp.elim
end Dn

/-! Dn, S: min, max, sum of a list of ints; isinstance with a class of the text. -/
namespace Dn
open PySem PySem.Spec PyProof.Rows L2
def intOf : D → Option Int
  | .int i => some i
  | _ => none
def leastI (m : Int) (l : List Int) : Int := l.foldl (fun a b => if b < a then b else a) m
def mostI (m : Int) (l : List Int) : Int := l.foldl (fun a b => if a < b then b else a) m
theorem leastI_spec : ∀ (l : List Int) (m : Int), leastI m l ∈ m :: l ∧ ∀ y ∈ m :: l, leastI m l ≤ y
  | [], m => ⟨List.mem_cons_self, fun y hy => by rw [List.mem_singleton.mp hy]; exact Int.le_refl _⟩
  | b :: l, m => by
    obtain ⟨h1, h2⟩ := leastI_spec l (if b < m then b else m)
    have e : leastI m (b :: l) = leastI (if b < m then b else m) l := rfl
    rw [e]
    refine ⟨?_, fun y hy => ?_⟩
    · rcases List.mem_cons.mp h1 with z | z
      · rw [z]; split <;> simp
      · exact List.mem_cons_of_mem _ (List.mem_cons_of_mem _ z)
    · have h3 := h2 _ List.mem_cons_self
      rcases List.mem_cons.mp hy with rfl | hy
      · refine Int.le_trans h3 ?_; split <;> omega
      · rcases List.mem_cons.mp hy with rfl | hy
        · refine Int.le_trans h3 ?_; split <;> omega
        · exact h2 y (List.mem_cons_of_mem _ hy)
theorem mostI_spec : ∀ (l : List Int) (m : Int), mostI m l ∈ m :: l ∧ ∀ y ∈ m :: l, y ≤ mostI m l
  | [], m => ⟨List.mem_cons_self, fun y hy => by rw [List.mem_singleton.mp hy]; exact Int.le_refl _⟩
  | b :: l, m => by
    obtain ⟨h1, h2⟩ := mostI_spec l (if m < b then b else m)
    have e : mostI m (b :: l) = mostI (if m < b then b else m) l := rfl
    rw [e]
    refine ⟨?_, fun y hy => ?_⟩
    · rcases List.mem_cons.mp h1 with z | z
      · rw [z]; split <;> simp
      · exact List.mem_cons_of_mem _ (List.mem_cons_of_mem _ z)
    · have h3 := h2 _ List.mem_cons_self
      rcases List.mem_cons.mp hy with rfl | hy
      · refine Int.le_trans ?_ h3; split <;> omega
      · rcases List.mem_cons.mp hy with rfl | hy
        · refine Int.le_trans ?_ h3; split <;> omega
        · exact h2 y (List.mem_cons_of_mem _ hy)
def dAgg (f : List Int → Option Int) : List D → S → Out D
  | [.ref n], st => match st[n]? with
    | some (.lst l) => match mapO intOf l with
      | some ns => match f ns with
        | some i => .ok (.int i) st
        | none => .bad
      | none => .bad
    | _ => .bad
  | _, _ => .bad
def minF : List Int → Option Int
  | [] => none
  | m :: l => some (leastI m l)
def maxF : List Int → Option Int
  | [] => none
  | m :: l => some (mostI m l)
def sumF (l : List Int) : Option Int := some l.sum
abbrev dMinL := dAgg minF
abbrev dMaxL := dAgg maxF
abbrev dSumL := dAgg sumF
theorem ints_ofD {K : Frag} {H : Hp} {r : Rho} : ∀ {l : List D} {ys : List Int} {vs : List V}, mapO intOf l = some ys → RDs K H r l vs → vs = ys.map V.int
  | [], ys, vs, e, h => by
    have := h.nil_inv; subst this
    simp only [mapO, Option.some.injEq] at e; subst e
    rfl
  | d :: ds, ys, vs, e, h => by
    obtain ⟨v, w, rfl, h1, h2⟩ := h.cons_inv
    simp only [mapO] at e
    split at e
    · rename_i a as e1 e2
      cases e
      rw [ints_ofD e2 h2]
      cases d with
      | int x =>
        simp only [intOf, Option.some.injEq] at e1; subst e1
        rw [h1.int_inv]; rfl
      | _ => simp [intOf] at e1
    · cases e
section
variable {K : Frag} {cl : Clm}
theorem opn_minL : OpN K cl dMinL (rMin K) := by
  intro r st H W xs vs Q hs hx hp
  unfold dMinL dAgg at hp
  split at hp
  · obtain ⟨v, rfl, q⟩ := rds1 hx
    obtain ⟨a, rfl, g1⟩ := q.ref_inv
    split at hp
    · rename_i l g
      split at hp
      · rename_i ns e
        obtain ⟨ys, y1, y2⟩ := lst_at hs g g1
        have := ints_ofD e y2; subst this
        cases ns with
        | nil => exact hp.elim
        | cons m l =>
          obtain ⟨h1, h2⟩ := leastI_spec l m
          refine ⟨a, m :: l, rfl, .of y1, Nat.succ_pos _, fun z z1 z2 => ?_⟩
          have : z = leastI m l := Int.le_antisymm (z2 _ h1) (h2 _ z1)
          subst this
          exact hp r H .refl hs _ .int
      · exact hp.elim
    · exact hp.elim
  · exact hp.elim
theorem opn_maxL : OpN K cl dMaxL (rMax K) := by
  intro r st H W xs vs Q hs hx hp
  unfold dMaxL dAgg at hp
  split at hp
  · obtain ⟨v, rfl, q⟩ := rds1 hx
    obtain ⟨a, rfl, g1⟩ := q.ref_inv
    split at hp
    · rename_i l g
      split at hp
      · rename_i ns e
        obtain ⟨ys, y1, y2⟩ := lst_at hs g g1
        have := ints_ofD e y2; subst this
        cases ns with
        | nil => exact hp.elim
        | cons m l =>
          obtain ⟨h1, h2⟩ := mostI_spec l m
          refine ⟨a, m :: l, rfl, .of y1, Nat.succ_pos _, fun z z1 z2 => ?_⟩
          have : z = mostI m l := Int.le_antisymm (h2 _ z1) (z2 _ h1)
          subst this
          exact hp r H .refl hs _ .int
      · exact hp.elim
    · exact hp.elim
  · exact hp.elim
theorem opn_sumL : OpN K cl dSumL (rSum K) := by
  intro r st H W xs vs Q hs hx hp
  unfold dSumL dAgg at hp
  split at hp
  · obtain ⟨v, rfl, q⟩ := rds1 hx
    obtain ⟨a, rfl, g1⟩ := q.ref_inv
    split at hp
    · rename_i l g
      split at hp
      · rename_i ns e
        obtain ⟨ys, y1, y2⟩ := lst_at hs g g1
        have := ints_ofD e y2; subst this
        exact ⟨a, ns, rfl, .of y1, hp r H .refl hs _ .int⟩
      · exact hp.elim
    · exact hp.elim
  · exact hp.elim
end
/-! ### isinstance(e, C), C a class of the text that no other one is over -/
def IsAt (K : Frag) (cl : Clm) (mg : Str → Option Value) (c : Str) : Prop := ∃ C, cl c = some C ∧ mg c = some (.ref C) ∧ Cls K C ∧ PySem.W.findIn K (.ref C) "__class__" = some (some (.builtin "object.__class__")) ∧
  PySem.W.specialIn K (.builtin "object.__class__") "__get__" = some (some (.builtin "getset_descriptor.__get__")) ∧ PySem.W.takesIn K (.builtin "object.__class__") = some true ∧ PySem.W.mroIn K C (.type "object") = some true
def dIsC (c : Str) (m : EM) : EM := fun en st => (m en st).bind fun d st1 => match d with
  | .ref n => match st1[n]? with
    | some (.ins c' _) => if c' = c then .ok (.bl true) st1 else .bad
    | _ => .bad
  | _ => .bad
theorem se_isC {X : Cx} {cl : Clm} {W : WX} {e : Expr} {c : Str} {p p2 pos : Pos} {m : EM} (hI : IsAt X.K cl X.mg c) (hg : Gl X "isinstance") (hm : X.mg "isinstance" = none) (he : SE X cl W e m) (hgc : Gl X c) (hd : (c == ("__debug__" : Str)) = false := by decide)
    (hs1 : starEach [e, .Name c p2] X.env = (false, eval e X.env) :: starEach [.Name c p2] X.env := by rfl) (hs2 : starEach [.Name c p2] X.env = (false, eval (.Name c p2) X.env) :: starEach [] X.env := by rfl) (hpl : (backTo pos (starEach [.Name c p2] X.env)).any (·.1) = false := by rfl) :
    SE X cl W (.Call (.Name "isinstance" p) [e, .Name c p2] [] pos) (dIsC c m) := by
  obtain ⟨C, k1, k2, k3, k4, k5, k6, k7⟩ := hI
  refine ⟨pe_of (pe_callB call_isi hg hm (by decide +kernel) (pa_cons he.pe (pa_cons (pe_glob (v := .ref C) hgc k2 rfl hd) pa_nil hs2) hs1) (by decide) (by decide) hs1 hpl) fun s H Q ⟨r, en, st, he, hs, hp⟩ => ⟨r, en, st, he, hs, (Po.bind hp).mono fun r1 H1 d st1 x1 s1 h1 v q => ?_⟩⟩
  split at h1
  · rename_i n
    obtain ⟨a, rfl, g1⟩ := q.ref_inv
    split at h1
    · rename_i c' fs g
      split at h1
      · rename_i hc
        subst hc
        obtain ⟨C', dx, vs, z1, z2, z3⟩ := ins_at s1 g g1
        rw [k1] at z1; cases z1
        exact ⟨_, .ref C, .ref C, .ref C, true, rfl, .own C, .base (.ins z2 k3 k4 k5 k6 k7), by unfold PySem.W.kitOne; rw [if_pos (by simp)], h1 r1 H1 .refl s1 _ .bl⟩
      · exact h1.elim
    · exact h1.elim
  · exact h1.elim
end Dn

/-! Dn, V: is a tuple of ints in a set of such: the search that adds nothing. -/
namespace Dn
open PySem PySem.Spec PyProof.Rows L2
section
variable {Pg : Program} {wd : World} {Ar : Around} {Er : Value → Shared → Prop} {sh : Shared} {ad : Addr} {Ls : List (Addr × List Int)} {ens : Array (Int × Value)} {epo : Nat} {tb : SetTable}
/-- the c-th state of the way of a hash -/
abbrev stp (m : Nat) (g : Int) (c : Nat) : SetTable.Probe := nth m (runAt m (SetTable.bits g % (m + 1)) (SetTable.bits g)) c
theorem stp_add (m : Nat) (g : Int) (c q : Nat) : nth m (stp m g c) q = stp m g (c + q) := (nth_add m c _ q).symm
theorem stp_j (m : Nat) (g : Int) (c : Nat) : (stp m g c).j = way m g c := rfl
theorem stp_nd (m : Nat) (g : Int) : ∀ c, (stp m g c).dummy = none := by
  have go : ∀ (n : Nat) (u : SetTable.Probe), u.dummy = none → (nth m u n).dummy = none := fun n => by
    induction n with
    | zero => exact fun _ z => z
    | succ n ih => exact fun u z => ih _ (by unfold adv; split <;> exact z)
  exact fun c => go c _ rfl
def hsAt (ens : Array (Int × Value)) : Nat → Int := fun i => (ens[i]?.map (·.1)).getD 0
theorem hsAt_is (R : SetTR Pg wd sh.heap ad Ls ens epo tb) {i : Nat} {e : Addr × List Int} (h : Ls[i]? = some e) : hsAt ens i = thash Pg wd e.2 := by
  unfold hsAt; rw [R.entry h]; rfl
theorem in_Ls (R : SetTR Pg wd sh.heap ad Ls ens epo tb) {i j : Nat} (h : tb.place.toList[i]? = some j) : i < Ls.length := by
  have a := (List.getElem?_eq_some_iff.mp h).1
  have b := R.tab.sz
  rw [List.length_map] at b
  rw [Array.length_toList] at a
  omega
/-- what the next probe tells -/
theorem prb (R : SetTR Pg wd sh.heap ad Ls ens epo tb) (g : Int) {N c : Nat} {from_ : Option SetTable.Probe} (hN : N < 10 * SetTable.turns tb.mask) (hc : c ≤ N) (hfree : way tb.mask g N ∉ tb.place.toList) (hfull : ∀ q, q < N → way tb.mask g q ∈ tb.place.toList)
    (hat : from_.getD (tb.probeStart g) = stp tb.mask g c) :
    (∃ d i, c ≤ d ∧ d < N ∧ tb.place.toList[i]? = some (way tb.mask g d) ∧ hsAt ens i = g ∧ (∀ d' i', c ≤ d' → d' < d → tb.place.toList[i']? = some (way tb.mask g d') → hsAt ens i' ≠ g) ∧
      tb.probe (hsAt ens) g (from_.getD (tb.probeStart g)) = some (.candidate (way tb.mask g d) i (stp tb.mask g (d + 1)))) ∨
    ((∀ d' i', c ≤ d' → d' < N → tb.place.toList[i']? = some (way tb.mask g d') → hsAt ens i' ≠ g) ∧ tb.probe (hsAt ens) g (from_.getD (tb.probeStart g)) = some (.empty (way tb.mask g N) none)) := by
  rw [hat]
  have at_ : ∀ q, (nth tb.mask (stp tb.mask g c) q).j = way tb.mask g (c + q) := fun q => by rw [stp_add]
  rcases go_spec tb R.tab.ris R.tab.dm (hsAt ens) g (10 * SetTable.turns tb.mask) (N - c) (stp tb.mask g c) (stp_nd _ _ _) (by omega) (fun q hq => by rw [at_]; exact hfull _ (by omega)) (by rw [at_, Nat.add_sub_cancel' hc]; exact hfree) with ⟨q, i, z1, z2, z3, z4, z5⟩ | ⟨z4, z5⟩
  · refine .inl ⟨c + q, i, Nat.le_add_right _ _, by omega, by rw [← at_]; exact z2, z3, fun d' i' l1 l2 e => z4 (d' - c) i' (by omega) (by rw [at_, Nat.add_sub_cancel' l1]; exact e), ?_⟩
    rw [at_, stp_add] at z5
    exact z5
  · refine .inr ⟨fun d' i' l1 l2 e => z4 (d' - c) i' (by omega) (by rw [at_, Nat.add_sub_cancel' l1]; exact e), ?_⟩
    rw [at_, Nat.add_sub_cancel' hc] at z5
    exact z5
theorem find_go (R : SetTR Pg wd sh.heap ad Ls ens epo tb) {x : Addr} {ky : List Int} (hx : IsT Pg wd sh.heap ky x) (hu : Ar.units < cLine) {N : Nat} (hN : N < 10 * SetTable.turns tb.mask)
    (hfree : way tb.mask (thash Pg wd ky) N ∉ tb.place.toList) (hfull : ∀ q, q < N → way tb.mask (thash Pg wd ky) q ∈ tb.place.toList) {Q : SetFound → Shared → Prop}
    (yes : ky ∈ Ls.map (·.2) → ∀ i, Q (.there (some i)) sh) (no : ky ∉ Ls.map (·.2) → ∀ j b, Q (.free j b) sh) : ∀ (left c : Nat) (from_ : Option SetTable.Probe), c ≤ N → N < c + left → from_.getD (tb.probeStart (thash Pg wd ky)) = stp tb.mask (thash Pg wd ky) c →
    (∀ (i : Nat) (e : Addr × List Int), Ls[i]? = some e → e.2 = ky → ∃ d, c ≤ d ∧ d < N ∧ tb.place.toList[i]? = some (way tb.mask (thash Pg wd ky) d)) → wpAny (model Pg wd) Ar (setSearchFrom ad (.ref x) (thash Pg wd ky) false left from_) Q Er sh := by
  intro left
  induction left with
  | zero => exact fun c from_ h1 h2 => absurd h2 (by omega)
  | succ left ih =>
    intro c from_ hc hlt hat hre
    obtain ⟨o, ho, hex, hd⟩ := R.ob
    rw [setSearchFrom_succ]
    refine wpAny_bind (wpAny_setState_of ho hd R.fits ?_)
    dsimp only
    refine wp_if_neg R.gw ?_
    try refine wpAny_bind (wpAny_pure ?_)
    rcases prb R (thash Pg wd ky) hN hc hfree hfull hat with ⟨d, i, cd, dN, hi, hh, hno, hp⟩ | ⟨hno, hp⟩
    · rw [show tb.probe (fun i => (ens[i]?.map (·.1)).getD 0) (thash Pg wd ky) (from_.getD (tb.probeStart (thash Pg wd ky))) = _ from hp]
      dsimp only
      have hil := in_Ls R hi
      have he : Ls[i]? = some Ls[i] := List.getElem?_eq_getElem hil
      have hm : Ls[i] ∈ Ls := List.getElem_mem hil
      have go : wpAny (model Pg wd) Ar (searchRest ad (.ref x) (thash Pg wd ky) false left ens tb (way tb.mask (thash Pg wd ky) d) i (stp tb.mask (thash Pg wd ky) (d + 1))) Q Er sh := by
        unfold searchRest
        rw [R.entry he]
        dsimp only
        refine wpAny_bind (wpAny_holding (wpAny_eqBool_tuple hu (R.tup _ hm) hx ?_))
        refine wpAny_bind (wpAny_setState_of ho hd R.fits ?_)
        dsimp only
        refine wp_if_neg (by simp) ?_
        try refine wpAny_bind (wpAny_pure ?_)
        rw [sameMem]
        dsimp only
        simp only [if_true, slot_live R.tab.ris hi, R.entry he]
        refine wpAny_bind (wpAny_isSame_ref_self (wpAny_bind (wpAny_pure ?_)))
        simp only [if_true]
        by_cases same : Ls[i].2 = ky
        · refine wp_if_pos (by simp [same]) (wpAny_pure (yes (List.mem_map.mpr ⟨_, hm, same⟩) _))
        · refine wp_if_neg (by simp [same]) (ih (d + 1) _ (by omega) (by omega) rfl fun i2 e2 h2 k2 => ?_)
          obtain ⟨d2, l1, l2, l3⟩ := hre i2 e2 h2 k2
          refine ⟨d2, ?_, l2, l3⟩
          rcases Nat.lt_trichotomy d2 d with lt | eq | gt
          · exact absurd (by rw [hsAt_is R h2, k2]) (hno d2 i2 l1 lt l3)
          · subst eq
            have s1 := slot_live R.tab.ris l3
            rw [slot_live R.tab.ris hi] at s1
            injection s1 with s1
            subst s1
            rw [he] at h2
            cases h2
            exact absurd k2 same
          · exact gt
      by_cases led : tb.led = true
      · refine wp_if_neg (by simp [led]) ?_
        try refine wpAny_bind (wpAny_pure ?_)
        exact go
      · refine wp_if_pos (by simp [led]) (wpAny_bind (seen_tup hx (fun y hy => ?_) ?_))
        · obtain ⟨en, m1, rfl⟩ := List.mem_map.mp hy
          have m2 : en ∈ ens ∧ en.1 = thash Pg wd ky := by simpa using m1
          have m3 : en ∈ rowsOf Pg wd Ls := by rw [← R.rows]; simpa using m2.1
          obtain ⟨e2, m4, rfl⟩ := List.mem_map.mp m3
          exact ⟨e2.2, e2.1, rfl, R.tup e2 m4⟩
        · refine wp_if_neg (by decide) ?_
          try refine wpAny_bind (wpAny_pure ?_)
          exact go
    · rw [show tb.probe (fun i => (ens[i]?.map (·.1)).getD 0) (thash Pg wd ky) (from_.getD (tb.probeStart (thash Pg wd ky))) = _ from hp]
      dsimp only
      refine wpAny_pure (no (fun hk => ?_) _ _)
      obtain ⟨e, m1, m2⟩ := List.mem_map.mp hk
      obtain ⟨i, hi⟩ := List.getElem?_of_mem m1
      obtain ⟨d, l1, l2, l3⟩ := hre i e hi m2
      exact hno d i l1 l2 l3 (by rw [hsAt_is R hi, m2])
theorem find_all (R : SetTR Pg wd sh.heap ad Ls ens epo tb) {x : Addr} {ky : List Int} (hx : IsT Pg wd sh.heap ky x) (hu : Ar.units < cLine) {Q : SetFound → Shared → Prop}
    (yes : ky ∈ Ls.map (·.2) → ∀ i, Q (.there (some i)) sh) (no : ky ∉ Ls.map (·.2) → ∀ j b, Q (.free j b) sh) : wpAny (model Pg wd) Ar (setSearch ad (.ref x) (thash Pg wd ky)) Q Er sh := by
  have rm := R.room
  have len : (Ls.map fun p => thash Pg wd p.2).length = Ls.length := List.length_map ..
  obtain ⟨N, n1, n2, n3⟩ := R.tab.first (by rw [len]; omega) (thash Pg wd ky)
  have small : N < 100000 := by
    have : SetTable.turns tb.mask ≤ 142 := by
      unfold SetTable.turns
      rcases R.tab.mok with e | e | e <;> rw [e] <;> decide
    omega
  refine find_go R hx hu n1 n2 n3 yes no 100000 0 none (Nat.zero_le _) (by omega) rfl fun i e he hk => ?_
  have hh : (Ls.map fun p => thash Pg wd p.2)[i]? = some (thash Pg wd ky) := by rw [List.getElem?_map, he, ← hk]; rfl
  have hi : i < tb.place.toList.length := by
    have a := (List.getElem?_eq_some_iff.mp he).1
    have b := R.tab.sz
    rw [len] at b
    rw [Array.length_toList]
    omega
  obtain ⟨d, d1, d2⟩ := R.tab.before n2 hh (List.getElem?_eq_getElem hi)
  exact ⟨d, Nat.zero_le _, d1, by rw [d2]; exact List.getElem?_eq_getElem hi⟩
theorem setFind_tup (R : SetTR Pg wd sh.heap ad Ls ens epo tb) {x : Addr} {ky : List Int} (hx : IsT Pg wd sh.heap ky x) (hu : Ar.units < cLine) {Q : Option Nat → Shared → Prop} (h : ∀ r, r.isSome = decide (ky ∈ Ls.map (·.2)) → Q r sh) :
    wpAny (model Pg wd) Ar (setFind ad (.ref x) (thash Pg wd ky)) Q Er sh := by
  obtain ⟨o, ho, hex, hd⟩ := R.ob
  unfold setFind
  rw [show (100000 : Nat) = 99999 + 1 from rfl]
  unfold setFindIn
  refine wpAny_bind (wpAny_setState_of ho hd R.fits ?_)
  dsimp only
  refine wp_if_neg (by simp [byScan, Value.scannable]) ?_
  try refine wpAny_bind (wpAny_pure ?_)
  refine wpAny_bind (find_all R hx hu (fun hm i => ?_) fun hm j b => ?_)
  · exact wpAny_pure (h _ (by simp [hm]))
  · exact wpAny_pure (h _ (by simp [hm]))
theorem SetTR.ty (R : SetTR Pg wd sh.heap ad Ls ens epo tb) : sh.TypeIs (.ref ad) "set" := let ⟨o, ho, hex, _⟩ := R.ob; ⟨o, ho, hex.1⟩
/-- is it in the set? -/
theorem has_tup (R : SetTR Pg wd sh.heap ad Ls ens epo tb) {x : Addr} {ky : List Int} (hx : IsT Pg wd sh.heap ky x) (hu : Ar.units + 8 < cLine) {Q : Bool → Shared → Prop} (h : Q (decide (ky ∈ Ls.map (·.2))) { sh with toks := sh.toks + (ky.length + 1) }) :
    wpAny (model Pg wd) Ar (contains (.ref ad) (.ref x)) Q Er sh := by
  have hT := SetTR.ty R
  unfold contains
  try with_reducible refine wpAny_holding ?_
  refine wpAny_bind (wpAny_specialOf hT F.slot_set_contains.lookup ?_)
  show wpAny _ _ (if (some (Value.builtin "set.__contains__") == some Value.none) = true then _ else _) _ Er sh
  rw [if_neg (by rw [beq_builtin_none]; decide)]
  refine wpAny_bind (wpAny_callSpecialUnlessNone?_slot (name := Str.ofString "__contains__") hT F.slot_set_contains (wpAny_call_entry F.slot_set_contains hT entry_set_contains ?_ (F.args_set_contains_2 _ _)))
  unfold Builtin.«frozenset.__contains__» Builtin.Frozenset.oneOther
  simp only [List.isEmpty_nil, bind_assoc]
  unfold Builtin.Frozenset.addrOf Builtin.Frozenset.withSetAsKey setContains
  refine wpAny_bind (wpAny_pure ?_)
  (try dsimp only); refine wpAny_bind (wpAny_pure ?_)
  (try dsimp only); refine wpAny_bind (wpAny_tryCatch (wpAny_holding ?_))
  refine wpAny_bind (wpAny_pyHash_tuple (by first | exact hu | (have z := hu; show _ < _; simp only [Around.units] at *; omega) | omega) hx ?_)
  have R2 : SetTR Pg wd ({ sh with toks := sh.toks + (ky.length + 1) } : Shared).heap ad Ls ens epo tb := R
  refine wpAny_bind (setFind_tup R2 hx ?u fun r hr => wpAny_pure ?_)
  case u => first | exact hu | (have z := hu; show _ < _; simp only [Around.units] at *; omega) | omega
  show wpAny _ _ (ret (Value.bool r.isSome)) _ _ _
  rw [hr]
  exact wpAny_pure ⟨_, rfl, wpAny_truthy_bool h⟩
/-- is added -/
theorem add_tup (R : SetTR Pg wd sh.heap ad Ls ens epo tb) {x : Addr} {ky : List Int} (hx : IsT Pg wd sh.heap ky x) (hu : Ar.units + 8 < cLine) (few : Ls.length + 1 < 64) {Q : Value → Shared → Prop}
    (h : ∀ h' L' es' ep' t', Heap.SameBut ad sh.heap h' → SetTR Pg wd h' ad L' es' ep' t' → (ky ∈ Ls.map (·.2) → L' = Ls) → (ky ∉ Ls.map (·.2) → L'.Perm ((x, ky) :: Ls)) → Q .none { sh with heap := h', toks := sh.toks + (ky.length + 1) }) :
    wpAny (model Pg wd) Ar (call (.builtin "set.add") [.ref ad, .ref x]) Q Er sh := by
  refine wpAny_call_entry F.slot_set_add (SetTR.ty R) F.entry_set_add ?_ (F.args_set_add_2 _ _)
  unfold Builtin.«set.add» Builtin.Frozenset.oneOther
  simp only [List.isEmpty_nil, bind_assoc]
  unfold Builtin.Frozenset.addrOf setAdd
  refine wpAny_bind (wpAny_pure ?_)
  (try dsimp only); refine wpAny_bind (wpAny_pure ?_)
  (try dsimp only); refine wpAny_bind (wpAny_holding ?_)
  refine wpAny_bind (wpAny_pyHash_tuple ?u hx ?_)
  case u => first | exact hu | (have z := hu; show _ < _; simp only [Around.units] at *; omega) | omega
  have R2 : SetTR Pg wd ({ sh with toks := sh.toks + (ky.length + 1) } : Shared).heap ad Ls ens epo tb := R
  refine add_at R2 hx ?u2 few fun b h' L' es' ep' t' e1 e2 e3 e4 => ?_
  case u2 => first | exact hu | (have z := hu; show _ < _; simp only [Around.units] at *; omega) | omega
  show wpAny _ _ (ret Value.none) _ _ _
  exact wpAny_pure ⟨_, rfl, h h' L' es' ep' t' e1 e2 e3 e4⟩
end
section
variable {X : Cx}
def rSet0T (Pg : Program) (wd : World) : List V → Hp → VK → Prop := fun xs H Q => xs = [] ∧ ∀ p, H p = none → Q (.ref p) (upd H p (SetTO Pg wd p []))
theorem cr_set0T : CallR X (.type "set") (rSet0T X.prog X.w) := fun pins s σ H xs us Q I r h => by
  obtain ⟨rfl, q⟩ := h
  cases r
  refine setR_new fun _ => ?_
  have R := setTR_fresh (P := X.prog) (w := X.w) (h := s.heap.push { cls := .type "set", dict := none, data := .set #[] 0 (.fresh 0 0 (!X.w.params.followText "set-order")) }) (a := s.heap.objs.size) (Heap.get?_push_size _ rfl)
  exact ⟨.ref _, upd H s.heap.objs.size (SetTO X.prog X.w s.heap.objs.size []), I.laid (t' := s.toks) (fun b u e => Heap.get?_push_of_some _ e) (Nat.le_refl _) (setTO_new R.t0), rfl, q _ (I.hok.fresh (Nat.le_refl _))⟩
/-- the set at a, of these tuples -/
def SetAtT (X : Cx) (H : Hp) (a : Addr) (L : List (Addr × List Int)) : Prop := H a = some (SetTO X.prog X.w a L) ∧ ∀ p ∈ L, SqT X.K H p.1 (p.2.map V.int)
theorem SetAtT.full {pins : List (Addr × Obj)} {σ : L2.St} {H : Hp} {s : Shared} {a : Addr} {L : List (Addr × List Int)} (h : SetAtT X H a L) (I : Inv X pins σ H s) : ∃ es ep t, SetTR X.prog X.w s.heap a L es ep t :=
  SetT0.full (I.hok a _ h.1).1 fun p hp => I.isT (h.2 p hp)
def rSAddT (X : Cx) : V → List V → Hp → VK → Prop := fun x xs H Q => ∃ (a t : Addr) (k : List Int) (L : List (Addr × List Int)), x = V.ref a ∧ xs = [V.ref t] ∧ SetAtT X H a L ∧ SqT X.K H t (k.map V.int) ∧ L.length + 1 < 64 ∧
  ∀ L', (k ∈ L.map (·.2) → L' = L) → (k ∉ L.map (·.2) → L'.Perm ((t, k) :: L)) → Q .non (upd H a (SetTO X.prog X.w a L'))
theorem mt_saddT (hu : X.A.units + 8 < cLine) : MtR X "set.add" (rSAddT X) := fun pins s σ H x xs v us Q I rx rxs h => by
  obtain ⟨a, t, k, L, rfl, rfl, hS, ht, few, q⟩ := h
  cases rx
  cases rxs with
  | cons ry rt =>
    cases rt
    cases ry
    obtain ⟨es, ep, tt, R⟩ := hS.full I
    refine add_tup R (I.isT ht) hu few fun h' L' es' ep' t' sb R' e1 e2 => ?_
    have he : ∃ u, h'.get? a = some u := let ⟨o, ho, _⟩ := R'.ob; ⟨o, ho⟩
    exact ⟨.non, upd H a (SetTO X.prog X.w a L'), I.write (e := a) (t' := s.toks + (k.length + 1)) (by rw [hS.1]; trivial) (.inl rfl) (fun b u hb hu2 => (sb.2 b hb).trans hu2) he (setTO_new R'.t0), rfl, q L' e1 e2⟩
def tSAddT (X : Cx) (to : TE) (t : TA) : TE := fun σ H Q => to σ H fun x H1 => (∃ a L, x = V.ref a ∧ SetAtT X H1 a L) ∧ t σ H1 fun xs H2 => rSAddT X x xs H2 Q
theorem pe_saddT {o e : Expr} {es : List Expr} {to : TE} {t : TA} {apos cpos : Pos} (hu : X.A.units + 8 < cLine) (ho : PE X o to) (ha : PA X (e :: es) t) (hbase : attributeBase o "add" X.env (eval o X.env) = eval o X.env := by rfl)
    (hfew : ((backTo cpos (starEach (e :: es) X.env)).all (fun x => !x.1) && (backToKw cpos (keywordEach [] X.env)).all (fun x => x.1.isSome) && decide ((e :: es).length + ([] : List Keyword).length + (if ([] : List Keyword).isEmpty then 0 else 1) < 30)) = true := by rfl)
    (hline : (apos.endLine == cpos.line) = true := by rfl) (hs : starEach (e :: es) X.env = (false, eval e X.env) :: starEach es X.env := by rfl) (hplain : (backTo cpos (starEach es X.env)).any (·.1) = false := by rfl) :
    PE X (.Call (.Attribute o "add" apos) (e :: es) [] cpos) (tSAddT X to t) := ⟨fun pins s σ H Q I h => by
  refine wpAny_Call_method_late hbase hfew hline rfl (thn (ho.run pins s σ H _ I h) fun v s1 ⟨x, H1, I1, r1, ⟨a, L, ex, hS⟩, q1⟩ => ?_)
  subst ex
  cases r1
  obtain ⟨es', ep, tt, R⟩ := hS.full I1
  refine ⟨"set", "set.add", F.plainAttrs_set, F.slot_set_add, F.type_set_add, SetTR.ty R, (fun b e => by injection e with e; subst e; exact let ⟨o, ho, hex, _⟩ := R.ob; ⟨o, ho, hex.2.1⟩), ?_⟩
  have go := ha.run cpos pins s1 σ H1 _ I1 q1
  rw [hs] at go ⊢
  exact Calls.callWith_builtin (by show (false || List.any (backTo cpos (starEach es X.env)) (·.1)) = false; rw [hplain]; rfl) (Calls.evalArgs_plain (thn go fun us s2 ⟨vs, H2, I2, r2, q2⟩ => mt_saddT hu pins s2 σ H2 (.ref a) vs (.ref a) us Q I2 rfl r2 q2))⟩
def rSInT (X : Cx) (g : Bool → Bool) : R2 := fun x y H Q => ∃ (a t : Addr) (k : List Int) (L : List (Addr × List Int)), x = V.ref t ∧ y = V.ref a ∧ SetAtT X H a L ∧ SqT X.K H t (k.map V.int) ∧ Q (.bl (g (decide (k ∈ L.map (·.2))))) H
theorem op_sinT (hu : X.A.units + 8 < cLine) : OpR X (compareOp .In) (rSInT X id) := fun pins s σ H x y v u Q I rx ry h => by
  obtain ⟨a, t, k, L, rfl, rfl, hS, ht, q⟩ := h
  cases rx
  cases ry
  obtain ⟨es, ep, tt, R⟩ := hS.full I
  show wpAny _ _ (do return Value.bool (← contains (.ref a) (.ref t))) _ _ s
  exact wpAny_bind (has_tup R (I.isT ht) hu (wpAny_pure ⟨.bl _, H, I.tok _, rfl, q⟩))
theorem op_snotinT (hu : X.A.units + 8 < cLine) : OpR X (compareOp .NotIn) (rSInT X not) := fun pins s σ H x y v u Q I rx ry h => by
  obtain ⟨a, t, k, L, rfl, rfl, hS, ht, q⟩ := h
  cases rx
  cases ry
  obtain ⟨es, ep, tt, R⟩ := hS.full I
  show wpAny _ _ (do return Value.bool (!(← contains (.ref a) (.ref t)))) _ _ s
  exact wpAny_bind (has_tup R (I.isT ht) hu (wpAny_pure ⟨.bl _, H, I.tok _, rfl, q⟩))
end
end Dn

/-! Dn, T: what is never reached, a field op= an int, defs with defaults, methods of texts. -/
namespace Dn
open PySem PySem.Spec PyProof.Rows L2
/-! ### what is never reached -/
def sBad : SM := fun _ _ => .bad
def dBad : EM := fun _ _ => .bad
theorem ss_bad {X : Cx} {cl : Clm} {W : WX} {s : Stmt} : SS X cl W s sBad := ⟨⟨fun pins s σ H D I ⟨r, en, st, he, hs, hp⟩ => hp.elim⟩⟩
theorem se_bad {X : Cx} {cl : Clm} {W : WX} {e : Expr} : SE X cl W e dBad := ⟨⟨fun pins s σ H Q I ⟨r, en, st, he, hs, hp⟩ => hp.elim⟩⟩
/-! ### o.f op= an int -/
def sFldI (cs : List Str) (f : Str) (g : Int → Int → Int) (mo mv : EM) : SM := fun en st => (mo en st).bind fun o st1 => match o with
  | .ref n => match st1[n]? with
    | some (.ins c fs) => match fs.lookup f with
      | some (.int i) => if cs.contains c then (mv en st1).bind fun d st2 => match d with
        | .int j => match st2[n]? with
          | some (.ins c' fs') => if c' = c ∧ fs'.length < 1000 then .ok (.nx, en) (st2.set n (.ins c (putD f (.int (g i j)) fs'))) else .bad
          | _ => .bad
        | _ => .bad
        else .bad
      | _ => .bad
    | _ => .bad
  | _ => .bad
def IpOk (X : Cx) (op : Operator) (g : Int → Int → Int) : Prop := InOp X op fun x y H Q => ∃ i j, x = .int i ∧ y = .int j ∧ Q (.int (g i j)) H
theorem ipk_add {X : Cx} : IpOk X .Add (fun i j => i + j) := in_add
theorem ipk_sub {X : Cx} : IpOk X .Sub (fun i j => i - j) := in_sub
theorem ss_fldI {X : Cx} {cl : Clm} {W : WX} {o value : Expr} {f : Str} {op : Operator} {pos tpos : Pos} {cs : List Str} {g : Int → Int → Int} {mo mv : EM} (ho : SE X cl W o mo) (hv : SE X cl W value mv) (hg : IpOk X op g) (hc : ∀ c ∈ cs, FldAt X.K cl c f) :
    SS X cl W (.AugAssign (.Attribute o f tpos) op value pos) (sFldI cs f g mo mv) :=
  ⟨ps_of (ps_fldaug ho.pe hv.pe hg) fun D s H ⟨r, en, st, he, hs, hp⟩ => ⟨r, en, st, he, hs, (Po.bind hp).mono fun r1 H1 d st1 x1 s1 h1 v q => by
    split at h1
    · rename_i n
      obtain ⟨a, rfl, e1⟩ := q.ref_inv
      split at h1
      · rename_i c fs g1
        obtain ⟨C, dx, vs, z1, z2, z3⟩ := ins_at s1 g1 e1
        split at h1
        · rename_i i gi
          split at h1
          · rename_i hm
            obtain ⟨C', k1, k2, k3⟩ := hc c (by simpa using hm)
            rw [z1] at k1; cases k1
            rcases z3.look (f := f) with ⟨y1, _⟩ | ⟨d, u, y1, y2, y3⟩
            · rw [gi] at y1; cases y1
            · rw [gi] at y1; cases y1
              refine ⟨a, C, dx, vs, u, rfl, z2, k2, k3, y2, r1, en, st1, he.mono x1.mn, s1, (Po.bind h1).mono fun r2 H2 d2 st2 x2 s2 h2 w q2 => ?_⟩
              split at h2
              · rename_i j
                split at h2
                · rename_i c' fs' g2
                  split at h2
                  · rename_i hh
                    obtain ⟨rfl, hl⟩ := hh
                    obtain ⟨C2, dx2, vs2, w1, w2, w3⟩ := ins_at s2 g2 (x2.ext _ _ e1)
                    rw [z1] at w1; cases w1
                    refine ⟨i, j, y3.int_inv, q2.int_inv, dx2, vs2, w2, by rw [← w3.length]; exact hl, ?_⟩
                    obtain ⟨o1, o2⟩ := put_ins s2 g2 (x2.ext _ _ e1) z1 w2 (w3.put (RD.int (i := g i j)))
                    exact h2 _ _ o2 o1 _ (he.mono ((x1.trans x2).trans o2).mn)
                  · exact h2.elim
                · exact h2.elim
              · exact h2.elim
          · exact h1.elim
        · exact h1.elim
      · exact h1.elim
    · exact h1.elim⟩⟩
/-! ### defs with defaults that are ints -/
def FnDD (P : Program) (w : World) (K : Frag) (mg : Str → Option Value) (base : Heap) (cl : Clm) (x : Str) (np k : Nat) (dv : List D) (f : List D → S → Out D) : Prop :=
  ∃ fa fd ps us, mg x = some (.ref fa) ∧ PySem.W.keepIn K (.ref fa) = true ∧ Binds K fd ps us ∧ KDs K dv us ∧ FnOk P w K mg base (L2N.CX P w) k fa fd ps (spD K cl np f)
def dCallD (np : Nat) (dv : List D) (f : List D → S → Out D) (m : AM) : EM := fun en st => (m en st).bind fun ds st1 => if ds.length + dv.length = np then atEn en (f (ds ++ dv) st1) else .bad
theorem FnDD.mono {P : Program} {w : World} {K : Frag} {mg : Str → Option Value} {base : Heap} {cl : Clm} {x : Str} {np j k : Nat} {dv : List D} {f : List D → S → Out D} (F : FnDD P w K mg base cl x np j dv f) (h : j ≤ k) : FnDD P w K mg base cl x np k dv f :=
  let ⟨fa, fd, ps, us, a, b, c, d, e⟩ := F
  ⟨fa, fd, ps, us, a, b, c, d, e.mono h⟩
theorem se_callD {X : Cx} {cl : Clm} {W : WX} {e : Expr} {es : List Expr} {x : Str} {np k : Nat} {dv : List D} {f : List D → S → Out D} {m : AM} {p pos : Pos} (F : FnDD X.prog X.w X.K X.mg X.base cl x np k dv f) (hr : Room k X.A) (tk : TkC X W) (hg : Gl X x) (ha : SA X cl W (e :: es) m)
    (hdb : (x == ("__debug__" : Str)) = false := by decide) (he : starEach (e :: es) X.env = (false, eval e X.env) :: starEach es X.env := by rfl) (hpl : (backTo pos (starEach es X.env)).any (·.1) = false := by rfl) :
    SE X cl W (.Call (.Name x p) (e :: es) [] pos) (dCallD np dv f m) := by
  obtain ⟨fa, fd, ps, us, hm, hk, hb, ⟨dvs, hd, hd2⟩, F⟩ := F
  refine ⟨pe_of (pe_callSD F hr hg hm hk hb hd tk ha.pa hdb he hpl) fun s H Q ⟨r, en, st, he, hs, hp⟩ => ⟨r, en, st, he, hs, (Po.bind hp).mono fun r1 H1 ds st1 x1 s1 h1 vs q => ?_⟩⟩
  split at h1
  · rename_i hl
    have q2 := q.append (hd2 H1 r1)
    refine ⟨by rw [← q2.length, List.length_append]; exact hl, r1, st1, ds ++ dv, s1, q2, ?_⟩
    cases e : f (ds ++ dv) st1 with
    | ok d st' => rw [e] at h1; exact h1
    | exc x en' st' => rw [e] at h1; exact fun r' H' c d y z w => h1 r' H' s c d y z (he.mono (x1.trans y).mn) w
    | bad => rw [e] at h1; exact h1
  · exact h1.elim
def DefDAt (K : Frag) (mg : Str → Option Value) (x qual : Str) (st : Stmt) (dvs : List V) : Prop := ∃ fa fd, mg x = some (.ref fa) ∧ FunD K x qual (defArgs st) (defBody st) (defScope st) dvs [] fa fd
section
variable {P : Program} {w : World} {K : Frag} {mg : Str → Option Value} {base : Heap} {cl : Clm}
theorem fnDD_of {x qual : Str} {st : Stmt} {fa : Addr} {fd : FuncData} {N ps : List Str} {k np n : Nat} {dvs : List V} {dv : List D} {us : List Value} {body : SM} (F : FunD K x qual (defArgs st) (defBody st) (defScope st) dvs [] fa fd) (sc : FnScope N ps (defScope st)) (h1 : ps.length = np) (h2 : N.length = n) (hm : mg x = some (.ref fa)) (hb : Binds K fd ps us) (hd : KDs K dv us)
    (hbody : ∀ (cdv : Value) (A : Around) (outer : List Env) (s : Shared) (H : Hp) (E : XK), Room k (A.deeper (envOfC qual (defScope st) s.heap.objs.size fa cdv)) →
      L2N.Takes (cxOf (L2N.CX P w) P w K mg base N qual (defScope st) fa cdv A outer s H E) (fun c d _ H => E c d H) → SL (cxOf (L2N.CX P w) P w K mg base N qual (defScope st) fa cdv A outer s H E) cl (fun c d _ H => E c d H) (defBody st) body) :
    FnDD P w K mg base cl x np (k + 1) dv (defD np n body) := by
  refine ⟨fa, fd, ps, us, hm, F.kp, hb, hd, ?_⟩
  subst h1 h2
  refine F.ok sc (fun vs H Q E h => h.1) fun cdv A outer s H vs Q E hr h => ?_
  obtain ⟨hl, r, st0, ds, hs, q, hp⟩ := h
  refine ⟨_, (hbody cdv A outer s H E hr (L2N.takes_of rfl rfl rfl rfl)).pss, ?_⟩
  have hl2 : ds.length = ps.length := by rw [q.length]; exact hl
  refine ⟨r, ds.map some ++ List.replicate (N.length - ps.length) none, st0, by rw [← hl2]; exact .start N q, hs, ?_⟩
  unfold defD at hp
  rw [if_pos hl2] at hp
  cases e : body (ds.map some ++ List.replicate (N.length - ps.length) none) st0 with
  | bad => rw [e] at hp; exact hp
  | exc x en st' => rw [e] at hp; exact fun r' H' s' c d y z _ u => hp r' H' c d y z u
  | ok p st' =>
    obtain ⟨f, en⟩ := p
    rw [e] at hp
    cases f with
    | ret d => exact fun r' H' y z s' _ v qv => hp r' H' y z v qv
    | nx => exact fun r' H' y z s' _ => hp r' H' y z _ .non
    | bk => exact hp.elim
    | ct => exact hp.elim
theorem use_defD {h : Heap} {x qual : Str} {st : Stmt} {fa T : Addr} {od an : Option Addr} {sl : Array (Option Value)} {oc kV dc pm cd ct : Value} {o : Obj} {its : Array Value} {m : Nat} {dvs : List V} {G : Prop} (X : K.In h) (N : h.Ns mainGlobals mg)
    (a : PySem.W.nsIn K mainGlobals x = some (some (.ref fa))) (l : K.lookup fa = some ⟨oc, od, .func (PySem.W.fnOf x qual (defArgs st) (defBody st) (defScope st) (.ref T) kV dc pm an cd ct), sl⟩) (c : PySem.W.codeIn K cd qual = true) (k : PySem.W.keepIn K (.ref fa) = true)
    (lT : K.lookup T = some o) (oT : o.data = .seq its m) (ne : dvs ≠ []) (v : Vals dvs its.toList) (g : DefDAt K mg x qual st dvs → G) : G :=
  g ⟨fa, _, PySem.W.mg_of X N a, ⟨⟨oc, od, .ref T, kV, dc, pm, an, cd, ct, sl, rfl, l, c, .inr ⟨ne, T, o, its.toList, m, rfl, lT, by rw [oT], v⟩, .inl rfl⟩, k⟩⟩
end
theorem kds_ints {K : Frag} : ∀ {is : List Int} {us : List Value}, Vals (is.map V.int) us → KDs K (is.map D.int) us := fun {is} {us} h => ⟨is.map V.int, h, fun _ _ => rds_ints is⟩
/-! ### methods of texts -/
def mSplit : D → List D → S → Out D
  | .str a, [.str b], st => if (b.length == 0) = false ∧ a.length + 2 ≤ sizeLine then .ok (.ref st.length) (st ++ [.lst ((Txt.split a b).map D.str)]) else .bad
  | _, _, _ => .bad
def mStarts : D → List D → S → Out D
  | .str a, [.str b], st => .ok (.bl (Txt.startswith a b)) st
  | _, _, _ => .bad
def mParti : D → List D → S → Out D
  | .str a, [.str b], st => if (b.length == 0) = false ∧ a.length ≤ sizeLine then .ok (.tup [.str (Txt.partition a b).1, .str (Txt.partition a b).2.1, .str (Txt.partition a b).2.2]) st else .bad
  | _, _, _ => .bad
section
variable {K : Frag} {cl : Clm}
theorem rds_strs {H : Hp} {r : Rho} : ∀ ys : List Str, RDs K H r (ys.map D.str) (ys.map V.str)
  | [] => .nil
  | _ :: ys => .cons .str (rds_strs ys)
theorem opm_split : OpM K cl mSplit (fun x xs H Q => ∃ a b, x = .str a ∧ xs = [.str b] ∧ (b.length == 0) = false ∧ a.length + 2 ≤ sizeLine ∧ rNewStrs (Txt.split a b) H Q) := by
  intro r st H W x xs v vs Q hs hx hxs hp
  unfold mSplit at hp
  split at hp
  · split at hp
    · rename_i hh
      rw [hx.str_inv]
      obtain ⟨u, rfl, q⟩ := rds1 hxs
      rw [q.str_inv]
      exact ⟨_, _, rfl, rfl, hh.1, hh.2, new_lst hs (rds_strs _) hp⟩
    · exact hp.elim
  · exact hp.elim
theorem opm_starts : OpM K cl mStarts (fun x xs H Q => ∃ a b, x = .str a ∧ xs = [.str b] ∧ Q (.bl (Txt.startswith a b)) H) := by
  intro r st H W x xs v vs Q hs hx hxs hp
  unfold mStarts at hp
  split at hp
  · rw [hx.str_inv]
    obtain ⟨u, rfl, q⟩ := rds1 hxs
    rw [q.str_inv]
    exact ⟨_, _, rfl, rfl, hp r H .refl hs _ .bl⟩
  · exact hp.elim
theorem opm_parti : OpM K cl mParti (fun x xs H Q => ∃ a b, x = .str a ∧ xs = [.str b] ∧ (b.length == 0) = false ∧ a.length ≤ sizeLine ∧ ∀ p, H p = none → Q (.ref p) (upd H p (.tup [.str (Txt.partition a b).1, .str (Txt.partition a b).2.1, .str (Txt.partition a b).2.2]))) := by
  intro r st H W x xs v vs Q hs hx hxs hp
  unfold mParti at hp
  split at hp
  · split at hp
    · rename_i hh
      rw [hx.str_inv]
      obtain ⟨u, rfl, q⟩ := rds1 hxs
      rw [q.str_inv]
      exact ⟨_, _, rfl, rfl, hh.1, hh.2, new_tup hs (.cons .str (.cons .str (.cons .str .nil))) hp⟩
    · exact hp.elim
  · exact hp.elim
end
end Dn

/-! Dn, W: sets of tuples of ints. -/
namespace Dn
open PySem PySem.Spec PyProof.Rows L2
def tupI : D → Option (List Int)
  | .tup ds => mapO intOf ds
  | _ => none
def dSet0 : EM := fun _ st => .ok (.ref st.length) (st ++ [.set []])
def putS (k : List Int) (l : List (List Int)) : List (List Int) := if k ∈ l then l else l ++ [k]
def dSAdd (mo me : EM) : EM := fun en st => (mo en st).bind fun o st1 => match o with
  | .ref n => match st1[n]? with
    | some (.set _) => (me en st1).bind fun d st2 => match tupI d with
      | some k => match st2[n]? with
        | some (.set l) => if l.length < 60 then .ok .non (st2.set n (.set (putS k l))) else .bad
        | _ => .bad
      | none => .bad
    | _ => .bad
  | _ => .bad
def dSIn2 (g : Bool → Bool) : D → D → S → Out D := fun x y st => match y with
  | .ref n => match st[n]? with
    | some (.set l) => match tupI x with
      | some k => .ok (.bl (g (decide (k ∈ l)))) st
      | none => .bad
    | _ => .bad
  | _ => .bad
theorem hu8 {A : Around} {k : Nat} (hr : Room k A) : A.units + 8 < cLine := by have := hr.un; omega
/-- the classes stand in this program's world -/
def Here (X : Cx) (cl : Clm) : Prop := cl.P = X.prog ∧ cl.w = X.w
theorem set_at_ {X : Cx} {cl : Clm} {r : Rho} {st : S} {H : Hp} {n : Nat} {a : Addr} {l : List (List Int)} (hc : Here X cl) (hs : RS X.K cl r st H) (g : st[n]? = some (.set l)) (h : r n = some a) : ∃ L, SetAtT X H a L ∧ (∀ k, k ∈ L.map (·.2) ↔ k ∈ l) ∧ L.length ≤ l.length := by
  obtain ⟨b, e1, L, e2, e3, e4, e5⟩ := hs.at_ n _ g
  rw [h] at e1; cases e1
  rw [hc.1, hc.2] at e2
  exact ⟨L, ⟨e2, e3⟩, e4, e5⟩
theorem tupI_of {K : Frag} {H : Hp} {r : Rho} {d : D} {k : List Int} {v : V} (e : tupI d = some k) (h : RD K H r d v) : ∃ t, v = .ref t ∧ SqT K H t (k.map V.int) := by
  cases d with
  | tup ds =>
    obtain ⟨t, xs, rfl, h1, h2⟩ := h.tup_inv
    have := ints_ofD e h2
    subst this
    exact ⟨t, rfl, h1⟩
  | _ => cases e
section
variable {X : Cx} {cl : Clm} {W : WX} {p pos apos : Pos} {o e a b : Expr} {mo me ma mb : EM}
theorem se_set0 (hc : Here X cl) (hg : Gl X "set") (hm : X.mg "set" = none) : SE X cl W (.Call (.Name "set" p) [] [] pos) dSet0 :=
  ⟨pe_of (pe_callTy0 cr_set0T hg hm (by decide +kernel)) fun s H Q ⟨r, en, st, he, hs, hp⟩ => ⟨rfl, fun q nq => by
    obtain ⟨z1, z2⟩ := push_new (o := .set []) (u := SetTO X.prog X.w q []) hs nq ⟨[], by rw [hc.1, hc.2]; exact upd_same, by simp, by simp, Nat.le_refl _⟩ rfl
    exact hp _ _ z2 z1 _ (.ref nxt_self)⟩⟩
theorem se_sadd {k : Nat} (hc : Here X cl) (hr : Room k X.A) (ho : SE X cl W o mo) (he : SE X cl W e me) (h1 : attributeBase o "add" X.env (eval o X.env) = eval o X.env := by rfl)
    (h2 : ((backTo pos (starEach [e] X.env)).all (fun x => !x.1) && (backToKw pos (keywordEach [] X.env)).all (fun x => x.1.isSome) && decide (([e] : List Expr).length + ([] : List Keyword).length + (if ([] : List Keyword).isEmpty then 0 else 1) < 30)) = true := by rfl)
    (h3 : (apos.endLine == pos.line) = true := by rfl) (h4 : starEach [e] X.env = (false, eval e X.env) :: starEach [] X.env := by rfl) : SE X cl W (.Call (.Attribute o "add" apos) [e] [] pos) (dSAdd mo me) :=
  ⟨pe_of (pe_saddT (by have := hr.un; omega) ho.pe (pa_cons he.pe pa_nil h4) h1 h2 h3 h4 (by rfl)) fun s H Q ⟨r, en, st, hen, hs, hp⟩ => ⟨r, en, st, hen, hs, (Po.bind hp).mono fun r1 H1 d st1 x1 s1 q1 v rv => by
    split at q1
    · rename_i n
      obtain ⟨ad, rfl, g1⟩ := rv.ref_inv
      split at q1
      · rename_i l0 g
        obtain ⟨L0, S0, _⟩ := set_at_ hc s1 g g1
        refine ⟨⟨ad, L0, rfl, S0⟩, r1, en, st1, hen.mono x1.mn, s1, (Po.bind q1).mono fun r2 H2 d2 st2 x2 s2 q2 u ru => ?_⟩
        cases ek : tupI d2 with
        | none => rw [ek] at q2; exact q2.elim
        | some k =>
          rw [ek] at q2
          simp only at q2
          split at q2
          · rename_i l g2
            split at q2
            · rename_i hz
              have gr := x2.ext _ _ g1
              obtain ⟨L, S1, S2, S3⟩ := set_at_ hc s2 g2 gr
              obtain ⟨t, rfl, ht⟩ := tupI_of ek ru
              show rSAddT X (V.ref ad) [V.ref t] H2 Q
              refine ⟨ad, t, k, L, rfl, rfl, S1, ht, by omega, fun L' c1 c2 => ?_⟩
              have mu : Mu (SetTO X.prog X.w ad L) := .inr (.inr (.inl ⟨_, rfl⟩))
              have mm : Mn X.K r2 H2 r2 (upd H2 ad (SetTO X.prog X.w ad L')) := ⟨fun _ _ z => z, fun b ys z => sqt_upd (mu.nt S1.1) (mu.nf S1.1) z⟩
              have ro : RO X.K cl (upd H2 ad (SetTO X.prog X.w ad L')) r2 (.set (putS k l)) ad := by
                unfold putS
                by_cases hk : k ∈ l
                · rw [if_pos hk]
                  have := c1 ((S2 k).mpr hk)
                  subst this
                  exact ⟨L', by rw [hc.1, hc.2]; exact upd_same, fun p hp => mm.sqt _ _ (S1.2 p hp), S2, S3⟩
                · rw [if_neg hk]
                  have pm := c2 fun z => hk ((S2 k).mp z)
                  refine ⟨L', by rw [hc.1, hc.2]; exact upd_same, fun p hp => mm.sqt _ _ ?_, fun j => ?_, by rw [pm.length_eq, List.length_cons, List.length_append, List.length_singleton]; omega⟩
                  · rcases List.mem_cons.mp (pm.mem_iff.mp hp) with rfl | z
                    · exact ht
                    · exact S1.2 p z
                  · rw [(pm.map _).mem_iff, List.map_cons, List.mem_cons, List.mem_append, List.mem_singleton, S2]
                    exact Or.comm
              obtain ⟨y1, y2⟩ := write_at s2 (s2.ne0 g2 rfl) gr S1.1 mu rfl ro
              exact q2 _ _ y2 y1 _ .non
            · exact q2.elim
          · exact q2.elim
      · exact q1.elim
    · exact q1.elim⟩⟩
theorem op2_sin {g : Bool → Bool} (hc : Here X cl) : Op2 X.K cl (dSIn2 g) (rSInT X g) := by
  intro r st H W x y v w Q hs hx hy hp
  unfold dSIn2 at hp
  split at hp
  · obtain ⟨ad, rfl, g1⟩ := hy.ref_inv
    split at hp
    · rename_i l gl
      cases ek : tupI x with
      | none => rw [ek] at hp; exact hp.elim
      | some k =>
        rw [ek] at hp
        obtain ⟨L, S1, S2, S3⟩ := set_at_ hc hs gl g1
        obtain ⟨t, rfl, ht⟩ := tupI_of ek hx
        have e : decide (k ∈ L.map (·.2)) = decide (k ∈ l) := by rw [Bool.eq_iff_iff, decide_eq_true_iff, decide_eq_true_iff]; exact S2 k
        exact ⟨ad, t, k, L, rfl, rfl, S1, ht, by rw [e]; exact hp r H .refl hs _ .bl⟩
    · exact hp.elim
  · exact hp.elim
end
end Dn

/-! Dn, X: sorted(list, key=def), the def's keys being pairs of ints. -/
namespace Dn
open PySem PySem.Spec PyProof.Rows L2
open PySem.W (EachIs each_snoc dataKind SortsAt Sortable AllAlike KeyedOut keyedOut_each dataLe dataLe_ii sorted_of_sort copyHeap copyHeap_at copyHeap_old sortingHeap_old keyH_end KeepsBut sortVals hideAll of_hideAll hideAll_none)
section
variable {X : Cx} {pins : List (Addr × Obj)} {σ : L2.St} {H H' : Hp} {s : Shared} {h' : Heap}
/-- k is no cell, no frame, not pinned -/
structure Apart (X : Cx) (pins : List (Addr × Obj)) (k : Addr) : Prop where
  young : X.s_0.heap.objs.size ≤ k
  loc : k ≠ X.env.locals
  cell : ∀ x c, X.env.cells.lookup x = some c → c ≠ k
  pin : ∀ p ∈ X.pn ++ pins, p.1 ≠ k
theorem apart_of (I : Inv X pins σ H s) {k : Addr} (hk : s.heap.objs.size ≤ k) : Apart X pins k where
  young := Nat.le_trans I.sz hk
  loc := fun e => absurd (e ▸ I.lt) (Nat.not_lt.mpr hk)
  cell := fun x c e z => by
    obtain ⟨v, o, ho, _⟩ := I.cell x c e
    have := Heap.lt_size ho
    rw [z] at this
    exact absurd this (Nat.not_lt.mpr hk)
  pin := fun p hp z => by
    have := Heap.lt_size (I.pin p hp).1
    rw [z] at this
    exact absurd this (Nat.not_lt.mpr hk)
theorem Apart.nofs (a : Apart X pins k) (I : Inv X pins σ H s) : k ∉ X.fs := fun hb => by
  obtain ⟨_, o, ho, _⟩ := I.ok.funs.mem hb
  exact absurd (Nat.lt_of_lt_of_le (Heap.lt_size ho) a.young) (Nat.lt_irrefl _)
/-- a pinned object is put in place of another -/
theorem pin_turn {k : Addr} {o o' : Obj} {t' : Nat} (I : Inv X ((k, o) :: pins) σ H s) (a : Apart X pins k) (hk : ∀ b u, b ≠ k → s.heap.get? b = some u → h'.get? b = some u) (hn : h'.get? k = some o') (hc : ∀ v, o'.data ≠ .cell v) :
    Inv X ((k, o') :: pins) σ H { s with heap := h', toks := t' } := by
  have p0 := I.pin (k, o) (List.mem_append_right _ List.mem_cons_self)
  have I0 : Inv X pins σ H s := I.pins_of fun p hp => I.pin p (List.mem_append_right _ (List.mem_cons_of_mem _ hp))
  have I1 : Inv X pins σ H { s with heap := h', toks := t' } := I0.turned hk p0.2.1 a.loc (.inr a.young) a.cell a.pin
  refine I1.pins_of fun p hp => ?_
  rcases List.mem_cons.mp hp with rfl | hp
  · exact ⟨hn, p0.2.1, a.loc, a.nofs I0, hc⟩
  · exact I1.pin p (List.mem_append_right _ hp)
/-- two untracked objects of ours have changed, the one is tracked from now on -/
theorem end_turn {a k : Addr} {u : HO} {t' : Nat} (I : Inv X pins σ H s) (ha : Apart X pins a) (hk : Apart X pins k) (na : H a = none) (nk : H k = none) (keep : ∀ b o, b ≠ a → b ≠ k → s.heap.get? b = some o → h'.get? b = some o)
    (new : ObjOk X.prog X.w (upd H a u) h' a u) : Inv X pins σ (upd H a u) { s with heap := h', toks := t' } := by
  have ne : ∀ b o, H b = some o → b ≠ a ∧ b ≠ k := fun b o e => ⟨ne_of_none e na, ne_of_none e nk⟩
  have up : ∀ b o, H b = some o → upd H a u b = some o := fun b o e => by rw [upd_ne (ne b o e).1]; exact e
  refine I.step (g' := s.gens) (d' := s.drawn) (ch := [a, k]) (fun b hb => ?_) (fun b o _ _ hc e _ => keep b o (fun z => hc (by simp [z])) (fun z => hc (by simp [z])) e) (fun b o _ _ hc e _ => ⟨o.slots, keep b o (fun z => hc (by simp [z])) (fun z => hc (by simp [z])) e⟩)
    (fun b o hc _ n => by rw [upd_ne (fun z => hc (by simp [z]))]; exact n) (fun b o hc e => ⟨o, keep b o (fun z => hc (by simp [z])) (fun z => hc (by simp [z])) e⟩) (fun b xs e => up b _ e) (fun b o v e => up b _ e) (fun b ps e => ⟨#[], by rw [up b _ e]; simp⟩) (fun m hm => ?_) (fun b o e => ?_) I.bare
  · rcases List.mem_cons.mp hb with rfl | hb
    · exact ⟨.inr ha.young, ha.loc, ha.cell, ha.pin⟩
    · rw [List.mem_singleton.mp hb]
      exact ⟨.inr hk.young, hk.loc, hk.cell, hk.pin⟩
  · obtain ⟨o, es, ep, ho, r⟩ := hm
    exact ⟨o, es, ep, keep _ o (Ne.symm ha.loc) (Ne.symm hk.loc) ho, r⟩
  · by_cases hb : b = a
    · subst hb
      rw [upd_same] at e; cases e
      exact new
    · rw [upd_ne hb] at e
      refine (I.hok b o e).stay (fun c v hc q => ?_) (fun c q => up c _ q) fun c xs q => up c _ q
      rcases hc with z | z
      · subst z; exact keep _ v hb (ne _ _ e).2 q
      · exact keep _ v (ne _ _ z).1 (ne _ _ z).2 q
end
/-! ### the rule -/
/-- what the key of each item is: g i the keys, P what stands behind the calls -/
def rSortK (X : Cx) (cl : Clm) (f : Value) (F : List D → S → Out D) : List V → List V → Hp → VK → Prop := fun vs zs H Q => ∃ (a fa : Addr) (n : Nat) (r : Rho) (st : S) (l : List D) (ks : List (Int × Int)), vs = [V.ref a] ∧ zs = [V.ref fa] ∧ f = .ref fa ∧
  r n = some a ∧ RS X.K cl r st H ∧ st[n]? = some (.lst l) ∧ ks.length = l.length ∧ (∀ (i : Nat) (d : D) (k : Int × Int), l[i]? = some d → ks[i]? = some k → F [d] st = .ok (.tup [.int k.1, .int k.2]) st) ∧
  ∀ (H' : Hp) (r' : Rho) (p : Addr) (ys : List V) (is : List Nat), Xt X.K r H r' H' → RS X.K cl r' st H' → H' p = none → is = (List.range l.length).mergeSort (fun i j => decide ((ks.getD i (0, 0)).1 < (ks.getD j (0, 0)).1 ∨ ((ks.getD i (0, 0)).1 = (ks.getD j (0, 0)).1 ∧ (ks.getD i (0, 0)).2 ≤ (ks.getD j (0, 0)).2))) →
    RDs X.K H' r' (is.map fun i => l.getD i .non) ys → Q (.ref p) (upd H' p (.lst ys))
theorem cx_false {P : Program} {w : World} {outer : List Env} {H : Hp} {s s' : Shared} {e : Value} (h : L2N.CX P w outer H s (fun _ _ _ => False) e s') : False := by
  obtain ⟨_, _, _, _, _, _, _, _, _, _, _, _, z⟩ := h
  exact z
theorem range_at {n i : Nat} (h : i < n) : (List.range n)[i]? = some i := List.getElem?_range h
theorem each_range {α : Type} {R : α → Nat → Prop} : ∀ {vs : List α} {m : Nat}, (∀ i v, vs[i]? = some v → R v (m + i)) → EachIs R vs ((List.range vs.length).map (m + ·))
  | [], _, _ => .nil
  | v :: vs, m, h => by
    rw [List.length_cons, List.range_succ_eq_map, List.map_cons, List.map_map]
    refine .cons (h 0 v rfl) ?_
    have := each_range (vs := vs) (m := m + 1) fun i w e => by
      have := h (i + 1) w (by simpa using e)
      rwa [show m + (i + 1) = m + 1 + i by omega] at this
    have e : ((fun x => m + x) ∘ Nat.succ) = fun x => m + 1 + x := by funext x; simp; omega
    rw [e]; exact this
theorem each_range0 {α : Type} {R : α → Nat → Prop} {vs : List α} (h : ∀ i v, vs[i]? = some v → R v i) : EachIs R vs (List.range vs.length) := by
  have := each_range (m := 0) (R := R) (vs := vs) fun i v e => by rw [Nat.zero_add]; exact h i v e
  have e : (List.range vs.length).map (fun x => 0 + x) = List.range vs.length := by simp
  rwa [e] at this
theorem each_get {α β : Type} {R : α → β → Prop} : ∀ {as : List α} {bs : List β}, EachIs R as bs → Paired R as bs
  | _, _, .nil => .nil
  | _, _, .cons h t => .cons h (each_get t)
section
variable {X : Cx} {cl : Clm} {fa : Addr} {fd : FuncData} {ps : List Str} {k : Nat} {F : List D → S → Out D}
/-- one key -/
theorem key_call (hF : FnOk X.prog X.w X.K X.mg X.base (L2N.CX X.prog X.w) k fa fd ps (spD X.K cl 1 F)) (hr : Room k X.A.in1.in1) (hb : Binds X.K fd ps []) {pins : List (Addr × Obj)} {σ : L2.St} {H : Hp} {s : Shared} (I : Inv X pins σ H s)
    {r : Rho} {st : S} {d : D} {v : V} {u : Value} {i j : Int} (hs : RS X.K cl r st H) (rd : RD X.K H r d v) (ru : RelV v u) (hk : F [d] st = .ok (.tup [.int i, .int j]) st)
    {Q : Value → Shared → Prop} (q : ∀ (t : Addr) H' r' s', Inv X pins σ H' s' → Xt X.K r H r' H' → RS X.K cl r' st H' → SqT X.K H' t [.int i, .int j] → Q (.ref t) s') :
    wpAny (model X.prog X.w) X.A.in1.in1 (call (.ref fa) [u]) Q (fun _ _ => False) s := by
  have h : spD X.K cl 1 F [v] H (fun w H' => ∃ r', Xt X.K r H r' H' ∧ RS X.K cl r' st H' ∧ RD X.K H' r' (.tup [.int i, .int j]) w) (fun _ _ _ => False) := by
    refine ⟨rfl, r, st, [d], hs, .cons rd .nil, ?_⟩
    rw [hk]
    exact fun r' H' x s' w q => ⟨r', x, s', q⟩
  have hl : ([u] : List Value).length = ps.length := hF.len _ _ _ _ h
  have b := hb s [u] I.kIn (by rw [List.append_nil]; exact hl)
  rw [List.append_nil] at b
  have e0 : Env0 X.prog X.w X.K X.mg X.base X.A.in1.in1 X.stack s H := I.env0.in1.in1
  refine wpAny_call (codeAny_mono (hF.run X.A.in1.in1 X.stack s H ⟨[u], []⟩ [u] [v] _ _ hr e0 b (.cons ru .nil) h) fun r s' hq => ?_)
  cases r with
  | error e => exact cx_false hq
  | ok fl =>
    cases fl with
    | ret w =>
      obtain ⟨x, H', I', rx, r', xt, rs, rd'⟩ := I.after hq
      obtain ⟨t, zs, rfl, sq, rz⟩ := rd'.tup_inv
      obtain ⟨z1, w1, rfl, y1, rz⟩ := rz.cons_inv
      obtain ⟨z2, w2, rfl, y2, rz⟩ := rz.cons_inv
      obtain rfl := rz.nil_inv
      obtain rfl := y1.int_inv
      obtain rfl := y2.int_inv
      cases rx
      exact q t H' r' s' I' xt rs sq
    | next => exact False.elim hq
    | brk => exact False.elim hq
    | cont => exact False.elim hq
theorem vals_get : ∀ {xs : List V} {us : List Value} {j : Nat} {u : Value}, Vals xs us → us[j]? = some u → ∃ v, xs[j]? = some v ∧ RelV v u
  | _, _, _, _, .nil, h => by simp at h
  | _, _, 0, _, .cons r t, h => by simp at h; subst h; exact ⟨_, rfl, r⟩
  | _, _, j + 1, _, .cons r t, h => by
    obtain ⟨v, e, q⟩ := vals_get (j := j) t (by simpa using h)
    exact ⟨v, by simpa using e, q⟩
theorem each_map {α β γ : Type} {R : α → γ → Prop} {f : β → γ} : ∀ {as : List α} {bs : List β}, EachIs (fun a b => R a (f b)) as bs → EachIs R as (bs.map f)
  | _, _, .nil => .nil
  | _, _, .cons h t => .cons h (each_map t)
theorem each_vals {α : Type} {R : Value → α → Prop} {g : α → V} : ∀ {us : List Value} {is : List α}, EachIs R us is → (∀ u i, R u i → RelV (g i) u) → Vals (is.map g) us
  | _, _, .nil, _ => .nil
  | _, _, .cons h t, q => .cons (q _ _ h) (each_vals t q)
theorem rds_map {α : Type} {K : Frag} {H : Hp} {r : Rho} {f : α → D} {g : α → V} : ∀ {is : List α}, (∀ i ∈ is, RD K H r (f i) (g i)) → RDs K H r (is.map f) (is.map g)
  | [], _ => .nil
  | i :: is, h => .cons (h i List.mem_cons_self) (rds_map fun j hj => h j (List.mem_cons_of_mem _ hj))
/-- the state of the loop over the items: j keys made -/
def KJ (X : Cx) (cl : Clm) (pins : List (Addr × Obj)) (σ : L2.St) (H : Hp) (r : Rho) (st : S) (ks : List (Int × Int)) (a' kS : Addr) (e1 : Nat) (j : Nat) (s : Shared) : Prop :=
  ∃ (H' : Hp) (r' : Rho) (kA : Array Value) (ep : Nat), Inv X ((kS, seqObj "list" kA ep) :: (a', seqObj "list" #[] e1) :: pins) σ H' s ∧ Xt X.K r H r' H' ∧ RS X.K cl r' st H' ∧ kA.size = j ∧
    ∀ i v, kA.toList[i]? = some v → ∃ t, v = .ref t ∧ SqT X.K H' t [.int (ks.getD i (0, 0)).1, .int (ks.getD i (0, 0)).2]
theorem getD_at {α : Type} {l : List α} {i : Nat} {x d : α} (h : l[i]? = some x) : l.getD i d = x := by rw [List.getD_eq_getElem?_getD, h]; rfl
theorem cr_sortK (hF : FnOk X.prog X.w X.K X.mg X.base (L2N.CX X.prog X.w) k fa fd ps (spD X.K cl 1 F)) (hr : Room k X.A.in1.in1) (hb : Binds X.K fd ps []) : CallRK X (.builtin "sorted") [Str.ofString "key"] (rSortK X cl (.ref fa) F) := by
  intro pins s σ H vs zs us ws Q I rv rz h
  obtain ⟨a, fa', n, r, st, l, ks, rfl, rfl, ef, hn, hs, hl, lk, hk, q⟩ := h
  cases ef
  obtain rfl := Vals.ref1 rv
  obtain rfl := Vals.ref1 rz
  obtain ⟨xs, hx, hxs⟩ := lst_at hs hl hn
  obtain ⟨its, rv2, hil, hz⟩ := I.list (.inl (.inl hx))
  have lx : l.length = xs.length := hxs.length
  have li : xs.length = its.length := rv2.length
  have room := hr.un
  refine sorted_of_sort hil.isList (by omega) (PyProof.Rows.ksk_s1 _ _) (fun _ => PyProof.Rows.ksk_l1 _ _) fun E' => ?_
  show wpAny _ _ (Builtin.«list.sort» ⟨[.ref (s.heap.objs.size + 1)], [(Str.ofString "key", .ref fa)]⟩) _ _ _
  rw [PyProof.Rows.ksk_t1]
  -- the copy, the two stores
  have ho := copyHeap_at s.heap its
  have hold : ∀ b o, s.heap.get? b = some o → (copyHeap s.heap its).get? b = some o := fun b o e => copyHeap_old e
  have hlt := Heap.lt_size ho
  obtain ⟨e1, ho1⟩ : ∃ e1, ((copyHeap s.heap its).update (s.heap.objs.size + 1) (Obj.mapSeq fun _ => (#[] : Array Value))).get? (s.heap.objs.size + 1) = some (seqObj "list" #[] e1) := ⟨_, get?_update_seq ho fun _ => #[]⟩
  have hkS : (((copyHeap s.heap its).update (s.heap.objs.size + 1) (Obj.mapSeq fun _ => (#[] : Array Value))).push (seqObj "tuple" its.toArray 0)).objs.size = (copyHeap s.heap its).objs.size + 1 := by rw [size_push', Heap.size_update]
  have kold : ∀ b o, s.heap.get? b = some o → ((((copyHeap s.heap its).update (s.heap.objs.size + 1) (Obj.mapSeq fun _ => (#[] : Array Value))).push (seqObj "tuple" its.toArray 0)).push (seqObj "list" #[] 0)).get? b = some o := fun b o e =>
    Heap.get?_push_of_some _ (Heap.get?_push_of_some _ ((Heap.get?_update_ne _ _ _ _ (Nat.ne_of_lt (Nat.lt_succ_of_lt (Heap.lt_size e)))).trans (hold b o e)))
  have ka : ((((copyHeap s.heap its).update (s.heap.objs.size + 1) (Obj.mapSeq fun _ => (#[] : Array Value))).push (seqObj "tuple" its.toArray 0)).push (seqObj "list" #[] 0)).get? (s.heap.objs.size + 1) = some (seqObj "list" #[] e1) :=
    Heap.get?_push_of_some _ (Heap.get?_push_of_some _ ho1)
  have kk : ((((copyHeap s.heap its).update (s.heap.objs.size + 1) (Obj.mapSeq fun _ => (#[] : Array Value))).push (seqObj "tuple" its.toArray 0)).push (seqObj "list" #[] 0)).get? (((copyHeap s.heap its).update (s.heap.objs.size + 1) (Obj.mapSeq fun _ => (#[] : Array Value))).push (seqObj "tuple" its.toArray 0)).objs.size = some (seqObj "list" #[] 0) := Heap.get?_push_size _ rfl
  unfold ksk_tree
  refine wpAny_bind (listItems_at ho rfl ?_)
  refine wpAny_bind (listUpdate_at ho rfl ?_ (by rw [List.size_toArray]; omega) (Nat.zero_le _))
  refine wpAny_bind (seqEpoch_at ho1 rfl ?_)
  refine wpAny_bind (wpAny_newTuple ?_ (by show its.length ≤ _; omega))
  refine wpAny_bind (wpAny_newList ?_ (Nat.zero_le _))
  refine wpAny_holding ?_
  have fA : Apart X pins (s.heap.objs.size + 1) := apart_of I (Nat.le_succ _)
  have fK : Apart X pins (((copyHeap s.heap its).update (s.heap.objs.size + 1) (Obj.mapSeq fun _ => (#[] : Array Value))).push (seqObj "tuple" its.toArray 0)).objs.size := apart_of I (by rw [hkS]; exact Nat.le_trans (Nat.le_succ _) (Nat.le_trans (Nat.le_of_lt hlt) (Nat.le_succ _)))
  have geK : s.heap.objs.size ≤ (((copyHeap s.heap its).update (s.heap.objs.size + 1) (Obj.mapSeq fun _ => (#[] : Array Value))).push (seqObj "tuple" its.toArray 0)).objs.size := by rw [hkS]; exact Nat.le_trans (Nat.le_succ _) (Nat.le_trans (Nat.le_of_lt hlt) (Nat.le_succ _))
  have nKA : (((copyHeap s.heap its).update (s.heap.objs.size + 1) (Obj.mapSeq fun _ => (#[] : Array Value))).push (seqObj "tuple" its.toArray 0)).objs.size ≠ s.heap.objs.size + 1 := by rw [hkS]; exact Nat.ne_of_gt (Nat.lt_succ_of_lt hlt)
  generalize (((copyHeap s.heap its).update (s.heap.objs.size + 1) (Obj.mapSeq fun _ => (#[] : Array Value))).push (seqObj "tuple" its.toArray 0)).objs.size = kS at kk fK nKA geK ⊢
  change wpAny _ _ _ _ _ { s with heap := ((((copyHeap s.heap its).update (s.heap.objs.size + 1) (Obj.mapSeq fun _ => (#[] : Array Value))).push (seqObj "tuple" its.toArray 0)).push (seqObj "list" #[] 0)) }
  generalize ((((copyHeap s.heap its).update (s.heap.objs.size + 1) (Obj.mapSeq fun _ => (#[] : Array Value))).push (seqObj "tuple" its.toArray 0)).push (seqObj "list" #[] 0)) = h1 at kold ka kk ⊢
  have nA : H (s.heap.objs.size + 1) = none := I.hok.fresh (Nat.le_succ _)
  have nc : ∀ (xs : Array Value) (n : Nat) v, (seqObj "list" xs n).data ≠ .cell v := fun xs n v z => by cases z
  have I1 : Inv X ((kS, seqObj "list" #[] 0) :: (s.heap.objs.size + 1, seqObj "list" #[] e1) :: pins) σ H { s with heap := h1 } := by
    have I0 : Inv X pins σ H { s with heap := h1 } := I.kept (t' := s.toks) kold
    have nK : H kS = none := I.hok.fresh geK
    refine I0.pins_of fun p hp => ?_
    rcases List.mem_cons.mp hp with rfl | hp
    · exact ⟨kk, nK, fK.loc, fK.nofs I, nc _ _⟩
    · rcases List.mem_cons.mp hp with rfl | hp
      · exact ⟨ka, nA, fA.loc, fA.nofs I, nc _ _⟩
      · exact I0.pin p (List.mem_append_right _ hp)
  have fK2 : Apart X ((s.heap.objs.size + 1, seqObj "list" #[] e1) :: pins) kS := ⟨fK.young, fK.loc, fK.cell, fun p hp => by
    rcases List.mem_append.mp hp with z | z
    · exact fK.pin p (List.mem_append_left _ z)
    · rcases List.mem_cons.mp z with rfl | z
      · exact Ne.symm nKA
      · exact fK.pin p (List.mem_append_right _ z)⟩
  unfold ksk_rest
  refine wpAny_bind (wpAny_rule ?_)
  first
    | rw [List.forIn_toArray]
    | (rw [← Array.forIn_toList]; simp only [List.toList_toArray])
  refine wpAny_bind (ksk_fold (fun j s' => KJ X cl pins σ H r st ks (s.heap.objs.size + 1) kS e1 j s') its 0 { s with heap := h1 } ⟨H, r, #[], 0, I1, .refl, hs, rfl, fun i v e => by simp at e⟩ ?step ?done)
  case step =>
    rintro j x s' hx ⟨H', r', kA, ep, I', xt, rs, sz, hkeys⟩
    simp only [Nat.zero_add] at sz hkeys ⊢
    have hj : j < its.length := (List.getElem?_eq_some_iff.mp hx).1
    obtain ⟨v, hv, ru⟩ := vals_get rv2 hx
    obtain ⟨d, hd, rd⟩ := hxs.get' hv
    have hkj := List.getElem?_eq_getElem (l := ks) (i := j) (by omega)
    generalize ks[j]'(by omega) = kj at hkj
    have hkey := hk j d kj hd hkj
    refine wpAny_bind (wpAny_attempt (wpAny_mono (key_call hF hr hb I' rs (rd.mono xt.mn) ru hkey (Q := fun u s'' => ∃ (t : Addr) (H'' : Hp) (r'' : Rho), u = .ref t ∧ Inv X ((kS, seqObj "list" kA ep) :: (s.heap.objs.size + 1, seqObj "list" #[] e1) :: pins) σ H'' s'' ∧ Xt X.K r' H' r'' H'' ∧ RS X.K cl r'' st H'' ∧ SqT X.K H'' t [.int kj.1, .int kj.2])
      fun t H'' r'' s'' a b c e => ⟨t, H'', r'', rfl, a, b, c, e⟩) (fun u s'' hu => ?_) fun _ _ hF => hF.elim))
    obtain ⟨t, H'', r'', rfl, I2, xt2, rs2, sq⟩ := hu
    try dsimp only
    have nk2 := (I2.pin _ (List.mem_append_right _ List.mem_cons_self)).1
    have s1 := Heap.SameBut.update s''.heap kS (Obj.mapSeq (·.push (Value.ref t)))
    obtain ⟨c2, hc2⟩ : ∃ c2, (s''.heap.update kS (Obj.mapSeq (·.push (Value.ref t)))).get? kS = some (seqObj "list" (kA.push (Value.ref t)) c2) := ⟨_, get?_update_seq nk2 (·.push (Value.ref t))⟩
    have hz2 : kA.size ≤ sizeLine := by omega
    refine wpAny_bind (listUpdate_at nk2 rfl ?_ hz2 (Nat.le_trans (Nat.le_of_eq (Array.size_push ..)) (Nat.succ_le_succ hz2)))
    have I3 := pin_turn (t' := s''.toks) I2 fK2 (fun b u hb e => (s1.2 b hb).trans e) hc2 (nc _ _)
    refine wpAny_pure ⟨rfl, H'', r'', kA.push (Value.ref t), c2, I3, xt.trans xt2, rs2, by rw [Array.size_push, sz], fun i v e => ?_⟩
    have ea : (kA.push (Value.ref t)).toList = kA.toList ++ [Value.ref t] := by simp
    rw [ea] at e
    have lk' : kA.toList.length = j := by rw [Array.length_toList]; exact sz
    by_cases hi : i < j
    · rw [List.getElem?_append_left (by omega)] at e
      obtain ⟨t', rfl, q'⟩ := hkeys i v e
      exact ⟨t', rfl, xt2.sqt _ _ q'⟩
    · have hi2 := (List.getElem?_eq_some_iff.mp e).1
      rw [List.length_append, List.length_singleton] at hi2
      have : i = j := by omega
      subst this
      rw [List.getElem?_append_right (by omega), lk', Nat.sub_self] at e
      cases e
      rw [getD_at hkj]
      exact ⟨t, rfl, sq⟩
  case done =>
    rintro s' ⟨H', r', kA, ep, I', xt, rs, sz, hkeys⟩
    rw [Nat.zero_add] at sz
    have pk := I'.pin _ (List.mem_append_right _ List.mem_cons_self)
    have pa := I'.pin _ (List.mem_append_right _ (List.mem_cons_of_mem _ List.mem_cons_self))
    have I0 : Inv X pins σ H' s' := I'.pins_of fun p hp => I'.pin p (List.mem_append_right _ (List.mem_cons_of_mem _ (List.mem_cons_of_mem _ hp)))
    refine wpAny_bind (listItems_at pk.1 rfl ?_)
    -- the keys as data
    have lkA : kA.toList.length = its.length := by rw [Array.length_toList]; exact sz
    have heach : EachIs (fun v d => ∃ as, Reads s'.heap v d as) kA.toList ((List.range its.length).map fun i => PyData.tuple [.int (ks.getD i (0, 0)).1, .int (ks.getD i (0, 0)).2]) := by
      refine each_map ?_
      rw [← lkA]
      refine each_range0 fun i v e => ?_
      obtain ⟨t, rfl, sq⟩ := hkeys i v e
      exact Dp.reads I0 _ (V.ref t) _ (.tup sq (.cons (.int _) (.cons (.int _) .nil))) rfl
    have hal : AllAlike ((List.range its.length).map fun i => PyData.tuple [.int (ks.getD i (0, 0)).1, .int (ks.getD i (0, 0)).2]) := AllAlike.of fun _ _ => by simp [PySem.W.alike, PySem.W.alikeAll]
    have hh : ∀ b o, (hideAll s'.heap [kS]).get? b = some o → s'.heap.get? b = some o := fun b o e => of_hideAll [kS] e
    refine keyH_end (κ := dataKind s'.heap ((List.range its.length).map fun i => PyData.tuple [.int (ks.getD i (0, 0)).1, .int (ks.getD i (0, 0)).2])) (h₁ := hideAll s'.heap [kS]) (fun b o _ e => hh b o e) (hideAll_none [kS] (by simp)) pk.1 pa.1 nKA (SortsAt.data heach hal (Sortable.tuples fun _ => ⟨_, _, rfl⟩) ?_) sz (by omega) fun h2 tk c kp ha2 => ⟨rfl, ?_⟩
    · intro d hd
      obtain ⟨i, _, rfl⟩ := List.mem_map.mp hd
      have e : (PyData.tuple [.int (ks.getD i (0, 0)).1, .int (ks.getD i (0, 0)).2]).depth = 1 := by simp [PyData.depth, PyData.depthAll]
      rw [e]; omega
    · have ko : KeyedOut false ((List.range its.length).map fun i => PyData.tuple [.int (ks.getD i (0, 0)).1, .int (ks.getD i (0, 0)).2]) its (sortVals (dataKind s'.heap ((List.range its.length).map fun i => PyData.tuple [.int (ks.getD i (0, 0)).1, .int (ks.getD i (0, 0)).2])) false kA.toList its) := ⟨s'.heap, kA.toList, hal, rfl, heach⟩
      have eo := keyedOut_each (R := fun v i => its[i]? = some v) (fun i => PyData.tuple [.int (ks.getD i (0, 0)).1, .int (ks.getD i (0, 0)).2]) ko (each_range0 fun i v e => e)
      rw [dataLe_ii (β := Nat) (fun i => (ks.getD i (0, 0)).1) (fun i => (ks.getD i (0, 0)).2)] at eo
      generalize sortVals (dataKind s'.heap ((List.range its.length).map fun i => PyData.tuple [.int (ks.getD i (0, 0)).1, .int (ks.getD i (0, 0)).2])) false kA.toList its = out at eo ha2
      have eis : (List.range its.length).mergeSort (fun i j => decide ((ks.getD i (0, 0)).1 < (ks.getD j (0, 0)).1 ∨ ((ks.getD i (0, 0)).1 = (ks.getD j (0, 0)).1 ∧ (ks.getD i (0, 0)).2 ≤ (ks.getD j (0, 0)).2))) = (List.range l.length).mergeSort (fun i j => decide ((ks.getD i (0, 0)).1 < (ks.getD j (0, 0)).1 ∨ ((ks.getD i (0, 0)).1 = (ks.getD j (0, 0)).1 ∧ (ks.getD i (0, 0)).2 ≤ (ks.getD j (0, 0)).2))) := by rw [show its.length = l.length by omega]
      have mem : ∀ i ∈ (List.range its.length).mergeSort (fun i j => decide ((ks.getD i (0, 0)).1 < (ks.getD j (0, 0)).1 ∨ ((ks.getD i (0, 0)).1 = (ks.getD j (0, 0)).1 ∧ (ks.getD i (0, 0)).2 ≤ (ks.getD j (0, 0)).2))), i < its.length := fun i hi => List.mem_range.mp ((List.mergeSort_perm _ _).mem_iff.mp hi)
      have lis : ((List.range its.length).mergeSort (fun i j => decide ((ks.getD i (0, 0)).1 < (ks.getD j (0, 0)).1 ∨ ((ks.getD i (0, 0)).1 = (ks.getD j (0, 0)).1 ∧ (ks.getD i (0, 0)).2 ≤ (ks.getD j (0, 0)).2)))).length = its.length := by rw [List.length_mergeSort, List.length_range]
      generalize (List.range its.length).mergeSort (fun i j => decide ((ks.getD i (0, 0)).1 < (ks.getD j (0, 0)).1 ∨ ((ks.getD i (0, 0)).1 = (ks.getD j (0, 0)).1 ∧ (ks.getD i (0, 0)).2 ≤ (ks.getD j (0, 0)).2))) = is at eo eis mem lis
      have hvals : Vals (is.map fun i => xs.getD i .non) out := each_vals eo fun u i e => by
        obtain ⟨v, hv, rv⟩ := vals_get rv2 e
        rw [getD_at hv]; exact rv
      refine ⟨.ref (s.heap.objs.size + 1), upd H' (s.heap.objs.size + 1) (.lst (is.map fun i => xs.getD i .non)), ?_, rfl, q H' r' _ _ is xt rs pa.2.1 eis ?_⟩
      · refine end_turn (t' := tk) I0 fA fK pa.2.1 pk.2.1 (fun b o hb hb2 e => kp b o hb (PySem.W.hideAll_get [kS] e (by simpa using hb2))) ⟨by rw [List.length_map, lis]; omega, out, c, hvals, ha2⟩
      · refine rds_map fun i hi => ?_
        have hil2 := mem i hi
        have h1 := List.getElem?_eq_getElem (l := l) (i := i) (by omega)
        obtain ⟨v, hv, rd⟩ := hxs.get h1
        rw [getD_at h1, getD_at hv]
        exact rd.mono xt.mn
end
end Dn

/-! Dn, Y: the combinator for sorted(list, key=def). -/
namespace Dn
open PySem PySem.Spec PyProof.Rows L2
open Classical in
/-- the key of an item: what the def says of it, where it leaves the store -/
noncomputable def keyOf (F : List D → S → Out D) (st : S) (d : D) : Option (Int × Int) := if h : ∃ k : Int × Int, F [d] st = .ok (.tup [.int k.1, .int k.2]) st then some h.choose else none
theorem keyOf_some {F : List D → S → Out D} {st : S} {d : D} {k : Int × Int} (h : keyOf F st d = some k) : F [d] st = .ok (.tup [.int k.1, .int k.2]) st := by
  unfold keyOf at h
  split at h
  · rename_i q
    have := q.choose_spec
    rw [Option.some.inj h] at this
    exact this
  · cases h
theorem keyOf_of {F : List D → S → Out D} {st : S} {d : D} {k : Int × Int} (h : F [d] st = .ok (.tup [.int k.1, .int k.2]) st) : keyOf F st d = some k := by
  unfold keyOf
  have q : ∃ k : Int × Int, F [d] st = .ok (.tup [.int k.1, .int k.2]) st := ⟨k, h⟩
  rw [dif_pos q]
  have e := h.symm.trans q.choose_spec
  injection e with e1
  injection e1 with e1
  injection e1 with a b
  injection b with b
  injection a with a
  injection b with b
  rw [Prod.ext a b]
def ordK (ks : List (Int × Int)) (i j : Nat) : Bool := decide ((ks.getD i (0, 0)).1 < (ks.getD j (0, 0)).1 ∨ ((ks.getD i (0, 0)).1 = (ks.getD j (0, 0)).1 ∧ (ks.getD i (0, 0)).2 ≤ (ks.getD j (0, 0)).2))
def sortBy (l : List D) (ks : List (Int × Int)) : List D := ((List.range l.length).mergeSort (ordK ks)).map fun i => l.getD i .non
noncomputable def dSortK (F : List D → S → Out D) (m : AM) : EM := fun en st => (m en st).bind fun ds st1 => match ds with
  | [.ref n] => match st1[n]? with
    | some (.lst l) => match mapO (keyOf F st1) l with
      | some ks => .ok (.ref st1.length) (st1 ++ [.lst (sortBy l ks)])
      | none => .bad
    | _ => .bad
  | _ => .bad
theorem mapO_cons {α β : Type} {f : α → Option β} {d : α} {l : List α} {ks : List β} (h : mapO f (d :: l) = some ks) : ∃ k ks', f d = some k ∧ mapO f l = some ks' ∧ ks = k :: ks' := by
  simp only [mapO] at h
  cases e1 : f d with
  | none => simp only [e1] at h; cases h
  | some k =>
    cases e2 : mapO f l with
    | none => simp only [e1, e2] at h; cases h
    | some ks' => simp only [e1, e2] at h; exact ⟨k, ks', rfl, rfl, (Option.some.inj h).symm⟩
theorem mapO_len {α β : Type} {f : α → Option β} : ∀ {l : List α} {ks : List β}, mapO f l = some ks → ks.length = l.length
  | [], ks, h => by simp only [mapO, Option.some.injEq] at h; subst h; rfl
  | d :: l, ks, h => by
    obtain ⟨k, ks', _, e2, rfl⟩ := mapO_cons h
    rw [List.length_cons, List.length_cons, mapO_len e2]
theorem mapO_at {α β : Type} {f : α → Option β} : ∀ {l : List α} {ks : List β} {i : Nat} {d : α} {k : β}, mapO f l = some ks → l[i]? = some d → ks[i]? = some k → f d = some k
  | [], _, _, _, _, _, h, _ => by simp at h
  | x :: l, ks, i, d, k, h, hd, hk => by
    obtain ⟨k', ks', e1, e2, rfl⟩ := mapO_cons h
    cases i with
    | zero => simp at hd hk; subst hd hk; exact e1
    | succ i => exact mapO_at (i := i) e2 (by simpa using hd) (by simpa using hk)
theorem mapO_map {α β : Type} {f : α → Option β} {g : α → β} : ∀ {l : List α}, (∀ d ∈ l, f d = some (g d)) → mapO f l = some (l.map g)
  | [], _ => rfl
  | d :: l, h => by
    have h1 := h d List.mem_cons_self
    have h2 := mapO_map (l := l) fun x hx => h x (List.mem_cons_of_mem _ hx)
    simp only [mapO, h1, h2, List.map_cons]
theorem room_in2 {k : Nat} {A : Around} (r : Room (k + 1) A) : Room k A.in1.in1 := ⟨r.hd, by have := r.dp; show A.depth + 3 * k + 5 < _; omega, by have := r.un; show A.units + 1 + 1 + 16 * k + 200 < _; omega⟩
theorem se_sortK {X : Cx} {cl : Clm} {W : WX} {e : Expr} {m : AM} {kf : Str} {k : Nat} {F : List D → S → Out D} {p q pos kpos : Pos} (hF : FnD X.prog X.w X.K X.mg X.base cl kf 1 k F) (hr : Room (k + 1) X.A) (hg : Gl X "sorted") (hm : X.mg "sorted" = none) (hgk : Gl X kf) (ha : SA X cl W [e] m)
    (hdk : (kf == ("__debug__" : Str)) = false := by decide)
    (he : backTo pos (starEach [e] X.env) = (false, eval e X.env) :: backTo pos (starEach [] X.env) := by rfl) (hpl : (backTo pos (starEach [e] X.env)).any (·.1) = false := by rfl)
    (hall : (backToKw pos (keywordEach [⟨some "key", .Name kf q, kpos⟩] X.env)).all (·.1.isSome) = true := by rfl) (hnone : (backToKw pos (keywordEach [⟨some "key", .Name kf q, kpos⟩] X.env)).any (·.1.isNone) = false := by rfl) (hks : (backToKw pos (keywordEach [⟨some "key", .Name kf q, kpos⟩] X.env)).filterMap (·.1) = [Str.ofString "key"] := by rfl) :
    SE X cl W (.Call (.Name "sorted" p) [e] [⟨some "key", .Name kf q, kpos⟩] pos) (dSortK F m) := by
  obtain ⟨fa, fd, ps, hmk, hk, hb, hF⟩ := hF
  have hc := cr_sortK hF (room_in2 hr) hb
  have hpk : PK X [⟨some "key", .Name kf q, kpos⟩] (tCons (tC (.ref fa)) tNil) := pk_cons (pe_glob hgk hmk rfl hdk) pk_nil
  refine ⟨pe_of (pe_callBK hc hg hm boot_sorted ha.pa hpk (he := he) (hpl := hpl) (hall := hall) (hnone := hnone) (hks := hks)) fun s H Q ⟨r, en, st, he, hs, hp⟩ => ⟨r, en, st, he, hs, (Po.bind hp).mono fun r1 H1 ds st1 x1 s1 h1 vs q => ?_⟩⟩
  show rSortK X cl (.ref fa) F vs [V.ref fa] H1 Q
  have hd : ∃ n, ds = [.ref n] := by
    cases ds with
    | nil => exact h1.elim
    | cons d ds =>
      cases ds with
      | nil =>
        cases d with
        | ref n => exact ⟨n, rfl⟩
        | _ => exact h1.elim
      | cons _ _ => cases d <;> exact h1.elim
  obtain ⟨n, rfl⟩ := hd
  obtain ⟨v, w, rfl, rv, rw'⟩ := q.cons_inv
  obtain rfl := rw'.nil_inv
  obtain ⟨a, rfl, hn⟩ := rv.ref_inv
  cases e1 : st1[n]? with
  | none => simp only [e1] at h1; exact h1.elim
  | some o =>
    cases o with
    | lst l =>
      simp only [e1] at h1
      cases e2 : mapO (keyOf F st1) l with
      | none => simp only [e2] at h1; exact h1.elim
      | some ks =>
        simp only [e2] at h1
        refine ⟨a, fa, n, r1, st1, l, ks, rfl, rfl, rfl, hn, s1, e1, mapO_len e2, fun i d kk hd hkk => keyOf_some (mapO_at e2 hd hkk), fun H' r' p ys is xt rs np eis rds => ?_⟩
        subst eis
        exact new_lst (W := W) (l := sortBy l ks) rs rds (Po.xt xt h1) p np
    | frz l => simp only [e1] at h1; exact h1.elim
    | ins c fs => simp only [e1] at h1; exact h1.elim
    | set l => simp only [e1] at h1; exact h1.elim
    | xcp c l => simp only [e1] at h1; exact h1.elim
    | rng c l => simp only [e1] at h1; exact h1.elim
    | dT l => simp only [e1] at h1; exact h1.elim
    | dK l => simp only [e1] at h1; exact h1.elim
end Dn

/-! Dn, N: dicts; keys ints and texts, or tuples of ints. -/
namespace Dn
open PySem PySem.Spec PyProof.Rows L2

section
variable {κ α β : Type} [DecidableEq κ]
def getQ (l : List (κ × α)) (k : κ) : Option α := (l.find? fun p => decide (p.1 = k)).map (·.2)
def updQ (l : List (κ × α)) (k : κ) (f : α → α) (new : α) : List (κ × α) := if (getQ l k).isSome then l.map (fun p => if p.1 = k then (p.1, f p.2) else p) else l ++ [(k, new)]
abbrev putQ (l : List (κ × α)) (k : κ) (v : α) : List (κ × α) := updQ l k (fun _ => v) v
theorem getQ_nil {k : κ} : getQ ([] : List (κ × α)) k = none := rfl
theorem getQ_pos {p : κ × α} {r : List (κ × α)} {k : κ} (e : p.1 = k) : getQ (p :: r) k = some p.2 := by simp [getQ, List.find?_cons, e]
theorem getQ_neg {p : κ × α} {r : List (κ × α)} {k : κ} (e : ¬ p.1 = k) : getQ (p :: r) k = getQ r k := by simp [getQ, List.find?_cons, e]
theorem getQ_map (k j : κ) (f : α → α) : ∀ l : List (κ × α), getQ (l.map fun p => if p.1 = k then (p.1, f p.2) else p) j = (getQ l j).map fun x => if j = k then f x else x
  | [] => rfl
  | p :: r => by
    have ih := getQ_map k j f r
    rw [List.map_cons]
    by_cases h : p.1 = k
    · rw [if_pos h]
      by_cases e : p.1 = j
      · rw [getQ_pos (p := (p.1, f p.2)) e, getQ_pos e, Option.map_some, if_pos (e.symm.trans h)]
      · rw [getQ_neg (p := (p.1, f p.2)) e, getQ_neg e, ih]
    · rw [if_neg h]
      by_cases e : p.1 = j
      · rw [getQ_pos (p := p) e, getQ_pos e, Option.map_some, if_neg (fun z => h (e.trans z))]
      · rw [getQ_neg (p := p) e, getQ_neg e, ih]
theorem getQ_snoc (k j : κ) (y : α) : ∀ l : List (κ × α), getQ l k = none → getQ (l ++ [(k, y)]) j = if j = k then some y else getQ l j
  | [], _ => by
    by_cases e : k = j
    · rw [if_pos e.symm]; exact getQ_pos (p := (k, y)) e
    · rw [if_neg (fun z => e z.symm)]; exact getQ_neg (p := (k, y)) e
  | p :: r, hn => by
    rw [List.cons_append]
    have hk : ¬ p.1 = k := fun z => by rw [getQ_pos z] at hn; cases hn
    rw [getQ_neg hk] at hn
    have ih := getQ_snoc k j y r hn
    by_cases e : p.1 = j
    · rw [getQ_pos e, getQ_pos e, if_neg (fun z => hk (e.trans z))]
    · rw [getQ_neg e, getQ_neg e, ih]
theorem getQ_put (l : List (κ × α)) (k j : κ) (y : α) : getQ (putQ l k y) j = if j = k then some y else getQ l j := by
  unfold putQ updQ
  split
  · rename_i a
    rw [getQ_map k j (fun _ => y)]
    by_cases e : j = k
    · obtain ⟨x, hx⟩ := Option.isSome_iff_exists.mp a
      rw [if_pos e, e, hx, Option.map_some, if_pos rfl]
    · rw [if_neg e]
      cases getQ l j with
      | none => rfl
      | some x => rw [Option.map_some, if_neg e]
  · rename_i a
    refine getQ_snoc k j y l ?_
    cases q : getQ l k with
    | none => rfl
    | some x => rw [q] at a; exact (a rfl).elim
theorem len_updQ (l : List (κ × α)) (k : κ) (f : α → α) (v : α) : (updQ l k f v).length ≤ l.length + 1 := by
  unfold updQ
  split
  · rw [List.length_map]; omega
  · rw [List.length_append, List.length_cons, List.length_nil]; omega
theorem getQ_pr {R : κ → α → β → Prop} {k : κ} : ∀ {l : List (κ × α)} {m : List (κ × β)}, Paired (fun p q => p.1 = q.1 ∧ R q.1 p.2 q.2) l m →
    (∃ v u, getQ l k = some v ∧ getQ m k = some u ∧ R k v u) ∨ (getQ l k = none ∧ getQ m k = none)
  | _, _, .nil => .inr ⟨rfl, rfl⟩
  | _, _, .cons (a := p) (b := q) h t => by
    by_cases e : p.1 = k
    · have e' : q.1 = k := h.1.symm.trans e
      exact .inl ⟨p.2, q.2, getQ_pos e, getQ_pos e', by rw [← e']; exact h.2⟩
    · have e' : ¬ q.1 = k := fun z => e (h.1.trans z)
      rw [getQ_neg e, getQ_neg e']
      exact getQ_pr t
theorem getQ_iss {R : κ → α → β → Prop} {k : κ} {l : List (κ × α)} {m : List (κ × β)} (h : Paired (fun p q => p.1 = q.1 ∧ R q.1 p.2 q.2) l m) : (getQ l k).isSome = (getQ m k).isSome := by
  rcases getQ_pr (k := k) h with ⟨v, u, e1, e2, _⟩ | ⟨e1, e2⟩ <;> rw [e1, e2] <;> rfl
theorem upd_pr {R : κ → α → β → Prop} {k : κ} {l : List (κ × α)} {m : List (κ × β)} {f : α → α} {g : β → β} {x : α} {y : β} (h : Paired (fun p q => p.1 = q.1 ∧ R q.1 p.2 q.2) l m) (hf : ∀ a b, R k a b → R k (f a) (g b)) (hx : R k x y) :
    Paired (fun p q => p.1 = q.1 ∧ R q.1 p.2 q.2) (updQ l k f x) (updQ m k g y) := by
  unfold updQ
  rw [getQ_iss (k := k) h]
  split
  · rename_i hss
    clear hx hss
    induction h with
    | nil => exact .nil
    | @cons p q ps qs h t ih =>
      rw [List.map_cons, List.map_cons]
      refine .cons ?_ ih
      obtain ⟨h1, h2⟩ := h
      by_cases e : p.1 = k
      · have e' : q.1 = k := h1.symm.trans e
        rw [if_pos e, if_pos e']
        exact ⟨h1, by show R q.1 (f p.2) (g q.2); rw [e']; exact hf _ _ (by rw [← e']; exact h2)⟩
      · rw [if_neg e, if_neg (fun z => e (h1.trans z))]; exact ⟨h1, h2⟩
  · exact Paired.snoc h ⟨rfl, hx⟩
end
theorem atKey_getQ {κ : Type} [DecidableEq κ] (xs : List (κ × Addr × Value)) (k : κ) : atKey xs k = getQ xs k := rfl
theorem storedH_updQ {κ : Type} [DecidableEq κ] (xs : List (κ × Addr × Value)) (k : κ) (b : Addr) (u : Value) : storedH xs k b u = updQ xs k (fun p => (p.1, u)) (b, u) := rfl
theorem valV_getQ {κ : Type} [DecidableEq κ] (l : List (κ × V)) (k : κ) : valV l k = getQ l k := rfl
theorem putK_putQ {κ : Type} [DecidableEq κ] (l : List (κ × V)) (k : κ) (v : V) : putK l k v = putQ l k v := by
  unfold putK putQ updQ
  rw [valV_any, valV_getQ]

/-! ### a dict of tuples in the heap -/
abbrev RLx : List Int → Addr × V → Addr × Value → Prop := fun _ p q => p.1 = q.1 ∧ L2.RelV p.2 q.2
abbrev RDL (K : Frag) (H : Hp) (r : Rho) : List Int → D → Addr × V → Prop := fun kk a p => SqT K H p.1 (kk.map V.int) ∧ RD K H r a p.2
abbrev RKL (K : Frag) (H : Hp) (r : Rho) : Key → D → V → Prop := fun _ a p => RD K H r a p
abbrev KeysT (K : Frag) (H : Hp) (L : List (List Int × Addr × V)) : Prop := ∀ p ∈ L, SqT K H p.2.1 (p.1.map V.int)
section
variable {X : Cx} {pins : List (Addr × Obj)} {σ : L2.St} {H : Hp} {s : Shared} {a b : Addr} {L : List (List Int × Addr × V)} {k : List Int}
theorem dic_full (I : Inv X pins σ H s) (h : H a = some (DicTO X.prog X.w a L)) (hk : KeysT X.K H L) : L.length ≤ sizeLine ∧ (a == sysModules) = false ∧
    ∃ xs : List (List Int × Addr × Value), Paired (fun p q => p.1 = q.1 ∧ p.2.1 = q.2.1 ∧ RelV p.2.2 q.2.2) L xs ∧ s.heap.DictOfH (tupleKind (intKind X.prog X.w)) a xs := by
  obtain ⟨z, y, xs, r, o, es, ep, h1, h2, h3, h4, h5⟩ := (show DicT0 X.prog X.w s.heap a L from (I.hok a _ h).1)
  refine ⟨z, y, xs, r, o, es, ep, h1, h2, h3, h4, ?_, h5⟩
  clear h4 h5 h z
  induction r with
  | nil => intro x hx; exact nomatch hx
  | @cons p q ps qs hq t ih =>
    intro x hx
    rcases List.mem_cons.mp hx with e | hx
    · subst e
      rw [← hq.1, ← hq.2.1]
      exact I.isT (hk p (List.mem_cons_self ..))
    · exact ih (fun p' hp' => hk p' (List.mem_cons_of_mem _ hp')) x hx
theorem dicTO_new {P : Program} {w : World} {h : Heap} {xs : List (List Int × Addr × Value)} (hl : L.length ≤ sizeLine) (hd : (a == sysModules) = false) (r : Paired (fun p q => p.1 = q.1 ∧ p.2.1 = q.2.1 ∧ RelV p.2.2 q.2.2) L xs)
    (dd : h.DictOfH (tupleKind (intKind P w)) a xs) : ObjOk P w H h a (DicTO P w a L) := by
  obtain ⟨o, es, ep, h1, h2, h3, h4, _, h5⟩ := dd
  refine ⟨⟨hl, hd, xs, r, o, es, ep, h1, h2, h3, h4, h5⟩, ⟨o, h1⟩, fun g1 g2 p kk => ?_⟩
  obtain ⟨z, y, xs, r, o, es, ep, h1, h2, h3, h4, h5⟩ := (show DicT0 P w g1 a L from p)
  exact ⟨z, y, xs, r, o, es, ep, kk _ h1, h2, h3, h4, h5⟩
def rIxDT (X : Cx) : R2 := fun x y H Q => ∃ a b L k p, x = .ref a ∧ y = .ref b ∧ H a = some (DicTO X.prog X.w a L) ∧ KeysT X.K H L ∧ SqT X.K H b (k.map V.int) ∧ getQ L k = some p ∧ Q p.2 H
theorem ix_dt (hu : X.A.units + 1 < cLine) : IxR X (rIxDT X) := by
  intro value slice pins s σ H x y v u Q I rx ry ⟨a, b, L, k, p, ex, ey, h1, h2, h3, h4, q⟩ hs
  subst ex ey
  cases rx; cases ry
  obtain ⟨z, hd, xs, r, dd⟩ := dic_full I h1 h2
  rcases getQ_pr (R := RLx) (k := k) r with ⟨v, u, e1, e2, e3⟩ | ⟨e1, _⟩
  · rw [h4] at e1; cases e1
    exact tail_any dd.typeIs PySem.F.slot_dict_getitem.lookup (wpAny_getItem_heap (tupleKind_room_in1 hu) (I.isT h3) dd (by rw [atKey_getQ]; exact e2) ⟨p.2, H, I.tok _, e3.2, q⟩) hs
  · rw [h4] at e1; cases e1
def rIxDK : R2 := fun x y H Q => ∃ a v, x = .ref a ∧ DGet H a y (some v) ∧ Q v H
theorem ix_dk (hu : X.A.units + 1 < cLine) : IxR X rIxDK := by
  intro value slice pins s σ H x y v u Q I rx ry ⟨a, z, ex, g, q⟩ hs
  subst ex
  cases rx
  exact tail_any (dict_typeIs I g) PySem.F.slot_dict_getitem.lookup (d_getItem hu I g ry fun w' s3 I3 rw' => ⟨z, H, I3, rw', q⟩) hs
def rInDT (X : Cx) (g : Bool → Bool) : R2 := fun x y H Q => ∃ a b L k, x = .ref b ∧ y = .ref a ∧ H a = some (DicTO X.prog X.w a L) ∧ KeysT X.K H L ∧ SqT X.K H b (k.map V.int) ∧ Q (.bl (g (getQ L k).isSome)) H
theorem op_inDT (hu : X.A.units + 1 < cLine) : OpR X (compareOp .In) (rInDT X id) := by
  intro pins s σ H x y v u Q I rx ry ⟨a, b, L, k, ex, ey, h1, h2, h3, q⟩
  subst ex ey
  cases rx; cases ry
  obtain ⟨z, hd, xs, r, dd⟩ := dic_full I h1 h2
  refine wpAny_in_heap (tupleKind_room_in1 hu) (I.isT h3) hd dd ⟨.bl (getQ L k).isSome, H, I.tok _, ?_, q⟩
  rw [atKey_getQ, ← getQ_iss (R := RLx) (k := k) r]
  rfl
theorem op_notinDT (hu : X.A.units + 1 < cLine) : OpR X (compareOp .NotIn) (rInDT X not) := by
  intro pins s σ H x y v u Q I rx ry ⟨a, b, L, k, ex, ey, h1, h2, h3, q⟩
  subst ex ey
  cases rx; cases ry
  obtain ⟨z, hd, xs, r, dd⟩ := dic_full I h1 h2
  refine wpAny_notIn_heap (tupleKind_room_in1 hu) (I.isT h3) hd dd ⟨.bl (!(getQ L k).isSome), H, I.tok _, ?_, q⟩
  rw [atKey_getQ, ← getQ_iss (R := RLx) (k := k) r]
  rfl
def rInDK (g : Bool → Bool) : R2 := fun x y H Q => ∃ a o, y = .ref a ∧ DGet H a x o ∧ Q (.bl (g o.isSome)) H
theorem op_inDK (hu : X.A.units + 1 < cLine) : OpR X (compareOp .In) (rInDK id) := by
  intro pins s σ H x y v u Q I rx ry ⟨a, o, ey, g, q⟩
  subst ey
  cases ry
  exact d_in hu I g rx fun s3 I3 => ⟨.bl o.isSome, H, I3, rfl, q⟩
theorem op_notinDK (hu : X.A.units + 1 < cLine) : OpR X (compareOp .NotIn) (rInDK not) := by
  intro pins s σ H x y v u Q I rx ry ⟨a, o, ey, g, q⟩
  subst ey
  cases ry
  exact d_notIn hu I g rx fun s3 I3 => ⟨.bl (!o.isSome), H, I3, rfl, q⟩
def rSetDT (X : Cx) : V → V → V → Hp → (Hp → Prop) → Prop := fun o i v H Q => ∃ a b L k, o = .ref a ∧ i = .ref b ∧ H a = some (DicTO X.prog X.w a L) ∧ KeysT X.K H L ∧ SqT X.K H b (k.map V.int) ∧ L.length < sizeLine ∧
  Q (upd H a (DicTO X.prog X.w a (updQ L k (fun p => (p.1, v)) (b, v))))
theorem set_dt (hu : X.A.units + 1 < cLine) : PSet X (rSetDT X) := by
  intro pins s σ H o i v ov iv u Q I ro ri rv ⟨a, b, L, k, eo, ei, h1, h2, h3, hl, q⟩
  subst eo ei
  cases ro; cases ri
  obtain ⟨z, hd, xs, r, dd⟩ := dic_full I h1 h2
  have hz : xs.length ≤ sizeLine := by rw [← Paired.length r]; exact z
  refine wpAny_setItem_heap (hsz := hz) (tupleKind_room_in1 hu) (I.isT h3) dd fun h' dd' hs => ⟨_, ?_, q⟩
  have he : ∃ q, h'.get? a = some q := let ⟨q, _, _, hq, _⟩ := dd'; ⟨q, hq⟩
  rw [storedH_updQ] at dd'
  refine I.write (x := a) (e := a) (by rw [h1]; trivial) (.inl rfl) (fun c w hc hw => (hs.2 c hc).trans hw) he (dicTO_new ?_ hd ?_ dd')
  · have := len_updQ L k (fun p => (p.1, v)) (b, v); omega
  · exact upd_pr (R := RLx) r (fun _ _ z => ⟨z.1, rv⟩) ⟨rfl, rv⟩
def rSetDK : V → V → V → Hp → (Hp → Prop) → Prop := fun o i v H Q => ∃ a H4, o = .ref a ∧ DPut H a i v H4 ∧ Q H4
theorem set_dk (hu : X.A.units + 1 < cLine) : PSet X rSetDK := by
  intro pins s σ H o i v ov iv u Q I ro ri rv ⟨a, H4, eo, g, q⟩
  subst eo
  cases ro
  exact d_setItem hu I g ri rv fun s4 I4 => ⟨H4, I4, q⟩
theorem PSet.or {t t' : V → V → V → Hp → (Hp → Prop) → Prop} (h : PSet X t) (h' : PSet X t') : PSet X (fun o i v H Q => t o i v H Q ∨ t' o i v H Q) := by
  intro pins s σ H o i v ov iv u Q I ro ri rv q
  rcases q with q | q
  · exact h pins s σ H o i v ov iv u Q I ro ri rv q
  · exact h' pins s σ H o i v ov iv u Q I ro ri rv q
theorem pe_dnewD {pos : Pos} : PE X (.Dict [] [] pos) (fun _ H Q => ∀ p, H p = none → Q (.ref p) (upd H p (DicTO X.prog X.w p []))) := ⟨fun pins s σ H Q I h =>
  wpAny_Dict_empty ⟨.ref s.heap.objs.size, _, I.laid (a := s.heap.objs.size) (o := DicTO X.prog X.w s.heap.objs.size []) (t' := s.toks) (fun _ _ q => Heap.get?_push_of_some _ q) (Nat.le_refl _)
    (dicTO_new (Nat.zero_le _) (beq_eq_false_iff_ne.mpr (Ne.symm (Nat.ne_of_lt I.big))) .nil (Heap.DictOfH.new s.heap)), rfl, h _ (I.hok.fresh (Nat.le_refl _))⟩⟩
end

theorem hu1 {A : Around} {k : Nat} (hr : Room k A) : A.units + 1 < cLine := by have := hr.un; omega
/-! ### what the text is worth -/
def keyI : D → Option Key
  | .int i => some (.inl i)
  | .str x => some (.inr x)
  | _ => none
def dNewT : EM := fun _ st => .ok (.ref st.length) (st ++ [.dT []])
def dNewK : EM := fun _ st => .ok (.ref st.length) (st ++ [.dK []])
def dGetD : D → D → S → Out D := fun o y st => match o with
  | .ref n => match st[n]? with
    | some (.dT l) => match (tupI y).bind (getQ l) with
      | some v => .ok v st
      | none => .bad
    | some (.dK l) => match (keyI y).bind (getQ l) with
      | some v => .ok v st
      | none => .bad
    | _ => .bad
  | _ => .bad
def dInD (g : Bool → Bool) : D → D → S → Out D := fun y o st => match o with
  | .ref n => match st[n]? with
    | some (.dT l) => match tupI y with
      | some k => .ok (.bl (g (getQ l k).isSome)) st
      | none => .bad
    | some (.dK l) => match keyI y with
      | some k => .ok (.bl (g (getQ l k).isSome)) st
      | none => .bad
    | _ => .bad
  | _ => .bad
def sPutD (mo mi me : EM) : SM := fun en st => (me en st).bind fun d st1 => (mo en st1).bind fun o st2 => (mi en st2).bind fun i st3 => match o with
  | .ref n => match st3[n]? with
    | some (.dT l) => match tupI i with
      | some k => if l.length < 100000 then .ok (.nx, en) (st3.set n (.dT (putQ l k d))) else .bad
      | none => .bad
    | some (.dK l) => match keyI i with
      | some k => if l.length < 100000 then .ok (.nx, en) (st3.set n (.dK (putQ l k d))) else .bad
      | none => .bad
    | _ => .bad
  | _ => .bad
theorem key_of {K : Frag} {H : Hp} {r : Rho} {d : D} {k : Key} {v : V} (e : keyI d = some k) (h : RD K H r d v) : v = kV k := by
  cases d with
  | int i => cases e; exact h.int_inv
  | str i => cases e; exact h.str_inv
  | _ => cases e
theorem dT_at {X : Cx} {cl : Clm} {r : Rho} {st : S} {H : Hp} {n : Nat} {a : Addr} {l : List (List Int × D)} (hc : Here X cl) (hs : RS X.K cl r st H) (g : st[n]? = some (.dT l)) (h : r n = some a) :
    ∃ L : List (List Int × Addr × V), H a = some (DicTO X.prog X.w a L) ∧ Paired (fun d p => d.1 = p.1 ∧ SqT X.K H p.2.1 (p.1.map V.int) ∧ RD X.K H r d.2 p.2.2) l L := by
  obtain ⟨b, e1, L, e2, e3⟩ := hs.at_ n _ g
  rw [h] at e1; cases e1
  rw [hc.1, hc.2] at e2
  exact ⟨L, e2, e3⟩
theorem dK_at {K : Frag} {cl : Clm} {r : Rho} {st : S} {H : Hp} {n : Nat} {a : Addr} {l : List (Key × D)} (hs : RS K cl r st H) (g : st[n]? = some (.dK l)) (h : r n = some a) :
    ∃ kvs : List (Key × V), H a = some (.dK kvs) ∧ Paired (fun d p => d.1 = p.1 ∧ RD K H r d.2 p.2) l kvs := by
  obtain ⟨b, e1, L, e2, e3⟩ := hs.at_ n _ g
  rw [h] at e1; cases e1
  exact ⟨L, e2, e3⟩
theorem keysT_of {K : Frag} {H : Hp} {r : Rho} : ∀ {l : List (List Int × D)} {L : List (List Int × Addr × V)}, Paired (fun d p => d.1 = p.1 ∧ SqT K H p.2.1 (p.1.map V.int) ∧ RD K H r d.2 p.2.2) l L → KeysT K H L
  | _, _, .nil => fun p hp => nomatch hp
  | _, _, .cons h t => fun p hp => by
    rcases List.mem_cons.mp hp with rfl | hp
    · exact h.2.1
    · exact keysT_of t p hp
section
variable {X : Cx} {cl : Clm} {W : WX} {pos : Pos} {o i e : Expr} {ma mi me : EM}
theorem se_newT (hc : Here X cl) : SE X cl W (.Dict [] [] pos) dNewT := ⟨pe_of pe_dnewD fun s H Q ⟨r, en, st, he, hs, hp⟩ p np => by
  obtain ⟨z1, z2⟩ := push_new (o := .dT []) (u := DicTO X.prog X.w p []) hs np ⟨[], by rw [hc.1, hc.2]; exact upd_same, .nil⟩ rfl
  exact hp _ _ z2 z1 _ (.ref nxt_self)⟩
theorem se_newK : SE X cl W (.Dict [] [] pos) dNewK := ⟨pe_of pe_dnewK fun s H Q ⟨r, en, st, he, hs, hp⟩ p np => by
  obtain ⟨z1, z2⟩ := push_new (o := .dK []) (u := .dK []) hs np ⟨[], upd_same, .nil⟩ rfl
  exact hp _ _ z2 z1 _ (.ref nxt_self)⟩
def rIxD (X : Cx) : R2 := fun x y H Q => rIxDT X x y H Q ∨ rIxDK x y H Q
theorem ix_d (hu : X.A.units + 1 < cLine) : IxR X (rIxD X) := (ix_dt hu).or (ix_dk hu)
theorem op2_ixD (hc : Here X cl) : Op2 X.K cl dGetD (rIxD X) := by
  intro r st H W x y v w Q hs hx hy hp
  unfold dGetD at hp
  split at hp
  · obtain ⟨ad, rfl, g1⟩ := hx.ref_inv
    split at hp
    · rename_i l gl
      split at hp
      · rename_i z ez
        obtain ⟨k, ek, eg⟩ := Option.bind_eq_some_iff.mp ez
        obtain ⟨L, h1, h2⟩ := dT_at hc hs gl g1
        obtain ⟨t, rfl, ht⟩ := tupI_of ek hy
        rcases getQ_pr (R := RDL X.K H r) (k := k) h2 with ⟨v, u, e1, e2, e3⟩ | ⟨e1, _⟩
        · rw [eg] at e1; cases e1
          exact .inl ⟨ad, t, L, k, u, rfl, rfl, h1, keysT_of h2, ht, e2, hp r H .refl hs _ e3.2⟩
        · rw [eg] at e1; cases e1
      · exact hp.elim
    · rename_i l gl
      split at hp
      · rename_i z ez
        obtain ⟨k, ek, eg⟩ := Option.bind_eq_some_iff.mp ez
        obtain ⟨L, h1, h2⟩ := dK_at hs gl g1
        rw [key_of ek hy]
        rcases getQ_pr (R := RKL X.K H r) (k := k) h2 with ⟨v, u, e1, e2, e3⟩ | ⟨e1, _⟩
        · rw [eg] at e1; cases e1
          exact .inr ⟨ad, u, rfl, by rw [← e2, ← valV_getQ]; exact DGet.k h1, hp r H .refl hs _ e3⟩
        · rw [eg] at e1; cases e1
      · exact hp.elim
    · exact hp.elim
  · exact hp.elim
def rInD (X : Cx) (g : Bool → Bool) : R2 := fun x y H Q => rInDT X g x y H Q ∨ rInDK g x y H Q
theorem op_inD (hu : X.A.units + 1 < cLine) : OpR X (compareOp .In) (rInD X id) := (op_inDT hu).or (op_inDK hu)
theorem op_notinD (hu : X.A.units + 1 < cLine) : OpR X (compareOp .NotIn) (rInD X not) := (op_notinDT hu).or (op_notinDK hu)
theorem op2_inD {g : Bool → Bool} (hc : Here X cl) : Op2 X.K cl (dInD g) (rInD X g) := by
  intro r st H W x y v w Q hs hx hy hp
  unfold dInD at hp
  split at hp
  · obtain ⟨ad, rfl, g1⟩ := hy.ref_inv
    split at hp
    · rename_i l gl
      split at hp
      · rename_i k ek
        obtain ⟨L, h1, h2⟩ := dT_at hc hs gl g1
        obtain ⟨t, rfl, ht⟩ := tupI_of ek hx
        rw [getQ_iss (R := RDL X.K H r) (k := k) h2] at hp
        exact .inl ⟨ad, t, L, k, rfl, rfl, h1, keysT_of h2, ht, hp r H .refl hs _ .bl⟩
      · exact hp.elim
    · rename_i l gl
      split at hp
      · rename_i k ek
        obtain ⟨L, h1, h2⟩ := dK_at hs gl g1
        rw [key_of ek hx]
        rw [getQ_iss (R := RKL X.K H r) (k := k) h2] at hp
        exact .inr ⟨ad, _, rfl, DGet.k h1, hp r H .refl hs _ .bl⟩
      · exact hp.elim
    · exact hp.elim
  · exact hp.elim
theorem ss_putD {k : Nat} {tpos : Pos} (hc : Here X cl) (hr : Room k X.A) (ho : SE X cl W o ma) (hi : SE X cl W i mi) (he : SE X cl W e me) (ha : ∀ v, assign (.Subscript o i tpos) X.env v = (do
      let ov ← holding [v] (eval o X.env)
      let iv ← holding [v, ov] (eval i X.env)
      standAt tpos
      holding [v, ov, iv] (setItem ov iv v)
      release [v, ov, iv] []) := by intro _; rfl)
    (hs : swapsWithSole [.Subscript o i tpos] e pos.line X.env = pure false := by rfl) (hw : swappedStores [.Subscript o i tpos] e X.env = pure none := by rfl) (h1 : (assignEach [.Subscript o i tpos] X.env).map (·.2) = [assign (.Subscript o i tpos) X.env] := by rfl) :
    SS X cl W (.Assign [.Subscript o i tpos] e pos) (sPutD ma mi me) :=
  have hu : X.A.units + 1 < cLine := by have := hr.un; omega
  ⟨ps_of (ps_asg he.pe (pg_sub ho.pe hi.pe (PSet.or (set_dt hu) (set_dk hu)) ha) hs hw h1) fun D s H ⟨r, en, st, he, hs, hp⟩ => ⟨r, en, st, he, hs, (Po.bind hp).mono fun r1 H1 d st1 x1 s1 h1 v q1 =>
    ⟨r1, en, st1, he.mono x1.mn, s1, (Po.bind h1).mono fun r2 H2 o st2 x2 s2 h2 ov q2 => ⟨r2, en, st2, he.mono (x1.trans x2).mn, s2, (Po.bind h2).mono fun r3 H3 i st3 x3 s3 h3 iv q3 => by
      split at h3
      · rename_i n
        obtain ⟨a, rfl, g1⟩ := (q2.mono x3.mn).ref_inv
        split at h3
        · rename_i l g
          split at h3
          · rename_i k ek
            split at h3
            · rename_i hl
              obtain ⟨L, y1, y2⟩ := dT_at hc s3 g g1
              obtain ⟨t, rfl, ht⟩ := tupI_of ek q3
              have hz : L.length < sizeLine := by rw [← Paired.length y2, sizeLine_eq]; omega
              refine .inl ⟨a, t, L, k, rfl, rfl, y1, keysT_of y2, ht, hz, ?_⟩
              have mu : Mu (DicTO X.prog X.w a L) := .inr (.inr (.inl ⟨_, rfl⟩))
              generalize eL : updQ L k (fun p => (p.1, v)) (t, v) = L'
              have mm : Mn X.K r3 H3 r3 (upd H3 a (DicTO X.prog X.w a L')) := ⟨fun _ _ z => z, fun b ys z => sqt_upd (mu.nt y1) (mu.nf y1) z⟩
              have pr : Paired (fun d p => d.1 = p.1 ∧ SqT X.K H3 p.2.1 (p.1.map V.int) ∧ RD X.K H3 r3 d.2 p.2.2) (putQ l k d) L' := by
                rw [← eL]
                exact upd_pr (R := RDL X.K H3 r3) y2 (fun _ _ z => ⟨z.1, q1.mono (x2.trans x3).mn⟩) ⟨ht, q1.mono (x2.trans x3).mn⟩
              have ro : RO X.K cl (upd H3 a (DicTO X.prog X.w a L')) r3 (.dT (putQ l k d)) a := ⟨L', by rw [hc.1, hc.2]; exact upd_same, Paired.mapP pr fun _ _ q => ⟨q.1, mm.sqt _ _ q.2.1, q.2.2.mono mm⟩⟩
              obtain ⟨z1, z2⟩ := write_at s3 (s3.ne0 g rfl) g1 y1 mu rfl ro
              exact h3 _ _ z2 z1 _ (he.mono (((x1.trans x2).trans x3).trans z2).mn)
            · exact h3.elim
          · exact h3.elim
        · rename_i l g
          split at h3
          · rename_i k ek
            split at h3
            · rename_i hl
              obtain ⟨L, y1, y2⟩ := dK_at s3 g g1
              rw [key_of ek q3]
              have hz : L.length < sizeLine := by rw [← Paired.length y2, sizeLine_eq]; omega
              refine .inr ⟨a, _, rfl, DPut.k y1 hz, ?_⟩
              rw [putK_putQ]
              have mu : Mu (.dK L) := .inr (.inr (.inr ⟨_, rfl⟩))
              generalize eL : putQ L k v = L'
              have mm : Mn X.K r3 H3 r3 (upd H3 a (.dK L')) := ⟨fun _ _ z => z, fun b ys z => sqt_upd (mu.nt y1) (mu.nf y1) z⟩
              have pr : Paired (fun d p => d.1 = p.1 ∧ RD X.K H3 r3 d.2 p.2) (putQ l k d) L' := by
                rw [← eL]
                exact upd_pr (R := RKL X.K H3 r3) y2 (fun _ _ z => q1.mono (x2.trans x3).mn) (q1.mono (x2.trans x3).mn)
              have ro : RO X.K cl (upd H3 a (.dK L')) r3 (.dK (putQ l k d)) a := ⟨L', upd_same, Paired.mapP pr fun _ _ q => ⟨q.1, q.2.mono mm⟩⟩
              obtain ⟨z1, z2⟩ := write_at s3 (s3.ne0 g rfl) g1 y1 mu rfl ro
              exact h3 _ _ z2 z1 _ (he.mono (((x1.trans x2).trans x3).trans z2).mn)
            · exact h3.elim
          · exact h3.elim
        · exact h3.elim
      · exact h3.elim⟩⟩⟩⟩
end
end Dn

/-! Dn, O: displays of dicts whose keys are tuples of ints. -/
namespace Dn
open PySem PySem.Spec PyProof.Rows L2
section
variable {prog : Program} {w : World} {κ : Type} [DecidableEq κ] {knd : HeapKind prog w κ} {A : Around} {E : Value → Shared → Prop}
abbrev stH (acc : List (κ × Addr × Value)) (more : List (κ × Addr × Value)) : List (κ × Addr × Value) := more.foldl (fun acc x => storedH acc x.1 x.2.1 x.2.2) acc
theorem storeAllH {d : Addr} (hu : knd.room A) : ∀ (kvs acc : List (κ × Addr × Value)) (s : Shared) (Q : PUnit → Shared → Prop), (∀ x ∈ kvs, knd.is s.heap x.1 x.2.1) → s.heap.DictOfH knd d acc → acc.length + kvs.length ≤ sizeLine →
    (∀ h' tk, h'.DictOfH knd d (stH acc kvs) → Heap.SameBut d s.heap h' → Q PUnit.unit { s with heap := h', toks := tk }) →
    wpAny (model prog w) A (forIn (kvs.map fun x => (Value.ref x.2.1, x.2.2)) PUnit.unit fun (x : Value × Value) (_ : PUnit) => (do dictSet d x.1 x.2; pure (ForInStep.yield PUnit.unit) : Sem (ForInStep PUnit))) Q E s
  | [], acc, s, Q, _, hm, _, hQ => by
    rw [List.map_nil, List.forIn_nil]
    exact wpAny_pure (hQ s.heap s.toks hm (Heap.SameBut.refl _ _))
  | x :: kvs, acc, s, Q, hk, hm, hsz, hQ => by
    rw [List.length_cons] at hsz
    rw [List.map_cons, List.forIn_cons]
    obtain ⟨o, es, ep, ho, hc, hd, he, his, hn⟩ := id hm
    have z : (storedH acc x.1 x.2.1 x.2.2).length ≤ acc.length + 1 := by rw [storedH_updQ]; exact len_updQ _ _ _ _
    refine wpAny_bind (wpAny_bind (wpAny_dictSet_heap (hsz := by omega) hu (hk x List.mem_cons_self) hm fun h1 hm1 hs1 => wpAny_pure ?_))
    refine storeAllH hu kvs _ _ Q (fun y hy => knd.keeps (hk y (List.mem_cons_of_mem _ hy)) ho hd hs1) hm1 (by show (storedH acc x.1 x.2.1 x.2.2).length + kvs.length ≤ _; omega) fun h' tk hm' hs' => hQ h' tk hm' (hs1.trans hs')
variable {s : Shared}
theorem subDictH {pairs : List (Sem Value × Sem Value)} {Q : Addr → Shared → Prop} (hu : knd.room A) (hlen : pairs.length ≤ 15)
    (h : wpAny (model prog w) A (evalPairs pairs) (fun vs s₁ => ∃ kvs : List (κ × Addr × Value), vs = kvs.map (fun x => (Value.ref x.2.1, x.2.2)) ∧ (∀ x ∈ kvs, knd.is s₁.heap x.1 x.2.1) ∧ s₁.heap.DictOfH knd s.heap.objs.size [] ∧
      ∀ h' tk, h'.DictOfH knd s.heap.objs.size (stH [] kvs) → Heap.SameBut s.heap.objs.size s₁.heap h' → Q s.heap.objs.size { s₁ with heap := h', toks := tk }) E
      { s with heap := s.heap.push { cls := .type "dict", data := .dict #[] } }) :
    wpAny (model prog w) A (subDict pairs) Q E s := by
  unfold subDict
  refine wpAny_bind (wpAny_alloc ?_)
  refine wpAny_bind (wpAny_holding ?_)
  rw [if_pos hlen]
  refine wpAny_bind (wpAny_mono (wpAny_evalPairs_len h) (fun vs s₁ h₁ => ?_) fun _ _ e => e)
  obtain ⟨hvl, kvs, rfl, hk, hm, hQ⟩ := h₁
  rw [List.length_map] at hvl
  have hsz : ([] : List (κ × Addr × Value)).length + kvs.length ≤ sizeLine := by
    rw [sizeLine_eq, List.length_nil]; omega
  refine wpAny_holding ?_
  refine wpAny_bind (storeAllH hu kvs [] s₁ _ hk hm hsz fun h' tk hm' hs' => wpAny_pure (wpAny_pure (hQ h' tk hm' hs')))
theorem dict_pairsH {env : Env} {keys : List (Option Expr)} {values : List Expr} {pos : Pos} {Q : Value → Shared → Prop} (hu : knd.room A) (hall : keys.all (·.isSome) = true) (hl : keys.length = values.length) (h0 : keys ≠ []) (hlen : keys.length ≤ 15)
    (h : wpAny (model prog w) A (evalPairs (pairTrees keys values env pos)) (fun vs s₁ => ∃ kvs : List (κ × Addr × Value), vs = kvs.map (fun x => (Value.ref x.2.1, x.2.2)) ∧ (∀ x ∈ kvs, knd.is s₁.heap x.1 x.2.1) ∧ s₁.heap.DictOfH knd s.heap.objs.size [] ∧
      ∀ h' tk, h'.DictOfH knd s.heap.objs.size (stH [] kvs) → Heap.SameBut s.heap.objs.size s₁.heap h' → Q (.ref s.heap.objs.size) { s₁ with heap := h', toks := tk }) E
      { s with heap := s.heap.push { cls := .type "dict", data := .dict #[] } }) :
    wpAny (model prog w) A (eval (.Dict keys values pos) env) Q E s := by
  have hn := pairTrees_length keys values env pos hall hl
  rw [arm_eval_Dict, zip_pairTrees keys values env pos hall hl, dictDisplay_pairs _ (fun he => h0 (by rw [he] at hn; exact List.length_eq_zero_iff.mp hn.symm)) (by omega)]
  exact wpAny_bind (wpAny_standAt (wpAny_bind (subDictH (knd := knd) (Q := fun d s' => wpAny (model prog w) A (pure (Value.ref d)) Q E s') hu (by omega)
    (wpAny_mono h (fun vs s₁ h₁ => by obtain ⟨kvs, hc, hk, hm, hq⟩ := h₁; exact ⟨kvs, hc, hk, hm, fun h' tk a b => wpAny_pure (hq h' tk a b)⟩) fun _ _ e => e))))
end
abbrev mgT (acc more : List (List Int × Addr × V)) : List (List Int × Addr × V) := more.foldl (fun acc x => updQ acc x.1 (fun p => (p.1, x.2.2)) x.2) acc
abbrev mgQ (acc more : List (List Int × D)) : List (List Int × D) := more.foldl (fun acc x => putQ acc x.1 x.2) acc
theorem mgT_len : ∀ {more acc : List (List Int × Addr × V)}, (mgT acc more).length ≤ acc.length + more.length
  | [], acc => Nat.le_refl _
  | x :: more, acc => by
    have h1 := mgT_len (more := more) (acc := updQ acc x.1 (fun p => (p.1, x.2.2)) x.2)
    have h2 := len_updQ acc x.1 (fun p => (p.1, x.2.2)) x.2
    show (mgT (updQ acc x.1 (fun p => (p.1, x.2.2)) x.2) more).length ≤ _
    rw [List.length_cons]; omega
theorem mg_x : ∀ {more acc : List (List Int × Addr × V)} {ms as : List (List Int × Addr × Value)}, Paired (fun p q => p.1 = q.1 ∧ RLx q.1 p.2 q.2) more ms → Paired (fun p q => p.1 = q.1 ∧ RLx q.1 p.2 q.2) acc as → Paired (fun p q => p.1 = q.1 ∧ RLx q.1 p.2 q.2) (mgT acc more) (stH as ms)
  | [], _, _, _, .nil, h => h
  | x :: more, acc, y :: ms, as, .cons h t, r => by
    show Paired (fun p q => p.1 = q.1 ∧ RLx q.1 p.2 q.2) (mgT (updQ acc x.1 (fun p => (p.1, x.2.2)) x.2) more) (stH (storedH as y.1 y.2.1 y.2.2) ms)
    refine mg_x t ?_
    rw [storedH_updQ]
    obtain ⟨h1, h2, h3⟩ := h
    rw [h1]
    exact upd_pr (R := RLx) r (fun _ _ z => ⟨z.1, h3⟩) ⟨h2, h3⟩
theorem mg_d {K : Frag} {H : Hp} {r : Rho} : ∀ {more acc : List (List Int × D)} {ms as : List (List Int × Addr × V)}, Paired (fun p q => p.1 = q.1 ∧ RDL K H r q.1 p.2 q.2) more ms → Paired (fun p q => p.1 = q.1 ∧ RDL K H r q.1 p.2 q.2) acc as → Paired (fun p q => p.1 = q.1 ∧ RDL K H r q.1 p.2 q.2) (mgQ acc more) (mgT as ms)
  | [], _, _, _, .nil, h => h
  | x :: more, acc, y :: ms, as, .cons h t, q => by
    show Paired (fun p q => p.1 = q.1 ∧ RDL K H r q.1 p.2 q.2) (mgQ (putQ acc x.1 x.2) more) (mgT (updQ as y.1 (fun p => (p.1, y.2.2)) y.2) ms)
    refine mg_d t ?_
    obtain ⟨h1, h2⟩ := h
    rw [h1]
    exact upd_pr (R := RDL K H r) q (fun _ _ z => ⟨z.1, h2.2⟩) h2
def tDispT (X : Cx) (trs : List (TE × TE)) : TE := fun σ H Q => ∀ p, H p = none → tPairs trs σ (upd H p (DicTO X.prog X.w p [])) fun ps H2 => H2 p = some (DicTO X.prog X.w p []) ∧ ∃ L : List (List Int × Addr × V), ps = L.map (fun x => (V.ref x.2.1, x.2.2)) ∧ KeysT X.K H2 L ∧ L.length ≤ 15 ∧ Q (.ref p) (upd H2 p (DicTO X.prog X.w p (mgT [] L)))
theorem vv_of : ∀ {L : List (List Int × Addr × V)} {ws : List (Value × Value)}, VV (L.map fun x => (V.ref x.2.1, x.2.2)) ws → ∃ xs : List (List Int × Addr × Value), ws = xs.map (fun x => (Value.ref x.2.1, x.2.2)) ∧ Paired (fun p q => p.1 = q.1 ∧ RLx q.1 p.2 q.2) L xs
  | [], _, h => by rw [List.map_nil] at h; cases h; exact ⟨[], rfl, .nil⟩
  | p :: L, _, h => by
    rw [List.map_cons] at h
    cases h with
    | @cons a b as bs h t =>
      obtain ⟨xs, e, r⟩ := vv_of t
      obtain ⟨b1, b2⟩ := b
      obtain ⟨h1, h2⟩ := h
      cases (show b1 = Value.ref p.2.1 from h1)
      exact ⟨(p.1, p.2.1, b2) :: xs, by rw [List.map_cons, e], .cons ⟨rfl, rfl, h2⟩ r⟩
theorem pe_dispT {X : Cx} {pos : Pos} {keys : List (Option Expr)} {values : List Expr} {trs : List (TE × TE)} (hu : X.A.units + 1 < cLine) (h : PPs X pos keys values trs) (hall : keys.all (·.isSome) = true) (hl : keys.length = values.length) (h0 : keys ≠ []) (h15 : keys.length ≤ 15) :
    PE X (.Dict keys values pos) (tDispT X trs) := by
  refine ⟨fun pins s σ H Q I q => ?_⟩
  have hn := I.hok.fresh (Nat.le_refl s.heap.objs.size)
  have I1 := I.laid (a := s.heap.objs.size) (o := DicTO X.prog X.w s.heap.objs.size []) (h' := s.heap.push { cls := .type "dict", data := .dict #[] }) (t' := s.toks) (fun _ _ q => Heap.get?_push_of_some _ q) (Nat.le_refl _)
    (dicTO_new (Nat.zero_le _) (beq_eq_false_iff_ne.mpr (Ne.symm (Nat.ne_of_lt I.big))) .nil (Heap.DictOfH.new s.heap))
  refine dict_pairsH (knd := tupleKind (intKind X.prog X.w)) (show X.A.units < cLine by omega) hall hl h0 h15 (thn (h.run pins _ σ _ _ I1 (q _ hn)) fun ws s2 ⟨ps, H2, I2, rel, e, L, ep, hk, l15, q2⟩ => ?_)
  subst ep
  obtain ⟨xs, ew, rx⟩ := vv_of rel
  obtain ⟨z, hd, xs0, r0, dd⟩ := dic_full I2 e (fun p hp => nomatch hp)
  cases r0
  refine ⟨xs, ew, ?_, dd, fun h' tk dd' hs => ⟨.ref s.heap.objs.size, _, ?_, rfl, q2⟩⟩
  · clear q2 rel ew l15
    induction rx with
    | nil => intro x hx; exact nomatch hx
    | @cons p y ps qs hq t ih =>
      intro x hx
      rcases List.mem_cons.mp hx with e | hx
      · subst e
        rw [← hq.1, ← hq.2.1]
        exact I2.isT (hk p List.mem_cons_self)
      · exact ih (fun p' hp' => hk p' (List.mem_cons_of_mem _ hp')) x hx
  · have he : ∃ q, h'.get? s.heap.objs.size = some q := let ⟨q, _, _, hq, _⟩ := dd'; ⟨q, hq⟩
    refine I2.write (x := s.heap.objs.size) (e := s.heap.objs.size) (by rw [e]; trivial) (.inl rfl) (fun c w hc hw => (hs.2 c hc).trans hw) he (dicTO_new ?_ hd (mg_x rx .nil) dd')
    have := mgT_len (more := L) (acc := [])
    rw [List.length_nil] at this
    rw [sizeLine_eq]; omega
/-! what the text is worth -/
abbrev PM := En → S → Out (List (D × D))
def dP0 : PM := fun _ st => .ok [] st
def dPc (mk mv : EM) (mr : PM) : PM := fun en st => (mk en st).bind fun d st1 => (mv en st1).bind fun e st2 => (mr en st2).bind fun ps st3 => .ok ((d, e) :: ps) st3
def keyTI (p : D × D) : Option (List Int × D) := (tupI p.1).map fun k => (k, p.2)
def dDispT (m : PM) : EM := fun en st => (m en st).bind fun ps st1 => match mapO keyTI ps with
  | some l => if l.length ≤ 15 then .ok (.ref st1.length) (st1 ++ [.dT (mgQ [] l)]) else .bad
  | none => .bad
def tPD (K : Frag) (cl : Clm) (W : WX) (m : PM) : L2.St → Hp → (List (V × V) → Hp → Prop) → Prop := fun s H Q => ∃ r en st, RE K H r en s ∧ RS K cl r st H ∧ Po K cl r H W (m en st) fun r' H' ps _ => ∀ vs, Paired (fun p q => RD K H' r' p.1 q.1 ∧ RD K H' r' p.2 q.2) ps vs → Q vs H'
structure SP (X : Cx) (cl : Clm) (W : WX) (pos : Pos) (keys : List (Option Expr)) (values : List Expr) (m : PM) : Prop where
  ex : ∃ trs, PPs X pos keys values trs ∧ ∀ σ H Q, tPD X.K cl W m σ H Q → tPairs trs σ H Q
section
variable {X : Cx} {cl : Clm} {W : WX} {pos : Pos} {k v : Expr} {ks : List (Option Expr)} {vs : List Expr} {mk mv : EM} {mr : PM}
theorem sp_nil : SP X cl W pos [] [] dP0 := ⟨[], pps_nil, fun σ H Q ⟨r, en, st, he, hs, hp⟩ => hp r H .refl hs [] .nil⟩
theorem sp_cons (hk : SE X cl W k mk) (hv : SE X cl W v mv) (hr : SP X cl W pos ks vs mr) : SP X cl W pos (some k :: ks) (v :: vs) (dPc mk mv mr) := by
  obtain ⟨trs, h1, h2⟩ := hr.ex
  refine ⟨_, pps_cons hk.pe hv.pe h1, fun σ H Q ⟨r, en, st, he, hs, hp⟩ => ?_⟩
  refine ⟨r, en, st, he, hs, (Po.bind hp).mono fun r1 H1 d st1 x1 s1 q1 u ru => ?_⟩
  refine ⟨r1, en, st1, he.mono x1.mn, s1, (Po.bind q1).mono fun r2 H2 e st2 x2 s2 q2 y ry => ?_⟩
  refine h2 σ H2 _ ⟨r2, en, st2, he.mono (x1.trans x2).mn, s2, (Po.bind q2).mono fun r3 H3 ps st3 x3 s3 q3 ws rw' => ?_⟩
  exact q3 r3 H3 .refl s3 _ (.cons ⟨ru.mono (x2.trans x3).mn, ry.mono x3.mn⟩ rw')
theorem keyTI_of {K : Frag} {H : Hp} {r : Rho} : ∀ {ps : List (D × D)} {l : List (List Int × D)} {vs : List (V × V)}, mapO keyTI ps = some l → Paired (fun p q => RD K H r p.1 q.1 ∧ RD K H r p.2 q.2) ps vs →
    ∃ L : List (List Int × Addr × V), vs = L.map (fun x => (V.ref x.2.1, x.2.2)) ∧ Paired (fun p q => p.1 = q.1 ∧ RDL K H r q.1 p.2 q.2) l L
  | [], l, _, h, .nil => by
    cases h; exact ⟨[], rfl, .nil⟩
  | p :: ps, l, q :: vs, h, .cons a t => by
    unfold mapO at h
    cases e1 : keyTI p with
    | none => simp [e1] at h
    | some y =>
      cases e2 : mapO keyTI ps with
      | none => simp [e1, e2] at h
      | some ys =>
        simp only [e1, e2] at h
        cases h
        obtain ⟨L, h1, h2⟩ := keyTI_of e2 t
        unfold keyTI at e1
        obtain ⟨k, ek, rfl⟩ := Option.map_eq_some_iff.mp e1
        obtain ⟨tt, e3, ht⟩ := tupI_of ek a.1
        obtain ⟨q1, q2⟩ := q
        have e3 : q1 = V.ref tt := e3
        subst e3
        exact ⟨(k, tt, q2) :: L, by rw [List.map_cons, h1], .cons ⟨rfl, ht, a.2⟩ h2⟩
theorem se_dispT {n : Nat} {m : PM} (hc : Here X cl) (hr : Room n X.A) (h : SP X cl W pos ks vs m) (hall : ks.all (·.isSome) = true := by rfl) (hl : ks.length = vs.length := by rfl) (h0 : ks ≠ [] := by intro z; cases z) (h15 : ks.length ≤ 15 := by decide) : SE X cl W (.Dict ks vs pos) (dDispT m) := by
  obtain ⟨trs, h1, h2⟩ := h.ex
  refine ⟨pe_of (pe_dispT (hu1 hr) h1 hall hl h0 h15) fun s H Q ⟨r, en, st, he, hs, hp⟩ p np => ?_⟩
  have x0 : Xt X.K r H r (upd H p (DicTO X.prog X.w p [])) := Xt.fresh np
  refine h2 s _ _ ⟨r, en, st, he.mono x0.mn, hs.fresh np, ?_⟩
  unfold dDispT at hp
  cases hm : m en st with
  | bad => rw [hm] at hp; exact hp.elim
  | exc e en2 st2 => rw [hm] at hp; exact fun r2 H2 s c d y z w1 w2 => hp r2 H2 s c d (x0.trans y) z w1 w2
  | ok ps st1 =>
  rw [hm, bind_ok] at hp
  intro r1 H1 x1 s1 ws rw'
  have free : ∀ n, n ≠ 0 → r1 n ≠ some p := fun n n0 e => by
    rcases x1.new n p e with z | z
    · exact hs.some_of n0 z np
    · rw [upd_same] at z; cases z
  have stays : H1 p = some (DicTO X.prog X.w p []) := x1.keep p _ upd_same (fun n n0 e => hs.some_of n0 e np) (fun _ z => nomatch z)
  cases e1 : mapO keyTI ps with
  | none => simp only [e1] at hp; exact hp.elim
  | some l =>
    simp only [e1] at hp
    split at hp
    · rename_i l15
      obtain ⟨L, eL, pr⟩ := keyTI_of e1 rw'
      have kt : KeysT X.K H1 L := fun x hx => by
        have key : ∀ {l : List (List Int × D)} {L : List (List Int × Addr × V)}, Paired (fun p q => p.1 = q.1 ∧ RDL X.K H1 r1 q.1 p.2 q.2) l L → ∀ x ∈ L, SqT X.K H1 x.2.1 (x.1.map V.int) := by
          intro l L pr
          induction pr with
          | nil => intro x hx; exact nomatch hx
          | cons h t ih =>
            intro x hx
            rcases List.mem_cons.mp hx with rfl | hx
            · exact h.2.1
            · exact ih x hx
        exact key pr x hx
      refine ⟨stays, L, eL, kt, by rw [← Paired.length pr]; exact l15, ?_⟩
      have mu : Mu (DicTO X.prog X.w p []) := .inr (.inr (.inl ⟨_, rfl⟩))
      generalize eM : mgT [] L = M
      have mm : ∀ r', (∀ n a, r1 n = some a → r' n = some a) → Mn X.K r1 H1 r' (upd H1 p (DicTO X.prog X.w p M)) := fun r' hr' => ⟨hr', fun b ys z => sqt_upd (mu.nt stays) (mu.nf stays) z⟩
      have m1 := mm r1 fun _ _ z => z
      have pm : Paired (fun p q => p.1 = q.1 ∧ RDL X.K H1 r1 q.1 p.2 q.2) (mgQ [] l) M := by rw [← eM]; exact mg_d pr .nil
      have s2 : RS X.K cl r1 st1 (upd H1 p (DicTO X.prog X.w p M)) := by
        refine ⟨s1.dom, fun n o e => ?_, s1.inj, s1.fz, s1.pos, fun q hm => tabG_upd (s1.tabs q hm) (fun e => by
          obtain ⟨ps, z, _⟩ := s1.tabs q hm
          rw [e, stays] at z; cases z), fun q hm => hotH_upd (s1.hotf q hm) (fun e => by
          obtain ⟨_, _, _, z, _⟩ := s1.hotf q hm
          rw [e, stays] at z; cases z)⟩
        obtain ⟨a, z1, z2⟩ := s1.at_ n o e
        by_cases n0 : n = 0
        · have fo := (s1.fz n o e).mpr n0
          cases o with
          | lst l => cases fo
          | ins c fs => cases fo
          | set l => cases fo
          | dT l => cases fo
          | dK l => cases fo
          | xcp c d => cases fo
          | rng c d => cases fo
          | frz l =>
            obtain ⟨xs, w1, w2⟩ := z2
            refine ⟨a, z1, xs, ?_, w2.mono m1⟩
            rcases w1 with (w1 | ⟨ob, w1⟩) | w1
            · obtain ⟨_, _, _, e'⟩ := fzH_some w1
              cases e'
            · refine .inl (.inr ⟨ob, ?_⟩)
              rw [fzH_of (o := ob) (u := .lst xs)]
              rw [upd_ne (fun q => mu.nf stays _ _ (by rw [← q]; exact (fzH_some w1).1))]
              exact (fzH_some w1).1
            · exact .inr w1
        · exact ⟨a, z1, z2.xt m1 (XdK.upd stays fun _ z => nomatch z) fun u _ z => by rw [upd_ne (fun q => free n n0 (by rw [← q]; exact z1))]; exact z⟩
      have s3 : RS X.K cl (nxt r1 st1.length p) (st1 ++ [.dT (mgQ [] l)]) (upd H1 p (DicTO X.prog X.w p M)) :=
        s2.push free ⟨M, by rw [hc.1, hc.2]; exact upd_same, Paired.mapP pm fun _ _ q => ⟨q.1, (mm (nxt r1 st1.length p) (Xt.nxt0 s1.dom)).sqt _ _ q.2.1, q.2.2.mono (mm (nxt r1 st1.length p) (Xt.nxt0 s1.dom))⟩⟩ rfl
      have y := x0.trans x1
      have x2 : Xt X.K r H (nxt r1 st1.length p) (upd H1 p (DicTO X.prog X.w p M)) := by
        refine ⟨fun n a e => Xt.nxt0 s1.dom n a (y.ext n a e), fun n a e => ?_, fun b o hb hn ht => ?_, fun b hb => ?_, fun b xs hq => (mm r1 fun _ _ z => z).sqt b xs (y.sqt b xs hq), fun b ob w e => by
          have z := y.frz b ob w e
          have ne : b ≠ p := fun q => mu.nf stays ob w (by rw [← q]; exact z)
          exact (upd_ne ne).trans z⟩
        · by_cases q : n = st1.length
          · subst q; rw [nxt_self] at e; cases e; exact .inr np
          · rw [nxt_old q] at e
            exact y.new n a e
        · rw [upd_ne (ne_of_none hb np)]
          exact y.keep b o hb hn ht
        · by_cases q : b = p
          · subst q; exact np
          · rw [upd_ne q] at hb
            exact y.there b hb
      exact hp _ _ x2 s3 _ (.ref nxt_self)
    · exact hp.elim
end
end Dn

/-! Dn, J: max of three numbers. -/
namespace Dn
open PySem PySem.Spec PyProof.Rows L2
def mx3 (i j k : Int) : Int := if (if i < j then j else i) < k then k else (if i < j then j else i)
def dMax3 : List D → S → Out D
  | [.int i, .int j, .int k], st => .ok (.int (mx3 i j k)) st
  | _, _ => .bad
theorem opn_max3 {K : Frag} {cl : Clm} : OpN K cl dMax3 (rNuC3 nuMax3) := by
  intro r st H W xs vs Q hs h hp
  unfold dMax3 at hp
  split at hp
  · rename_i i j k
    obtain ⟨v1, w1, rfl, h1, t1⟩ := h.cons_inv
    obtain ⟨v2, w2, rfl, h2, t2⟩ := t1.cons_inv
    obtain ⟨v3, w3, rfl, h3, t3⟩ := t2.cons_inv
    have := t3.nil_inv
    subst this
    rw [h1.int_inv, h2.int_inv, h3.int_inv]
    refine ⟨_, _, _, .int (mx3 i j k), rfl, ?_, hp r H .refl hs _ .int⟩
    show ((some (decide (i < j))).map fun c => if c = true then V.int j else V.int i).bind (fun m => nuMax2 m (.int k)) = _
    unfold mx3
    by_cases c : i < j
    · simp only [c, decide_true, Option.map_some, if_true, Option.bind_some]
      show (some (decide (j < k))).map (fun c => if c = true then V.int k else V.int j) = _
      by_cases c2 : j < k
      · simp [c2]
      · simp [c2]
    · simp only [c, decide_false, Option.map_some, Bool.false_eq_true, if_false, Option.bind_some]
      show (some (decide (i < k))).map (fun c => if c = true then V.int k else V.int i) = _
      by_cases c2 : i < k
      · simp [c2]
      · simp [c2]
  · exact hp.elim
end Dn

/-! Dn, L: chains of comparisons. -/
namespace Dn
open PySem L2

/-- a op1 b op2 c -/
def dCh (f g : D → D → S → Out D) (ma mb mc : EM) : EM := fun en st => (ma en st).bind fun x st1 => (mb en st1).bind fun y st2 => (f x y st2).bind fun z st3 => match z with
  | .bl true => (mc en st3).bind fun u st4 => g y u st4
  | .bl false => .ok (.bl false) st3
  | _ => .bad
section
variable {X : Cx} {cl : Clm} {W : WX} {a b c : Expr} {pos : Pos} {ma mb mc : EM} {op op' : CmpOp} {f g : D → D → S → Out D} {p p' : R2}
theorem tE_ch {K : Frag} {s : L2.St} {H : Hp} {Q : VK} (hf : Op2 K cl f p) (hg : Op2 K cl g p') (h : tE K cl W (dCh f g ma mb mc) s H Q) : tChain p p' (tE K cl W ma) (tE K cl W mb) (tE K cl W mc) s H Q := by
  obtain ⟨r, en, st, he, hs, hp⟩ := h
  refine ⟨r, en, st, he, hs, (Po.bind hp).mono fun r1 H1 d1 st1 x1 s1 h1 v1 q1 => ?_⟩
  refine ⟨r1, en, st1, he.mono x1.mn, s1, (Po.bind h1).mono fun r2 H2 d2 st2 x2 s2 h2 v2 q2 => ?_⟩
  refine hf r2 st2 H2 W d1 d2 v1 v2 _ s2 (q1.mono x2.mn) q2 ((Po.bind h2).mono fun r3 H3 d3 st3 x3 s3 h3 z q3 => ?_)
  cases d3 with
  | bl k =>
    refine ⟨k, q3.bl_inv, ?_⟩
    cases k with
    | true =>
      rw [if_pos rfl]
      refine ⟨r3, en, st3, he.mono ((x1.trans x2).trans x3).mn, s3, (Po.bind h3).mono fun r4 H4 d4 st4 x4 s4 h4 v4 q4 => ?_⟩
      exact hg r4 st4 H4 W d2 d4 v2 v4 Q s4 (q2.mono (x3.trans x4).mn) q4 h4
    | false =>
      rw [if_neg (by decide)]
      exact h3 r3 H3 .refl s3 _ .bl
  | _ => exact h3.elim
theorem se_chain (ho : OpR X (compareOp op) p) (hf : Op2 X.K cl f p) (ho' : OpR X (compareOp op') p') (hg : Op2 X.K cl g p') (ha : SE X cl W a ma) (hb : SE X cl W b mb) (hc : SE X cl W c mc) (hm : lastMarks [op, op'] [b, c] = false := by with_unfolding_all rfl) :
    SE X cl W (.Compare a [op, op'] [b, c] pos) (dCh f g ma mb mc) := ⟨pe_of (pe_chain ho ho' ha.pe hb.pe hc.pe hm) fun _ _ _ h => tE_ch hf hg h⟩
theorem sb_chain (ho : OpR X (compareOp op) p) (hf : Op2 X.K cl f p) (ho' : OpR X (compareOp op') p') (hg : Op2 X.K cl g p') (ha : SE X cl W a ma) (hb : SE X cl W b mb) (hc : SE X cl W c mc) (hm : lastMarks [op, op'] [b, c] = false := by with_unfolding_all rfl) :
    SB X cl W (.Compare a [op, op'] [b, c] pos) (dB (dCh f g ma mb mc)) :=
  ⟨pt_of (pt_chain ho ho' ha.pe hb.pe hc.pe hm) fun s H Q ⟨r, en, st, he, hs, hp⟩ => by
    refine tE_ch (W := W) (Q := fun x H' => ∃ k, x = .bl k ∧ Q k H') hf hg ⟨r, en, st, he, hs, (Po.bind hp).mono fun r1 H1 d st1 x1 s1 h1 v q => ?_⟩
    cases d with
    | bl k => exact ⟨k, q.bl_inv, h1 r1 H1 .refl s1⟩
    | _ => exact h1.elim⟩
end
end Dn

/-! Dn, P: reasoning about what the text is worth: no program in sight. -/
namespace Dn
open PySem L2

/-! ### it ends well, and so -/
/-- what is wanted of an exception that comes out (where nothing is said: none may) -/
class EK where
  x : Ex → S → Prop
instance (priority := low) EK0 : EK := ⟨fun _ _ => False⟩
def Ok {α : Type} (o : Out α) (Q : α → S → Prop) [X : EK] : Prop := match o with
  | .ok a st => Q a st
  | .exc e _ st => X.x e st
  | .bad => False
section
theorem Ok.ex0 {α : Type} {o : Out α} {Q : α → S → Prop} (h : @Ok α o Q EK0) : ∃ a st, o = .ok a st ∧ Q a st := by
  cases o with
  | ok a st => exact ⟨a, st, rfl, h⟩
  | exc e en st => exact h.elim
  | bad => exact h.elim
theorem Ok.up {α : Type} {o : Out α} {Q : α → S → Prop} [EK] (h : @Ok α o Q EK0) : Ok o Q := by
  obtain ⟨a, st, rfl, q⟩ := h.ex0
  exact q
end
variable [EK]
section
variable {α β : Type} {Q Q' : α → S → Prop}
theorem ok_ok {a : α} {st : S} : Ok (.ok a st) Q ↔ Q a st := Iff.rfl
theorem ok_bad : Ok (Out.bad : Out α) Q ↔ False := Iff.rfl
theorem ok_bind {x : Out β} {f : β → S → Out α} : Ok (x.bind f) Q ↔ Ok x fun b st => Ok (f b st) Q := by cases x <;> exact Iff.rfl
theorem Ok.mono {o : Out α} (h : Ok o Q) (q : ∀ a st, Q a st → Q' a st) : Ok o Q' := by
  cases o with
  | ok a st => exact q a st h
  | exc e en st => exact h
  | bad => exact h
omit [EK] in
theorem Ok.ex {o : Out α} (h : @Ok α o Q EK0) : ∃ a st, o = .ok a st ∧ Q a st := h.ex0
theorem Ok.of {o : Out α} {a : α} {st : S} (e : o = .ok a st) (h : Q a st) : Ok o Q := by subst e; exact h
theorem ok_ite {c : Prop} [Decidable c] {x y : Out α} : Ok (if c then x else y) Q ↔ if c then Ok x Q else Ok y Q := by split <;> exact Iff.rfl
theorem ok_iteB {c : Prop} [Decidable c] {x : Out α} : Ok (if c then x else .bad) Q ↔ c ∧ Ok x Q := by
  by_cases h : c
  · simp [h]
  · simp [h, Ok]
end
section
variable {en : En} {st : S} {Q : D → S → Prop} {R : List D → S → Prop} {T : Bool → S → Prop} {V : Fl × En → S → Prop} {m ma mb : EM} {mr : AM} {t u : TM} {s z : SM}
theorem ok_var {i : Nat} : Ok (dVar i en st) Q ↔ ∃ d, en[i]? = some (some d) ∧ Q d st := by
  unfold dVar
  split
  · rename_i d e
    rw [e]
    exact ⟨fun h => ⟨d, rfl, h⟩, fun ⟨d', h1, h2⟩ => by cases h1; exact h2⟩
  · rename_i h
    exact ⟨fun z => z.elim, fun ⟨d, h1, _⟩ => (h d h1).elim⟩
theorem ok_c {d : D} : Ok (dC d en st) Q ↔ Q d st := Iff.rfl
theorem ok_o2 {f : D → D → S → Out D} : Ok (dO2 f ma mb en st) Q ↔ Ok (ma en st) fun x st1 => Ok (mb en st1) fun y st2 => Ok (f x y st2) Q := by
  unfold dO2; rw [ok_bind]; simp only [ok_bind]
theorem ok_o1 {f : D → S → Out D} : Ok (dO1 f ma en st) Q ↔ Ok (ma en st) fun x st1 => Ok (f x st1) Q := by unfold dO1; rw [ok_bind]
theorem ok_nil : Ok (dNil en st) R ↔ R [] st := Iff.rfl
theorem ok_cons : Ok (dCons ma mr en st) R ↔ Ok (ma en st) fun x st1 => Ok (mr en st1) fun xs st2 => R (x :: xs) st2 := by
  unfold dCons; rw [ok_bind]; simp only [ok_bind, ok_ok]
theorem ok_on {f : List D → S → Out D} : Ok (dON f mr en st) Q ↔ Ok (mr en st) fun xs st1 => Ok (f xs st1) Q := by unfold dON; rw [ok_bind]
theorem ok_mt {ty : String} {f : D → List D → S → Out D} : Ok (dMt ty f ma mr en st) Q ↔ Ok (ma en st) fun x st1 => isT ty st1 x = true ∧ Ok (mr en st1) fun xs st2 => Ok (f x xs st2) Q := by
  unfold dMt; rw [ok_bind]; simp only [ok_iteB, ok_bind]
theorem ok_tup : Ok (dTup mr en st) Q ↔ Ok (mr en st) fun xs st1 => xs.length ≤ sizeLine ∧ Q (.tup xs) st1 := by unfold dTup; rw [ok_bind]; simp only [ok_iteB, ok_ok]
theorem ok_lst : Ok (dLst mr en st) Q ↔ Ok (mr en st) fun xs st1 => xs.length ≤ sizeLine ∧ Q (.ref st1.length) (st1 ++ [.lst xs]) := by unfold dLst; rw [ok_bind]; simp only [ok_iteB, ok_ok]
theorem ok_atEn {α : Type} {o : Out α} {Q : α → S → Prop} : Ok (atEn en o) Q ↔ Ok o Q := by cases o <;> exact Iff.rfl
theorem ok_call {np : Nat} {f : List D → S → Out D} : Ok (dCall np f mr en st) Q ↔ Ok (mr en st) fun ds st1 => ds.length = np ∧ Ok (f ds st1) Q := by
  unfold dCall; rw [ok_bind]; simp only [ok_iteB, ok_atEn]
theorem ok_ifE : Ok (dIfE t ma mb en st) Q ↔ Ok (t en st) fun k st1 => if k = true then Ok (ma en st1) Q else Ok (mb en st1) Q := by
  unfold dIfE; rw [ok_bind]; simp only [ok_ite]
theorem ok_dB : Ok (dB m en st) T ↔ Ok (m en st) fun d st1 => ∃ k, d = .bl k ∧ T k st1 := by
  unfold dB; rw [ok_bind]
  constructor
  · intro h
    refine h.mono fun d st1 q => ?_
    cases d <;> first | exact ⟨_, rfl, q⟩ | exact q.elim
  · intro h
    refine h.mono fun d st1 ⟨k, e, q⟩ => ?_
    subst e; exact q
theorem ok_tru : Ok (dTru m en st) T ↔ Ok (m en st) fun d st1 => ∃ k, truD st1 d = some k ∧ T k st1 := by
  unfold dTru; rw [ok_bind]
  constructor
  · intro h
    refine h.mono fun d st1 q => ?_
    cases e : truD st1 d with
    | none => rw [e] at q; exact q.elim
    | some k => rw [e] at q; exact ⟨k, rfl, q⟩
  · intro h
    refine h.mono fun d st1 ⟨k, e, q⟩ => ?_
    rw [e]; exact q
theorem ok_notT : Ok (dNotT t en st) T ↔ Ok (t en st) fun k st1 => T (!k) st1 := by unfold dNotT; rw [ok_bind]; simp only [ok_ok]
theorem ok_andT : Ok (dAndT t u en st) T ↔ Ok (t en st) fun k st1 => if k = true then Ok (u en st1) T else T false st1 := by unfold dAndT; rw [ok_bind]; simp only [ok_ite, ok_ok]
theorem ok_orT : Ok (dOrT t u en st) T ↔ Ok (t en st) fun k st1 => if k = true then T true st1 else Ok (u en st1) T := by unfold dOrT; rw [ok_bind]; simp only [ok_ite, ok_ok]
theorem ok_andV : Ok (dAndV ma mb en st) Q ↔ Ok (ma en st) fun d st1 => ∃ k, d = .bl k ∧ if k = true then Ok (mb en st1) Q else Q (.bl false) st1 := by
  unfold dAndV; rw [ok_bind]
  constructor
  · intro h
    refine h.mono fun d st1 q => ?_
    cases d with
    | bl k => cases k <;> exact ⟨_, rfl, q⟩
    | _ => exact q.elim
  · intro h
    refine h.mono fun d st1 ⟨k, e, q⟩ => ?_
    subst e; cases k <;> exact q
theorem ok_orV : Ok (dOrV ma mb en st) Q ↔ Ok (ma en st) fun d st1 => ∃ k, d = .bl k ∧ if k = true then Q (.bl true) st1 else Ok (mb en st1) Q := by
  unfold dOrV; rw [ok_bind]
  constructor
  · intro h
    refine h.mono fun d st1 q => ?_
    cases d with
    | bl k => cases k <;> exact ⟨_, rfl, q⟩
    | _ => exact q.elim
  · intro h
    refine h.mono fun d st1 ⟨k, e, q⟩ => ?_
    subst e; cases k <;> exact q
theorem ok_notV : Ok (dNotV m en st) Q ↔ Ok (m en st) fun d st1 => ∃ k, d = .bl k ∧ Q (.bl (!k)) st1 := by
  unfold dNotV; rw [ok_bind]
  constructor
  · intro h
    refine h.mono fun d st1 q => ?_
    cases d <;> first | exact ⟨_, rfl, q⟩ | exact q.elim
  · intro h
    refine h.mono fun d st1 ⟨k, e, q⟩ => ?_
    subst e; exact q
/-! statements -/
theorem ok_set {i : Nat} : Ok (sSet i m en st) V ↔ Ok (m en st) fun d st1 => V (.nx, en.set i (some d)) st1 := by unfold sSet; rw [ok_bind]; simp only [ok_ok]
theorem ok_expr : Ok (sExpr m en st) V ↔ Ok (m en st) fun _ st1 => V (.nx, en) st1 := by unfold sExpr; rw [ok_bind]; simp only [ok_ok]
theorem ok_ret : Ok (sRet m en st) V ↔ Ok (m en st) fun d st1 => V (.ret d, en) st1 := by unfold sRet; rw [ok_bind]; simp only [ok_ok]
theorem ok_retN : Ok (sRetN en st) V ↔ V (.ret .non, en) st := Iff.rfl
theorem ok_pass : Ok (sPass en st) V ↔ V (.nx, en) st := Iff.rfl
theorem ok_brk : Ok (sBrk en st) V ↔ V (.bk, en) st := Iff.rfl
theorem ok_cnt : Ok (sCnt en st) V ↔ V (.ct, en) st := Iff.rfl
theorem ok_if : Ok (sIf t s z en st) V ↔ Ok (t en st) fun k st1 => if k = true then Ok (s en st1) V else Ok (z en st1) V := by unfold sIf; rw [ok_bind]; simp only [ok_ite]
/-- what is wanted behind a statement in a block -/
def Sq (z : SM) (V : Fl × En → S → Prop) : Fl × En → S → Prop := fun p st1 => match p.1 with
  | .nx => Ok (z p.2 st1) V
  | _ => V p st1
theorem ok_seq : Ok (sSeq s z en st) V ↔ Ok (s en st) (Sq z V) := by
  unfold sSeq; rw [ok_bind]
  constructor
  · exact fun h => h.mono fun p st1 q => by
      obtain ⟨f, e⟩ := p
      cases f <;> exact q
  · exact fun h => h.mono fun p st1 q => by
      obtain ⟨f, e⟩ := p
      cases f <;> exact q
theorem sq_nx {e : En} {st1 : S} : Sq z V (.nx, e) st1 ↔ Ok (z e st1) V := Iff.rfl
theorem sq_ret {d : D} {e : En} {st1 : S} : Sq z V (.ret d, e) st1 ↔ V (.ret d, e) st1 := Iff.rfl
theorem sq_bk {e : En} {st1 : S} : Sq z V (.bk, e) st1 ↔ V (.bk, e) st1 := Iff.rfl
theorem sq_ct {e : En} {st1 : S} : Sq z V (.ct, e) st1 ↔ V (.ct, e) st1 := Iff.rfl
theorem ok_asg {b : BM} : Ok (sAsg b m en st) V ↔ Ok (m en st) fun d st1 => ∃ en1, b d en = some en1 ∧ V (.nx, en1) st1 := by
  unfold sAsg; rw [ok_bind]
  constructor
  · intro h
    refine h.mono fun d st1 q => ?_
    cases e : b d en with
    | none => rw [e] at q; exact q.elim
    | some en1 => rw [e] at q; exact ⟨en1, rfl, q⟩
  · intro h
    refine h.mono fun d st1 ⟨k, e, q⟩ => ?_
    rw [e]; exact q
theorem ok_setI {mi : EM} : Ok (sSetI ma mi m en st) V ↔ Ok (m en st) fun d st1 => Ok (ma en st1) fun o st2 => Ok (mi en st2) fun i st3 => ∃ n k xs j, o = .ref n ∧ i = .int k ∧ st3[n]? = some (.lst xs) ∧ ixN xs.length k = some j ∧ V (.nx, en) (st3.set n (.lst (xs.set j d))) := by
  unfold sSetI; simp only [ok_bind]
  constructor
  · intro h
    refine h.mono fun d st1 h => h.mono fun o st2 h => h.mono fun i st3 h => ?_
    split at h
    · split at h
      · rename_i g
        split at h
        · rename_i e
          exact ⟨_, _, _, _, rfl, rfl, g, e, h⟩
        · exact h.elim
      · exact h.elim
    · exact h.elim
  · intro h
    refine h.mono fun d st1 h => h.mono fun o st2 h => h.mono fun i st3 h => ?_
    obtain ⟨n, k, xs, j, rfl, rfl, g, e, q⟩ := h
    simp only [g, e]
    exact q
theorem ok_for {im : IM} {b : BM} {body : SM} : Ok (sFor im b body en st) V ↔ Ok (im en st) fun w st1 => Ok (loopD w b body w.items en st1) V := by unfold sFor; rw [ok_bind]
theorem ok_iAny {I : Wk → S → Prop} : Ok (iAny m en st) I ↔ Ok (m en st) fun d st1 => ∃ w, wkOf st1 d = some w ∧ I w st1 := by
  unfold iAny; rw [ok_bind]
  constructor
  · intro h
    refine h.mono fun d st1 q => ?_
    cases e : wkOf st1 d with
    | none => rw [e] at q; exact q.elim
    | some w => rw [e] at q; exact ⟨w, rfl, q⟩
  · intro h
    refine h.mono fun d st1 ⟨k, e, q⟩ => ?_
    rw [e]; exact q
theorem ok_rng1 {I : Wk → S → Prop} : Ok (iRng1D mr en st) I ↔ Ok (mr en st) fun ds st1 => ∃ j, ds = [.int j] ∧ (-(2 ^ 62) ≤ j ∧ j < 2 ^ 62) ∧ I ⟨rgD 0 j, []⟩ st1 := by
  unfold iRng1D; rw [ok_bind]
  constructor
  · intro h
    refine h.mono fun d st1 q => ?_
    split at q
    · rw [ok_iteB] at q; exact ⟨_, rfl, q⟩
    · exact q.elim
  · intro h
    refine h.mono fun d st1 ⟨j, e, q⟩ => ?_
    subst e; simp only [ok_iteB]; exact q
theorem ok_rng2 {I : Wk → S → Prop} : Ok (iRng2D mr en st) I ↔ Ok (mr en st) fun ds st1 => ∃ i j, ds = [.int i, .int j] ∧ (-(2 ^ 62) ≤ i ∧ i < 2 ^ 62 ∧ -(2 ^ 62) ≤ j ∧ j < 2 ^ 62) ∧ I ⟨rgD i j, []⟩ st1 := by
  unfold iRng2D; rw [ok_bind]
  constructor
  · intro h
    refine h.mono fun d st1 q => ?_
    split at q
    · rw [ok_iteB] at q; exact ⟨_, _, rfl, q⟩
    · exact q.elim
  · intro h
    refine h.mono fun d st1 ⟨i, j, e, q⟩ => ?_
    subst e; simp only [ok_iteB]; exact q
theorem ok_lc {im : IM} {own : List Nat} {b : BM} : Ok (dLc im own b t m en st) Q ↔ Ok (im en st) fun w st1 => Ok (lcD w b t m (wipeE en own) w.items [] st1) fun acc st2 => Q (.ref st2.length) (st2 ++ [.lst acc]) := by
  unfold dLc; rw [ok_bind]; simp only [ok_bind, ok_ok, ok_atEn]
/-- a def -/
def Rt (Q : D → S → Prop) : Fl × En → S → Prop := fun p st1 => match p.1 with
  | .ret d => Q d st1
  | .nx => Q .non st1
  | _ => False
theorem rt_ret {d : D} {e : En} {st1 : S} : Rt Q (.ret d, e) st1 ↔ Q d st1 := Iff.rfl
theorem rt_nx {e : En} {st1 : S} : Rt Q (.nx, e) st1 ↔ Q .non st1 := Iff.rfl
theorem ok_def {np n : Nat} {ds : List D} : Ok (defD np n s ds st) Q ↔ ds.length = np ∧ Ok (s (ds.map some ++ List.replicate (n - np) none) st) (Rt Q) := by
  unfold defD
  by_cases hl : ds.length = np
  · rw [if_pos hl]
    cases e : s (ds.map some ++ List.replicate (n - np) none) st with
    | ok p st1 =>
      obtain ⟨f, en1⟩ := p
      simp only [hl, true_and]
      cases f <;> exact Iff.rfl
    | exc _ _ _ => simp only [hl, true_and]; exact Iff.rfl
    | bad => simp only [hl, true_and]; exact Iff.rfl
  · rw [if_neg hl]; simp [hl, Ok]
end

/-! ### operations on values -/
section
variable {st : S} {Q : D → S → Prop} {i j : Int} {x y : Str} {l k : List D} {n m : Nat} {d e : D}
theorem v_add : Ok (dAdd (.int i) (.int j) st) Q ↔ Q (.int (i + j)) st := Iff.rfl
theorem v_addS : Ok (dAdd (.str x) (.str y) st) Q ↔ x.length + y.length ≤ sizeLine ∧ Q (.str (x ++ y)) st := by unfold dAdd; exact ok_iteB
theorem v_addT : Ok (dAdd (.tup l) (.tup k) st) Q ↔ l.length + k.length ≤ sizeLine ∧ Q (.tup (l ++ k)) st := by unfold dAdd; exact ok_iteB
theorem v_addL (h1 : st[n]? = some (.lst l)) (h2 : st[m]? = some (.lst k)) : Ok (dAdd (.ref n) (.ref m) st) Q ↔ l.length + k.length ≤ sizeLine ∧ Q (.ref st.length) (st ++ [.lst (l ++ k)]) := by
  simp only [dAdd, h1, h2]; exact ok_iteB
theorem v_sub : Ok (dSub (.int i) (.int j) st) Q ↔ Q (.int (i - j)) st := Iff.rfl
theorem v_mul : Ok (dMul (.int i) (.int j) st) Q ↔ ((-(2 ^ 64) < i ∧ i < 2 ^ 64) ∨ (-(2 ^ 64) < j ∧ j < 2 ^ 64) ∨ i.natAbs.log2 + j.natAbs.log2 < 1000000) ∧ Q (.int (i * j)) st := by
  unfold dMul
  rw [ok_ite, ok_iteB, ok_ok]
  constructor
  · intro h
    split at h
    · rename_i hc
      exact ⟨hc.elim .inl fun z => .inr (.inl z), h⟩
    · exact ⟨.inr (.inr h.1), h.2⟩
  · rintro ⟨h1 | h1 | h1, h⟩
    · rw [if_pos (.inl h1)]; exact h
    · rw [if_pos (.inr h1)]; exact h
    · split
      · exact h
      · exact ⟨h1, h⟩
theorem v_div : Ok (dDiv (.int i) (.int j) st) Q ↔ (0 < j ∧ j.natAbs.log2 < 9000) ∧ Q (.int (i / j)) st := by unfold dDiv; exact ok_iteB
theorem v_mod : Ok (dMod (.int i) (.int j) st) Q ↔ 0 < j ∧ Q (.int (i % j)) st := by unfold dMod; exact ok_iteB
theorem v_pow : Ok (dPow (.int i) (.int j) st) Q ↔ (0 ≤ j ∧ j ≤ 1000000 ∧ i.natAbs < 2 ^ 64) ∧ Q (.int (i ^ j.toNat)) st := by unfold dPow; exact ok_iteB
theorem v_neg : Ok (dNeg (.int i) st) Q ↔ Q (.int (-i)) st := Iff.rfl
theorem v_lt : Ok (dLt (.int i) (.int j) st) Q ↔ Q (.bl (decide (i < j))) st := Iff.rfl
theorem v_le : Ok (dLe (.int i) (.int j) st) Q ↔ Q (.bl (decide (i ≤ j))) st := Iff.rfl
theorem v_gt : Ok (dGt (.int i) (.int j) st) Q ↔ Q (.bl (decide (j < i))) st := Iff.rfl
theorem v_ge : Ok (dGe (.int i) (.int j) st) Q ↔ Q (.bl (decide (j ≤ i))) st := Iff.rfl
theorem v_eqI : Ok (dEq (.int i) (.int j) st) Q ↔ Q (.bl (decide (i = j))) st := Iff.rfl
theorem v_neI : Ok (dNe (.int i) (.int j) st) Q ↔ Q (.bl (!decide (i = j))) st := Iff.rfl
theorem v_eqS : Ok (dEq (.str x) (.str y) st) Q ↔ Q (.bl (decide (x = y))) st := Iff.rfl
theorem v_neS : Ok (dNe (.str x) (.str y) st) Q ↔ Q (.bl (!decide (x = y))) st := Iff.rfl
theorem v_isN : Ok (dIs d .non st) Q ↔ Q (.bl (isNonD d)) st := by cases d <;> exact Iff.rfl
theorem v_isnotN : Ok (dIsNot d .non st) Q ↔ Q (.bl (!isNonD d)) st := by cases d <;> exact Iff.rfl
theorem v_ix : Ok (dIx (.tup l) (.int i) st) Q ↔ ∃ d, atI l i = some d ∧ Q d st := by
  simp only [dIx, seqD]
  constructor
  · intro h
    split at h
    · rename_i e; exact ⟨_, e, h⟩
    · exact h.elim
  · rintro ⟨d, e, h⟩
    simp only [e]; exact h
theorem v_ixR : Ok (dIx (.ref n) (.int i) st) Q ↔ ∃ l d, seqD st (.ref n) = some l ∧ atI l i = some d ∧ Q d st := by
  simp only [dIx]
  constructor
  · intro h
    split at h
    · rename_i e
      split at h
      · rename_i e2; exact ⟨_, _, e, e2, h⟩
      · exact h.elim
    · exact h.elim
  · rintro ⟨l, d, e, e2, h⟩
    simp only [e, e2]; exact h
theorem v_int : Ok (dInt [.int i] st) Q ↔ Q (.int i) st := Iff.rfl
theorem v_lenT : Ok (dLen [.tup l] st) Q ↔ Q (.int l.length) st := Iff.rfl
theorem v_lenS : Ok (dLen [.str x] st) Q ↔ x.length ≤ sizeLine ∧ Q (.int x.length) st := by simp only [dLen]; exact ok_iteB
theorem v_lenR : Ok (dLen [.ref n] st) Q ↔ ∃ l, seqD st (.ref n) = some l ∧ Q (.int l.length) st := by
  simp only [dLen]
  constructor
  · intro h
    split at h
    · rename_i e; exact ⟨_, e, h⟩
    · exact h.elim
  · rintro ⟨l, e, h⟩
    simp only [e]; exact h
theorem v_list : Ok (dList [.ref n] st) Q ↔ ∃ l, seqD st (.ref n) = some l ∧ Q (.ref st.length) (st ++ [.lst l]) := by
  simp only [dList]
  constructor
  · intro h
    split at h
    · rename_i e; exact ⟨_, e, h⟩
    · exact h.elim
  · rintro ⟨l, e, h⟩
    simp only [e]; exact h
theorem v_tuple : Ok (dTuple [.ref n] st) Q ↔ ∃ l, seqD st (.ref n) = some l ∧ Q (.tup l) st := by
  simp only [dTuple]
  constructor
  · intro h
    split at h
    · rename_i e; exact ⟨_, e, h⟩
    · exact h.elim
  · rintro ⟨l, e, h⟩
    simp only [e]; exact h
theorem v_append : Ok (mAppend (.ref n) [d] st) Q ↔ ∃ l, st[n]? = some (.lst l) ∧ l.length < sizeLine ∧ Q .non (st.set n (.lst (l ++ [d]))) := by
  simp only [mAppend]
  constructor
  · intro h
    split at h
    · rename_i e
      rw [ok_iteB] at h
      exact ⟨_, e, h⟩
    · exact h.elim
  · rintro ⟨l, e, h⟩
    simp only [e]
    exact ok_iteB.mpr h
theorem v_isi : Ok (dIsi [d, .ty t] st) Q ↔ ∃ a k, tyN st d = some a ∧ subTy a t = some k ∧ Q (.bl k) st := by
  simp only [dIsi]
  constructor
  · intro h
    split at h
    · rename_i e
      split at h
      · rename_i e2; exact ⟨_, _, e, e2, h⟩
      · exact h.elim
    · exact h.elim
  · rintro ⟨a, k, e, e2, h⟩
    simp only [e, e2]; exact h
theorem v_inT {g : Bool → Bool} : Ok (dIn2 g d (.tup l) st) Q ↔ (flatD d && l.all flatD) = true ∧ Q (.bl (g (inD d l))) st := by
  cases d <;> (simp only [dIn2]; exact ok_iteB)
theorem v_inS {g : Bool → Bool} : Ok (dIn2 g (.str x) (.str y) st) Q ↔ Q (.bl (g (!(Builtin.Str.occurrences y x 0 y.length 1).isEmpty))) st := Iff.rfl
theorem seqD_lst (h : st[n]? = some (.lst l)) : seqD st (.ref n) = some l := by simp only [seqD, h]
theorem seqD_frz (h : st[n]? = some (.frz l)) : seqD st (.ref n) = some l := by simp only [seqD, h]
theorem isT_lst (h : st[n]? = some (.lst l)) : isT "list" st (.ref n) = true := by simp only [isT, h]; rfl
theorem tyN_lst (h : st[n]? = some (.lst l)) : tyN st (.ref n) = some "list" := by simp only [tyN, h]
theorem wkOf_lst (h : st[n]? = some (.lst l)) : wkOf st (.ref n) = some ⟨l, [(n, l)]⟩ := by simp only [wkOf, seqD, h]
theorem atI_lt {i : Nat} (h : l[i]? = some d) : atI l (i : Int) = some d := atI_nat h
end

/-! ### loops by invariants -/
section
variable {w : Wk} {b : BM} {body : SM} {V : Fl × En → S → Prop}
/-- one turn's end -/
def Tn (I : En → S → Prop) (V : Fl × En → S → Prop) : Fl × En → S → Prop := fun p st1 => match p.1 with
  | .nx => I p.2 st1
  | .ct => I p.2 st1
  | .bk => V (.nx, p.2) st1
  | .ret v => V (.ret v, p.2) st1
theorem tn_nx {I : En → S → Prop} {e : En} {st : S} : Tn I V (.nx, e) st ↔ I e st := Iff.rfl
theorem tn_ct {I : En → S → Prop} {e : En} {st : S} : Tn I V (.ct, e) st ↔ I e st := Iff.rfl
theorem tn_bk {I : En → S → Prop} {e : En} {st : S} : Tn I V (.bk, e) st ↔ V (.nx, e) st := Iff.rfl
theorem tn_ret {I : En → S → Prop} {d : D} {e : En} {st : S} : Tn I V (.ret d, e) st ↔ V (.ret d, e) st := Iff.rfl
/-- the loop over all the items that are left; I i: what holds ahead of the i-th item -/
theorem ok_loop (I : Nat → En → S → Prop) (hw : ∀ i en st, I i en st → WkOk w st)
    (hs : ∀ i d en st, w.items[i]? = some d → I i en st → ∃ en1, b d en = some en1 ∧ Ok (body en1 st) (Tn (I (i + 1)) V)) (hd : ∀ en st, I w.items.length en st → V (.nx, en) st) :
    ∀ (k i : Nat) (en : En) (st : S), k + i = w.items.length → I i en st → Ok (loopD w b body (w.items.drop i) en st) V
  | 0, i, en, st, e, h => by
    rw [List.drop_eq_nil_of_le (by omega)]
    unfold loopD
    rw [chk_iff.mpr (hw i en st h)]
    have : i = w.items.length := by omega
    subst this
    exact hd en st h
  | k + 1, i, en, st, e, h => by
    have hi : i < w.items.length := by omega
    rw [List.drop_eq_getElem_cons hi]
    unfold loopD
    rw [if_pos (chk_iff.mpr (hw i en st h))]
    obtain ⟨en1, e1, h1⟩ := hs i _ en st (List.getElem?_eq_getElem hi) h
    rw [e1]
    simp only [ok_bind]
    refine h1.mono fun p st1 q => ?_
    obtain ⟨f, en2⟩ := p
    cases f with
    | nx => exact ok_loop I hw hs hd k (i + 1) en2 st1 (by omega) q
    | ct => exact ok_loop I hw hs hd k (i + 1) en2 st1 (by omega) q
    | bk => exact q
    | ret v => exact q
theorem ok_loop0 {en : En} {st : S} (I : Nat → En → S → Prop) (h0 : I 0 en st) (hw : ∀ i en st, I i en st → WkOk w st)
    (hs : ∀ i d en st, w.items[i]? = some d → I i en st → ∃ en1, b d en = some en1 ∧ Ok (body en1 st) (Tn (I (i + 1)) V)) (hd : ∀ en st, I w.items.length en st → V (.nx, en) st) : Ok (loopD w b body w.items en st) V := by
  have := ok_loop I hw hs hd w.items.length 0 en st (by omega) h0
  rwa [List.drop_zero] at this
variable {t : TM} {m : EM} {en : En} {R : List D → S → Prop}
/-- a comprehension: what holds ahead of the i-th item, with what was made so far -/
theorem ok_lcD (I : Nat → List D → S → Prop) (hw : ∀ i acc st, I i acc st → WkOk w st)
    (hs : ∀ i d acc st, w.items[i]? = some d → I i acc st → ∃ en1, b d en = some en1 ∧ Ok (t en1 st) fun k st1 => if k = true then Ok (m en1 st1) fun y st2 => acc.length < sizeLine ∧ I (i + 1) (acc ++ [y]) st2 else I (i + 1) acc st1)
    (hd : ∀ acc st, I w.items.length acc st → R acc st) : ∀ (k i : Nat) (acc : List D) (st : S), k + i = w.items.length → I i acc st → Ok (lcD w b t m en (w.items.drop i) acc st) R
  | 0, i, acc, st, e, h => by
    rw [List.drop_eq_nil_of_le (by omega)]
    unfold lcD
    rw [chk_iff.mpr (hw i acc st h)]
    have : i = w.items.length := by omega
    subst this
    exact hd acc st h
  | k + 1, i, acc, st, e, h => by
    have hi : i < w.items.length := by omega
    rw [List.drop_eq_getElem_cons hi]
    unfold lcD
    rw [if_pos (chk_iff.mpr (hw i acc st h))]
    obtain ⟨en1, e1, h1⟩ := hs i _ acc st (List.getElem?_eq_getElem hi) h
    rw [e1]
    simp only [ok_bind, ok_ite]
    refine h1.mono fun c st1 q => ?_
    cases c with
    | true =>
      simp only [if_true] at q ⊢
      refine q.mono fun y st2 ⟨q1, q2⟩ => ?_
      rw [if_pos q1]
      exact ok_lcD I hw hs hd k (i + 1) _ st2 (by omega) q2
    | false =>
      simp only [Bool.false_eq_true, if_false] at q ⊢
      exact ok_lcD I hw hs hd k (i + 1) acc st1 (by omega) q
theorem ok_lcD0 {st : S} (I : Nat → List D → S → Prop) (h0 : I 0 [] st) (hw : ∀ i acc st, I i acc st → WkOk w st)
    (hs : ∀ i d acc st, w.items[i]? = some d → I i acc st → ∃ en1, b d en = some en1 ∧ Ok (t en1 st) fun k st1 => if k = true then Ok (m en1 st1) fun y st2 => acc.length < sizeLine ∧ I (i + 1) (acc ++ [y]) st2 else I (i + 1) acc st1)
    (hd : ∀ acc st, I w.items.length acc st → R acc st) : Ok (lcD w b t m en w.items [] st) R := by
  have := ok_lcD I hw hs hd w.items.length 0 [] st (by omega) h0
  rwa [List.drop_zero] at this
end

/-! ### pure data -/
/-- no list, no object in it; not too deep; its texts are texts -/
def pureD : Nat → D → Bool
  | 0, _ => false
  | _ + 1, .non => true
  | _ + 1, .bl _ => true
  | _ + 1, .int _ => true
  | _ + 1, .str x => PyData.strOk x
  | n + 1, .tup l => l.all (pureD n)
  | _ + 1, .ref _ => false
  | _ + 1, .ty _ => false
mutual
def toP : D → PyData
  | .non => .none
  | .bl b => .bool b
  | .int i => .int i
  | .str x => .str x
  | .tup l => .tuple (toPs l)
  | .ref _ => .none
  | .ty _ => .none
def toPs : List D → List PyData
  | [] => []
  | d :: ds => toP d :: toPs ds
end
/-! as == sees it: True is 1 -/
mutual
def nrm : D → D
  | .bl b => .int (if b then 1 else 0)
  | .tup l => .tup (nrms l)
  | .non => .non
  | .int i => .int i
  | .str x => .str x
  | .ref n => .ref n
  | .ty n => .ty n
def nrms : List D → List D
  | [] => []
  | d :: ds => nrm d :: nrms ds
end
theorem toPs_map : ∀ l, toPs l = l.map toP
  | [] => by rw [toPs]; rfl
  | d :: ds => by rw [toPs, toPs_map ds]; rfl
theorem nrms_map : ∀ l, nrms l = l.map nrm
  | [] => by rw [nrms]; rfl
  | d :: ds => by rw [nrms, nrms_map ds]; rfl
theorem mapO_pure {f : D → Option PyData} : ∀ {l : List D}, (∀ d ∈ l, f d = some (toP d)) → mapO f l = some (l.map toP)
  | [], _ => rfl
  | d :: ds, h => by
    unfold mapO
    rw [h d List.mem_cons_self, mapO_pure fun e he => h e (List.mem_cons_of_mem _ he)]
    rfl
theorem tre_pure {st : S} : ∀ (n f : Nat) (d : D), pureD n d = true → n ≤ f → tre st f d = some (toP d)
  | 0, _, _, h, _ => by simp [pureD] at h
  | n + 1, 0, _, _, hf => absurd hf (by omega)
  | n + 1, f + 1, .non, _, _ => by simp [tre, toP]
  | n + 1, f + 1, .bl _, _, _ => by simp [tre, toP]
  | n + 1, f + 1, .int _, _, _ => by simp [tre, toP]
  | n + 1, f + 1, .str _, _, _ => by simp [tre, toP]
  | n + 1, f + 1, .tup l, h, hf => by
    simp only [pureD, List.all_eq_true] at h
    simp only [tre, toP, toPs_map]
    rw [mapO_pure fun d hd => tre_pure n f d (h d hd) (by omega)]
    rfl
  | n + 1, f + 1, .ref _, h, _ => by simp [pureD] at h
  | n + 1, f + 1, .ty _, h, _ => by simp [pureD] at h
theorem canLayAll_of {l : List PyData} (h : ∀ p ∈ l, PyData.canLay0 p = true) : PyData.canLayAll0 l = true := by
  induction l with
  | nil => simp [PyData.canLayAll0]
  | cons p ps ih => simp only [PyData.canLayAll0, Bool.and_eq_true]; exact ⟨h p List.mem_cons_self, ih fun q hq => h q (List.mem_cons_of_mem _ hq)⟩
theorem depthAll_of {l : List PyData} {n : Nat} (h : ∀ p ∈ l, PyData.depth p ≤ n) : PyData.depthAll l ≤ n := by
  induction l with
  | nil => simp [PyData.depthAll]
  | cons p ps ih =>
    have h1 := h p List.mem_cons_self
    have h2 := ih fun q hq => h q (List.mem_cons_of_mem _ hq)
    simp only [PyData.depthAll]
    omega
theorem lay_pure : ∀ (n : Nat) (d : D), pureD n d = true → PyData.canLay0 (toP d) = true ∧ PyData.depth (toP d) ≤ n
  | 0, _, h => by simp [pureD] at h
  | n + 1, .non, _ => by simp [toP, PyData.canLay0, PyData.depth]
  | n + 1, .bl _, _ => by simp [toP, PyData.canLay0, PyData.depth]
  | n + 1, .int _, _ => by simp [toP, PyData.canLay0, PyData.depth]
  | n + 1, .str x, h => by
    simp only [pureD] at h
    simp only [toP, PyData.canLay0, PyData.depth, h, true_and]
    omega
  | n + 1, .tup l, h => by
    simp only [pureD, List.all_eq_true] at h
    have h1 : ∀ p ∈ l.map toP, PyData.canLay0 p = true ∧ PyData.depth p ≤ n := fun p hp => by
      obtain ⟨d, hd, rfl⟩ := List.mem_map.mp hp
      exact lay_pure n d (h d hd)
    simp only [toP, toPs_map, PyData.canLay0, PyData.depth]
    exact ⟨canLayAll_of fun p hp => (h1 p hp).1, by have := depthAll_of fun p hp => (h1 p hp).2; omega⟩
  | n + 1, .ref _, h => by simp [pureD] at h
  | n + 1, .ty _, h => by simp [pureD] at h
theorem shaped_pure {n : Nat} {d : D} (h : pureD n d = true) (hn : n ≤ 63) : SeqAt.shaped (toP d) = true := by
  obtain ⟨h1, h2⟩ := lay_pure n d h
  unfold SeqAt.shaped
  rw [h1, Bool.true_and]
  exact decide_eq_true (by omega)
theorem shaped_list {n : Nat} {l : List D} (h : ∀ d ∈ l, pureD n d = true) (hn : n ≤ 63) : SeqAt.shaped (.list (l.map toP)) = true := by
  have h1 : ∀ p ∈ l.map toP, PyData.canLay0 p = true ∧ PyData.depth p ≤ n := fun p hp => by
    obtain ⟨d, hd, rfl⟩ := List.mem_map.mp hp
    exact lay_pure n d (h d hd)
  unfold SeqAt.shaped
  simp only [PyData.canLay0, PyData.depth, Bool.and_eq_true]
  exact ⟨canLayAll_of fun p hp => (h1 p hp).1, decide_eq_true (by have := depthAll_of fun p hp => (h1 p hp).2; omega)⟩
theorem eqvAll_iff {f : D → D → Prop} : ∀ {l k : List D}, (∀ x ∈ l, ∀ y ∈ k, (PyData.eqv (toP x) (toP y) = true ↔ nrm x = nrm y)) → (PyData.eqvAll (l.map toP) (k.map toP) = true ↔ l.map nrm = k.map nrm)
  | [], [], _ => by simp [PyData.eqvAll]
  | [], _ :: _, _ => by simp [PyData.eqvAll]
  | _ :: _, [], _ => by simp [PyData.eqvAll]
  | x :: xs, y :: ys, h => by
    simp only [List.map_cons, PyData.eqvAll, Bool.and_eq_true, List.cons.injEq]
    rw [h x List.mem_cons_self y List.mem_cons_self, eqvAll_iff (f := f) fun a ha b hb => h a (List.mem_cons_of_mem _ ha) b (List.mem_cons_of_mem _ hb)]
theorem eqv_pure : ∀ (n k : Nat) (d e : D), pureD n d = true → pureD k e = true → (PyData.eqv (toP d) (toP e) = true ↔ nrm d = nrm e)
  | 0, _, _, _, h, _ => by simp [pureD] at h
  | _, 0, _, _, _, h => by simp [pureD] at h
  | n + 1, k + 1, d, e, h, h' => by
    cases d <;> first | (simp [pureD] at h; done) | skip
    all_goals (cases e <;> first | (simp [pureD] at h'; done) | skip)
    case tup.tup l m =>
      simp only [pureD, List.all_eq_true] at h h'
      simp only [toP, toPs_map, PyData.eqv, nrm, nrms_map, D.tup.injEq]
      exact eqvAll_iff (f := fun _ _ => True) fun x hx y hy => eqv_pure n k x y (h x hx) (h' y hy)
    case bl.bl a b => cases a <;> cases b <;> simp [toP, PyData.eqv, nrm]
    all_goals (simp [toP, PyData.eqv, nrm])
theorem eqv_list {n k : Nat} {l m : List D} (h : ∀ d ∈ l, pureD n d = true) (h' : ∀ d ∈ m, pureD k d = true) : PyData.eqv (.list (l.map toP)) (.list (m.map toP)) = true ↔ l.map nrm = m.map nrm := by
  rw [PyData.eqv]
  exact eqvAll_iff (f := fun _ _ => True) fun x hx y hy => eqv_pure n k x y (h x hx) (h' y hy)
section
variable {st : S} {Q : D → S → Prop} {l k : List D} {n m : Nat} {d e : D}
/-- == of two lists of pure data, of two pure data -/
theorem v_eqL {g : Bool → Bool} {p q : Nat} (h1 : st[n]? = some (.lst l)) (h2 : st[m]? = some (.lst k)) (hl : ∀ d ∈ l, pureD p d = true) (hk : ∀ d ∈ k, pureD q d = true) (hp : p ≤ 11) (hq : q ≤ 11)
    (h : Q (.bl (g (@decide (l.map nrm = k.map nrm) (Classical.propDecidable _)))) st) : Ok (dEq2 g (.ref n) (.ref m) st) Q := by
  unfold dEq2
  have e1 : tre st 12 (.ref n) = some (.list (l.map toP)) := by simp only [tre, h1]; rw [mapO_pure fun d hd => tre_pure p 11 d (hl d hd) hp]; rfl
  have e2 : tre st 12 (.ref m) = some (.list (k.map toP)) := by simp only [tre, h2]; rw [mapO_pure fun d hd => tre_pure q 11 d (hk d hd) hq]; rfl
  simp only [e1, e2, shaped_list hl (by omega), shaped_list hk (by omega), Bool.and_self, if_true]
  rw [ok_ok]
  have : PyData.eqv (.list (l.map toP)) (.list (k.map toP)) = @decide (l.map nrm = k.map nrm) (Classical.propDecidable _) := by
    rw [Bool.eq_iff_iff, eqv_list hl hk]
    exact (@decide_eq_true_iff _ (Classical.propDecidable _)).symm
  rw [this]
  exact h
theorem v_eqP {g : Bool → Bool} {p q : Nat} (hd : pureD p d = true) (he : pureD q e = true) (hp : p ≤ 12) (hq : q ≤ 12) (h : Q (.bl (g (@decide (nrm d = nrm e) (Classical.propDecidable _)))) st) : Ok (dEq2 g d e st) Q := by
  have key : PyData.eqv (toP d) (toP e) = @decide (nrm d = nrm e) (Classical.propDecidable _) := by
    rw [Bool.eq_iff_iff, eqv_pure p q d e hd he]
    exact (@decide_eq_true_iff _ (Classical.propDecidable _)).symm
  have gen : Ok (match tre st 12 d, tre st 12 e with
    | some a, some b => if (SeqAt.shaped a && SeqAt.shaped b) = true then .ok (.bl (g (PyData.eqv a b))) st else .bad
    | _, _ => .bad) Q := by
    simp only [tre_pure p 12 d hd hp, tre_pure q 12 e he hq, shaped_pure hd (by omega), shaped_pure he (by omega), Bool.and_self, if_true]
    rw [ok_ok, key]
    exact h
  unfold dEq2
  split
  · rename_i a b
    rw [ok_ok, show decide (a = b) = @decide (nrm (.int a) = nrm (.int b)) (Classical.propDecidable _) by rw [Bool.eq_iff_iff]; simp [nrm]]
    exact h
  · rename_i a b
    rw [ok_ok, show decide (a = b) = @decide (nrm (.str a) = nrm (.str b)) (Classical.propDecidable _) by rw [Bool.eq_iff_iff]; simp [nrm]]
    exact h
  · rename_i a b
    rw [ok_ok, show decide (a = b) = @decide (nrm (.bl a) = nrm (.bl b)) (Classical.propDecidable _) by rw [Bool.eq_iff_iff]; cases a <;> cases b <;> simp [nrm]]
    exact h
  · exact gen
end
end Dn

/-! Dn, Q: reasoning about classes, enumerate, texts of ints, nested lists. -/
namespace Dn
open PySem L2
variable [EK]
section
variable {en : En} {st : S} {Q : D → S → Prop} {R : List D → S → Prop} {T : Bool → S → Prop} {V : Fl × En → S → Prop} {m mo ma mb mv : EM} {mr : AM} {cs : List Str} {f c : Str} {tab : List (Str × (List D → S → Out D))} {np : Nat}
theorem ok_fld : Ok (dFld cs f m en st) Q ↔ Ok (m en st) fun d st1 => ∃ n c fs x, d = .ref n ∧ st1[n]? = some (.ins c fs) ∧ cs.contains c = true ∧ fs.lookup f = some x ∧ Q x st1 := by
  unfold dFld; rw [ok_bind]
  constructor
  · intro h
    refine h.mono fun d st1 q => ?_
    split at q
    · split at q
      · rename_i n c fs g
        split at q
        · rename_i hc
          split at q
          · rename_i x e; exact ⟨_, _, _, _, rfl, g, hc, e, q⟩
          · exact q.elim
        · exact q.elim
      · exact q.elim
    · exact q.elim
  · intro h
    refine h.mono fun d st1 ⟨n, c, fs, x, e, g, hc, l, q⟩ => ?_
    subst e
    simp only [g, hc, l, if_true]
    exact q
theorem ok_fldS : Ok (sFldS cs f mo mv en st) V ↔ Ok (mv en st) fun d st1 => Ok (mo en st1) fun o st2 => ∃ n c fs, o = .ref n ∧ st2[n]? = some (.ins c fs) ∧ cs.contains c = true ∧ fs.length < 1000 ∧ V (.nx, en) (st2.set n (.ins c (putD f d fs))) := by
  unfold sFldS; simp only [ok_bind]
  constructor
  · intro h
    refine h.mono fun d st1 h => h.mono fun o st2 q => ?_
    split at q
    · split at q
      · rename_i n c fs g
        rw [ok_iteB, Bool.and_eq_true, decide_eq_true_eq] at q
        exact ⟨_, _, _, rfl, g, q.1.1, q.1.2, q.2⟩
      · exact q.elim
    · exact q.elim
  · intro h
    refine h.mono fun d st1 h => h.mono fun o st2 ⟨n, c, fs, e, g, hc, hl, q⟩ => ?_
    subst e
    simp only [g, hc, hl, Bool.true_and, decide_true, if_true]
    exact q
theorem ok_met {k : Str} : Ok (dMet tab k np mo mr en st) Q ↔ Ok (mo en st) fun o st1 => ∃ n c fs f, o = .ref n ∧ st1[n]? = some (.ins c fs) ∧ fs.lookup k = none ∧ tab.lookup c = some f ∧ Ok (mr en st1) fun ds st2 => ds.length + 1 = np ∧ Ok (f (.ref n :: ds) st2) Q := by
  unfold dMet; simp only [ok_bind]
  constructor
  · intro h
    refine h.mono fun d st1 q => ?_
    split at q
    · split at q
      · rename_i n c fs g
        split at q
        · rename_i f e1 e2
          simp only [ok_bind, ok_iteB, ok_atEn] at q
          exact ⟨_, _, _, _, rfl, g, e1, e2, q⟩
        · exact q.elim
      · exact q.elim
    · exact q.elim
  · intro h
    refine h.mono fun d st1 ⟨n, c, fs, f, e, g, e1, e2, q⟩ => ?_
    subst e
    simp only [g, e1, e2, ok_bind, ok_iteB, ok_atEn]
    exact q
theorem ok_prop : Ok (dProp tab mo en st) Q ↔ Ok (mo en st) fun o st1 => ∃ n c fs f, o = .ref n ∧ st1[n]? = some (.ins c fs) ∧ tab.lookup c = some f ∧ @Ok D (f [.ref n] st1) Q EK0 := by
  unfold dProp; simp only [ok_bind]
  constructor
  · intro h
    refine h.mono fun d st1 q => ?_
    split at q
    · split at q
      · rename_i n c fs g
        split at q
        · rename_i f e2
          split at q
          · rename_i e
            exact ⟨_, _, _, f, rfl, by assumption, e2, by rw [e]; exact q⟩
          · exact q.elim
        · exact q.elim
      · exact q.elim
    · exact q.elim
  · intro h
    refine h.mono fun d st1 ⟨n, c, fs, f, e, g, e2, q⟩ => ?_
    subst e
    simp only [g, e2]
    cases e : f [.ref n] st1 with
    | ok d st2 => rw [e] at q; exact q
    | exc x y z => rw [e] at q; exact q.elim
    | bad => rw [e] at q; exact q.elim
theorem ok_make {g : List D → S → Out D} : Ok (dMake c np g mr en st) Q ↔ Ok (mr en st) fun ds st1 => ds.length + 1 = np ∧ Ok (g (.ref st1.length :: ds) (st1 ++ [.ins c []])) fun d st2 => d = .non ∧ Q (.ref st1.length) st2 := by
  unfold dMake; simp only [ok_bind, ok_iteB, ok_atEn]
  constructor
  · intro h
    refine h.mono fun ds st1 ⟨a, q⟩ => ⟨a, q.mono fun d st2 z => ?_⟩
    split at z
    · exact ⟨rfl, z⟩
    · exact z.elim
  · intro h
    refine h.mono fun ds st1 ⟨a, q⟩ => ⟨a, q.mono fun d st2 ⟨e, z⟩ => ?_⟩
    subst e
    exact z
theorem ok_iEn {I : Wk → S → Prop} : Ok (iEn mr en st) I ↔ Ok (mr en st) fun ds st1 => ∃ n l, ds = [.ref n] ∧ seqD st1 (.ref n) = some l ∧ I ⟨enD l, [(n, l)]⟩ st1 := by
  unfold iEn; rw [ok_bind]
  constructor
  · intro h
    refine h.mono fun ds st1 q => ?_
    split at q
    · split at q
      · rename_i n l e; exact ⟨_, _, rfl, e, q⟩
      · exact q.elim
    · exact q.elim
  · intro h
    refine h.mono fun ds st1 ⟨n, l, e, g, q⟩ => ?_
    subst e
    simp only [g]
    exact q
theorem v_str {i : Int} : Ok (dStr [.int i] st) Q ↔ i.natAbs.log2 < 1920 ∧ Q (.str (toString i)) st := by unfold dStr; exact ok_iteB
theorem v_extend {n k : Nat} {l l2 : List D} (h1 : st[n]? = some (.lst l)) (h2 : st[k]? = some (.lst l2)) : Ok (mExtend (.ref n) [.ref k] st) Q ↔ l.length + l2.length ≤ sizeLine ∧ Q .non (st.set n (.lst (l ++ l2))) := by
  simp only [mExtend, h1, h2]; exact ok_iteB
/-- == of what is no pair of ints, texts, truths: by its tree -/
theorem v_eqT {g : Bool → Bool} {n : Nat} {e : D} {a b : PyData} (h1 : tre st 12 (.ref n) = some a) (h2 : tre st 12 e = some b) (s1 : SeqAt.shaped a = true) (s2 : SeqAt.shaped b = true) (h : Q (.bl (g (PyData.eqv a b))) st) : Ok (dEq2 g (.ref n) e st) Q := by
  unfold dEq2
  simp only [h1, h2, s1, s2, Bool.and_self, if_true]
  rw [ok_ok]
  exact h
theorem enD_get {l : List D} {i : Nat} {d : D} (h : (enD l)[i]? = some d) : ∃ x, l[i]? = some x ∧ d = .tup [.int (i : Int), x] := by
  unfold enD at h
  simp only [List.getElem?_map, List.getElem?_zipIdx] at h
  cases e : l[i]? with
  | none => rw [e] at h; simp at h
  | some x => rw [e] at h; simp at h; exact ⟨x, rfl, h.symm⟩
end
section
variable {en : En} {st : S} {Q : D → S → Prop} {R : List D → S → Prop} {ma : EM} {mr : AM}
theorem ok_star : Ok (dStar ma mr en st) R ↔ Ok (ma en st) fun x st1 => ∃ l, seqD st1 x = some l ∧ Ok (mr en st1) fun ys st2 => R (l ++ ys) st2 := by
  unfold dStar; simp only [ok_bind]
  constructor
  · intro h
    refine h.mono fun x st1 q => ?_
    cases e : seqD st1 x with
    | none => rw [e] at q; exact q.elim
    | some l => rw [e] at q; simp only [ok_bind, ok_ok] at q; exact ⟨l, rfl, q⟩
  · intro h
    refine h.mono fun x st1 ⟨l, e, q⟩ => ?_
    rw [e]; simp only [ok_bind, ok_ok]; exact q
theorem ok_cix {ys : List Str} : Ok (dCIx ys mr en st) Q ↔ Ok (mr en st) fun xs st1 => ∃ z j, xs = [.str z] ∧ idxS z ys = some j ∧ Q (.int (j : Nat)) st1 := by
  unfold dCIx; simp only [ok_bind]
  constructor
  · intro h
    refine h.mono fun x st1 q => ?_
    split at q
    · split at q
      · rename_i j e; exact ⟨_, j, rfl, e, q⟩
      · exact q.elim
    · exact q.elim
  · intro h
    refine h.mono fun x st1 ⟨z, j, e, e2, q⟩ => ?_
    subst e
    simp only [e2]
    exact q
theorem v_extT {n : Nat} {l l2 : List D} (h1 : st[n]? = some (.lst l)) : Ok (mExtendA (.ref n) [.tup l2] st) Q ↔ l.length + l2.length ≤ sizeLine ∧ Q .non (st.set n (.lst (l ++ l2))) := by
  simp only [mExtendA, h1]; exact ok_iteB
theorem v_extL {n k : Nat} {l l2 : List D} (h1 : st[n]? = some (.lst l)) (h2 : st[k]? = some (.lst l2)) : Ok (mExtendA (.ref n) [.ref k] st) Q ↔ l.length + l2.length ≤ sizeLine ∧ Q .non (st.set n (.lst (l ++ l2))) := by
  simp only [mExtendA]; exact v_extend h1 h2
theorem mapO_strs : ∀ ys : List Str, mapO strOf (ys.map D.str) = some ys
  | [] => rfl
  | y :: ys => by simp only [List.map_cons, mapO, strOf, mapO_strs ys]
theorem v_join {n : Nat} {a : Str} {ys : List Str} (h1 : st[n]? = some (.lst (ys.map D.str))) (hz : (ys.map (·.length)).sum + ys.length * a.length ≤ 16777216) (h : Q (.str (Txt.join a ys)) st) : Ok (mJoin (.str a) [.ref n] st) Q := by
  simp only [mJoin, seqD_lst h1, mapO_strs, hz, if_true]
  exact h
end
end Dn

/-! Dn, R: frames, items by written places, points, pure calls in comprehensions. -/
namespace Dn
open PySem L2
variable [EK]
/-- the store grew; only what is in F may have changed -/
structure Fr (F : Nat → Prop) (st st' : S) : Prop where
  len : st.length ≤ st'.length
  oth : ∀ b, b < st.length → ¬ F b → st'[b]? = st[b]?
abbrev FN : Nat → Prop := fun _ => False
theorem lt_at {st : S} {n : Nat} {o : O} (e : st[n]? = some o) : n < st.length := (List.getElem?_eq_some_iff.mp e).1
section
variable {F F1 F2 : Nat → Prop} {a b c st st' : S} {o o' : O} {n m : Nat}
theorem Fr.refl (st : S) : Fr F st st := ⟨Nat.le_refl _, fun _ _ _ => rfl⟩
theorem Fr.trans (h : Fr F a b) (h' : Fr F b c) : Fr F a c := ⟨Nat.le_trans h.len h'.len, fun x hx n => (h'.oth x (Nat.lt_of_lt_of_le hx h.len) n).trans (h.oth x hx n)⟩
/-- the second step may also change what the first one made -/
theorem Fr.trans' (h : Fr F a b) (h' : Fr F1 b c) (q : ∀ x, F1 x → F x ∨ a.length ≤ x) : Fr F a c := ⟨Nat.le_trans h.len h'.len, fun x hx n => (h'.oth x (Nat.lt_of_lt_of_le hx h.len) fun z => (q x z).elim n (fun l => by omega)).trans (h.oth x hx n)⟩
theorem Fr.weak (h : Fr F a b) (q : ∀ x, F x → F1 x) : Fr F1 a b := ⟨h.len, fun x hx n => h.oth x hx fun z => n (q x z)⟩
theorem Fr.push (st : S) (o : O) : Fr F st (st ++ [o]) := ⟨by simp, fun b hb _ => List.getElem?_append_left hb⟩
theorem Fr.at_ (h : Fr F st st') (e : st[n]? = some o) (hn : ¬ F n) : st'[n]? = some o := (h.oth n (lt_at e) hn).trans e
theorem Fr.at0 (h : Fr FN st st') (e : st[n]? = some o) : st'[n]? = some o := h.at_ e fun z => z
theorem Fr.w0 (h : Fr FN a b) : Fr F a b := h.weak fun _ z => z.elim
theorem Fr.set (h : Fr F a st) (hm : F m ∨ a.length ≤ m) : Fr F a (st.set m o) := ⟨by rw [List.length_set]; exact h.len, fun b hb hn => by
  rw [List.getElem?_set_ne (fun e => by subst e; rcases hm with z | z; exact hn z; omega)]; exact h.oth b hb hn⟩
theorem fr_at (st : S) (o : O) : (st ++ [o])[st.length]? = some o := by rw [List.getElem?_append_right (Nat.le_refl _), Nat.sub_self]; rfl
theorem st_at (h : st[m]? = some o') : (st.set m o)[m]? = some o := List.getElem?_set_self (lt_at h)
theorem st_ot (h : st[n]? = some o') (hn : m ≠ n) : (st.set m o)[n]? = some o' := by rw [List.getElem?_set_ne hn]; exact h
end
theorem sml {n : Nat} (h : n ≤ 10000) : n ≤ sizeLine := Nat.le_trans h (by decide)
theorem sml' {n : Nat} (h : n ≤ 10000) : n < sizeLine := Nat.lt_of_le_of_lt h (by decide)

section
variable {i : Int} {l : List D} {x : Str} {n : Nat} {b : Bool}
theorem nonD_non : isNonD .non = true := rfl
theorem nonD_int : isNonD (.int i) = false := rfl
theorem nonD_tup : isNonD (.tup l) = false := rfl
theorem nonD_str : isNonD (.str x) = false := rfl
theorem nonD_ref : isNonD (.ref n) = false := rfl
theorem nonD_bl : isNonD (.bl b) = false := rfl
end
theorem lk_one {α : Type} {c : Str} {x : α} : List.lookup c [(c, x)] = some x := by simp [List.lookup]
theorem ct1 {c : Str} : ([c] : List Str).contains c = true := by simp
theorem set_same {st : S} {m : Nat} {o : O} (h : st[m]? = some o) : st.set m o = st := by
  apply List.ext_getElem?
  intro i
  by_cases e : m = i
  · subst e; rw [st_at h, h]
  · rw [List.getElem?_set_ne e]
/-- a whole number or None -/
def optD : Option Int → D
  | none => .non
  | some i => .int i
theorem optD_n : optD none = .non := rfl
theorem optD_s {i : Int} : optD (some i) = .int i := rfl
theorem optD_non (x : Option Int) : isNonD (optD x) = x.isNone := by cases x <;> rfl
section
variable {st : S} {i : Int} {b c : Bool} {n : Nat} {l : List D} {x : Str} {Q : D → S → Prop} {g : Bool → Bool}
theorem v_isB : Ok (dIs (.bl b) (.bl c) st) Q ↔ Q (.bl (decide (b = c))) st := Iff.rfl
theorem v_isnotB : Ok (dIsNot (.bl b) (.bl c) st) Q ↔ Q (.bl (!decide (b = c))) st := Iff.rfl
theorem v_eqB : Ok (dEq (.bl b) (.bl c) st) Q ↔ Q (.bl (decide (b = c))) st := Iff.rfl
theorem v_neB : Ok (dNe (.bl b) (.bl c) st) Q ↔ Q (.bl (!decide (b = c))) st := Iff.rfl
theorem v_intB : Ok (dInt [.bl b] st) Q ↔ Q (.int (if b then 1 else 0)) st := Iff.rfl
theorem tru_non : truD st .non = some false := rfl
theorem tru_bl : truD st (.bl b) = some b := rfl
theorem tru_int : truD st (.int i) = some (i != 0) := rfl
theorem tru_tup : truD st (.tup l) = some (!l.isEmpty) := rfl
theorem tru_ref : truD st (.ref n) = match st[n]? with
    | some (.lst l) => some (!l.isEmpty)
    | some (.frz l) => some (!l.isEmpty)
    | _ => none := rfl
theorem ty_non : tyN st .non = some "NoneType" := rfl
theorem ty_bl : tyN st (.bl b) = some "bool" := rfl
theorem ty_int : tyN st (.int i) = some "int" := rfl
theorem ty_str : tyN st (.str x) = some "str" := rfl
theorem ty_tup : tyN st (.tup l) = some "tuple" := rfl
theorem ty_ref : tyN st (.ref n) = match st[n]? with
    | some (.lst _) => some "list"
    | some (.frz _) => some "list"
    | _ => none := rfl
theorem sq_tup : seqD st (.tup l) = some l := rfl
theorem sq_ref : seqD st (.ref n) = match st[n]? with
    | some (.lst l) => some l
    | some (.frz l) => some l
    | _ => none := rfl
theorem wk_tup : wkOf st (.tup l) = some ⟨l, []⟩ := rfl
theorem wk_str : wkOf st (.str x) = some ⟨signsD x, []⟩ := rfl
theorem wk_ref : wkOf st (.ref n) = match seqD st (.ref n) with
    | some l => some ⟨l, [(n, l)]⟩
    | none => none := rfl
theorem sb_bool_bool : subTy "bool" "bool" = some true := by simp [subTy]
theorem sb_bool_int : subTy "bool" "int" = some true := by simp [subTy]
theorem sb_bool_str : subTy "bool" "str" = some false := by simp [subTy]
theorem sb_bool_tuple : subTy "bool" "tuple" = some false := by simp [subTy]
theorem sb_bool_list : subTy "bool" "list" = some false := by simp [subTy]
theorem sb_int_bool : subTy "int" "bool" = some false := by simp [subTy]
theorem sb_int_int : subTy "int" "int" = some true := by simp [subTy]
theorem sb_int_str : subTy "int" "str" = some false := by simp [subTy]
theorem sb_int_tuple : subTy "int" "tuple" = some false := by simp [subTy]
theorem sb_int_list : subTy "int" "list" = some false := by simp [subTy]
theorem sb_str_bool : subTy "str" "bool" = some false := by simp [subTy]
theorem sb_str_int : subTy "str" "int" = some false := by simp [subTy]
theorem sb_str_str : subTy "str" "str" = some true := by simp [subTy]
theorem sb_str_tuple : subTy "str" "tuple" = some false := by simp [subTy]
theorem sb_str_list : subTy "str" "list" = some false := by simp [subTy]
theorem sb_tuple_bool : subTy "tuple" "bool" = some false := by simp [subTy]
theorem sb_tuple_int : subTy "tuple" "int" = some false := by simp [subTy]
theorem sb_tuple_str : subTy "tuple" "str" = some false := by simp [subTy]
theorem sb_tuple_tuple : subTy "tuple" "tuple" = some true := by simp [subTy]
theorem sb_tuple_list : subTy "tuple" "list" = some false := by simp [subTy]
theorem sb_list_bool : subTy "list" "bool" = some false := by simp [subTy]
theorem sb_list_int : subTy "list" "int" = some false := by simp [subTy]
theorem sb_list_str : subTy "list" "str" = some false := by simp [subTy]
theorem sb_list_tuple : subTy "list" "tuple" = some false := by simp [subTy]
theorem sb_list_list : subTy "list" "list" = some true := by simp [subTy]
theorem sb_NoneType_bool : subTy "NoneType" "bool" = some false := by simp [subTy]
theorem sb_NoneType_int : subTy "NoneType" "int" = some false := by simp [subTy]
theorem sb_NoneType_str : subTy "NoneType" "str" = some false := by simp [subTy]
theorem sb_NoneType_tuple : subTy "NoneType" "tuple" = some false := by simp [subTy]
theorem sb_NoneType_list : subTy "NoneType" "list" = some false := by simp [subTy]
end
/-! ### items at written places -/
section
variable {a b c d e f : D} {l : List D}
theorem atI_0 : atI (a :: l) 0 = some a := atI_nat (j := 0) rfl
theorem atI_1 : atI (a :: b :: l) 1 = some b := atI_nat (j := 1) rfl
theorem atI_2 : atI (a :: b :: c :: l) 2 = some c := atI_nat (j := 2) rfl
theorem atI_3 : atI (a :: b :: c :: d :: l) 3 = some d := atI_nat (j := 3) rfl
theorem atI_4 : atI (a :: b :: c :: d :: e :: l) 4 = some e := atI_nat (j := 4) rfl
theorem atI_map {α : Type} {g : α → D} {xs : List α} {i : Nat} {x : α} (h : xs[i]? = some x) : atI (xs.map g) (i : Int) = some (g x) := atI_nat (by rw [List.getElem?_map, h]; rfl)
end
theorem ix_nat {n i : Nat} (h : i < n) : ixN n (i : Int) = some i := by simp [ixN, h]

theorem v_rep {st : S} {Q : D → S → Prop} {n : Nat} {k : Int} {xs : List D} (h : st[n]? = some (.lst xs)) : Ok (dMul (.ref n) (.int k) st) Q ↔ (-(2 ^ 63) ≤ k ∧ k < 2 ^ 63 ∧ xs.length * k.toNat ≤ sizeLine) ∧ Q (.ref st.length) (st ++ [.lst (List.replicate k.toNat xs).flatten]) := by
  simp only [dMul, h]; exact ok_iteB
theorem v_pop {st : S} {Q : D → S → Prop} {n k : Nat} {xs : List D} {d : D} (h : st[n]? = some (.lst xs)) (hk : xs[k]? = some d) (hz : xs.length ≤ 10000) : Ok (mPopAt (.ref n) [.int (k : Nat)] st) Q ↔ Q d (st.set n (.lst (xs.eraseIdx k))) := by
  have hl := (List.getElem?_eq_some_iff.mp hk).1
  have h1 : -(2 ^ 63) ≤ (k : Int) ∧ (k : Int) < 2 ^ 63 := by omega
  have h2 : seqIndex? (k : Int) xs.length = some k := by
    unfold seqIndex?
    simp
    omega
  simp only [mPopAt, h, h1, h2, hk, and_self, if_true]
  exact Iff.rfl
theorem v_insert {st : S} {Q : D → S → Prop} {n : Nat} {i : Int} {l : List D} {y : D} (h : st[n]? = some (.lst l)) : Ok (mInsert (.ref n) [.int i, y] st) Q ↔ (l.length < sizeLine ∧ 0 ≤ i ∧ i < 2 ^ 63) ∧ Q .non (st.set n (.lst (l.take i.toNat ++ [y] ++ l.drop i.toNat))) := by
  simp only [mInsert, h]; exact ok_iteB
theorem ok_isC {c : Str} {m : EM} {en : En} {st : S} {Q : D → S → Prop} : Ok (dIsC c m en st) Q ↔ Ok (m en st) fun d st1 => ∃ n fs, d = .ref n ∧ st1[n]? = some (.ins c fs) ∧ Q (.bl true) st1 := by
  unfold dIsC; rw [ok_bind]
  constructor
  · intro h
    refine h.mono fun d st1 q => ?_
    split at q
    · split at q
      · rename_i n c' fs g
        split at q
        · rename_i e; subst e; exact ⟨_, _, rfl, g, q⟩
        · exact q.elim
      · exact q.elim
    · exact q.elim
  · intro h
    refine h.mono fun d st1 ⟨n, fs, e, g, q⟩ => ?_
    subst e
    simp only [g, if_true]
    exact q
/-- a slice of what is at hand -/
def slD (x : D) (lo hi : Option Int) (st : S) : Out D := match x with
  | .tup l => .ok (.tup (cutD l lo hi)) st
  | .ref n => match st[n]? with
    | some (.lst l) => .ok (.ref st.length) (st ++ [.lst (cutD l lo hi)])
    | some (.frz l) => .ok (.ref st.length) (st ++ [.lst (cutD l lo hi)])
    | _ => .bad
  | .str z => if z.length ≤ sizeLine then .ok (.str (cutS z lo hi)) st else .bad
  | _ => .bad
section
variable {st : S} {en : En} {Q : D → S → Prop} {R : Option Int → S → Prop} {m ma : EM} {ml mh : OM} {lo hi : Option Int} {n : Nat} {l : List D}
theorem ok_nop : Ok (dNoP en st) R ↔ R none st := Iff.rfl
theorem ok_P : Ok (dP m en st) R ↔ Ok (m en st) fun x st1 => ∃ i, x = .int i ∧ R (some i) st1 := by
  unfold dP; rw [ok_bind]
  constructor
  · intro h
    refine h.mono fun d st1 q => ?_
    cases d <;> first | exact ⟨_, rfl, q⟩ | exact q.elim
  · intro h
    refine h.mono fun d st1 ⟨k, e, q⟩ => ?_
    subst e; exact q
theorem ok_sl : Ok (dSl ma ml mh en st) Q ↔ Ok (ma en st) fun x st1 => Ok (ml en st1) fun lo st2 => Ok (mh en st2) fun hi st3 => Ok (slD x lo hi st3) Q := by
  unfold dSl; simp only [ok_bind]; exact Iff.rfl
theorem v_slT : Ok (slD (.tup l) lo hi st) Q ↔ Q (.tup (cutD l lo hi)) st := Iff.rfl
theorem v_slR (h : st[n]? = some (.lst l)) : Ok (slD (.ref n) lo hi st) Q ↔ Q (.ref st.length) (st ++ [.lst (cutD l lo hi)]) := by
  simp only [slD, h]; exact Iff.rfl
end
theorem take_min' {α : Type} {l : List α} {m : Nat} : l.take (min m l.length) = l.take m := by
  by_cases h : m ≤ l.length
  · rw [Nat.min_eq_left h]
  · rw [Nat.min_eq_right (by omega), List.take_length, List.take_of_length_le (by omega)]
theorem cut_to {l : List D} {m : Nat} : cutD l none (some (m : Int)) = l.take m := by
  unfold cutD
  rw [HT.sIx_none, HT.sIx_nat, Nat.sub_zero, List.drop_zero, take_min']
theorem cut_from {l : List D} {m : Nat} : cutD l (some (m : Int)) none = l.drop m := by
  unfold cutD
  rw [HT.sIx_none, HT.sIx_nat]
  by_cases h : m ≤ l.length
  · rw [Nat.min_eq_left h, List.take_of_length_le (by simp)]
  · rw [Nat.min_eq_right (by omega), Nat.sub_self, List.take_zero, List.drop_of_length_le (by omega)]
/-! ### a comprehension that changes nothing: what it makes -/
/-- the test and the item of a comprehension, item by item -/
theorem ok_lcP {w : Wk} {b : BM} {t : TM} {m : EM} {en : En} {st : S} {R : List D → S → Prop} (f : D → Option D) (hw : WkOk w st) (hz : w.items.length < sizeLine)
    (h : ∀ (i : Nat) d, w.items[i]? = some d → ∃ en1, b d en = some en1 ∧ Ok (t en1 st) fun k st1 => st1 = st ∧ if k = true then Ok (m en1 st) fun y st2 => st2 = st ∧ f d = some y else f d = none)
    (hR : R (w.items.filterMap f) st) : Ok (lcD w b t m en w.items [] st) R := by
  refine ok_lcD0 (fun i acc st' => st' = st ∧ acc = (w.items.take i).filterMap f ∧ acc.length ≤ i) ⟨rfl, by simp, Nat.le_refl _⟩ (fun i acc st' ⟨e, _⟩ => by subst e; exact hw) ?_ ?_
  · rintro i d acc st' hd ⟨rfl, e, l⟩
    obtain ⟨en1, e1, h1⟩ := h i d hd
    refine ⟨en1, e1, h1.mono ?_⟩
    rintro k _ ⟨rfl, h2⟩
    have hi := (List.getElem?_eq_some_iff.mp hd).1
    have ht : w.items.take (i + 1) = w.items.take i ++ [d] := by rw [List.take_add_one, hd]; rfl
    cases k with
    | true =>
      simp only [if_true] at h2 ⊢
      refine h2.mono ?_
      rintro y _ ⟨rfl, e2⟩
      exact ⟨by omega, rfl, by rw [ht, List.filterMap_append, e]; simp [e2], by simp; omega⟩
    | false =>
      simp only [Bool.false_eq_true, if_false] at h2 ⊢
      exact ⟨trivial, by rw [ht, List.filterMap_append, e]; simp [h2], by omega⟩
  · rintro acc st' ⟨rfl, e, _⟩
    rw [List.take_length] at e
    rw [e]; exact hR
/-- .. told by a list of what each item gives -/
theorem ok_lcX {w : Wk} {b : BM} {t : TM} {m : EM} {en : En} {st : S} {R : List D → S → Prop} (l : List (Option D)) (hl : l.length = w.items.length) (hw : WkOk w st) (hz : w.items.length < sizeLine)
    (h : ∀ (i : Nat) d, w.items[i]? = some d → ∃ en1, b d en = some en1 ∧ Ok (t en1 st) fun k st1 => st1 = st ∧ if k = true then Ok (m en1 st) fun y st2 => st2 = st ∧ l[i]? = some (some y) else l[i]? = some none)
    (hR : R (l.filterMap id) st) : Ok (lcD w b t m en w.items [] st) R := by
  refine ok_lcD0 (fun i acc st' => st' = st ∧ acc = (l.take i).filterMap id ∧ acc.length ≤ i) ⟨rfl, by simp, Nat.le_refl _⟩ (fun i acc st' ⟨e, _⟩ => by subst e; exact hw) ?_ ?_
  · rintro i d acc st' hd ⟨rfl, e, le⟩
    obtain ⟨en1, e1, h1⟩ := h i d hd
    refine ⟨en1, e1, h1.mono ?_⟩
    rintro k _ ⟨rfl, h2⟩
    have hi := (List.getElem?_eq_some_iff.mp hd).1
    cases k with
    | true =>
      simp only [if_true] at h2 ⊢
      refine h2.mono ?_
      rintro y _ ⟨rfl, e2⟩
      have ht : l.take (i + 1) = l.take i ++ [some y] := by rw [List.take_add_one, e2]; rfl
      exact ⟨by omega, rfl, by rw [ht, List.filterMap_append, e]; rfl, by simp; omega⟩
    | false =>
      simp only [Bool.false_eq_true, if_false] at h2 ⊢
      have ht : l.take (i + 1) = l.take i ++ [none] := by rw [List.take_add_one, h2]; rfl
      exact ⟨trivial, by rw [ht, List.filterMap_append, e]; simp, by omega⟩
  · rintro acc st' ⟨rfl, e, _⟩
    rw [← hl, List.take_length] at e
    rw [e]; exact hR
theorem ok_lcM {w : Wk} {b : BM} {m : EM} {en : En} {st : S} {R : List D → S → Prop} (f : D → D) (hw : WkOk w st) (hz : w.items.length < sizeLine)
    (h : ∀ (i : Nat) d, w.items[i]? = some d → ∃ en1, b d en = some en1 ∧ Ok (m en1 st) fun y st2 => st2 = st ∧ f d = y)
    (hR : R (w.items.map f) st) : Ok (lcD w b cYes m en w.items [] st) R := by
  refine ok_lcP (fun d => some (f d)) hw hz (fun i d hd => ?_) (by rw [List.filterMap_eq_map']; exact hR)
  obtain ⟨en1, e1, h1⟩ := h i d hd
  refine ⟨en1, e1, ?_⟩
  rw [show cYes en1 st = .ok true st from rfl, ok_ok]
  exact ⟨rfl, by simp only [if_true]; exact h1.mono fun y st2 ⟨e, q⟩ => ⟨e, by rw [q]⟩⟩
theorem wkn {l : List D} {st : S} : WkOk ⟨l, []⟩ st := fun p hp => nomatch hp
theorem wk1 {st : S} {n : Nat} {l : List D} (h : st[n]? = some (.lst l)) {its : List D} : WkOk ⟨its, [(n, l)]⟩ st := fun p hp => by
  rw [List.mem_singleton] at hp; subst hp
  exact seqD_lst h
theorem rg_get {lo hi : Int} {i : Nat} {d : D} (h : (rgD lo hi)[i]? = some d) : i < (hi - lo).toNat ∧ d = .int (lo + (i : Int)) := by
  unfold rgD at h
  rw [List.getElem?_map] at h
  cases e : (List.range (hi - lo).toNat)[i]? with
  | none => rw [e] at h; cases h
  | some x =>
    rw [e] at h
    obtain ⟨h1, h2⟩ := List.getElem?_eq_some_iff.mp e
    rw [List.length_range] at h1
    rw [List.getElem_range] at h2
    subst h2
    exact ⟨h1, (Option.some.inj h).symm⟩
theorem rg_len {lo hi : Int} : (rgD lo hi).length = (hi - lo).toNat := by unfold rgD; rw [List.length_map, List.length_range]
theorem rg_map {n : Nat} {f : D → D} {g : Nat → D} (h : ∀ i : Nat, i < n → f (.int (i : Int)) = g i) : (rgD 0 (n : Int)).map f = (List.range n).map g := by
  unfold rgD
  simp only [Int.sub_zero, Int.toNat_natCast, List.map_map]
  refine List.map_congr_left fun i hi => ?_
  simp only [Function.comp, Int.zero_add]
  exact h i (List.mem_range.mp hi)
/-- a loop over range(n), as natural numbers -/
theorem ok_forN {n : Nat} {i : Nat} {body : SM} {V : Fl × En → S → Prop} {en : En} {st : S} (I : Nat → En → S → Prop) (h0 : I 0 en st)
    (hs : ∀ (k : Nat) en st, k < n → I k en st → Ok (body (en.set i (some (.int (k : Int)))) st) (Tn (I (k + 1)) V)) (hd : ∀ en st, I n en st → V (.nx, en) st) : Ok (loopD ⟨rgD 0 (n : Int), []⟩ (bName i) body (rgD 0 (n : Int)) en st) V := by
  refine ok_loop0 (w := ⟨rgD 0 (n : Int), []⟩) I h0 (fun _ _ _ _ => wkn) (fun k d en st hd h => ?_) (fun en st h => hd en st ?_)
  · obtain ⟨hk, rfl⟩ := rg_get hd
    exact ⟨_, rfl, by rw [Int.zero_add]; exact hs k en st (by omega) h⟩
  · have e : (rgD 0 (n : Int)).length = n := by rw [rg_len]; omega
    rw [← e]; exact h
theorem nd_inj {α : Type} : ∀ {l : List α} {i j : Nat} {x : α}, l.Nodup → l[i]? = some x → l[j]? = some x → i = j
  | [], _, _, _, _, h, _ => by simp at h
  | y :: l, 0, 0, _, _, _, _ => rfl
  | y :: l, 0, j + 1, x, n, h, h' => by
    simp at h h'; subst h
    exact absurd (List.mem_of_getElem? h') (List.nodup_cons.mp n).1
  | y :: l, i + 1, 0, x, n, h, h' => by
    simp at h h'; subst h'
    exact absurd (List.mem_of_getElem? h) (List.nodup_cons.mp n).1
  | y :: l, i + 1, j + 1, x, n, h, h' => by
    simp at h h'
    rw [nd_inj (List.nodup_cons.mp n).2 h h']
theorem perm_erase {α : Type} : ∀ {l : List α} {i : Nat} (h : i < l.length), (l[i] :: l.eraseIdx i).Perm l
  | x :: l, 0, _ => .refl _
  | x :: l, i + 1, h => by
    have := perm_erase (l := l) (i := i) (by simpa using h)
    exact (List.Perm.swap _ _ _).trans (this.cons x)
theorem mem_split {α : Type} {l : List α} {i : Nat} {x : α} (h : l[i]? = some x) : l.take (i + 1) = l.take i ++ [x] := by rw [List.take_add_one, h]; rfl

/-! ### pure data as == sees it by its form -/
def Pn (d : D) : Prop := pureD 4 d = true ∧ nrm d = d
theorem Pn.eq {a b : D} (h : Pn a) (h' : Pn b) : (PyData.eqv (toP a) (toP b) = true) ↔ a = b := by
  rw [eqv_pure 4 4 a b h.1 h'.1, h.2, h'.2]
theorem Pn.eqb {a b : D} (h : Pn a) (h' : Pn b) : PyData.eqv (toP a) (toP b) = @decide (a = b) (Classical.propDecidable _) := by
  rw [Bool.eq_iff_iff, h.eq h', @decide_eq_true_iff _ (Classical.propDecidable _)]
theorem firstAt_of {l : List D} {i : Nat} {d : D} (hd : Pn d) (hl : ∀ x ∈ l, Pn x) (nd : l.Nodup) (h : l[i]? = some d) : firstAt (toP d) (l.map toP) = some i := by
  induction l generalizing i with
  | nil => simp at h
  | cons x l ih =>
    have hx := hl x List.mem_cons_self
    obtain ⟨n1, n2⟩ := List.nodup_cons.mp nd
    simp only [List.map_cons, firstAt]
    cases i with
    | zero =>
      simp at h; subst h
      rw [if_pos ((hx.eq hx).mpr rfl)]
    | succ i =>
      simp at h
      rw [if_neg (fun z => n1 (by rw [(hx.eq hd).mp z]; exact List.mem_of_getElem? h)), ih (fun y hy => hl y (List.mem_cons_of_mem _ hy)) n2 h]
      rfl
section
variable {st : S} {Q : D → S → Prop} {l : List D} {n i : Nat} {d : D}
theorem v_index (h : st[n]? = some (.lst l)) (hd : Pn d) (hl : ∀ x ∈ l, Pn x) (nd : l.Nodup) (hi : l[i]? = some d) : Ok (mIndex (.ref n) [d] st) Q ↔ Q (.int (i : Nat)) st := by
  unfold mIndex
  have e2 : mapO (tre st 11) l = some (l.map toP) := mapO_pure fun x hx => tre_pure 4 11 x (hl x hx).1 (by decide)
  simp only [h, e2, tre_pure 4 12 d hd.1 (by decide), shaped_pure hd.1 (by decide), shaped_list (fun x hx => (hl x hx).1) (by decide), Bool.and_self, if_true, firstAt_of hd hl nd hi]
  exact Iff.rfl
theorem any_eq {l : List D} {d : D} (hd : Pn d) (hl : ∀ x ∈ l, Pn x) : ((l.map toP).any fun z => PyData.eqv z (toP d)) = @decide (d ∈ l) (Classical.propDecidable _) := by
  rw [Bool.eq_iff_iff, List.any_eq_true, @decide_eq_true_iff _ (Classical.propDecidable _)]
  constructor
  · rintro ⟨z, hz, e⟩
    obtain ⟨x, hx, rfl⟩ := List.mem_map.mp hz
    rw [(hl x hx).eq hd] at e
    rw [← e]; exact hx
  · intro h
    exact ⟨toP d, List.mem_map.mpr ⟨d, h, rfl⟩, (hd.eq hd).mpr rfl⟩
/-- a tuple in a list of tuples -/
theorem v_inL {g : Bool → Bool} {k : List D} (h : st[n]? = some (.lst l)) (hd : Pn (.tup k)) (hl : ∀ x ∈ l, Pn x) : Ok (dIn2 g (.tup k) (.ref n) st) Q ↔ Q (.bl (g (@decide (.tup k ∈ l) (Classical.propDecidable _)))) st := by
  unfold dIn2
  have e2 : mapO (tre st 11) l = some (l.map toP) := mapO_pure fun x hx => tre_pure 4 11 x (hl x hx).1 (by decide)
  simp only [h, flatD, Bool.false_and, Bool.false_eq_true, if_false, e2, tre_pure 4 12 _ hd.1 (by decide), shaped_pure hd.1 (by decide), shaped_list (fun x hx => (hl x hx).1) (by decide), Bool.and_self, if_true, any_eq hd hl]
  exact Iff.rfl
/-- a list of lists of pure data, as a tree -/
theorem tre_ll {g : Nat} {gs : List Nat} {ls : Nat → List D} (hg : st[g]? = some (.lst (gs.map D.ref))) (h : ∀ (i x : Nat), gs[i]? = some x → st[x]? = some (.lst (ls i))) (hp : ∀ i, i < gs.length → ∀ d ∈ ls i, pureD 4 d = true) : tre st 12 (.ref g) = some (.list ((List.range gs.length).map fun i => .list ((ls i).map toP))) := by
  have key : ∀ (gs : List Nat) (ls : Nat → List D), (∀ (i x : Nat), gs[i]? = some x → st[x]? = some (.lst (ls i))) → (∀ i, i < gs.length → ∀ d ∈ ls i, pureD 4 d = true) → mapO (tre st 11) (gs.map D.ref) = some ((List.range gs.length).map fun i => .list ((ls i).map toP)) := by
    intro gs
    induction gs with
    | nil => intros; rfl
    | cons x gs ih =>
      intro ls h hp
      have h0 := h 0 x rfl
      have e0 : tre st 11 (.ref x) = some (.list ((ls 0).map toP)) := by
        simp only [tre, h0]; rw [mapO_pure fun d hd => tre_pure 4 10 d (hp 0 (by simp) d hd) (by decide)]; rfl
      have e1 := ih (fun i => ls (i + 1)) (fun i y hy => h (i + 1) y (by simpa using hy)) (fun i hi => hp (i + 1) (by simp; omega))
      simp only [List.map_cons, mapO, e0, e1, List.length_cons, List.range_succ_eq_map, List.map_map]
      rfl
  show (match st[g]? with
    | some (.lst l) => (mapO (tre st 11) l).map PyData.list
    | some (.frz l) => (mapO (tre st 11) l).map PyData.list
    | _ => none) = _
  rw [hg]
  simp only [key gs ls h hp, Option.map_some]
theorem canLay_ll {n : Nat} {ls : Nat → List D} (hp : ∀ i, i < n → ∀ d ∈ ls i, pureD 4 d = true) : PyData.canLay0 (.list ((List.range n).map fun i => .list ((ls i).map toP))) = true ∧ SeqAt.shaped (.list ((List.range n).map fun i => .list ((ls i).map toP))) = true := by
  have h1 : ∀ p ∈ (List.range n).map (fun i => PyData.list ((ls i).map toP)), PyData.canLay0 p = true ∧ PyData.depth p ≤ 6 := fun p hp' => by
    obtain ⟨i, hi, rfl⟩ := List.mem_map.mp hp'
    have hi := List.mem_range.mp hi
    have h2 : ∀ p ∈ (ls i).map toP, PyData.canLay0 p = true ∧ PyData.depth p ≤ 4 := fun p hp2 => by
      obtain ⟨d, hd, rfl⟩ := List.mem_map.mp hp2
      exact lay_pure 4 d (hp i hi d hd)
    simp only [PyData.canLay0, PyData.depth]
    exact ⟨canLayAll_of fun p hp => (h2 p hp).1, by have := depthAll_of fun p hp => (h2 p hp).2; omega⟩
  have a1 := canLayAll_of fun p hp => (h1 p hp).1
  have a2 := depthAll_of fun p hp => (h1 p hp).2
  unfold SeqAt.shaped
  simp only [PyData.canLay0, PyData.depth, a1, Bool.true_and, true_and]
  exact decide_eq_true (by omega)
/-- == of two lists of lists that hold the same -/
theorem v_eqLL {g : Bool → Bool} {m : Nat} {gs hs : List Nat} {ls : Nat → List D} (h1 : st[n]? = some (.lst (gs.map D.ref))) (h2 : st[m]? = some (.lst (hs.map D.ref))) (hl : gs.length = hs.length) (k1 : ∀ (i x : Nat), gs[i]? = some x → st[x]? = some (.lst (ls i))) (k2 : ∀ (i x : Nat), hs[i]? = some x → st[x]? = some (.lst (ls i)))
    (hp : ∀ i, i < gs.length → ∀ d ∈ ls i, pureD 4 d = true) : Ok (dEq2 g (.ref n) (.ref m) st) Q ↔ Q (.bl (g true)) st := by
  have e1 := tre_ll h1 k1 hp
  have e2 := tre_ll h2 k2 (by rw [← hl]; exact hp)
  obtain ⟨c1, c2⟩ := canLay_ll hp
  unfold dEq2
  rw [← hl] at e2
  simp only [e1, e2, c2, Bool.and_self, if_true]
  rw [PySem.SeqAt.eqv_refl _ c1]
  exact Iff.rfl
/-- == of two lists of pure data as they stand -/
theorem v_eqLn {g : Bool → Bool} {k : List D} {m : Nat} (h1 : st[n]? = some (.lst l)) (h2 : st[m]? = some (.lst k)) (hl : ∀ x ∈ l, Pn x) (hk : ∀ x ∈ k, Pn x) : Ok (dEq2 g (.ref n) (.ref m) st) Q ↔ Q (.bl (g (@decide (l = k) (Classical.propDecidable _)))) st := by
  unfold dEq2
  have e1 : tre st 12 (.ref n) = some (.list (l.map toP)) := by simp only [tre, h1]; rw [mapO_pure fun d hd => tre_pure 4 11 d (hl d hd).1 (by decide)]; rfl
  have e2 : tre st 12 (.ref m) = some (.list (k.map toP)) := by simp only [tre, h2]; rw [mapO_pure fun d hd => tre_pure 4 11 d (hk d hd).1 (by decide)]; rfl
  have nl : ∀ l : List D, (∀ x ∈ l, Pn x) → l.map nrm = l := fun l h => by
    induction l with
    | nil => rfl
    | cons x l ih => rw [List.map_cons, (h x List.mem_cons_self).2, ih fun y hy => h y (List.mem_cons_of_mem _ hy)]
  simp only [e1, e2, shaped_list (fun x hx => (hl x hx).1) (by decide), shaped_list (fun x hx => (hk x hx).1) (by decide), Bool.and_self, if_true]
  have : PyData.eqv (.list (l.map toP)) (.list (k.map toP)) = @decide (l = k) (Classical.propDecidable _) := by
    rw [Bool.eq_iff_iff, eqv_list (n := 4) (k := 4) (fun x hx => (hl x hx).1) (fun x hx => (hk x hx).1), nl l hl, nl k hk]
    exact (@decide_eq_true_iff _ (Classical.propDecidable _)).symm
  rw [this]
  exact Iff.rfl
end
end Dn

/-! Dn, U: reasoning about T; texts. -/
namespace Dn
open PySem L2 TL
variable [EK]
section
variable {en : En} {st : S} {Q : D → S → Prop} {V : Fl × En → S → Prop} {mo mv : EM} {mr : AM} {cs : List Str} {f : Str} {g : Int → Int → Int} {np : Nat} {dv : List D} {F : List D → S → Out D}
theorem ok_fldI : Ok (sFldI cs f g mo mv en st) V ↔ Ok (mo en st) fun o st1 => ∃ n c fs i, o = .ref n ∧ st1[n]? = some (.ins c fs) ∧ fs.lookup f = some (.int i) ∧ cs.contains c = true ∧ Ok (mv en st1) fun d st2 => ∃ j fs', d = .int j ∧ st2[n]? = some (.ins c fs') ∧ fs'.length < 1000 ∧ V (.nx, en) (st2.set n (.ins c (putD f (.int (g i j)) fs'))) := by
  unfold sFldI; simp only [ok_bind]
  constructor
  · intro h
    refine h.mono fun o st1 q => ?_
    split at q
    · rename_i n
      split at q
      · rename_i c fs e1
        split at q
        · rename_i i e2
          split at q
          · rename_i hc
            rw [ok_bind] at q
            refine ⟨n, c, fs, i, rfl, e1, e2, hc, q.mono fun d st2 q => ?_⟩
            split at q
            · rename_i j
              split at q
              · rename_i c' fs' e3
                rw [ok_iteB] at q
                obtain ⟨⟨rfl, hl⟩, q⟩ := q
                exact ⟨j, fs', rfl, e3, hl, q⟩
              · exact q.elim
            · exact q.elim
          · exact q.elim
        · exact q.elim
      · exact q.elim
    · exact q.elim
  · intro h
    refine h.mono fun o st1 ⟨n, c, fs, i, e, e1, e2, hc, q⟩ => ?_
    subst e
    simp only [e1, e2, hc, if_true, ok_bind]
    refine q.mono fun d st2 ⟨j, fs', e, e3, hl, q⟩ => ?_
    subst e
    simp only [e3, hl, and_self, if_true]
    exact q
theorem ok_callD : Ok (dCallD np dv F mr en st) Q ↔ Ok (mr en st) fun ds st1 => ds.length + dv.length = np ∧ Ok (F (ds ++ dv) st1) Q := by
  unfold dCallD; rw [ok_bind]; simp only [ok_iteB, ok_atEn]
theorem ok_sbad : Ok (sBad en st) V ↔ False := Iff.rfl
theorem v_split {a b : Str} : Ok (mSplit (.str a) [.str b] st) Q ↔ ((b.length == 0) = false ∧ a.length + 2 ≤ sizeLine) ∧ Q (.ref st.length) (st ++ [.lst ((Txt.split a b).map D.str)]) := by unfold mSplit; exact ok_iteB
theorem v_starts {a b : Str} : Ok (mStarts (.str a) [.str b] st) Q ↔ Q (.bl (Txt.startswith a b)) st := Iff.rfl
theorem v_parti {a b : Str} : Ok (mParti (.str a) [.str b] st) Q ↔ ((b.length == 0) = false ∧ a.length ≤ sizeLine) ∧ Q (.tup [.str (Txt.partition a b).1, .str (Txt.partition a b).2.1, .str (Txt.partition a b).2.2]) st := by unfold mParti; exact ok_iteB
theorem v_slS {z : Str} {lo hi : Option Int} : Ok (slD (.str z) lo hi st) Q ↔ z.length ≤ sizeLine ∧ Q (.str (cutS z lo hi)) st := by unfold slD; exact ok_iteB
theorem v_intS {z : Str} {n : Int} (h : PySem.intText? z = some n) : Ok (dInt [.str z] st) Q ↔ z.length ≤ 640 ∧ Q (.int n) st := by unfold dInt; simp only [h]; exact ok_iteB
theorem v_inC {h : Bool → Bool} {c : Nat} {y : Str} : Ok (dIn2 h (.str ⟨#[c]⟩) (.str y) st) Q ↔ Q (.bl (h (decide (c ∈ y.cps.toList)))) st := by
  rw [v_inS, ← PySem.StrLaws.found_one y c]
theorem v_ixS {z : Str} {i : Int} : Ok (dIx (.str z) (.int i) st) Q ↔ z.length ≤ sizeLine ∧ ∃ c, atI z.cps.toList i = some c ∧ Q (.str ⟨#[c]⟩) st := by
  unfold dIx
  rw [ok_iteB]
  refine and_congr Iff.rfl ?_
  cases atI z.cps.toList i with
  | none => exact ⟨fun h => h.elim, fun ⟨c, h, _⟩ => nomatch h⟩
  | some c => exact ⟨fun h => ⟨c, rfl, h⟩, fun ⟨c', h, q⟩ => by cases h; exact q⟩
end
theorem cutS_from {z : Str} {m : Nat} : (cutS z (some (m : Int)) none).cps.toList = z.cps.toList.drop m := by
  show (((z.cps.toList.drop (HT.sIx z.length 0 (some (m : Int)))).take (HT.sIx z.length z.length none - HT.sIx z.length 0 (some (m : Int)))).toArray).toList = _
  rw [HT.sIx_none, HT.sIx_nat]
  have hl : z.length = z.cps.toList.length := by rw [Array.length_toList]; rfl
  simp only [List.toList_toArray]
  by_cases h : m ≤ z.length
  · rw [Nat.min_eq_left h, List.take_of_length_le (by rw [List.length_drop]; omega)]
  · rw [Nat.min_eq_right (by omega), Nat.sub_self, List.take_zero, List.drop_of_length_le (by omega)]
/-- the text of an int: its signs -/
theorem tl_nat (n : Nat) : tl (Str.ofString (toString ((n : Nat) : Int))) = numL n := tl_num n
theorem tl_neg {n : Nat} (h : 0 < n) : tl (Str.ofString (toString (-((n : Nat) : Int)))) = 45 :: numL n := by
  obtain ⟨m, rfl⟩ : ∃ m, n = m + 1 := ⟨n - 1, by omega⟩
  rw [tl_ofString]
  have e : toString (-((m + 1 : Nat) : Int)) = "-" ++ toString (m + 1) := rfl
  rw [e, String.toList_append, List.map_append]
  have e2 : (toString (m + 1)).toList.map Char.toNat = numL (m + 1) := by rw [← tl_num, tl_ofString]; rfl
  rw [e2]; rfl
theorem starts_one {x : Str} {c : Nat} : Txt.startswith x ⟨#[c]⟩ = true ↔ (tl x)[0]? = some c := by
  unfold Txt.startswith
  rw [Bool.and_eq_true, decide_eq_true_eq]
  exact PySem.StrLaws.subAt_one x c 0
theorem minus_is : Str.ofString "-" = ⟨#[45]⟩ := by decide +kernel
/-- no zero leads -/
theorem numL_lead : ∀ {n : Nat}, 0 < n → ∀ r, numL n ≠ 48 :: r := by
  intro n
  induction n using Nat.strongRecOn with
  | _ n ih =>
    intro h0 r e
    by_cases h : n < 10
    · rw [numL_lt h] at e
      simp only [List.cons.injEq] at e
      omega
    · rw [numL_step (by omega)] at e
      cases e2 : numL (n / 10) with
      | nil => exact numL_ne _ e2
      | cons c l =>
        rw [e2] at e
        simp only [List.cons_append, List.cons.injEq] at e
        exact ih (n / 10) (by omega) (by omega) l (by rw [e2, e.1])
end Dn

/-! Dn, Z: reasoning about sorted(list, key=def). -/
namespace Dn
open PySem L2
variable [EK]
theorem ok_sortK {F : List D → S → Out D} {m : AM} {en : En} {st : S} {Q : D → S → Prop} : Ok (dSortK F m en st) Q ↔ Ok (m en st) fun ds st1 => ∃ n l ks, ds = [.ref n] ∧ st1[n]? = some (.lst l) ∧ mapO (keyOf F st1) l = some ks ∧ Q (.ref st1.length) (st1 ++ [.lst (sortBy l ks)]) := by
  unfold dSortK
  rw [ok_bind]
  constructor
  · intro h
    refine h.mono fun ds st1 h => ?_
    have hd : ∃ n, ds = [.ref n] := by
      cases ds with
      | nil => exact h.elim
      | cons d ds =>
        cases ds with
        | nil =>
          cases d with
          | ref n => exact ⟨n, rfl⟩
          | _ => exact h.elim
        | cons _ _ => cases d <;> exact h.elim
    obtain ⟨n, rfl⟩ := hd
    cases e1 : st1[n]? with
    | none => simp only [e1] at h; exact h.elim
    | some o =>
      cases o with
      | lst l =>
        simp only [e1] at h
        cases e2 : mapO (keyOf F st1) l with
        | none => simp only [e2] at h; exact h.elim
        | some ks => simp only [e2] at h; exact ⟨n, l, ks, rfl, e1, e2, h⟩
      | frz l => simp only [e1] at h; exact h.elim
      | ins c fs => simp only [e1] at h; exact h.elim
      | set l => simp only [e1] at h; exact h.elim
      | xcp c l => simp only [e1] at h; exact h.elim
      | rng c l => simp only [e1] at h; exact h.elim
      | dT l => simp only [e1] at h; exact h.elim
      | dK l => simp only [e1] at h; exact h.elim
  · intro h
    refine h.mono fun ds st1 ⟨n, l, ks, e, e1, e2, q⟩ => ?_
    subst e
    simp only [e1, e2]
    exact q
/-- the order of items by their keys -/
def leK (g : D → Int × Int) (a b : D) : Bool := decide ((g a).1 < (g b).1 ∨ ((g a).1 = (g b).1 ∧ (g a).2 ≤ (g b).2))
theorem sortBy_map {l : List D} {g : D → Int × Int} : sortBy l (l.map g) = l.mergeSort (leK g) := by
  unfold sortBy
  have h := List.map_mergeSort (r := ordK (l.map g)) (s := leK g) (f := fun i => l.getD i .non) (l := List.range l.length) fun a ha b hb => by
    have ha := List.mem_range.mp ha
    have hb := List.mem_range.mp hb
    have e : ∀ i, i < l.length → (l.map g).getD i (0, 0) = g (l.getD i .non) := fun i hi => by
      rw [List.getD_eq_getElem?_getD, List.getD_eq_getElem?_getD, List.getElem?_map, List.getElem?_eq_getElem hi]; rfl
    unfold ordK leK
    rw [e a ha, e b hb]
  rw [h]
  congr 1
  apply List.ext_getElem?
  intro i
  rw [List.getElem?_map]
  by_cases hi : i < l.length
  · rw [List.getElem?_range hi, List.getElem?_eq_getElem hi]
    show some (l.getD i .non) = _
    rw [List.getD_eq_getElem?_getD, List.getElem?_eq_getElem hi]; rfl
  · rw [List.getElem?_eq_none (by rw [List.length_range]; omega), List.getElem?_eq_none (by omega)]; rfl
/-- sorted by keys, where the def says g of each item and leaves the store -/
theorem v_sortK {F : List D → S → Out D} {m : AM} {en : En} {st st1 : S} {Q : D → S → Prop} {n : Nat} {l : List D} (g : D → Int × Int) (h1 : st1[n]? = some (.lst l)) (hk : ∀ d ∈ l, F [d] st1 = .ok (.tup [.int (g d).1, .int (g d).2]) st1) (hm : m en st = .ok [.ref n] st1)
    (q : Q (.ref st1.length) (st1 ++ [.lst (l.mergeSort (leK g))])) : Ok (dSortK F m en st) Q := by
  rw [ok_sortK, hm, ok_ok]
  exact ⟨n, l, l.map g, rfl, h1, mapO_map fun d hd => keyOf_of (hk d hd), by rw [sortBy_map]; exact q⟩
end Dn

/-! Dn, M: reasoning about chains. -/
namespace Dn
open PySem L2
variable [EK]
theorem ok_ch {f g : D → D → S → Out D} {ma mb mc : EM} {en : En} {st : S} {Q : D → S → Prop} : Ok (dCh f g ma mb mc en st) Q ↔ Ok (ma en st) fun x st1 => Ok (mb en st1) fun y st2 => Ok (f x y st2) fun z st3 => ∃ k, z = .bl k ∧ if k = true then Ok (mc en st3) fun u st4 => Ok (g y u st4) Q else Q (.bl false) st3 := by
  unfold dCh
  simp only [ok_bind]
  constructor
  · intro h
    refine h.mono fun x st1 h => h.mono fun y st2 h => h.mono fun z st3 h => ?_
    cases z with
    | bl k =>
      cases k with
      | true => exact ⟨true, rfl, by simpa only [ok_bind, if_true] using h⟩
      | false => exact ⟨false, rfl, h⟩
    | _ => exact h.elim
  · intro h
    refine h.mono fun x st1 h => h.mono fun y st2 h => h.mono fun z st3 h => ?_
    obtain ⟨k, rfl, h⟩ := h
    cases k with
    | true => simpa only [ok_bind, if_true] using h
    | false => exact h
end Dn

/-! Dn, I: reasoning about dicts. -/
namespace Dn
open PySem L2
variable [EK]
theorem ok_newT {en : En} {st : S} {Q : D → S → Prop} : Ok (dNewT en st) Q ↔ Q (.ref st.length) (st ++ [.dT []]) := Iff.rfl
theorem ok_newK {en : En} {st : S} {Q : D → S → Prop} : Ok (dNewK en st) Q ↔ Q (.ref st.length) (st ++ [.dK []]) := Iff.rfl
theorem ok_p0 {en : En} {st : S} {Q : List (D × D) → S → Prop} : Ok (dP0 en st) Q ↔ Q [] st := Iff.rfl
theorem ok_pc {mk mv : EM} {mr : PM} {en : En} {st : S} {Q : List (D × D) → S → Prop} : Ok (dPc mk mv mr en st) Q ↔ Ok (mk en st) fun d st1 => Ok (mv en st1) fun e st2 => Ok (mr en st2) fun ps st3 => Q ((d, e) :: ps) st3 := by
  unfold dPc; simp only [ok_bind, ok_ok]
theorem ok_dispT {m : PM} {en : En} {st : S} {Q : D → S → Prop} : Ok (dDispT m en st) Q ↔ Ok (m en st) fun ps st1 => ∃ l, mapO keyTI ps = some l ∧ l.length ≤ 15 ∧ Q (.ref st1.length) (st1 ++ [.dT (mgQ [] l)]) := by
  unfold dDispT; simp only [ok_bind]
  constructor
  · intro h
    refine h.mono fun ps st1 h => ?_
    cases e : mapO keyTI ps with
    | none => simp only [e] at h; exact h.elim
    | some l =>
      by_cases hl : l.length ≤ 15
      · simp only [e, hl, if_true] at h; exact ⟨l, rfl, hl, h⟩
      · simp only [e, hl, if_false] at h; exact h.elim
  · intro h
    refine h.mono fun ps st1 ⟨l, e, hl, h⟩ => ?_
    simp only [e, hl, if_true]; exact h
theorem v_getT {n : Nat} {y : D} {st : S} {Q : D → S → Prop} : Ok (dGetD (.ref n) y st) Q ↔ (∃ l k v, st[n]? = some (.dT l) ∧ tupI y = some k ∧ getQ l k = some v ∧ Q v st) ∨ ∃ l k v, st[n]? = some (.dK l) ∧ keyI y = some k ∧ getQ l k = some v ∧ Q v st := by
  unfold dGetD
  constructor
  · intro h
    cases gl : st[n]? with
    | none => simp only [gl] at h; exact h.elim
    | some o =>
      cases o with
      | dT l =>
        simp only [gl] at h
        cases ez : (tupI y).bind (getQ l) with
        | none => simp only [ez] at h; exact h.elim
        | some z =>
          obtain ⟨k, ek, eg⟩ := Option.bind_eq_some_iff.mp ez
          simp only [ez] at h
          exact .inl ⟨l, k, z, rfl, ek, eg, h⟩
      | dK l =>
        simp only [gl] at h
        cases ez : (keyI y).bind (getQ l) with
        | none => simp only [ez] at h; exact h.elim
        | some z =>
          obtain ⟨k, ek, eg⟩ := Option.bind_eq_some_iff.mp ez
          simp only [ez] at h
          exact .inr ⟨l, k, z, rfl, ek, eg, h⟩
      | lst l => simp only [gl] at h; exact h.elim
      | frz l => simp only [gl] at h; exact h.elim
      | ins c l => simp only [gl] at h; exact h.elim
      | set l => simp only [gl] at h; exact h.elim
      | xcp c l => simp only [gl] at h; exact h.elim
      | rng c l => simp only [gl] at h; exact h.elim
  · rintro (⟨l, k, v, h1, h2, h3, h⟩ | ⟨l, k, v, h1, h2, h3, h⟩) <;> simp only [h1, h2, h3, Option.bind_some] <;> exact h
/-- the walks want to know the dict -/
theorem v_getT' {n : Nat} {y : D} {st : S} {l : List (List Int × D)} {Q : D → S → Prop} (g : st[n]? = some (.dT l)) : Ok (dGetD (.ref n) y st) Q ↔ ∃ k v, tupI y = some k ∧ getQ l k = some v ∧ Q v st := by
  rw [v_getT]
  constructor
  · rintro (⟨l', k, v, h1, h2, h3, h⟩ | ⟨l', k, v, h1, h2, h3, h⟩)
    · rw [g] at h1; cases h1; exact ⟨k, v, h2, h3, h⟩
    · rw [g] at h1; cases h1
  · rintro ⟨k, v, h2, h3, h⟩; exact .inl ⟨l, k, v, g, h2, h3, h⟩
theorem v_inT' {f : Bool → Bool} {n : Nat} {y : D} {st : S} {l : List (List Int × D)} {Q : D → S → Prop} (g : st[n]? = some (.dT l)) : Ok (dInD f y (.ref n) st) Q ↔ ∃ k, tupI y = some k ∧ Q (.bl (f (getQ l k).isSome)) st := by
  unfold dInD
  simp only [g]
  cases tupI y with
  | none => simp; exact fun h => h
  | some k => simp; exact Iff.rfl
theorem ok_putD {ma mi m : EM} {en : En} {st : S} {V : Fl × En → S → Prop} : Ok (sPutD ma mi m en st) V ↔ Ok (m en st) fun d st1 => Ok (ma en st1) fun o st2 => Ok (mi en st2) fun i st3 =>
    ∃ n, o = .ref n ∧ ((∃ l k, st3[n]? = some (.dT l) ∧ tupI i = some k ∧ l.length < 100000 ∧ V (.nx, en) (st3.set n (.dT (putQ l k d)))) ∨
      ∃ l k, st3[n]? = some (.dK l) ∧ keyI i = some k ∧ l.length < 100000 ∧ V (.nx, en) (st3.set n (.dK (putQ l k d)))) := by
  unfold sPutD; simp only [ok_bind]
  constructor
  · intro h
    refine h.mono fun d st1 h => h.mono fun o st2 h => h.mono fun i st3 h => ?_
    cases o with
    | ref n =>
      refine ⟨n, rfl, ?_⟩
      cases gl : st3[n]? with
      | none => simp only [gl] at h; exact h.elim
      | some o =>
        cases o with
        | dT l =>
          simp only [gl] at h
          cases ek : tupI i with
          | none => simp only [ek] at h; exact h.elim
          | some k =>
            by_cases hl : l.length < 100000
            · simp only [ek, hl, if_true] at h; exact .inl ⟨l, k, rfl, rfl, hl, h⟩
            · simp only [ek, hl, if_false] at h; exact h.elim
        | dK l =>
          simp only [gl] at h
          cases ek : keyI i with
          | none => simp only [ek] at h; exact h.elim
          | some k =>
            by_cases hl : l.length < 100000
            · simp only [ek, hl, if_true] at h; exact .inr ⟨l, k, rfl, rfl, hl, h⟩
            · simp only [ek, hl, if_false] at h; exact h.elim
        | lst l => simp only [gl] at h; exact h.elim
        | frz l => simp only [gl] at h; exact h.elim
        | ins c l => simp only [gl] at h; exact h.elim
        | set l => simp only [gl] at h; exact h.elim
        | xcp c l => simp only [gl] at h; exact h.elim
        | rng c l => simp only [gl] at h; exact h.elim
    | _ => exact h.elim
  · intro h
    refine h.mono fun d st1 h => h.mono fun o st2 h => h.mono fun i st3 h => ?_
    obtain ⟨n, rfl, ⟨l, k, h1, h2, h3, h⟩ | ⟨l, k, h1, h2, h3, h⟩⟩ := h <;> simp only [h1, h2, h3, if_true] <;> exact h
end Dn

/-! Dn, K: exceptions of the text: raise, try .. except. -/
namespace Dn
open PySem PySem.Spec PyProof.Rows L2

/-! ### raise C() -/
abbrev veMro : List Value := [.type "ValueError", .type "Exception", .type "BaseException", .type "object"]
/-- a class of the text over ValueError without an own __init__ -/
def ExcAt (K : Frag) (cl : Clm) (mg : Str → Option Value) (c : Str) : Prop := ∃ C, cl c = some C ∧ mg c = some (.ref C) ∧ PySem.W.excIn K C veMro "ValueError.__new__" = true ∧ PySem.W.keepIn K (.ref C) = true ∧
  PySem.W.subIn K (.ref C) (.type "BaseException") = some true ∧ PySem.W.typeIn K (.ref C) = some (.type "type")
def sRaise (c : Str) : SM := fun en st => .exc ⟨c, []⟩ en st
/-- C(), made -/
theorem pmk0 {X : Cx} {C : Addr} {x : Str} {p pos : Pos} (q : PySem.W.excIn X.K C veMro "ValueError.__new__" = true) (gC : X.mg x = some (.ref C)) (kC : PySem.W.keepIn X.K (.ref C) = true) (r : Raises X (.ref C)) (hg : Gl X x) (hdb : (x == ("__debug__" : Str)) = false) :
    L2N.PMk X (.Call (.Name x p) [] [] pos) (fun _ H Q => Q (.ref C) none H) := fun pins s σ H Q I h => by
  refine wpAny_Call_Name_kw (ld_glob I hg gC (PySem.W.callWith_K0 I.kIn kC ?_) hdb)
  obtain ⟨_, _, _, _, _, _, _, _, _, _, _, _, _, _, _, _, _, hC, hN, hni, T⟩ := exc_obj I.kIn q
  exact wpAny_call_exc_subT PySem.F.excBase_ValueError T hC hN hni (fun h1 e made => L2N.mk_of I made r h (I.hok.gone made.new)) (by decide)
theorem ss_raise {X : Cx} {cl : Clm} {W : WX} {x : Str} {p pos pos' : Pos} (hx : ExcAt X.K cl X.mg x) (hc : X.calm = true) (tk : L2N.Takes X W) (hg : Gl X x) (hdb : (x == ("__debug__" : Str)) = false := by decide) :
    SS X cl W (.Raise (some (.Call (.Name x p) [] [] pos)) none pos') (sRaise x) := by
  obtain ⟨C, k1, k2, k3, k4, k5, k6⟩ := hx
  exact ⟨ps_of (L2N.ps_raise hc tk (pmk0 k3 k2 k4 (raises_own k5 k6) hg hdb)) fun D s H ⟨r, en, st, re, rs, po⟩ => po r H s _ _ .refl rs re ⟨C, k1, rfl, .inl ⟨rfl, rfl⟩⟩⟩

/-! ### try: .. except x as n: .. -/
abbrev Hdl := List (Str × Option Nat × SM)
def xNum (st : S) : D := .ref st.length
/-- the clauses, one behind the other -/
def hdl (tab : List ((Str × Str) × Bool)) (e : Ex) (en : En) (st : S) : Hdl → Out (Fl × En)
  | [] => .exc e en st
  | (x, o, su) :: l => match tab.lookup (e.cls, x) with
    | some true => match o with
      | none => nox (su en st)
      | some i => (nox (su (en.set i (some (.ref st.length))) (st ++ [.xcp e.cls e.fs]))).bind fun p st1 => .ok (p.1, p.2.set i none) st1
    | some false => hdl tab e en st l
    | none => .bad
def sTry (tab : List ((Str × Str) × Bool)) (u : SM) (l : Hdl) : SM := fun en st => match u en st with
  | .exc e en1 st1 => hdl tab e en1 st1 l
  | o => o
def NamesM (mg : Str → Option Value) (x : Str) (c : Value) : Prop := mg x = some c ∨ (mg x = none ∧ bootBuiltins x = some c ∧ x ≠ "__name__")
theorem NamesM.eq {mg : Str → Option Value} {x : Str} {c d : Value} (h : NamesM mg x c) (h' : NamesM mg x d) : c = d := by
  rcases h with h | ⟨h, h1, _⟩ <;> rcases h' with h' | ⟨h', h1', _⟩
  · rw [h] at h'; exact Option.some.inj h'
  · rw [h] at h'; cases h'
  · rw [h] at h'; cases h'
  · rw [h1] at h1'; exact Option.some.inj h1'
theorem mem_look {α β : Type} [BEq α] [LawfulBEq α] {k : α} : ∀ {l : List (α × β)} {v : β}, l.lookup k = some v → (k, v) ∈ l
  | [], _, h => by cases h
  | (j, u) :: l, v, h => by
    by_cases z : (k == j) = true
    · simp only [List.lookup, z] at h
      cases h
      rw [beq_iff_eq.mp z]
      exact List.mem_cons_self
    · have z' : (k == j) = false := by simpa using z
      simp only [List.lookup, z'] at h
      exact List.mem_cons_of_mem _ (mem_look h)
/-- whether a clause that names x takes an exception of the class e -/
def ExSub (K : Frag) (cl : Clm) (mg : Str → Option Value) (e x : Str) (b : Bool) : Prop := ∃ C c, cl e = some C ∧ NamesM mg x c ∧ PySem.W.exmOne K (.ref C) c = some b
/-- where an exception is handled: it is read alone -/
abbrev hotC (cl : Clm) (a : Addr) : Clm := { cl with hot := [a] }
theorem RO.heat {K : Frag} {cl : Clm} {H : Hp} {r : Rho} {o : O} {b : Addr} {l : List Addr} (h : RO K cl H r o b) : RO K { cl with hot := l } H r o b := by cases o <;> exact h
theorem RO.cool {K : Frag} {cl : Clm} {H : Hp} {r : Rho} {o : O} {b : Addr} {l : List Addr} (h : RO K { cl with hot := l } H r o b) : RO K cl H r o b := by cases o <;> exact h
theorem RS.heat {K : Frag} {cl : Clm} {H : Hp} {r : Rho} {st : S} {a : Addr} (h : RS K cl r st H) (t : HotH H a) : RS K (hotC cl a) r st H :=
  ⟨h.dom, fun n o e => let ⟨b, h1, h2⟩ := h.at_ n o e; ⟨b, h1, h2.heat⟩, h.inj, h.fz, h.pos, h.tabs, fun b hb => by rw [List.mem_singleton.mp (show b ∈ [a] from hb)]; exact t⟩
theorem RS.cool {K : Frag} {cl : Clm} {H : Hp} {r : Rho} {st : S} {a : Addr} (h : RS K (hotC cl a) r st H) (t : ∀ b ∈ cl.hot, HotH H b) : RS K cl r st H :=
  ⟨h.dom, fun n o e => let ⟨b, h1, h2⟩ := h.at_ n o e; ⟨b, h1, h2.cool⟩, h.inj, h.fz, h.pos, h.tabs, t⟩
/-- a clause of the text -/
def HdOk (X : Cx) (cl : Clm) (h : ExceptHandler) (p : Str × Option Nat × SM) : Prop := ∃ np n b0 suite pos, h = .ExceptHandler (some (.Name p.1 np)) n (b0 :: suite) pos ∧ Gl X p.1 ∧ (p.1 == ("__debug__" : Str)) = false ∧
  (match n, p.2.1 with
    | none, none => True
    | some y, some i => X.N[i]? = some y ∧ X.env.kindOf y = some .local
    | _, _ => False) ∧ ∀ a pn, SL (X.suite a pn) (hotC cl a) wN (b0 :: suite) p.2.2
theorem hd_none {X : Cx} {cl : Clm} {x : Str} {su : SM} {np pos : Pos} {b0 : Stmt} {suite : List Stmt} (hg : Gl X x) (h : ∀ a pn, SL (X.suite a pn) (hotC cl a) wN (b0 :: suite) su) (hd : (x == ("__debug__" : Str)) = false := by decide) : HdOk X cl (.ExceptHandler (some (.Name x np)) none (b0 :: suite) pos) (x, none, su) :=
  ⟨np, none, b0, suite, pos, rfl, hg, hd, trivial, h⟩
theorem hd_as {X : Cx} {cl : Clm} {x y : Str} {i : Nat} {su : SM} {np pos : Pos} {b0 : Stmt} {suite : List Stmt} (hg : Gl X x) (hi : X.N[i]? = some y) (hl : X.env.kindOf y = some .local) (h : ∀ a pn, SL (X.suite a pn) (hotC cl a) wN (b0 :: suite) su) (hd : (x == ("__debug__" : Str)) = false := by decide) :
    HdOk X cl (.ExceptHandler (some (.Name x np)) (some y) (b0 :: suite) pos) (x, some i, su) :=
  ⟨np, some y, b0, suite, pos, rfl, hg, hd, ⟨hi, hl⟩, h⟩

/-- an exception that the frame of X has caught: it stands at a, S is the state without it -/
structure Caught (X : Cx) (pins : List (Addr × Obj)) (a : Addr) (cls : Value) (d : Option Addr) (σ : L2.St) (H : Hp) (B : Heap) (S s : Shared) : Prop where
  inv : Inv X pins σ H S
  gr : ∀ b o, S.heap.get? b = some o → b ∉ frs X.stack → B.get? b = some o
  up : S.heap.UpToSlots s.heap
  fl : HandSPX.FlyingZ B (X.env :: X.outer) a (L2N.Zn cls d) s.heap
  na : H a = none
  os : s.os = S.os
  ag : AllBare s.gens
section
variable {X : Cx} {pins : List (Addr × Obj)} {a : Addr} {cls : Value} {d : Option Addr} {σ : L2.St} {H : Hp} {B : Heap} {S s : Shared} {W : WX}
theorem Caught.now (c : Caught X pins a cls d σ H B S s) : Inv X pins σ H s := c.inv.landed c.gr c.fl.1 c.up c.os c.ag
theorem Caught.more (c : Caught X pins a cls d σ H B S s) {h : Heap} (fl : HandSPX.FlyingZ B (X.env :: X.outer) a (L2N.Zn cls d) h) (up : s.heap.UpToSlots h) : Caught X pins a cls d σ H B S { s with heap := h } :=
  ⟨c.inv, c.gr, c.up.trans up, fl, c.na, c.os, c.ag⟩
theorem Caught.obj (c : Caught X pins a cls d σ H B S s) : ∃ oe vs, s.heap.get? a = some oe ∧ L2N.Zn cls d oe ∧ oe.data = .fields vs := c.fl.there
theorem Caught.noFr (c : Caught X pins a cls d σ H B S s) : a ∉ frs (X.env :: X.outer) := fun hm => by
  obtain ⟨oe, vs, e, _, hd⟩ := c.obj
  obtain ⟨_, o, e1, h1⟩ := c.fl.2.2.1.mem hm
  exact h1 vs (by rw [e] at e1; cases e1; exact hd)
theorem Caught.new (hs : X.stack = X.env :: X.outer) (c : Caught X pins a cls d σ H B S s) : S.heap.get? a = none := by
  cases e : S.heap.get? a with
  | none => rfl
  | some o => exact absurd ((c.gr a o e (by rw [hs]; exact c.noFr)).symm.trans c.fl.2.1) fun z => nomatch z
theorem Caught.new0 (hs : X.stack = X.env :: X.outer) (hex : X.ex = []) (c : Caught X pins a cls d σ H B S s) : X.s_0.heap.get? a = none := by
  cases e : X.s_0.heap.get? a with
  | none => rfl
  | some o =>
    obtain ⟨o1, z⟩ := c.inv.base.there a o e (by rw [hex]; exact fun z => nomatch z)
    rw [c.new hs] at z; cases z
/-- the frame's own hand on what comes -/
theorem catch_it {V : WX} {xe E : Value → Shared → Prop} (hs : X.stack = X.env :: X.outer) (hf : X.env.frame = some X.env.locals) (ok : X.Ok) {u : Value} (x : L2N.XE (X.tr (X.pn ++ pins) xe) V u s) {Q : Shared → Prop}
    (h : ∀ a cls d σ H B S s', u = .ref a → Caught X pins a cls d σ H B S s' → V cls d σ H → Q s') :
    wpAny (model X.prog X.w) X.A (noteFrame u X.env) (fun _ s2 => wpAny (model X.prog X.w) X.A (setFlight u none) (fun _ s3 => Q s3) E s2) E s := by
  obtain ⟨a, B, S, pins', σ, H, cls, d, eu, J, nb, up, sky, na, os, ag, w⟩ := x
  subst eu
  refine L2N.Sky.land L2N.Zn.steady (ok.frames.trans (congrArg some hs)) hf (by rw [← hs]; exact sky) fun h' fl up' => ?_
  exact h a cls d σ H B S _ rfl ⟨J.ofTry ok, nb, up.trans up', fl, na, os, ag⟩ w
/-- X's state within an except suite -/
theorem to_suite (I : Inv X pins σ H s) (a : Addr) : Inv (X.suite a (X.pn ++ pins)) [] σ H s :=
  ⟨I.ok.suite _ _, I.os, I.bare, I.base, I.loc, I.cell, I.free, I.freeC, fun p hp => I.pin p (by rwa [List.append_nil] at hp), I.hok, I.len⟩
theorem of_suite (ok : X.Ok) (I : Inv (X.suite a (X.pn ++ pins)) [] σ H s) : Inv X pins σ H s :=
  ⟨ok, I.os, I.bare, I.base, I.loc, I.cell, I.free, I.freeC, fun p hp => I.pin p (List.mem_append_left _ hp), I.hok, I.len⟩
/-- an object that came since the entry is tracked -/
theorem track {o : HO} {u : Obj} (I : Inv X pins σ H s) (n0 : X.s_0.heap.get? a = none) (hu : s.heap.get? a = some u) (na : H a = none) (nL : a ≠ X.env.locals) (nc : ∀ v, u.data ≠ .cell v) (np : ∀ p ∈ X.pn ++ pins, p.1 ≠ a)
    (ok : ObjOk X.prog X.w (upd H a o) s.heap a o) : Inv X pins σ (upd H a o) s := by
  have old : ∀ {b : Addr} {q : HO}, H b = some q → upd H a o b = some q := fun {b q} e => (upd_ne (fun z => by rw [z, na] at e; cases e)).trans e
  refine ⟨I.ok, I.os, I.bare, ⟨I.base.keep, I.base.slot, fun b q e n hx => ?_, I.base.there, fun b xs e => old (I.base.tups b xs e), fun b q v e => old (I.base.frzs b q v e), fun b ps e => ?_⟩, I.loc, I.cell, ?_, fun x c e => ?_, fun p hp => ?_, fun b q e => ?_, I.len⟩
  · rw [upd_ne (fun z => by rw [z, n0] at e; cases e)]
    exact I.base.free b q e n hx
  · obtain ⟨more, z⟩ := I.base.tbls b ps e
    exact ⟨more, old z⟩
  · rw [upd_ne nL.symm]
    exact I.free
  · rw [upd_ne]
    · exact I.freeC x c e
    · intro z
      obtain ⟨v, q, hq, hd⟩ := I.cell x c e
      rw [z, hu] at hq; cases hq
      exact nc _ hd
  · obtain ⟨z1, z2, z3, z4, z5⟩ := I.pin p hp
    exact ⟨z1, (upd_ne (np p hp)).trans z2, z3, z4, z5⟩
  · by_cases hb : b = a
    · subst hb
      rw [upd_same] at e; cases e
      exact ok
    · rw [upd_ne hb] at e
      exact (I.hok b q e).stay (fun _ _ _ z => z) (fun c z => old z) fun c xs z => old z
end
theorem RE.off {K : Frag} {H : Hp} {r : Rho} {en : En} {s : L2.St} (i : Nat) (h : RE K H r en s) : RE K H r (en.set i none) (s.set i none) := by
  refine ⟨by rw [List.length_set, List.length_set]; exact h.1, fun j d e => ?_⟩
  by_cases z : i = j
  · subst z
    by_cases hl : i < en.length
    · rw [List.getElem?_set_self hl] at e; cases e
    · rw [List.getElem?_eq_none (by rw [List.length_set]; omega)] at e; cases e
  · rw [List.getElem?_set_ne z] at e ⊢
    exact h.2 j d e
/-- the caught exception gets a number -/
theorem hold {K : Frag} {cl : Clm} {r : Rho} {st : S} {H : Hp} {a : Addr} {e : Ex} {cls : Value} {d : Option Addr} {ob : Obj} {ovs : Array Value} (hs : RS K cl r st H) (na : H a = none) (hx : RX K cl H r e cls d) (hz : L2N.Zn cls d ob) (hd : ob.data = .fields ovs) :
    RS K cl (nxt r st.length a) (st ++ [.xcp e.cls e.fs]) (upd H a (.frz ob (XcpO cls d a))) ∧ Xt K r H (nxt r st.length a) (upd H a (.frz ob (XcpO cls d a))) := by
  obtain ⟨C, h1, h2, h3⟩ := hx
  subst h2
  refine push_new hs na ⟨C, d, ob, ovs, h1, upd_same, hz, hd, ?_⟩ rfl
  rcases h3 with h3 | ⟨dx, vs, e1, e2, e3, e4⟩
  · exact .inl h3
  · have ne : dx ≠ a := fun z => by rw [z, na] at e2; cases e2
    refine .inr ⟨dx, vs, e1, (upd_ne ne).trans e2, e3.mono ⟨Xt.nxt0 hs.dom, (Xt.fresh (r := r) na).sqt⟩, fun n n0 z => ?_⟩
    by_cases q : n = st.length
    · subst q; rw [nxt_self] at z; cases z; exact ne rfl
    · rw [nxt_old q] at z; exact e4 n n0 z
section
variable {X : Cx} {cl : Clm} {W : WX} {tab : List ((Str × Str) × Bool)} {pins : List (Addr × Obj)}
/-- what is caught, tracked as it stands -/
theorem hot_at {a : Addr} {cls : Value} {d : Option Addr} {σ : L2.St} {H : Hp} {B : Heap} {S s s4 : Shared} {oe : Obj} {vs : Array Value} (hs : X.stack = X.env :: X.outer) (hf : X.env.frame = some X.env.locals) (hex : X.ex = []) (c : Caught X pins a cls d σ H B S s) (c4 : Caught X pins a cls d σ H B S s4)
    (ho : s4.heap.get? a = some oe) (hz : L2N.Zn cls d oe) (hd : oe.data = .fields vs) : Inv X pins σ (upd H a (.frz oe (XcpO cls d a))) s4 ∧ HotH (upd H a (.frz oe (XcpO cls d a))) a := by
  have nL : a ≠ X.env.locals := fun z => c4.noFr (List.mem_filterMap.mpr ⟨X.env, List.mem_cons_self, hf.trans (congrArg some z.symm)⟩)
  refine ⟨track c4.now (c4.new0 hs hex) ho c.na nL (fun v z => by rw [hd] at z; cases z) (fun p hp z => by
    have q := (c.inv.pin p hp).1
    rw [z, c.new hs] at q; cases q) ⟨ho, ⟨oe, vs, ho, hz, hd⟩, ⟨oe, ho⟩, fun _ _ ⟨o1, v1, q1, q2⟩ k => ⟨o1, v1, k o1 q1, q2⟩⟩, oe, _, vs, upd_same, hd, hz.2.2 vs hd⟩
/-- how the rest of a def is wanted behind a statement -/
abbrev Ends1 (X : Cx) (D : Ends) : Rho → Hp → Fl × En → S → Prop := fun r' H' p _ => ∀ s', RE X.K H' r' p.2 s' → endOf X.K D r' H' s' p.1
theorem handle {a : Addr} {cls : Value} {d : Option Addr} {σ : L2.St} {H : Hp} {B : Heap} {S : Shared} {D : Ends} {e : Ex} {en : En} {st : Dn.S} {r : Rho} (hs : X.stack = X.env :: X.outer) (hf : X.env.frame = some X.env.locals) (hex : X.ex = []) (hN : X.N.Nodup) (tk : L2N.Takes X W)
    (hT : ∀ p ∈ tab, ExSub X.K cl X.mg p.1.1 p.1.2 p.2) (hx : RX X.K cl H r e cls d) (re : RE X.K H r en σ) (rs : RS X.K cl r st H) : ∀ {hds : List ExceptHandler} {l : Hdl} {s : Shared}, Paired (HdOk X cl) hds l → Caught X pins a cls d σ H B S s →
      Po X.K cl r H W (hdl tab e en st l) (Ends1 X D) → wpAny (model X.prog X.w) X.A (handleBy (.ref a) X.env hds) (L2.SP X pins D) X.xe s
  | [], [], s, .nil, c, po => by
    refine wpAny_handleBy_nil ?_
    obtain ⟨k1, k2, k3, oe, vs, T, oT, ts, h1, hz, h2, h3, _⟩ := id c.fl
    unfold PySem.passOn
    refine wpAny_bind (wpAny_field h1 h2 h3 ?_)
    have set : ¬ ((Value.ref T == Value.none) = true) := by simp
    rw [if_neg set]
    have fin : wpAny (model X.prog X.w) X.A (setFlight (.ref a) X.env.frame) (fun _ s4 => wpAny (model X.prog X.w) X.A (throw (.ref a) : Sem Flow) (L2.SP X pins D) X.xe s4) X.xe s := by
      rw [hf]
      refine HandSPX.setFlight_upZ c.fl fun h4 held up => wpAny_throw (tk _ _ ?_)
      exact ⟨a, B, S, pins, σ, H, cls, d, rfl, c.inv, c.gr, c.up.trans up, .inr (.inr (by rw [hs]; exact held)), c.na, c.os, c.ag, po r H σ cls d .refl rs re hx⟩
    first
      | exact wpAny_bind fin
      | exact wpAny_bind (wpAny_pure (wpAny_bind fin))
  | h :: hds, (x, o, su) :: l, s, .cons hh ht, c, po => by
    obtain ⟨np, n, b0, suite, pos, eh, hg, hdb, hn, hsu⟩ := hh
    subst eh
    have J := c.now
    obtain ⟨oe, vs, ho, hz, hd⟩ := c.obj
    unfold hdl at po
    split at po
    · -- it is taken
      rename_i et
      obtain ⟨C, cv, k1, k2, k3⟩ := hT ((e.cls, x), true) (mem_look et)
      obtain ⟨C', z1, z2, _⟩ := id hx
      rw [k1] at z1; cases z1
      refine wpAny_handleBy_cons (codeAny_handlers_test ?_) (by intro q; cases q)
      have LT : PySem.W.Looks (model X.prog X.w) s.heap (typeOf (.ref a)) cls := fun A Q E s k q => wpAny_typeOf_ref (k _ _ ho) (by rw [hz.1]; exact q)
      have LM := PySem.W.exm_one (M := model X.prog X.w) J.kIn LT (by rw [z2]; exact k3)
      have name : ∀ {Q : Value → Shared → Prop} {E : Value → Shared → Prop}, Q cv s → wpAny (model X.prog X.w) (X.A.mark (some (.ref a))) (eval (.Name x np) X.env) Q E s := fun {Q E} q => by
        rcases k2 with hm | ⟨hm, hv, hnn⟩
        · exact ld_glob (X := X.suite a (X.pn ++ pins)) (to_suite J a) hg hm q hdb
        · exact ld_blt (X := X.suite a (X.pn ++ pins)) (to_suite J a) hg hm hv q hnn hdb
      refine name (LM.here ?_)
      match o, n, hn, po with
      | none, none, _, po =>
        refine codeAny_handlers_suite (HandSPX.lands_againZ c.fl fun h4 fl4 up4 => ?_)
        have c4 := c.more fl4 up4
        obtain ⟨oe4, vs4, ho4, hz4, hd4⟩ := c4.obj
        obtain ⟨J4, hot4⟩ := hot_at hs hf hex c c4 ho4 hz4 hd4
        have x4 : Xt X.K r H r (upd H a (.frz oe4 (XcpO cls d a))) := .fresh c.na
        have rs4 := rs.fresh (p := a) (o := .frz oe4 (XcpO cls d a)) c.na
        have po' : Po X.K (hotC cl a) r (upd H a (.frz oe4 (XcpO cls d a))) wN (su en st) (Ends1 X D) := by
          cases q : su en st with
          | ok p st1 =>
            simp only [q, nox] at po
            exact fun r6 H6 x6 rs6 => po r6 H6 (x4.trans x6) (rs6.cool fun b hb => (x4.trans x6).hot (rs.hotf b hb))
          | exc _ _ _ => simp only [q, nox] at po; exact po.elim
          | bad => simp only [q, nox] at po; exact po.elim
        refine wpAny_mono ((hsu a (X.pn ++ pins)).pss.run [] _ σ _ D (to_suite J4 a) ⟨r, en, st, re.mono x4.mn, rs4.heat hot4, po'⟩) (fun f s6 sp => ?_) fun _ _ z => False.elim z
        cases f with
        | next => obtain ⟨σ6, H6, J6, q⟩ := sp; exact ⟨σ6, H6, of_suite J.ok J6, q⟩
        | brk => obtain ⟨σ6, H6, J6, q⟩ := sp; exact ⟨σ6, H6, of_suite J.ok J6, q⟩
        | cont => obtain ⟨σ6, H6, J6, q⟩ := sp; exact ⟨σ6, H6, of_suite J.ok J6, q⟩
        | ret u => obtain ⟨v, σ6, H6, J6, rv, q⟩ := sp; exact ⟨v, σ6, H6, of_suite J.ok J6, rv, q⟩
      | some i, some y, ⟨hi, hl⟩, po =>
        refine codeAny_handlers_suite_as (HandSPX.lands_againZ c.fl fun h4 fl4 up4 => ?_)
        have c4 := c.more fl4 up4
        obtain ⟨oe4, vs4, ho4, hz4, hd4⟩ := c4.obj
        obtain ⟨J4, hot4⟩ := hot_at hs hf hex c c4 ho4 hz4 hd4
        obtain ⟨rs5, x5⟩ := hold rs c.na hx hz4 hd4
        refine store_ok (X := X.suite a (X.pn ++ pins)) (v := .ref a) (to_suite J4 a) hN hi (.inl hl) rfl (fun s5 J5 => ?_) (.inr hl)
        have re5 : RE X.K (upd H a (.frz oe4 (XcpO cls d a))) (nxt r st.length a) (en.set i (some (.ref st.length))) (σ.set i (some (.ref a))) := (re.mono x5.mn).set i (.ref nxt_self)
        have po' : Po X.K (hotC cl a) (nxt r st.length a) (upd H a (.frz oe4 (XcpO cls d a))) wN (su (en.set i (some (.ref st.length))) (st ++ [.xcp e.cls e.fs]))
            (Ends1 X { nx := fun σ' H' => D.nx (σ'.set i none) H', rt := D.rt, bk := fun σ' H' => D.bk (σ'.set i none) H', ct := fun σ' H' => D.ct (σ'.set i none) H' }) := by
          cases q : su (en.set i (some (.ref st.length))) (st ++ [.xcp e.cls e.fs]) with
          | ok p st1 =>
            simp only [q, nox, bind_ok] at po
            intro r6 H6 x6 rs6 s6 re6
            have z := po r6 H6 (x5.trans x6) (rs6.cool fun b hb => (x5.trans x6).hot (rs.hotf b hb)) (s6.set i none) (re6.off i)
            obtain ⟨f, en6⟩ := p
            cases f <;> exact z
          | exc _ _ _ => simp only [q, nox] at po; exact po.elim
          | bad => simp only [q, nox] at po; exact po.elim
        refine wpAny_mono ((hsu a (X.pn ++ pins)).pss.run [] s5 _ _ _ J5 ⟨_, _, _, re5, rs5.heat hot4, po'⟩) (fun f s6 sp => ?_) fun _ _ z => False.elim z
        have over : ∀ {σ6 : L2.St} {H6 : Hp} {Q : Shared → Prop}, Inv (X.suite a (X.pn ++ pins)) [] σ6 H6 s6 → (∀ s7, Inv X pins (σ6.set i none) H6 s7 → Q s7) → wpAny (model X.prog X.w) X.A (do bindName X.env y .none; unbindBehindTheSuite X.env y pos) (fun _ s7 => Q s7) X.xe s6 :=
          fun {σ6 H6 Q} J6 hq => gone_ok (of_suite J.ok J6) hN hi hl hq
        cases f with
        | next => obtain ⟨σ6, H6, J6, q⟩ := sp; exact over J6 fun s7 J7 => ⟨_, _, J7, q⟩
        | brk => obtain ⟨σ6, H6, J6, q⟩ := sp; exact over J6 fun s7 J7 => ⟨_, _, J7, q⟩
        | cont => obtain ⟨σ6, H6, J6, q⟩ := sp; exact over J6 fun s7 J7 => ⟨_, _, J7, q⟩
        | ret u => obtain ⟨v, σ6, H6, J6, rv, q⟩ := sp; exact over J6 fun s7 J7 => ⟨v, _, _, J7, rv, q⟩
    · -- it is not
      rename_i et
      obtain ⟨C, cv, k1, k2, k3⟩ := hT ((e.cls, x), false) (mem_look et)
      obtain ⟨C', z1, z2, _⟩ := id hx
      rw [k1] at z1; cases z1
      refine wpAny_handleBy_cons (codeAny_handlers_test ?_) (by intro q; cases q)
      have LT : PySem.W.Looks (model X.prog X.w) s.heap (typeOf (.ref a)) cls := fun A Q E s k q => wpAny_typeOf_ref (k _ _ ho) (by rw [hz.1]; exact q)
      have LM := PySem.W.exm_one (M := model X.prog X.w) J.kIn LT (by rw [z2]; exact k3)
      have name : ∀ {Q : Value → Shared → Prop} {E : Value → Shared → Prop}, Q cv s → wpAny (model X.prog X.w) (X.A.mark (some (.ref a))) (eval (.Name x np) X.env) Q E s := fun {Q E} q => by
        rcases k2 with hm | ⟨hm, hv, hnn⟩
        · exact ld_glob (X := X.suite a (X.pn ++ pins)) (to_suite J a) hg hm q hdb
        · exact ld_blt (X := X.suite a (X.pn ++ pins)) (to_suite J a) hg hm hv q hnn hdb
      refine name (LM.here ?_)
      exact handle hs hf hex hN tk hT hx re rs ht c po
    · exact po.elim
theorem ss_try {body : List Stmt} {h0 : ExceptHandler} {hds : List ExceptHandler} {l : Hdl} {u : SM} {pos : Pos} (tk : L2N.Takes X W) (hN : X.N.Nodup)
    (hb : ∀ (V : WX) (pn : List (Addr × Obj)) (xe : Value → Shared → Prop), L2N.Takes (X.tr pn xe) V → PassesOwn (model X.prog X.w) X.A X.env xe → SL (X.tr pn xe) cl V body u)
    (hT : ∀ p ∈ tab, ExSub X.K cl X.mg p.1.1 p.1.2 p.2) (hh : Paired (HdOk X cl) (h0 :: hds) l)
    (hs : X.stack = X.env :: X.outer := by rfl) (hf : X.env.frame = some X.env.locals := by rfl) (hex : X.ex = [] := by rfl) : SS X cl W (.Try body (h0 :: hds) [] [] pos) (sTry tab u l) := by
  refine ⟨⟨fun pins s σ H D I w => ?_⟩⟩
  obtain ⟨r, en, st, re, rs, po⟩ := w
  refine wpAny_Try_except ?_
  refine wpAny_mono ((hb (fun cls d σ1 H1 => ∃ e en1 st1 r1, RX X.K cl H1 r1 e cls d ∧ RE X.K H1 r1 en1 σ1 ∧ RS X.K cl r1 st1 H1 ∧ Po X.K cl r1 H1 W (hdl tab e en1 st1 l) (Ends1 X D)) (X.pn ++ pins)
    (fun e s1 => wpAny (model X.prog X.w) X.A (noteFrame e X.env) (fun _ s2 => wpAny (model X.prog X.w) X.A (setFlight e none) (fun _ s3 => wpAny (model X.prog X.w) X.A (handleBy e X.env (h0 :: hds)) (L2.SP X pins D) X.xe s3) X.xe s2) X.xe s1)
    (fun u s' x => ?_) PassesOwn.looking).pss.run [] s σ H D (I.toTry _) ⟨r, en, st, re, rs, ?_⟩) (fun f s1 sp => ?_) fun _ _ z => z
  · refine catch_it hs hf I.ok x fun a cls d σ1 H1 B S s3 eu c hw => ?_
    obtain ⟨e, en1, st1, r1, rx, re1, rs1, po1⟩ := hw
    subst eu
    exact handle hs hf hex hN tk hT rx re1 rs1 hh c po1
  · unfold sTry at po
    cases q : u en st with
    | ok p st1 => simp only [q] at po; exact po
    | bad => simp only [q] at po; exact po
    | exc e en1 st1 =>
      simp only [q] at po
      exact fun r1 H1 s1 c d x1 rs1 re1 rx => ⟨e, en1, st1, r1, rx, re1, rs1, po.xt x1⟩
  · cases f with
    | next => obtain ⟨σ1, H1, J, q⟩ := sp; exact wpAny_execs_nil ⟨σ1, H1, J.ofTry I.ok, q⟩
    | brk => obtain ⟨σ1, H1, J, q⟩ := sp; exact ⟨σ1, H1, J.ofTry I.ok, q⟩
    | cont => obtain ⟨σ1, H1, J, q⟩ := sp; exact ⟨σ1, H1, J.ofTry I.ok, q⟩
    | ret v => obtain ⟨v1, σ1, H1, J, rv, q⟩ := sp; exact ⟨v1, σ1, H1, J.ofTry I.ok, rv, q⟩
end
end Dn

/-! Dn, K1: what a suite asks of the exception that it holds; reasoning about exceptions. -/
namespace Dn
open PySem PySem.Spec PyProof.Rows L2

/-! ### what the top says of exceptions' classes -/
section
variable {K : Frag} {C D : Addr} {b : Bool}
theorem kitCls_own (h1 : PySem.W.isClsIn K D = true) (h2 : PySem.W.typeIn K (.ref D) = some (.type "type")) (h3 : PySem.W.subIn K (.ref C) (.ref D) = some b) : PySem.W.kitCls K (.ref C) (.ref D) = some b := by
  have e : ((PySem.W.clsIn K D).isSome && PySem.W.typeIn K (.ref D) == some (.type "type")) = true := by
    rw [h2, show (PySem.W.clsIn K D).isSome = true from h1]; rfl
  show (if _ = true then _ else _) = _
  rw [if_pos e]; exact h3
theorem exm_own (h0 : PySem.W.subIn K (.ref D) (.type "BaseException") = some true) (h1 : PySem.W.isClsIn K D = true) (h2 : PySem.W.typeIn K (.ref D) = some (.type "type")) (h3 : PySem.W.subIn K (.ref C) (.ref D) = some b) : PySem.W.exmOne K (.ref C) (.ref D) = some b := by
  unfold PySem.W.exmOne
  rw [h0]; exact kitCls_own h1 h2 h3
theorem kit_own (h1 : PySem.W.isClsIn K D = true) (h2 : PySem.W.typeIn K (.ref D) = some (.type "type")) (h3 : PySem.W.subIn K (.ref C) (.ref D) = some b) (h4 : (C == D) = false ∨ b = true) : PySem.W.kitOne K (.ref C) (.ref D) = some b := by
  unfold PySem.W.kitOne
  split
  · rename_i e
    rcases h4 with h4 | h4
    · have : C = D := Value.ref.inj (beq_iff_eq.mp e)
      subst this; simp at h4
    · rw [h4]
  · exact kitCls_own h1 h2 h3
theorem kit_type {T : String} (h1 : PySem.W.kitMeta T = true) (h3 : PySem.W.subIn K (.ref C) (.type T) = some b) : PySem.W.kitOne K (.ref C) (.type T) = some b := by
  unfold PySem.W.kitOne
  rw [if_neg (by simp)]
  show (if _ = true then _ else _) = _
  rw [if_pos h1]; exact h3
theorem exm_type {T : String} (h0 : PySem.W.subIn K (.type T) (.type "BaseException") = some true) (h1 : PySem.W.kitMeta T = true) (h3 : PySem.W.subIn K (.ref C) (.type T) = some b) : PySem.W.exmOne K (.ref C) (.type T) = some b := by
  unfold PySem.W.exmOne
  rw [h0]
  have e : PySem.W.kitCls K (.ref C) (.type T) = some b := by
    show (if _ = true then _ else _) = _
    rw [if_pos h1]; exact h3
  exact e
end
/-! ### isinstance(e, C), e.f -/
/-- what the class D of exceptions must say, so that its instances are asked rightly -/
structure XcC (K : Frag) (D : Addr) : Prop where
  ga : PySem.W.findIn K (.ref D) "__getattribute__" = some (some (.builtin "BaseException.__getattribute__"))
  gg : PySem.W.findIn K (.ref D) "__getattr__" = some none
  sb : PySem.W.subIn K (.ref D) (.type "BaseException") = some true
  hd : PySem.W.hasDictIn K D = true
  ca : PySem.W.findIn K (.ref D) "__class__" = some (some (.builtin "object.__class__"))
  cg : PySem.W.specialIn K (.builtin "object.__class__") "__get__" = some (some (.builtin "getset_descriptor.__get__"))
  ct : PySem.W.takesIn K (.builtin "object.__class__") = some true
  mo : PySem.W.mroIn K D (.type "object") = some true
/-- whether an exception of the class e is an instance of what x names -/
def XcIs (K : Frag) (cl : Clm) (mg : Str → Option Value) (e x : Str) (b : Bool) : Prop := ∃ C c, cl e = some C ∧ XcC K C ∧ NamesM mg x c ∧ PySem.W.kitOne K (.ref C) c = some b
/-- the class e has nothing of the name f -/
def XcFl (K : Frag) (cl : Clm) (e f : Str) : Prop := ∃ C, cl e = some C ∧ XcC K C ∧ PySem.W.findIn K (.ref C) f = some none
def dIsE (tab : List ((Str × Str) × Bool)) (x : Str) (m : EM) : EM := fun en st => (m en st).bind fun d st1 => match d with
  | .ref n => match st1[n]? with
    | some (.xcp c _) => match tab.lookup (c, x) with
      | some b => .ok (.bl b) st1
      | none => .bad
    | _ => .bad
  | _ => .bad
def dXf (cs : List Str) (f : Str) (m : EM) : EM := fun en st => (m en st).bind fun d st1 => match d with
  | .ref n => match st1[n]? with
    | some (.xcp c fs) => if cs.contains c then match fs.lookup f with
        | some x => .ok x st1
        | none => .bad
      else .bad
    | _ => .bad
  | _ => .bad
/-- a held exception as the library's rules see it -/
theorem held_at {X : Cx} {cl : Clm} {pins : List (Addr × Obj)} {σ : L2.St} {H : Hp} {s : Shared} {r : Rho} {st : Dn.S} {n : Nat} {a : Addr} {c : Str} {fs : List (Str × D)} (I : Inv X pins σ H s) (rs : RS X.K cl r st H) (g : st[n]? = some (.xcp c fs)) (h : r n = some a) :
    ∃ C oe od, cl c = some C ∧ PySem.W.InstAt s.heap a oe C od := by
  obtain ⟨b, e1, C, d, _, _, k1, k2, _, _, k3⟩ := rs.at_ n _ g
  rw [h] at e1; cases e1
  obtain ⟨_, ⟨oe, vs, ho, hz, hd⟩, _, _⟩ := I.hok a _ k2
  have no : PySem.W.notCls oe = true := by unfold PySem.W.notCls; rw [hd] <;> rfl
  rcases k3 with ⟨_, k3⟩ | ⟨dx, ws, e2, e3, _, _⟩
  · exact ⟨C, oe, none, k1, ho, hz.1, no, by rw [hz.2.1, k3]; trivial⟩
  · obtain ⟨mA, hns, _⟩ := I.hok dx _ e3
    obtain ⟨od, hod, _⟩ := lookIn_ns hns
    exact ⟨C, oe, some od, k1, ho, hz.1, no, by rw [hz.2.1, e2]; exact hod⟩
section
variable {X : Cx} {cl : Clm} {W : WX} {e : Expr} {m : EM}
theorem se_isE {x : Str} {p p2 pos : Pos} {tab : List ((Str × Str) × Bool)} (hT : ∀ q ∈ tab, XcIs X.K cl X.mg q.1.1 q.1.2 q.2) (hg : Gl X "isinstance") (hm : X.mg "isinstance" = none) (he : SE X cl W e m) (hgx : Gl X x) (hd : (x == ("__debug__" : Str)) = false := by decide)
    (hs1 : starEach [e, .Name x p2] X.env = (false, eval e X.env) :: starEach [.Name x p2] X.env := by rfl) (hs2 : starEach [.Name x p2] X.env = (false, eval (.Name x p2) X.env) :: starEach [] X.env := by rfl) (hpl : (backTo pos (starEach [.Name x p2] X.env)).any (·.1) = false := by rfl) :
    SE X cl W (.Call (.Name "isinstance" p) [e, .Name x p2] [] pos) (dIsE tab x m) := by
  refine ⟨⟨fun pins s σ H Q I w => ?_⟩⟩
  refine wpAny_Call_Name_kw (ld_blt (u := .builtin "isinstance") I hg hm (by decide +kernel) ?_)
  refine PyProof.Rows.callWith_builtin1 ?_ hs1 hpl
  rw [hs1]
  obtain ⟨r, en, st, re, rs, po⟩ := w
  refine Calls.spliced_cons ?_
  refine wpAny_mono (he.pe.run pins s σ H (fun v H1 => ∃ r1 st1 d, RS X.K cl r1 st1 H1 ∧ RD X.K H1 r1 d v ∧ Po X.K cl r1 H1 W (match d with
    | .ref n => match st1[n]? with
      | some (.xcp c _) => match tab.lookup (c, x) with
        | some b => .ok (.bl b) st1
        | none => .bad
      | _ => .bad
    | _ => .bad : Out D) fun r' H' d _ => ∀ v, RD X.K H' r' d v → Q v H') I ⟨r, en, st, re, rs, (Po.bind po).mono fun r1 H1 d st1 x1 rs1 p1 v rv => ⟨r1, st1, d, rs1, rv, p1⟩⟩) (fun u s1 ⟨v, H1, I1, rv, r1, st1, d, rs1, rd, po1⟩ => ?_) fun _ _ z => z
  split at po1
  · rename_i n
    obtain ⟨a, rfl, hn⟩ := rd.ref_inv
    obtain rfl : u = Value.ref a := rv
    split at po1
    · rename_i c fs g
      split at po1
      · rename_i b et
        obtain ⟨C, cv, k1, k2, k3, k4⟩ := hT ((c, x), b) (mem_look et)
        obtain ⟨C', oe, od, z1, J⟩ := held_at I1 rs1 g hn
        rw [k1] at z1; cases z1
        show wpAny _ _ (spliced (backTo pos (starEach [.Name x p2] X.env))) _ _ s1
        rw [hs2]
        have fin : wpAny (model X.prog X.w) X.A (call (.builtin "isinstance") [.ref a, cv]) (EP X pins σ Q) X.xe s1 :=
          PySem.W.kia_one (PySem.W.kitx_exc (PySem.W.any_some k2.hd |> fun ⟨cd, hc, _⟩ => by rw [hc]; rfl) k2.ga k2.gg k2.sb k2.ca k2.cg k2.ct k2.mo) I1.kIn J k4 (fun z => nomatch z) fun tk => ⟨.bl b, H1, I1.tok tk, rfl, po1 r1 H1 .refl rs1 _ .bl⟩
        refine Calls.spliced_cons ?_
        rcases k3 with hm | ⟨hm, hv, hnn⟩
        · exact ld_glob I1 hgx hm (Calls.spliced_nil fin) hd
        · exact ld_blt I1 hgx hm hv (Calls.spliced_nil fin) hnn hd
      · exact po1.elim
    · exact po1.elim
  · exact po1.elim
theorem se_xf {f : Str} {pos : Pos} {cs : List Str} (he : SE X cl W e m) (hc : ∀ c ∈ cs, XcFl X.K cl c f) (hb : attributeBase e f X.env (eval e X.env) = eval e X.env := by rfl) : SE X cl W (.Attribute e f pos) (dXf cs f m) := by
  refine ⟨⟨fun pins s σ H Q I w => ?_⟩⟩
  obtain ⟨r, en, st, re, rs, po⟩ := w
  refine attr_of hb ?_
  refine wpAny_mono (he.pe.run pins s σ H (fun v H1 => ∃ r1 st1 d, RS X.K cl r1 st1 H1 ∧ RD X.K H1 r1 d v ∧ Po X.K cl r1 H1 W (match d with
    | .ref n => match st1[n]? with
      | some (.xcp c fs) => if cs.contains c then match fs.lookup f with
          | some x => .ok x st1
          | none => .bad
        else .bad
      | _ => .bad
    | _ => .bad : Out D) fun r' H' d _ => ∀ v, RD X.K H' r' d v → Q v H') I ⟨r, en, st, re, rs, (Po.bind po).mono fun r1 H1 d st1 x1 rs1 p1 v rv => ⟨r1, st1, d, rs1, rv, p1⟩⟩) (fun u s1 ⟨v, H1, I1, rv, r1, st1, d, rs1, rd, po1⟩ => ?_) fun _ _ z => z
  split at po1
  · rename_i n
    obtain ⟨a, rfl, hn⟩ := rd.ref_inv
    obtain rfl : u = Value.ref a := rv
    split at po1
    · rename_i c fs g
      split at po1
      · rename_i hm
        split at po1
        · rename_i x ex
          obtain ⟨C', k1, k2, k3⟩ := hc c (List.contains_iff_mem.mp hm)
          obtain ⟨b, e1, C, d, _, _, z1, z2, _, _, z3⟩ := rs1.at_ n _ g
          rw [hn] at e1; cases e1
          rw [k1] at z1; cases z1
          obtain ⟨_, ⟨oe, vs, ho, hz, hd⟩, _, _⟩ := I1.hok a _ z2
          have no : PySem.W.notCls oe = true := by unfold PySem.W.notCls; rw [hd] <;> rfl
          rcases z3 with ⟨z3, _⟩ | ⟨dx, ws, e2, e3, e4, _⟩
          · rw [z3] at ex; cases ex
          · obtain ⟨mA, hns, hr⟩ := I1.hok dx _ e3
            obtain ⟨od, hod, hl⟩ := lookIn_ns hns
            rcases e4.look (f := f) with ⟨y, _⟩ | ⟨d1, v1, y1, y2, y3⟩
            · rw [ex] at y; cases y
            · rw [ex] at y1; cases y1
              obtain ⟨u1, hu, ru⟩ := RelO.some_of (v := v1) (o := mA f) (by rw [← y2]; exact hr f)
              have J : PySem.W.InstAt s1.heap a oe C' (some od) := ⟨ho, hz.1, no, by rw [hz.2.1, e2]; exact hod⟩
              exact HandSPX.exc_get I1.kIn J k2.ga k2.gg k2.sb (PySem.W.findObj_own k2.hd k3 rfl (by rw [hl, hu])) (handed_of ru) ⟨v1, H1, I1.tok _, ru, po1 r1 H1 .refl rs1 v1 y3⟩
        · exact po1.elim
      · exact po1.elim
    · exact po1.elim
  · exact po1.elim
end

/-! ### reasoning -/
section
variable [EK] {en : En} {st : S} {Q : D → S → Prop} {V : Fl × En → S → Prop} {m : EM}
theorem ok_raise {c : Str} : Ok (sRaise c en st) V ↔ EK.x ⟨c, []⟩ st := Iff.rfl
theorem ok_isE {tab : List ((Str × Str) × Bool)} {x : Str} : Ok (dIsE tab x m en st) Q ↔ Ok (m en st) fun d st1 => ∃ n c fs b, d = .ref n ∧ st1[n]? = some (.xcp c fs) ∧ tab.lookup (c, x) = some b ∧ Q (.bl b) st1 := by
  unfold dIsE; rw [ok_bind]
  constructor
  · intro h
    refine h.mono fun d st1 q => ?_
    split at q
    · split at q
      · rename_i g
        split at q
        · rename_i e; exact ⟨_, _, _, _, rfl, g, e, q⟩
        · exact q.elim
      · exact q.elim
    · exact q.elim
  · intro h
    refine h.mono fun d st1 ⟨n, c, fs, b, e, g, et, q⟩ => ?_
    subst e
    simp only [g, et]; exact q
theorem ok_xf {cs : List Str} {f : Str} : Ok (dXf cs f m en st) Q ↔ Ok (m en st) fun d st1 => ∃ n c fs x, d = .ref n ∧ st1[n]? = some (.xcp c fs) ∧ cs.contains c = true ∧ fs.lookup f = some x ∧ Q x st1 := by
  unfold dXf; rw [ok_bind]
  constructor
  · intro h
    refine h.mono fun d st1 q => ?_
    split at q
    · split at q
      · rename_i g
        split at q
        · rename_i hc
          split at q
          · rename_i e; exact ⟨_, _, _, _, rfl, g, hc, e, q⟩
          · exact q.elim
        · exact q.elim
      · exact q.elim
    · exact q.elim
  · intro h
    refine h.mono fun d st1 ⟨n, c, fs, x, e, g, hc, et, q⟩ => ?_
    subst e
    simp only [g, hc, et, if_true]; exact q
/-- what is raised is raised at the slots en -/
def AtE {α : Type} (en : En) (o : Out α) : Prop := match o with
  | .exc _ en1 _ => en1 = en
  | _ => True
theorem ok_try {tab : List ((Str × Str) × Bool)} {u : SM} {l : Hdl} (hu : AtE en (u en st)) (h : @Ok _ (u en st) V ⟨fun e st1 => Ok (hdl tab e en st1 l) V⟩) : Ok (sTry tab u l en st) V := by
  unfold sTry
  cases q : u en st with
  | ok p st1 => rw [q] at h; exact h
  | bad => rw [q] at h; exact h.elim
  | exc e en1 st1 =>
    rw [q] at h hu
    have : en1 = en := hu
    subst this
    exact h
/-- with what comes out told -/
theorem Ok.exc {α : Type} {o : Out α} {P : α → S → Prop} {E E' : Ex → S → Prop} (h : @Ok α o P ⟨E⟩) (q : ∀ e st, E e st → E' e st) : @Ok α o P ⟨E'⟩ := by
  cases o with
  | ok a st => exact h
  | exc e en st => exact q e st h
  | bad => exact h.elim
omit [EK] in
theorem hdl_take {tab : List ((Str × Str) × Bool)} {e : Ex} {x : Str} {su : SM} {l : Hdl} (h : tab.lookup (e.cls, x) = some true) : hdl tab e en st ((x, none, su) :: l) = nox (su en st) := by
  unfold hdl; rw [h]
omit [EK] in
theorem hdl_as {tab : List ((Str × Str) × Bool)} {e : Ex} {x : Str} {i : Nat} {su : SM} {l : Hdl} (h : tab.lookup (e.cls, x) = some true) :
    hdl tab e en st ((x, some i, su) :: l) = (nox (su (en.set i (some (.ref st.length))) (st ++ [.xcp e.cls e.fs]))).bind fun p st1 => .ok (p.1, p.2.set i none) st1 := by
  conv => lhs; unfold hdl
  rw [h]
omit [EK] in
theorem hdl_not {tab : List ((Str × Str) × Bool)} {e : Ex} {x : Str} {o : Option Nat} {su : SM} {l : Hdl} (h : tab.lookup (e.cls, x) = some false) : hdl tab e en st ((x, o, su) :: l) = hdl tab e en st l := by
  conv => lhs; unfold hdl
  rw [h]
theorem ok_nox {α : Type} {o : Out α} {P : α → S → Prop} : Ok (nox o) P ↔ @Ok α o P EK0 := by
  cases o <;> exact Iff.rfl
end
section
variable {en : En} {st : S} {m : EM} {mr : AM}
theorem ate_bind {α β : Type} {o : Out α} {f : α → S → Out β} (h : AtE en o) (h' : ∀ a st, AtE en (f a st)) : AtE en (o.bind f) := by
  cases o with
  | ok a st => exact h' a st
  | exc e en1 st => exact h
  | bad => trivial
theorem ate_atEn {α : Type} {o : Out α} : AtE en (atEn en o) := by
  cases o with
  | ok a st => trivial
  | exc e en1 st => rfl
  | bad => trivial
theorem ate_ok {α : Type} {a : α} : AtE en (.ok a st) := trivial
theorem ate_bad {α : Type} : AtE en (.bad : Out α) := trivial
theorem ate_var {i : Nat} : AtE en (dVar i en st) := by
  unfold dVar; split <;> trivial
theorem ate_c {d : D} : AtE en (dC d en st) := trivial
theorem ate_nil : AtE en (dNil en st) := trivial
theorem ate_cons (h : AtE en (m en st)) (h' : ∀ st, AtE en (mr en st)) : AtE en (dCons m mr en st) := ate_bind h fun _ st1 => ate_bind (h' st1) fun _ _ => trivial
theorem ate_call {np : Nat} {f : List D → S → Out D} (h : AtE en (mr en st)) : AtE en (dCall np f mr en st) := ate_bind h fun ds st1 => by
  split
  · exact ate_atEn
  · trivial
theorem ate_met {tab : List (Str × (List D → S → Out D))} {x : Str} {np : Nat} (h : AtE en (m en st)) (h' : ∀ st, AtE en (mr en st)) : AtE en (dMet tab x np m mr en st) := ate_bind h fun o st1 => by
  split
  · split
    · split
      · exact ate_bind (h' st1) fun ds st2 => by
          split
          · exact ate_atEn
          · trivial
      · trivial
    · trivial
  · trivial
theorem ate_expr (h : AtE en (m en st)) : AtE en (sExpr m en st) := ate_bind h fun _ _ => trivial
theorem ate_ret (h : AtE en (m en st)) : AtE en (sRet m en st) := ate_bind h fun _ _ => trivial
theorem ate_tup (h : AtE en (mr en st)) : AtE en (dTup mr en st) := ate_bind h fun _ _ => by split <;> trivial
theorem ate_if {t : TM} {a b : SM} (h : AtE en (t en st)) (h1 : ∀ st, AtE en (a en st)) (h2 : ∀ st, AtE en (b en st)) : AtE en (sIf t a b en st) := ate_bind h fun k st1 => by
  split
  · exact h1 st1
  · exact h2 st1
theorem ate_tru (h : AtE en (m en st)) : AtE en (dTru m en st) := ate_bind h fun _ _ => by split <;> trivial
end
end Dn

/-! Dn, K2: a text times a small int. -/
namespace Dn
open PySem PySem.Spec PyProof.Rows L2
/-- x, k times over -/
def timesS (x : Str) (k : Nat) : Str := ⟨(List.replicate k x.cps).foldl (· ++ ·) #[]⟩
def dMulS : D → D → S → Out D
  | .str x, .int k, st => if 2 ≤ k ∧ k ≤ 1000 ∧ 1 ≤ x.length ∧ x.length ≤ 1000 ∧ (timesS x k.toNat).length ≤ sizeLine then .ok (.str (timesS x k.toNat)) st else .bad
  | _, _, _ => .bad
def rMulS : R2 := fun x y H Q => ∃ i k, x = .str i ∧ y = .int k ∧ (2 ≤ k ∧ k ≤ 1000 ∧ 1 ≤ i.length ∧ i.length ≤ 1000 ∧ (timesS i k.toNat).length ≤ sizeLine) ∧ Q (.str (timesS i k.toNat)) H
theorem or_mulS {X : Cx} : OpR X (binaryOp .Mult) rMulS := by
  intro pins s σ H x y v u Q I rx ry h
  obtain ⟨i, k, rfl, rfl, ⟨h1, h2, h3, h4, h5⟩, q⟩ := h
  obtain ⟨t, rfl⟩ := rx
  obtain ⟨t', rfl⟩ := ry
  have hk : k.toNat ≤ 1000 := by omega
  refine PySem.P.mul_str ?_ (fun _ _ => ?_) (fun _ _ => ?_) ?_
  · rw [decide_eq_false (by omega), decide_eq_false (by omega)]; rfl
  · have : (1000 : Int) ≤ (2 ^ 63 - 1) / k := Int.le_ediv_of_mul_le (by omega) (by omega)
    omega
  · unfold Builtin.Str.tooLong
    rw [decide_eq_false_iff_not]
    have : i.length * k.toNat ≤ 1000 * 1000 := Nat.mul_le_mul h4 hk
    have : (1000 * 1000 : Nat) ≤ sizeLine := by decide
    omega
  · rw [if_neg (by omega), if_neg (by simp only [Bool.or_eq_true, beq_iff_eq, not_or]; omega)]
    exact ⟨h5, .str (timesS i k.toNat), H, I.tok _, ⟨_, rfl⟩, q⟩
theorem op2_mulS {K : Frag} {cl : Clm} : Op2 K cl dMulS rMulS := by
  intro r st H W x y v w Q hs hx hy hp
  unfold dMulS at hp
  split at hp
  · rw [hx.str_inv, hy.int_inv]
    split at hp
    · rename_i hc
      exact ⟨_, _, rfl, rfl, hc, hp r H .refl hs _ .str⟩
    · exact hp.elim
  · exact hp.elim
theorem v_mulS [EK] {x : Str} {k : Int} {st : S} {Q : D → S → Prop} : Ok (dMulS (.str x) (.int k) st) Q ↔ (2 ≤ k ∧ k ≤ 1000 ∧ 1 ≤ x.length ∧ x.length ≤ 1000 ∧ (timesS x k.toNat).length ≤ sizeLine) ∧ Q (.str (timesS x k.toNat)) st := by unfold dMulS; exact ok_iteB
end Dn

/-! Dn, K3: while. -/
namespace Dn
open PySem PySem.Spec PyProof.Rows L2
/-- at most n turns -/
noncomputable def whileD : Nat → TM → SM → SM
  | 0, _, _, _, _ => .bad
  | n + 1, t, u, en, st => (t en st).bind fun k st1 => if k = true then (u en st1).bind fun p st2 => match p.1 with
      | .nx => whileD n t u p.2 st2
      | .ct => whileD n t u p.2 st2
      | .bk => .ok (.nx, p.2) st2
      | .ret v => .ok (.ret v, p.2) st2
    else .ok (.nx, en) st1
def mostTurns : Nat := 1000000
@[irreducible] noncomputable def sWhile (t : TM) (u : SM) : SM := whileD mostTurns t u
section
variable {X : Cx} {cl : Clm} {W : WX} {c : Expr} {body : List Stmt} {t : TM} {u : SM} {pos : Pos}
theorem ss_while (hp : PassesOwn (model X.prog X.w) X.A X.env X.xe) (hc : SB X cl W c t) (hb : SL X cl W body u) : SS X cl W (.While c body [] pos) (sWhile t u) :=
  ⟨ps_of (ps_while hp hc.pt hb.pss) fun D s H ⟨r, en, st, he, hs, hq⟩ => by
    unfold sWhile at hq
    refine ⟨fun m σ H' => ∃ r' en' st', Xt X.K r H r' H' ∧ RE X.K H' r' en' σ ∧ RS X.K cl r' st' H' ∧ Po X.K cl r' H' W (whileD m t u en' st') (fun r2 H2 p _ => ∀ s', RE X.K H2 r2 p.2 s' → endOf X.K D r2 H2 s' p.1),
      ⟨mostTurns, r, en, st, .refl, he, hs, hq⟩, ?_⟩
    rintro m σ H' ⟨r', en', st', xx, he', hs', hq⟩
    cases m with
    | zero => exact hq.elim
    | succ m =>
      unfold whileD at hq
      refine ⟨r', en', st', he', hs', (Po.bind hq).mono fun r1 H1 k st1 x1 s1 h1 => ?_⟩
      cases k with
      | true =>
        rw [if_pos rfl] at h1 ⊢
        refine ⟨fun σ2 H2 => ∃ r2 en2 st2, Xt X.K r H r2 H2 ∧ RE X.K H2 r2 en2 σ2 ∧ RS X.K cl r2 st2 H2 ∧ Po X.K cl r2 H2 W (whileD m t u en2 st2) (fun r2 H2 p _ => ∀ s', RE X.K H2 r2 p.2 s' → endOf X.K D r2 H2 s' p.1),
          fun σ2 H2 h => ⟨m, Nat.lt_succ_self m, h⟩, ?_⟩
        refine ⟨r1, en', st1, he'.mono x1.mn, s1, (Po.bind h1).mono fun r3 H3 p st3 x3 s3 h3 s4 re3 => ?_⟩
        obtain ⟨f, en3⟩ := p
        have xx3 := (xx.trans x1).trans x3
        cases f with
        | nx => exact ⟨r3, en3, st3, xx3, re3, s3, h3⟩
        | ct => exact ⟨r3, en3, st3, xx3, re3, s3, h3⟩
        | bk => exact h3 r3 H3 .refl s3 s4 re3
        | ret v => exact h3 r3 H3 .refl s3 s4 re3
      | false =>
        simp only [Bool.false_eq_true, if_false] at h1 ⊢
        exact h1 r1 H1 .refl s1 σ (he'.mono x1.mn)⟩
end
section
variable [EK] {en : En} {st : S} {t : TM} {u : SM} {V : Fl × En → S → Prop}
theorem ok_whileD (I : Nat → En → S → Prop) (hs : ∀ m en st, I m en st → Ok (t en st) fun k st1 => if k = true then Ok (u en st1) (Tn (fun en2 st2 => ∃ m', m' < m ∧ I m' en2 st2) V) else V (.nx, en) st1) :
    ∀ (n m : Nat) (en : En) (st : S), m < n → I m en st → Ok (whileD n t u en st) V
  | 0, m, en, st, h, _ => absurd h (Nat.not_lt_zero _)
  | n + 1, m, en, st, h, hi => by
    unfold whileD
    rw [ok_bind]
    refine (hs m en st hi).mono fun k st1 hk => ?_
    cases k with
    | true =>
      rw [if_pos rfl] at hk ⊢
      rw [ok_bind]
      refine hk.mono fun p st2 hp => ?_
      obtain ⟨f, en2⟩ := p
      cases f with
      | nx => obtain ⟨m', hm, hi'⟩ := hp; exact ok_whileD I hs n m' en2 st2 (by omega) hi'
      | ct => obtain ⟨m', hm, hi'⟩ := hp; exact ok_whileD I hs n m' en2 st2 (by omega) hi'
      | bk => exact hp
      | ret v => exact hp
    | false => simp only [Bool.false_eq_true, if_false] at hk ⊢; exact hk
/-- a loop whose measure falls -/
theorem ok_while (I : Nat → En → S → Prop) {m : Nat} (h0 : I m en st) (hm : m < 1000000) (hs : ∀ m en st, I m en st → Ok (t en st) fun k st1 => if k = true then Ok (u en st1) (Tn (fun en2 st2 => ∃ m', m' < m ∧ I m' en2 st2) V) else V (.nx, en) st1) : Ok (sWhile t u en st) V := by
  unfold sWhile
  exact ok_whileD I hs mostTurns m en st hm h0
end
end Dn

/-! Dn, K4: a def out of a module's dict, called by way of a local name. -/
namespace Dn
open PySem PySem.Spec PyProof.Rows L2
section
variable {X : Cx} {d : Addr} {es : Array DictEntry} {n : Nat}
def rIxKd (K : Frag) (d : Addr) : R2 := fun x y H Q => ∃ z u0 v0, x = .ref d ∧ y = .str z ∧ PySem.W.nsIn K d z = some (some u0) ∧ RelV v0 u0 ∧ Q v0 H
theorem ix_kd (D : KDict X.K X.w d es n) : IxR X (rIxKd X.K d) := by
  intro value slice pins s σ H x y v u Q I rx ry ⟨z, u0, v0, ex, ey, e, r, q⟩ hs
  subst ex ey
  have hg := op_item_kd D pins s σ H _ _ v u Q I rx ry ⟨z, u0, v0, rfl, rfl, e, r, q⟩
  cases rx
  exact tail_any (kd_type D I) PySem.F.slot_dict_getitem.lookup hg hs
end
section
variable {X : Cx} {CX : CXT} {k i : Nat} {f : Addr} {fd : FuncData} {ps : List Str} {sp : Sp} {E : WX} {x : Str} {p pos : Pos} {e : Expr} {es : List Expr} {t : TA}
/-- a call of a local name that holds the def at f -/
theorem pe_callLS (F : FnOk X.prog X.w X.K X.mg X.base CX k f fd ps sp) (hr : Room k X.A) (hN : X.N[i]? = some x) (hv : Vis X.env.scope x) (hk : PySem.W.keepIn X.K (.ref f) = true) (hb : Binds X.K fd ps []) (hx : ∀ σ, PassesAt CX X σ (WE E σ)) (ha : PA X (e :: es) t)
    (hdb : (x == ("__debug__" : Str)) = false := by decide) (hcd : (x == ("__classdict__" : Str)) = false := by decide)
    (he : starEach (e :: es) X.env = (false, eval e X.env) :: starEach es X.env := by rfl) (hpl : (backTo pos (starEach es X.env)).any (·.1) = false := by rfl) :
    PE X (.Call (.Name x p) (e :: es) [] pos) (fun σ H Q => σ[i]? = some (some (.ref f)) ∧ t σ H fun vs H1 => sp vs H1 Q (WE E σ)) := by
  refine ⟨fun pins s σ H Q I h => ?_⟩
  obtain ⟨hs, ht⟩ := h
  refine wpAny_Call_Name_kw (thn ((pe_var (pos := p) hN hv hdb hcd).run pins s σ H (fun v H1 => v = .ref f ∧ H1 = H) I ⟨.ref f, hs, rfl, rfl⟩) fun u s1 ⟨v, H1, I1, r1, q1⟩ => ?_)
  obtain ⟨rfl, rfl⟩ := q1
  cases r1
  refine PySem.W.callWith_K (h₀ := X.base) I.ok.mod.kin hk (thn (ha.run pos pins s1 σ _ _ I1 ht) fun us s2 ⟨vs, H2, I2, r, q⟩ => ⟨I2.kIn, ?_⟩) he hpl
  exact run_fnS (E := WE E) F hr hb (hx σ) I2 r q
end
/-- i = D[key]; return i(args): D holds these defs -/
noncomputable def sVia (tab : List (Str × (List D → S → Out D))) (i np : Nat) (mk : EM) (mr : AM) : SM := fun en st => match en[i]?, mk en st with
  | some none, .ok (.str z) st1 => match tab.lookup z with
    | some f => (dCall np f mr en st1).bind fun v st2 => .ok (.ret v, en) st2
    | none => .bad
  | _, _ => .bad
/-- the dict at d holds at z a def that is worth f -/
def ViaOk (P : Program) (w : World) (K : Frag) (mg : Str → Option Value) (base : Heap) (cl : Clm) (d : Addr) (np k : Nat) (z : Str) (f : List D → S → Out D) : Prop :=
  ∃ fa fd ps, PySem.W.nsIn K d z = some (some (.ref fa)) ∧ PySem.W.keepIn K (.ref fa) = true ∧ Binds K fd ps [] ∧ FnOk P w K mg base (L2N.CX P w) k fa fd ps (spD K cl np f)
theorem via_of {P : Program} {w : World} {K : Frag} {mg : Str → Option Value} {base : Heap} {cl : Clm} {d fa : Addr} {np j k : Nat} {z x : Str} {f : List D → S → Out D} (F : FnD P w K mg base cl x np j f) (hj : j ≤ k) (hm : mg x = some (.ref fa)) (hz : PySem.W.nsIn K d z = some (some (.ref fa))) : ViaOk P w K mg base cl d np k z f := by
  obtain ⟨fa', fd, ps, a, b, c, o⟩ := F.mono hj
  rw [hm] at a
  cases a
  exact ⟨fa, fd, ps, hz, b, c, o⟩
theorem re_free {K : Frag} {H : Hp} {r : Rho} {en : En} {σ : L2.St} {i : Nat} {v : Option V} (h : RE K H r en σ) (hi : en[i]? = some none) : RE K H r en (σ.set i v) := by
  refine ⟨by rw [List.length_set]; exact h.1, fun j d hj => ?_⟩
  have : i ≠ j := fun e => by subst e; rw [hi] at hj; cases hj
  rw [List.getElem?_set_ne this]
  exact h.2 j d hj
section
variable {X : Cx} {cl : Clm} {W : WX} {d : Addr} {ds : Array DictEntry} {n i np k : Nat} {dn chk : Str} {key e : Expr} {es : List Expr} {mk : EM} {mr : AM} {tab : List (Str × (List D → S → Out D))} {p1 p2 p3 p4 p5 p6 p7 : Pos}
theorem sl_via (D : KDict X.K X.w d ds n) (hg : Gl X dn) (hm : X.mg dn = some (.ref d)) (hT : ∀ z f, tab.lookup z = some f → ViaOk X.prog X.w X.K X.mg X.base cl d np k z f) (hr : Room k X.A) (tk : TkC X W)
    (hN : X.N.Nodup) (hi : X.N[i]? = some chk) (hx : Loc X.env.scope chk) (hv : Vis X.env.scope chk) (hk : SE X cl W key mk) (hp : PlainIx key) (ha : SA X cl W (e :: es) mr)
    (hs : swapsWith (.Subscript (.Name dn p2) key p3) (some (.Name chk p1)) p4.line X.env = pure false := by rfl) (hf : X.fn chk = true ∨ X.env.scope.names.lookup chk = some .local := by first | exact .inl rfl | exact .inr rfl | assumption)
    (hdb : (chk == ("__debug__" : Str)) = false := by decide) (hcd : (chk == ("__classdict__" : Str)) = false := by decide) (hdn : (dn == ("__debug__" : Str)) = false := by decide)
    (he : starEach (e :: es) X.env = (false, eval e X.env) :: starEach es X.env := by rfl) (hpl : (backTo p6 (starEach es X.env)).any (·.1) = false := by rfl) :
    SL X cl W [.Assign [.Name chk p1] (.Subscript (.Name dn p2) key p3) p4, .Return (some (.Call (.Name chk p5) (e :: es) [] p6)) p7] (sVia tab i np mk mr) := by
  refine ⟨⟨fun pins s σ H Dn I h => ?_⟩⟩
  obtain ⟨r, en, st, hre, hrs, hq⟩ := h
  unfold sVia at hq
  split at hq
  · rename_i z st1 hen hmk
    split at hq
    · rename_i f hl
      obtain ⟨fa, fd, ps, e2, hkp, hb, F⟩ := hT z f hl
      refine (pss_cons (ps_set (i := i) hN hi hx (pe_ix (ix_kd D) (pe_glob hg hm (v := .ref d) rfl hdn) hk.pe hp) hs hf) (pss_one (ps_ret (pe_callLS (i := i) (E := W) F hr hi hv hkp hb tk ha.pa hdb hcd he hpl)))).run pins s σ H Dn I ?_
      refine ⟨r, en, st, hre, hrs, ?_⟩
      rw [hmk]
      intro r1 H1 x1 s1 v q
      refine ⟨z, .ref fa, .ref fa, rfl, q.str_inv, e2, rfl, ?_⟩
      have hlt : i < σ.length := by rw [← hre.1]; exact (List.getElem?_eq_some_iff.mp hen).1
      refine ⟨List.getElem?_set_self hlt, ?_⟩
      have he' := re_free (v := some (.ref fa)) (hre.mono x1.mn) hen
      exact tE_call ⟨r1, en, st1, he', s1, (Po.bind (Po.xt x1 hq)).mono fun r2 H2 dd st2 x2 s2 h2 v q => h2 r2 H2 .refl s2 _ (he'.mono x2.mn) v q⟩
    · exact hq.elim
  · exact hq.elim
end
/-- the name dn of the module holds a dict; at these keys it holds the defs of these names -/
def KdAt (K : Frag) (w : World) (mg : Str → Option Value) (dn : Str) (ks : List (Str × Str)) : Prop :=
  ∃ d es n, mg dn = some (.ref d) ∧ KDict K w d es n ∧ ∀ q ∈ ks, ∃ fa, PySem.W.nsIn K d q.1 = some (some (.ref fa)) ∧ mg q.2 = some (.ref fa)
theorem use_kd {K : Frag} {h : Heap} {mg : Str → Option Value} {w : World} {Z : Prop} {dn : Str} {ks : List (Str × Str)} {d : Addr} {es : Array DictEntry} {n : Nat} (X : K.In h) (N : h.Ns mainGlobals mg) (a : PySem.W.nsIn K mainGlobals dn = some (some (.ref d)))
    (l : K.lookup d = some ⟨.type "dict", none, .dict es n, #[]⟩) (lit : PySem.W.KeysLit w.params es.toList) (low : (d == sysModules) = false) (m : ∀ q ∈ ks, ∃ fa, PySem.W.nsIn K d q.1 = some (some (.ref fa)) ∧ PySem.W.nsIn K mainGlobals q.2 = some (some (.ref fa)))
    (z : KdAt K w mg dn ks → Z) : Z :=
  z ⟨d, es, n, PySem.W.mg_of X N a, ⟨l, lit, low⟩, fun q hq => let ⟨fa, h1, h2⟩ := m q hq; ⟨fa, h1, PySem.W.mg_of X N h2⟩⟩
theorem kd_nil {K : Frag} {d : Addr} : ∀ q ∈ ([] : List (Str × Str)), ∃ fa, PySem.W.nsIn K d q.1 = some (some (.ref fa)) ∧ PySem.W.nsIn K mainGlobals q.2 = some (some (.ref fa)) := fun _ h => nomatch h
theorem kd_cons {K : Frag} {d fa : Addr} {z x : Str} {ks : List (Str × Str)} (h1 : PySem.W.nsIn K d z = some (some (.ref fa))) (h2 : PySem.W.nsIn K mainGlobals x = some (some (.ref fa))) (h : ∀ q ∈ ks, ∃ fa, PySem.W.nsIn K d q.1 = some (some (.ref fa)) ∧ PySem.W.nsIn K mainGlobals q.2 = some (some (.ref fa))) :
    ∀ q ∈ (z, x) :: ks, ∃ fa, PySem.W.nsIn K d q.1 = some (some (.ref fa)) ∧ PySem.W.nsIn K mainGlobals q.2 = some (some (.ref fa)) := fun q hq => by
  rcases List.mem_cons.mp hq with rfl | hq
  · exact ⟨fa, h1, h2⟩
  · exact h q hq
theorem lookIn {α : Type} {z : Str} {f : α} : ∀ {l : List (Str × α)}, l.lookup z = some f → (z, f) ∈ l
  | [], h => by simp at h
  | (a, b) :: l, h => by
    simp only [List.lookup] at h
    split at h
    · rename_i e
      cases h
      rw [eq_of_beq e]
      exact List.mem_cons_self
    · exact List.mem_cons_of_mem _ (lookIn h)
section
variable {X : Cx} {cl : Clm} {W : WX} {i np k : Nat} {dn chk : Str} {key e : Expr} {es : List Expr} {mk : EM} {mr : AM} {L : List (Str × Str × (List D → S → Out D))} {p1 p2 p3 p4 p5 p6 p7 : Pos}
theorem sl_viaK (h : KdAt X.K X.w X.mg dn (L.map fun q => (q.1, q.2.1))) (hF : ∀ q ∈ L, FnD X.prog X.w X.K X.mg X.base cl q.2.1 np k q.2.2) (hg : Gl X dn) (hr : Room k X.A) (tk : TkC X W)
    (hN : X.N.Nodup) (hi : X.N[i]? = some chk) (hx : Loc X.env.scope chk) (hv : Vis X.env.scope chk) (hk : SE X cl W key mk) (hp : PlainIx key) (ha : SA X cl W (e :: es) mr)
    (hs : swapsWith (.Subscript (.Name dn p2) key p3) (some (.Name chk p1)) p4.line X.env = pure false := by rfl) (hf : X.fn chk = true ∨ X.env.scope.names.lookup chk = some .local := by first | exact .inl rfl | exact .inr rfl | assumption)
    (hdb : (chk == ("__debug__" : Str)) = false := by decide) (hcd : (chk == ("__classdict__" : Str)) = false := by decide) (hdn : (dn == ("__debug__" : Str)) = false := by decide)
    (he : starEach (e :: es) X.env = (false, eval e X.env) :: starEach es X.env := by rfl) (hpl : (backTo p6 (starEach es X.env)).any (·.1) = false := by rfl) :
    SL X cl W [.Assign [.Name chk p1] (.Subscript (.Name dn p2) key p3) p4, .Return (some (.Call (.Name chk p5) (e :: es) [] p6)) p7] (sVia (L.map fun q => (q.1, q.2.2)) i np mk mr) := by
  obtain ⟨d, ds, n, hm, D, hz⟩ := h
  refine sl_via D hg hm (fun z f hl => ?_) hr tk hN hi hx hv hk hp ha hs hf hdb hcd hdn he hpl
  obtain ⟨q, hq, e⟩ := List.mem_map.mp (lookIn hl)
  cases e
  obtain ⟨fa, h1, h2⟩ := hz (q.1, q.2.1) (List.mem_map.mpr ⟨q, hq, rfl⟩)
  exact via_of (hF q hq) (Nat.le_refl _) h2 h1
end
section
variable [EK] {en : En} {st : S} {mk : EM} {mr : AM} {tab : List (Str × (List D → S → Out D))} {i np : Nat} {V : Fl × En → S → Prop}
theorem ok_via (hen : en[i]? = some none) (h : @Ok D (mk en st) (fun d st1 => ∃ z f, d = .str z ∧ tab.lookup z = some f ∧ Ok (dCall np f mr en st1) fun v st2 => V (.ret v, en) st2) EK0) : Ok (sVia tab i np mk mr en st) V := by
  obtain ⟨d, st1, e, z, f, rfl, hl, hq⟩ := h.ex0
  unfold sVia
  rw [hen, e]
  simp only [hl]
  rw [ok_bind]
  exact hq.mono fun v st2 q => q
end
end Dn

/-! Dn, M1: range(..) as a value, {text: ..}, sorted of data. -/
namespace Dn
open PySem PySem.Spec PyProof.Rows L2
open PySem.W (EachIs SortsAt Sortable AllAlike dataLe dataKind sortVals copyHeap copyHeap_old sortingHeap sortingHeap_old sorted_vals sortVals_data)

/-! ### an object that no number stands for gets what it holds, and the next number -/
theorem put_free {K : Frag} {cl : Clm} {r r1 : Rho} {st1 : S} {H H1 : Hp} {p : Addr} {u u' : HO} {o : O} (s1 : RS K cl r1 st1 H1) (free : ∀ n, n ≠ 0 → r1 n ≠ some p) (stays : H1 p = some u) (mu : Mu u) (hx : ∀ vs, u ≠ .xd vs) (y : Xt K r H r1 H1) (np : H p = none)
    (ho : RO K cl (upd H1 p u') (nxt r1 st1.length p) o p) (hf : isFrz o = false) : RS K cl (nxt r1 st1.length p) (st1 ++ [o]) (upd H1 p u') ∧ Xt K r H (nxt r1 st1.length p) (upd H1 p u') := by
  have m1 : Mn K r1 H1 r1 (upd H1 p u') := ⟨fun _ _ z => z, fun b ys z => sqt_upd (mu.nt stays) (mu.nf stays) z⟩
  have fr : ∀ b ob w, H1 b = some (.frz ob w) → upd H1 p u' b = some (.frz ob w) := fun b ob w e => by
    have ne : b ≠ p := fun q => mu.nf stays ob w (by rw [← q]; exact e)
    exact (upd_ne ne).trans e
  have s2 : RS K cl r1 st1 (upd H1 p u') := by
    refine ⟨s1.dom, fun n w e => ?_, s1.inj, s1.fz, s1.pos, fun q hm => tabG_upd (s1.tabs q hm) (fun e => by
      obtain ⟨ps, z, _⟩ := s1.tabs q hm
      rw [e, stays] at z; cases z; exact mu.ntb rfl), fun q hm => ?_⟩
    · obtain ⟨a, z1, z2⟩ := s1.at_ n w e
      by_cases n0 : n = 0
      · have fo := (s1.fz n w e).mpr n0
        cases w with
        | frz l =>
          obtain ⟨xs, w1, w2⟩ := z2
          refine ⟨a, z1, xs, ?_, w2.mono m1⟩
          rcases w1 with (w1 | ⟨ob, w1⟩) | w1
          · obtain ⟨_, _, _, e'⟩ := fzH_some w1
            cases e'
          · exact .inl (.inr ⟨ob, fzH_of (fr a ob _ (fzH_some w1).1)⟩)
          · exact .inr w1
        | lst l => cases fo
        | ins c fs => cases fo
        | set l => cases fo
        | dT l => cases fo
        | dK l => cases fo
        | xcp c d => cases fo
        | rng c d => cases fo
      · exact ⟨a, z1, z2.xt m1 (XdK.upd stays hx) fun v _ z => by rw [upd_ne (fun q => free n n0 (by rw [← q]; exact z1))]; exact z⟩
    · obtain ⟨ob, w, vs, z1, z2⟩ := s1.hotf q hm
      exact ⟨ob, w, vs, fr q ob w z1, z2⟩
  refine ⟨s2.push free ho hf, fun n a e => Xt.nxt0 s1.dom n a (y.ext n a e), fun n a e => ?_, fun b w hb hn ht => ?_, fun b hb => ?_, fun b xs hq => m1.sqt b xs (y.sqt b xs hq), fun b ob w e => fr b ob w (y.frz b ob w e)⟩
  · by_cases q : n = st1.length
    · subst q; rw [nxt_self] at e; cases e; exact .inr np
    · rw [nxt_old q] at e
      exact y.new n a e
  · rw [upd_ne (ne_of_none hb np)]
    exact y.keep b w hb hn ht
  · by_cases q : b = p
    · subst q; exact np
    · rw [upd_ne q] at hb
      exact y.there b hb

/-! ### {text: ..} -/
abbrev mgK (acc more : List (Key × D)) : List (Key × D) := more.foldl (fun acc x => putQ acc x.1 x.2) acc
theorem mgK_pr {R : D → V → Prop} : ∀ {more acc : List (Key × D)} {ms as : List (Key × V)}, Paired (fun p q => p.1 = q.1 ∧ R p.2 q.2) more ms → Paired (fun p q => p.1 = q.1 ∧ R p.2 q.2) acc as → Paired (fun p q => p.1 = q.1 ∧ R p.2 q.2) (mgK acc more) (mergeK as ms)
  | [], _, _, _, .nil, h => h
  | x :: more, acc, y :: ms, as, .cons h t, r => by
    show Paired (fun p q => p.1 = q.1 ∧ R p.2 q.2) (mgK (putQ acc x.1 x.2) more) (mergeK (putK as y.1 y.2) ms)
    refine mgK_pr t ?_
    rw [putK_putQ, h.1]
    exact upd_pr (R := fun _ => R) r (fun _ _ z => h.2) h.2
def keyKI (p : D × D) : Option (Key × D) := (keyI p.1).map fun k => (k, p.2)
def dDispK (m : PM) : EM := fun en st => (m en st).bind fun ps st1 => match mapO keyKI ps with
  | some l => if l.length ≤ 15 then .ok (.ref st1.length) (st1 ++ [.dK (mgK [] l)]) else .bad
  | none => .bad
theorem keyKI_of {K : Frag} {H : Hp} {r : Rho} : ∀ {ps : List (D × D)} {l : List (Key × D)} {vs : List (V × V)}, mapO keyKI ps = some l → Paired (fun p q => RD K H r p.1 q.1 ∧ RD K H r p.2 q.2) ps vs →
    ∃ L : List (Key × V), vs = L.map (fun x => (kV x.1, x.2)) ∧ Paired (fun p q => p.1 = q.1 ∧ RD K H r p.2 q.2) l L
  | [], l, _, h, .nil => by
    cases h; exact ⟨[], rfl, .nil⟩
  | p :: ps, l, q :: vs, h, .cons a t => by
    obtain ⟨y, ys, e1, e2, rfl⟩ := mapO_cons h
    obtain ⟨L, h1, h2⟩ := keyKI_of e2 t
    unfold keyKI at e1
    obtain ⟨k, ek, rfl⟩ := Option.map_eq_some_iff.mp e1
    obtain ⟨q1, q2⟩ := q
    have e3 : q1 = kV k := key_of ek a.1
    subst e3
    exact ⟨(k, q2) :: L, by rw [List.map_cons, h1], .cons ⟨rfl, a.2⟩ h2⟩
section
variable {X : Cx} {cl : Clm} {W : WX} {pos : Pos} {ks : List (Option Expr)} {vs : List Expr}
theorem se_dispK {m : PM} (h : SP X cl W pos ks vs m) (hall : ks.all (·.isSome) = true := by rfl) (hl : ks.length = vs.length := by rfl) (h0 : ks ≠ [] := by intro z; cases z) (h15 : ks.length ≤ 15 := by decide) : SE X cl W (.Dict ks vs pos) (dDispK m) := by
  obtain ⟨trs, h1, h2⟩ := h.ex
  refine ⟨pe_of (pe_disp h1 hall hl h0 h15) fun s H Q ⟨r, en, st, he, hs, hp⟩ p np => ?_⟩
  have x0 : Xt X.K r H r (upd H p (.dK [])) := Xt.fresh np
  refine h2 s _ _ ⟨r, en, st, he.mono x0.mn, hs.fresh np, ?_⟩
  unfold dDispK at hp
  cases hm : m en st with
  | bad => rw [hm] at hp; exact hp.elim
  | exc e en2 st2 => rw [hm] at hp; exact fun r2 H2 s c d y z w1 w2 => hp r2 H2 s c d (x0.trans y) z w1 w2
  | ok ps st1 =>
  rw [hm, bind_ok] at hp
  intro r1 H1 x1 s1 ws rw'
  have free : ∀ n, n ≠ 0 → r1 n ≠ some p := fun n n0 e => by
    rcases x1.new n p e with z | z
    · exact hs.some_of n0 z np
    · rw [upd_same] at z; cases z
  have stays : H1 p = some (.dK []) := x1.keep p _ upd_same (fun n n0 e => hs.some_of n0 e np) (fun _ z => nomatch z)
  cases e1 : mapO keyKI ps with
  | none => simp only [e1] at hp; exact hp.elim
  | some l =>
    simp only [e1] at hp
    split at hp
    · rename_i l15
      obtain ⟨L, eL, pr⟩ := keyKI_of e1 rw'
      refine ⟨stays, L, eL, by rw [← Paired.length pr]; exact l15, ?_⟩
      have mu : Mu (.dK []) := .inr (.inr (.inr ⟨_, rfl⟩))
      have mm : Mn X.K r1 H1 (nxt r1 st1.length p) (upd H1 p (.dK (mergeK [] L))) := ⟨Xt.nxt0 s1.dom, fun b ys z => sqt_upd (mu.nt stays) (mu.nf stays) z⟩
      have pm : Paired (fun p q => p.1 = q.1 ∧ RD X.K H1 r1 p.2 q.2) (mgK [] l) (mergeK [] L) := mgK_pr pr .nil
      obtain ⟨s3, x3⟩ := put_free (u' := .dK (mergeK [] L)) (o := .dK (mgK [] l)) s1 free stays mu (fun _ z => nomatch z) (x0.trans x1) np ⟨_, upd_same, Paired.mapP pm fun _ _ q => ⟨q.1, q.2.mono mm⟩⟩ rfl
      exact hp _ _ x3 s3 _ (.ref nxt_self)
    · exact hp.elim
end

/-! ### range(n), as a value; walked by its name -/
def dRng : List D → S → Out D
  | [.int j], st => .ok (.ref st.length) (st ++ [.rng 0 j])
  | _, _ => .bad
def pRng : List V → Hp → VK → Prop := fun vs H Q => ∃ j, vs = [V.int j] ∧ ∀ p, H p = none → Q (.ref p) (upd H p (.rng 0 j))
theorem cr_rng {X : Cx} : CallR X (.type "range") pRng := by
  intro pins s σ H vs us Q I r h
  obtain ⟨j, rfl, q⟩ := h
  cases r with
  | cons r1 rr =>
    cases rr
    obtain ⟨t, rfl⟩ := (show ∃ t, _ = Value.int j t from r1)
    exact call_range_1 ⟨.ref s.heap.objs.size, _, I.laid (t' := s.toks + 1 + 1) (o := .rng 0 j) (fun b o e => Heap.get?_push_of_some _ e) (Nat.le_refl _) ⟨_, _, _, Heap.get?_push_size _ rfl⟩, rfl, q _ (I.hok.fresh (Nat.le_refl _))⟩
theorem opn_rng {K : Frag} {cl : Clm} : OpN K cl dRng pRng := by
  intro r st H W xs vs Q hs hx hp
  unfold dRng at hp
  split at hp
  · rename_i j
    obtain ⟨v, rfl, q⟩ := rds1 hx
    refine ⟨j, by rw [q.int_inv], fun p np => ?_⟩
    obtain ⟨z1, z2⟩ := push_new (o := .rng 0 j) (u := .rng 0 j) hs np (show upd H p (.rng 0 j) p = _ from upd_same) rfl
    exact hp _ _ z2 z1 _ (.ref nxt_self)
  · exact hp.elim
def iRgV (m : EM) : IM := fun en st => (m en st).bind fun d st1 => match d with
  | .ref n => match st1[n]? with
    | some (.rng lo hi) => if -(2 ^ 62) ≤ lo ∧ lo < 2 ^ 62 ∧ -(2 ^ 62) ≤ hi ∧ hi < 2 ^ 62 then .ok ⟨rgD lo hi, []⟩ st1 else .bad
    | _ => .bad
  | _ => .bad
theorem pi_rgV {X : Cx} {tg e : Expr} {te : TE} (h : PE X e te) : PI X tg e fun s H R => te s H fun x H1 => ∃ a lo hi, x = .ref a ∧ H1 a = some (.rng lo hi) ∧ (-(2 ^ 62) ≤ lo ∧ lo < 2 ^ 62 ∧ -(2 ^ 62) ≤ hi ∧ hi < 2 ^ 62) ∧ R (Itr lo (hi - lo).toNat) H1 :=
  ⟨fun pins s σ H R I hw => thn (h.run pins s σ H _ I hw) fun v s1 ⟨x, H1, I1, rx, a, lo, hi, ex, ha, hb, q⟩ => by
    subst ex; cases rx
    obtain ⟨t, u, w, ho⟩ := I1.hok a _ ha
    refine wpAny_pyIter_range (t := t) (u := u) (v := w) ho (small_one hb.1 hb.2.1 hb.2.2.1 hb.2.2.2) ?_
    refine pi_one (tk := s1.toks) I1 _ (turn_range _ lo (hi - lo).toNat) ?_ q
    have e1 : lo + ((0 : Nat) : Int) * 1 = lo := by simp
    have e2 : (((hi - lo).toNat : Nat) : Int) - ((0 : Nat) : Int) = Builtin.Range.rangeSize lo hi 1 := by rw [rangeSize_one]; split <;> omega
    show IsRangeIter _ _ (lo + ((0 : Nat) : Int) * 1) ((((hi - lo).toNat : Nat) : Int) - ((0 : Nat) : Int)) 1
    rw [e1, e2]
    exact Heap.get?_push_size _ rfl⟩
theorem si_rgV {X : Cx} {cl : Clm} {W : WX} {tg e : Expr} {m : EM} (h : SE X cl W e m) : SI X cl W tg e (fun s H R => tE X.K cl W m s H fun x H1 => ∃ a lo hi, x = .ref a ∧ H1 a = some (.rng lo hi) ∧ (-(2 ^ 62) ≤ lo ∧ lo < 2 ^ 62 ∧ -(2 ^ 62) ≤ hi ∧ hi < 2 ^ 62) ∧ R (Itr lo (hi - lo).toNat) H1) (iRgV m) :=
  ⟨pi_rgV h.pe, fun s H R ⟨r, en, st, he, hs, hp⟩ => ⟨r, en, st, he, hs, (Po.bind hp).mono fun r1 H1 d st1 x1 s1 h1 v q => by
    split at h1
    · rename_i n
      obtain ⟨a, rfl, q1⟩ := q.ref_inv
      split at h1
      · rename_i lo hi g
        split at h1
        · rename_i hz
          obtain ⟨b, z1, z2⟩ := s1.at_ n _ g
          rw [q1] at z1; cases z1
          exact ⟨a, lo, hi, rfl, z2, hz, h1 r1 H1 .refl s1 _ (wj_rng rfl)⟩
        · exact h1.elim
      · exact h1.elim
    · exact h1.elim⟩⟩

/-! ### sorted(l), l a list of tuples of ints -/
def sortD (l : List D) : List D := ((List.range l.length).mergeSort (dataLe false fun i => (l.map toP).getD i .none)).map fun i => l.getD i .non
/-- a tuple of ints that is not empty -/
def tupN (d : D) : Bool := match tupI d with
  | some (_ :: _) => true
  | _ => false
def dSortD : List D → S → Out D
  | [.ref n], st => match st[n]? with
    | some (.lst l) => if l.all tupN = true then .ok (.ref st.length) (st ++ [.lst (sortD l)]) else .bad
    | _ => .bad
  | _, _ => .bad
def pSortD (K : Frag) : List V → Hp → VK → Prop := fun vs H Q => ∃ (a : Addr) (xs : List V) (ks : List (List Int)), vs = [V.ref a] ∧ SqL K H a xs ∧ Paired (fun x ns => ns ≠ [] ∧ ∃ t, x = .ref t ∧ SqT K H t (ns.map V.int)) xs ks ∧
  ∀ p, H p = none → Q (.ref p) (upd H p (.lst (((List.range xs.length).mergeSort (dataLe false fun i => (ks.map fun ns => PyData.tuple (ns.map .int)).getD i .none)).map fun i => xs.getD i .non)))
theorem each_of {α β : Type} {R : α → β → Prop} : ∀ {as : List α} {bs : List β}, as.length = bs.length → (∀ (i : Nat) (a : α) (b : β), as[i]? = some a → bs[i]? = some b → R a b) → EachIs R as bs
  | [], [], _, _ => .nil
  | [], _ :: _, h, _ => by simp at h
  | _ :: _, [], h, _ => by simp at h
  | a :: as, b :: bs, h, r => .cons (r 0 a b rfl rfl) (each_of (by simpa using h) fun i x y hx hy => r (i + 1) x y (by simpa using hx) (by simpa using hy))
theorem dpAll_ints {K : Frag} {H : Hp} : ∀ ns : List Int, DpAll K H (ns.map V.int) (ns.map PyData.int)
  | [] => .nil
  | n :: ns => .cons (.int n) (dpAll_ints ns)
theorem paired_at {α β : Type} {R : α → β → Prop} {as : List α} {bs : List β} (h : Paired R as bs) : ∀ (i : Nat) (a : α), as[i]? = some a → ∃ b, bs[i]? = some b ∧ R a b := by
  induction h with
  | nil => intro i a e; simp at e
  | cons r t ih =>
    intro i a e
    cases i with
    | zero => simp at e; subst e; exact ⟨_, rfl, r⟩
    | succ i => obtain ⟨b, e1, e2⟩ := ih i a (by simpa using e); exact ⟨b, by simpa using e1, e2⟩
theorem cr_sortD {X : Cx} (hu : X.A.units + 65 < cLine) : CallR X (.builtin "sorted") (pSortD X.K) := by
  intro pins s σ H vs us Q I r h
  obtain ⟨a, xs, ks, rfl, hs, pr, q⟩ := h
  obtain rfl := Vals.ref1 r
  obtain ⟨its, rv, hl, hz⟩ := I.list hs
  have lx : xs.length = its.length := rv.length
  have lk : xs.length = ks.length := Paired.length pr
  generalize hd : (ks.map fun ns => PyData.tuple (ns.map PyData.int)) = ds at q
  have ld : ds.length = its.length := by rw [← hd, List.length_map]; omega
  have at1 : ∀ i v, its[i]? = some v → ∃ (t : Addr) (ns : List Int), v = Value.ref t ∧ ns ≠ [] ∧ SqT X.K H t (ns.map V.int) ∧ ds[i]? = some (PyData.tuple (ns.map PyData.int)) := fun i v e => by
    obtain ⟨x, ex, rx⟩ := vals_get rv e
    obtain ⟨ns, e1, n0, t, rfl, sq⟩ := paired_at pr i x ex
    exact ⟨t, ns, rx, n0, sq, by rw [← hd, List.getElem?_map, e1]; rfl⟩
  have e : EachIs (fun v i => its[i]? = some v) its (List.range its.length) := each_of (by rw [List.length_range]) fun i v j e1 e2 => by
    have := (List.getElem?_eq_some_iff.mp e2)
    obtain ⟨h1, h2⟩ := this
    rw [List.getElem_range] at h2
    subst h2; exact e1
  have eds : (List.range its.length).map (fun i => ds.getD i .none) = ds := by
    refine List.ext_getElem? fun j => ?_
    rw [List.getElem?_map]
    by_cases hj : j < its.length
    · rw [List.getElem?_range hj, List.getElem?_eq_getElem (by omega)]
      show some (ds.getD j .none) = _
      rw [List.getD_eq_getElem?_getD, List.getElem?_eq_getElem (by omega)]; rfl
    · rw [List.getElem?_eq_none (by rw [List.length_range]; omega), List.getElem?_eq_none (by omega)]; rfl
  have mem : ∀ d ∈ ds, ∃ ns : List Int, ns ≠ [] ∧ d = PyData.tuple (ns.map PyData.int) := fun d hm => by
    obtain ⟨i, hi, rfl⟩ := List.getElem_of_mem hm
    obtain ⟨t, ns, _, n0, _, e2⟩ := at1 i _ (List.getElem?_eq_getElem (by omega))
    rw [List.getElem?_eq_getElem hi] at e2
    exact ⟨ns, n0, Option.some.inj e2⟩
  have hal : AllAlike ds := fun d h1 d' h2 => by
    obtain ⟨ns, _, rfl⟩ := mem d h1
    obtain ⟨ms, _, rfl⟩ := mem d' h2
    rw [PySem.W.alike]
    exact PySem.W.alike_ints ns ms
  have hk : Sortable ds := .inl fun d h1 => by
    obtain ⟨ns, n0, rfl⟩ := mem d h1
    cases ns with
    | nil => exact absurd rfl n0
    | cons n ns => exact ⟨_, _, rfl⟩
  have kp : ∀ b o, s.heap.get? b = some o → (sortingHeap (copyHeap s.heap its) (s.heap.objs.size + 1) its).get? b = some o := fun b o e => sortingHeap_old (Nat.ne_of_lt (Nat.lt_succ_of_lt (Heap.lt_size e))) (copyHeap_old e)
  have I2 : Inv X pins σ H { s with heap := sortingHeap (copyHeap s.heap its) (s.heap.objs.size + 1) its } := I.kept (t' := s.toks) kp
  have er : EachIs (fun v d => ∃ as, Reads (sortingHeap (copyHeap s.heap its) (s.heap.objs.size + 1) its) v d as) its ds := each_of ld.symm fun i v d e1 e2 => by
    obtain ⟨t, ns, rfl, _, sq, e3⟩ := at1 i v e1
    rw [e2] at e3; cases e3
    exact Dp.reads I2 _ (V.ref t) _ (.tup sq (dpAll_ints ns)) rfl
  have dep : ∀ d ∈ ds, d.depth ≤ 1 := fun d h1 => by
    obtain ⟨ns, _, rfl⟩ := mem d h1
    have := PySem.W.depth_ints ns
    simp only [PyData.depth, this]; omega
  refine sorted_vals (κ := dataKind (sortingHeap (copyHeap s.heap its) (s.heap.objs.size + 1) its) ds) hl.isList (SortsAt.data er hal hk fun d h1 => by
    have := dep d h1
    show X.A.units + 1 + 1 + d.depth < cLine
    omega) (by omega) ?_
  have er2 : EachIs (fun v i => ∃ as, Reads (sortingHeap (copyHeap s.heap its) (s.heap.objs.size + 1) its) v (ds.getD i .none) as) its (List.range its.length) := each_of (by rw [List.length_range]) fun i v j e1 e2 => by
    obtain ⟨h1, h2⟩ := List.getElem?_eq_some_iff.mp e2
    rw [List.getElem_range] at h2
    subst h2
    obtain ⟨t, ns, rfl, _, sq, e3⟩ := at1 i v e1
    rw [List.getD_eq_getElem?_getD, e3]
    exact Dp.reads I2 _ (V.ref t) _ (.tup sq (dpAll_ints ns)) rfl
  have out := sortVals_data (h' := sortingHeap (copyHeap s.heap its) (s.heap.objs.size + 1) its) (enc := fun i => ds.getD i .none) false e er2 (by rw [eds]; exact hal)
  rw [eds] at out
  rw [lx] at q
  generalize sortVals (dataKind (sortingHeap (copyHeap s.heap its) (s.heap.objs.size + 1) its) ds) false its its = os at out ⊢
  have hlen : ((List.range its.length).mergeSort (dataLe false fun i => ds.getD i .none)).length = its.length := by rw [List.length_mergeSort, List.length_range]
  generalize (List.range its.length).mergeSort (dataLe false fun i => ds.getD i .none) = is at out q hlen
  obtain ⟨ep, he'⟩ := sortedAll_at s.heap its os.toArray
  have vals : ∀ {os : List Value} {is : List Nat}, EachIs (fun v i => its[i]? = some v) os is → Vals (is.map fun i => xs.getD i .non) os := by
    intro os is h
    induction h with
    | nil => exact .nil
    | cons h1 t ih =>
      refine .cons ?_ ih
      obtain ⟨x, ex, rx⟩ := vals_get rv h1
      show RelV (xs.getD _ .non) _
      rw [List.getD_eq_getElem?_getD, ex]; exact rx
  exact ⟨.ref _, upd H (s.heap.objs.size + 1) (.lst (is.map fun i => xs.getD i .non)), I.laid (t' := s.toks) (fun _ _ => sortedAll_old) (Nat.le_succ _) ⟨by rw [List.length_map, hlen]; omega, os, ep, vals out, he'⟩, rfl, q _ (I.hok.fresh (Nat.le_succ _))⟩
theorem tupP : ∀ {l : List D} {ns : List Int}, mapO intOf l = some ns → l.map toP = ns.map PyData.int
  | [], ns, h => by simp only [mapO, Option.some.injEq] at h; subst h; rfl
  | d :: l, ns, h => by
    obtain ⟨k, ks, e1, e2, rfl⟩ := mapO_cons h
    rw [List.map_cons, List.map_cons, tupP e2]
    cases d with
    | int i => cases e1; rfl
    | _ => cases e1
theorem toP_tupI {d : D} {ns : List Int} (h : tupI d = some ns) : toP d = .tuple (ns.map PyData.int) := by
  cases d with
  | tup l => rw [toP, toPs_map, tupP h]
  | _ => cases h
theorem opn_sortD {K : Frag} {cl : Clm} : OpN K cl dSortD (pSortD K) := by
  intro r st H W xs vs Q hs hx hp
  unfold dSortD at hp
  split at hp
  · rename_i n
    obtain ⟨v, rfl, q⟩ := rds1 hx
    obtain ⟨a, rfl, g1⟩ := q.ref_inv
    split at hp
    · rename_i l g
      split at hp
      · rename_i hall
        obtain ⟨ys, y1, y2⟩ := lst_at hs g g1
        have all := List.all_eq_true.mp hall
        have key : ∀ {l : List D} {ys : List V}, RDs K H r l ys → (∀ d ∈ l, tupN d = true) → ∃ ks : List (List Int), Paired (fun x ns => ns ≠ [] ∧ ∃ t, x = V.ref t ∧ SqT K H t (ns.map V.int)) ys ks ∧ l.map toP = ks.map fun ns => PyData.tuple (ns.map PyData.int) := by
          intro l
          induction l with
          | nil => intro ys h _; rw [h.nil_inv]; exact ⟨[], .nil, rfl⟩
          | cons d l ih =>
            intro ys h ha
            obtain ⟨v, w, rfl, h1, h2⟩ := h.cons_inv
            obtain ⟨ks, k1, k2⟩ := ih h2 fun e he => ha e (List.mem_cons_of_mem _ he)
            have hd := ha d List.mem_cons_self
            unfold tupN at hd
            split at hd
            · rename_i n ns e
              obtain ⟨t, et, sq⟩ := tupI_of e h1
              exact ⟨(n :: ns) :: ks, .cons ⟨by simp, t, et, sq⟩ k1, by rw [List.map_cons, List.map_cons, k2, toP_tupI e]⟩
            · cases hd
        obtain ⟨ks, k1, k2⟩ := key y2 all
        refine ⟨a, ys, ks, rfl, .inl (.inl y1), k1, ?_⟩
        rw [← k2, ← y2.length]
        refine new_lst hs ?_ hp
        unfold sortD
        generalize he : (List.range l.length).mergeSort (dataLe false fun i => (l.map toP).getD i .none) = is
        have hm : ∀ i ∈ is, i < l.length := fun i hi => by
          rw [← he] at hi
          exact List.mem_range.mp ((List.mergeSort_perm _ _).mem_iff.mp hi)
        refine rds_map fun i hi => ?_
        have h1 := List.getElem?_eq_getElem (hm i hi)
        obtain ⟨u, e1, e2⟩ := y2.get h1
        rw [getD_at h1, getD_at e1]
        exact e2
      · exact hp.elim
    · exact hp.elim
  · exact hp.elim
end Dn
namespace Dn
open PySem PySem.Spec PyProof.Rows L2
/-! ### x op= an int, x a name -/
def sAugI (i : Nat) (g : Int → Int → Int) (me : EM) : SM := fun en st => match en[i]? with
  | some (some (.int a)) => (me en st).bind fun d st1 => match d with
    | .int b => .ok (.nx, en.set i (some (.int (g a b)))) st1
    | _ => .bad
  | _ => .bad
theorem ss_augI {X : Cx} {cl : Clm} {W : WX} {e : Expr} {pos pos' : Pos} {i : Nat} {x : Str} {op : Operator} {g : Int → Int → Int} {m : EM} (hN : X.N.Nodup) (hi : X.N[i]? = some x) (hx : Loc X.env.scope x) (he : SE X cl W e m) (ho : IpOk X op g)
    (hf : X.fn x = true ∨ X.env.scope.names.lookup x = some .local := by first | exact .inl rfl | exact .inr rfl | assumption) : SS X cl W (.AugAssign (.Name x pos') op e pos) (sAugI i g m) :=
  ⟨ps_of (ps_aug (i := i) hN hi hx he.pe ho hf) fun D s H ⟨r, en, st, he, hs, hp⟩ => by
    unfold sAugI at hp
    split at hp
    · rename_i a ea
      obtain ⟨v, e1, e2⟩ := he.2 i _ ea
      refine ⟨v, e1, r, en, st, he, hs, (Po.bind hp).mono fun r1 H1 d st1 x1 s1 h1 w q => ?_⟩
      split at h1
      · rename_i b
        refine ⟨a, b, e2.int_inv, q.int_inv, ?_⟩
        exact h1 r1 H1 .refl s1 _ ((he.mono x1.mn).set i .int)
      · exact h1.elim
    · exact hp.elim⟩
end Dn

/-! Dn, M2: reasoning about M1. -/
namespace Dn
open PySem L2
variable [EK]
section
variable {en : En} {st : S} {Q : D → S → Prop} {m : EM} {pm : PM} {n : Nat} {j lo hi : Int} {l : List D} {I : Wk → S → Prop}
theorem ok_dispK : Ok (dDispK pm en st) Q ↔ Ok (pm en st) fun ps st1 => ∃ l, mapO keyKI ps = some l ∧ l.length ≤ 15 ∧ Q (.ref st1.length) (st1 ++ [.dK (mgK [] l)]) := by
  unfold dDispK
  rw [ok_bind]
  constructor
  · intro h
    refine h.mono fun ps st1 h => ?_
    cases e : mapO keyKI ps with
    | none => simp only [e] at h; exact h.elim
    | some l =>
      simp only [e] at h
      rw [ok_iteB] at h
      exact ⟨l, rfl, h⟩
  · intro h
    refine h.mono fun ps st1 ⟨l, e, h⟩ => ?_
    simp only [e]
    exact ok_iteB.mpr h
theorem v_rng : Ok (dRng [.int j] st) Q ↔ Q (.ref st.length) (st ++ [.rng 0 j]) := Iff.rfl
theorem ok_rgV : Ok (iRgV m en st) I ↔ Ok (m en st) fun d st1 => ∃ n lo hi, d = .ref n ∧ st1[n]? = some (.rng lo hi) ∧ (-(2 ^ 62) ≤ lo ∧ lo < 2 ^ 62 ∧ -(2 ^ 62) ≤ hi ∧ hi < 2 ^ 62) ∧ I ⟨rgD lo hi, []⟩ st1 := by
  unfold iRgV
  rw [ok_bind]
  constructor
  · intro h
    refine h.mono fun d st1 h => ?_
    split at h
    · rename_i n
      split at h
      · rename_i lo hi g
        rw [ok_iteB] at h
        exact ⟨n, lo, hi, rfl, g, h⟩
      · exact h.elim
    · exact h.elim
  · intro h
    refine h.mono fun d st1 ⟨n, lo, hi, e, g, h⟩ => ?_
    subst e
    simp only [g]
    exact ok_iteB.mpr h
theorem v_sortD (h : st[n]? = some (.lst l)) : Ok (dSortD [.ref n] st) Q ↔ l.all tupN = true ∧ Q (.ref st.length) (st ++ [.lst (sortD l)]) := by
  unfold dSortD
  simp only [h]
  exact ok_iteB
omit [EK] in
theorem map_getD {l : List D} : (List.range l.length).map (fun i => l.getD i .non) = l := by
  refine List.ext_getElem? fun j => ?_
  rw [List.getElem?_map]
  by_cases hj : j < l.length
  · rw [List.getElem?_range hj, List.getElem?_eq_getElem hj]
    show some (l.getD j .non) = _
    rw [List.getD_eq_getElem?_getD, List.getElem?_eq_getElem hj]; rfl
  · rw [List.getElem?_eq_none (by rw [List.length_range]; omega), List.getElem?_eq_none (by omega)]; rfl
omit [EK] in
theorem sortD_perm (l : List D) : (sortD l).Perm l := by
  have h := (List.mergeSort_perm (List.range l.length) (PySem.W.dataLe false fun i => (l.map toP).getD i .none)).map (fun i => l.getD i .non)
  rw [map_getD] at h
  exact h
theorem v_getK {x : Str} {l : List (Key × D)} (h : st[n]? = some (.dK l)) : Ok (dGetD (.ref n) (.str x) st) Q ↔ ∃ v, getQ l (.inr x) = some v ∧ Q v st := by
  show Ok (match st[n]? with
    | some (.dT l) => match (tupI (.str x)).bind (getQ l) with
      | some v => .ok v st
      | none => .bad
    | some (.dK l) => match (keyI (.str x)).bind (getQ l) with
      | some v => .ok v st
      | none => .bad
    | _ => .bad) Q ↔ _
  simp only [h, keyI, Option.bind_some]
  cases e : getQ l (Sum.inr x) with
  | none => exact ⟨fun z => z.elim, fun ⟨v, h1, _⟩ => by cases h1⟩
  | some v => exact ⟨fun z => ⟨v, rfl, z⟩, fun ⟨v', h1, h2⟩ => by cases h1; exact h2⟩
end
end Dn
namespace Dn
open PySem L2
variable [EK]
theorem ok_augI {i : Nat} {g : Int → Int → Int} {m : EM} {en : En} {st : S} {V : Fl × En → S → Prop} : Ok (sAugI i g m en st) V ↔ ∃ a, en[i]? = some (some (.int a)) ∧ Ok (m en st) fun d st1 => ∃ b, d = .int b ∧ V (.nx, en.set i (some (.int (g a b)))) st1 := by
  unfold sAugI
  constructor
  · intro h
    split at h
    · rename_i a ea
      rw [ok_bind] at h
      refine ⟨a, ea, h.mono fun d st1 h => ?_⟩
      split at h
      · exact ⟨_, rfl, h⟩
      · exact h.elim
    · exact h.elim
  · rintro ⟨a, ea, h⟩
    simp only [ea, ok_bind]
    refine h.mono fun d st1 ⟨b, e, h⟩ => ?_
    subst e
    exact h
end Dn

/-! Dn, M3: zip of a list and a tuple. -/
namespace Dn
open PySem PySem.Spec PyProof.Rows L2
def Itm (K : Frag) (a b : Addr) (m1 m2 : Nat) : It :=
  ⟨fun i H => ∃ (xs ys : List V) (x y : V), SqL K H a xs ∧ SqT K H b ys ∧ xs.length = m1 ∧ ys.length = m2 ∧ xs[i]? = some x ∧ ys[i]? = some y,
    fun i H v H' => ∃ T x y, v = .ref T ∧ H T = none ∧ H' = upd H T (.tup [x, y]) ∧ (∀ xs, SqL K H a xs → xs[i]? = some x) ∧ ∀ ys, SqT K H b ys → ys[i]? = some y,
    fun i H => ∃ xs ys : List V, SqL K H a xs ∧ SqT K H b ys ∧ xs.length = m1 ∧ ys.length = m2 ∧ (m1 ≤ i ∨ m2 ≤ i)⟩
/-- the cells of the zip lie apart -/
structure ZmApart (z TI TO i1 i2 a b : Addr) : Prop where
  TIz : TI ≠ z
  TOz : TO ≠ z
  TITO : TI ≠ TO
  TIi1 : TI ≠ i1
  TIi2 : TI ≠ i2
  zi1 : z ≠ i1
  zi2 : z ≠ i2
  Ti1 : TO ≠ i1
  Ti2 : TO ≠ i2
  i12 : i1 ≠ i2
  az : a ≠ z
  aT : a ≠ TO
  a1 : a ≠ i1
  a2 : a ≠ i2
  bz : b ≠ z
  bT : b ≠ TO
  b1 : b ≠ i1
  b2 : b ≠ i2
theorem ZmApart.sep {z TI TO i1 i2 a b : Addr} (D : ZmApart z TI TO i1 i2 a b) : ZipSep2 z TI TO i1 i2 [i1, a] [i2, b] where
  TIz := D.TIz
  TOz := D.TOz
  TITO := D.TITO
  TIi1 := D.TIi1
  mem1 := by simp
  zf1 := by simp [D.zi1, Ne.symm D.az]
  Tf1 := by simp [D.Ti1, Ne.symm D.aT]
  TIi2 := D.TIi2
  mem2 := by simp
  zf2 := by simp [D.zi2, Ne.symm D.bz]
  Tf2 := by simp [D.Ti2, Ne.symm D.bT]
  sep1_2 := by simp [D.i12, Ne.symm D.b1]
  sep2_1 := by simp [Ne.symm D.i12, Ne.symm D.a2]
theorem zm_apart {I a b : Nat} (h1 : a < I) (h2 : b < I) : ZmApart (I + 4) (I + 2) (I + 3) I (I + 1) a b := by
  constructor <;> (intro e; have e : _ = (_ : Nat) := e; omega)
theorem turn_zipM {P : Program} {w : World} {K : Frag} {elts : List Expr} {kk : Nat} {tpos : Pos} {a b z TI TO i1 i2 : Addr} {m1 m2 : Nat} (D : ZmApart z TI TO i1 i2 a b) :
    Turn P w K (.Tuple elts kk tpos) (Itm K a b m1 m2) [z, TI, TO, i1, i2] z (fun i h => i ≤ min m1 m2 ∧ IsZip h z TI TO .none ∧ IsTupOf2 h TI (.ref i1) (.ref i2) ∧ (∃ x y, IsTupOf2 h TO x y) ∧ h.IsListIter i1 a i ∧ h.IsTupleIter i2 b i) where
  mem := by simp
  obj := fun i h st c hc => by
    obtain ⟨_, hz, hTI, ⟨x, y, hTO⟩, ⟨o1, e1, _, d1⟩, ⟨o2, e2, _, d2⟩⟩ := st
    have five : c = z ∨ c = TI ∨ c = TO ∨ c = i1 ∨ c = i2 := by simpa using hc
    rcases five with rfl | rfl | rfl | rfl | rfl
    · exact ⟨_, hz, fun v q => nomatch q⟩
    · exact ⟨_, hTI, fun v q => nomatch q⟩
    · exact ⟨_, hTO, fun v q => nomatch q⟩
    · exact ⟨o1, e1, fun v q => by rw [d1] at q; cases q⟩
    · exact ⟨o2, e2, fun v q => by rw [d2] at q; cases q⟩
  keep := fun i h h' st k => by
    obtain ⟨l, hz, hTI, ⟨x, y, hTO⟩, h1, h2⟩ := st
    exact ⟨l, k z (by simp) _ hz, k TI (by simp) _ hTI, ⟨x, y, k TO (by simp) _ hTO⟩, h1.at fun o q => k i1 (by simp) o q, h2.at fun o q => k i2 (by simp) o q⟩
  item := by
    intro X hP hw hK hc i pins s σ H E I hf st hg
    subst hP hw hK
    obtain ⟨_, hz, hTI, hTO, h1, h2⟩ := st
    obtain ⟨xs, ys, x, y, hqx, hqy, e1, e2, hx, hy⟩ := hg
    obtain ⟨its, rv, p, _⟩ := I.list hqx
    obtain ⟨its2, rv2, p2, _⟩ := I.tuple hqy
    obtain ⟨u, hu, ru⟩ := rv.get hx
    obtain ⟨u2, hu2, ru2⟩ := rv2.get hy
    have l1 := rv.length
    have l2 := rv2.length
    have k1 := (List.getElem?_eq_some_iff.mp hx).1
    have k2 := (List.getElem?_eq_some_iff.mp hy).1
    have hh := I.ok.hd hc
    have W := WalksT.zipD2 (prog := X.prog) (w := X.w) (A := X.A) D.sep (Draws.list (A := X.A.in1) hh i1 a D.a1 its.toArray) (Draws.tuple (A := X.A.in1) hh i2 b D.b2 its2.toArray)
    refine W.item i s _ _ (by simp; omega) ⟨hz, hTI, hTO, ⟨h1, p.isList⟩, ⟨h2, show s.heap.IsTuple b its2.toArray from p2⟩⟩ fun T vals h' tk hv hT hTup hmid hk => ?_
    obtain ⟨v1, v2, f1, f2, rfl⟩ := hv
    have f1 : its.toArray[i]? = some v1 := f1
    have f2 : its2.toArray[i]? = some v2 := f2
    have ev1 : v1 = u := by have := f1.symm.trans (show its.toArray[i]? = some u by simpa using hu); exact Option.some.inj this
    have ev2 : v2 = u2 := by have := f2.symm.trans (show its2.toArray[i]? = some u2 by simpa using hu2); exact Option.some.inj this
    subst ev1 ev2
    have tw := W.apart i T h' hmid
    refine ⟨_, rfl, W.go elts kk tpos i T { s with heap := h', toks := tk } _ _ hmid fun h'' st'' hk'' => ?_⟩
    obtain ⟨z1, z2, z3, z4, z5⟩ := st''
    obtain ⟨oT, oe, oc, on, od⟩ := hTup
    have oT2 := hk'' T oT tw oe
    have new : ObjOk X.prog X.w (upd H T (.tup [x, y])) h'' T (.tup [x, y]) := ⟨by show 2 ≤ sizeLine; decide, [v1, v2], .cons ru (.cons ru2 .nil), ⟨oT, oT2, oc, on, od⟩⟩
    have I1 : Inv X pins σ (upd H T (.tup [x, y])) { s with heap := h'', toks := tk } :=
      I.turnedNew (t' := tk) (ch := [z, TO, i1, i2]) (fun c o hb q => hk'' c o hb (hk c o hb q)) (fun c hc => hf c (by
        have four : c = z ∨ c = TO ∨ c = i1 ∨ c = i2 := by simpa using hc
        rcases four with rfl | rfl | rfl | rfl <;> simp)) hT new
    refine ⟨.ref T, _, I1, rfl, ⟨T, x, y, rfl, I.hok.fresh hT, rfl, fun l hl => by rw [I.list_inj hl hqx]; exact hx, fun l hl => by rw [I.tuple_inj hl hqy]; exact hy⟩, ⟨by omega, z1, z2, z3, z4.1, z5.1⟩, fun c hcm => ?_⟩
    have hlt : c < s.heap.objs.size := by
      have five : c = z ∨ c = TI ∨ c = TO ∨ c = i1 ∨ c = i2 := by simpa using hcm
      rcases five with rfl | rfl | rfl | rfl | rfl
      · exact Heap.lt_size hz
      · exact Heap.lt_size hTI
      · obtain ⟨_, _, q⟩ := hTO; exact Heap.lt_size q
      · obtain ⟨_, q, _⟩ := h1; exact Heap.lt_size q
      · obtain ⟨_, q, _⟩ := h2; exact Heap.lt_size q
    rw [upd_ne (Nat.ne_of_lt (Nat.lt_of_lt_of_le hlt hT))]
    exact (hf c hcm).1
  done := by
    intro X hP hw hK hc i pins s σ H E I hf st hg
    subst hP hw hK
    obtain ⟨hi, hz, hTI, hTO, h1, h2⟩ := st
    obtain ⟨xs, ys, hqx, hqy, e1, e2, hend⟩ := hg
    obtain ⟨its, rv, p, _⟩ := I.list hqx
    obtain ⟨its2, rv2, p2, _⟩ := I.tuple hqy
    have l1 := rv.length
    have l2 := rv2.length
    have hh := I.ok.hd hc
    have W := WalksT.zipD2 (prog := X.prog) (w := X.w) (A := X.A) D.sep (Draws.list (A := X.A.in1) hh i1 a D.a1 its.toArray) (Draws.tuple (A := X.A.in1) hh i2 b D.b2 its2.toArray)
    have ei : i = min its.toArray.size its2.toArray.size := by simp; omega
    rw [ei] at h1 h2
    exact W.done s _ _ ⟨hz, hTI, hTO, ⟨h1, p.isList⟩, ⟨h2, show s.heap.IsTuple b its2.toArray from p2⟩⟩ fun h' tk hk => ⟨rfl, I.turnedL (t' := tk) (ch := [z, TO, i1, i2]) hk fun c hc => hf c (by
      have four : c = z ∨ c = TO ∨ c = i1 ∨ c = i2 := by simpa using hc
      rcases four with rfl | rfl | rfl | rfl <;> simp)⟩
  self := fun A i s Q E st h => wpAny_pyIter_zip st.2.1 h
/-- zip of two lists, or of a list and a tuple -/
def iZipB (K : Frag) (ta : TA) : TI := fun σ H R => ta σ H fun vs H1 => ∃ a b xs ys, vs = [.ref a, .ref b] ∧ SqL K H1 a xs ∧ ((SqL K H1 b ys ∧ R (Itz K a b) H1) ∨ (SqT K H1 b ys ∧ R (Itm K a b xs.length ys.length) H1))
theorem pi_zipB {X : Cx} {e e2 : Expr} {ta : TA} {p pos tpos : Pos} {elts : List Expr} {kk : Nat} (hg : Gl X "zip") (hm : X.mg "zip" = none) (ha : PA X [e, e2] ta)
    (hs : starEach [e, e2] X.env = (false, eval e X.env) :: starEach [e2] X.env := by rfl) (hpl : (backTo pos (starEach [e2] X.env)).any (·.1) = false := by rfl) :
    PI X (.Tuple elts kk tpos) (.Call (.Name "zip" p) [e, e2] [] pos) (iZipB X.K ta) := by
  refine ⟨fun pins s σ H R I h => Call_ (ld_blt I hg hm PyProof.Rows.boot_zip (PyProof.Rows.callWith_type1 (thn (ha.run pos pins s σ H _ I h) fun us s1 hu => ?_) hs hpl))⟩
  obtain ⟨vs, H1, I1, r1, a, b, xs, ys, ex, hqx, q1⟩ := hu
  subst ex
  obtain ⟨u1, u2, rfl, ra, rb⟩ := vals2 r1
  obtain rfl : u1 = Value.ref a := ra
  obtain rfl : u2 = Value.ref b := rb
  have young : ∀ c ∈ [s1.heap.objs.size + 4, s1.heap.objs.size + 2, s1.heap.objs.size + 3, s1.heap.objs.size, s1.heap.objs.size + 1], FpOk X pins H1 c := fun c hcm => by
    have five : c = s1.heap.objs.size + 4 ∨ c = s1.heap.objs.size + 2 ∨ c = s1.heap.objs.size + 3 ∨ c = s1.heap.objs.size ∨ c = s1.heap.objs.size + 1 := by simpa using hcm
    have hle : s1.heap.objs.size ≤ c := by
      have five : (c : Nat) = s1.heap.objs.size + 4 ∨ (c : Nat) = s1.heap.objs.size + 2 ∨ (c : Nat) = s1.heap.objs.size + 3 ∨ (c : Nat) = s1.heap.objs.size ∨ (c : Nat) = s1.heap.objs.size + 1 := five
      show (s1.heap.objs.size : Nat) ≤ c
      omega
    exact I1.fpOk hle (I1.hok.fresh hle)
  obtain ⟨its, rv, p1, _⟩ := I1.list hqx
  rcases q1 with ⟨hqy, q⟩ | ⟨hqy, q⟩
  · obtain ⟨its2, rv2, p2, _⟩ := I1.list hqy
    exact call_zip_2 p1.isList p2.isList fun h' hz hTI hTO h1 h2 hsz hk => wpAny_pyIter_zip hz ⟨s1.heap.objs.size + 4, _, _, _, H1, rfl, I1.kept (t' := s1.toks) hk, turn_zip (PySem.W.ktu_apart s1.heap.objs.size a b p1.lt p2.lt), ⟨hz, hTI, ⟨_, _, hTO⟩, h1, h2⟩, young, q⟩
  · obtain ⟨its2, rv2, p2, _⟩ := I1.tuple hqy
    have p2 : s1.heap.IsTuple b its2.toArray := p2
    have lb : b < s1.heap.objs.size := by obtain ⟨o, e, _⟩ := p2; exact Heap.lt_size e
    refine zip_begins2 (begins_list a its.toArray) (begins_tuple b its2.toArray) p1.isList p2 fun h' hz hTI hTO o1 o2 hsz hk => wpAny_pyIter_zip hz ⟨s1.heap.objs.size + 4, _, _, _, H1, rfl, I1.kept (t' := s1.toks) hk, turn_zipM (zm_apart p1.lt lb), ⟨Nat.zero_le _, hz, hTI, ⟨_, _, hTO⟩, ⟨_, o1, rfl, rfl⟩, ⟨_, o2, rfl, rfl⟩⟩, young, q⟩
/-! what it is worth -/
def iZi2 (m : AM) : IM := fun en st => (m en st).bind fun ds st1 => match ds with
  | [.ref n, .ref k] => match seqD st1 (.ref n), seqD st1 (.ref k) with
    | some l, some l' => .ok ⟨ziD l l', [(n, l), (k, l')]⟩ st1
    | _, _ => .bad
  | [.ref n, .tup l'] => match seqD st1 (.ref n) with
    | some l => .ok ⟨ziD l l', [(n, l)]⟩ st1
    | _ => .bad
  | _ => .bad
theorem wj_zm {K : Frag} {cl : Clm} {r0 : Rho} {H0 : Hp} {n : Nat} {a b : Addr} {l l' : List D} {xs0 ys0 : List V} (h : r0 n = some a) (hb : SqT K H0 b ys0) (rb : RDs K H0 r0 l' ys0) (l0 : xs0.length = l.length) : Wj K cl r0 H0 (Itm K a b xs0.length ys0.length) ⟨ziD l l', [(n, l)]⟩ := fun r H st x hs ok => by
  have e : seqD st (.ref n) = some l := ok (n, l) List.mem_cons_self
  obtain ⟨xs, q2, q1⟩ := ref_seq hs (x.ext _ _ h) e
  have p2 := x.sqt _ _ hb
  have p1 := rb.mono x.mn
  have e1 : xs.length = xs0.length := by rw [← q1.length]; exact l0.symm
  refine ⟨fun i d g => ?_, fun i hi => ⟨xs, ys0, q2, p2, e1, rfl, ?_⟩⟩
  · have g : ((l.zip l').map fun p => Dn.D.tup [p.1, p.2])[i]? = some d := g
    rw [List.getElem?_map] at g
    obtain ⟨y, q, rfl⟩ := Option.map_eq_some_iff.mp g
    rw [List.getElem?_zip_eq_some] at q
    obtain ⟨v, g1, g2⟩ := q1.get q.1
    obtain ⟨u, f1, f2⟩ := p1.get q.2
    refine ⟨⟨xs, ys0, v, u, q2, p2, e1, rfl, g1, f1⟩, fun z H' ⟨T, w, w', t1, t2, t3, t4, t5⟩ => ?_⟩
    have := t4 xs q2
    rw [g1] at this; cases this
    have := t5 ys0 p2
    rw [f1] at this; cases this
    subst t1 t3
    exact tup_fresh hs t2 (.cons g2 (.cons f2 .nil))
  · have hi : (ziD l l').length ≤ i := hi
    unfold ziD at hi
    rw [List.length_map, List.length_zip] at hi
    have := p1.length
    omega
section
variable {X : Cx} {cl : Clm} {W : WX} {e1 e2 : Expr} {p pos : Pos} {ma : AM}
theorem si_zi2 {elts : List Expr} {kk : Nat} {tpos : Pos} (hg : Gl X "zip") (hm : X.mg "zip" = none) (ha : SA X cl W [e1, e2] ma) (hs : starEach [e1, e2] X.env = (false, eval e1 X.env) :: starEach [e2] X.env := by rfl)
    (hpl : (backTo pos (starEach [e2] X.env)).any (·.1) = false := by rfl) :
    SI X cl W (.Tuple elts kk tpos) (.Call (.Name "zip" p) [e1, e2] [] pos) (iZipB X.K (tA X.K cl W ma)) (iZi2 ma) :=
  ⟨pi_zipB hg hm ha.pa hs hpl, fun s H R ⟨r, en, st, he, hs, hp⟩ => ⟨r, en, st, he, hs, (Po.bind hp).mono fun r1 H1 ds st1 x1 s1 h1 vs q => by
    split at h1
    · rename_i n k
      obtain ⟨v, w, rfl, q1, q2⟩ := q.cons_inv
      obtain ⟨v', w', rfl, q3, q4⟩ := q2.cons_inv
      have := q4.nil_inv; subst this
      obtain ⟨a, rfl, g1⟩ := q1.ref_inv
      obtain ⟨b, rfl, g2⟩ := q3.ref_inv
      split at h1
      · rename_i l l' g g'
        obtain ⟨xs, y1, y2⟩ := ref_seq s1 g1 g
        obtain ⟨ys, z1, z2⟩ := ref_seq s1 g2 g'
        exact ⟨a, b, xs, ys, rfl, y1, .inl ⟨z1, h1 r1 H1 .refl s1 _ (wj_zi g1 g2)⟩⟩
      · exact h1.elim
    · rename_i n l'
      obtain ⟨v, w, rfl, q1, q2⟩ := q.cons_inv
      obtain ⟨v', w', rfl, q3, q4⟩ := q2.cons_inv
      have := q4.nil_inv; subst this
      obtain ⟨a, rfl, g1⟩ := q1.ref_inv
      obtain ⟨b, ys, rfl, t1, t2⟩ := q3.tup_inv
      split at h1
      · rename_i l g
        obtain ⟨xs, y1, y2⟩ := ref_seq s1 g1 g
        exact ⟨a, b, xs, ys, rfl, y1, .inr ⟨t1, h1 r1 H1 .refl s1 _ (wj_zm g1 t1 t2 y2.length.symm)⟩⟩
      · exact h1.elim
    · exact h1.elim⟩⟩
end
end Dn
namespace Dn
open PySem L2
variable [EK]
theorem ok_zi2 {m : AM} {en : En} {st : S} {I : Wk → S → Prop} : Ok (iZi2 m en st) I ↔ Ok (m en st) fun ds st1 => (∃ n k l l', ds = [.ref n, .ref k] ∧ seqD st1 (.ref n) = some l ∧ seqD st1 (.ref k) = some l' ∧ I ⟨ziD l l', [(n, l), (k, l')]⟩ st1) ∨ ∃ n l l', ds = [.ref n, .tup l'] ∧ seqD st1 (.ref n) = some l ∧ I ⟨ziD l l', [(n, l)]⟩ st1 := by
  unfold iZi2
  rw [ok_bind]
  constructor
  · intro h
    refine h.mono fun ds st1 h => ?_
    split at h
    · rename_i n k
      split at h
      · rename_i l l' g g'
        exact .inl ⟨n, k, l, l', rfl, g, g', h⟩
      · exact h.elim
    · rename_i n l'
      split at h
      · rename_i l g
        exact .inr ⟨n, l, l', rfl, g, h⟩
      · exact h.elim
    · exact h.elim
  · intro h
    refine h.mono fun ds st1 h => ?_
    rcases h with ⟨n, k, l, l', rfl, g, g', h⟩ | ⟨n, l, l', rfl, g, h⟩
    · simp only [g, g']; exact h
    · simp only [g]; exact h
end Dn

/-! Dn, Ho: calls and loops where an exception is being handled (within an except suite, and in the defs that are called there). -/
namespace Dn
open PySem PySem.Spec PyProof.Rows L2

/-- how deep a call there may go -/
structure RmX (k : Nat) (A : Around) : Prop where
  dp : A.depth + 3 * k + 5 < recursionLimit
  un : A.units + 16 * k + 200 < cLine
theorem RmX.mono {j k : Nat} {A : Around} (r : RmX k A) (h : j ≤ k) : RmX j A := ⟨by have := r.dp; omega, by have := r.un; omega⟩
theorem RmX.down {k : Nat} {A : Around} (r : RmX (k + 1) A) (env : Env) : RmX k (A.deeper env) :=
  ⟨by have := r.dp; show (A.depth + 1) + 3 * k + 5 < _; omega, by have := r.un; show (A.units + 3) + 16 * k + 200 < _; omega⟩
theorem rmX_of {k : Nat} {A : Around} (r : Room k A) (v : Value) : RmX k (A.mark (some v)) := ⟨r.dp, r.un⟩
theorem hx1 {A : Around} {k : Nat} (hr : RmX k A) : A.units + 1 < cLine := by have := hr.un; omega
theorem hx8 {A : Around} {k : Nat} (hr : RmX k A) : A.units + 8 < cLine := by have := hr.un; omega
theorem hx64 {A : Around} {k : Nat} (hr : RmX k A) : A.units + 64 < cLine := by have := hr.un; omega
theorem hx65 {A : Around} {k : Nat} (hr : RmX k A) : A.units + 65 < cLine := by have := hr.un; omega
/-- the exception that is handled stands in the state as it is known -/
theorem hot_of {X : Cx} {pins : List (Addr × Obj)} {σ : L2.St} {H : Hp} {s : Shared} {a : Addr} (ha : X.A.handled = some (.ref a)) (I : Inv X pins σ H s) (t : HotH H a) : HotX.HotAt X.A a s.heap := by
  obtain ⟨ob, u, vs, e, d, z⟩ := t
  exact ⟨ha, ob, vs, (I.hok a _ e).1, d, z⟩

/-! ### what a def promises there: nothing is raised -/
structure FnX (P : Program) (w : World) (K : Frag) (mg : Str → Option Value) (base : Heap) (k : Nat) (f : Addr) (fd : FuncData) (ps : List Str) (sp : Addr → Sp) : Prop where
  len : ∀ a vs H Q E, sp a vs H Q E → vs.length = ps.length
  go : ∀ (A : Around) (out : List Env) (s : Shared) (H : Hp) (ar : Args) (us : List Value) (vs : List V) (Q : VK) (a : Addr), RmX k A → A.handled = some (.ref a) → Env0 P w K mg base A out s H → BindsTo s fd ar (ps.zip us) → Vals vs us → sp a vs H Q (fun _ _ _ => False) →
    codeAny (model P w) A (.call (.ref f) ar) (fun r s' => ∃ u, r = .ok (.ret u) ∧ CE out P w H s Q u s') s
theorem FnX.mono {P : Program} {w : World} {K : Frag} {mg : Str → Option Value} {base : Heap} {j k : Nat} {f : Addr} {fd : FuncData} {ps : List Str} {sp : Addr → Sp} (F : FnX P w K mg base j f fd ps sp) (h : j ≤ k) : FnX P w K mg base k f fd ps sp :=
  ⟨F.len, fun A out s H ar us vs Q a r => F.go A out s H ar us vs Q a (r.mono h)⟩
section
variable {P : Program} {w : World} {K : Frag} {mg : Str → Option Value} {base : Heap} {cl : Clm}
theorem fnX_of {x qual : Str} {st : Stmt} {fa : Addr} {fd : FuncData} {N ps : List Str} {k np n : Nat} {body : SM} (F : Fun K x qual st fa fd) (sc : FnScope N ps (defScope st)) (h1 : ps.length = np) (h2 : N.length = n)
    (hbody : ∀ (cdv : Value) (A : Around) (out : List Env) (s : Shared) (H : Hp) (E : XK) (a : Addr), RmX k ((A.deeper (envOfC qual (defScope st) s.heap.objs.size fa cdv)).mark (some (.ref a))) →
      SL ((cxOf (L2N.CX P w) P w K mg base N qual (defScope st) fa cdv A out s H E).suite a []) (hotC cl a) wN (defBody st) body) :
    FnX P w K mg base (k + 1) fa fd ps (fun a => spD K (hotC cl a) np (defD np n body)) := by
  subst h1 h2
  obtain ⟨oc, od, kV, doc, pm, an, cdv, ct, osl, rfl, lk, hcd⟩ := F.ex
  refine ⟨fun a vs H Q E h => h.1, fun A out s H ar us vs Q a hr ha e0 hb rv h => ?_⟩
  obtain ⟨hl, r, st0, ds, hs, q, hp⟩ := h
  have kin : K.In s.heap := e0.mod.kin.keeps fun b o e => (e0.bs b o e).1
  have nol : s.heap.NoLimit := e0.mod.nolimit.keeps fun b o e => (e0.bs b o e).1
  have kinds : ∀ y ∈ ps.zip us, (defScope st).names.lookup y.1 = some .local ∨ ((defScope st).names.lookup y.1 = some .cell ∧ ((cellsFrom (s.heap.objs.size + 1) (defScope st).names []).lookup y.1).isSome = true) := by
    rintro ⟨n, v⟩ hy
    rcases sc.par n (List.of_mem_zip hy).1 with q | q
    · exact .inl q
    · exact .inr ⟨q, PySem.W.cellsFrom_some _ _ _ (.inl q)⟩
  have dpA : A.depth < recursionLimit := by have := hr.dp; omega
  refine codeAny_call_function dpA (kin _ _ lk) rfl sc.co sc.gen rfl (PySem.W.codeRec_of kin hcd) (hb _ _ _ _ ?_)
  refine wpAny_newFunctionEnv_cells sc.kind kinds fun ev hev s1 xc => ?_
  subst hev
  refine ⟨nol.keeps xc.toInCall.keep, codeAny_func ?_⟩
  have e1 : Env0 P w K mg base { A with handled := none } out s H := ⟨e0.frames, e0.mod, e0.bs, e0.bsz, e0.funs, e0.frf, e0.hok, e0.bare⟩
  have I0 : Inv (cxOf (L2N.CX P w) P w K mg base N qual (defScope st) fa cdv { A with handled := none } out s H (fun _ _ _ => False)) [] (start N vs) H s1 := inv_start sc rfl e1 hl rv xc
  have I1 := to_suite I0 a
  have eA : (Around.deeper { A with handled := none } (envOfC qual (defScope st) s.heap.objs.size fa cdv)).mark (some (.ref a)) = A.deeper (envOfC qual (defScope st) s.heap.objs.size fa cdv) := by
    cases A
    subst ha
    rfl
  have hr1 : RmX k ((Around.deeper { A with handled := none } (envOfC qual (defScope st) s.heap.objs.size fa cdv)).mark (some (.ref a))) := by
    rw [eA]; exact hr.down _
  have hl2 : ds.length = ps.length := by rw [q.length]; exact hl
  have t := (hbody cdv { A with handled := none } out s H (fun _ _ _ => False) a hr1).pss.run [] s1 (start N vs) H { nx := fun _ H' => Q .non H', rt := Q } I1 ⟨r, ds.map some ++ List.replicate (N.length - ps.length) none, st0, by rw [← hl2]; exact .start N q, hs, by
    unfold defD at hp
    rw [if_pos hl2] at hp
    cases e : body (ds.map some ++ List.replicate (N.length - ps.length) none) st0 with
    | bad => rw [e] at hp; exact hp
    | exc x en st' => rw [e] at hp; exact fun r' H' s' c d y z _ u => hp r' H' c d y z u
    | ok p st' =>
      obtain ⟨f, en⟩ := p
      rw [e] at hp
      cases f with
      | ret d => exact fun r' H' y z s' _ v qv => hp r' H' y z v qv
      | nx => exact fun r' H' y z s' _ => hp r' H' y z _ .non
      | bk => exact hp.elim
      | ct => exact hp.elim⟩
  replace t : wpAny (model P w) ((Around.deeper { A with handled := none } (envOfC qual (defScope st) s.heap.objs.size fa cdv)).mark (some (.ref a))) (execs (defBody st) (envOfC qual (defScope st) s.heap.objs.size fa cdv)) _ (fun _ _ => False) s1 := t
  rw [eA] at t
  refine wpAny_mono t (fun fl s' hs' => ?_) fun _ _ z => z.elim
  cases fl with
  | ret u =>
    obtain ⟨v, σ1, H1, J, rv1, q1⟩ := hs'
    exact ⟨u, rfl, v, H1, J.os, J.bare, J.base, J.hok, rv1, q1⟩
  | next =>
    obtain ⟨σ1, H1, J, q1⟩ := hs'
    exact ⟨Value.none, rfl, V.non, H1, J.os, J.bare, J.base, J.hok, rfl, q1⟩
  | brk =>
    obtain ⟨_, _, _, z⟩ := hs'
    exact z.elim
  | cont =>
    obtain ⟨_, _, _, z⟩ := hs'
    exact z.elim
/-- the name x of the module is a def that may be called there -/
def FnDX (P : Program) (w : World) (K : Frag) (mg : Str → Option Value) (base : Heap) (cl : Clm) (x : Str) (np k : Nat) (f : List D → S → Out D) : Prop :=
  ∃ fa fd ps, mg x = some (.ref fa) ∧ PySem.W.keepIn K (.ref fa) = true ∧ Binds K fd ps [] ∧ FnX P w K mg base k fa fd ps fun a => spD K (hotC cl a) np f
def MtDX (P : Program) (w : World) (K : Frag) (mg : Str → Option Value) (base : Heap) (cl : Clm) (c m : Str) (np k : Nat) (f : List D → S → Out D) : Prop :=
  ∃ C g fd ps, cl c = some C ∧ Cls K C ∧ Meth K C m g ∧ Binds K fd ps [] ∧ FnX P w K mg base k g fd ps fun a => spD K (hotC cl a) np f
theorem FnDX.mono {x : Str} {np j k : Nat} {f : List D → S → Out D} (F : FnDX P w K mg base cl x np j f) (h : j ≤ k) : FnDX P w K mg base cl x np k f :=
  let ⟨fa, fd, ps, a, b, c, d⟩ := F
  ⟨fa, fd, ps, a, b, c, d.mono h⟩
theorem MtDX.mono {c m : Str} {np j k : Nat} {f : List D → S → Out D} (F : MtDX P w K mg base cl c m np j f) (h : j ≤ k) : MtDX P w K mg base cl c m np k f :=
  let ⟨C, g, fd, ps, a, b, d, e, F⟩ := F
  ⟨C, g, fd, ps, a, b, d, e, F.mono h⟩
theorem fnDX_of {x qual : Str} {st : Stmt} {fa : Addr} {fd : FuncData} {N ps : List Str} {k np n : Nat} {body : SM} (F : Fun K x qual st fa fd) (sc : FnScope N ps (defScope st)) (h1 : ps.length = np) (h2 : N.length = n) (hm : mg x = some (.ref fa)) (hb : Binds K fd ps [])
    (hbody : ∀ (cdv : Value) (A : Around) (out : List Env) (s : Shared) (H : Hp) (E : XK) (a : Addr), RmX k ((A.deeper (envOfC qual (defScope st) s.heap.objs.size fa cdv)).mark (some (.ref a))) →
      SL ((cxOf (L2N.CX P w) P w K mg base N qual (defScope st) fa cdv A out s H E).suite a []) (hotC cl a) wN (defBody st) body) :
    FnDX P w K mg base cl x np (k + 1) (defD np n body) := ⟨fa, fd, ps, hm, F.kp, hb, fnX_of F sc h1 h2 hbody⟩
theorem mtDX_of {c m qual : Str} {st : Stmt} {N ps : List Str} {k np n : Nat} {body : SM} (M : MethAt K cl c m qual st) (sc : FnScope N ps (defScope st)) (h1 : ps.length = np) (h2 : N.length = n)
    (hb : ∀ (kV doc pm : Value) (an : Option Addr) (cdv ct : Value) (us : List Value), us.length = ps.length → bindArgs (PySem.W.fnOf m qual (defArgs st) (defBody st) (defScope st) .none kV doc pm an cdv ct) ⟨us, []⟩ = pure (ps.zip us))
    (hbody : ∀ (fa : Addr) (cdv : Value) (A : Around) (out : List Env) (s : Shared) (H : Hp) (E : XK) (a : Addr), RmX k ((A.deeper (envOfC qual (defScope st) s.heap.objs.size fa cdv)).mark (some (.ref a))) →
      SL ((cxOf (L2N.CX P w) P w K mg base N qual (defScope st) fa cdv A out s H E).suite a []) (hotC cl a) wN (defBody st) body) :
    MtDX P w K mg base cl c m np (k + 1) (defD np n body) := by
  obtain ⟨C, g, fd, a, b, d, F⟩ := M
  exact ⟨C, g, fd, ps, a, b, d, F.binds hb, fnX_of F sc h1 h2 (hbody g)⟩
end
section
variable {X : Cx} {cl : Clm} {a : Addr} {o e : Expr} {es : List Expr} {x m : Str} {np k : Nat} {f : List D → S → Out D} {mo : EM} {ma : AM} {p pos apos : Pos} {tab : List (Str × (List D → S → Out D))} {pl : Sem Bool}
theorem go_fnX {pins : List (Addr × Obj)} {σ : L2.St} {H : Hp} {s : Shared} {Q : VK} {us : List Value} {vs : List V} {g : Addr} {fd : FuncData} {ps : List Str} {sp : Addr → Sp} (F : FnX X.prog X.w X.K X.mg X.base k g fd ps sp) (hr : RmX k X.A) (ha : X.A.handled = some (.ref a)) (hb : Binds X.K fd ps [])
    (I : Inv X pins σ H s) (r : Vals vs us) (h : sp a vs H Q fun _ _ _ => False) : wpAny (model X.prog X.w) X.A (call (.ref g) us) (EP X pins σ Q) X.xe s := by
  have ul : us.length = ps.length := by rw [← r.length]; exact F.len _ _ _ _ _ h
  have bd := hb s us I.kIn (by rw [List.append_nil]; exact ul)
  rw [List.append_nil] at bd
  refine wpAny_call (codeAny_mono (F.go X.A X.stack s H ⟨us, []⟩ us vs Q a hr ha I.env0 bd r h) fun r' s' hq => ?_)
  obtain ⟨u, e, hq⟩ := hq
  subst e
  exact I.after hq
theorem se_callX (F : FnDX X.prog X.w X.K X.mg X.base cl x np k f) (hr : RmX k X.A) (ha : X.A.handled = some (.ref a)) (hg : Gl X x) (hs : SA X (hotC cl a) wN (e :: es) ma) (hdb : (x == ("__debug__" : Str)) = false := by decide)
    (he : starEach (e :: es) X.env = (false, eval e X.env) :: starEach es X.env := by rfl) (hpl : (backTo pos (starEach es X.env)).any (·.1) = false := by rfl) : SE X (hotC cl a) wN (.Call (.Name x p) (e :: es) [] pos) (dCall np f ma) := by
  obtain ⟨fa, fd, ps, hm, hk, hb, F⟩ := F
  refine ⟨⟨fun pins s σ H Q I h => ?_⟩⟩
  refine wpAny_Call_Name_kw (ld_glob I hg hm ?_ hdb)
  refine PySem.W.callWith_K (h₀ := X.base) I.ok.mod.kin hk (thn (hs.pa.run pos pins s σ H _ I (tE_call h)) fun us t ⟨vs, H1, I1, rr, hq⟩ => ⟨I1.kIn, ?_⟩) he hpl
  exact go_fnX F hr ha hb I1 rr hq
def tMtX (X : Cx) (cl : Clm) (a : Addr) (k : Nat) (m : Str) (ta : TE) (t : TA) : TE := fun σ H Q => ta σ H fun x H1 => ∃ b C dx fs g fd ps sp, x = .ref b ∧ H1 b = some (.ins C dx fs) ∧ fs.lookup m = none ∧ Cls X.K C ∧ Meth X.K C m g ∧ Binds X.K fd ps [] ∧
  FnX X.prog X.w X.K X.mg X.base k g fd ps sp ∧ t σ H1 fun vs H2 => sp a (x :: vs) H2 Q fun _ _ _ => False
theorem tE_metX (hT : ∀ q ∈ tab, MtDX X.prog X.w X.K X.mg X.base cl q.1 m np k q.2) {s : L2.St} {H : Hp} {Q : VK} (h : tE X.K (hotC cl a) wN (dMet tab m np mo ma) s H Q) : tMtX X cl a k m (tE X.K (hotC cl a) wN mo) (tA X.K (hotC cl a) wN ma) s H Q := by
  obtain ⟨r, en, st, he, hs, hp⟩ := h
  refine ⟨r, en, st, he, hs, (Po.bind hp).mono fun r1 H1 d st1 x1 s1 h1 v q => ?_⟩
  split at h1
  · rename_i n
    obtain ⟨b, rfl, g1⟩ := q.ref_inv
    split at h1
    · rename_i c fs g
      split at h1
      · rename_i f e1 e2
        obtain ⟨C, dx, vs, k1, k2, k3⟩ := ins_at s1 g g1
        obtain ⟨C', gg, fd, ps, z1, z2, z3, z4, z5⟩ := hT (c, f) (lookup_mem e2)
        rw [show cl (c, f).1 = some C from k1] at z1; cases z1
        have z6 : FnX X.prog X.w X.K X.mg X.base k gg fd ps (fun a => spD X.K (hotC cl a) np f) := z5
        have hn : vs.lookup m = none := by
          rcases k3.look (f := m) with ⟨_, y⟩ | ⟨_, _, y, _, _⟩
          · exact y
          · rw [e1] at y; cases y
        refine ⟨b, C, dx, vs, gg, fd, ps, _, rfl, k2, hn, z2, z3, z4, z6, r1, en, st1, he.mono x1.mn, s1, (Po.bind h1).mono fun r2 H2 ds st2 x2 s2 h2 us q2 => ?_⟩
        split at h2
        · rename_i hl
          refine ⟨by rw [List.length_cons, ← q2.length]; exact hl, r2, st2, .ref n :: ds, s2, .cons (.ref (x2.ext _ _ g1)) q2, ?_⟩
          cases ef : f (.ref n :: ds) st2 with
          | ok d st' => rw [ef] at h2; exact h2
          | exc x en' st' => rw [ef] at h2; exact fun r' H' c d y z w => h2 r' H' s c d y z (he.mono ((x1.trans x2).trans y).mn) w
          | bad => rw [ef] at h2; exact h2
        · exact h2.elim
      · exact h1.elim
    · exact h1.elim
  · exact h1.elim
theorem se_metX (ho : SE X (hotC cl a) wN o mo) (hT : ∀ q ∈ tab, MtDX X.prog X.w X.K X.mg X.base cl q.1 m np k q.2) (hr : RmX k X.A) (ha : X.A.handled = some (.ref a)) (hs : SA X (hotC cl a) wN (e :: es) ma)
    (hst : starEach (e :: es) X.env = (false, eval e X.env) :: starEach es X.env := by rfl) (hpl : (backTo pos (starEach es X.env)).any (·.1) = false := by rfl)
    (ht : eval (.Call (.Attribute o m apos) (e :: es) [] pos) X.env = (do
      let ob ← eval o X.env
      standAt apos.atName
      let (g, fst) ← holding [ob] (getMethod ob m pl)
      callWith pos g fst (backTo pos (starEach (e :: es) X.env)) (backToKw pos (keywordEach [] X.env))) := by rfl) :
    SE X (hotC cl a) wN (.Call (.Attribute o m apos) (e :: es) [] pos) (dMet tab m np mo ma) := by
  refine ⟨⟨fun pins s σ H Q I h => ?_⟩⟩
  refine PySem.W.methodCall_KW (pl := pl) (thn (ho.pe.run pins s σ H _ I (tE_metX hT h)) fun u s1 ⟨x, H1, I1, rx, b, C, dx, fs, g, fd, ps, sp, ex, ea, l, c, hm, hb, F, q⟩ => ?_) ht
  subst ex
  obtain rfl : u = Value.ref b := rx
  refine getmeth_ok I1 ea c hm l ?_
  refine PySem.W.callWith_K (first := [.ref b]) (h₀ := X.base) I.ok.mod.kin hm.kp (thn (hs.pa.run pos pins s1 σ H1 _ I1 q) fun us t ⟨vs, H2, I2, r, q2⟩ => ⟨I2.kIn, ?_⟩) hst hpl
  exact go_fnX (us := .ref b :: us) (vs := .ref b :: vs) F hr ha hb I2 (.cons rfl r) q2
end

/-! ### for .. in range(n) there -/
def TnR (it : Addr) (lo : Int) (n i : Nat) (h : Heap) : Prop := IsRangeIter h it (lo + (i : Nat) * 1) ((n : Int) - (i : Nat)) 1
def EndR (X : Cx) (pins : List (Addr × Obj)) (σ : L2.St) (R : It → Hp → Prop) (v : Value) (s : Shared) : Prop :=
  ∃ it lo n H', v = .ref it ∧ Inv X pins σ H' s ∧ TnR it lo n 0 s.heap ∧ FpOk X pins H' it ∧ R (Itr lo n) H'
structure PIX (X : Cx) (iter : Expr) (wi : TI) : Prop where
  go : ∀ (pins : List (Addr × Obj)) (s : Shared) (σ : L2.St) (H : Hp) (R : It → Hp → Prop), Inv X pins σ H s → wi σ H R → wpAny (model X.prog X.w) X.A (eval iter X.env) (fun v t => wpAny (model X.prog X.w) X.A (pyIter v) (EndR X pins σ R) X.xe t) X.xe s
section
variable {X : Cx} {tg : Expr} {cl : Clm} {a : Addr}
theorem iter_rg {pins : List (Addr × Obj)} {σ : L2.St} {H : Hp} {s : Shared} {R : It → Hp → Prop} {E : Value → Shared → Prop} {j : Int} {u v w : Tok} {k : Nat} (I : Inv X pins σ H s) (h : -(2 ^ 62) ≤ j ∧ j < 2 ^ 62) (q : R (Itr 0 j.toNat) H) :
    wpAny (model X.prog X.w) X.A (pyIter (.ref s.heap.objs.size)) (EndR X pins σ R) E { s with heap := s.heap.push { cls := .type "range", data := .fields #[.int 0 u, .int j v, .int 1 w] }, toks := k } := by
  generalize ho : ({ cls := .type "range", data := .fields #[.int 0 u, .int j v, .int 1 w] } : Obj) = ob
  have hp : ∀ b o, s.heap.get? b = some o → (s.heap.push ob).get? b = some o := fun b o e => Heap.get?_push_of_some _ e
  have I1 : Inv X pins σ H { s with heap := s.heap.push ob, toks := k } := I.kept hp
  have hr : IsRange (s.heap.push ob) s.heap.objs.size 0 j 1 u v w := by rw [← ho]; exact IsRange.new ..
  refine wpAny_pyIter_range hr (small_one (by omega) (by omega) h.1 h.2) ?_
  refine ⟨(s.heap.push ob).objs.size, 0, j.toNat, H, rfl, I1.kept (t' := k) fun b o e => Heap.get?_push_of_some _ e, ?_, I1.fpOk (Nat.le_refl _) (I1.hok.fresh (Nat.le_refl _)), q⟩
  have e1 : (0 : Int) + ((0 : Nat) : Int) * 1 = 0 := by omega
  have e2 : ((j.toNat : Nat) : Int) - ((0 : Nat) : Int) = Builtin.Range.rangeSize 0 j 1 := by rw [rangeSize_one]; split <;> omega
  unfold TnR
  rw [e1, e2]
  exact Heap.get?_push_size _ rfl
theorem pix_range {e : Expr} {ta : TA} {p pos : Pos} (hg : Gl X "range") (hm : X.mg "range" = none) (ha : PA X [e] ta) (hs : starEach [e] X.env = [(false, eval e X.env)] := by rfl) : PIX X (.Call (.Name "range" p) [e] [] pos) (iRng1 ta) := by
  refine ⟨fun pins s σ H R I h => ?_⟩
  refine Call_ (ld_blt I hg hm boot_range (PyProof.Rows.callWith_type1 (thn (ha.run pos pins s σ H _ I h) fun us t ⟨vs, H1, I1, rr, hq⟩ => ?_) hs rfl))
  obtain ⟨j, e, q1, q2, q⟩ := hq
  subst e
  cases rr with
  | cons r1 r2 =>
    cases r2
    obtain ⟨tk, rfl⟩ := r1
    exact call_range_1 (iter_rg I1 ⟨q1, q2⟩ q)
/-- the loop's reading: ahead of each turn the exception is known -/
def tForX (a : Addr) (wi : TI) (g : TG) (tb : TS) : TS := fun D σ H => wi σ H fun J H1 => ∃ W : Nat → Nat → L2.St → Hp → Prop, (∀ i m σ H, W i m σ H → HotH H a) ∧ (∃ m, W 0 m σ H1) ∧ ∀ i m σ H, W i m σ H →
  (J.stop i H ∧ D.nx σ H) ∨ (J.go i H ∧ ∃ N : L2.St → Hp → Prop, (∀ σ' H', N σ' H' → ∃ m', m' < m ∧ W (i + 1) m' σ' H') ∧ ∀ x H', J.yld i H x H' → g x σ H' fun σ2 H2 => tb { D with nx := N, ct := N, bk := D.nx } σ2 H2)
theorem ps_forX {iter : Expr} {body : List Stmt} {wi : TI} {g : TG} {tb : TS} {pos : Pos} (hp : PassesOwn (model X.prog X.w) X.A X.env X.xe) (ha : X.A.handled = some (.ref a)) (hi : PIX X iter wi) (hg : PG X tg g) (hb : PSs X body tb)
    (hs : ∀ x, foldedSetIterable iter X.env x = pure x := by intro _; rfl) : PS X (.For tg iter body [] pos) (tForX a wi g tb) := by
  refine ⟨fun pins s σ H D I h => ?_⟩
  refine wpAny_For (thn (hi.go pins s σ H _ I h) fun v t1 h1 => thn h1 fun iv t2 h2 => ?_) hs
  obtain ⟨it, lo, n, H2, e, I2, tn2, fp2, W, hot, ⟨m0, w0⟩, turn⟩ := h2
  subst e
  have stat : ∀ {G : Hp}, G it = none → FpOk X pins G it := fun hn => ⟨hn, fp2.2⟩
  refine codeAny_forLoop_any (fun m t => ∃ i ρ G, Inv X pins ρ G t ∧ TnR it lo n i t.heap ∧ G it = none ∧ W i m ρ G) ?_ m0 ⟨0, σ, H2, I2, tn2, fp2.1, w0⟩
  rintro m t3 ⟨i, ρ3, G3, I3, tn3, fr3, w3⟩
  obtain ⟨f0, f1, f2, f3, f4, f5⟩ := stat fr3
  rcases turn i m ρ3 G3 w3 with ⟨stop, qn⟩ | ⟨go, N, hN, step⟩
  · have hle : n ≤ i := stop
    refine wpAny_passesOwn hp (HotX.pyNext_range_end_hot (hot_of ha I3 (hot _ _ _ _ w3)) tn3 (by omega) fun h' eb => ?_)
    exact wpAny_execs_nil ⟨ρ3, G3, I3.turned (t' := t3.toks) (fun b o _ e => eb b o e) f0 f1 f3 f4 f5, qn⟩
  · have hlt : i < n := go
    refine wpAny_passesOwn hp (wpAny_pyNext_range_item tn3 (by omega) fun h' it' sb => ?_)
    have tn4 : TnR it lo n (i + 1) h' := by
      unfold TnR
      rw [show lo + ((i + 1 : Nat) : Int) * 1 = lo + ((i : Nat) : Int) * 1 + 1 by omega, show (n : Int) - ((i + 1 : Nat) : Int) = (n : Int) - ((i : Nat) : Int) - 1 by omega]
      exact it'
    have I4 : Inv X pins ρ3 G3 { t3 with heap := h', toks := t3.toks + 1 } := I3.turned (fun b o hb e => (sb.2 b hb).trans e) f0 f1 f3 f4 f5
    have I5 := I4.pinned (fp := [it]) (fun b hb => by rw [List.mem_singleton.mp hb]; exact stat fr3) fun b hb => by
      rw [List.mem_singleton.mp hb]
      exact ⟨_, tn4, fun v z => by
        have z : Data.fields _ = Data.cell v := z
        cases z⟩
    refine wpAny_passesOwn hp (go_of (s := { t3 with heap := h', toks := t3.toks + 1 }) (n := "range_iterator") tn4 rfl rfl (by decide) ?_)
    refine wpAny_passesOwn hp (thn (hg.run _ _ ρ3 G3 (.int (lo + i)) _ _ I5 ⟨t3.toks, by rw [Int.mul_one]⟩ (step _ G3 ⟨rfl, rfl⟩)) fun _ t6 ⟨ρ6, G6, I6, q6⟩ => ?_)
    refine wpAny_passesOwn hp (thn (hb.run _ t6 ρ6 G6 _ I6 q6) fun fl t7 q7 => ?_)
    have next : ∀ {ρ7 : L2.St} {G7 : Hp}, Inv X (pins ++ pinsAt [it] h') ρ7 G7 t7 → N ρ7 G7 → ∃ m', m' < m ∧ ∃ i ρ G, Inv X pins ρ G t7 ∧ TnR it lo n i t7.heap ∧ G it = none ∧ W i m' ρ G := fun {ρ7 G7} I7 n7 => by
      obtain ⟨m', hm, w7⟩ := hN ρ7 G7 n7
      have pn := I7.pin (it, _) (List.mem_append_right _ (List.mem_append_right _ (mem_pinsAt (List.mem_singleton.mpr rfl) tn4)))
      exact ⟨m', hm, i + 1, ρ7, G7, I7.unpinned, pn.1, pn.2.1, w7⟩
    cases fl with
    | next => obtain ⟨ρ7, G7, I7, n7⟩ := q7; exact next I7 n7
    | cont => obtain ⟨ρ7, G7, I7, n7⟩ := q7; exact next I7 n7
    | brk => obtain ⟨ρ7, G7, I7, n7⟩ := q7; exact ⟨ρ7, G7, I7.unpinned, n7⟩
    | ret v => obtain ⟨x7, ρ7, G7, I7, r7, n7⟩ := q7; exact ⟨x7, ρ7, G7, I7.unpinned, r7, n7⟩
theorem ss_forX {iter : Expr} {body : List Stmt} {wi : TI} {im : IM} {g : TG} {b : BM} {u : SM} {sl : List Nat} {pos : Pos} (hp : PassesOwn (model X.prog X.w) X.A X.env X.xe) (ha : X.A.handled = some (.ref a)) (hi : PIX X iter wi) (ok : IMok X.K (hotC cl a) wN wi im) (hg : PG X tg g) (hb : GM X.K sl g b)
    (hbd : SL X (hotC cl a) wN body u) (hs : ∀ x, foldedSetIterable iter X.env x = pure x := by intro _; rfl) : SS X (hotC cl a) wN (.For tg iter body [] pos) (sFor im b u) :=
  ⟨ps_of (ps_forX hp ha hi hg hbd.pss hs) fun D s H ⟨r, en, st, he, hs, hp⟩ => ok s H _ ⟨r, en, st, he, hs, (Po.bind hp).mono fun r1 H1 w st1 x1 s1 h1 J hJ => by
    refine ⟨fun i m ρ G => m = w.items.length - i ∧ i ≤ w.items.length ∧ ∃ r' en' st', Xt X.K r1 H1 r' G ∧ RE X.K G r' en' ρ ∧ RS X.K (hotC cl a) r' st' G ∧ Po X.K (hotC cl a) r' G wN (loopD w b u (w.items.drop i) en' st') (fun r2 H2 p _ => ∀ s', RE X.K H2 r2 p.2 s' → endOf X.K D r2 H2 s' p.1),
      fun i m ρ G ⟨_, _, _, _, _, _, _, rs, _⟩ => rs.hotf a (List.mem_singleton.mpr rfl), ⟨_, rfl, Nat.zero_le _, r1, en, st1, .refl, he.mono x1.mn, s1, by rw [List.drop_zero]; exact h1⟩, ?_⟩
    rintro i m ρ G ⟨rfl, hle, r', en', st', xx, he', hs', hq⟩
    by_cases hlt : i < w.items.length
    · rw [List.drop_eq_getElem_cons hlt] at hq
      unfold loopD at hq
      split at hq
      · rename_i hk
        obtain ⟨j1, j2⟩ := hJ r' G st' xx hs' (chk_iff.mp hk)
        obtain ⟨go, yl⟩ := j1 i w.items[i] (List.getElem?_eq_getElem hlt)
        refine .inr ⟨go, fun ρ2 G2 => ∃ r2 en2 st2, Xt X.K r1 H1 r2 G2 ∧ RE X.K G2 r2 en2 ρ2 ∧ RS X.K (hotC cl a) r2 st2 G2 ∧ Po X.K (hotC cl a) r2 G2 wN (loopD w b u (w.items.drop (i + 1)) en2 st2) (fun r2 H2 p _ => ∀ s', RE X.K H2 r2 p.2 s' → endOf X.K D r2 H2 s' p.1),
          fun ρ2 G2 ⟨r2, en2, st2, q1, q2, q3, q4⟩ => ⟨w.items.length - (i + 1), by omega, rfl, hlt, r2, en2, st2, q1, q2, q3, q4⟩, fun x G2 y => ?_⟩
        obtain ⟨y1, y2, y3⟩ := yl x G2 y
        split at hq
        · exact hq.elim
        · rename_i en1 eb
          refine hb r' G2 _ x en' en1 ρ _ y3 (he'.mono y1.mn) eb fun s' he2 _ => ?_
          refine ⟨r', en1, st', he2, y2, (Po.bind (Po.xt y1 hq)).mono fun r3 H3 p st3 x3 s3 h3 s4 re3 => ?_⟩
          obtain ⟨f, en3⟩ := p
          have xx3 := (xx.trans y1).trans x3
          cases f with
          | nx => exact ⟨r3, en3, st3, xx3, re3, s3, h3⟩
          | ct => exact ⟨r3, en3, st3, xx3, re3, s3, h3⟩
          | bk => exact h3 r3 H3 .refl s3 s4 re3
          | ret v => exact h3 r3 H3 .refl s3 s4 re3
      · exact hq.elim
    · have hi : i = w.items.length := by omega
      rw [List.drop_eq_nil_of_le (by omega)] at hq
      unfold loopD at hq
      split at hq
      · rename_i hk
        obtain ⟨j1, j2⟩ := hJ r' G st' xx hs' (chk_iff.mp hk)
        exact .inl ⟨j2 i (by omega), hq r' G .refl hs' ρ he'⟩
      · exact hq.elim⟩⟩
theorem ss_forX1 {e : Expr} {ta : AM} {body : List Stmt} {g : TG} {b : BM} {u : SM} {sl : List Nat} {p pos pos' : Pos} (ha : X.A.handled = some (.ref a)) (hr : Gl X "range") (hm : X.mg "range" = none) (he : SA X (hotC cl a) wN [e] ta) (hg : PG X tg g) (hb : GM X.K sl g b)
    (hbd : SL X (hotC cl a) wN body u) (hs : ∀ x, foldedSetIterable (.Call (.Name "range" p) [e] [] pos') X.env x = pure x := by intro _; rfl) (hs1 : starEach [e] X.env = [(false, eval e X.env)] := by rfl) (hx : X.xe = fun _ _ => False := by rfl) : SS X (hotC cl a) wN (.For tg (.Call (.Name "range" p) [e] [] pos') body [] pos) (sFor (iRng1D ta) b u) :=
  ss_forX (by rw [hx]; exact PassesOwn.never) ha (pix_range hr hm he.pa hs1) (si_rng1 (tg := tg) (p := p) (pos := pos') hr hm he hs1).ok hg hb hbd hs
end
end Dn

/-! Dn, Ge: generator expressions: sep.join(elt for x in list of texts). -/
namespace Dn
open PySem PySem.Spec PyProof.Rows L2

/-- a table of the store's claims has grown -/
theorem rs_tab {K : Frag} {cl : Clm} {r : Rho} {st : S} {H H' : Hp} {P : Addr} (hs : RS K cl r st H) (hP : P ∈ cl.tb) (t : GxR.Tabbed P H H') : RS K cl r st H' ∧ Xt K r H r H' := by
  obtain ⟨ps, hp, _⟩ := hs.tabs P hP
  obtain ⟨⟨qs, hq, hq'⟩, ho⟩ := t
  have kp : ∀ b u, (∀ ps, u ≠ .tbl ps) → H b = some u → H' b = some u := fun b u hu e => by
    rw [ho b fun z => by rw [z, hp] at e; cases e; exact hu _ rfl]
    exact e
  have x : Xt K r H r H' := ⟨fun _ _ z => z, fun _ _ z => .inl z, fun b u z _ hu => kp b u hu z, fun b z => by
      rw [← ho b fun e => by rw [e, hq] at z; cases z]
      exact z, fun b xs z => by
    rcases z with (z | ⟨ob, z⟩) | z
    · exact .inl (.inl (kp b _ (fun _ q => nomatch q) z))
    · exact .inl (.inr ⟨ob, kp b _ (fun _ q => nomatch q) z⟩)
    · exact .inr z, fun b ob u z => kp b _ (fun _ q => nomatch q) z⟩
  refine ⟨⟨hs.dom, fun n u e => ?_, hs.inj, hs.fz, hs.pos, fun p hm => ?_, fun a hm => x.hot (hs.hotf a hm)⟩, x⟩
  · obtain ⟨a, h1, h2⟩ := hs.at_ n u e
    exact ⟨a, h1, h2.xt x.mn x.xdk fun u hu z => kp a u hu z⟩
  · by_cases e : p = P
    · subst e; exact ⟨qs, hq, hq'⟩
    · obtain ⟨qs', h1, h2⟩ := hs.tabs p hm
      exact ⟨qs', by rw [ho p e]; exact h1, h2⟩
/-- x + 'k' -/
theorem elt_addc {prog : Program} {w : World} {scope : Scope} {x k : Str} {j : Nat} {p1 p2 p3 : Pos} (hk : scope.kind = .function) (hl : scope.names.lookup x = some .local) (hz : k.length ≤ 1000) (hd : (x == ("__debug__" : Str)) = false := by decide) :
    J1.EltS prog w scope x (.BinOp (.Name x p1) .Add (.Constant (.str k) j p2) p3) (fun a => a.length ≤ 100000) (fun a => a ++ k) := by
  intro cenv A' E' a t s₂ m₂ hs hz2 hn hm
  have hk' : cenv.scope.kind = .function := by rw [hs]; exact hk
  have hl' : cenv.scope.names.lookup x = some .local := by rw [hs]; exact hl
  have hsm : 1000000 ≤ sizeLine := by decide
  refine wpAny_BinOp (J1.ld_word hk' hl' hn hm hd ?_)
  refine wpAny_Constant_str ?_
  refine add_str (fun t5 k5 => ⟨⟨t5, rfl⟩, GxR.keeps_tok _ _⟩) ?_
  omega
def dJoinG (f : Str → Str) (mo me : EM) : EM := fun en st => (mo en st).bind fun o st1 => match o with
  | .str sep => (me en st1).bind fun u st2 => match u with
    | .ref n => match st2[n]? with
      | some (.lst l) => match mapO strOf l with
        | some ws => if (ws.all fun a => decide (a.length ≤ 100000)) = true ∧ JoinOk sep (ws.map f) = true ∧ ws.length ≤ sizeLine then .ok (.str (Txt.join sep (ws.map f))) st2 else .bad
        | none => .bad
      | _ => .bad
    | _ => .bad
  | _ => .bad
section
variable {X : Cx} {cl : Clm} {W : WX} {c P : Addr} {o elt iter : Expr} {x : Str} {px apos cpos gpos : Pos} {scope : Scope} {f : Str → Str} {mo me : EM} {k : Nat}
theorem se_joinG (hr : Room k X.A) (TB : GxR.TabB X.base X.mg c P) (hP : P ∈ cl.tb) (hcode : X.env.code = .ref c) (S : GxR.GenS X.env scope x) (ho : SE X cl W o mo) (hi : SE X cl W iter me) (hel : J1.EltS X.prog X.w scope x elt (fun a => a.length ≤ 100000) f)
    (hs : ∀ v, genFold iter X.env v = pure v) (hbase : attributeBase o "join" X.env (eval o X.env) = eval o X.env := by rfl)
    (hfew : ((backTo cpos (starEach [.GeneratorExp elt [⟨.Name x px, iter, [], 0⟩] scope gpos] X.env)).all (fun x => !x.1) && (backToKw cpos (keywordEach [] X.env)).all (fun x => x.1.isSome) && decide (([.GeneratorExp elt [⟨.Name x px, iter, [], 0⟩] scope gpos] : List Expr).length + ([] : List Keyword).length + (if ([] : List Keyword).isEmpty then 0 else 1) < 30)) = true := by rfl)
    (hline : (apos.endLine == cpos.line) = true := by rfl)
    (he : starEach [.GeneratorExp elt [⟨.Name x px, iter, [], 0⟩] scope gpos] X.env = (false, eval (.GeneratorExp elt [⟨.Name x px, iter, [], 0⟩] scope gpos) X.env) :: starEach [] X.env := by rfl) (hplain : (backTo cpos (starEach [] X.env)).any (·.1) = false := by rfl) :
    SE X cl W (.Call (.Attribute o "join" apos) [.GeneratorExp elt [⟨.Name x px, iter, [], 0⟩] scope gpos] [] cpos) (dJoinG f mo me) :=
  ⟨pe_of (J1.pe_joinG hr TB hcode S ho.pe hi.pe hel hs hbase hfew hline he hplain) fun s H Q h => by
    obtain ⟨r, en, st, he, hs, hp⟩ := h
    refine ⟨r, en, st, he, hs, (Po.bind hp).mono fun r1 H1 d st1 x1 s1 h1 v q => ?_⟩
    split at h1
    · rename_i sep
      rw [q.str_inv]
      refine ⟨sep, rfl, r1, en, st1, he.mono x1.mn, s1, (Po.bind h1).mono fun r2 H2 u st2 x2 s2 h2 v2 q2 => ?_⟩
      split at h2
      · rename_i n
        obtain ⟨a, rfl, g1⟩ := q2.ref_inv
        split at h2
        · rename_i l g
          split at h2
          · rename_i ws e2
            split at h2
            · rename_i hz
              obtain ⟨ys, y1, y2⟩ := lst_at s2 g g1
              have := strs_of e2 y2
              subst this
              refine ⟨a, ws, rfl, .inl (.inl y1), fun b hb => of_decide_eq_true (List.all_eq_true.mp hz.1 b hb), s2.tabs P hP, hz.2.1, hz.2.2, fun H3 ht => ?_⟩
              obtain ⟨s3, x3⟩ := rs_tab s2 hP ht
              exact h2 r2 H3 x3 s3 _ .str
            · exact h2.elim
          · exact h2.elim
        · exact h2.elim
      · exact h2.elim
    · exact h1.elim⟩
end

/-! ### a def whose code object is known -/
def DefAtC (K : Frag) (mg : Str → Option Value) (x qual : Str) (st : Stmt) (c : Addr) : Prop := ∃ fa fd, mg x = some (.ref fa) ∧ Fun K x qual st fa fd ∧ fd.code = .ref c
theorem use_defC {K : Frag} {h : Heap} {mg : Str → Option Value} {x qual : Str} {st : Stmt} {fa c : Addr} {od an : Option Addr} {sl : Array (Option Value)} {oc kV dc pm ct : Value} {G : Prop} (X : K.In h) (N : h.Ns mainGlobals mg)
    (a : PySem.W.nsIn K mainGlobals x = some (some (.ref fa))) (l : K.lookup fa = some ⟨oc, od, .func (PySem.W.fnOf x qual (defArgs st) (defBody st) (defScope st) .none kV dc pm an (.ref c) ct), sl⟩) (e : PySem.W.codeIn K (.ref c) qual = true) (k : PySem.W.keepIn K (.ref fa) = true)
    (g : DefAtC K mg x qual st c → G) : G := g ⟨fa, _, PySem.W.mg_of X N a, fun_mk l e k, rfl⟩
section
variable {P : Program} {w : World} {K : Frag} {mg : Str → Option Value} {base : Heap} {cl : Clm}
theorem fnD_ofC {x qual : Str} {st : Stmt} {fa : Addr} {fd : FuncData} {N ps : List Str} {k np n : Nat} {body : SM} {c : Addr} (F : Fun K x qual st fa fd) (hc : fd.code = .ref c) (sc : FnScope N ps (defScope st)) (h1 : ps.length = np) (h2 : N.length = n) (hm : mg x = some (.ref fa)) (hb : Binds K fd ps [])
    (hbody : ∀ (A : Around) (outer : List Env) (s : Shared) (H : Hp) (E : XK), Room k (A.deeper (envOfC qual (defScope st) s.heap.objs.size fa (.ref c))) →
      L2N.Takes (cxOf (L2N.CX P w) P w K mg base N qual (defScope st) fa (.ref c) A outer s H E) (fun c d _ H => E c d H) → SL (cxOf (L2N.CX P w) P w K mg base N qual (defScope st) fa (.ref c) A outer s H E) cl (fun c d _ H => E c d H) (defBody st) body) :
    FnD P w K mg base cl x np (k + 1) (defD np n body) := by
  subst h1 h2
  refine ⟨fa, fd, ps, hm, F.kp, hb, ?_⟩
  obtain ⟨oc, od, kV, doc, pm, an, cdv, ct, osl, rfl, lk, hcd⟩ := F.ex
  have e : cdv = .ref c := hc
  subst e
  refine fn_of lk hcd sc (fun vs H Q E h => h.1) fun A outer s H vs Q E hr h => ?_
  obtain ⟨hl, r, st0, ds, hs, q, hp⟩ := h
  refine ⟨_, (hbody A outer s H E hr (L2N.takes_of rfl rfl rfl rfl)).pss, ?_⟩
  have hl2 : ds.length = ps.length := by rw [q.length]; exact hl
  refine ⟨r, ds.map some ++ List.replicate (N.length - ps.length) none, st0, by rw [← hl2]; exact .start N q, hs, ?_⟩
  unfold defD at hp
  rw [if_pos hl2] at hp
  cases e : body (ds.map some ++ List.replicate (N.length - ps.length) none) st0 with
  | bad => rw [e] at hp; exact hp
  | exc x en st' => rw [e] at hp; exact fun r' H' s' c d y z _ u => hp r' H' c d y z u
  | ok p st' =>
    obtain ⟨f, en⟩ := p
    rw [e] at hp
    cases f with
    | ret d => exact fun r' H' y z s' _ v qv => hp r' H' y z v qv
    | nx => exact fun r' H' y z s' _ => hp r' H' y z _ .non
    | bk => exact hp.elim
    | ct => exact hp.elim
end
/-- a generator expression's scope -/
theorem genS_of {env : Env} {scope : Scope} {x : Str} (h1 : scope.kind = .function) (h2 : scope.isCoroutine = false) (h3 : (scope.names.all fun y => decide (y.2 ≠ .cell) && decide (y.2 ≠ .free)) = true) (h4 : scope.names.lookup (".0" : Str) = some NameKind.local) (h5 : scope.names.lookup x = some .local) : GxR.GenS env scope x :=
  ⟨h1, h2, fun y hy => by
    have := List.all_eq_true.mp h3 y hy
    simp only [Bool.and_eq_true, decide_eq_true_eq] at this
    exact this.1, h4, h5, fun y hy e => by
    have := List.all_eq_true.mp h3 y hy
    simp only [Bool.and_eq_true, decide_eq_true_eq] at this
    exact absurd e this.2⟩

/-! ### the end, with tables -/
def tabsOf (K : Frag) (ns : List Str) : List (Addr × Addr) := ns.filterMap (PySem.W.tabIn K)
/-- a list that is tracked may be held as one that is read alone -/
def spFz (sp : Sp) : Sp := fun vs H Q E => (∀ c d H', E c d H' → False) ∧ ∃ a, vs = [.ref a] ∧ ((∃ xs, H a = some (.lst xs) ∧ ∀ ob, sp vs (upd H a (.frz ob (.lst xs))) Q E) ∨ sp vs H Q E)
theorem fnOk_fz {P : Program} {w : World} {K : Frag} {mg : Str → Option Value} {base : Heap} {k : Nat} {f : Addr} {fd : FuncData} {x : Str} {sp : Sp} (F : FnOk P w K mg base (L2N.CX P w) k f fd [x] sp) : FnOk P w K mg base (L2N.CX P w) k f fd [x] (spFz sp) := by
  refine ⟨fun vs H Q E h => ?_, fun A out s H ar us vs Q E hr e0 hb rv h => ?_⟩
  · obtain ⟨_, a, e, _⟩ := h
    rw [e]; rfl
  obtain ⟨hE, a, ev, h⟩ := h
  rcases h with ⟨xs, ha, h⟩ | h
  · obtain ⟨z1, its, n, z2, z3⟩ := e0.hok a _ ha
    have old : ∀ {b : Addr} {q : HO}, b ≠ a → H b = some q → upd H a (.frz { cls := .type "list", data := .seq its.toArray n } (.lst xs)) b = some q := fun {b q} ne e => (upd_ne ne).trans e
    have oldN : ∀ {b : Addr}, H b = none → upd H a (.frz { cls := .type "list", data := .seq its.toArray n } (.lst xs)) b = none := fun {b} e => (upd_ne fun z => by rw [z, ha] at e; cases e).trans e
    have hok : HOk P w (upd H a (.frz { cls := .type "list", data := .seq its.toArray n } (.lst xs))) s.heap := fun b q e => by
      by_cases ne : b = a
      · subst ne
        rw [upd_same] at e; cases e
        exact ⟨z3, z1, its, n, z2, z3⟩
      · rw [upd_ne ne] at e
        exact (e0.hok b q e).stay (fun _ _ _ z => z) (fun c z => old (fun y => by rw [y, ha] at z; cases z) z) fun c xs z => old (fun y => by rw [y, ha] at z; cases z) z
    have e1 : Env0 P w K mg base A out s (upd H a (.frz { cls := .type "list", data := .seq its.toArray n } (.lst xs))) :=
      ⟨e0.frames, e0.mod, fun b o e => ⟨(e0.bs b o e).1, oldN (e0.bs b o e).2⟩, e0.bsz, e0.funs, fun b hm => oldN (e0.frf b hm), hok, e0.bare⟩
    refine codeAny_mono (F.run A out s _ ar us vs Q E hr e1 hb rv (h _)) fun r s' hq => ?_
    cases r with
    | error e =>
      obtain ⟨_, _, _, _, _, _, _, _, _, _, _, _, z⟩ := id hq
      exact (hE _ _ _ z).elim
    | ok fl =>
      cases fl with
      | next => exact hq
      | brk => exact hq
      | cont => exact hq
      | ret u =>
        obtain ⟨v, G, h1, h2, un, h4, h5, h6⟩ := hq
        exact ⟨v, G, h1, h2, ⟨fun b o e n => un.keep b o e (oldN n), fun b o e n => un.slot b o e (oldN n), fun b o e n => un.free b o e (oldN n), un.there, fun b ys e => un.tups b ys (old (fun y => by rw [y, ha] at e; cases e) e),
          fun b o u e => un.frzs b o u (old (fun y => by rw [y, ha] at e; cases e) e), fun b ps e => un.tbls b ps (old (fun y => by rw [y, ha] at e; cases e) e)⟩, h4, h5, h6⟩
  · exact F.run A out s H ar us vs Q E hr e0 hb rv h
def spAnyT (P : Program) (w : World) (K : Frag) (ns : List Str) (f : List D → S → Out D) : Sp := fun vs H Q E => ∀ cl : Clm, cl.P = P → cl.w = w → (∀ p ∈ cl.tb, p ∈ (tabsOf K ns).map (·.2)) ∧ cl.hot = [] → spD K cl 1 f vs H Q E
theorem walkCT {l : PySem.W.OpenLaw} {q : Program} {loose : List Str} {XP : (Str → Option Value) → Heap → Prop} {YP : World → Heap → Prop} {d : DefRec} {K : Params → Frag} {k : Nat} {x : Str} {f : List D → S → Out D} (ns : List Str)
    (hn : l.most = some 63) (hdf : d.params.defaults = []) (hr : Room k callerA) (hY : ∀ (w : World) (h : Heap), YP w h → (K w.params).In h)
    (hrec : (ns.all fun x => ((recsOf q).find? fun e => e.name == x).isSome) = true) (hno : ∀ P : Params, ((tabsOf (K P) ns).all fun p => ((K P).lookup p.2).isNone) = true)
    (hf : ∀ ns : List Int, ns.length ≤ 63 → ∃ st', f [.ref 0] [.frz (ns.map D.int)] = .ok (.bl true) st')
    (F : ∀ (w : World) (mg : Str → Option Value) (fa : Addr) (h : Heap), (K w.params).In h → h.Ns mainGlobals mg → mg d.name = some (.ref fa) →
      ∃ fd : FuncData, (∀ (s : Shared) (u : Value), BindsTo s fd ⟨[u], []⟩ [(x, u)]) ∧ ∀ base : Heap, (K w.params).In base → base.Ns mainGlobals mg → (∀ p ∈ tabsOf (K w.params) ns, GxR.TabB base mg p.1 p.2) →
        FnOk l.prog w (K w.params) mg base (L2N.CX l.prog w) k fa fd [x] (spAnyT l.prog w (K w.params) ns f)) :
    PySem.W.WalkO q loose XP YP l.row.toRowW d [] (fun f vs => PySem.call f vs) := by
  refine Att.attach_callB hn hdf fun w s₀ s₁ mg mb fa o pm cd doc a vs is G Y ho hd hcd hmg hobj hints hlen hbits hg => ?_
  have KX := hY w _ Y
  obtain ⟨fd, hb, hF⟩ := F w mg fa _ KX G.T.g hmg
  have tabs : ∀ p ∈ tabsOf (K w.params) ns, PySem.W.CodeHd s₁.heap p.1 p.2 ∧ s₁.heap.get? p.2 = some { cls := .none, data := .fields #[] } := fun p hp => by
    obtain ⟨y, hy, e⟩ := List.mem_filterMap.mp hp
    obtain ⟨dr, hdr⟩ := Option.isSome_iff_exists.mp (List.all_eq_true.mp hrec y hy)
    exact PySem.W.tab_of G.T KX hdr e
  have none : ∀ p ∈ tabsOf (K w.params) ns, (K w.params).lookup p.2 = none := fun p hp => Option.isNone_iff_eq_none.mp (List.all_eq_true.mp (hno w.params) p hp)
  refine LamX.law_callTs (cs := tabsOf (K w.params) ns) KX G.T.g G.T.b G.T.builtins G.T.nolimit hg (fun p hp => (tabs p hp).2) none (fun p hp => (tabs p hp).1) G.T.bmain hobj hints (Nat.le_trans hlen (by decide)) hr
    (fun base hk hns hT => fnOk_fz (hF base hk hns fun p hp => ⟨(hT p hp).code, (hT p hp).bm, (hT p hp).gP⟩)) hb (fun H hH hS => ?_) fun H e s' z => ?_
  · obtain ⟨st', e⟩ := hf is hlen
    have go : ∀ G : Hp, (∀ p ∈ tabsOf (K w.params) ns, G p.2 = some (.tbl #[])) → (∀ xs, G a ≠ some (.lst xs)) → SqL (K w.params) G a (is.map V.int) → spAnyT l.prog w (K w.params) ns f [.ref a] G (fun v _ => v = .bl true) fun _ _ _ => False := by
      intro G hG hO hS cl _ _ tb
      refine ⟨rfl, _, _, [.ref 0], rs_start hO hS (fun p hp => ?_) (fun p hp => by rw [tb.2] at hp; cases hp), .cons (.ref (by simp)) .nil, ?_⟩
      · obtain ⟨y, hy, rfl⟩ := List.mem_map.mp (tb.1 p hp)
        exact ⟨#[], hG y hy, trivial⟩
      · rw [e]
        exact fun r' H' _ _ v q => q.bl_inv
    refine ⟨fun _ _ _ z => z, a, rfl, ?_⟩
    rcases hS with (hS | ⟨ob, hS⟩) | hS
    · refine .inl ⟨_, hS, fun ob => go _ (fun p hp => ?_) (fun xs z => ?_) (.inl (.inr ⟨ob, upd_same⟩))⟩
      · rw [upd_ne fun z => by have := hH p hp; rw [z, hS] at this; cases this]
        exact hH p hp
      · rw [upd_same] at z; cases z
    · exact .inr (go H hH (fun xs z => by rw [hS] at z; cases z) (.inl (.inr ⟨ob, hS⟩)))
    · by_cases hl : ∃ ys, H a = some (.lst ys)
      · obtain ⟨ys, q⟩ := hl
        refine .inl ⟨ys, q, fun ob => go _ (fun p hp => ?_) (fun xs z => ?_) (.inr hS)⟩
        · rw [upd_ne fun z => by have := hH p hp; rw [z, q] at this; cases this]
          exact hH p hp
        · rw [upd_same] at z; cases z
      · exact .inr (go H hH (fun xs z => hl ⟨xs, z⟩) (.inr hS))
  · obtain ⟨_, _, _, _, _, _, _, _, _, _, _, _, z⟩ := z
    exact z
/-- the law's end, the tables' owners given -/
theorem law_finT {P : Program} {w : World} {K : Frag} {mg : Str → Option Value} (ns : List Str) (cl : Clm) (hP : cl.P = P) (hw : cl.w = w) (htb : (∀ p ∈ cl.tb, p ∈ (tabsOf K ns).map (·.2)) ∧ cl.hot = []) {k : Nat} {x y qual : Str} {st : Stmt} {fa : Addr} {f : List D → S → Out D} (dl : DefAt K mg x qual st) (hmg : mg x = some (.ref fa))
    (hb : ∀ (kV doc pm : Value) (an : Option Addr) (cdv ct u : Value), bindArgs (PySem.W.fnOf x qual (defArgs st) (defBody st) (defScope st) .none kV doc pm an cdv ct) ⟨[u], []⟩ = pure [(y, u)])
    (h : ∀ (base : Heap), (∀ p ∈ tabsOf K ns, GxR.TabB base mg p.1 p.2) → ∀ (fa : Addr) (fd : FuncData), Fun K x qual st fa fd → FnOk P w K mg base (L2N.CX P w) k fa fd [y] (spD K cl 1 f)) :
    ∃ fd : FuncData, (∀ (s : Shared) (u : Value), BindsTo s fd ⟨[u], []⟩ [(y, u)]) ∧ ∀ base : Heap, K.In base → base.Ns mainGlobals mg → (∀ p ∈ tabsOf K ns, GxR.TabB base mg p.1 p.2) → FnOk P w K mg base (L2N.CX P w) k fa fd [y] (spAnyT P w K ns f) := by
  obtain ⟨fa', fd, e, F⟩ := dl
  rw [hmg] at e; cases e
  refine ⟨fd, fun s u => ?_, fun base _ _ tb => (h base tb fa fd F).imp fun _ _ _ _ z => z cl hP hw htb⟩
  obtain ⟨_, _, kV, doc, pm, an, cdv, ct, _, rfl, _, _⟩ := F.ex
  exact .of_eq (hb kV doc pm an cdv ct u)
/-- one of the tables -/
theorem tab_in {K : Frag} {ns : List Str} {x : Str} {c P : Addr} (h : PySem.W.tabIn K x = some (c, P)) (hx : x ∈ ns) : (c, P) ∈ tabsOf K ns := List.mem_filterMap.mpr ⟨x, hx, h⟩
/-- the claims on the store, with tables -/
def clmT (P : Program) (w : World) (l : List (Str × Addr)) (tb : List Addr) : Clm := { f := fun c => l.lookup c, P := P, w := w, tb := tb }
theorem tb_in {K : Frag} {ns : List Str} {x : Str} {c P : Addr} (h : PySem.W.tabIn K x = some (c, P)) (hx : x ∈ ns) : P ∈ (tabsOf K ns).map (·.2) := List.mem_map.mpr ⟨_, tab_in h hx, rfl⟩
theorem use_tab {K : Frag} {h : Heap} {x : Str} {c P fa : Addr} {oc oc2 : Value} {od od2 : Option Addr} {fd : FuncData} {vs : Array Value} {sl sl2 : Array (Option Value)} {G : Prop} (X : K.In h) (a : PySem.W.nsIn K mainGlobals x = some (some (.ref fa))) (l : K.lookup fa = some ⟨oc, od, .func fd, sl⟩) (e : fd.code = .ref c) (l2 : K.lookup c = some ⟨oc2, od2, .fields vs, sl2⟩)
    (v : vs[11]? = some (.ref P)) (g : PySem.W.tabIn K x = some (c, P) → G) : G := g (by
  unfold PySem.W.tabIn
  simp only [a, l, e, l2, v])
abbrev tabP {K : Frag} {x : Str} {c P : Addr} (_ : PySem.W.tabIn K x = some (c, P)) : Addr := P
end Dn

namespace G
open PySem L2 Dn
def topS (i : Nat) : Stmt := PySem.Challenge.pw_whensure_k02_written_forms.main.body.getD i (.Pass ⟨0, 0, 0, 0⟩)
section
variable {P : Program} {w : World} {K : Frag} {mg : Str → Option Value} {base : Heap} {cl : Clm}
/-! ### _law_draws -/
abbrev s_llaw_draws : Stmt := topS 7
abbrev N_llaw_draws : List Str := ["_law_script", "_law_count", "_law_rows", "_law_place", "_law_cell"]
noncomputable def b_llaw_draws : SM :=
    (sSeq (sSet 2 (dLst dNil))
    (sSeq (sFor (iRng1D (dCons (dVar 1) dNil)) (bName 3)
    (sSeq (sSet 4 (dC (.int 0)))
    (sSeq (sIf (dB (dO2 dLt (dVar 3) (dON dLen (dCons (dVar 0) dNil))))
    (sSet 4 (dON dInt (dCons (dO2 dIx (dVar 0) (dVar 3)) dNil)))
    sPass)
    (sSeq (sIf (dB (dO2 dLt (dVar 4) (dC (.int 0))))
    (sSet 4 (dO2 dSub (dC (.int 1)) (dO2 dMul (dC (.int 2)) (dVar 4))))
    sPass)
    (sSeq (sIf (dB (dO2 dLt (dVar 4) (dC (.int 1000000000))))
    (sSeq (sSet 4 (dO2 dMod (dON dInt (dCons (dO2 dAdd (dO2 dMul (dO2 dAdd (dO2 dAdd (dVar 4) (dO2 dMul (dC (.int 7)) (dVar 3))) (dC (.int 3))) (dC (.int 1103515245))) (dO2 dMul (dO2 dMul (dVar 3) (dVar 3)) (dC (.int 12345)))) dNil)) (dC (.int 2305843009213693951))))
    (sSet 4 (dO2 dMod (dON dInt (dCons (dO2 dAdd (dO2 dMul (dVar 4) (dC (.int 6364136223846793005))) (dC (.int 1442695040888963407))) dNil)) (dC (.int 9223372036854775783)))))
    sPass)
    (sExpr (dMt "list" mAppend (dVar 2) (dCons (dVar 4) dNil))))))))
    (sRet (dVar 2))))
@[irreducible] noncomputable def dn_llaw_draws : List D → S → Out D := defD 2 5 b_llaw_draws
theorem sc_llaw_draws : FnScope N_llaw_draws ["_law_script", "_law_count"] (defScope s_llaw_draws) := ⟨rfl, rfl, rfl, by decide +kernel, rfl, by decide +kernel, by decide +kernel⟩
theorem ok_llaw_draws (d : DefAt K mg "_law_draws" "_law_draws" s_llaw_draws) (m_range : mg "range" = none) (m_len : mg "len" = none) (m_int : mg "int" = none) : FnD P w K mg base cl "_law_draws" 2 1 dn_llaw_draws := by
  obtain ⟨fa, fd, hm, F⟩ := d
  unfold dn_llaw_draws
  exact fnD_of (body := b_llaw_draws) F sc_llaw_draws rfl rfl hm (F.binds fun _ _ _ _ _ _ us hl => match us, hl with | [_, _], _ => rfl) (fun cdv A outer s H E hr tk =>
    (sl_cons (ss_set (i := 2) sc_llaw_draws.nd rfl (Or.inl rfl) (se_lst sa_nil))
    (sl_cons (ss_for (sl := [3]) (passes_of rfl) rfl (si_rng1 rfl m_range (sa_cons (se_var (pv 1)) sa_nil)) (pg_name (i := 3) sc_llaw_draws.nd rfl (Or.inl rfl)) (gm_name (by decide))
    (sl_cons (ss_set (i := 4) sc_llaw_draws.nd rfl (Or.inl rfl) se_int)
    (sl_cons (ss_if (sb_cmp op_lt op2_i2 (nomark _) (se_var (pv 3)) (se_callB call_len opn_len rfl m_len PySem.boot_len (sa_cons (se_var (pv 0)) sa_nil)))
    (sl_one (ss_set (i := 4) sc_llaw_draws.nd rfl (Or.inl rfl) (se_callTy call_intA opn_int rfl m_int (by decide +kernel) (sa_cons (se_ix ix_seq op2_ix (se_var (pv 0)) (se_var (pv 3)) (fun _ _ => rfl)) sa_nil))))
    sl_nil)
    (sl_cons (ss_if (sb_cmp op_lt op2_i2 (nomark _) (se_var (pv 4)) se_int)
    (sl_one (ss_set (i := 4) sc_llaw_draws.nd rfl (Or.inl rfl) (se_bin op_sub op2_sub se_int (se_bin or_mul op2_mul se_int (se_var (pv 4))))))
    sl_nil)
    (sl_cons (ss_if (sb_cmp op_lt op2_i2 (nomark _) (se_var (pv 4)) se_int)
    (sl_cons (ss_set (i := 4) sc_llaw_draws.nd rfl (Or.inl rfl) (se_bin op_mod op2_mod (se_callTy call_intA opn_int rfl m_int (by decide +kernel) (sa_cons (se_bin or_add op2_add (se_bin or_mul op2_mul (se_bin or_add op2_add (se_bin or_add op2_add (se_var (pv 4)) (se_bin or_mul op2_mul se_int (se_var (pv 3)))) se_int) se_int) (se_bin or_mul op2_mul (se_bin or_mul op2_mul (se_var (pv 3)) (se_var (pv 3))) se_int)) sa_nil)) se_int))
    (sl_one (ss_set (i := 4) sc_llaw_draws.nd rfl (Or.inl rfl) (se_bin op_mod op2_mod (se_callTy call_intA opn_int rfl m_int (by decide +kernel) (sa_cons (se_bin or_add op2_add (se_bin or_mul op2_mul (se_var (pv 4)) se_int) se_int) sa_nil)) se_int))))
    sl_nil)
    (sl_one (ss_expr (se_mt PySem.F.plainAttrs_list PySem.F.slot_list_append PySem.F.type_list_append mt_append opm_append (se_var (pv 2)) (sa_cons (se_var (pv 4)) sa_nil)))))))))
    (sl_one (ss_ret (se_var (pv 2)))))))
/-! ### _law_take -/
abbrev s_llaw_take : Stmt := topS 8
abbrev N_llaw_take : List Str := ["_law_rows", "_law_at", "_law_many", "_law_got"]
noncomputable def b_llaw_take : SM :=
    (sSeq (sSet 3 (dO2 dMod (dON dInt (dCons (dO2 dIx (dVar 0) (dVar 1)) dNil)) (dVar 2)))
    (sSeq (sSetI (dVar 0) (dVar 1) (dO2 dDiv (dON dInt (dCons (dO2 dIx (dVar 0) (dVar 1)) dNil)) (dVar 2)))
    (sRet (dVar 3))))
@[irreducible] noncomputable def dn_llaw_take : List D → S → Out D := defD 3 4 b_llaw_take
theorem sc_llaw_take : FnScope N_llaw_take ["_law_rows", "_law_at", "_law_many"] (defScope s_llaw_take) := ⟨rfl, rfl, rfl, by decide +kernel, rfl, by decide +kernel, by decide +kernel⟩
theorem ok_llaw_take (d : DefAt K mg "_law_take" "_law_take" s_llaw_take) (m_int : mg "int" = none) : FnD P w K mg base cl "_law_take" 3 1 dn_llaw_take := by
  obtain ⟨fa, fd, hm, F⟩ := d
  unfold dn_llaw_take
  exact fnD_of (body := b_llaw_take) F sc_llaw_take rfl rfl hm (F.binds fun _ _ _ _ _ _ us hl => match us, hl with | [_, _, _], _ => rfl) (fun cdv A outer s H E hr tk =>
    (sl_cons (ss_set (i := 3) sc_llaw_take.nd rfl (Or.inl rfl) (se_bin op_mod op2_mod (se_callTy call_intA opn_int rfl m_int (by decide +kernel) (sa_cons (se_ix ix_seq op2_ix (se_var (pv 0)) (se_var (pv 1)) (fun _ _ => rfl)) sa_nil)) (se_var (pv 2))))
    (sl_cons (ss_setI (se_var (pv 0)) (se_var (pv 1)) (se_bin op_fdivW op2_div (se_callTy call_intA opn_int rfl m_int (by decide +kernel) (sa_cons (se_ix ix_seq op2_ix (se_var (pv 0)) (se_var (pv 1)) (fun _ _ => rfl)) sa_nil)) (se_var (pv 2))))
    (sl_one (ss_ret (se_var (pv 3)))))))
/-! ### _law_counts -/
abbrev s_llaw_counts : Stmt := topS 12
abbrev N_llaw_counts : List Str := ["_law_rows", "_law_many", "_law_shape", "_law_counts_here"]
noncomputable def b_llaw_counts : SM :=
    (sSeq (sSet 2 (dCall 3 dn_llaw_take (dCons (dVar 0) (dCons (dC (.int 0)) (dCons (dC (.int 6)) dNil)))))
    (sSeq (sSet 3 (dLst (dCons (dCall 3 dn_llaw_take (dCons (dVar 0) (dCons (dC (.int 0)) (dCons (dC (.int 4)) dNil)))) (dCons (dCall 3 dn_llaw_take (dCons (dVar 0) (dCons (dC (.int 0)) (dCons (dC (.int 3)) dNil)))) (dCons (dCall 3 dn_llaw_take (dCons (dVar 0) (dCons (dC (.int 0)) (dCons (dC (.int 3)) dNil)))) dNil)))))
    (sSeq (sIf (dB (dO2 dEq (dVar 2) (dC (.int 0))))
    (sSet 3 (dLst (dCons (dCall 3 dn_llaw_take (dCons (dVar 0) (dCons (dC (.int 0)) (dCons (dC (.int 10)) dNil)))) (dCons (dC (.int 0)) (dCons (dC (.int 0)) dNil)))))
    sPass)
    (sSeq (sIf (dB (dO2 dEq (dVar 2) (dC (.int 1))))
    (sSet 3 (dLst (dCons (dC (.int 0)) (dCons (dC (.int 0)) (dCons (dCall 3 dn_llaw_take (dCons (dVar 0) (dCons (dC (.int 0)) (dCons (dC (.int 10)) dNil)))) dNil)))))
    sPass)
    (sSeq (sIf (dB (dO2 dEq (dVar 2) (dC (.int 2))))
    (sSet 3 (dLst (dCons (dC (.int 0)) (dCons (dCall 3 dn_llaw_take (dCons (dVar 0) (dCons (dC (.int 0)) (dCons (dC (.int 5)) dNil)))) (dCons (dCall 3 dn_llaw_take (dCons (dVar 0) (dCons (dC (.int 0)) (dCons (dC (.int 2)) dNil)))) dNil)))))
    sPass)
    (sSeq (sIf (dB (dO2 dEq (dVar 1) (dC (.int 1))))
    (sSetI (dVar 3) (dC (.int 1)) (dC (.int 0)))
    sPass)
    (sSeq (sIf (dB (dO2 dEq (dON dSumL (dCons (dVar 3) dNil)) (dC (.int 0))))
    (sSetI (dVar 3) (dC (.int 2)) (dC (.int 1)))
    sPass)
    (sRet (dVar 3)))))))))
@[irreducible] noncomputable def dn_llaw_counts : List D → S → Out D := defD 2 4 b_llaw_counts
theorem sc_llaw_counts : FnScope N_llaw_counts ["_law_rows", "_law_many"] (defScope s_llaw_counts) := ⟨rfl, rfl, rfl, by decide +kernel, rfl, by decide +kernel, by decide +kernel⟩
theorem ok_llaw_counts (d : DefAt K mg "_law_counts" "_law_counts" s_llaw_counts) (m_sum : mg "sum" = none) (c_llaw_take : FnD P w K mg base cl "_law_take" 3 1 dn_llaw_take) : FnD P w K mg base cl "_law_counts" 2 2 dn_llaw_counts := by
  obtain ⟨fa, fd, hm, F⟩ := d
  unfold dn_llaw_counts
  exact fnD_of (body := b_llaw_counts) F sc_llaw_counts rfl rfl hm (F.binds fun _ _ _ _ _ _ us hl => match us, hl with | [_, _], _ => rfl) (fun cdv A outer s H E hr tk =>
    (sl_cons (ss_set (i := 2) sc_llaw_counts.nd rfl (Or.inl rfl) (se_call c_llaw_take (hr.mono (by decide)) (tkc tk) rfl (sa_cons (se_var (pv 0)) (sa_cons se_int (sa_cons se_int sa_nil)))))
    (sl_cons (ss_set (i := 3) sc_llaw_counts.nd rfl (Or.inl rfl) (se_lst (sa_cons (se_call c_llaw_take (hr.mono (by decide)) (tkc tk) rfl (sa_cons (se_var (pv 0)) (sa_cons se_int (sa_cons se_int sa_nil)))) (sa_cons (se_call c_llaw_take (hr.mono (by decide)) (tkc tk) rfl (sa_cons (se_var (pv 0)) (sa_cons se_int (sa_cons se_int sa_nil)))) (sa_cons (se_call c_llaw_take (hr.mono (by decide)) (tkc tk) rfl (sa_cons (se_var (pv 0)) (sa_cons se_int (sa_cons se_int sa_nil)))) sa_nil)))))
    (sl_cons (ss_if (sb_cmp (or_eq (hu64 hr)) op2_eq (nomark _) (se_var (pv 2)) se_int)
    (sl_one (ss_set (i := 3) sc_llaw_counts.nd rfl (Or.inl rfl) (se_lst (sa_cons (se_call c_llaw_take (hr.mono (by decide)) (tkc tk) rfl (sa_cons (se_var (pv 0)) (sa_cons se_int (sa_cons se_int sa_nil)))) (sa_cons se_int (sa_cons se_int sa_nil))))))
    sl_nil)
    (sl_cons (ss_if (sb_cmp (or_eq (hu64 hr)) op2_eq (nomark _) (se_var (pv 2)) se_int)
    (sl_one (ss_set (i := 3) sc_llaw_counts.nd rfl (Or.inl rfl) (se_lst (sa_cons se_int (sa_cons se_int (sa_cons (se_call c_llaw_take (hr.mono (by decide)) (tkc tk) rfl (sa_cons (se_var (pv 0)) (sa_cons se_int (sa_cons se_int sa_nil)))) sa_nil))))))
    sl_nil)
    (sl_cons (ss_if (sb_cmp (or_eq (hu64 hr)) op2_eq (nomark _) (se_var (pv 2)) se_int)
    (sl_one (ss_set (i := 3) sc_llaw_counts.nd rfl (Or.inl rfl) (se_lst (sa_cons se_int (sa_cons (se_call c_llaw_take (hr.mono (by decide)) (tkc tk) rfl (sa_cons (se_var (pv 0)) (sa_cons se_int (sa_cons se_int sa_nil)))) (sa_cons (se_call c_llaw_take (hr.mono (by decide)) (tkc tk) rfl (sa_cons (se_var (pv 0)) (sa_cons se_int (sa_cons se_int sa_nil)))) sa_nil))))))
    sl_nil)
    (sl_cons (ss_if (sb_cmp (or_eq (hu64 hr)) op2_eq (nomark _) (se_var (pv 1)) se_int)
    (sl_one (ss_setI (se_var (pv 3)) se_int se_int))
    sl_nil)
    (sl_cons (ss_if (sb_cmp (or_eq (hu64 hr)) op2_eq (nomark _) (se_callB (cr_sum rfl) opn_sumL rfl m_sum (by decide +kernel) (sa_cons (se_var (pv 3)) sa_nil)) se_int)
    (sl_one (ss_setI (se_var (pv 3)) se_int se_int))
    sl_nil)
    (sl_one (ss_ret (se_var (pv 3))))))))))))
/-! ### _law_word -/
abbrev s_llaw_word : Stmt := topS 9
abbrev N_llaw_word : List Str := ["_law_rows", "_law_at", "_law_used", "_law_pool", "_law_signs", "_law_menu", "_law_word_here", "_law_k", "_law_other"]
noncomputable def b_llaw_word : SM :=
    (sSeq (sSet 4 (dC (.str "abcdefghijklmnopqrstuvwxyz0123456789")))
    (sSeq (sSet 5 (dO2 dAdd (dLst (dCons (dC (.str "device")) (dCons (dC (.str "clock")) (dCons (dC (.str "link")) (dCons (dC (.str "source")) (dCons (dC (.str "kind")) (dCons (dC (.str "faults")) (dCons (dC (.str "of")) (dCons (dC (.str "none")) dNil))))))))) (dVar 3)))
    (sSeq (sSet 6 (dO2 dIx (dVar 4) (dCall 3 dn_llaw_take (dCons (dVar 0) (dCons (dVar 1) (dCons (dC (.int 26)) dNil))))))
    (sSeq (sIf (dB (dO2 dEq (dCall 3 dn_llaw_take (dCons (dVar 0) (dCons (dVar 1) (dCons (dC (.int 6)) dNil)))) (dC (.int 1))))
    (sSet 6 (dO2 dIx (dVar 5) (dCall 3 dn_llaw_take (dCons (dVar 0) (dCons (dVar 1) (dCons (dON dLen (dCons (dVar 5) dNil)) dNil))))))
    (sFor (iRng1D (dCons (dO2 dIx (dTup (dCons (dC (.int 0)) (dCons (dC (.int 0)) (dCons (dC (.int 1)) (dCons (dC (.int 2)) (dCons (dC (.int 10)) (dCons (dC (.int 11)) dNil))))))) (dCall 3 dn_llaw_take (dCons (dVar 0) (dCons (dVar 1) (dCons (dC (.int 6)) dNil))))) dNil)) (bName 7)
    (sSet 6 (dO2 dAdd (dVar 6) (dO2 dIx (dVar 4) (dCall 3 dn_llaw_take (dCons (dVar 0) (dCons (dVar 1) (dCons (dC (.int 36)) dNil)))))))))
    (sSeq (sIf (dB (dO2 dNotIn (dVar 6) (dVar 2)))
    (sRet (dVar 6))
    sPass)
    (sSeq (sFor (iRng1D (dCons (dC (.int 10)) dNil)) (bName 7)
    (sSeq (sSet 8 (dO2 dAdd (dSl (dVar 6) dNoP (dP (dC (.int 11)))) (dO2 dIx (dVar 4) (dO2 dAdd (dC (.int 26)) (dVar 7)))))
    (sIf (dB (dO2 dNotIn (dVar 8) (dVar 2)))
    (sRet (dVar 8))
    sPass)))
    (sRet (dVar 6))))))))
@[irreducible] noncomputable def dn_llaw_word : List D → S → Out D := defD 4 9 b_llaw_word
theorem sc_llaw_word : FnScope N_llaw_word ["_law_rows", "_law_at", "_law_used", "_law_pool"] (defScope s_llaw_word) := ⟨rfl, rfl, rfl, by decide +kernel, rfl, by decide +kernel, by decide +kernel⟩
theorem ok_llaw_word (d : DefAt K mg "_law_word" "_law_word" s_llaw_word) (m_range : mg "range" = none) (m_len : mg "len" = none) (c_llaw_take : FnD P w K mg base cl "_law_take" 3 1 dn_llaw_take) : FnD P w K mg base cl "_law_word" 4 2 dn_llaw_word := by
  obtain ⟨fa, fd, hm, F⟩ := d
  unfold dn_llaw_word
  exact fnD_of (body := b_llaw_word) F sc_llaw_word rfl rfl hm (F.binds fun _ _ _ _ _ _ us hl => match us, hl with | [_, _, _, _], _ => rfl) (fun cdv A outer s H E hr tk =>
    (sl_cons (ss_set (i := 4) sc_llaw_word.nd rfl (Or.inl rfl) se_str)
    (sl_cons (ss_set (i := 5) sc_llaw_word.nd rfl (Or.inl rfl) (se_bin or_add op2_add (se_lst (sa_cons se_str (sa_cons se_str (sa_cons se_str (sa_cons se_str (sa_cons se_str (sa_cons se_str (sa_cons se_str (sa_cons se_str sa_nil))))))))) (se_var (pv 3))))
    (sl_cons (ss_set (i := 6) sc_llaw_word.nd rfl (Or.inl rfl) (se_ix ix_seq op2_ix (se_var (pv 4)) (se_call c_llaw_take (hr.mono (by decide)) (tkc tk) rfl (sa_cons (se_var (pv 0)) (sa_cons (se_var (pv 1)) (sa_cons se_int sa_nil)))) (fun _ _ => rfl)))
    (sl_cons (ss_if (sb_cmp (or_eq (hu64 hr)) op2_eq (nomark _) (se_call c_llaw_take (hr.mono (by decide)) (tkc tk) rfl (sa_cons (se_var (pv 0)) (sa_cons (se_var (pv 1)) (sa_cons se_int sa_nil)))) se_int)
    (sl_one (ss_set (i := 6) sc_llaw_word.nd rfl (Or.inl rfl) (se_ix ix_seq op2_ix (se_var (pv 5)) (se_call c_llaw_take (hr.mono (by decide)) (tkc tk) rfl (sa_cons (se_var (pv 0)) (sa_cons (se_var (pv 1)) (sa_cons (se_callB call_len opn_len rfl m_len PySem.boot_len (sa_cons (se_var (pv 5)) sa_nil)) sa_nil)))) (fun _ _ => rfl))))
    (sl_one (ss_for (sl := [7]) (passes_of rfl) rfl (si_rng1 rfl m_range (sa_cons (se_ix ix_seq op2_ix (se_tup (sa_cons se_int (sa_cons se_int (sa_cons se_int (sa_cons se_int (sa_cons se_int (sa_cons se_int sa_nil))))))) (se_call c_llaw_take (hr.mono (by decide)) (tkc tk) rfl (sa_cons (se_var (pv 0)) (sa_cons (se_var (pv 1)) (sa_cons se_int sa_nil)))) (fun _ _ => rfl)) sa_nil)) (pg_name (i := 7) sc_llaw_word.nd rfl (Or.inl rfl)) (gm_name (by decide))
    (sl_one (ss_set (i := 6) sc_llaw_word.nd rfl (Or.inl rfl) (se_bin or_add op2_add (se_var (pv 6)) (se_ix ix_seq op2_ix (se_var (pv 4)) (se_call c_llaw_take (hr.mono (by decide)) (tkc tk) rfl (sa_cons (se_var (pv 0)) (sa_cons (se_var (pv 1)) (sa_cons se_int sa_nil)))) (fun _ _ => rfl))))))))
    (sl_cons (ss_if (sb_cmp (or_notin (hu65 hr)) op2_notin (by rfl) (se_var (pv 6)) (se_var (pv 2)))
    (sl_one (ss_ret (se_var (pv 6))))
    sl_nil)
    (sl_cons (ss_for (sl := [7]) (passes_of rfl) rfl (si_rng1 rfl m_range (sa_cons se_int sa_nil)) (pg_name (i := 7) sc_llaw_word.nd rfl (Or.inl rfl)) (gm_name (by decide))
    (sl_cons (ss_set (i := 8) sc_llaw_word.nd rfl (Or.inl rfl) (se_bin or_add op2_add (se_sl (se_var (pv 6)) so_none (so_some se_int)) (se_ix ix_seq op2_ix (se_var (pv 4)) (se_bin or_add op2_add se_int (se_var (pv 7))) (fun _ _ => rfl))))
    (sl_one (ss_if (sb_cmp (or_notin (hu65 hr)) op2_notin (by rfl) (se_var (pv 8)) (se_var (pv 2)))
    (sl_one (ss_ret (se_var (pv 8))))
    sl_nil))))
    (sl_one (ss_ret (se_var (pv 6)))))))))))
/-! ### _law_ways -/
abbrev s_llaw_ways : Stmt := topS 13
abbrev N_llaw_ways : List Str := ["_law_rows", "_law_many", "_law_pairs", "_law_ahead", "_law_back", "_law_k", "_law_ways_here", "_law_here", "_law_there"]
noncomputable def b_llaw_ways : SM :=
    (sSeq (sSet 3 (dLst dNil))
    (sSeq (sSet 4 (dLst dNil))
    (sSeq (sFor (iRng1D (dCons (dVar 2) dNil)) (bName 5)
    (sSeq (sSet 7 (dCall 3 dn_llaw_take (dCons (dVar 0) (dCons (dC (.int 25)) (dCons (dVar 1) dNil)))))
    (sSeq (sSet 8 (dO2 dMod (dON dInt (dCons (dO2 dAdd (dO2 dAdd (dVar 7) (dC (.int 1))) (dCall 3 dn_llaw_take (dCons (dVar 0) (dCons (dC (.int 25)) (dCons (dO2 dSub (dVar 1) (dC (.int 1))) dNil))))) dNil)) (dVar 1)))
    (sSeq (sExpr (dMt "list" mAppend (dVar 3) (dCons (dTup (dCons (dVar 7) (dCons (dVar 8) dNil))) dNil)))
    (sExpr (dMt "list" mAppend (dVar 4) (dCons (dTup (dCons (dVar 8) (dCons (dVar 7) dNil))) dNil)))))))
    (sSeq (sIf (dB (dO2 dEq (dCall 3 dn_llaw_take (dCons (dVar 0) (dCons (dC (.int 25)) (dCons (dC (.int 2)) dNil)))) (dC (.int 0))))
    (sRet (dO2 dAdd (dVar 3) (dVar 4)))
    sPass)
    (sSeq (sSet 6 (dLst dNil))
    (sSeq (sFor (iRng1D (dCons (dVar 2) dNil)) (bName 5)
    (sSet 6 (dO2 dAdd (dVar 6) (dLst (dCons (dO2 dIx (dVar 4) (dVar 5)) (dCons (dO2 dIx (dVar 3) (dVar 5)) dNil))))))
    (sRet (dVar 6))))))))
@[irreducible] noncomputable def dn_llaw_ways : List D → S → Out D := defD 3 9 b_llaw_ways
theorem sc_llaw_ways : FnScope N_llaw_ways ["_law_rows", "_law_many", "_law_pairs"] (defScope s_llaw_ways) := ⟨rfl, rfl, rfl, by decide +kernel, rfl, by decide +kernel, by decide +kernel⟩
theorem ok_llaw_ways (d : DefAt K mg "_law_ways" "_law_ways" s_llaw_ways) (m_range : mg "range" = none) (m_int : mg "int" = none) (c_llaw_take : FnD P w K mg base cl "_law_take" 3 1 dn_llaw_take) : FnD P w K mg base cl "_law_ways" 3 2 dn_llaw_ways := by
  obtain ⟨fa, fd, hm, F⟩ := d
  unfold dn_llaw_ways
  exact fnD_of (body := b_llaw_ways) F sc_llaw_ways rfl rfl hm (F.binds fun _ _ _ _ _ _ us hl => match us, hl with | [_, _, _], _ => rfl) (fun cdv A outer s H E hr tk =>
    (sl_cons (ss_set (i := 3) sc_llaw_ways.nd rfl (Or.inl rfl) (se_lst sa_nil))
    (sl_cons (ss_set (i := 4) sc_llaw_ways.nd rfl (Or.inl rfl) (se_lst sa_nil))
    (sl_cons (ss_for (sl := [5]) (passes_of rfl) rfl (si_rng1 rfl m_range (sa_cons (se_var (pv 2)) sa_nil)) (pg_name (i := 5) sc_llaw_ways.nd rfl (Or.inl rfl)) (gm_name (by decide))
    (sl_cons (ss_set (i := 7) sc_llaw_ways.nd rfl (Or.inl rfl) (se_call c_llaw_take (hr.mono (by decide)) (tkc tk) rfl (sa_cons (se_var (pv 0)) (sa_cons se_int (sa_cons (se_var (pv 1)) sa_nil)))))
    (sl_cons (ss_set (i := 8) sc_llaw_ways.nd rfl (Or.inl rfl) (se_bin op_mod op2_mod (se_callTy call_intA opn_int rfl m_int (by decide +kernel) (sa_cons (se_bin or_add op2_add (se_bin or_add op2_add (se_var (pv 7)) se_int) (se_call c_llaw_take (hr.mono (by decide)) (tkc tk) rfl (sa_cons (se_var (pv 0)) (sa_cons se_int (sa_cons (se_bin op_sub op2_sub (se_var (pv 1)) se_int) sa_nil))))) sa_nil)) (se_var (pv 1))))
    (sl_cons (ss_expr (se_mt PySem.F.plainAttrs_list PySem.F.slot_list_append PySem.F.type_list_append mt_append opm_append (se_var (pv 3)) (sa_cons (se_tup (sa_cons (se_var (pv 7)) (sa_cons (se_var (pv 8)) sa_nil))) sa_nil)))
    (sl_one (ss_expr (se_mt PySem.F.plainAttrs_list PySem.F.slot_list_append PySem.F.type_list_append mt_append opm_append (se_var (pv 4)) (sa_cons (se_tup (sa_cons (se_var (pv 8)) (sa_cons (se_var (pv 7)) sa_nil))) sa_nil))))))))
    (sl_cons (ss_if (sb_cmp (or_eq (hu64 hr)) op2_eq (nomark _) (se_call c_llaw_take (hr.mono (by decide)) (tkc tk) rfl (sa_cons (se_var (pv 0)) (sa_cons se_int (sa_cons se_int sa_nil)))) se_int)
    (sl_one (ss_ret (se_bin or_add op2_add (se_var (pv 3)) (se_var (pv 4)))))
    sl_nil)
    (sl_cons (ss_set (i := 6) sc_llaw_ways.nd rfl (Or.inl rfl) (se_lst sa_nil))
    (sl_cons (ss_for (sl := [5]) (passes_of rfl) rfl (si_rng1 rfl m_range (sa_cons (se_var (pv 2)) sa_nil)) (pg_name (i := 5) sc_llaw_ways.nd rfl (Or.inl rfl)) (gm_name (by decide))
    (sl_one (ss_set (i := 6) sc_llaw_ways.nd rfl (Or.inl rfl) (se_bin or_add op2_add (se_var (pv 6)) (se_lst (sa_cons (se_ix ix_seq op2_ix (se_var (pv 4)) (se_var (pv 5)) (fun _ _ => rfl)) (sa_cons (se_ix ix_seq op2_ix (se_var (pv 3)) (se_var (pv 5)) (fun _ _ => rfl)) sa_nil)))))))
    (sl_one (ss_ret (se_var (pv 6)))))))))))
/-! ### _law_number -/
abbrev s_llaw_number : Stmt := topS 10
abbrev N_llaw_number : List Str := ["_law_rows", "_law_at", "_law_least", "_law_most"]
noncomputable def b_llaw_number : SM :=
    (sSeq (sSet 3 (dO2 dIx (dTup (dCons (dC (.int 9)) (dCons (dC (.int 1000)) (dCons (dC (.int 999999999999)) dNil)))) (dCall 3 dn_llaw_take (dCons (dVar 0) (dCons (dVar 1) (dCons (dC (.int 3)) dNil))))))
    (sRet (dO2 dAdd (dVar 2) (dCall 3 dn_llaw_take (dCons (dVar 0) (dCons (dVar 1) (dCons (dO2 dSub (dO2 dAdd (dVar 3) (dC (.int 1))) (dVar 2)) dNil)))))))
@[irreducible] noncomputable def dn_llaw_number : List D → S → Out D := defD 3 4 b_llaw_number
theorem sc_llaw_number : FnScope N_llaw_number ["_law_rows", "_law_at", "_law_least"] (defScope s_llaw_number) := ⟨rfl, rfl, rfl, by decide +kernel, rfl, by decide +kernel, by decide +kernel⟩
theorem ok_llaw_number (d : DefAt K mg "_law_number" "_law_number" s_llaw_number) (c_llaw_take : FnD P w K mg base cl "_law_take" 3 1 dn_llaw_take) : FnD P w K mg base cl "_law_number" 3 2 dn_llaw_number := by
  obtain ⟨fa, fd, hm, F⟩ := d
  unfold dn_llaw_number
  exact fnD_of (body := b_llaw_number) F sc_llaw_number rfl rfl hm (F.binds fun _ _ _ _ _ _ us hl => match us, hl with | [_, _, _], _ => rfl) (fun cdv A outer s H E hr tk =>
    (sl_cons (ss_set (i := 3) sc_llaw_number.nd rfl (Or.inl rfl) (se_ix ix_seq op2_ix (se_tup (sa_cons se_int (sa_cons se_int (sa_cons se_int sa_nil)))) (se_call c_llaw_take (hr.mono (by decide)) (tkc tk) rfl (sa_cons (se_var (pv 0)) (sa_cons (se_var (pv 1)) (sa_cons se_int sa_nil)))) (fun _ _ => rfl)))
    (sl_one (ss_ret (se_bin or_add op2_add (se_var (pv 2)) (se_call c_llaw_take (hr.mono (by decide)) (tkc tk) rfl (sa_cons (se_var (pv 0)) (sa_cons (se_var (pv 1)) (sa_cons (se_bin op_sub op2_sub (se_bin or_add op2_add (se_var (pv 3)) se_int) (se_var (pv 2))) sa_nil)))))))))
/-! ### _law_kinds -/
abbrev s_llaw_kinds : Stmt := topS 11
abbrev N_llaw_kinds : List Str := ["_law_rows", "_law_at", "_law_sort", "_law_kinds_here", "_law_k", "_law_name", "_law_low", "_law_high", "_law_kind"]
noncomputable def b_llaw_kinds : SM :=
    (sSeq (sSet 3 (dLst dNil))
    (sSeq (sFor (iRng1D (dCons (dO2 dIx (dTup (dCons (dC (.int 1)) (dCons (dC (.int 1)) (dCons (dC (.int 2)) (dCons (dC (.int 4)) dNil))))) (dCall 3 dn_llaw_take (dCons (dVar 0) (dCons (dVar 1) (dCons (dC (.int 4)) dNil))))) dNil)) (bName 4)
    (sSeq (sSet 5 (dCall 4 dn_llaw_word (dCons (dVar 0) (dCons (dVar 1) (dCons (dLc (iAny (dVar 3)) [8] (bName 8) cYes (dO2 dIx (dVar 8) (dC (.int 0)))) (dCons (dLst dNil) dNil))))))
    (sSeq (sIf (dB (dO2 dEq (dVar 2) (dC (.str "source"))))
    (sSeq (sSet 6 (dCall 3 dn_llaw_number (dCons (dVar 0) (dCons (dVar 1) (dCons (dC (.int 0)) dNil)))))
    (sSet 7 (dCall 3 dn_llaw_number (dCons (dVar 0) (dCons (dVar 1) (dCons (dC (.int 0)) dNil))))))
    (sSeq (sSet 6 (dCall 3 dn_llaw_number (dCons (dVar 0) (dCons (dVar 1) (dCons (dON dInt (dCons (dO2 dEq (dVar 2) (dC (.str "clock"))) dNil)) dNil)))))
    (sSeq (sSet 7 (dON dMin2 (dCons (dC (.int 999999999999)) (dCons (dO2 dAdd (dVar 6) (dCall 3 dn_llaw_number (dCons (dVar 0) (dCons (dVar 1) (dCons (dC (.int 0)) dNil))))) dNil))))
    (sIf (dAndT (dB (dO2 dEq (dVar 2) (dC (.str "link")))) (dB (dO2 dEq (dCall 3 dn_llaw_take (dCons (dVar 0) (dCons (dVar 1) (dCons (dC (.int 4)) dNil)))) (dC (.int 0)))))
    (sSet 7 (dC .non))
    sPass))))
    (sExpr (dMt "list" mAppend (dVar 3) (dCons (dTup (dCons (dVar 5) (dCons (dVar 6) (dCons (dVar 7) dNil)))) dNil))))))
    (sRet (dON dTuple (dCons (dVar 3) dNil)))))
@[irreducible] noncomputable def dn_llaw_kinds : List D → S → Out D := defD 3 9 b_llaw_kinds
theorem sc_llaw_kinds : FnScope N_llaw_kinds ["_law_rows", "_law_at", "_law_sort"] (defScope s_llaw_kinds) := ⟨rfl, rfl, rfl, by decide +kernel, rfl, by decide +kernel, by decide +kernel⟩
theorem ok_llaw_kinds (d : DefAt K mg "_law_kinds" "_law_kinds" s_llaw_kinds) (m_range : mg "range" = none) (m_tuple : mg "tuple" = none) (m_min : mg "min" = none) (m_int : mg "int" = none) (c_llaw_word : FnD P w K mg base cl "_law_word" 4 2 dn_llaw_word) (c_llaw_take : FnD P w K mg base cl "_law_take" 3 1 dn_llaw_take) (c_llaw_number : FnD P w K mg base cl "_law_number" 3 2 dn_llaw_number) : FnD P w K mg base cl "_law_kinds" 3 3 dn_llaw_kinds := by
  obtain ⟨fa, fd, hm, F⟩ := d
  unfold dn_llaw_kinds
  exact fnD_of (body := b_llaw_kinds) F sc_llaw_kinds rfl rfl hm (F.binds fun _ _ _ _ _ _ us hl => match us, hl with | [_, _, _], _ => rfl) (fun cdv A outer s H E hr tk =>
    (sl_cons (ss_set (i := 3) sc_llaw_kinds.nd rfl (Or.inl rfl) (se_lst sa_nil))
    (sl_cons (ss_for (sl := [4]) (passes_of rfl) rfl (si_rng1 rfl m_range (sa_cons (se_ix ix_seq op2_ix (se_tup (sa_cons se_int (sa_cons se_int (sa_cons se_int (sa_cons se_int sa_nil))))) (se_call c_llaw_take (hr.mono (by decide)) (tkc tk) rfl (sa_cons (se_var (pv 0)) (sa_cons (se_var (pv 1)) (sa_cons se_int sa_nil)))) (fun _ _ => rfl)) sa_nil)) (pg_name (i := 4) sc_llaw_kinds.nd rfl (Or.inl rfl)) (gm_name (by decide))
    (sl_cons (ss_set (i := 5) sc_llaw_kinds.nd rfl (Or.inl rfl) (se_call c_llaw_word (hr.mono (by decide)) (tkc tk) rfl (sa_cons (se_var (pv 0)) (sa_cons (se_var (pv 1)) (sa_cons (se_lc tk (sl := [8]) (own := [("_law_kind", 8)]) rfl sc_llaw_kinds.nd (si_any (se_var (pv 3))) (blkOk_by (N := N_llaw_kinds) (sc := defScope s_llaw_kinds) (by decide +kernel)) (gm_name (by decide)) (by decide) (fun _ _ _ _ _ _ => (pg_name (i := 8) sc_llaw_kinds.nd rfl (Or.inl rfl))) (fun _ _ _ _ _ _ _ tq => sts_nil) (fun _ _ _ _ _ _ _ tq => (se_ix ix_seq op2_ix (se_var (pv 8)) se_int (fun _ _ => rfl)))) (sa_cons (se_lst sa_nil) sa_nil))))))
    (sl_cons (ss_if (sb_cmp (or_eq (hu64 hr)) op2_eq (nomark _) (se_var (pv 2)) se_str)
    (sl_cons (ss_set (i := 6) sc_llaw_kinds.nd rfl (Or.inl rfl) (se_call c_llaw_number (hr.mono (by decide)) (tkc tk) rfl (sa_cons (se_var (pv 0)) (sa_cons (se_var (pv 1)) (sa_cons se_int sa_nil)))))
    (sl_one (ss_set (i := 7) sc_llaw_kinds.nd rfl (Or.inl rfl) (se_call c_llaw_number (hr.mono (by decide)) (tkc tk) rfl (sa_cons (se_var (pv 0)) (sa_cons (se_var (pv 1)) (sa_cons se_int sa_nil)))))))
    (sl_cons (ss_set (i := 6) sc_llaw_kinds.nd rfl (Or.inl rfl) (se_call c_llaw_number (hr.mono (by decide)) (tkc tk) rfl (sa_cons (se_var (pv 0)) (sa_cons (se_var (pv 1)) (sa_cons (se_callTy call_intA opn_int rfl m_int (by decide +kernel) (sa_cons (se_cmp (or_eq (hu64 hr)) op2_eq (nomark _) (se_var (pv 2)) se_str) sa_nil)) sa_nil)))))
    (sl_cons (ss_set (i := 7) sc_llaw_kinds.nd rfl (Or.inl rfl) (se_callB (call_min2 rfl) opn_min2 rfl m_min (by decide +kernel) (sa_cons se_int (sa_cons (se_bin or_add op2_add (se_var (pv 6)) (se_call c_llaw_number (hr.mono (by decide)) (tkc tk) rfl (sa_cons (se_var (pv 0)) (sa_cons (se_var (pv 1)) (sa_cons se_int sa_nil))))) sa_nil))))
    (sl_one (ss_if (SW.sb (sw_and (sb_cmp (or_eq (hu64 hr)) op2_eq (nomark _) (se_var (pv 2)) se_str) (sw_and1 (sb_cmp (or_eq (hu64 hr)) op2_eq (nomark _) (se_call c_llaw_take (hr.mono (by decide)) (tkc tk) rfl (sa_cons (se_var (pv 0)) (sa_cons (se_var (pv 1)) (sa_cons se_int sa_nil)))) se_int))))
    (sl_one (ss_set (i := 7) sc_llaw_kinds.nd rfl (Or.inl rfl) se_non))
    sl_nil)))))
    (sl_one (ss_expr (se_mt PySem.F.plainAttrs_list PySem.F.slot_list_append PySem.F.type_list_append mt_append opm_append (se_var (pv 3)) (sa_cons (se_tup (sa_cons (se_var (pv 5)) (sa_cons (se_var (pv 6)) (sa_cons (se_var (pv 7)) sa_nil)))) sa_nil)))))))
    (sl_one (ss_ret (se_callTy call_tuple_of opn_tuple rfl m_tuple (by decide +kernel) (sa_cons (se_var (pv 3)) sa_nil)))))))
/-! ### _law_parts -/
abbrev s_llaw_parts : Stmt := topS 14
abbrev N_llaw_parts : List Str := ["_law_rows", "_law_many", "_law_devices", "_law_k", "_law_counts_here", "_law_clocks", "_law_links", "_law_sources", "_law_at", "_law_faults", "_law_name", "_law_goes_on", "_law_way", "_law_clock", "_law_source", "_law_link"]
noncomputable def b_llaw_parts : SM :=
    (sSeq (sSet 1 (dO2 dAdd (dC (.int 1)) (dCall 3 dn_llaw_take (dCons (dVar 0) (dCons (dC (.int 0)) (dCons (dC (.int 6)) dNil))))))
    (sSeq (sSet 2 (dLst dNil))
    (sSeq (sFor (iRng1D (dCons (dVar 1) dNil)) (bName 3)
    (sExpr (dMt "list" mAppend (dVar 2) (dCons (dCall 4 dn_llaw_word (dCons (dVar 0) (dCons (dO2 dAdd (dC (.int 1)) (dVar 3)) (dCons (dVar 2) (dCons (dLst dNil) dNil))))) dNil))))
    (sSeq (sSet 4 (dCall 2 dn_llaw_counts (dCons (dVar 0) (dCons (dVar 1) dNil))))
    (sSeq (sSet 5 (dLst dNil))
    (sSeq (sSet 6 (dLst dNil))
    (sSeq (sSet 7 (dLst dNil))
    (sSeq (sSet 8 (dC (.int 7)))
    (sSeq (sFor (iRng1D (dCons (dO2 dIx (dVar 4) (dC (.int 0))) dNil)) (bName 3)
    (sSeq (sSet 10 (dCall 4 dn_llaw_word (dCons (dVar 0) (dCons (dVar 8) (dCons (dLc (iAny (dVar 5)) [13] (bName 13) cYes (dO2 dIx (dVar 13) (dC (.int 0)))) (dCons (dVar 2) dNil))))))
    (sSeq (sSet 11 (dO2 dEq (dCall 3 dn_llaw_take (dCons (dVar 0) (dCons (dVar 8) (dCons (dC (.int 2)) dNil)))) (dC (.int 1))))
    (sSeq (sExpr (dMt "list" mAppend (dVar 5) (dCons (dTup (dCons (dVar 10) (dCons (dCall 3 dn_llaw_take (dCons (dVar 0) (dCons (dVar 8) (dCons (dVar 1) dNil)))) (dCons (dVar 11) (dCons (dCall 3 dn_llaw_kinds (dCons (dVar 0) (dCons (dO2 dAdd (dVar 8) (dC (.int 9))) (dCons (dC (.str "clock")) dNil)))) dNil))))) dNil)))
    (sSet 8 (dO2 dAdd (dVar 8) (dC (.int 1))))))))
    (sSeq (sIf (dB (dO2 dGt (dO2 dIx (dVar 4) (dC (.int 1))) (dC (.int 0))))
    (sFor (iAny (dCall 3 dn_llaw_ways (dCons (dVar 0) (dCons (dVar 1) (dCons (dO2 dIx (dVar 4) (dC (.int 1))) dNil))))) (bName 12)
    (sSeq (sSet 10 (dCall 4 dn_llaw_word (dCons (dVar 0) (dCons (dVar 8) (dCons (dLc (iAny (dVar 6)) [15] (bName 15) cYes (dO2 dIx (dVar 15) (dC (.int 0)))) (dCons (dVar 2) dNil))))))
    (sSeq (sExpr (dMt "list" mAppend (dVar 6) (dCons (dTup (dCons (dVar 10) (dCons (dO2 dIx (dVar 12) (dC (.int 0))) (dCons (dO2 dIx (dVar 12) (dC (.int 1))) (dCons (dCall 3 dn_llaw_kinds (dCons (dVar 0) (dCons (dO2 dAdd (dVar 8) (dC (.int 9))) (dCons (dC (.str "link")) dNil)))) dNil))))) dNil)))
    (sSet 8 (dO2 dAdd (dVar 8) (dC (.int 1)))))))
    sPass)
    (sSeq (sFor (iRng1D (dCons (dO2 dIx (dVar 4) (dC (.int 2))) dNil)) (bName 3)
    (sSeq (sSet 10 (dCall 4 dn_llaw_word (dCons (dVar 0) (dCons (dVar 8) (dCons (dLc (iAny (dVar 7)) [14] (bName 14) cYes (dO2 dIx (dVar 14) (dC (.int 0)))) (dCons (dVar 2) dNil))))))
    (sSeq (sExpr (dMt "list" mAppend (dVar 7) (dCons (dTup (dCons (dVar 10) (dCons (dCall 3 dn_llaw_take (dCons (dVar 0) (dCons (dVar 8) (dCons (dVar 1) dNil)))) (dCons (dCall 3 dn_llaw_kinds (dCons (dVar 0) (dCons (dO2 dAdd (dVar 8) (dC (.int 9))) (dCons (dC (.str "source")) dNil)))) dNil)))) dNil)))
    (sSet 8 (dO2 dAdd (dVar 8) (dC (.int 1)))))))
    (sSeq (sSet 9 (dON dMin2 (dCons (dCall 3 dn_llaw_take (dCons (dVar 0) (dCons (dC (.int 0)) (dCons (dC (.int 3)) dNil)))) (dCons (dO2 dSub (dO2 dAdd (dO2 dAdd (dON dLen (dCons (dVar 5) dNil)) (dON dLen (dCons (dVar 6) dNil))) (dON dLen (dCons (dVar 7) dNil))) (dC (.int 1))) dNil))))
    (sRet (dTup (dCons (dVar 2) (dCons (dVar 5) (dCons (dVar 6) (dCons (dVar 7) (dCons (dVar 9) dNil)))))))))))))))))))
@[irreducible] noncomputable def dn_llaw_parts : List D → S → Out D := defD 1 16 b_llaw_parts
theorem sc_llaw_parts : FnScope N_llaw_parts ["_law_rows"] (defScope s_llaw_parts) := ⟨rfl, rfl, rfl, by decide +kernel, rfl, by decide +kernel, by decide +kernel⟩
theorem ok_llaw_parts (d : DefAt K mg "_law_parts" "_law_parts" s_llaw_parts) (m_range : mg "range" = none) (m_min : mg "min" = none) (m_len : mg "len" = none) (c_llaw_counts : FnD P w K mg base cl "_law_counts" 2 2 dn_llaw_counts) (c_llaw_take : FnD P w K mg base cl "_law_take" 3 1 dn_llaw_take) (c_llaw_word : FnD P w K mg base cl "_law_word" 4 2 dn_llaw_word) (c_llaw_ways : FnD P w K mg base cl "_law_ways" 3 2 dn_llaw_ways) (c_llaw_kinds : FnD P w K mg base cl "_law_kinds" 3 3 dn_llaw_kinds) : FnD P w K mg base cl "_law_parts" 1 4 dn_llaw_parts := by
  obtain ⟨fa, fd, hm, F⟩ := d
  unfold dn_llaw_parts
  exact fnD_of (body := b_llaw_parts) F sc_llaw_parts rfl rfl hm (F.binds fun _ _ _ _ _ _ us hl => match us, hl with | [_], _ => rfl) (fun cdv A outer s H E hr tk =>
    (sl_cons (ss_set (i := 1) sc_llaw_parts.nd rfl (Or.inl rfl) (se_bin or_add op2_add se_int (se_call c_llaw_take (hr.mono (by decide)) (tkc tk) rfl (sa_cons (se_var (pv 0)) (sa_cons se_int (sa_cons se_int sa_nil))))))
    (sl_cons (ss_set (i := 2) sc_llaw_parts.nd rfl (Or.inl rfl) (se_lst sa_nil))
    (sl_cons (ss_for (sl := [3]) (passes_of rfl) rfl (si_rng1 rfl m_range (sa_cons (se_var (pv 1)) sa_nil)) (pg_name (i := 3) sc_llaw_parts.nd rfl (Or.inl rfl)) (gm_name (by decide))
    (sl_one (ss_expr (se_mt PySem.F.plainAttrs_list PySem.F.slot_list_append PySem.F.type_list_append mt_append opm_append (se_var (pv 2)) (sa_cons (se_call c_llaw_word (hr.mono (by decide)) (tkc tk) rfl (sa_cons (se_var (pv 0)) (sa_cons (se_bin or_add op2_add se_int (se_var (pv 3))) (sa_cons (se_var (pv 2)) (sa_cons (se_lst sa_nil) sa_nil))))) sa_nil)))))
    (sl_cons (ss_set (i := 4) sc_llaw_parts.nd rfl (Or.inl rfl) (se_call c_llaw_counts (hr.mono (by decide)) (tkc tk) rfl (sa_cons (se_var (pv 0)) (sa_cons (se_var (pv 1)) sa_nil))))
    (sl_cons (ss_set (i := 5) sc_llaw_parts.nd rfl (Or.inl rfl) (se_lst sa_nil))
    (sl_cons (ss_set (i := 6) sc_llaw_parts.nd rfl (Or.inl rfl) (se_lst sa_nil))
    (sl_cons (ss_set (i := 7) sc_llaw_parts.nd rfl (Or.inl rfl) (se_lst sa_nil))
    (sl_cons (ss_set (i := 8) sc_llaw_parts.nd rfl (Or.inl rfl) se_int)
    (sl_cons (ss_for (sl := [3]) (passes_of rfl) rfl (si_rng1 rfl m_range (sa_cons (se_ix ix_seq op2_ix (se_var (pv 4)) se_int (fun _ _ => rfl)) sa_nil)) (pg_name (i := 3) sc_llaw_parts.nd rfl (Or.inl rfl)) (gm_name (by decide))
    (sl_cons (ss_set (i := 10) sc_llaw_parts.nd rfl (Or.inl rfl) (se_call c_llaw_word (hr.mono (by decide)) (tkc tk) rfl (sa_cons (se_var (pv 0)) (sa_cons (se_var (pv 8)) (sa_cons (se_lc tk (sl := [13]) (own := [("_law_clock", 13)]) rfl sc_llaw_parts.nd (si_any (se_var (pv 5))) (blkOk_by (N := N_llaw_parts) (sc := defScope s_llaw_parts) (by decide +kernel)) (gm_name (by decide)) (by decide) (fun _ _ _ _ _ _ => (pg_name (i := 13) sc_llaw_parts.nd rfl (Or.inl rfl))) (fun _ _ _ _ _ _ _ tq => sts_nil) (fun _ _ _ _ _ _ _ tq => (se_ix ix_seq op2_ix (se_var (pv 13)) se_int (fun _ _ => rfl)))) (sa_cons (se_var (pv 2)) sa_nil))))))
    (sl_cons (ss_set (i := 11) sc_llaw_parts.nd rfl (Or.inl rfl) (se_cmp (or_eq (hu64 hr)) op2_eq (nomark _) (se_call c_llaw_take (hr.mono (by decide)) (tkc tk) rfl (sa_cons (se_var (pv 0)) (sa_cons (se_var (pv 8)) (sa_cons se_int sa_nil)))) se_int))
    (sl_cons (ss_expr (se_mt PySem.F.plainAttrs_list PySem.F.slot_list_append PySem.F.type_list_append mt_append opm_append (se_var (pv 5)) (sa_cons (se_tup (sa_cons (se_var (pv 10)) (sa_cons (se_call c_llaw_take (hr.mono (by decide)) (tkc tk) rfl (sa_cons (se_var (pv 0)) (sa_cons (se_var (pv 8)) (sa_cons (se_var (pv 1)) sa_nil)))) (sa_cons (se_var (pv 11)) (sa_cons (se_call c_llaw_kinds (hr.mono (by decide)) (tkc tk) rfl (sa_cons (se_var (pv 0)) (sa_cons (se_bin or_add op2_add (se_var (pv 8)) se_int) (sa_cons se_str sa_nil)))) sa_nil))))) sa_nil)))
    (sl_one (ss_set (i := 8) sc_llaw_parts.nd rfl (Or.inl rfl) (se_bin or_add op2_add (se_var (pv 8)) se_int)))))))
    (sl_cons (ss_if (sb_cmp op_gt op2_i2 (nomark _) (se_ix ix_seq op2_ix (se_var (pv 4)) se_int (fun _ _ => rfl)) se_int)
    (sl_one (ss_for (sl := [12]) (passes_of rfl) rfl (si_any (se_call c_llaw_ways (hr.mono (by decide)) (tkc tk) rfl (sa_cons (se_var (pv 0)) (sa_cons (se_var (pv 1)) (sa_cons (se_ix ix_seq op2_ix (se_var (pv 4)) se_int (fun _ _ => rfl)) sa_nil))))) (pg_name (i := 12) sc_llaw_parts.nd rfl (Or.inl rfl)) (gm_name (by decide))
    (sl_cons (ss_set (i := 10) sc_llaw_parts.nd rfl (Or.inl rfl) (se_call c_llaw_word (hr.mono (by decide)) (tkc tk) rfl (sa_cons (se_var (pv 0)) (sa_cons (se_var (pv 8)) (sa_cons (se_lc tk (sl := [15]) (own := [("_law_link", 15)]) rfl sc_llaw_parts.nd (si_any (se_var (pv 6))) (blkOk_by (N := N_llaw_parts) (sc := defScope s_llaw_parts) (by decide +kernel)) (gm_name (by decide)) (by decide) (fun _ _ _ _ _ _ => (pg_name (i := 15) sc_llaw_parts.nd rfl (Or.inl rfl))) (fun _ _ _ _ _ _ _ tq => sts_nil) (fun _ _ _ _ _ _ _ tq => (se_ix ix_seq op2_ix (se_var (pv 15)) se_int (fun _ _ => rfl)))) (sa_cons (se_var (pv 2)) sa_nil))))))
    (sl_cons (ss_expr (se_mt PySem.F.plainAttrs_list PySem.F.slot_list_append PySem.F.type_list_append mt_append opm_append (se_var (pv 6)) (sa_cons (se_tup (sa_cons (se_var (pv 10)) (sa_cons (se_ix ix_seq op2_ix (se_var (pv 12)) se_int (fun _ _ => rfl)) (sa_cons (se_ix ix_seq op2_ix (se_var (pv 12)) se_int (fun _ _ => rfl)) (sa_cons (se_call c_llaw_kinds (hr.mono (by decide)) (tkc tk) rfl (sa_cons (se_var (pv 0)) (sa_cons (se_bin or_add op2_add (se_var (pv 8)) se_int) (sa_cons se_str sa_nil)))) sa_nil))))) sa_nil)))
    (sl_one (ss_set (i := 8) sc_llaw_parts.nd rfl (Or.inl rfl) (se_bin or_add op2_add (se_var (pv 8)) se_int)))))))
    sl_nil)
    (sl_cons (ss_for (sl := [3]) (passes_of rfl) rfl (si_rng1 rfl m_range (sa_cons (se_ix ix_seq op2_ix (se_var (pv 4)) se_int (fun _ _ => rfl)) sa_nil)) (pg_name (i := 3) sc_llaw_parts.nd rfl (Or.inl rfl)) (gm_name (by decide))
    (sl_cons (ss_set (i := 10) sc_llaw_parts.nd rfl (Or.inl rfl) (se_call c_llaw_word (hr.mono (by decide)) (tkc tk) rfl (sa_cons (se_var (pv 0)) (sa_cons (se_var (pv 8)) (sa_cons (se_lc tk (sl := [14]) (own := [("_law_source", 14)]) rfl sc_llaw_parts.nd (si_any (se_var (pv 7))) (blkOk_by (N := N_llaw_parts) (sc := defScope s_llaw_parts) (by decide +kernel)) (gm_name (by decide)) (by decide) (fun _ _ _ _ _ _ => (pg_name (i := 14) sc_llaw_parts.nd rfl (Or.inl rfl))) (fun _ _ _ _ _ _ _ tq => sts_nil) (fun _ _ _ _ _ _ _ tq => (se_ix ix_seq op2_ix (se_var (pv 14)) se_int (fun _ _ => rfl)))) (sa_cons (se_var (pv 2)) sa_nil))))))
    (sl_cons (ss_expr (se_mt PySem.F.plainAttrs_list PySem.F.slot_list_append PySem.F.type_list_append mt_append opm_append (se_var (pv 7)) (sa_cons (se_tup (sa_cons (se_var (pv 10)) (sa_cons (se_call c_llaw_take (hr.mono (by decide)) (tkc tk) rfl (sa_cons (se_var (pv 0)) (sa_cons (se_var (pv 8)) (sa_cons (se_var (pv 1)) sa_nil)))) (sa_cons (se_call c_llaw_kinds (hr.mono (by decide)) (tkc tk) rfl (sa_cons (se_var (pv 0)) (sa_cons (se_bin or_add op2_add (se_var (pv 8)) se_int) (sa_cons se_str sa_nil)))) sa_nil)))) sa_nil)))
    (sl_one (ss_set (i := 8) sc_llaw_parts.nd rfl (Or.inl rfl) (se_bin or_add op2_add (se_var (pv 8)) se_int))))))
    (sl_cons (ss_set (i := 9) sc_llaw_parts.nd rfl (Or.inl rfl) (se_callB (call_min2 rfl) opn_min2 rfl m_min (by decide +kernel) (sa_cons (se_call c_llaw_take (hr.mono (by decide)) (tkc tk) rfl (sa_cons (se_var (pv 0)) (sa_cons se_int (sa_cons se_int sa_nil)))) (sa_cons (se_bin op_sub op2_sub (se_bin or_add op2_add (se_bin or_add op2_add (se_callB call_len opn_len rfl m_len PySem.boot_len (sa_cons (se_var (pv 5)) sa_nil)) (se_callB call_len opn_len rfl m_len PySem.boot_len (sa_cons (se_var (pv 6)) sa_nil))) (se_callB call_len opn_len rfl m_len PySem.boot_len (sa_cons (se_var (pv 7)) sa_nil))) se_int) sa_nil))))
    (sl_one (ss_ret (se_tup (sa_cons (se_var (pv 2)) (sa_cons (se_var (pv 5)) (sa_cons (se_var (pv 6)) (sa_cons (se_var (pv 7)) (sa_cons (se_var (pv 9)) sa_nil)))))))))))))))))))))
/-! ### Frame.__init__ -/
abbrev s_Frame_init : Stmt := inClass (topS 5) 0
abbrev N_Frame_init : List Str := ["self", "devices", "clocks", "links", "sources", "faults"]
noncomputable def b_Frame_init : SM :=
    (sSeq (sFldS ["Frame"] "devices" (dVar 0) (dON dList (dCons (dVar 1) dNil)))
    (sSeq (sFldS ["Frame"] "clocks" (dVar 0) (dON dList (dCons (dVar 2) dNil)))
    (sSeq (sFldS ["Frame"] "links" (dVar 0) (dON dList (dCons (dVar 3) dNil)))
    (sSeq (sFldS ["Frame"] "sources" (dVar 0) (dON dList (dCons (dVar 4) dNil)))
    (sFldS ["Frame"] "faults" (dVar 0) (dVar 5))))))
@[irreducible] noncomputable def dn_Frame_init : List D → S → Out D := defD 6 6 b_Frame_init
theorem sc_Frame_init : FnScope N_Frame_init ["self", "devices", "clocks", "links", "sources", "faults"] (defScope s_Frame_init) := ⟨rfl, rfl, rfl, by decide +kernel, rfl, by decide +kernel, by decide +kernel⟩
theorem ok_Frame_init (d : MkAt K cl mg "Frame" "Frame.__init__" s_Frame_init) (m_list : mg "list" = none) (f_Frame_devices : FldAt K cl "Frame" "devices") (f_Frame_clocks : FldAt K cl "Frame" "clocks") (f_Frame_links : FldAt K cl "Frame" "links") (f_Frame_sources : FldAt K cl "Frame" "sources") (f_Frame_faults : FldAt K cl "Frame" "faults") : MkD P w K mg base cl "Frame" 6 1 dn_Frame_init := by
  unfold dn_Frame_init
  exact mkD_of (body := b_Frame_init) d sc_Frame_init rfl rfl (fun _ _ _ _ _ _ us hl => match us, hl with | [_, _, _, _, _, _], _ => rfl) fun fa => fun cdv A outer s H E hr tk =>
    (sl_cons (ss_fld (se_var (pv 0)) (se_callTy call_list_of opn_list rfl m_list (by decide +kernel) (sa_cons (se_var (pv 1)) sa_nil)) (all_cons f_Frame_devices all_nil))
    (sl_cons (ss_fld (se_var (pv 0)) (se_callTy call_list_of opn_list rfl m_list (by decide +kernel) (sa_cons (se_var (pv 2)) sa_nil)) (all_cons f_Frame_clocks all_nil))
    (sl_cons (ss_fld (se_var (pv 0)) (se_callTy call_list_of opn_list rfl m_list (by decide +kernel) (sa_cons (se_var (pv 3)) sa_nil)) (all_cons f_Frame_links all_nil))
    (sl_cons (ss_fld (se_var (pv 0)) (se_callTy call_list_of opn_list rfl m_list (by decide +kernel) (sa_cons (se_var (pv 4)) sa_nil)) (all_cons f_Frame_sources all_nil))
    (sl_one (ss_fld (se_var (pv 0)) (se_var (pv 5)) (all_cons f_Frame_faults all_nil)))))))
/-! ### kind_rows -/
abbrev s_kind_rows : Stmt := topS 2
abbrev N_kind_rows : List Str := ["kinds", "rows", "name", "least", "most", "shown"]
noncomputable def bt_kind_rows_1 : SM :=
    (sRet (dVar 1))
noncomputable def bl_kind_rows_1 : SM :=
    (sSeq (sSet 5 (dIfE (dB (dO2 dIs (dVar 4) (dC .non))) (dC (.str "none")) (dON dStr (dCons (dVar 4) dNil))))
    (sExpr (dMt "list" mAppend (dVar 1) (dCons (dO2 dAdd (dO2 dAdd (dO2 dAdd (dO2 dAdd (dO2 dAdd (dC (.str "kind ")) (dVar 2)) (dC (.str " "))) (dON dStr (dCons (dVar 3) dNil))) (dC (.str " "))) (dVar 5)) dNil))))
noncomputable def b_kind_rows : SM :=
    (sSeq (sSet 1 (dLst dNil))
    (sSeq (sFor (iAny (dVar 0)) (bTup 3 (bCons (bName 2) (bCons (bName 3) (bCons (bName 4) bNil))))
    bl_kind_rows_1)
    bt_kind_rows_1))
@[irreducible] noncomputable def dn_kind_rows : List D → S → Out D := defD 1 6 b_kind_rows
theorem sc_kind_rows : FnScope N_kind_rows ["kinds"] (defScope s_kind_rows) := ⟨rfl, rfl, rfl, by decide +kernel, rfl, by decide +kernel, by decide +kernel⟩
theorem ok_kind_rows (d : DefAt K mg "kind_rows" "kind_rows" s_kind_rows) (m_str : mg "str" = none) : FnD P w K mg base cl "kind_rows" 1 1 dn_kind_rows := by
  obtain ⟨fa, fd, hm, F⟩ := d
  unfold dn_kind_rows
  exact fnD_of (body := b_kind_rows) F sc_kind_rows rfl rfl hm (F.binds fun _ _ _ _ _ _ us hl => match us, hl with | [_], _ => rfl) (fun cdv A outer s H E hr tk =>
    (sl_cons (ss_set (i := 1) sc_kind_rows.nd rfl (Or.inl rfl) (se_lst sa_nil))
    (sl_cons (ss_for (sl := [2, 3, 4]) (passes_of rfl) rfl (si_any (se_var (pv 0))) (pg_tup rfl (pgs_cons (pg_name (i := 2) sc_kind_rows.nd rfl (Or.inl rfl)) (pgs_cons (pg_name (i := 3) sc_kind_rows.nd rfl (Or.inl rfl)) (pgs_cons (pg_name (i := 4) sc_kind_rows.nd rfl (Or.inl rfl)) pgs_nil)))) (gm_tup (gms_cons (gm_name (by decide)) (gms_cons (gm_name (by decide)) (gms_cons (gm_name (by decide)) gms_nil))))
    (sl_cons (ss_set (i := 5) sc_kind_rows.nd rfl (Or.inl rfl) (se_ifE (sb_cmp or_is op2_is (nomark _) (se_var (pv 4)) se_non) se_str (se_callTy call_str_int opn_str rfl m_str (by decide +kernel) (sa_cons (se_var (pv 4)) sa_nil))))
    (sl_one (ss_expr (se_mt PySem.F.plainAttrs_list PySem.F.slot_list_append PySem.F.type_list_append mt_append opm_append (se_var (pv 1)) (sa_cons (se_bin or_add op2_add (se_bin or_add op2_add (se_bin or_add op2_add (se_bin or_add op2_add (se_bin or_add op2_add se_str (se_var (pv 2))) se_str) (se_callTy call_str_int opn_str rfl m_str (by decide +kernel) (sa_cons (se_var (pv 3)) sa_nil))) se_str) (se_var (pv 5))) sa_nil))))))
    (sl_one (ss_ret (se_var (pv 1)))))))
/-! ### write_frame -/
abbrev s_write_frame : Stmt := topS 3
abbrev N_write_frame : List Str := ["frame", "names", "rows", "name", "device", "goes_on", "kinds", "tail", "sender", "receiver", "row"]
noncomputable def bi_write_frame_1 : SM :=
    (sRet (dJoinG (fun a => a ++ "\n") (dC (.str "")) (dVar 2)))
noncomputable def bt_write_frame_3 : SM :=
    (sSeq (sIf (dB (dO2 dGt (dFld ["Frame"] "faults" (dVar 0)) (dC (.int 0))))
    (sExpr (dMt "list" mAppend (dVar 2) (dCons (dO2 dAdd (dC (.str "faults ")) (dON dStr (dCons (dFld ["Frame"] "faults" (dVar 0)) dNil))) dNil)))
    sPass)
    bi_write_frame_1)
noncomputable def bl_write_frame_3 : SM :=
    (sSeq (sExpr (dMt "list" mAppend (dVar 2) (dCons (dO2 dAdd (dO2 dAdd (dO2 dAdd (dC (.str "source ")) (dVar 3)) (dC (.str " at "))) (dO2 dIx (dVar 1) (dVar 4))) dNil)))
    (sSet 2 (dO2 dAdd (dVar 2) (dCall 1 dn_kind_rows (dCons (dVar 6) dNil)))))
noncomputable def bt_write_frame_2 : SM :=
    (sSeq (sFor (iAny (dFld ["Frame"] "sources" (dVar 0))) (bTup 3 (bCons (bName 3) (bCons (bName 4) (bCons (bName 6) bNil))))
    bl_write_frame_3)
    bt_write_frame_3)
noncomputable def bl_write_frame_2 : SM :=
    (sSeq (sExpr (dMt "list" mAppend (dVar 2) (dCons (dO2 dAdd (dO2 dAdd (dO2 dAdd (dO2 dAdd (dO2 dAdd (dC (.str "link ")) (dVar 3)) (dC (.str " from "))) (dO2 dIx (dVar 1) (dVar 8))) (dC (.str " to "))) (dO2 dIx (dVar 1) (dVar 9))) dNil)))
    (sSet 2 (dO2 dAdd (dVar 2) (dCall 1 dn_kind_rows (dCons (dVar 6) dNil)))))
noncomputable def bt_write_frame_1 : SM :=
    (sSeq (sFor (iAny (dFld ["Frame"] "links" (dVar 0))) (bTup 4 (bCons (bName 3) (bCons (bName 8) (bCons (bName 9) (bCons (bName 6) bNil)))))
    bl_write_frame_2)
    bt_write_frame_2)
noncomputable def bl_write_frame_1 : SM :=
    (sSeq (sSet 7 (dIfE (dTru (dVar 5)) (dC (.str " goes on asleep")) (dC (.str ""))))
    (sSeq (sExpr (dMt "list" mAppend (dVar 2) (dCons (dO2 dAdd (dO2 dAdd (dO2 dAdd (dO2 dAdd (dC (.str "clock ")) (dVar 3)) (dC (.str " of "))) (dO2 dIx (dVar 1) (dVar 4))) (dVar 7)) dNil)))
    (sSet 2 (dO2 dAdd (dVar 2) (dCall 1 dn_kind_rows (dCons (dVar 6) dNil))))))
noncomputable def b_write_frame : SM :=
    (sSeq (sSet 1 (dFld ["Frame"] "devices" (dVar 0)))
    (sSeq (sSet 2 (dLc (iAny (dVar 1)) [3] (bName 3) cYes (dO2 dAdd (dC (.str "device ")) (dVar 3))))
    (sSeq (sFor (iAny (dFld ["Frame"] "clocks" (dVar 0))) (bTup 4 (bCons (bName 3) (bCons (bName 4) (bCons (bName 5) (bCons (bName 6) bNil)))))
    bl_write_frame_1)
    bt_write_frame_1)))
@[irreducible] noncomputable def dn_write_frame : List D → S → Out D := defD 1 11 b_write_frame
theorem sc_write_frame : FnScope N_write_frame ["frame"] (defScope s_write_frame) := ⟨rfl, rfl, rfl, by decide +kernel, rfl, by decide +kernel, by decide +kernel⟩
theorem ok_write_frame {c_write_frame P_write_frame : Addr} (d : DefAtC K mg "write_frame" "write_frame" s_write_frame c_write_frame) (tb_write_frame : GxR.TabB base mg c_write_frame P_write_frame) (hP_write_frame : P_write_frame ∈ cl.tb) (m_str : mg "str" = none) (f_Frame_devices : FldAt K cl "Frame" "devices") (f_Frame_clocks : FldAt K cl "Frame" "clocks") (f_Frame_links : FldAt K cl "Frame" "links") (f_Frame_sources : FldAt K cl "Frame" "sources") (f_Frame_faults : FldAt K cl "Frame" "faults") (c_kind_rows : FnD P w K mg base cl "kind_rows" 1 1 dn_kind_rows) : FnD P w K mg base cl "write_frame" 1 2 dn_write_frame := by
  obtain ⟨fa, fd, hm, F, hc⟩ := d
  unfold dn_write_frame
  exact fnD_ofC (body := b_write_frame) F hc sc_write_frame rfl rfl hm (F.binds fun _ _ _ _ _ _ us hl => match us, hl with | [_], _ => rfl) (fun A outer s H E hr tk =>
    (sl_cons (ss_set (i := 1) sc_write_frame.nd rfl (Or.inl rfl) (se_fld (se_var (pv 0)) (all_cons f_Frame_devices all_nil)))
    (sl_cons (ss_setLc (i := 2) (tk := tk) (hN := sc_write_frame.nd) (hc := rfl) (hy := rfl) (hyl := rfl) (hsw := sw_true rfl rfl rfl (by decide +kernel)) (sl := [3]) (own := [("name", 3)]) (si_any (se_var (pv 1))) (blkOk_by (N := N_write_frame) (sc := defScope s_write_frame) (by decide +kernel)) (gm_name (by decide)) (by decide) (fun _ _ _ _ _ _ => (pg_name (i := 3) sc_write_frame.nd rfl (Or.inl rfl))) (fun _ _ _ _ _ _ _ tq => sts_nil) (fun _ _ _ _ _ _ _ tq => (se_bin or_add op2_add se_str (se_var (pv 3)))))
    (sl_cons (ss_for (sl := [3, 4, 5, 6]) (passes_of rfl) rfl (si_any (se_fld (se_var (pv 0)) (all_cons f_Frame_clocks all_nil))) (pg_tup rfl (pgs_cons (pg_name (i := 3) sc_write_frame.nd rfl (Or.inl rfl)) (pgs_cons (pg_name (i := 4) sc_write_frame.nd rfl (Or.inl rfl)) (pgs_cons (pg_name (i := 5) sc_write_frame.nd rfl (Or.inl rfl)) (pgs_cons (pg_name (i := 6) sc_write_frame.nd rfl (Or.inl rfl)) pgs_nil))))) (gm_tup (gms_cons (gm_name (by decide)) (gms_cons (gm_name (by decide)) (gms_cons (gm_name (by decide)) (gms_cons (gm_name (by decide)) gms_nil)))))
    (sl_cons (ss_set (i := 7) sc_write_frame.nd rfl (Or.inl rfl) (se_ifE (sb_tru (se_var (pv 5))) se_str se_str))
    (sl_cons (ss_expr (se_mt PySem.F.plainAttrs_list PySem.F.slot_list_append PySem.F.type_list_append mt_append opm_append (se_var (pv 2)) (sa_cons (se_bin or_add op2_add (se_bin or_add op2_add (se_bin or_add op2_add (se_bin or_add op2_add se_str (se_var (pv 3))) se_str) (se_ix ix_seq op2_ix (se_var (pv 1)) (se_var (pv 4)) (fun _ _ => rfl))) (se_var (pv 7))) sa_nil)))
    (sl_one (ss_set (i := 2) sc_write_frame.nd rfl (Or.inl rfl) (se_bin or_add op2_add (se_var (pv 2)) (se_call c_kind_rows (hr.mono (by decide)) (tkc tk) rfl (sa_cons (se_var (pv 6)) sa_nil))))))))
    (sl_cons (ss_for (sl := [3, 8, 9, 6]) (passes_of rfl) rfl (si_any (se_fld (se_var (pv 0)) (all_cons f_Frame_links all_nil))) (pg_tup rfl (pgs_cons (pg_name (i := 3) sc_write_frame.nd rfl (Or.inl rfl)) (pgs_cons (pg_name (i := 8) sc_write_frame.nd rfl (Or.inl rfl)) (pgs_cons (pg_name (i := 9) sc_write_frame.nd rfl (Or.inl rfl)) (pgs_cons (pg_name (i := 6) sc_write_frame.nd rfl (Or.inl rfl)) pgs_nil))))) (gm_tup (gms_cons (gm_name (by decide)) (gms_cons (gm_name (by decide)) (gms_cons (gm_name (by decide)) (gms_cons (gm_name (by decide)) gms_nil)))))
    (sl_cons (ss_expr (se_mt PySem.F.plainAttrs_list PySem.F.slot_list_append PySem.F.type_list_append mt_append opm_append (se_var (pv 2)) (sa_cons (se_bin or_add op2_add (se_bin or_add op2_add (se_bin or_add op2_add (se_bin or_add op2_add (se_bin or_add op2_add se_str (se_var (pv 3))) se_str) (se_ix ix_seq op2_ix (se_var (pv 1)) (se_var (pv 8)) (fun _ _ => rfl))) se_str) (se_ix ix_seq op2_ix (se_var (pv 1)) (se_var (pv 9)) (fun _ _ => rfl))) sa_nil)))
    (sl_one (ss_set (i := 2) sc_write_frame.nd rfl (Or.inl rfl) (se_bin or_add op2_add (se_var (pv 2)) (se_call c_kind_rows (hr.mono (by decide)) (tkc tk) rfl (sa_cons (se_var (pv 6)) sa_nil)))))))
    (sl_cons (ss_for (sl := [3, 4, 6]) (passes_of rfl) rfl (si_any (se_fld (se_var (pv 0)) (all_cons f_Frame_sources all_nil))) (pg_tup rfl (pgs_cons (pg_name (i := 3) sc_write_frame.nd rfl (Or.inl rfl)) (pgs_cons (pg_name (i := 4) sc_write_frame.nd rfl (Or.inl rfl)) (pgs_cons (pg_name (i := 6) sc_write_frame.nd rfl (Or.inl rfl)) pgs_nil)))) (gm_tup (gms_cons (gm_name (by decide)) (gms_cons (gm_name (by decide)) (gms_cons (gm_name (by decide)) gms_nil))))
    (sl_cons (ss_expr (se_mt PySem.F.plainAttrs_list PySem.F.slot_list_append PySem.F.type_list_append mt_append opm_append (se_var (pv 2)) (sa_cons (se_bin or_add op2_add (se_bin or_add op2_add (se_bin or_add op2_add se_str (se_var (pv 3))) se_str) (se_ix ix_seq op2_ix (se_var (pv 1)) (se_var (pv 4)) (fun _ _ => rfl))) sa_nil)))
    (sl_one (ss_set (i := 2) sc_write_frame.nd rfl (Or.inl rfl) (se_bin or_add op2_add (se_var (pv 2)) (se_call c_kind_rows (hr.mono (by decide)) (tkc tk) rfl (sa_cons (se_var (pv 6)) sa_nil)))))))
    (sl_cons (ss_if (sb_cmp op_gt op2_i2 (nomark _) (se_fld (se_var (pv 0)) (all_cons f_Frame_faults all_nil)) se_int)
    (sl_one (ss_expr (se_mt PySem.F.plainAttrs_list PySem.F.slot_list_append PySem.F.type_list_append mt_append opm_append (se_var (pv 2)) (sa_cons (se_bin or_add op2_add se_str (se_callTy call_str_int opn_str rfl m_str (by decide +kernel) (sa_cons (se_fld (se_var (pv 0)) (all_cons f_Frame_faults all_nil)) sa_nil))) sa_nil))))
    sl_nil)
    (sl_one (ss_ret (se_joinG (f := fun a => a ++ "\n") hr tb_write_frame hP_write_frame rfl (genS_of rfl rfl rfl rfl rfl) se_str (se_var (pv 2)) (elt_addc rfl rfl (by decide)) (fun _ => rfl)))))))))))
/-! ### _law_text -/
abbrev s_llaw_text : Stmt := topS 20
abbrev N_llaw_text : List Str := ["_law_lines_here", "_law_text_here", "_law_line"]
noncomputable def bt_llaw_text_1 : SM :=
    (sRet (dVar 1))
noncomputable def bl_llaw_text_1 : SM :=
    (sSet 1 (dO2 dAdd (dO2 dAdd (dVar 1) (dVar 2)) (dC (.str "\n"))))
noncomputable def b_llaw_text : SM :=
    (sSeq (sSet 1 (dC (.str "")))
    (sSeq (sFor (iAny (dVar 0)) (bName 2)
    bl_llaw_text_1)
    bt_llaw_text_1))
@[irreducible] noncomputable def dn_llaw_text : List D → S → Out D := defD 1 3 b_llaw_text
theorem sc_llaw_text : FnScope N_llaw_text ["_law_lines_here"] (defScope s_llaw_text) := ⟨rfl, rfl, rfl, by decide +kernel, rfl, by decide +kernel, by decide +kernel⟩
theorem ok_llaw_text (d : DefAt K mg "_law_text" "_law_text" s_llaw_text)  : FnD P w K mg base cl "_law_text" 1 1 dn_llaw_text := by
  obtain ⟨fa, fd, hm, F⟩ := d
  unfold dn_llaw_text
  exact fnD_of (body := b_llaw_text) F sc_llaw_text rfl rfl hm (F.binds fun _ _ _ _ _ _ us hl => match us, hl with | [_], _ => rfl) (fun cdv A outer s H E hr tk =>
    (sl_cons (ss_set (i := 1) sc_llaw_text.nd rfl (Or.inl rfl) se_str)
    (sl_cons (ss_for (sl := [2]) (passes_of rfl) rfl (si_any (se_var (pv 0))) (pg_name (i := 2) sc_llaw_text.nd rfl (Or.inl rfl)) (gm_name (by decide))
    (sl_one (ss_set (i := 1) sc_llaw_text.nd rfl (Or.inl rfl) (se_bin or_add op2_add (se_bin or_add op2_add (se_var (pv 1)) (se_var (pv 2))) se_str))))
    (sl_one (ss_ret (se_var (pv 1)))))))
/-! ### _law_kind_rows -/
abbrev s_llaw_kind_rows : Stmt := topS 15
abbrev N_llaw_kind_rows : List Str := ["_law_kinds_here", "_law_rows", "_law_kind", "_law_shown"]
noncomputable def bt_llaw_kind_rows_1 : SM :=
    (sRet (dVar 1))
noncomputable def bi_llaw_kind_rows_1 : SM :=
    (sExpr (dMt "list" mAppend (dVar 1) (dCons (dO2 dAdd (dO2 dAdd (dO2 dAdd (dO2 dAdd (dO2 dAdd (dC (.str "kind ")) (dO2 dIx (dVar 2) (dC (.int 0)))) (dC (.str " "))) (dON dStr (dCons (dO2 dIx (dVar 2) (dC (.int 1))) dNil))) (dC (.str " "))) (dVar 3)) dNil)))
noncomputable def bl_llaw_kind_rows_1 : SM :=
    (sSeq (sSet 3 (dC (.str "none")))
    (sSeq (sIf (dB (dO2 dIsNot (dO2 dIx (dVar 2) (dC (.int 2))) (dC .non)))
    (sSet 3 (dON dStr (dCons (dO2 dIx (dVar 2) (dC (.int 2))) dNil)))
    sPass)
    bi_llaw_kind_rows_1))
noncomputable def b_llaw_kind_rows : SM :=
    (sSeq (sSet 1 (dLst dNil))
    (sSeq (sFor (iAny (dVar 0)) (bName 2)
    bl_llaw_kind_rows_1)
    bt_llaw_kind_rows_1))
@[irreducible] noncomputable def dn_llaw_kind_rows : List D → S → Out D := defD 1 4 b_llaw_kind_rows
theorem sc_llaw_kind_rows : FnScope N_llaw_kind_rows ["_law_kinds_here"] (defScope s_llaw_kind_rows) := ⟨rfl, rfl, rfl, by decide +kernel, rfl, by decide +kernel, by decide +kernel⟩
theorem ok_llaw_kind_rows (d : DefAt K mg "_law_kind_rows" "_law_kind_rows" s_llaw_kind_rows) (m_str : mg "str" = none) : FnD P w K mg base cl "_law_kind_rows" 1 1 dn_llaw_kind_rows := by
  obtain ⟨fa, fd, hm, F⟩ := d
  unfold dn_llaw_kind_rows
  exact fnD_of (body := b_llaw_kind_rows) F sc_llaw_kind_rows rfl rfl hm (F.binds fun _ _ _ _ _ _ us hl => match us, hl with | [_], _ => rfl) (fun cdv A outer s H E hr tk =>
    (sl_cons (ss_set (i := 1) sc_llaw_kind_rows.nd rfl (Or.inl rfl) (se_lst sa_nil))
    (sl_cons (ss_for (sl := [2]) (passes_of rfl) rfl (si_any (se_var (pv 0))) (pg_name (i := 2) sc_llaw_kind_rows.nd rfl (Or.inl rfl)) (gm_name (by decide))
    (sl_cons (ss_set (i := 3) sc_llaw_kind_rows.nd rfl (Or.inl rfl) se_str)
    (sl_cons (ss_if (sb_cmp or_isnot op2_isnot (nomark _) (se_ix ix_seq op2_ix (se_var (pv 2)) se_int (fun _ _ => rfl)) se_non)
    (sl_one (ss_set (i := 3) sc_llaw_kind_rows.nd rfl (Or.inl rfl) (se_callTy call_str_int opn_str rfl m_str (by decide +kernel) (sa_cons (se_ix ix_seq op2_ix (se_var (pv 2)) se_int (fun _ _ => rfl)) sa_nil))))
    sl_nil)
    (sl_one (ss_expr (se_mt PySem.F.plainAttrs_list PySem.F.slot_list_append PySem.F.type_list_append mt_append opm_append (se_var (pv 1)) (sa_cons (se_bin or_add op2_add (se_bin or_add op2_add (se_bin or_add op2_add (se_bin or_add op2_add (se_bin or_add op2_add se_str (se_ix ix_seq op2_ix (se_var (pv 2)) se_int (fun _ _ => rfl))) se_str) (se_callTy call_str_int opn_str rfl m_str (by decide +kernel) (sa_cons (se_ix ix_seq op2_ix (se_var (pv 2)) se_int (fun _ _ => rfl)) sa_nil))) se_str) (se_var (pv 3))) sa_nil)))))))
    (sl_one (ss_ret (se_var (pv 1)))))))
/-! ### _law_source_blocks -/
abbrev s_llaw_source_blocks : Stmt := topS 18
abbrev N_llaw_source_blocks : List Str := ["_law_frame", "_law_blocks", "_law_source", "_law_row"]
noncomputable def bt_llaw_source_blocks_1 : SM :=
    (sRet (dVar 1))
noncomputable def bl_llaw_source_blocks_1 : SM :=
    (sSeq (sSet 3 (dO2 dAdd (dO2 dAdd (dO2 dAdd (dC (.str "source ")) (dO2 dIx (dVar 2) (dC (.int 0)))) (dC (.str " at "))) (dO2 dIx (dO2 dIx (dVar 0) (dC (.int 0))) (dO2 dIx (dVar 2) (dC (.int 1))))))
    (sExpr (dMt "list" mAppend (dVar 1) (dCons (dO2 dAdd (dLst (dCons (dVar 3) dNil)) (dCall 1 dn_llaw_kind_rows (dCons (dO2 dIx (dVar 2) (dC (.int 2))) dNil))) dNil))))
noncomputable def b_llaw_source_blocks : SM :=
    (sSeq (sSet 1 (dLst dNil))
    (sSeq (sFor (iAny (dO2 dIx (dVar 0) (dC (.int 3)))) (bName 2)
    bl_llaw_source_blocks_1)
    bt_llaw_source_blocks_1))
@[irreducible] noncomputable def dn_llaw_source_blocks : List D → S → Out D := defD 1 4 b_llaw_source_blocks
theorem sc_llaw_source_blocks : FnScope N_llaw_source_blocks ["_law_frame"] (defScope s_llaw_source_blocks) := ⟨rfl, rfl, rfl, by decide +kernel, rfl, by decide +kernel, by decide +kernel⟩
theorem ok_llaw_source_blocks (d : DefAt K mg "_law_source_blocks" "_law_source_blocks" s_llaw_source_blocks) (c_llaw_kind_rows : FnD P w K mg base cl "_law_kind_rows" 1 1 dn_llaw_kind_rows) : FnD P w K mg base cl "_law_source_blocks" 1 2 dn_llaw_source_blocks := by
  obtain ⟨fa, fd, hm, F⟩ := d
  unfold dn_llaw_source_blocks
  exact fnD_of (body := b_llaw_source_blocks) F sc_llaw_source_blocks rfl rfl hm (F.binds fun _ _ _ _ _ _ us hl => match us, hl with | [_], _ => rfl) (fun cdv A outer s H E hr tk =>
    (sl_cons (ss_set (i := 1) sc_llaw_source_blocks.nd rfl (Or.inl rfl) (se_lst sa_nil))
    (sl_cons (ss_for (sl := [2]) (passes_of rfl) rfl (si_any (se_ix ix_seq op2_ix (se_var (pv 0)) se_int (fun _ _ => rfl))) (pg_name (i := 2) sc_llaw_source_blocks.nd rfl (Or.inl rfl)) (gm_name (by decide))
    (sl_cons (ss_set (i := 3) sc_llaw_source_blocks.nd rfl (Or.inl rfl) (se_bin or_add op2_add (se_bin or_add op2_add (se_bin or_add op2_add se_str (se_ix ix_seq op2_ix (se_var (pv 2)) se_int (fun _ _ => rfl))) se_str) (se_ix ix_seq op2_ix (se_ix ix_seq op2_ix (se_var (pv 0)) se_int (fun _ _ => rfl)) (se_ix ix_seq op2_ix (se_var (pv 2)) se_int (fun _ _ => rfl)) (fun _ _ => rfl))))
    (sl_one (ss_expr (se_mt PySem.F.plainAttrs_list PySem.F.slot_list_append PySem.F.type_list_append mt_append opm_append (se_var (pv 1)) (sa_cons (se_bin or_add op2_add (se_lst (sa_cons (se_var (pv 3)) sa_nil)) (se_call c_llaw_kind_rows (hr.mono (by decide)) (tkc tk) rfl (sa_cons (se_ix ix_seq op2_ix (se_var (pv 2)) se_int (fun _ _ => rfl)) sa_nil))) sa_nil))))))
    (sl_one (ss_ret (se_var (pv 1)))))))
/-! ### _law_clock_blocks -/
abbrev s_llaw_clock_blocks : Stmt := topS 16
abbrev N_llaw_clock_blocks : List Str := ["_law_frame", "_law_blocks", "_law_clock", "_law_row"]
noncomputable def bt_llaw_clock_blocks_1 : SM :=
    (sRet (dVar 1))
noncomputable def bi_llaw_clock_blocks_1 : SM :=
    (sExpr (dMt "list" mAppend (dVar 1) (dCons (dO2 dAdd (dLst (dCons (dVar 3) dNil)) (dCall 1 dn_llaw_kind_rows (dCons (dO2 dIx (dVar 2) (dC (.int 3))) dNil))) dNil)))
noncomputable def bl_llaw_clock_blocks_1 : SM :=
    (sSeq (sSet 3 (dO2 dAdd (dO2 dAdd (dO2 dAdd (dC (.str "clock ")) (dO2 dIx (dVar 2) (dC (.int 0)))) (dC (.str " of "))) (dO2 dIx (dO2 dIx (dVar 0) (dC (.int 0))) (dO2 dIx (dVar 2) (dC (.int 1))))))
    (sSeq (sIf (dTru (dO2 dIx (dVar 2) (dC (.int 2))))
    (sSet 3 (dO2 dAdd (dVar 3) (dC (.str " goes on asleep"))))
    sPass)
    bi_llaw_clock_blocks_1))
noncomputable def b_llaw_clock_blocks : SM :=
    (sSeq (sSet 1 (dLst dNil))
    (sSeq (sFor (iAny (dO2 dIx (dVar 0) (dC (.int 1)))) (bName 2)
    bl_llaw_clock_blocks_1)
    bt_llaw_clock_blocks_1))
@[irreducible] noncomputable def dn_llaw_clock_blocks : List D → S → Out D := defD 1 4 b_llaw_clock_blocks
theorem sc_llaw_clock_blocks : FnScope N_llaw_clock_blocks ["_law_frame"] (defScope s_llaw_clock_blocks) := ⟨rfl, rfl, rfl, by decide +kernel, rfl, by decide +kernel, by decide +kernel⟩
theorem ok_llaw_clock_blocks (d : DefAt K mg "_law_clock_blocks" "_law_clock_blocks" s_llaw_clock_blocks) (c_llaw_kind_rows : FnD P w K mg base cl "_law_kind_rows" 1 1 dn_llaw_kind_rows) : FnD P w K mg base cl "_law_clock_blocks" 1 2 dn_llaw_clock_blocks := by
  obtain ⟨fa, fd, hm, F⟩ := d
  unfold dn_llaw_clock_blocks
  exact fnD_of (body := b_llaw_clock_blocks) F sc_llaw_clock_blocks rfl rfl hm (F.binds fun _ _ _ _ _ _ us hl => match us, hl with | [_], _ => rfl) (fun cdv A outer s H E hr tk =>
    (sl_cons (ss_set (i := 1) sc_llaw_clock_blocks.nd rfl (Or.inl rfl) (se_lst sa_nil))
    (sl_cons (ss_for (sl := [2]) (passes_of rfl) rfl (si_any (se_ix ix_seq op2_ix (se_var (pv 0)) se_int (fun _ _ => rfl))) (pg_name (i := 2) sc_llaw_clock_blocks.nd rfl (Or.inl rfl)) (gm_name (by decide))
    (sl_cons (ss_set (i := 3) sc_llaw_clock_blocks.nd rfl (Or.inl rfl) (se_bin or_add op2_add (se_bin or_add op2_add (se_bin or_add op2_add se_str (se_ix ix_seq op2_ix (se_var (pv 2)) se_int (fun _ _ => rfl))) se_str) (se_ix ix_seq op2_ix (se_ix ix_seq op2_ix (se_var (pv 0)) se_int (fun _ _ => rfl)) (se_ix ix_seq op2_ix (se_var (pv 2)) se_int (fun _ _ => rfl)) (fun _ _ => rfl))))
    (sl_cons (ss_if (sb_tru (se_ix ix_seq op2_ix (se_var (pv 2)) se_int (fun _ _ => rfl)))
    (sl_one (ss_set (i := 3) sc_llaw_clock_blocks.nd rfl (Or.inl rfl) (se_bin or_add op2_add (se_var (pv 3)) se_str)))
    sl_nil)
    (sl_one (ss_expr (se_mt PySem.F.plainAttrs_list PySem.F.slot_list_append PySem.F.type_list_append mt_append opm_append (se_var (pv 1)) (sa_cons (se_bin or_add op2_add (se_lst (sa_cons (se_var (pv 3)) sa_nil)) (se_call c_llaw_kind_rows (hr.mono (by decide)) (tkc tk) rfl (sa_cons (se_ix ix_seq op2_ix (se_var (pv 2)) se_int (fun _ _ => rfl)) sa_nil))) sa_nil)))))))
    (sl_one (ss_ret (se_var (pv 1)))))))
/-! ### _law_link_blocks -/
abbrev s_llaw_link_blocks : Stmt := topS 17
abbrev N_llaw_link_blocks : List Str := ["_law_frame", "_law_blocks", "_law_link", "_law_row"]
noncomputable def bt_llaw_link_blocks_1 : SM :=
    (sRet (dVar 1))
noncomputable def bl_llaw_link_blocks_1 : SM :=
    (sSeq (sSet 3 (dO2 dAdd (dO2 dAdd (dO2 dAdd (dO2 dAdd (dO2 dAdd (dC (.str "link ")) (dO2 dIx (dVar 2) (dC (.int 0)))) (dC (.str " from "))) (dO2 dIx (dO2 dIx (dVar 0) (dC (.int 0))) (dO2 dIx (dVar 2) (dC (.int 1))))) (dC (.str " to "))) (dO2 dIx (dO2 dIx (dVar 0) (dC (.int 0))) (dO2 dIx (dVar 2) (dC (.int 2))))))
    (sExpr (dMt "list" mAppend (dVar 1) (dCons (dO2 dAdd (dLst (dCons (dVar 3) dNil)) (dCall 1 dn_llaw_kind_rows (dCons (dO2 dIx (dVar 2) (dC (.int 3))) dNil))) dNil))))
noncomputable def b_llaw_link_blocks : SM :=
    (sSeq (sSet 1 (dLst dNil))
    (sSeq (sFor (iAny (dO2 dIx (dVar 0) (dC (.int 2)))) (bName 2)
    bl_llaw_link_blocks_1)
    bt_llaw_link_blocks_1))
@[irreducible] noncomputable def dn_llaw_link_blocks : List D → S → Out D := defD 1 4 b_llaw_link_blocks
theorem sc_llaw_link_blocks : FnScope N_llaw_link_blocks ["_law_frame"] (defScope s_llaw_link_blocks) := ⟨rfl, rfl, rfl, by decide +kernel, rfl, by decide +kernel, by decide +kernel⟩
theorem ok_llaw_link_blocks (d : DefAt K mg "_law_link_blocks" "_law_link_blocks" s_llaw_link_blocks) (c_llaw_kind_rows : FnD P w K mg base cl "_law_kind_rows" 1 1 dn_llaw_kind_rows) : FnD P w K mg base cl "_law_link_blocks" 1 2 dn_llaw_link_blocks := by
  obtain ⟨fa, fd, hm, F⟩ := d
  unfold dn_llaw_link_blocks
  exact fnD_of (body := b_llaw_link_blocks) F sc_llaw_link_blocks rfl rfl hm (F.binds fun _ _ _ _ _ _ us hl => match us, hl with | [_], _ => rfl) (fun cdv A outer s H E hr tk =>
    (sl_cons (ss_set (i := 1) sc_llaw_link_blocks.nd rfl (Or.inl rfl) (se_lst sa_nil))
    (sl_cons (ss_for (sl := [2]) (passes_of rfl) rfl (si_any (se_ix ix_seq op2_ix (se_var (pv 0)) se_int (fun _ _ => rfl))) (pg_name (i := 2) sc_llaw_link_blocks.nd rfl (Or.inl rfl)) (gm_name (by decide))
    (sl_cons (ss_set (i := 3) sc_llaw_link_blocks.nd rfl (Or.inl rfl) (se_bin or_add op2_add (se_bin or_add op2_add (se_bin or_add op2_add (se_bin or_add op2_add (se_bin or_add op2_add se_str (se_ix ix_seq op2_ix (se_var (pv 2)) se_int (fun _ _ => rfl))) se_str) (se_ix ix_seq op2_ix (se_ix ix_seq op2_ix (se_var (pv 0)) se_int (fun _ _ => rfl)) (se_ix ix_seq op2_ix (se_var (pv 2)) se_int (fun _ _ => rfl)) (fun _ _ => rfl))) se_str) (se_ix ix_seq op2_ix (se_ix ix_seq op2_ix (se_var (pv 0)) se_int (fun _ _ => rfl)) (se_ix ix_seq op2_ix (se_var (pv 2)) se_int (fun _ _ => rfl)) (fun _ _ => rfl))))
    (sl_one (ss_expr (se_mt PySem.F.plainAttrs_list PySem.F.slot_list_append PySem.F.type_list_append mt_append opm_append (se_var (pv 1)) (sa_cons (se_bin or_add op2_add (se_lst (sa_cons (se_var (pv 3)) sa_nil)) (se_call c_llaw_kind_rows (hr.mono (by decide)) (tkc tk) rfl (sa_cons (se_ix ix_seq op2_ix (se_var (pv 2)) se_int (fun _ _ => rfl)) sa_nil))) sa_nil))))))
    (sl_one (ss_ret (se_var (pv 1)))))))
/-! ### _law_lines -/
abbrev s_llaw_lines : Stmt := topS 19
abbrev N_llaw_lines : List Str := ["_law_frame", "_law_lines_here", "_law_block", "_law_name"]
noncomputable def bi_llaw_lines_1 : SM :=
    (sRet (dVar 1))
noncomputable def bt_llaw_lines_1 : SM :=
    (sSeq (sIf (dB (dO2 dGt (dO2 dIx (dVar 0) (dC (.int 4))) (dC (.int 0))))
    (sExpr (dMt "list" mAppend (dVar 1) (dCons (dO2 dAdd (dC (.str "faults ")) (dON dStr (dCons (dO2 dIx (dVar 0) (dC (.int 4))) dNil))) dNil)))
    sPass)
    bi_llaw_lines_1)
noncomputable def bl_llaw_lines_1 : SM :=
    (sSet 1 (dO2 dAdd (dVar 1) (dVar 2)))
noncomputable def b_llaw_lines : SM :=
    (sSeq (sSet 1 (dLc (iAny (dO2 dIx (dVar 0) (dC (.int 0)))) [3] (bName 3) cYes (dO2 dAdd (dC (.str "device ")) (dVar 3))))
    (sSeq (sFor (iAny (dO2 dAdd (dO2 dAdd (dCall 1 dn_llaw_clock_blocks (dCons (dVar 0) dNil)) (dCall 1 dn_llaw_link_blocks (dCons (dVar 0) dNil))) (dCall 1 dn_llaw_source_blocks (dCons (dVar 0) dNil)))) (bName 2)
    bl_llaw_lines_1)
    bt_llaw_lines_1))
@[irreducible] noncomputable def dn_llaw_lines : List D → S → Out D := defD 1 4 b_llaw_lines
theorem sc_llaw_lines : FnScope N_llaw_lines ["_law_frame"] (defScope s_llaw_lines) := ⟨rfl, rfl, rfl, by decide +kernel, rfl, by decide +kernel, by decide +kernel⟩
theorem ok_llaw_lines (d : DefAt K mg "_law_lines" "_law_lines" s_llaw_lines) (m_str : mg "str" = none) (c_llaw_source_blocks : FnD P w K mg base cl "_law_source_blocks" 1 2 dn_llaw_source_blocks) (c_llaw_clock_blocks : FnD P w K mg base cl "_law_clock_blocks" 1 2 dn_llaw_clock_blocks) (c_llaw_link_blocks : FnD P w K mg base cl "_law_link_blocks" 1 2 dn_llaw_link_blocks) : FnD P w K mg base cl "_law_lines" 1 3 dn_llaw_lines := by
  obtain ⟨fa, fd, hm, F⟩ := d
  unfold dn_llaw_lines
  exact fnD_of (body := b_llaw_lines) F sc_llaw_lines rfl rfl hm (F.binds fun _ _ _ _ _ _ us hl => match us, hl with | [_], _ => rfl) (fun cdv A outer s H E hr tk =>
    (sl_cons (ss_setLc (i := 1) (tk := tk) (hN := sc_llaw_lines.nd) (hc := rfl) (hy := rfl) (hyl := rfl) (hsw := sw_true rfl rfl rfl (by decide +kernel)) (sl := [3]) (own := [("_law_name", 3)]) (si_any (se_ix ix_seq op2_ix (se_var (pv 0)) se_int (fun _ _ => rfl))) (blkOk_by (N := N_llaw_lines) (sc := defScope s_llaw_lines) (by decide +kernel)) (gm_name (by decide)) (by decide) (fun _ _ _ _ _ _ => (pg_name (i := 3) sc_llaw_lines.nd rfl (Or.inl rfl))) (fun _ _ _ _ _ _ _ tq => sts_nil) (fun _ _ _ _ _ _ _ tq => (se_bin or_add op2_add se_str (se_var (pv 3)))))
    (sl_cons (ss_for (sl := [2]) (passes_of rfl) rfl (si_any (se_bin or_add op2_add (se_bin or_add op2_add (se_call c_llaw_clock_blocks (hr.mono (by decide)) (tkc tk) rfl (sa_cons (se_var (pv 0)) sa_nil)) (se_call c_llaw_link_blocks (hr.mono (by decide)) (tkc tk) rfl (sa_cons (se_var (pv 0)) sa_nil))) (se_call c_llaw_source_blocks (hr.mono (by decide)) (tkc tk) rfl (sa_cons (se_var (pv 0)) sa_nil)))) (pg_name (i := 2) sc_llaw_lines.nd rfl (Or.inl rfl)) (gm_name (by decide))
    (sl_one (ss_set (i := 1) sc_llaw_lines.nd rfl (Or.inl rfl) (se_bin or_add op2_add (se_var (pv 1)) (se_var (pv 2))))))
    (sl_cons (ss_if (sb_cmp op_gt op2_i2 (nomark _) (se_ix ix_seq op2_ix (se_var (pv 0)) se_int (fun _ _ => rfl)) se_int)
    (sl_one (ss_expr (se_mt PySem.F.plainAttrs_list PySem.F.slot_list_append PySem.F.type_list_append mt_append opm_append (se_var (pv 1)) (sa_cons (se_bin or_add op2_add se_str (se_callTy call_str_int opn_str rfl m_str (by decide +kernel) (sa_cons (se_ix ix_seq op2_ix (se_var (pv 0)) se_int (fun _ _ => rfl)) sa_nil))) sa_nil))))
    sl_nil)
    (sl_one (ss_ret (se_var (pv 1))))))))
/-! ### law -/
abbrev s_law : Stmt := topS 21
abbrev N_law : List Str := ["_law_script", "_law_rows", "_law_frame", "_law_given", "_law_told"]
noncomputable def bi_law_2 : SM :=
    (sRet (dAndV (dO2 dEq (dFld ["Frame"] "sources" (dVar 3)) (dO2 dIx (dVar 2) (dC (.int 3)))) (dAndV (dO2 dEq (dFld ["Frame"] "faults" (dVar 3)) (dO2 dIx (dVar 2) (dC (.int 4)))) (dO2 dEq (dCall 1 dn_write_frame (dCons (dVar 3) dNil)) (dVar 4)))))
noncomputable def bi_law_1 : SM :=
    (sSeq (sIf (dOrT (dB (dO2 dNe (dFld ["Frame"] "devices" (dVar 3)) (dO2 dIx (dVar 2) (dC (.int 0))))) (dOrT (dB (dO2 dNe (dFld ["Frame"] "clocks" (dVar 3)) (dO2 dIx (dVar 2) (dC (.int 1))))) (dB (dO2 dNe (dFld ["Frame"] "links" (dVar 3)) (dO2 dIx (dVar 2) (dC (.int 2)))))))
    (sRet (dC (.bl false)))
    sPass)
    bi_law_2)
noncomputable def b_law : SM :=
    (sSeq (sSet 1 (dCall 2 dn_llaw_draws (dCons (dVar 0) (dCons (dC (.int 26)) dNil))))
    (sSeq (sSet 2 (dCall 1 dn_llaw_parts (dCons (dVar 1) dNil)))
    (sSeq (sSet 3 (dMake "Frame" 6 dn_Frame_init (dCons (dON dList (dCons (dO2 dIx (dVar 2) (dC (.int 0))) dNil)) (dCons (dON dList (dCons (dO2 dIx (dVar 2) (dC (.int 1))) dNil)) (dCons (dON dList (dCons (dO2 dIx (dVar 2) (dC (.int 2))) dNil)) (dCons (dON dList (dCons (dO2 dIx (dVar 2) (dC (.int 3))) dNil)) (dCons (dO2 dIx (dVar 2) (dC (.int 4))) dNil)))))))
    (sSeq (sSet 4 (dCall 1 dn_write_frame (dCons (dVar 3) dNil)))
    (sSeq (sIf (dOrT (dNotT (dTru (dON dIsi (dCons (dVar 4) (dCons (dC (.ty "str")) dNil))))) (dB (dO2 dNe (dVar 4) (dCall 1 dn_llaw_text (dCons (dCall 1 dn_llaw_lines (dCons (dVar 2) dNil)) dNil)))))
    (sRet (dC (.bl false)))
    sPass)
    bi_law_1)))))
@[irreducible] noncomputable def dn_law : List D → S → Out D := defD 1 5 b_law
theorem sc_law : FnScope N_law ["_law_script"] (defScope s_law) := ⟨rfl, rfl, rfl, by decide +kernel, rfl, by decide +kernel, by decide +kernel⟩
theorem ok_law {fa : Addr} {fd : FuncData} (F : Fun K "law" "law" s_law fa fd) (m_list : mg "list" = none) (m_isinstance : mg "isinstance" = none) (m_str : mg "str" = none) (f_Frame_devices : FldAt K cl "Frame" "devices") (f_Frame_clocks : FldAt K cl "Frame" "clocks") (f_Frame_links : FldAt K cl "Frame" "links") (f_Frame_sources : FldAt K cl "Frame" "sources") (f_Frame_faults : FldAt K cl "Frame" "faults") (c_llaw_draws : FnD P w K mg base cl "_law_draws" 2 1 dn_llaw_draws) (c_llaw_parts : FnD P w K mg base cl "_law_parts" 1 4 dn_llaw_parts) (c_Frame_init : MkD P w K mg base cl "Frame" 6 1 dn_Frame_init) (c_write_frame : FnD P w K mg base cl "write_frame" 1 2 dn_write_frame) (c_llaw_text : FnD P w K mg base cl "_law_text" 1 1 dn_llaw_text) (c_llaw_lines : FnD P w K mg base cl "_law_lines" 1 3 dn_llaw_lines) : FnOk P w K mg base (L2N.CX P w) 5 fa fd ["_law_script"] (spD K cl 1 dn_law) := by
  unfold dn_law
  exact fnOk_of (body := b_law) F sc_law rfl rfl (fun cdv A outer s H E hr tk =>
    (sl_cons (ss_set (i := 1) sc_law.nd rfl (Or.inl rfl) (se_call c_llaw_draws (hr.mono (by decide)) (tkc tk) rfl (sa_cons (se_var (pv 0)) (sa_cons se_int sa_nil))))
    (sl_cons (ss_set (i := 2) sc_law.nd rfl (Or.inl rfl) (se_call c_llaw_parts (hr.mono (by decide)) (tkc tk) rfl (sa_cons (se_var (pv 1)) sa_nil)))
    (sl_cons (ss_set (i := 3) sc_law.nd rfl (Or.inl rfl) (se_make c_Frame_init (hr.mono (by decide)) (tkc tk) rfl (sa_cons (se_callTy call_list_of opn_list rfl m_list (by decide +kernel) (sa_cons (se_ix ix_seq op2_ix (se_var (pv 2)) se_int (fun _ _ => rfl)) sa_nil)) (sa_cons (se_callTy call_list_of opn_list rfl m_list (by decide +kernel) (sa_cons (se_ix ix_seq op2_ix (se_var (pv 2)) se_int (fun _ _ => rfl)) sa_nil)) (sa_cons (se_callTy call_list_of opn_list rfl m_list (by decide +kernel) (sa_cons (se_ix ix_seq op2_ix (se_var (pv 2)) se_int (fun _ _ => rfl)) sa_nil)) (sa_cons (se_callTy call_list_of opn_list rfl m_list (by decide +kernel) (sa_cons (se_ix ix_seq op2_ix (se_var (pv 2)) se_int (fun _ _ => rfl)) sa_nil)) (sa_cons (se_ix ix_seq op2_ix (se_var (pv 2)) se_int (fun _ _ => rfl)) sa_nil)))))))
    (sl_cons (ss_set (i := 4) sc_law.nd rfl (Or.inl rfl) (se_call c_write_frame (hr.mono (by decide)) (tkc tk) rfl (sa_cons (se_var (pv 3)) sa_nil)))
    (sl_cons (ss_if (SW.sb (sw_or (sb_not (sb_tru (se_callB call_isi opn_isi rfl m_isinstance (by decide +kernel) (sa_cons (se_var (pv 4)) (sa_cons (se_ty rfl m_str (by decide +kernel)) sa_nil))))) (sw_or1 (sb_cmp (or_ne (hu64 hr)) op2_ne (nomark _) (se_var (pv 4)) (se_call c_llaw_text (hr.mono (by decide)) (tkc tk) rfl (sa_cons (se_call c_llaw_lines (hr.mono (by decide)) (tkc tk) rfl (sa_cons (se_var (pv 2)) sa_nil)) sa_nil))))))
    (sl_one (ss_ret se_bl))
    sl_nil)
    (sl_cons (ss_if (SW.sb (sw_or (sb_cmp (or_ne (hu64 hr)) op2_ne (nomark _) (se_fld (se_var (pv 3)) (all_cons f_Frame_devices all_nil)) (se_ix ix_seq op2_ix (se_var (pv 2)) se_int (fun _ _ => rfl))) (sw_or (sb_cmp (or_ne (hu64 hr)) op2_ne (nomark _) (se_fld (se_var (pv 3)) (all_cons f_Frame_clocks all_nil)) (se_ix ix_seq op2_ix (se_var (pv 2)) se_int (fun _ _ => rfl))) (sw_or1 (sb_cmp (or_ne (hu64 hr)) op2_ne (nomark _) (se_fld (se_var (pv 3)) (all_cons f_Frame_links all_nil)) (se_ix ix_seq op2_ix (se_var (pv 2)) se_int (fun _ _ => rfl)))))))
    (sl_one (ss_ret se_bl))
    sl_nil)
    (sl_one (ss_ret (se_and (se_cmp (or_eq (hu64 hr)) op2_eq (nomark _) (se_fld (se_var (pv 3)) (all_cons f_Frame_sources all_nil)) (se_ix ix_seq op2_ix (se_var (pv 2)) se_int (fun _ _ => rfl))) (se_and (se_cmp (or_eq (hu64 hr)) op2_eq (nomark _) (se_fld (se_var (pv 3)) (all_cons f_Frame_faults all_nil)) (se_ix ix_seq op2_ix (se_var (pv 2)) se_int (fun _ _ => rfl))) (se_one (se_cmp (or_eq (hu64 hr)) op2_eq (nomark _) (se_call c_write_frame (hr.mono (by decide)) (tkc tk) rfl (sa_cons (se_var (pv 3)) sa_nil)) (se_var (pv 4)))))))))))))))
theorem use_Frame {K : Frag} {h : Heap} {mg : Str → Option Value} {Z : Prop} {C : Addr} {g_init : Addr} {od_init an_init : Option Addr} {sl_init : Array (Option Value)} {oc_init kV_init dc_init pm_init cd_init ct_init : Value} (X : K.In h) (N : h.Ns mainGlobals mg) (aC : PySem.W.nsIn K mainGlobals "Frame" = some (some (.ref C))) (pg : PySem.W.plainGet K C Str.empty = true) (hd : PySem.W.hasDictIn K C = true) (po : PySem.W.plainOver K C = true) (sa : PySem.W.findIn K (.ref C) "__setattr__" = some (some (.builtin "object.__setattr__"))) (n_devices : PySem.W.findIn K (.ref C) "devices" = some none) (n_clocks : PySem.W.findIn K (.ref C) "clocks" = some none) (n_links : PySem.W.findIn K (.ref C) "links" = some none) (n_sources : PySem.W.findIn K (.ref C) "sources" = some none) (n_faults : PySem.W.findIn K (.ref C) "faults" = some none) (at_init : PySem.W.findIn K (.ref C) "__init__" = some (some (.ref g_init))) (fn_init : PySem.W.isFn K (.ref g_init) = true) (lk_init : K.lookup g_init = some ⟨oc_init, od_init, .func (PySem.W.fnOf "__init__" "Frame.__init__" (defArgs s_Frame_init) (defBody s_Frame_init) (defScope s_Frame_init) .none kV_init dc_init pm_init an_init cd_init ct_init), sl_init⟩) (co_init : PySem.W.codeIn K cd_init "Frame.__init__" = true) (kp_init : PySem.W.keepIn K (.ref g_init) = true) (mk : PySem.W.makesIn K C = true) (kc : PySem.W.keepIn K (.ref C) = true)
    (z : ∀ C : Addr, (∀ cl : Clm, cl "Frame" = some C → FldAt K cl "Frame" "devices" ∧ FldAt K cl "Frame" "clocks" ∧ FldAt K cl "Frame" "links" ∧ FldAt K cl "Frame" "sources" ∧ FldAt K cl "Frame" "faults" ∧ MkAt K cl mg "Frame" "Frame.__init__" s_Frame_init) → Z) : Z :=
  z C fun cl e => ⟨⟨C, e, ⟨pg, hd, po, sa⟩, n_devices⟩, ⟨C, e, ⟨pg, hd, po, sa⟩, n_clocks⟩, ⟨C, e, ⟨pg, hd, po, sa⟩, n_links⟩, ⟨C, e, ⟨pg, hd, po, sa⟩, n_sources⟩, ⟨C, e, ⟨pg, hd, po, sa⟩, n_faults⟩, ⟨C, g_init, _, e, PySem.W.mg_of X N aC, ⟨mk, at_init, fn_init, kc⟩, fun_mk lk_init co_init kp_init⟩⟩
end
end G
-- NAMEIFS
-- NAMES write_frame kind_rows _law_kind_rows _law_clock_blocks _law_link_blocks _law_source_blocks _law_lines _law_text
namespace G
open PySem L2 Dn
local macro_rules | `(tactic| walk_at "ev") => `(tactic| simp only [ok_ok, ok_o2, ok_o1, ok_nil, ok_cons, ok_on, ok_mt, ok_tup, ok_lst, ok_call, ok_ifE, ok_dB, ok_tru, ok_notT, ok_andT, ok_orT, ok_andV, ok_orV, ok_notV, ok_set, ok_expr, ok_ret, ok_retN, ok_pass, ok_brk, ok_cnt, ok_if, ok_asg, ok_setI, ok_for, ok_iAny, ok_rng1, ok_rng2, ok_lc, ok_c, ok_var,
  v_add, v_sub, v_neg, v_lt, v_le, v_gt, v_ge, v_eqI, v_neI, v_eqS, v_neS, v_isN, v_isnotN, v_int, v_lenT, v_mod, v_ix, v_ixR, v_lenR, v_mul, v_div,
  List.map_cons, List.map_nil, List.cons_append, List.nil_append, Nat.reduceSub, List.replicate_succ, List.replicate_zero, D.bl.injEq, D.ref.injEq, D.int.injEq,
  List.getElem?_cons_zero, List.getElem?_cons_succ, List.set_cons_zero, List.set_cons_succ, Option.some.injEq, exists_eq_left', List.length_cons, List.length_nil, true_and, and_true, exists_eq_left, sq_ret, rt_ret, rt_nx, tn_nx, tn_ret])
local macro_rules | `(tactic| wide_open using [$ts,*]) => do
  let ls ← ts.getElems.mapM fun t => `(Lean.Parser.Tactic.simpLemma| $t:term)
  `(tactic| simp only [ok_seq, sq_nx, ok_ok, ok_o2, ok_o1, ok_nil, ok_cons, ok_on, ok_mt, ok_tup, ok_lst, ok_call, ok_ifE, ok_dB, ok_tru, ok_notT, ok_andT, ok_orT, ok_andV, ok_orV, ok_notV, ok_set, ok_expr, ok_ret, ok_retN, ok_pass, ok_brk, ok_cnt, ok_if, ok_asg, ok_setI, ok_for, ok_iAny, ok_iEn, ok_rng1, ok_rng2, ok_lc, ok_c, ok_var, ok_fld, ok_fldS, ok_met, ok_prop, ok_make, ok_isC, ok_nop, ok_P, ok_sl, v_slT, ok_ch,
  v_add, v_sub, v_neg, v_lt, v_le, v_gt, v_ge, v_eqI, v_neI, v_eqS, v_neS, v_isN, v_isnotN, v_int, v_lenT, v_mod, v_ix, v_ixR, v_lenR, v_mul, v_div, v_append, v_list, v_isi, sb_bool_bool, sb_bool_int, sb_bool_str, sb_bool_tuple, sb_bool_list, sb_int_bool, sb_int_int, sb_int_str, sb_int_tuple, sb_int_list, sb_str_bool, sb_str_int, sb_str_str, sb_str_tuple, sb_str_list, sb_tuple_bool, sb_tuple_int, sb_tuple_str, sb_tuple_tuple, sb_tuple_list, sb_list_bool, sb_list_int, sb_list_str, sb_list_tuple, sb_list_list, sb_NoneType_bool, sb_NoneType_int, sb_NoneType_str, sb_NoneType_tuple, sb_NoneType_list, ty_non, ty_bl, ty_int, ty_str, ty_tup, ty_ref, sq_tup, sq_ref, wk_tup, wk_str, wk_ref, v_isB, v_isnotB, v_eqB, v_neB, v_intB, isT, ct1, beq_self_eq_true, Bool.true_and, Bool.and_true, v_tuple, nonD_non, nonD_int, nonD_tup, nonD_str, nonD_ref, nonD_bl, optD_n, optD_s, tru_non, tru_bl, tru_int, tru_tup, tru_ref,
  atI_0, atI_1, atI_2, atI_3, atI_4, bName, wipeE,
  List.map_cons, List.map_nil, List.cons_append, List.nil_append, Nat.reduceSub, Nat.zero_add, Nat.reduceAdd, List.replicate_succ, List.replicate_zero, D.bl.injEq, D.ref.injEq, D.int.injEq, D.tup.injEq, O.ins.injEq, O.lst.injEq, List.cons.injEq,
  List.getElem?_cons_zero, List.getElem?_cons_succ, List.set_cons_zero, List.set_cons_succ, Option.some.injEq, exists_eq_left', List.length_cons, List.length_nil, true_and, and_true, exists_eq_left, sq_ret, sq_bk, sq_ct, rt_ret, rt_nx, tn_nx, tn_ret, tn_bk, tn_ct,
  Bool.not_true, Bool.not_false, Bool.false_eq_true, if_true, if_false, ite_true, ite_false, decide_true, decide_false, decide_eq_true_eq, and_assoc, exists_and_left, exists_and_right, exists_eq', exists_eq, and_self, List.set_set, lk_one, Nat.zero_le, Int.cast_ofNat_Int, eq_self, $ls,*])

theorem ixN_nat {n i : Nat} (h : i < n) : ixN n (i : Int) = some i := by simp [ixN, h]
/-- rows of the law's draws: ints that are not below 0 -/
def Rows (st : S) (a n : Nat) : Prop := ∃ rs : List Int, st[a]? = some (.lst (rs.map D.int)) ∧ rs.length = n ∧ ∀ r ∈ rs, 0 ≤ r
theorem take_ok {st : S} {a : Nat} {i n : Nat} {many : Int} {Q : D → S → Prop} (h : Rows st a n) (hi : i < n) (h0 : 0 < many) (h1 : many.natAbs.log2 < 9000)
    (q : ∀ g st', 0 ≤ g → g < many → st'.length = st.length → (∀ b, b ≠ a → st'[b]? = st[b]?) → Rows st' a n → Q (.int g) st') : Ok (dn_llaw_take [.ref a, .int (i : Nat), .int many] st) Q := by
  obtain ⟨rs, e1, e2, e3⟩ := h
  have hr : (rs.map D.int)[i]? = some (.int (rs[i]'(by omega))) := by rw [List.getElem?_map, List.getElem?_eq_getElem (by omega)]; rfl
  have hn : 0 ≤ rs[i]'(by omega) := e3 _ (List.getElem_mem _)
  unfold dn_llaw_take b_llaw_take
  rw [ok_def]
  refine ⟨rfl, ?_⟩
  rw [ok_seq]
  walk_at "ev"
  refine ⟨_, _, seqD_lst e1, atI_lt hr, ?_⟩
  walk_at "ev"
  refine ⟨h0, ?_⟩
  rw [sq_nx, ok_seq]
  walk_at "ev"
  refine ⟨_, _, seqD_lst e1, atI_lt hr, ?_⟩
  walk_at "ev"
  refine ⟨⟨h0, h1⟩, a, _, _, i, rfl, rfl, e1, ixN_nat (by rw [List.length_map]; omega), ?_⟩
  rw [sq_nx]
  walk_at "ev"
  refine q _ _ (Int.emod_nonneg _ (by omega)) (Int.emod_lt_of_pos _ h0) (by rw [List.length_set]) (fun b hb => by rw [List.getElem?_set_ne (Ne.symm hb)]) ⟨rs.set i (rs[i]'(by omega) / many), ?_, by rw [List.length_set]; exact e2, fun r hr => ?_⟩
  · have hl : a < st.length := (List.getElem?_eq_some_iff.mp e1).1
    rw [List.getElem?_set_self hl, List.map_set]
  · rcases List.mem_or_eq_of_mem_set hr with z | z
    · exact e3 _ z
    · rw [z]; exact Int.ediv_nonneg hn (by omega)
theorem rgD_get {lo hi : Int} {i : Nat} {d : D} (h : (rgD lo hi)[i]? = some d) : i < (hi - lo).toNat ∧ d = .int (lo + (i : Int)) := by
  unfold rgD at h
  rw [List.getElem?_map] at h
  cases e : (List.range (hi - lo).toNat)[i]? with
  | none => rw [e] at h; cases h
  | some x =>
    rw [e] at h
    obtain ⟨h1, h2⟩ := List.getElem?_eq_some_iff.mp e
    rw [List.length_range] at h1
    rw [List.getElem_range] at h2
    subst h2
    exact ⟨h1, (Option.some.inj h).symm⟩
theorem rgD_len {lo hi : Int} : (rgD lo hi).length = (hi - lo).toNat := by unfold rgD; rw [List.length_map, List.length_range]
theorem ok_mid {s z : SM} {en : En} {st : S} {V P : Fl × En → S → Prop} (h : Ok (s en st) P) (q : ∀ p st1, P p st1 → Sq z V p st1) : Ok (sSeq s z en st) V := ok_seq.mpr (h.mono q)
theorem wk_nil {l : List D} {st : S} : WkOk ⟨l, []⟩ st := fun p hp => nomatch hp
theorem draws_ok {st : S} {a m : Nat} {ns : List Int} {Q : D → S → Prop} (h : st[a]? = some (.frz (ns.map D.int))) (hm : m ≤ 100) (q : ∀ st', st'.length = st.length + 1 → (∀ b, b < st.length → st'[b]? = st[b]?) → Rows st' st.length m → Q (.ref st.length) st') :
    Ok (dn_llaw_draws [.ref a, .int (m : Nat)] st) Q := by
  have ha : a < st.length := (List.getElem?_eq_some_iff.mp h).1
  unfold dn_llaw_draws b_llaw_draws
  rw [ok_def]
  refine ⟨rfl, ?_⟩
  rw [ok_seq]
  walk_at "ev"
  refine ⟨Nat.zero_le _, ?_⟩
  rw [sq_nx, ok_seq]
  walk_at "ev"
  refine ⟨_, rfl, ⟨by omega, by omega⟩, ?_⟩
  refine ok_loop0 (fun k en st' => ∃ p c, en = [some (.ref a), some (.int (m : Nat)), some (.ref st.length), p, c] ∧ st'.length = st.length + 1 ∧ (∀ b, b < st.length → st'[b]? = st[b]?) ∧
    ∃ rs : List Int, st'[st.length]? = some (.lst (rs.map D.int)) ∧ rs.length = k ∧ ∀ r ∈ rs, 0 ≤ r) ⟨_, _, rfl, by simp, fun b hb => List.getElem?_append_left hb, [], by simp, rfl, by simp⟩ (fun _ _ _ _ => wk_nil) ?_ ?_
  · rintro k d en st1 hd ⟨p, c, rfl, l1, o1, rs, e1, e2, e3⟩
    obtain ⟨hk, rfl⟩ := rgD_get hd
    have hk : k < m := by omega
    have h1 : st1[a]? = some (.frz (ns.map D.int)) := by rw [o1 a ha]; exact h
    refine ⟨_, rfl, ?_⟩
    rw [ok_seq]
    walk_at "ev"
    rw [sq_nx]
    refine ok_mid (P := fun p st2 => ∃ c : Int, p = (.nx, [some (.ref a), some (.int (m : Nat)), some (.ref st.length), some (.int (0 + (k : Int))), some (.int c)]) ∧ st1 = st2) ?_ ?_
    · walk_at "ev"
      refine ⟨_, seqD_frz h1, ?_⟩
      split
      · rename_i hc
        simp only [decide_eq_true_eq, List.length_map] at hc
        try walk_at "ev"
        refine ⟨_, .int (ns[k]'(by omega)), seqD_frz h1, ?_, ?_⟩
        · rw [Int.zero_add]
          exact atI_lt (by rw [List.getElem?_map, List.getElem?_eq_getElem (by omega)]; rfl)
        · walk_at "ev"
          exact ⟨_, rfl⟩
      · try walk_at "ev"
        exact ⟨_, rfl⟩
    rintro _ _ ⟨c, rfl, rfl⟩
    rw [sq_nx]
    refine ok_mid (P := fun p st2 => ∃ c : Int, 0 ≤ c ∧ p = (.nx, [some (.ref a), some (.int (m : Nat)), some (.ref st.length), some (.int (0 + (k : Int))), some (.int c)]) ∧ st1 = st2) ?_ ?_
    · walk_at "ev"
      split
      · rename_i hc
        simp only [decide_eq_true_eq] at hc
        try walk_at "ev"
        refine ⟨.inl (by omega), _, ?_, rfl⟩
        omega
      · rename_i hc
        simp only [decide_eq_true_eq] at hc
        try walk_at "ev"
        refine ⟨_, ?_, rfl⟩
        omega
    rintro _ _ ⟨c, c0, rfl, rfl⟩
    rw [sq_nx]
    refine ok_mid (P := fun p st2 => ∃ c : Int, 0 ≤ c ∧ p = (.nx, [some (.ref a), some (.int (m : Nat)), some (.ref st.length), some (.int (0 + (k : Int))), some (.int c)]) ∧ st1 = st2) ?_ ?_
    · walk_at "ev"
      split
      · rename_i hc
        simp only [decide_eq_true_eq] at hc
        rw [ok_seq]
        walk_at "ev"
        refine ⟨.inl (by omega), .inr (.inl (by omega)), .inl (by omega), .inr (.inl (by omega)), by omega, ?_⟩
        rw [sq_nx]
        walk_at "ev"
        refine ⟨.inr (.inl (by omega)), by omega, _, Int.emod_nonneg _ (by omega), rfl⟩
      · try walk_at "ev"
        exact ⟨_, c0, rfl⟩
    rintro _ _ ⟨c, c0, rfl, rfl⟩
    rw [sq_nx]
    walk_at "ev"
    refine ⟨isT_lst e1, ?_⟩
    rw [v_append]
    refine ⟨_, e1, by rw [List.length_map, e2]; exact Nat.lt_of_lt_of_le hk (Nat.le_trans hm (by decide)), ?_⟩
    refine ⟨_, _, rfl, by rw [List.length_set]; exact l1, fun b hb => by rw [List.getElem?_set_ne (by omega)]; exact o1 b hb, rs ++ [c], ?_, by rw [List.length_append, e2]; rfl, fun r hr => ?_⟩
    · rw [List.getElem?_set_self (by omega), List.map_append]; rfl
    · rcases List.mem_append.mp hr with z | z
      · exact e3 r z
      · rw [List.mem_singleton.mp z]; exact c0
  · rintro en st1 ⟨p, c, rfl, l1, o1, rs, e1, e2, e3⟩
    rw [sq_nx]
    walk_at "ev"
    refine q st1 l1 o1 ⟨rs, e1, ?_, e3⟩
    rw [e2, rgD_len]; omega
/-- what a call that only draws leaves of the store -/
structure Dr (st st' : S) (a n : Nat) : Prop where
  len : st'.length = st.length
  oth : ∀ b, b ≠ a → st'[b]? = st[b]?
  rows : Rows st' a n
theorem Dr.trans {st s1 s2 : S} {a n : Nat} (h : Dr st s1 a n) (h' : Dr s1 s2 a n) : Dr st s2 a n := ⟨h'.len.trans h.len, fun b hb => (h'.oth b hb).trans (h.oth b hb), h'.rows⟩
theorem tk {st : S} {a : Nat} {i n : Nat} {j many : Int} {Q : D → S → Prop} (h : Rows st a n) (hj : j = (i : Int)) (hi : i < n) (h0 : 0 < many) (h1 : many.natAbs.log2 < 9000)
    (q : ∀ g st', 0 ≤ g → g < many → Dr st st' a n → Q (.int g) st') : Ok (dn_llaw_take [.ref a, .int j, .int many] st) Q := by
  subst hj
  exact take_ok h hi h0 h1 fun g st' g0 g1 l o r => q g st' g0 g1 ⟨l, o, r⟩
theorem log_lt {i : Int} {k : Nat} (h : i.natAbs < 2 ^ k) (h0 : 0 < k) (h9 : k ≤ 9000) : i.natAbs.log2 < 9000 := Nat.lt_of_lt_of_le (PySem.Flt.log2_lt_of h0 h) h9
theorem Dr.fr {st st' : S} {a n : Nat} (h : Dr st st' a n) : Fr (fun b => b = a) st st' := ⟨Nat.le_of_eq h.len.symm, fun b _ hn => h.oth b hn⟩
theorem Rows.fr {st st' : S} {F : Nat → Prop} {a n : Nat} (h : Rows st a n) (f : Fr F st st') (ha : ¬ F a) : Rows st' a n := by
  obtain ⟨rs, e, l, p⟩ := h
  exact ⟨rs, f.at_ e ha, l, p⟩
theorem Dr.at1 {st st' : S} {a k n : Nat} {o : O} (h : Dr st st' a k) (e : st[n]? = some o) (hn : n ≠ a) : st'[n]? = some o := (h.oth n hn).trans e
theorem Rows.lt {st : S} {a n : Nat} (h : Rows st a n) : a < st.length := by
  obtain ⟨rs, e, _⟩ := h
  exact lt_at e

open TL
/-! ### the law's words -/
def okC (c : Nat) : Prop := (97 ≤ c ∧ c ≤ 122) ∨ (48 ≤ c ∧ c ≤ 57)
instance (c : Nat) : Decidable (okC c) := by unfold okC; infer_instance
def signs : List Nat := [97, 98, 99, 100, 101, 102, 103, 104, 105, 106, 107, 108, 109, 110, 111, 112, 113, 114, 115, 116, 117, 118, 119, 120, 121, 122, 48, 49, 50, 51, 52, 53, 54, 55, 56, 57]
theorem signs_is : (Str.ofString "abcdefghijklmnopqrstuvwxyz0123456789").cps.toList = signs := by decide +kernel
theorem signs_len : (Str.ofString "abcdefghijklmnopqrstuvwxyz0123456789").length ≤ sizeLine := by decide +kernel
theorem atI_lt' {α : Type} {l : List α} {i : Nat} {x : α} (h : l[i]? = some x) : atI l (i : Int) = some x := by
  have hi := (List.getElem?_eq_some_iff.mp h).1
  unfold atI
  rw [ix_nat hi]
  exact h
theorem signs_at {i : Nat} (h : i < 36) : ∃ c, atI signs (i : Int) = some c ∧ okC c := by
  have h1 := List.getElem?_eq_getElem (l := signs) (i := i) h
  refine ⟨signs[i], ?_, ?_⟩
  · exact atI_lt' h1
  · have : ∀ c ∈ signs, okC c := by decide
    exact this _ (List.getElem_mem _)
theorem signs_dig {k : Nat} (h : k < 10) : atI signs (26 + (k : Int)) = some (48 + k) := by
  have e : (26 + (k : Int)) = ((26 + k : Nat) : Int) := by omega
  rw [e]
  match k, h with
  | 0, _ => rfl
  | 1, _ => rfl
  | 2, _ => rfl
  | 3, _ => rfl
  | 4, _ => rfl
  | 5, _ => rfl
  | 6, _ => rfl
  | 7, _ => rfl
  | 8, _ => rfl
  | 9, _ => rfl
def GW (w : Str) : Prop := 1 ≤ (tl w).length ∧ (tl w).length ≤ 12 ∧ ∀ c ∈ tl w, okC c
theorem GW.len {w : Str} (h : GW w) : w.length ≤ 12 := by
  have : w.length = (tl w).length := by show w.cps.size = w.cps.toList.length; rw [Array.length_toList]
  rw [this]; exact h.2.1
theorem str_len (w : Str) : w.length = (tl w).length := by show w.cps.size = w.cps.toList.length; rw [Array.length_toList]
theorem gw_one {c : Nat} (h : okC c) : GW ⟨#[c]⟩ := ⟨by show 1 ≤ [c].length; simp, by show [c].length ≤ 12; simp, fun x hx => by
  have hx : x ∈ [c] := hx
  rw [List.mem_singleton.mp hx]; exact h⟩
def menu8 : List Str := ["device", "clock", "link", "source", "kind", "faults", "of", "none"]
theorem menu8_gw : ∀ w ∈ menu8, GW w := by
  unfold GW menu8
  decide +kernel
/-- what a call that draws and makes new lists leaves -/
structure Rf (st st' : S) (a n : Nat) : Prop where
  fr : Fr (fun b => b = a) st st'
  rows : Rows st' a n
theorem Rf.trans {st s1 s2 : S} {a n : Nat} (h : Rf st s1 a n) (h' : Rf s1 s2 a n) : Rf st s2 a n := ⟨h.fr.trans h'.fr, h'.rows⟩
theorem Dr.rf {st st' : S} {a n : Nat} (h : Dr st st' a n) : Rf st st' a n := ⟨h.fr, h.rows⟩
theorem Rf.refl {st : S} {a n : Nat} (h : Rows st a n) : Rf st st a n := ⟨.refl _, h⟩
theorem Rf.push {st : S} {a n : Nat} (h : Rows st a n) (o : O) : Rf st (st ++ [o]) a n := ⟨.push _ _, h.fr (Fr.push (F := FN) _ _) fun z => z⟩
theorem Rf.at1 {st st' : S} {a n k : Nat} {o : O} (h : Rf st st' a n) (e : st[k]? = some o) (ne : k ≠ a) : st'[k]? = some o := h.fr.at_ e ne
theorem inD_str {w : Str} : ∀ {U : List Str}, inD (.str w) (U.map D.str) = decide (w ∈ U)
  | [] => rfl
  | x :: U => by
    have ih := inD_str (w := w) (U := U)
    unfold inD at ih ⊢
    rw [List.map_cons, List.any_cons, ih]
    show ((x == w) || decide (w ∈ U)) = _
    by_cases e : x = w
    · subst e; simp
    · have e1 : (x == w) = false := beq_eq_false_iff_ne.mpr e
      rw [e1, Bool.false_or]
      simp only [List.mem_cons, Ne.symm e, false_or]
theorem snotin_ok {st : S} {n : Nat} {w : Str} {U : List Str} {Q : D → S → Prop} (h : st[n]? = some (.lst (U.map D.str))) : Ok (dIn2 not (.str w) (.ref n) st) Q ↔ Q (.bl (!(decide (w ∈ U)))) st := by
  have e1 : (flatD (.str w) && (U.map D.str).all flatD) = true := by
    rw [Bool.and_eq_true, List.all_eq_true]
    exact ⟨rfl, fun d hd => by obtain ⟨x, _, rfl⟩ := List.mem_map.mp hd; rfl⟩
  unfold dIn2
  simp only [h, e1, if_true, inD_str, ok_ok]
theorem len_sub {α : Type} [DecidableEq α] : ∀ {l U : List α}, l.Nodup → (∀ x ∈ l, x ∈ U) → l.length ≤ U.length
  | [], _, _, _ => Nat.zero_le _
  | x :: l, U, nd, h => by
    have hx := h x List.mem_cons_self
    obtain ⟨n1, n2⟩ := List.nodup_cons.mp nd
    have := len_sub (l := l) (U := U.erase x) n2 fun y hy => (List.mem_erase_of_ne fun e => n1 (by rw [← e]; exact hy)).mpr (h y (List.mem_cons_of_mem _ hy))
    rw [List.length_erase_of_mem hx] at this
    have hpos : 0 < U.length := List.length_pos_of_mem hx
    rw [List.length_cons]; omega
theorem cutS_to {z : Str} {m : Nat} : tl (cutS z none (some (m : Int))) = (tl z).take m := by
  show (((z.cps.toList.drop (HT.sIx z.length 0 none)).take (HT.sIx z.length z.length (some (m : Int)) - HT.sIx z.length 0 none)).toArray).toList = _
  rw [HT.sIx_none, HT.sIx_nat, Nat.sub_zero, List.drop_zero]
  have hl : z.length = z.cps.toList.length := by rw [Array.length_toList]; rfl
  rw [hl, List.toList_toArray, take_min']
/-- the k-th word that is tried in place of one -/
def cand (w : Str) (k : Nat) : Str := cutS w none (some 11) ++ ⟨#[48 + k]⟩
theorem tl_cand (w : Str) (k : Nat) : tl (cand w k) = (tl w).take 11 ++ [48 + k] := by
  unfold cand
  rw [TL.tl_append, show (11 : Int) = ((11 : Nat) : Int) from rfl, cutS_to]
theorem cand_gw {w : Str} (h : GW w) {k : Nat} (hk : k < 10) : GW (cand w k) := by
  unfold GW
  rw [tl_cand]
  refine ⟨by simp, by simp; omega, fun c hc => ?_⟩
  rcases List.mem_append.mp hc with z | z
  · exact h.2.2 c (List.mem_of_mem_take z)
  · rw [List.mem_singleton.mp z]; exact .inr ⟨by omega, by omega⟩
theorem cand_inj {w : Str} {j k : Nat} (h : cand w j = cand w k) : j = k := by
  have := congrArg tl h
  rw [tl_cand, tl_cand] at this
  have := List.append_cancel_left this
  simp at this
  exact this
theorem cand_many {w : Str} {U : List Str} (h : ∀ j < 10, cand w j ∈ U) : 10 ≤ U.length := by
  have nd : ((List.range 10).map (cand w)).Nodup := List.pairwise_map.mpr ((List.nodup_range (n := 10)).imp fun n e => n (cand_inj e))
  have := len_sub nd fun x hx => by
    obtain ⟨j, hj, rfl⟩ := List.mem_map.mp hx
    exact h j (List.mem_range.mp hj)
  simpa using this
theorem GW.add {w : Str} (h : (tl w).length ≤ 11) (g : GW w) {c : Nat} (hc : okC c) : GW (w ++ ⟨#[c]⟩) := by
  unfold GW
  rw [TL.tl_append]
  refine ⟨?_, ?_, fun x hx => ?_⟩
  · rw [List.length_append]; exact Nat.le_trans g.1 (Nat.le_add_right _ _)
  · rw [List.length_append]; show _ + [c].length ≤ 12; simp; omega
  · rcases List.mem_append.mp hx with z | z
    · exact g.2.2 x z
    · have z : x ∈ [c] := z
      rw [List.mem_singleton.mp z]; exact hc
noncomputable def wordR : SM := (sSeq (sIf (dB (dO2 dNotIn (dVar 6) (dVar 2)))
    (sRet (dVar 6))
    sPass)
    (sSeq (sFor (iRng1D (dCons (dC (.int 10)) dNil)) (bName 7)
    (sSeq (sSet 8 (dO2 dAdd (dSl (dVar 6) dNoP (dP (dC (.int 11)))) (dO2 dIx (dVar 4) (dO2 dAdd (dC (.int 26)) (dVar 7)))))
    (sIf (dB (dO2 dNotIn (dVar 8) (dVar 2)))
    (sRet (dVar 8))
    sPass)))
    (sRet (dVar 6))))
theorem wordR_ok {st : S} {a u p m : Nat} {j : Int} {U : List Str} {w : Str} {a7 : Option D} {Q : D → S → Prop} (hu : st[u]? = some (.lst (U.map D.str))) (g : GW w)
    (q : ∀ w, GW w → (U.length ≤ 9 → w ∉ U) → Q (.str w) st) : Ok (wordR [some (.ref a), some (.int j), some (.ref u), some (.ref p), some (.str "abcdefghijklmnopqrstuvwxyz0123456789"), some (.ref m), some (.str w), a7, none] st) (Rt Q) := by
  unfold wordR
  wide_open using [fun Q w => snotin_ok (Q := Q) (w := w) hu]
  by_cases hw : w ∈ U
  · wide_open using [hw]
    refine ⟨by decide, by decide, ?_⟩
    refine ok_forN (n := 10) (fun k en st' => (∃ a7 a8, en = [some (.ref a), some (.int j), some (.ref u), some (.ref p), some (.str "abcdefghijklmnopqrstuvwxyz0123456789"), some (.ref m), some (.str w), a7, a8]) ∧ st' = st ∧ ∀ i < k, cand w i ∈ U) ⟨⟨_, _, rfl⟩, rfl, fun i hi => by omega⟩ ?_ ?_
    · rintro k en st' hk ⟨⟨a7, a8, rfl⟩, rfl, hc⟩
      have hd := signs_dig hk
      have e1 : cutS w none (some 11) ++ (⟨#[48 + k]⟩ : Str) = cand w k := rfl
      have hl : w.length ≤ sizeLine := sml (Nat.le_trans g.len (by decide))
      have hl2 : (cutS w none (some 11)).length + (⟨#[48 + k]⟩ : Str).length ≤ sizeLine := by
        rw [TL.len_tl, show (11 : Int) = ((11 : Nat) : Int) from rfl, cutS_to]
        show _ + 1 ≤ _
        exact sml (by rw [List.length_take]; omega)
      wide_open using [v_slS, v_ixS, signs_is, signs_len, hd, v_addS, hl, hl2, e1, fun Q w => snotin_ok (Q := Q) (w := w) hu]
      by_cases hk2 : cand w k ∈ U
      · wide_open using [hk2]
        intro i hi
        by_cases e : i = k
        · subst e; exact hk2
        · exact hc i (by omega)
      · wide_open using [hk2]
        exact q _ (cand_gw g hk) fun _ => hk2
    · rintro en st' ⟨⟨a7, a8, rfl⟩, rfl, hc⟩
      wide_open using []
      exact q _ g fun hl => by have := cand_many hc; omega
  · wide_open using [hw]
    exact q _ g fun _ => hw
theorem word_ok {st : S} {a i n u p : Nat} {j : Int} {U Pl : List Str} {Q : D → S → Prop} (h : Rows st a n) (hj : j = (i : Int)) (hi : i < n) (hu : st[u]? = some (.lst (U.map D.str))) (hp : st[p]? = some (.lst (Pl.map D.str))) (gp : ∀ w ∈ Pl, GW w) (lp : Pl.length ≤ 1000) (ua : u ≠ a) (pa : p ≠ a)
    (q : ∀ w st', Rf st st' a n → GW w → (U.length ≤ 9 → w ∉ U) → Q (.str w) st') : Ok (dn_llaw_word [.ref a, .int j, .ref u, .ref p] st) Q := by
  unfold dn_llaw_word b_llaw_word
  rw [← wordR, ok_def]
  refine ⟨rfl, ?_⟩
  wide_open using []
  refine ⟨by decide, ?_⟩
  have f1 := Rf.push h (.lst (menu8.map D.str))
  have m1 := fr_at st (.lst (menu8.map D.str))
  have hu1 := f1.at1 hu ua
  have hp1 := f1.at1 hp pa
  change Ok (dAdd _ _ (st ++ [O.lst (menu8.map D.str)])) _
  generalize st ++ [O.lst (menu8.map D.str)] = st1 at f1 m1 hu1 hp1 ⊢
  rw [v_addL m1 hp1, ← List.map_append]
  refine ⟨by simp [menu8]; exact sml (by omega), ?_⟩
  have gm : ∀ w ∈ menu8 ++ Pl, GW w := fun w hw => (List.mem_append.mp hw).elim (menu8_gw w) (gp w)
  have lm : (menu8 ++ Pl).length = 8 + Pl.length := by rw [List.length_append]; rfl
  have f2 := f1.trans (Rf.push f1.rows (.lst ((menu8 ++ Pl).map D.str)))
  have m2 := fr_at st1 (.lst ((menu8 ++ Pl).map D.str))
  have hu2 := f2.at1 hu ua
  have hma := h.lt
  have l1 := f1.fr.len
  generalize st1 ++ [O.lst ((menu8 ++ Pl).map D.str)] = st2 at f2 m2 hu2 ⊢
  generalize menu8 ++ Pl = M at gm lm m2
  have ma : st1.length ≠ a := by omega
  refine tk f2.rows hj hi (by decide) (by decide) fun g st3 g0 g1 d3 => ?_
  obtain ⟨g, rfl⟩ : ∃ n : Nat, g = (n : Int) := ⟨g.toNat, by omega⟩
  have f3 := f2.trans d3.rf
  have m3 := d3.at1 m2 ma
  obtain ⟨c, hc, oc⟩ := signs_at (i := g) (by omega)
  wide_open using [v_ixS, signs_is, signs_len, hc]
  refine tk d3.rows hj hi (by decide) (by decide) fun g' st4 g0' g1' d4 => ?_
  have f4 := f3.trans d4.rf
  have m4 := d4.at1 m3 ma
  have gc := gw_one oc
  wide_open using [m4]
  by_cases e : g' = 1
  · wide_open using [e, List.length_map]
    refine tk d4.rows hj hi (by omega) (log_lt (k := 20) (by omega) (by decide) (by decide)) fun x st5 x0 x1 d5 => ?_
    obtain ⟨x, rfl⟩ : ∃ n : Nat, x = (n : Int) := ⟨x.toNat, by omega⟩
    have f5 := f4.trans d5.rf
    have m5 := d5.at1 m4 ma
    have hx := List.getElem?_eq_getElem (l := M) (i := x) (by omega)
    have hgw := gm _ (List.getElem_mem (l := M) (n := x) (by omega))
    generalize M[x]'(by omega) = w at hx hgw
    have gx : atI (M.map D.str) (x : Int) = some (.str w) := atI_map hx
    wide_open using [m5, gx]
    exact wordR_ok (f5.at1 hu ua) hgw fun w gw nw => q w _ f5 gw nw
  · wide_open using [e]
    refine ⟨by decide, ?_⟩
    refine tk d4.rows hj hi (by decide) (by decide) fun x st5 x0 x1 d5 => ?_
    have f5 := f4.trans d5.rf
    obtain ⟨m, hm, lm⟩ : ∃ m : Nat, atI [D.int 0, D.int 0, D.int 1, D.int 2, D.int 10, D.int 11] x = some (.int (m : Int)) ∧ m ≤ 11 := by
      have : x = 0 ∨ x = 1 ∨ x = 2 ∨ x = 3 ∨ x = 4 ∨ x = 5 := by omega
      rcases this with rfl | rfl | rfl | rfl | rfl | rfl
      · exact ⟨0, rfl, by decide⟩
      · exact ⟨0, rfl, by decide⟩
      · exact ⟨1, rfl, by decide⟩
      · exact ⟨2, rfl, by decide⟩
      · exact ⟨10, rfl, by decide⟩
      · exact ⟨11, rfl, by decide⟩
    wide_open using [hm]
    refine ⟨by omega, by omega, ?_⟩
    refine ok_forN (fun k en st' => (∃ a7 w, en = [some (.ref a), some (.int j), some (.ref u), some (.ref p), some (.str "abcdefghijklmnopqrstuvwxyz0123456789"), some (.ref st1.length), some (.str w), a7, none] ∧ GW w ∧ (tl w).length = 1 + k) ∧ Rf st st' a n) ⟨⟨_, _, rfl, gc, rfl⟩, f5⟩ ?_ ?_
    · rintro k en st' hk ⟨⟨a7, w, rfl, gw, lw⟩, f⟩
      wide_open using []
      refine tk f.rows hj hi (by decide) (by decide) fun y st6 y0 y1 d6 => ?_
      obtain ⟨y, rfl⟩ : ∃ n : Nat, y = (n : Int) := ⟨y.toNat, by omega⟩
      obtain ⟨c, hc, oc⟩ := signs_at (i := y) (by omega)
      have hl : w.length + (⟨#[c]⟩ : Str).length ≤ sizeLine := by
        rw [TL.len_tl]
        show _ + 1 ≤ _
        exact sml (by omega)
      wide_open using [v_ixS, signs_is, signs_len, hc, v_addS, hl]
      exact ⟨⟨_, _, rfl, rfl, gw.add (by omega) oc, by rw [TL.tl_append, List.length_append, lw]; show 1 + k + 1 = _; omega⟩, f.trans d6.rf⟩
    · rintro en st' ⟨⟨a7, w, rfl, gw, lw⟩, f⟩
      rw [sq_nx]
      exact wordR_ok (f.at1 hu ua) gw fun w gw nw => q w _ f gw nw

/-! ### the law's frames -/
theorem number_ok {st : S} {a i n : Nat} {j L : Int} {Q : D → S → Prop} (h : Rows st a n) (hj : j = (i : Int)) (hi : i < n) (l0 : 0 ≤ L) (l1 : L ≤ 1) (q : ∀ (v : Int) st', L ≤ v → v ≤ 999999999999 → Dr st st' a n → Q (.int v) st') : Ok (dn_llaw_number [.ref a, .int j, .int L] st) Q := by
  unfold dn_llaw_number b_llaw_number
  rw [ok_def]
  refine ⟨rfl, ?_⟩
  try wide_open using []
  refine ⟨by decide, ?_⟩
  refine tk h hj hi (by decide) (by decide) fun x st1 x0 x1 d1 => ?_
  obtain ⟨m, hm, m0, m1⟩ : ∃ m : Int, atI [D.int 9, D.int 1000, D.int 999999999999] x = some (.int m) ∧ 9 ≤ m ∧ m ≤ 999999999999 := by
    have : x = 0 ∨ x = 1 ∨ x = 2 := by omega
    rcases this with rfl | rfl | rfl
    · exact ⟨9, rfl, by decide, by decide⟩
    · exact ⟨1000, rfl, by decide, by decide⟩
    · exact ⟨999999999999, rfl, by decide, by decide⟩
  wide_open using [hm]
  refine tk d1.rows hj hi (by omega) (log_lt (k := 50) (by omega) (by decide) (by decide)) fun y st2 y0 y1 d2 => ?_
  try wide_open using []
  exact q _ _ (by omega) (by omega) (d1.trans d2)
/-- the first items of the tuples of a list -/
theorem heads_ok {α : Type} {g : α → D} {nm : α → Str} {xs : List α} {L i : Nat} {en : En} {st : S} {R : List D → S → Prop} (hL : st[L]? = some (.lst (xs.map g))) (hg : ∀ x, ∃ r, g x = .tup (.str (nm x) :: r)) (hz : xs.length ≤ 1000) (hi : i < en.length) (q : R ((xs.map nm).map D.str) st) :
    Ok (lcD ⟨xs.map g, [(L, xs.map g)]⟩ (bName i) cYes (dO2 dIx (dVar i) (dC (.int 0))) en (xs.map g) [] st) R := by
  refine ok_lcX ((xs.map nm).map fun w => some (.str w)) (by simp) (wk1 hL) (by show (xs.map g).length < _; rw [List.length_map]; exact sml' (by omega)) (fun k d hd => ?_) ?_
  · have hd : (xs.map g)[k]? = some d := hd
    rw [List.getElem?_map, Option.map_eq_some_iff] at hd
    obtain ⟨x, hx, rfl⟩ := hd
    obtain ⟨r, hr⟩ := hg x
    refine ⟨_, rfl, ?_⟩
    have e1 : (en.set i (some (g x)))[i]? = some (some (.tup (.str (nm x) :: r))) := by rw [List.getElem?_set_self hi, hr]
    have e2 : atI (D.str (nm x) :: r) 0 = some (.str (nm x)) := atI_lt (i := 0) rfl
    wide_open using [e1, e2, cYes]
    rw [List.getElem?_map, List.getElem?_map, hx]; rfl
  · have e : (((xs.map nm).map fun w => some (D.str w)).filterMap id) = (xs.map nm).map D.str := by
      rw [List.filterMap_map]
      show List.filterMap (fun a => some (D.str a)) _ = _
      rw [List.filterMap_eq_map']
    rw [e]; exact q
structure Kd where
  nm : Str
  lo : Int
  hi : Option Int
def kdD (k : Kd) : D := .tup [.str k.nm, .int k.lo, optD k.hi]
theorem kdD_head (k : Kd) : ∃ r, kdD k = .tup (.str k.nm :: r) := ⟨_, rfl⟩
structure KdOk (sort : Str) (k : Kd) : Prop where
  gw : GW k.nm
  l0 : 0 ≤ k.lo
  l1 : k.lo ≤ 999999999999
  lc : sort = "clock" → 1 ≤ k.lo
  hl : sort ≠ "link" → k.hi ≠ none
  hs : ∀ h, k.hi = some h → 0 ≤ h ∧ h ≤ 999999999999 ∧ (sort ≠ "source" → k.lo ≤ h)
structure KsOk (sort : Str) (ks : List Kd) : Prop where
  ok : ∀ k ∈ ks, KdOk sort k
  nd : (ks.map Kd.nm).Nodup
  l1 : 1 ≤ ks.length
  l4 : ks.length ≤ 4
theorem nd_snoc {α : Type} {l : List α} {x : α} (h : l.Nodup) (n : x ∉ l) : (l ++ [x]).Nodup := by
  rw [List.nodup_append]
  exact ⟨h, by simp, fun y hy z hz => by rw [List.mem_singleton.mp hz]; intro e; exact n (e ▸ hy)⟩
theorem v_intB {st : S} {b : Bool} {Q : D → S → Prop} : Ok (dInt [.bl b] st) Q ↔ Q (.int (if b then 1 else 0)) st := Iff.rfl
theorem v_min2 {st : S} {x y : Int} {Q : D → S → Prop} : Ok (dMin2 [.int x, .int y] st) Q ↔ Q (.int (if y < x then y else x)) st := Iff.rfl
theorem kinds_ok {st : S} {a i n : Nat} {j : Int} {sort : Str} {Q : D → S → Prop} (h : Rows st a n) (hj : j = (i : Int)) (hi : i < n) (hs : sort = "clock" ∨ sort = "link" ∨ sort = "source")
    (q : ∀ ks st', Rf st st' a n → KsOk sort ks → Q (.tup (ks.map kdD)) st') : Ok (dn_llaw_kinds [.ref a, .int j, .str sort] st) Q := by
  unfold dn_llaw_kinds b_llaw_kinds
  rw [ok_def]
  refine ⟨rfl, ?_⟩
  try wide_open using []
  have f1 := Rf.push h (.lst [])
  have e1 := fr_at st (.lst [])
  have ha := h.lt
  generalize st ++ [O.lst []] = st1 at f1 e1 ⊢
  refine ⟨by decide, ?_⟩
  refine tk f1.rows hj hi (by decide) (by decide) fun x st2 x0 x1 d2 => ?_
  have f2 := f1.trans d2.rf
  have e2 := d2.at1 e1 (by omega)
  obtain ⟨m, hm, m1, m4⟩ : ∃ m : Nat, atI [D.int 1, D.int 1, D.int 2, D.int 4] x = some (.int (m : Int)) ∧ 1 ≤ m ∧ m ≤ 4 := by
    have : x = 0 ∨ x = 1 ∨ x = 2 ∨ x = 3 := by omega
    rcases this with rfl | rfl | rfl | rfl
    · exact ⟨1, rfl, by decide, by decide⟩
    · exact ⟨1, rfl, by decide, by decide⟩
    · exact ⟨2, rfl, by decide, by decide⟩
    · exact ⟨4, rfl, by decide, by decide⟩
  wide_open using [hm]
  refine ⟨by omega, by omega, ?_⟩
  refine ok_forN (fun k en st' => (∃ a4 a5 a6 a7, en = [some (.ref a), some (.int j), some (.str sort), some (.ref st.length), a4, a5, a6, a7, none]) ∧ Rf st st' a n ∧ ∃ ks : List Kd, st'[st.length]? = some (.lst (ks.map kdD)) ∧ ks.length = k ∧ (ks.map Kd.nm).Nodup ∧ ∀ x ∈ ks, KdOk sort x)
    ⟨⟨_, _, _, _, rfl⟩, f2, [], e2, rfl, List.nodup_nil, fun _ z => nomatch z⟩ ?_ ?_
  · rintro k en st' hk ⟨⟨a4, a5, a6, a7, rfl⟩, f, ks, ek, lk, nk, ok⟩
    wide_open using [ek]
    refine heads_ok (nm := Kd.nm) ek kdD_head (by omega) (Nat.le_refl _) ?_
    have g1 := f.trans (Rf.push f.rows (.lst ((ks.map Kd.nm).map D.str)))
    have u1 := fr_at st' (.lst ((ks.map Kd.nm).map D.str))
    have c1 := (Fr.push (F := FN) st' (.lst ((ks.map Kd.nm).map D.str))).at0 ek
    have fl := f.fr.len
    generalize st' ++ [O.lst ((ks.map Kd.nm).map D.str)] = s1 at g1 u1 c1 ⊢
    have g2 := g1.trans (Rf.push g1.rows (.lst ([].map D.str)))
    have u2 := (Fr.push (F := FN) s1 (.lst (([] : List Str).map D.str))).at0 u1
    have v2 := fr_at s1 (.lst (([] : List Str).map D.str))
    have c2 := (Fr.push (F := FN) s1 (.lst (([] : List Str).map D.str))).at0 c1
    have gl := g1.fr.len
    change Ok (dn_llaw_word _ (s1 ++ [O.lst (([] : List Str).map D.str)])) _
    generalize s1 ++ [O.lst (([] : List Str).map D.str)] = s2 at g2 u2 v2 c2 ⊢
    refine word_ok g2.rows hj hi u2 v2 (fun _ z => nomatch z) (by simp) (by omega) (by omega) fun w s3 f3 gw nw => ?_
    have nw := nw (by rw [List.length_map]; omega)
    have g3 := g2.trans f3
    have c3 := f3.at1 c2 (by omega)
    by_cases h1 : sort = "source"
    · simp only [if_pos h1]
      refine number_ok g3.rows hj hi (by decide) (by decide) fun lo s4 l0 l1 d4 => ?_
      try wide_open using []
      refine number_ok d4.rows hj hi (by decide) (by decide) fun hi' s5 h0 h1' d5 => ?_
      have c5 := d5.at1 (d4.at1 c3 (by omega)) (by omega)
      have g5 := (g3.trans d4.rf).trans d5.rf
      wide_open using [c5]
      refine ⟨by decide, by rw [List.length_map]; exact sml' (by omega), ?_⟩
      have fS : Fr (fun b => b = a) st (s5.set st.length (.lst (ks.map kdD ++ [.tup [.str w, .int lo, .int hi']]))) := g5.fr.set (.inr (Nat.le_refl _))
      refine ⟨⟨fS, g5.rows.fr ((Fr.refl (F := fun b => b = st.length) _).set (.inl rfl)) (by omega)⟩, ks ++ [⟨w, lo, some hi'⟩], by rw [st_at c5, List.map_append]; rfl, by simp [lk], by rw [List.map_append]; exact nd_snoc nk nw, fun x hx => ?_⟩
      rcases List.mem_append.mp hx with z | z
      · exact ok x z
      · rw [List.mem_singleton.mp z]
        exact ⟨gw, l0, l1, (fun e => absurd (h1.symm.trans e) (by decide +kernel)), (fun _ => by simp), (fun h e => by have e := Option.some.inj e; subst e; exact ⟨h0, h1', fun z => absurd h1 z⟩)⟩
    · simp only [if_neg h1]
      have hb : (0 : Int) ≤ (if sort = "clock" then 1 else 0) ∧ (if sort = "clock" then (1 : Int) else 0) ≤ 1 := by split <;> decide
      refine number_ok g3.rows hj hi hb.1 hb.2 fun lo s4 l0 l1 d4 => ?_
      try wide_open using []
      refine number_ok d4.rows hj hi (by decide) (by decide) fun y s5 h0 h1' d5 => ?_
      have c5 := d5.at1 (d4.at1 c3 (by omega)) (by omega)
      have g5 := (g3.trans d4.rf).trans d5.rf
      have hc : sort = "clock" → 1 ≤ lo := fun e => by rw [if_pos e] at l0; exact l0
      have l0 : 0 ≤ lo := by omega
      have key : ∀ (hi' : Option Int) (s6 : S), Rf st s6 a n → s6[st.length]? = some (.lst (ks.map kdD)) → (sort ≠ "link" → hi' ≠ none) → (∀ h, hi' = some h → 0 ≤ h ∧ h ≤ 999999999999 ∧ lo ≤ h) →
          (Rf st (s6.set st.length (.lst (ks.map kdD ++ [.tup [.str w, .int lo, optD hi']]))) a n ∧ ∃ ks' : List Kd, (s6.set st.length (.lst (ks.map kdD ++ [.tup [.str w, .int lo, optD hi']])))[st.length]? = some (.lst (ks'.map kdD)) ∧ ks'.length = k + 1 ∧ (ks'.map Kd.nm).Nodup ∧ ∀ x ∈ ks', KdOk sort x) := fun hi' s6 g6 c6 q1 q2 => by
        refine ⟨⟨g6.fr.set (.inr (Nat.le_refl _)), g6.rows.fr ((Fr.refl (F := fun b => b = st.length) _).set (.inl rfl)) (by omega)⟩, ks ++ [⟨w, lo, hi'⟩], by rw [st_at c6, List.map_append]; rfl, by simp [lk], by rw [List.map_append]; exact nd_snoc nk nw, fun x hx => ?_⟩
        rcases List.mem_append.mp hx with z | z
        · exact ok x z
        · rw [List.mem_singleton.mp z]
          exact ⟨gw, l0, l1, hc, q1, fun h e => by obtain ⟨z1, z2, z3⟩ := q2 h e; exact ⟨z1, z2, fun _ => z3⟩⟩
      have hmin : ∀ h, some (if lo + y < 999999999999 then lo + y else (999999999999 : Int)) = some h → 0 ≤ h ∧ h ≤ 999999999999 ∧ lo ≤ h := fun h e => by
        have e := Option.some.inj e
        split at e <;> omega
      have k3 : (3 : Nat) ≤ sizeLine := by decide
      have klt : (ks.map kdD).length < sizeLine := by rw [List.length_map]; exact sml' (by omega)
      wide_open using [v_min2]
      by_cases h2 : sort = "link"
      · simp only [if_pos h2]
        refine tk g5.rows hj hi (by decide) (by decide) fun z s6 z0 z1 d6 => ?_
        have c6 := d6.at1 c5 (by omega)
        by_cases h3 : z = 0
        · wide_open using [h3, c6, k3, klt]
          exact key none s6 (g5.trans d6.rf) c6 (fun z => absurd h2 z) fun _ e => nomatch e
        · wide_open using [h3, c6, k3, klt]
          exact key _ s6 (g5.trans d6.rf) c6 (fun _ => by simp) hmin
      · simp only [if_neg h2]
        wide_open using [c5, k3, klt]
        exact key _ s5 g5 c5 (fun _ => by simp) hmin
  · rintro en st' ⟨⟨a4, a5, a6, a7, rfl⟩, f, ks, ek, lk, nk, ok⟩
    wide_open using [v_tuple, seqD, ek]
    exact q ks _ f ⟨ok, nk, by omega, by omega⟩

theorem v_sumI {st : S} {n : Nat} {l : List Int} {Q : D → S → Prop} (h : st[n]? = some (.lst (l.map D.int))) : Ok (dSumL [.ref n] st) Q ↔ Q (.int l.sum) st := by
  have e : mapO intOf (l.map D.int) = some l := by
    clear h
    induction l with
    | nil => rfl
    | cons x l ih => rw [List.map_cons]; simp only [mapO, intOf, ih]
  unfold dSumL dAgg
  simp only [h, e, sumF, ok_ok]
noncomputable def countsR2 : SM := (sSeq (sIf (dB (dO2 dEq (dON dSumL (dCons (dVar 3) dNil)) (dC (.int 0))))
    (sSetI (dVar 3) (dC (.int 2)) (dC (.int 1)))
    sPass)
    (sRet (dVar 3)))
noncomputable def countsR : SM := (sSeq (sIf (dB (dO2 dEq (dVar 1) (dC (.int 1))))
    (sSetI (dVar 3) (dC (.int 1)) (dC (.int 0)))
    sPass)
    countsR2)
/-- what _law_counts returns -/
structure CtOk (st : S) (m r c l s : Nat) : Prop where
  at_ : st[r]? = some (.lst [.int (c : Nat), .int (l : Nat), .int (s : Nat)])
  many : c + 2 * l + s ≤ 9
  one : 1 ≤ c + l + s
  lone : m = 1 → l = 0
theorem countsR2_ok {st0 st : S} {a n r m : Nat} {c l s : Nat} {a2 : Option D} {Q : D → S → Prop} (f : Rf st0 st a n) (hr : st[r]? = some (.lst [.int (c : Nat), .int (l : Nat), .int (s : Nat)])) (ra : st0.length ≤ r) (ha : a < st0.length) (hs : c + 2 * l + s ≤ 9) (hl : m = 1 → l = 0)
    (q : ∀ c l s r st', Rf st0 st' a n → st0.length ≤ r → CtOk st' m r c l s → Q (.ref r) st') :
    Ok (countsR2 [some (.ref a), some (.int (m : Nat)), a2, some (.ref r)] st) (Rt Q) := by
  have hr' : st[r]? = some (.lst ([(c : Int), (l : Int), (s : Int)].map D.int)) := hr
  have eS : [(c : Int), (l : Int), (s : Int)].sum = c + l + s := by simp [List.sum_cons]; omega
  unfold countsR2
  wide_open using [fun Q => v_sumI (Q := Q) hr', eS]
  by_cases h : (c : Int) + l + s = 0
  · have i2 : ixN 3 2 = some 2 := rfl
    wide_open using [h, hr, i2]
    obtain ⟨rfl, rfl, rfl⟩ : c = 0 ∧ l = 0 ∧ s = 0 := by omega
    exact q 0 0 1 r _ ⟨f.fr.set (.inr ra), f.rows.fr ((Fr.refl (F := fun b => b = r) _).set (.inl rfl)) (by omega)⟩ ra ⟨st_at hr, by omega, by omega, fun _ => rfl⟩
  · wide_open using [h]
    exact q c l s r _ f ra ⟨hr, hs, by omega, hl⟩
theorem countsR_ok {st0 st : S} {a n r m : Nat} {c l s : Nat} {a2 : Option D} {Q : D → S → Prop} (f : Rf st0 st a n) (hr : st[r]? = some (.lst [.int (c : Nat), .int (l : Nat), .int (s : Nat)])) (ra : st0.length ≤ r) (ha : a < st0.length) (hs : c + 2 * l + s ≤ 9)
    (q : ∀ c l s r st', Rf st0 st' a n → st0.length ≤ r → CtOk st' m r c l s → Q (.ref r) st') :
    Ok (countsR [some (.ref a), some (.int (m : Nat)), a2, some (.ref r)] st) (Rt Q) := by
  unfold countsR
  by_cases h : (m : Int) = 1
  · have i1 : ixN 3 1 = some 1 := rfl
    wide_open using [h, hr, i1]
    rw [← h]
    exact countsR2_ok (l := 0) ⟨f.fr.set (.inr ra), f.rows.fr ((Fr.refl (F := fun b => b = r) _).set (.inl rfl)) (by omega)⟩ (st_at hr) ra ha (by omega) (fun _ => rfl) q
  · wide_open using [h]
    exact countsR2_ok f hr ra ha hs (fun e => absurd (by omega) h) q
theorem counts_ok {st : S} {a n m : Nat} {Q : D → S → Prop} (h : Rows st a n) (hn : 0 < n)
    (q : ∀ c l s r st', Rf st st' a n → st.length ≤ r → CtOk st' m r c l s → Q (.ref r) st') : Ok (dn_llaw_counts [.ref a, .int (m : Nat)] st) Q := by
  have ha := h.lt
  unfold dn_llaw_counts b_llaw_counts
  rw [← countsR2, ← countsR, ok_def]
  refine ⟨rfl, ?_⟩
  wide_open using []
  refine tk (i := 0) h rfl hn (by decide) (by decide) fun g st1 g0 g1 d1 => ?_
  refine tk (i := 0) d1.rows rfl hn (by decide) (by decide) fun c st2 c0 c1 d2 => ?_
  refine tk (i := 0) d2.rows rfl hn (by decide) (by decide) fun l st3 l0 l1 d3 => ?_
  refine tk (i := 0) d3.rows rfl hn (by decide) (by decide) fun s st4 s0 s1 d4 => ?_
  obtain ⟨c, rfl⟩ : ∃ k : Nat, c = (k : Int) := ⟨c.toNat, by omega⟩
  obtain ⟨l, rfl⟩ : ∃ k : Nat, l = (k : Int) := ⟨l.toNat, by omega⟩
  obtain ⟨s, rfl⟩ : ∃ k : Nat, s = (k : Int) := ⟨s.toNat, by omega⟩
  have f4 := ((d1.trans d2).trans (d3.trans d4)).rf
  have l4 := f4.fr.len
  refine ⟨by decide, ?_⟩
  have f5 := f4.trans (Rf.push f4.rows (.lst [.int (c : Nat), .int (l : Nat), .int (s : Nat)]))
  have e5 := fr_at st4 (.lst [.int (c : Nat), .int (l : Nat), .int (s : Nat)])
  generalize st4 ++ [O.lst [.int (c : Nat), .int (l : Nat), .int (s : Nat)]] = st5 at f5 e5 ⊢
  have z3 : (3 : Nat) ≤ sizeLine := by decide
  by_cases e0 : g = 0
  · subst e0
    wide_open using []
    refine tk (i := 0) f5.rows rfl hn (by decide) (by decide) fun x st6 x0 x1 d6 => ?_
    obtain ⟨x, rfl⟩ : ∃ k : Nat, x = (k : Int) := ⟨x.toNat, by omega⟩
    have f6 := f5.trans d6.rf
    refine ⟨z3, ?_⟩
    rw [if_neg (by decide), if_neg (by decide)]
    exact countsR_ok (c := x) (l := 0) (s := 0) (f6.trans (Rf.push f6.rows _)) (fr_at _ _) f6.fr.len ha (by omega) q
  by_cases e1 : g = 1
  · subst e1
    wide_open using []
    refine tk (i := 0) f5.rows rfl hn (by decide) (by decide) fun x st6 x0 x1 d6 => ?_
    obtain ⟨x, rfl⟩ : ∃ k : Nat, x = (k : Int) := ⟨x.toNat, by omega⟩
    have f6 := f5.trans d6.rf
    refine ⟨z3, ?_⟩
    rw [if_neg (by decide)]
    exact countsR_ok (c := 0) (l := 0) (s := x) (f6.trans (Rf.push f6.rows _)) (fr_at _ _) f6.fr.len ha (by omega) q
  by_cases e2 : g = 2
  · subst e2
    wide_open using []
    refine tk (i := 0) f5.rows rfl hn (by decide) (by decide) fun x st6 x0 x1 d6 => ?_
    obtain ⟨x, rfl⟩ : ∃ k : Nat, x = (k : Int) := ⟨x.toNat, by omega⟩
    refine tk (i := 0) d6.rows rfl hn (by decide) (by decide) fun y st7 y0 y1 d7 => ?_
    obtain ⟨y, rfl⟩ : ∃ k : Nat, y = (k : Int) := ⟨y.toNat, by omega⟩
    have f7 := (f5.trans d6.rf).trans d7.rf
    refine ⟨z3, ?_⟩
    exact countsR_ok (c := 0) (l := x) (s := y) (f7.trans (Rf.push f7.rows _)) (fr_at _ _) f7.fr.len ha (by omega) q
  · wide_open using [e0, e1, e2]
    exact countsR_ok f5 e5 l4 ha (by omega) q
def wyD (p : Nat × Nat) : D := .tup [.int (p.1 : Nat), .int (p.2 : Nat)]
structure WsOk (m : Nat) (ws : List (Nat × Nat)) : Prop where
  ne : ∀ p ∈ ws, p.1 ≠ p.2 ∧ p.1 < m ∧ p.2 < m
  back : ∀ p ∈ ws, (p.2, p.1) ∈ ws
def swp (p : Nat × Nat) : Nat × Nat := (p.2, p.1)
theorem ways_ok {st : S} {a n m k : Nat} {Q : D → S → Prop} (h : Rows st a n) (hn : 25 < n) (hm : 2 ≤ m) (hm6 : m ≤ 1000) (hk : k ≤ 4)
    (q : ∀ ws r st', Rf st st' a n → st.length ≤ r → st'[r]? = some (.lst (ws.map wyD)) → ws.length = 2 * k → WsOk m ws → Q (.ref r) st') : Ok (dn_llaw_ways [.ref a, .int (m : Nat), .int (k : Nat)] st) Q := by
  have ha := h.lt
  unfold dn_llaw_ways b_llaw_ways
  rw [ok_def]
  refine ⟨rfl, ?_⟩
  wide_open using []
  have f1 := (Rf.push h (.lst [])).trans (Rf.push (Rf.push h (.lst [])).rows (.lst []))
  have e1 := (Fr.push (F := FN) (st ++ [O.lst []]) (.lst [])).at0 (fr_at st (.lst []))
  have e2 := fr_at (st ++ [O.lst []]) (.lst [])
  have l1 : (st ++ [O.lst []]).length = st.length + 1 := by simp
  rw [l1] at e2 ⊢
  generalize st ++ [O.lst []] ++ [O.lst []] = st1 at f1 e1 e2 ⊢
  refine ⟨by omega, by omega, ?_⟩
  refine ok_forN (fun i en st' => (∃ a5 a7 a8, en = [some (.ref a), some (.int (m : Nat)), some (.int (k : Nat)), some (.ref st.length), some (.ref (st.length + 1)), a5, none, a7, a8]) ∧ Rf st st' a n ∧ ∃ ws : List (Nat × Nat), st'[st.length]? = some (.lst (ws.map wyD)) ∧ st'[st.length + 1]? = some (.lst ((ws.map swp).map wyD)) ∧ ws.length = i ∧ ∀ p ∈ ws, p.1 ≠ p.2 ∧ p.1 < m ∧ p.2 < m)
    ⟨⟨_, _, _, rfl⟩, f1, [], e1, e2, rfl, fun _ z => nomatch z⟩ ?_ ?_
  · rintro i en st' hi ⟨⟨a5, a7, a8, rfl⟩, f, ws, w1, w2, lw, ok⟩
    wide_open using []
    refine tk (i := 25) f.rows rfl hn (by omega) (log_lt (k := 20) (by omega) (by decide) (by decide)) fun x st2 x0 x1 d2 => ?_
    obtain ⟨x, rfl⟩ : ∃ k : Nat, x = (k : Int) := ⟨x.toNat, by omega⟩
    try wide_open using []
    refine tk (i := 25) d2.rows rfl hn (by omega) (log_lt (k := 20) (by omega) (by decide) (by decide)) fun t st3 t0 t1 d3 => ?_
    obtain ⟨t, rfl⟩ : ∃ k : Nat, t = (k : Int) := ⟨t.toNat, by omega⟩
    have f3 := (f.trans d2.rf).trans d3.rf
    have b1 := d3.at1 (d2.at1 w1 (by omega)) (by omega)
    have b2 := d3.at1 (d2.at1 w2 (by omega)) (by omega)
    obtain ⟨y, hy, yx, ym⟩ : ∃ y : Nat, ((x : Int) + 1 + t) % (m : Int) = (y : Int) ∧ y ≠ x ∧ y < m := by
      refine ⟨(x + 1 + t) % m, by push_cast; rfl, ?_, Nat.mod_lt _ (by omega)⟩
      intro e
      by_cases c : x + 1 + t < m
      · rw [Nat.mod_eq_of_lt c] at e; omega
      · rw [Nat.mod_eq_sub_mod (by omega), Nat.mod_eq_of_lt (by omega)] at e; omega
    have b2' := st_ot (o := .lst (ws.map wyD ++ [.tup [.int (x : Nat), .int (y : Nat)]])) b2 (show st.length ≠ st.length + 1 by omega)
    have z2 : (2 : Nat) ≤ sizeLine := by decide
    have zl : (ws.map wyD).length < sizeLine := by rw [List.length_map]; exact sml' (by omega)
    have zl2 : ((ws.map swp).map wyD).length < sizeLine := by rw [List.length_map, List.length_map]; exact sml' (by omega)
    wide_open using [hy, b1, z2, zl, b2', zl2, show (0 : Int) < (m : Int) by omega]
    have g1 : Fr (fun b => b = a) st ((st3.set st.length (.lst (ws.map wyD ++ [wyD (x, y)]))).set (st.length + 1) (.lst ((ws.map swp).map wyD ++ [wyD (y, x)]))) := (f3.fr.set (.inr (Nat.le_refl _))).set (.inr (by omega))
    have g2 : Rows ((st3.set st.length (.lst (ws.map wyD ++ [wyD (x, y)]))).set (st.length + 1) (.lst ((ws.map swp).map wyD ++ [wyD (y, x)]))) a n := (f3.rows.fr ((Fr.refl (F := fun b => b = st.length) _).set (.inl rfl)) (by omega)).fr ((Fr.refl (F := fun b => b = st.length + 1) _).set (.inl rfl)) (by omega)
    refine ⟨⟨g1, g2⟩, ws ++ [(x, y)], ?_, ?_, by simp [lw], fun p hp => ?_⟩
    · have := st_ot (o := .lst ((ws.map swp).map wyD ++ [wyD (y, x)])) (st_at (o := .lst (ws.map wyD ++ [wyD (x, y)])) b1) (show st.length + 1 ≠ st.length by omega)
      rw [List.map_append]; exact this
    · have := st_at (o := .lst ((ws.map swp).map wyD ++ [wyD (y, x)])) b2'
      rw [List.map_append, List.map_append]; exact this
    · rcases List.mem_append.mp hp with z | z
      · exact ok p z
      · rw [List.mem_singleton.mp z]; exact ⟨Ne.symm yx, by omega, ym⟩
  · rintro en st' ⟨⟨a5, a7, a8, rfl⟩, f, ws, w1, w2, lw, ok⟩
    wide_open using []
    refine tk (i := 25) f.rows rfl hn (by decide) (by decide) fun g st2 g0 g1 d2 => ?_
    have f2 := f.trans d2.rf
    have b1 := d2.at1 w1 (by omega)
    have b2 := d2.at1 w2 (by omega)
    have lfr := f2.fr.len
    have swm : ∀ p, p ∈ ws.map swp ↔ (p.2, p.1) ∈ ws := fun p => by
      rw [List.mem_map]
      exact ⟨fun ⟨x, hx, e⟩ => by subst e; exact hx, fun h => ⟨_, h, rfl⟩⟩
    by_cases e : g = 0
    · wide_open using [e, fun Q => v_addL (Q := Q) b1 b2]
      rw [← List.map_append]
      refine ⟨by simp; exact sml (by omega), q (ws ++ ws.map swp) _ _ (f2.trans (Rf.push f2.rows _)) lfr (fr_at _ _) (by simp [lw]; omega) ⟨fun p hp => ?_, fun p hp => ?_⟩⟩
      · rcases List.mem_append.mp hp with z | z
        · exact ok p z
        · obtain ⟨h1, h2, h3⟩ := ok _ ((swm p).mp z)
          exact ⟨Ne.symm h1, h3, h2⟩
      · rcases List.mem_append.mp hp with z | z
        · exact List.mem_append_right _ ((swm _).mpr z)
        · exact List.mem_append_left _ ((swm p).mp z)
    · wide_open using [e]
      refine ⟨by omega, by omega, ?_⟩
      have f3 := f2.trans (Rf.push f2.rows (.lst []))
      have c1 := (Fr.push (F := FN) st2 (.lst [])).at0 b1
      have c2 := (Fr.push (F := FN) st2 (.lst [])).at0 b2
      have c3 := fr_at st2 (.lst [])
      generalize st2 ++ [O.lst []] = st3 at f3 c1 c2 c3 ⊢
      refine ok_forN (fun i en st' => (∃ a5 a7 a8 r, en = [some (.ref a), some (.int (m : Nat)), some (.int (k : Nat)), some (.ref st.length), some (.ref (st.length + 1)), a5, some (.ref r), a7, a8] ∧ st.length ≤ r ∧ st'[r]? = some (.lst (((ws.take i).flatMap fun p => [swp p, p]).map wyD))) ∧ Rf st st' a n ∧ st'[st.length]? = some (.lst (ws.map wyD)) ∧ st'[st.length + 1]? = some (.lst ((ws.map swp).map wyD)))
        ⟨⟨_, _, _, _, rfl, lfr, c3⟩, f3, c1, c2⟩ ?_ ?_
      · rintro i en st' hi ⟨⟨a5, a7, a8, r, rfl, lr, er⟩, f, w1, w2⟩
        have hp := List.getElem?_eq_getElem (l := ws) (i := i) (by omega)
        generalize ws[i]'(by omega) = p at hp
        have g1 : atI (ws.map wyD) (i : Int) = some (wyD p) := atI_map hp
        have g2 : atI ((ws.map swp).map wyD) (i : Int) = some (wyD (swp p)) := atI_map (by rw [List.getElem?_map, hp]; rfl)
        have fp := Rf.push f.rows (.lst [wyD (swp p), wyD p])
        have er1 := (Fr.push (F := FN) st' (.lst [wyD (swp p), wyD p])).at0 er
        have en1 := fr_at st' (.lst [wyD (swp p), wyD p])
        wide_open using [w2, g2, w1, g1]
        refine ⟨by decide, ?_⟩
        rw [v_addL er1 en1]
        have hsp : (ws.take (i + 1)).flatMap (fun p => [swp p, p]) = (ws.take i).flatMap (fun p => [swp p, p]) ++ [swp p, p] := by
          rw [mem_split hp, List.flatMap_append]; simp
        have hlen : ((ws.take i).flatMap (fun p => [swp p, p])).length = 2 * i := by
          have : ∀ l : List (Nat × Nat), (l.flatMap (fun p => [swp p, p])).length = 2 * l.length := fun l => by
            induction l with
            | nil => rfl
            | cons x l ih => rw [List.flatMap_cons, List.length_append, ih, List.length_cons]; simp; omega
          rw [this, List.length_take]; omega
        have f4 := f.trans fp
        refine ⟨by rw [List.length_map, hlen]; exact sml (by show 2 * i + 2 ≤ _; omega), ?_⟩
        have fq := Rf.push f4.rows (.lst ((((ws.take i).flatMap fun p => [swp p, p]).map wyD) ++ [wyD (swp p), wyD p]))
        refine ⟨⟨_, _, _, rfl, rfl, rfl, Nat.le_trans f4.fr.len (Nat.le_refl _), ?_⟩, f4.trans fq, ?_, ?_⟩
        · rw [fr_at, hsp, List.map_append]; rfl
        · exact (Fr.push (F := FN) _ _).at0 ((Fr.push (F := FN) _ _).at0 w1)
        · exact (Fr.push (F := FN) _ _).at0 ((Fr.push (F := FN) _ _).at0 w2)
      · rintro en st' ⟨⟨a5, a7, a8, r, rfl, lr, er⟩, f, w1, w2⟩
        wide_open using []
        have hmem : ∀ p, p ∈ (ws.take k).flatMap (fun p => [swp p, p]) ↔ p ∈ ws ∨ swp p ∈ ws := fun p => by
          rw [List.take_of_length_le (by omega)]
          simp only [List.mem_flatMap, List.mem_cons, List.not_mem_nil, or_false]
          constructor
          · rintro ⟨x, hx, rfl | rfl⟩
            · exact .inr hx
            · exact .inl hx
          · rintro (h | h)
            · exact ⟨p, h, .inr rfl⟩
            · exact ⟨_, h, .inl rfl⟩
        refine q _ r st' f lr er ?_ ⟨fun p hp => ?_, fun p hp => ?_⟩
        · have : ∀ l : List (Nat × Nat), (l.flatMap (fun p => [swp p, p])).length = 2 * l.length := fun l => by
            induction l with
            | nil => rfl
            | cons x l ih => rw [List.flatMap_cons, List.length_append, ih, List.length_cons]; simp; omega
          rw [this, List.length_take]; omega
        · rcases (hmem p).mp hp with z | z
          · exact ok p z
          · obtain ⟨h1, h2, h3⟩ := ok _ z
            exact ⟨Ne.symm h1, h3, h2⟩
        · rcases (hmem p).mp hp with z | z
          · exact (hmem _).mpr (.inr z)
          · exact (hmem _).mpr (.inl z)

structure Ck where
  nm : Str
  dev : Nat
  on : Bool
  ks : List Kd
structure Lk where
  nm : Str
  fr : Nat
  to : Nat
  ks : List Kd
structure Sr where
  nm : Str
  dev : Nat
  ks : List Kd
def ckD (c : Ck) : D := .tup [.str c.nm, .int (c.dev : Nat), .bl c.on, .tup (c.ks.map kdD)]
def lkD (c : Lk) : D := .tup [.str c.nm, .int (c.fr : Nat), .int (c.to : Nat), .tup (c.ks.map kdD)]
def srD (c : Sr) : D := .tup [.str c.nm, .int (c.dev : Nat), .tup (c.ks.map kdD)]
theorem ckD_head (c : Ck) : ∃ r, ckD c = .tup (.str c.nm :: r) := ⟨_, rfl⟩
theorem lkD_head (c : Lk) : ∃ r, lkD c = .tup (.str c.nm :: r) := ⟨_, rfl⟩
theorem srD_head (c : Sr) : ∃ r, srD c = .tup (.str c.nm :: r) := ⟨_, rfl⟩
structure DsOk (ds : List Str) : Prop where
  gw : ∀ w ∈ ds, GW w
  nd : ds.Nodup
structure CsOk (m : Nat) (cs : List Ck) : Prop where
  ok : ∀ c ∈ cs, GW c.nm ∧ c.dev < m ∧ KsOk "clock" c.ks
  nd : (cs.map Ck.nm).Nodup
structure LsOk (m : Nat) (ls : List Lk) : Prop where
  ok : ∀ c ∈ ls, GW c.nm ∧ c.fr < m ∧ c.to < m ∧ c.fr ≠ c.to ∧ KsOk "link" c.ks
  nd : (ls.map Lk.nm).Nodup
structure SsOk (m : Nat) (ss : List Sr) : Prop where
  ok : ∀ c ∈ ss, GW c.nm ∧ c.dev < m ∧ KsOk "source" c.ks
  nd : (ss.map Sr.nm).Nodup
theorem CsOk.snoc {m : Nat} {cs : List Ck} (h : CsOk m cs) {c : Ck} (g : GW c.nm ∧ c.dev < m ∧ KsOk "clock" c.ks) (n : c.nm ∉ cs.map Ck.nm) : CsOk m (cs ++ [c]) := ⟨fun x hx => (List.mem_append.mp hx).elim (h.ok x) fun z => by rw [List.mem_singleton.mp z]; exact g, by rw [List.map_append]; exact nd_snoc h.nd n⟩
theorem LsOk.snoc {m : Nat} {cs : List Lk} (h : LsOk m cs) {c : Lk} (g : GW c.nm ∧ c.fr < m ∧ c.to < m ∧ c.fr ≠ c.to ∧ KsOk "link" c.ks) (n : c.nm ∉ cs.map Lk.nm) : LsOk m (cs ++ [c]) := ⟨fun x hx => (List.mem_append.mp hx).elim (h.ok x) fun z => by rw [List.mem_singleton.mp z]; exact g, by rw [List.map_append]; exact nd_snoc h.nd n⟩
theorem SsOk.snoc {m : Nat} {cs : List Sr} (h : SsOk m cs) {c : Sr} (g : GW c.nm ∧ c.dev < m ∧ KsOk "source" c.ks) (n : c.nm ∉ cs.map Sr.nm) : SsOk m (cs ++ [c]) := ⟨fun x hx => (List.mem_append.mp hx).elim (h.ok x) fun z => by rw [List.mem_singleton.mp z]; exact g, by rw [List.map_append]; exact nd_snoc h.nd n⟩
/-- a frame as the laws draw it -/
structure Fd where
  ds : List Str
  cs : List Ck
  ls : List Lk
  ss : List Sr
  ft : Nat
structure FdOk (f : Fd) : Prop where
  d1 : 1 ≤ f.ds.length
  d6 : f.ds.length ≤ 6
  d : DsOk f.ds
  c : CsOk f.ds.length f.cs
  l : LsOk f.ds.length f.ls
  s : SsOk f.ds.length f.ss
  back : ∀ x ∈ f.ls, ∃ y ∈ f.ls, y.fr = x.to ∧ y.to = x.fr
  p1 : 1 ≤ f.cs.length + f.ls.length + f.ss.length
  p9 : f.cs.length + f.ls.length + f.ss.length ≤ 9
  f2 : f.ft ≤ 2
  fp : f.ft < f.cs.length + f.ls.length + f.ss.length
/-- the lists of a frame in the store -/
structure FdAt (st : S) (f : Fd) (d c l s : Nat) : Prop where
  ed : st[d]? = some (.lst (f.ds.map D.str))
  ec : st[c]? = some (.lst (f.cs.map ckD))
  el : st[l]? = some (.lst (f.ls.map lkD))
  es : st[s]? = some (.lst (f.ss.map srD))
theorem FdAt.fr0 {st st' : S} {f : Fd} {d c l s : Nat} (h : FdAt st f d c l s) (g : Fr FN st st') : FdAt st' f d c l s := ⟨g.at0 h.ed, g.at0 h.ec, g.at0 h.el, g.at0 h.es⟩
theorem names_lt {α : Type} {l : List α} {g : α → Str} {k : Nat} (h : l.length ≤ k) : (l.map g).length ≤ k := by rw [List.length_map]; exact h
/-- a word, an empty list made ahead of it -/
theorem word0_ok {st : S} {a i n u : Nat} {j : Int} {U : List Str} {Q : D → S → Prop} (h : Rows st a n) (hj : j = (i : Int)) (hi : i < n) (hu : st[u]? = some (.lst (U.map D.str))) (ua : u ≠ a)
    (q : ∀ w st', Rf st st' a n → GW w → (U.length ≤ 9 → w ∉ U) → Q (.str w) st') : Ok (dn_llaw_word [.ref a, .int j, .ref u, .ref st.length] (st ++ [.lst []])) Q :=
  word_ok (Pl := []) (h.fr (Fr.push (F := FN) _ _) fun z => z) hj hi ((Fr.push (F := FN) _ _).at0 hu) (fr_at _ _) (fun _ z => nomatch z) (by simp) ua (by have := h.lt; omega) fun w st' f g nw => q w st' ((Rf.push h _).trans f) g nw
/-- the names ahead, then a word that is none of them -/
theorem fresh_ok {α : Type} {g : α → D} {nm : α → Str} {xs : List α} {st : S} {a n L p i b : Nat} {j : Int} {en : En} {Pl : List Str} {R : D → S → Prop} (h : Rows st a n) (hj : j = (i : Int)) (hi : i < n) (hL : st[L]? = some (.lst (xs.map g))) (hg : ∀ x, ∃ r, g x = .tup (.str (nm x) :: r)) (hz : xs.length ≤ 9) (hb : b < en.length) (hp : st[p]? = some (.lst (Pl.map D.str))) (gp : ∀ w ∈ Pl, GW w) (lp : Pl.length ≤ 1000) (pa : p ≠ a)
    (q : ∀ w st', Rf st st' a n → GW w → w ∉ xs.map nm → R (.str w) st') :
    Ok (lcD ⟨xs.map g, [(L, xs.map g)]⟩ (bName b) cYes (dO2 dIx (dVar b) (dC (.int 0))) en (xs.map g) [] st) fun acc st2 => Ok (dn_llaw_word [.ref a, .int j, .ref st2.length, .ref p] (st2 ++ [.lst acc])) R := by
  refine heads_ok (nm := nm) hL hg (by omega) hb ?_
  have f1 := Rf.push h (.lst ((xs.map nm).map D.str))
  have := h.lt
  exact word_ok f1.rows hj hi (fr_at _ _) (f1.at1 hp pa) gp lp (by omega) pa fun w st' f gw nw => q w st' (f1.trans f) gw (nw (by rw [List.length_map]; exact hz))

/-- the lists of _law_parts while it makes them -/
structure PIv (st st' : S) (a n m d r C : Nat) (ds : List Str) (rs : List D) (cs : List Ck) (ls : List Lk) (ss : List Sr) : Prop where
  f : Rf st st' a n
  ed : st'[d]? = some (.lst (ds.map D.str))
  er : st'[r]? = some (.lst rs)
  ec : st'[C]? = some (.lst (cs.map ckD))
  el : st'[C + 1]? = some (.lst (ls.map lkD))
  es : st'[C + 2]? = some (.lst (ss.map srD))
  ad : a < st.length
  sd : st.length ≤ d
  dc : d < C
  ar : st.length ≤ r
  rc : r < C
  lm : ds.length = m
  m6 : m ≤ 6
  dok : DsOk ds
  cok : CsOk m cs
  lok : LsOk m ls
  sok : SsOk m ss
section
variable {st st' st'' : S} {a n m d r C : Nat} {ds : List Str} {rs : List D} {cs : List Ck} {ls : List Lk} {ss : List Sr}
theorem PIv.rf (h : PIv st st' a n m d r C ds rs cs ls ss) (g : Rf st' st'' a n) : PIv st st'' a n m d r C ds rs cs ls ss := by
  obtain ⟨x1, x2, x3, x4, x5, x6, x7, x8, x9, x10, x11, x12, x13, x14, x15, x16, x17⟩ := h
  exact ⟨x1.trans g, g.at1 x2 (by omega), g.at1 x3 (by omega), g.at1 x4 (by omega), g.at1 x5 (by omega), g.at1 x6 (by omega), x7, x8, x9, x10, x11, x12, x13, x14, x15, x16, x17⟩
theorem rf_set {k : Nat} {o : O} (h : Rf st st' a n) (hk : st.length ≤ k) (ha : a < st.length) : Rf st (st'.set k o) a n := ⟨h.fr.set (.inr hk), h.rows.fr ((Fr.refl (F := fun b => b = k) _).set (.inl rfl)) (by omega)⟩
theorem PIv.addC (h : PIv st st' a n m d r C ds rs cs ls ss) {x : Ck} (g : GW x.nm ∧ x.dev < m ∧ KsOk "clock" x.ks) (nx : x.nm ∉ cs.map Ck.nm) : PIv st (st'.set C (.lst (cs.map ckD ++ [ckD x]))) a n m d r C ds rs (cs ++ [x]) ls ss := by
  obtain ⟨x1, x2, x3, x4, x5, x6, x7, x8, x9, x10, x11, x12, x13, x14, x15, x16, x17⟩ := h
  exact ⟨rf_set x1 (by omega) x7, st_ot x2 (by omega), st_ot x3 (by omega), by rw [st_at x4, List.map_append]; rfl, st_ot x5 (by omega), st_ot x6 (by omega), x7, x8, x9, x10, x11, x12, x13, x14, x15.snoc g nx, x16, x17⟩
theorem PIv.addL (h : PIv st st' a n m d r C ds rs cs ls ss) {x : Lk} (g : GW x.nm ∧ x.fr < m ∧ x.to < m ∧ x.fr ≠ x.to ∧ KsOk "link" x.ks) (nx : x.nm ∉ ls.map Lk.nm) : PIv st (st'.set (C + 1) (.lst (ls.map lkD ++ [lkD x]))) a n m d r C ds rs cs (ls ++ [x]) ss := by
  obtain ⟨x1, x2, x3, x4, x5, x6, x7, x8, x9, x10, x11, x12, x13, x14, x15, x16, x17⟩ := h
  exact ⟨rf_set x1 (by omega) x7, st_ot x2 (by omega), st_ot x3 (by omega), st_ot x4 (by omega), by rw [st_at x5, List.map_append]; rfl, st_ot x6 (by omega), x7, x8, x9, x10, x11, x12, x13, x14, x15, x16.snoc g nx, x17⟩
theorem PIv.addS (h : PIv st st' a n m d r C ds rs cs ls ss) {x : Sr} (g : GW x.nm ∧ x.dev < m ∧ KsOk "source" x.ks) (nx : x.nm ∉ ss.map Sr.nm) : PIv st (st'.set (C + 2) (.lst (ss.map srD ++ [srD x]))) a n m d r C ds rs cs ls (ss ++ [x]) := by
  obtain ⟨x1, x2, x3, x4, x5, x6, x7, x8, x9, x10, x11, x12, x13, x14, x15, x16, x17⟩ := h
  exact ⟨rf_set x1 (by omega) x7, st_ot x2 (by omega), st_ot x3 (by omega), st_ot x4 (by omega), st_ot x5 (by omega), by rw [st_at x6, List.map_append]; rfl, x7, x8, x9, x10, x11, x12, x13, x14, x15, x16, x17.snoc g nx⟩
end
theorem parts_ok {st : S} {a n : Nat} {Q : D → S → Prop} (h : Rows st a n) (hn : 26 ≤ n)
    (q : ∀ f d c l s st', Rf st st' a n → FdOk f → FdAt st' f d c l s → st.length ≤ d → d < c → c < l → l < s → s < st'.length → Q (.tup [.ref d, .ref c, .ref l, .ref s, .int (f.ft : Nat)]) st') : Ok (dn_llaw_parts [.ref a] st) Q := by
  have ha := h.lt
  unfold dn_llaw_parts b_llaw_parts
  rw [ok_def]
  refine ⟨rfl, ?_⟩
  try wide_open using []
  refine tk (i := 0) h rfl (by omega) (by decide) (by decide) fun m st1 m0 m1 d1 => ?_
  obtain ⟨m, hm⟩ : ∃ k : Nat, 1 + m = (k : Int) := ⟨(1 + m).toNat, by omega⟩
  wide_open using [hm]
  have f2 := d1.rf.trans (Rf.push d1.rows (.lst []))
  have e2 := fr_at st1 (.lst [])
  have l1 := d1.len
  generalize st1 ++ [O.lst []] = st2 at f2 e2 ⊢
  refine ⟨by omega, by omega, ?_⟩
  have hm1 : 1 ≤ m := by omega
  have hm6 : m ≤ 6 := by omega
  clear d1
  refine ok_forN (fun k en st' => (∃ a3, en = [some (.ref a), some (.int (m : Nat)), some (.ref st1.length), a3, none, none, none, none, none, none, none, none, none, none, none, none]) ∧ Rf st st' a n ∧ ∃ ds : List Str, st'[st1.length]? = some (.lst (ds.map D.str)) ∧ ds.length = k ∧ DsOk ds)
    ⟨⟨_, rfl⟩, f2, [], e2, rfl, fun _ z => (nomatch z), List.nodup_nil⟩ ?_ ?_
  · rintro k en s1 hk ⟨⟨a3, rfl⟩, f, ds, ed, ld, dok⟩
    wide_open using [ed]
    refine word0_ok (i := 1 + k) f.rows (by omega) (by omega) ed (by omega) fun w s2 f2 gw nw => ?_
    have f3 := f.trans f2
    have ed2 := f2.at1 ed (by omega)
    wide_open using [ed2]
    refine ⟨by rw [List.length_map]; exact sml' (by omega), ⟨f3.fr.set (.inr (by omega)), f3.rows.fr ((Fr.refl (F := fun b => b = st1.length) _).set (.inl rfl)) (by omega)⟩, ds ++ [w], ?_, by simp [ld], fun x hx => ?_, nd_snoc dok.nd (nw (by omega))⟩
    · rw [st_at ed2, List.map_append]; rfl
    · rcases List.mem_append.mp hx with z | z
      · exact dok.gw x z
      · rw [List.mem_singleton.mp z]; exact gw
  rintro en st3 ⟨⟨a3, rfl⟩, f3, ds, ed3, ld, dok⟩
  wide_open using []
  refine counts_ok f3.rows (by omega) fun c l s r st4 f4 lr ct => ?_
  have f4' := f3.trans f4
  have ed4 := f4.at1 ed3 (by omega)
  have lst1 := lt_at ed3
  try wide_open using []
  have g5 := f4'.trans (Rf.push f4'.rows (.lst []))
  have g6 := g5.trans (Rf.push g5.rows (.lst []))
  have g7 := g6.trans (Rf.push g6.rows (.lst []))
  have x5 := fr_at st4 (.lst [])
  have x6 := fr_at (st4 ++ [O.lst []]) (.lst [])
  have x7 := fr_at (st4 ++ [O.lst []] ++ [O.lst []]) (.lst [])
  have l5 : (st4 ++ [O.lst []]).length = st4.length + 1 := by simp
  have l6 : (st4 ++ [O.lst []] ++ [O.lst []]).length = st4.length + 2 := by simp
  have w6 := Fr.push (F := FN) (st4 ++ [O.lst []]) (.lst [])
  have w7 := Fr.push (F := FN) (st4 ++ [O.lst []] ++ [O.lst []]) (.lst [])
  have y5 := w7.at0 (w6.at0 x5)
  have y6 := w7.at0 x6
  have yd := w7.at0 (w6.at0 ((Fr.push (F := FN) st4 (.lst [])).at0 ed4))
  have yr := w7.at0 (w6.at0 ((Fr.push (F := FN) st4 (.lst [])).at0 ct.at_))
  rw [l5] at x6 y6
  rw [l6] at x7
  rw [l5, l6]
  have l7 : (st4 ++ [O.lst []] ++ [O.lst []] ++ [O.lst []]).length = st4.length + 3 := by simp
  generalize st4 ++ [O.lst []] ++ [O.lst []] ++ [O.lst []] = st7 at g7 x7 y5 y6 yd yr l7 ⊢
  have lr4 := lt_at ct.at_
  have lm := ct.many
  have l3 := f3.fr.len
  wide_open using [yr]
  refine ⟨by omega, by omega, ?_⟩
  have P7 : PIv st st7 a n m st1.length r st4.length ds [.int (c : Nat), .int (l : Nat), .int (s : Nat)] [] [] [] := ⟨g7, yd, yr, y5, y6, x7, ha, by omega, by omega, by omega, by omega, ld, hm6, dok, ⟨fun _ z => (nomatch z), List.nodup_nil⟩, ⟨fun _ z => (nomatch z), List.nodup_nil⟩, ⟨fun _ z => (nomatch z), List.nodup_nil⟩⟩
  have lone := ct.lone
  have one := ct.one
  clear g5 g6 g7 x5 x6 x7 y5 y6 yd yr w6 w7 l5 l6 ed4 ed3 f4' f4 f3 f2 e2 ct
  refine ok_forN (fun k en st' => (∃ a3 a10 a11, en = [some (.ref a), some (.int (m : Nat)), some (.ref st1.length), a3, some (.ref r), some (.ref st4.length), some (.ref (st4.length + 1)), some (.ref (st4.length + 2)), some (.int ((7 + k : Nat) : Int)), none, a10, a11, none, none, none, none]) ∧ ∃ cs, PIv st st' a n m st1.length r st4.length ds [.int (c : Nat), .int (l : Nat), .int (s : Nat)] cs [] [] ∧ cs.length = k)
    ⟨⟨_, _, _, rfl⟩, [], P7, rfl⟩ ?_ ?_
  · rintro k en s1 hk ⟨⟨a3, a10, a11, rfl⟩, cs, P, lc⟩
    wide_open using [P.ec]
    refine fresh_ok (nm := Ck.nm) (i := 7 + k) P.f.rows rfl (by omega) P.ec ckD_head (by omega) (by show 13 < 16; decide) P.ed dok.gw (by omega) (by omega) fun w s2 f2 gw nw => ?_
    have P := P.rf f2
    try wide_open using []
    refine tk (i := 7 + k) P.f.rows rfl (by omega) (by decide) (by decide) fun g s3 g0 g1 d3 => ?_
    have P := P.rf d3.rf
    try wide_open using [P.ec]
    refine tk (i := 7 + k) P.f.rows rfl (by omega) (by omega) (log_lt (k := 20) (by omega) (by decide) (by decide)) fun x s4 x0 x1 d4 => ?_
    obtain ⟨x, rfl⟩ : ∃ k : Nat, x = (k : Int) := ⟨x.toNat, by omega⟩
    have P := P.rf d4.rf
    try wide_open using [P.ec]
    refine kinds_ok (i := 7 + k + 9) P.f.rows (by omega) (by omega) (.inl rfl) fun ks s5 f5 kok => ?_
    have P := P.rf f5
    have e8 : (((7 + k : Nat) : Int) + 1) = ((7 + (k + 1) : Nat) : Int) := by omega
    wide_open using [P.ec, e8]
    refine ⟨by decide, by rw [List.length_map]; exact sml' (by omega), cs ++ [Ck.mk w x _ ks], P.addC (x := Ck.mk w x _ ks) ⟨gw, (by omega : x < m), kok⟩ nw, by simp [lc]⟩
  rintro en st8 ⟨⟨a3, a10, a11, rfl⟩, cs, P8, lc⟩
  rw [sq_nx]
  refine ok_mid (P := fun p st' => (∃ a3 a10 a11 a12, p = (.nx, [some (.ref a), some (.int (m : Nat)), some (.ref st1.length), a3, some (.ref r), some (.ref st4.length), some (.ref (st4.length + 1)), some (.ref (st4.length + 2)), some (.int ((7 + c + 2 * l : Nat) : Int)), none, a10, a11, a12, none, none, none])) ∧ ∃ ls, PIv st st' a n m st1.length r st4.length ds [.int (c : Nat), .int (l : Nat), .int (s : Nat)] cs ls [] ∧ ls.length = 2 * l ∧ ∀ x ∈ ls, ∃ y ∈ ls, y.fr = x.to ∧ y.to = x.fr) ?_ ?_
  · by_cases h0 : (l : Int) > 0
    · wide_open using [P8.er, h0]
      refine ways_ok P8.f.rows (by omega) (by
        by_cases e : m = 1
        · have := lone e; omega
        · omega) (by omega) (by omega) fun ws wr st9 f9 wl we wlen wok => ?_
      have P9 := P8.rf f9
      have l89 : wr < st9.length := lt_at we
      wide_open using [we]
      refine ok_loop0 (fun k en st' => (∃ a10 a11 a12, en = [some (.ref a), some (.int (m : Nat)), some (.ref st1.length), a3, some (.ref r), some (.ref st4.length), some (.ref (st4.length + 1)), some (.ref (st4.length + 2)), some (.int ((7 + c + k : Nat) : Int)), none, a10, a11, a12, none, none, none]) ∧ st'[wr]? = some (.lst (ws.map wyD)) ∧ ∃ ls, PIv st st' a n m st1.length r st4.length ds [.int (c : Nat), .int (l : Nat), .int (s : Nat)] cs ls [] ∧ ls.length = k ∧ ls.map (fun x => (x.fr, x.to)) = ws.take k)
        ⟨⟨_, _, _, rfl⟩, we, [], P9, rfl, rfl⟩ (fun i en st' ⟨_, h, _⟩ => wk1 h) ?_ ?_
      · rintro k x en s1 hx ⟨⟨a10, a11, a12, rfl⟩, we, ls, P, ll, lw⟩
        have hx : (ws.map wyD)[k]? = some x := hx
        rw [List.getElem?_map, Option.map_eq_some_iff] at hx
        obtain ⟨p, hp, rfl⟩ := hx
        have hk := (List.getElem?_eq_some_iff.mp hp).1
        obtain ⟨p1, p2, p3⟩ := wok.ne p (List.mem_of_getElem? hp)
        refine ⟨_, rfl, ?_⟩
        have l8 := P8.f.fr.len
        have lwr : st4.length + 2 < wr := by have := lt_at P8.es; omega
        have wa : wr ≠ a := by omega
        wide_open using [P.el, wyD]
        refine fresh_ok (nm := Lk.nm) (i := 7 + c + k) P.f.rows rfl (by omega) P.el lkD_head (by omega) (by show 15 < 16; decide) P.ed dok.gw (by omega) (by omega) fun w s2 f2 gw nw => ?_
        have P := P.rf f2
        have we := f2.at1 we wa
        try wide_open using [P.el]
        refine kinds_ok (i := 7 + c + k + 9) P.f.rows (by omega) (by omega) (.inr (.inl rfl)) fun ks s5 f5 kok => ?_
        have P := P.rf f5
        have we := f5.at1 we wa
        have e8 : (((7 + c + k : Nat) : Int) + 1) = ((7 + c + (k + 1) : Nat) : Int) := by omega
        wide_open using [P.el, e8]
        refine ⟨by decide, by rw [List.length_map]; exact sml' (by omega), st_ot we (by omega), ls ++ [Lk.mk w p.1 p.2 ks], P.addL (x := Lk.mk w p.1 p.2 ks) ⟨gw, p2, p3, p1, kok⟩ nw, by simp [ll], ?_⟩
        rw [mem_split hp, List.map_append, lw]; rfl
      · rintro en st' ⟨⟨a10, a11, a12, rfl⟩, we, ls, P, ll, lw⟩
        have e : (({ items := ws.map wyD, src := [(wr, ws.map wyD)] } : Wk)).items.length = 2 * l := by show (ws.map wyD).length = _; rw [List.length_map, wlen]
        rw [e] at ll lw ⊢
        rw [List.take_of_length_le (by omega)] at lw
        refine ⟨⟨_, _, _, _, rfl⟩, ls, P, ll, fun x hx => ?_⟩
        have h1 : (x.fr, x.to) ∈ ws := by rw [← lw]; exact List.mem_map_of_mem (f := fun x : Lk => (x.fr, x.to)) hx
        have h2 := wok.back _ h1
        rw [← lw] at h2
        obtain ⟨y, hy, e⟩ := List.mem_map.mp h2
        exact ⟨y, hy, congrArg Prod.fst e, congrArg Prod.snd e⟩
    · wide_open using [P8.er, h0]
      have e : 7 + c + 2 * l = 7 + c := by omega
      rw [e]
      exact ⟨⟨_, _, _, _, rfl⟩, [], P8, by simp; omega, fun _ z => nomatch z⟩
  rintro _ st10 ⟨⟨a3', a10', a11', a12', rfl⟩, ls, P10, ll, back⟩
  wide_open using [P10.er]
  refine ⟨by omega, by omega, ?_⟩
  refine ok_forN (fun k en st' => (∃ a3 a10, en = [some (.ref a), some (.int (m : Nat)), some (.ref st1.length), a3, some (.ref r), some (.ref st4.length), some (.ref (st4.length + 1)), some (.ref (st4.length + 2)), some (.int ((7 + c + 2 * l + k : Nat) : Int)), none, a10, a11', a12', none, none, none]) ∧ ∃ ss, PIv st st' a n m st1.length r st4.length ds [.int (c : Nat), .int (l : Nat), .int (s : Nat)] cs ls ss ∧ ss.length = k)
    ⟨⟨_, _, rfl⟩, [], P10, rfl⟩ ?_ ?_
  · rintro k en s1 hk ⟨⟨a3, a10, rfl⟩, ss, P, lc⟩
    wide_open using [P.es]
    refine fresh_ok (nm := Sr.nm) (i := 7 + c + 2 * l + k) P.f.rows rfl (by omega) P.es srD_head (by omega) (by show 14 < 16; decide) P.ed dok.gw (by omega) (by omega) fun w s2 f2 gw nw => ?_
    have P := P.rf f2
    try wide_open using [P.es]
    refine tk (i := 7 + c + 2 * l + k) P.f.rows rfl (by omega) (by omega) (log_lt (k := 20) (by omega) (by decide) (by decide)) fun x s4 x0 x1 d4 => ?_
    obtain ⟨x, rfl⟩ : ∃ k : Nat, x = (k : Int) := ⟨x.toNat, by omega⟩
    have P := P.rf d4.rf
    try wide_open using [P.es]
    refine kinds_ok (i := 7 + c + 2 * l + k + 9) P.f.rows (by omega) (by omega) (.inr (.inr rfl)) fun ks s5 f5 kok => ?_
    have P := P.rf f5
    have e8 : (((7 + c + 2 * l + k : Nat) : Int) + 1) = ((7 + c + 2 * l + (k + 1) : Nat) : Int) := by omega
    wide_open using [P.es, e8]
    refine ⟨by decide, by rw [List.length_map]; exact sml' (by omega), ss ++ [Sr.mk w x ks], P.addS (x := Sr.mk w x ks) ⟨gw, (by omega : x < m), kok⟩ nw, by simp [lc]⟩
  rintro en st11 ⟨⟨a3, a10, rfl⟩, ss, P11, ls11⟩
  wide_open using []
  refine tk (i := 0) P11.f.rows rfl (by omega) (by decide) (by decide) fun ft st12 t0 t1 d12 => ?_
  have P := P11.rf d12.rf
  have hlc : (cs.map ckD).length = c := by rw [List.length_map, lc]
  have hll : (ls.map lkD).length = 2 * l := by rw [List.length_map, ll]
  have hls : (ss.map srD).length = s := by rw [List.length_map, ls11]
  wide_open using [P.ec, P.el, P.es, hlc, hll, hls, v_min2]
  obtain ⟨t, ht, t2, tp⟩ : ∃ t : Nat, (if (c : Int) + ((2 * l : Nat) : Int) + (s : Int) - 1 < ft then (c : Int) + ((2 * l : Nat) : Int) + (s : Int) - 1 else ft) = (t : Int) ∧ t ≤ 2 ∧ t < c + 2 * l + s := by
    split
    · exact ⟨c + 2 * l + s - 1, by omega, by omega, by omega⟩
    · exact ⟨ft.toNat, by omega, by omega, by omega⟩
  rw [ht]
  refine ⟨by decide, q ⟨ds, cs, ls, ss, t⟩ _ _ _ _ _ P.f ⟨by rw [ld]; exact hm1, by rw [ld]; exact hm6, dok, by rw [ld]; exact P.cok, by rw [ld]; exact P.lok, by rw [ld]; exact P.sok, back, ?_, ?_, t2, ?_⟩ ⟨P.ed, P.ec, P.el, P.es⟩ (by omega) (by omega) (by omega) (by omega) (lt_at P.es)⟩
  · simp only [lc, ll, ls11]; omega
  · simp only [lc, ll, ls11]; omega
  · simp only [lc, ll, ls11]; omega

/-! ### the Frame -/
abbrev frmO (a b c d : Nat) (z : D) : O := .ins "Frame" [("devices", .ref a), ("clocks", .ref b), ("links", .ref c), ("sources", .ref d), ("faults", z)]
structure Fm (st : S) (n : Nat) (dv ck lk sc : List D) (z : D) (N : Nat → Prop) : Prop where
  ex : ∃ a b c d, st[n]? = some (frmO a b c d z) ∧ st[a]? = some (.lst dv) ∧ st[b]? = some (.lst ck) ∧ st[c]? = some (.lst lk) ∧ st[d]? = some (.lst sc) ∧ N n ∧ N a ∧ N b ∧ N c ∧ N d
theorem Fm.fr {st st' : S} {n : Nat} {dv ck lk sc : List D} {z : D} {N F : Nat → Prop} (h : Fm st n dv ck lk sc z N) (f : Fr F st st') (hN : ∀ b, N b → ¬ F b) : Fm st' n dv ck lk sc z N := by
  obtain ⟨a, b, c, d, h0, h1, h2, h3, h4, n0, n1, n2, n3, n4⟩ := h
  exact ⟨a, b, c, d, f.at_ h0 (hN _ n0), f.at_ h1 (hN _ n1), f.at_ h2 (hN _ n2), f.at_ h3 (hN _ n3), f.at_ h4 (hN _ n4), n0, n1, n2, n3, n4⟩
theorem Fm.fr0 {st st' : S} {n : Nat} {dv ck lk sc : List D} {z : D} {N : Nat → Prop} (h : Fm st n dv ck lk sc z N) (f : Fr FN st st') : Fm st' n dv ck lk sc z N := h.fr f fun _ _ z => z
theorem init1 {st : S} {n a j : Nat} {fs : List (Str × D)} {f : Str} {l : List D} {en : En} {V : Fl × En → S → Prop} (hn : st[n]? = some (.ins "Frame" fs)) (hl : fs.length < 1000) (e0 : en[0]? = some (some (.ref n))) (ej : en[j]? = some (some (.ref a)))
    (ha : st[a]? = some (.lst l)) (q : ∀ st', st'.length = st.length + 1 → st'[n]? = some (.ins "Frame" (putD f (.ref st.length) fs)) → st'[st.length]? = some (.lst l) → Fr (fun b => b = n) st st' → V (.nx, en) st') :
    Ok (sFldS ["Frame"] f (dVar 0) (dON dList (dCons (dVar j) dNil)) en st) V := by
  have hlt := lt_at hn
  have h1 := (Fr.push (F := FN) st (.lst l)).at0 hn
  wide_open using [e0, ej, ha, h1]
  refine ⟨hl, q _ (by simp) (st_at h1) (st_ot (fr_at st (.lst l)) (by omega)) ((Fr.push _ _).set (.inl rfl))⟩
theorem frame_mk {st : S} {a b c d : Nat} {z : D} {dv ck lk sc : List D} {Q : D → S → Prop} (ha : st[a]? = some (.lst dv)) (hb : st[b]? = some (.lst ck)) (hc : st[c]? = some (.lst lk)) (hd : st[d]? = some (.lst sc))
    (q : ∀ st', Fr FN st st' → Fm st' st.length dv ck lk sc z (fun x => st.length ≤ x ∧ x < st'.length) → Q .non st') : Ok (dn_Frame_init [.ref st.length, .ref a, .ref b, .ref c, .ref d, z] (st ++ [.ins "Frame" []])) Q := by
  have la := lt_at ha
  have lb := lt_at hb
  have lc := lt_at hc
  have ld := lt_at hd
  have hn : (st ++ [O.ins "Frame" []])[st.length]? = some (.ins "Frame" []) := fr_at _ _
  have f0 : Fr FN st (st ++ [.ins "Frame" []]) := .push _ _
  have l0 : (st ++ [O.ins "Frame" []]).length = st.length + 1 := by simp
  generalize st ++ [O.ins "Frame" []] = s0 at hn f0 l0 ⊢
  unfold dn_Frame_init b_Frame_init
  rw [ok_def]
  refine ⟨rfl, ?_⟩
  rw [ok_seq]
  refine init1 hn (by decide) rfl rfl (f0.at0 ha) fun s1 l1 n1 t1 o1 => ?_
  rw [sq_nx, ok_seq]
  refine init1 n1 (show (1 : Nat) < 1000 from by decide) rfl rfl (o1.at_ (f0.at0 hb) (by omega)) fun s2 l2 n2 t2 o2 => ?_
  have o12 := o1.trans o2
  rw [sq_nx, ok_seq]
  refine init1 n2 (show (2 : Nat) < 1000 from by decide) rfl rfl (o12.at_ (f0.at0 hc) (by omega)) fun s3 l3 n3 t3 o3 => ?_
  have o13 := o12.trans o3
  rw [sq_nx, ok_seq]
  refine init1 n3 (show (3 : Nat) < 1000 from by decide) rfl rfl (o13.at_ (f0.at0 hd) (by omega)) fun s4 l4 n4 t4 o4 => ?_
  have o14 := o13.trans o4
  rw [sq_nx]
  wide_open using [n4]
  refine ⟨(show (4 : Nat) < 1000 from by decide), q _ ((f0.trans' o14 fun b hb => .inr (by omega)).set (.inr (Nat.le_refl _))) ⟨s0.length, s1.length, s2.length, s3.length, st_at n4, ?_, ?_, ?_, st_ot t4 (by omega), ?_, ?_, ?_, ?_, ?_⟩⟩
  · exact st_ot (((o2.trans o3).trans o4).at_ t1 (by omega)) (by omega)
  · exact st_ot ((o3.trans o4).at_ t2 (by omega)) (by omega)
  · exact st_ot (o4.at_ t3 (by omega)) (by omega)
  all_goals (rw [List.length_set]; omega)
section
variable {a b c d e : D}
theorem lf_dev : List.lookup ("devices" : Str) [("devices", a), ("clocks", b), ("links", c), ("sources", d), ("faults", e)] = some a := rfl
theorem lf_clk : List.lookup ("clocks" : Str) [("devices", a), ("clocks", b), ("links", c), ("sources", d), ("faults", e)] = some b := rfl
theorem lf_lnk : List.lookup ("links" : Str) [("devices", a), ("clocks", b), ("links", c), ("sources", d), ("faults", e)] = some c := rfl
theorem lf_src : List.lookup ("sources" : Str) [("devices", a), ("clocks", b), ("links", c), ("sources", d), ("faults", e)] = some d := rfl
end
theorem fm_cg {α β : Type} {f g : α → Option β} : ∀ {l : List α}, (∀ x ∈ l, f x = g x) → l.filterMap f = l.filterMap g
  | [], _ => rfl
  | x :: l, h => by
    rw [List.filterMap_cons, List.filterMap_cons, h x List.mem_cons_self, fm_cg fun y hy => h y (List.mem_cons_of_mem _ hy)]

-- CUT
open TL
/-! k02: written forms -/
/-! ### the written form of a frame, as pure rows -/
theorem gw_str {w : Str} (h : GW w) : PyData.strOk w = true := by
  unfold PyData.strOk
  rw [← Array.all_toList, List.all_eq_true]
  intro c hc
  rcases h.2.2 c hc with z | z <;> simp <;> omega
theorem app_len (x y : Str) : (x ++ y).length = x.length + y.length := by rw [str_len, str_len x, str_len y, TL.tl_append, List.length_append]
theorem str_ext {x y : Str} (h : tl x = tl y) : x = y := by
  obtain ⟨a⟩ := x
  obtain ⟨b⟩ := y
  exact congrArg Str.mk (Array.toList_inj.mp h)
theorem app_nil (x : Str) : x ++ (Str.ofString "") = x := str_ext (by rw [TL.tl_append]; exact List.append_nil _)
def nmS (i : Int) : Str := Str.ofString (toString i)
theorem nmS_len {i : Int} (h : 0 ≤ i) (h2 : i ≤ 999999999999) : (nmS i).length ≤ 13 := by
  unfold nmS
  rw [ofString_length]
  exact int_text_length_le10 (k := 12) (by decide) (by omega)
theorem v_nmS {st : S} {i : Int} {Q : D → S → Prop} (h : 0 ≤ i) (h2 : i ≤ 999999999999) : Ok (dStr [.int i] st) Q ↔ Q (.str (nmS i)) st := by
  rw [v_str]
  exact ⟨fun z => z.2, fun z => ⟨Nat.lt_of_lt_of_le (PySem.Flt.log2_lt_of (k := 40) (by decide) (by omega)) (by decide), z⟩⟩
def hiS : Option Int → Str
  | none => "none"
  | some h => nmS h
def kindR (k : Kd) : Str := "kind " ++ k.nm ++ " " ++ nmS k.lo ++ " " ++ hiS k.hi
def nmD (f : Fd) (i : Nat) : Str := (f.ds[i]?).getD ""
def devR (w : Str) : Str := "device " ++ w
def tailS (b : Bool) : Str := if b then " goes on asleep" else ""
def clockR (f : Fd) (c : Ck) : Str := "clock " ++ c.nm ++ " of " ++ nmD f c.dev ++ tailS c.on
def linkR (f : Fd) (c : Lk) : Str := "link " ++ c.nm ++ " from " ++ nmD f c.fr ++ " to " ++ nmD f c.to
def srcR (f : Fd) (c : Sr) : Str := "source " ++ c.nm ++ " at " ++ nmD f c.dev
def clockB (f : Fd) (c : Ck) : List Str := clockR f c :: c.ks.map kindR
def linkB (f : Fd) (c : Lk) : List Str := linkR f c :: c.ks.map kindR
def srcB (f : Fd) (c : Sr) : List Str := srcR f c :: c.ks.map kindR
def fltR (f : Fd) : List Str := if 0 < f.ft then ["faults " ++ nmS (f.ft : Nat)] else []
def blksF (f : Fd) : List (List Str) := f.cs.map (clockB f) ++ f.ls.map (linkB f) ++ f.ss.map (srcB f)
def linesF (f : Fd) : List Str := f.ds.map devR ++ (blksF f).flatten ++ fltR f
def nlS (w : Str) : Str := w ++ "\n"
def textF (L : List Str) : Str := Txt.join "" (L.map nlS)
theorem l5 : (Str.ofString "kind ").length = 5 := by decide +kernel
theorem l1 : (Str.ofString " ").length = 1 := by decide +kernel
theorem l4n : (Str.ofString "none").length = 4 := by decide +kernel
theorem l7d : (Str.ofString "device ").length = 7 := by decide +kernel
theorem l15 : (Str.ofString " goes on asleep").length = 15 := by decide +kernel
theorem l0 : (Str.ofString "").length = 0 := by decide +kernel
theorem l6c : (Str.ofString "clock ").length = 6 := by decide +kernel
theorem l4o : (Str.ofString " of ").length = 4 := by decide +kernel
theorem l5l : (Str.ofString "link ").length = 5 := by decide +kernel
theorem l6f : (Str.ofString " from ").length = 6 := by decide +kernel
theorem l4t : (Str.ofString " to ").length = 4 := by decide +kernel
theorem l7s : (Str.ofString "source ").length = 7 := by decide +kernel
theorem l4a : (Str.ofString " at ").length = 4 := by decide +kernel
theorem l7f : (Str.ofString "faults ").length = 7 := by decide +kernel
theorem l1n : (Str.ofString "\n").length = 1 := by decide +kernel
theorem sz24 : sizeLine = 16777216 := by decide
local macro_rules | `(tactic| walk_at "ln") => `(tactic| (simp only [app_len, l5, l1, l4n, l7d, l15, l0, l6c, l4o, l5l, l6f, l4t, l7s, l4a, l7f, l1n, sz24]; omega))
theorem nmD_at {f : Fd} {i : Nat} (h : i < f.ds.length) : atI (f.ds.map D.str) (i : Int) = some (.str (nmD f i)) := by
  have hx := List.getElem?_eq_getElem h
  unfold nmD
  rw [hx]
  exact atI_map hx
theorem nmD_gw {f : Fd} (ok : FdOk f) {i : Nat} (h : i < f.ds.length) : GW (nmD f i) := by
  have hx := List.getElem?_eq_getElem h
  unfold nmD
  rw [hx]
  exact ok.d.gw _ (List.getElem_mem h)
theorem hiS_len {sort : Str} {k : Kd} (h : KdOk sort k) : (hiS k.hi).length ≤ 13 := by
  cases e : k.hi with
  | none => unfold hiS; rw [l4n]; decide
  | some v =>
    have := h.hs v e
    exact nmS_len this.1 this.2.1
theorem kindR_len {sort : Str} {k : Kd} (h : KdOk sort k) : (kindR k).length ≤ 60 := by
  have a := h.gw.len
  have b := nmS_len h.l0 h.l1
  have c := hiS_len h
  unfold kindR
  walk_at "ln"
theorem tailS_len (b : Bool) : (tailS b).length ≤ 15 := by cases b <;> decide +kernel
theorem devR_len {w : Str} (h : GW w) : (devR w).length ≤ 60 := by
  have a := h.len
  unfold devR
  walk_at "ln"
theorem clockR_len {f : Fd} (ok : FdOk f) {c : Ck} (h : c ∈ f.cs) : (clockR f c).length ≤ 60 := by
  obtain ⟨a, b, _⟩ := ok.c.ok c h
  have a := a.len
  have b := (nmD_gw ok b).len
  have t := tailS_len c.on
  unfold clockR
  walk_at "ln"
theorem linkR_len {f : Fd} (ok : FdOk f) {c : Lk} (h : c ∈ f.ls) : (linkR f c).length ≤ 60 := by
  obtain ⟨a, b, b', _⟩ := ok.l.ok c h
  have a := a.len
  have b := (nmD_gw ok b).len
  have b' := (nmD_gw ok b').len
  unfold linkR
  walk_at "ln"
theorem srcR_len {f : Fd} (ok : FdOk f) {c : Sr} (h : c ∈ f.ss) : (srcR f c).length ≤ 60 := by
  obtain ⟨a, b, _⟩ := ok.s.ok c h
  have a := a.len
  have b := (nmD_gw ok b).len
  unfold srcR
  walk_at "ln"
theorem kinds_len {sort : Str} {ks : List Kd} (h : KsOk sort ks) : (∀ w ∈ ks.map kindR, w.length ≤ 60) ∧ (ks.map kindR).length ≤ 4 := ⟨fun w hw => by
  obtain ⟨k, hk, rfl⟩ := List.mem_map.mp hw
  exact kindR_len (h.ok k hk), by rw [List.length_map]; exact h.l4⟩
theorem blks_len {f : Fd} (ok : FdOk f) : ∀ b ∈ blksF f, (∀ w ∈ b, w.length ≤ 60) ∧ b.length ≤ 5 := by
  intro b hb
  unfold blksF at hb
  rw [List.mem_append, List.mem_append] at hb
  rcases hb with (hb | hb) | hb <;> obtain ⟨c, hc, rfl⟩ := List.mem_map.mp hb
  · have k := kinds_len (ok.c.ok c hc).2.2
    exact ⟨List.forall_mem_cons.mpr ⟨clockR_len ok hc, k.1⟩, Nat.succ_le_succ k.2⟩
  · have k := kinds_len (ok.l.ok c hc).2.2.2.2
    exact ⟨List.forall_mem_cons.mpr ⟨linkR_len ok hc, k.1⟩, Nat.succ_le_succ k.2⟩
  · have k := kinds_len (ok.s.ok c hc).2.2
    exact ⟨List.forall_mem_cons.mpr ⟨srcR_len ok hc, k.1⟩, Nat.succ_le_succ k.2⟩
theorem blks_n {f : Fd} (ok : FdOk f) : (blksF f).length ≤ 9 := by
  have := ok.p9
  unfold blksF
  simp only [List.length_append, List.length_map]
  omega
theorem flat_len {α : Type} {m : Nat} : ∀ {B : List (List α)}, (∀ b ∈ B, b.length ≤ m) → B.flatten.length ≤ m * B.length
  | [], _ => by simp
  | b :: B, h => by
    have h1 := h b List.mem_cons_self
    have h2 := flat_len (m := m) (B := B) fun x hx => h x (List.mem_cons_of_mem _ hx)
    rw [List.flatten_cons, List.length_append, List.length_cons, Nat.mul_succ]
    omega
theorem fltR_len {f : Fd} (ok : FdOk f) : (∀ w ∈ fltR f, w.length ≤ 60) ∧ (fltR f).length ≤ 1 := by
  unfold fltR
  by_cases h : 0 < f.ft
  · rw [if_pos h]
    refine ⟨fun w hw => ?_, Nat.le_refl _⟩
    rw [List.mem_singleton.mp hw]
    have := ok.f2
    have := nmS_len (i := (f.ft : Nat)) (by omega) (by omega)
    walk_at "ln"
  · rw [if_neg h]
    exact ⟨fun w hw => (nomatch hw), Nat.zero_le _⟩
theorem lines_len {f : Fd} (ok : FdOk f) : (∀ w ∈ linesF f, w.length ≤ 60) ∧ (linesF f).length ≤ 52 := by
  have fl := fltR_len ok
  have bn := blks_n ok
  have d6 := ok.d6
  have fb := flat_len (m := 5) fun b hb => (blks_len ok b hb).2
  unfold linesF
  refine ⟨fun w hw => ?_, by simp only [List.length_append, List.length_map]; omega⟩
  rw [List.mem_append, List.mem_append] at hw
  rcases hw with (hw | hw) | hw
  · obtain ⟨v, hv, rfl⟩ := List.mem_map.mp hw
    exact devR_len (ok.d.gw v hv)
  · obtain ⟨b, hb, hw⟩ := List.mem_flatten.mp hw
    exact (blks_len ok b hb).1 w hw
  · exact fl.1 w hw
/-! ### the text of lines -/
theorem tl_nl (w : Str) : tl (nlS w) = tl w ++ [10] := by
  unfold nlS
  rw [TL.tl_append, show tl (Str.ofString "\n") = [10] by decide +kernel]
theorem joinL_nil : ∀ l : List (List Nat), joinL [] l = l.flatten
  | [] => rfl
  | [x] => by simp [joinL]
  | x :: y :: r => by
    have := joinL_nil (y :: r)
    simp only [joinL, List.append_nil] at this ⊢
    rw [this]; rfl
theorem tl_text (L : List Str) : tl (textF L) = (L.map fun w => tl w ++ [10]).flatten := by
  unfold textF
  rw [TL.join_eq, TL.tl_join, show tl (Str.ofString "") = [] by decide +kernel, joinL_nil, List.map_map]
  exact congrArg List.flatten (List.map_congr_left fun w _ => tl_nl w)
theorem flat60 : ∀ {L : List Str}, (∀ w ∈ L, w.length ≤ 60) → ((L.map fun w => tl w ++ [10]).flatten).length ≤ 61 * L.length
  | [], _ => by simp
  | w :: L, h => by
    have h1 := h w List.mem_cons_self
    have h2 := flat60 (L := L) fun x hx => h x (List.mem_cons_of_mem _ hx)
    rw [str_len] at h1
    simp only [List.map_cons, List.flatten_cons, List.length_append, List.length_cons, List.length_nil]
    omega
theorem v_joinG {st : S} {n i : Nat} {en : En} {L : List Str} {Q : D → S → Prop} (hi : en[i]? = some (some (.ref n))) (hn : st[n]? = some (.lst (L.map D.str))) (hL : ∀ w ∈ L, w.length ≤ 60) (hl : L.length ≤ 60) (q : Q (.str (textF L)) st) :
    Ok (dJoinG (fun a => a ++ "\n") (dC (.str "")) (dVar i) en st) Q := by
  have e1 : dC (.str "") en st = .ok (.str (Str.ofString "")) st := rfl
  have e2 : dVar i en st = .ok (.ref n) st := by unfold dVar; rw [hi]
  have e3 : mapO strOf (L.map D.str) = some L := mapO_strs L
  have hs : ∀ {M : List Str}, (∀ w ∈ M, w.length ≤ 60) → ((M.map nlS).map (·.length)).sum ≤ 61 * M.length := by
    intro M
    induction M with
    | nil => intro _; simp
    | cons w M ih =>
      intro h
      have h1 := h w List.mem_cons_self
      have h2 := ih fun x hx => h x (List.mem_cons_of_mem _ hx)
      simp only [List.map_cons, List.sum_cons, List.length_cons]
      have h3 : (nlS w).length = w.length + 1 := by unfold nlS; rw [app_len, l1n]
      omega
  have h61 := hs hL
  have hj : JoinOk (Str.ofString "") (L.map nlS) = true := PyProof.Rows.joinOk_of (by rw [l0]; omega)
  have h4 : (L.all fun a => decide (a.length ≤ 100000)) = true ∧ JoinOk (Str.ofString "") (L.map nlS) = true ∧ L.length ≤ sizeLine := ⟨List.all_eq_true.mpr fun w hw => decide_eq_true (by have := hL w hw; omega), hj, by rw [sz24]; omega⟩
  show Ok (Out.bind (dC (.str "") en st) fun o st1 => _) Q
  rw [e1]
  show Ok (Out.bind (dVar i en st) fun u st2 => _) Q
  rw [e2]
  show Ok (match st[n]? with | some (.lst l) => (match mapO strOf l with | some ws => (if (ws.all fun a => decide (a.length ≤ 100000)) = true ∧ JoinOk (Str.ofString "") (ws.map nlS) = true ∧ ws.length ≤ sizeLine then Out.ok (D.str (Txt.join (Str.ofString "") (ws.map nlS))) st else .bad) | none => .bad) | _ => .bad) Q
  rw [hn]
  show Ok (match mapO strOf (L.map D.str) with | some ws => (if (ws.all fun a => decide (a.length ≤ 100000)) = true ∧ JoinOk (Str.ofString "") (ws.map nlS) = true ∧ ws.length ≤ sizeLine then Out.ok (D.str (Txt.join (Str.ofString "") (ws.map nlS))) st else .bad) | none => .bad) Q
  rw [e3]
  show Ok (if (L.all fun a => decide (a.length ≤ 100000)) = true ∧ JoinOk (Str.ofString "") (L.map nlS) = true ∧ L.length ≤ sizeLine then Out.ok (D.str (Txt.join (Str.ofString "") (L.map nlS))) st else .bad) Q
  rw [if_pos h4]
  exact q

/-! ### frames drawn are pure data -/
theorem gw_pure {w : Str} (h : GW w) {n : Nat} : pureD (n + 1) (.str w) = true := by
  show PyData.strOk w = true
  exact gw_str h
theorem kds_pure {sort : Str} {ks : List Kd} (h : KsOk sort ks) : pureD 3 (.tup (ks.map kdD)) = true := by
  show ((ks.map kdD).all fun d => pureD 2 d) = true
  rw [List.all_eq_true]
  intro d hd
  obtain ⟨k, hk, rfl⟩ := List.mem_map.mp hd
  have g := gw_str (h.ok k hk).gw
  show ([D.str k.nm, .int k.lo, optD k.hi].all fun d => pureD 1 d) = true
  simp only [List.all_cons, List.all_nil, Bool.and_true]
  rw [gw_pure (h.ok k hk).gw]
  cases k.hi <;> rfl
theorem ck_pure {m : Nat} {cs : List Ck} (h : CsOk m cs) : ∀ d ∈ cs.map ckD, pureD 4 d = true := fun d hd => by
  obtain ⟨c, hc, rfl⟩ := List.mem_map.mp hd
  obtain ⟨g, _, k⟩ := h.ok c hc
  show ([D.str c.nm, .int (c.dev : Nat), .bl c.on, .tup (c.ks.map kdD)].all fun d => pureD 3 d) = true
  simp only [List.all_cons, kds_pure k, List.all_nil, gw_pure g]
  rfl
theorem lk_pure {m : Nat} {cs : List Lk} (h : LsOk m cs) : ∀ d ∈ cs.map lkD, pureD 4 d = true := fun d hd => by
  obtain ⟨c, hc, rfl⟩ := List.mem_map.mp hd
  obtain ⟨g, _, _, _, k⟩ := h.ok c hc
  show ([D.str c.nm, .int (c.fr : Nat), .int (c.to : Nat), .tup (c.ks.map kdD)].all fun d => pureD 3 d) = true
  simp only [List.all_cons, kds_pure k, List.all_nil, gw_pure g]
  rfl
theorem sr_pure {m : Nat} {cs : List Sr} (h : SsOk m cs) : ∀ d ∈ cs.map srD, pureD 4 d = true := fun d hd => by
  obtain ⟨c, hc, rfl⟩ := List.mem_map.mp hd
  obtain ⟨g, _, k⟩ := h.ok c hc
  show ([D.str c.nm, .int (c.dev : Nat), .tup (c.ks.map kdD)].all fun d => pureD 3 d) = true
  simp only [List.all_cons, kds_pure k, List.all_nil, gw_pure g]
  rfl
theorem ds_pure {ds : List Str} (h : DsOk ds) : ∀ d ∈ ds.map D.str, pureD 4 d = true := fun d hd => by
  obtain ⟨c, hc, rfl⟩ := List.mem_map.mp hd
  exact gw_pure (h.gw c hc)
theorem eq_same {st : S} {n m : Nat} {l : List D} {g : Bool → Bool} {Q : D → S → Prop} (h1 : st[n]? = some (.lst l)) (h2 : st[m]? = some (.lst l)) (hl : ∀ d ∈ l, pureD 4 d = true) (h : Q (.bl (g true)) st) : Ok (dEq2 g (.ref n) (.ref m) st) Q :=
  v_eqL h1 h2 hl hl (by decide) (by decide) (by
    have e : @decide (l.map nrm = l.map nrm) (Classical.propDecidable _) = true := (@decide_eq_true_iff _ (Classical.propDecidable _)).mpr rfl
    rw [e]; exact h)

/-! ### kind_rows, write_frame, the law's blocks -/
theorem lf_flt {a b c d e : D} : List.lookup ("faults" : Str) [("devices", a), ("clocks", b), ("links", c), ("sources", d), ("faults", e)] = some e := rfl
theorem bt3 {i j k : Nat} {a b c : D} {en : En} : bTup 3 (bCons (bName i) (bCons (bName j) (bCons (bName k) bNil))) (.tup [a, b, c]) en = some (((en.set i (some a)).set j (some b)).set k (some c)) := rfl
theorem krows_ok {st : S} {ks : List Kd} {sort : Str} {Q : D → S → Prop} (h : KsOk sort ks) (q : ∀ st', Fr FN st st' → st'[st.length]? = some (.lst ((ks.map kindR).map D.str)) → Q (.ref st.length) st') : Ok (dn_kind_rows [.tup (ks.map kdD)] st) Q := by
  have h4 := h.l4
  unfold dn_kind_rows b_kind_rows
  rw [ok_def]
  refine ⟨rfl, ?_⟩
  wide_open using []
  refine ok_loop0 (w := ⟨ks.map kdD, []⟩) (fun k en st' => (∃ a2 a3 a4 a5, en = [some (.tup (ks.map kdD)), some (.ref st.length), a2, a3, a4, a5]) ∧ Fr FN st st' ∧ st'[st.length]? = some (.lst (((ks.take k).map kindR).map D.str))) ⟨⟨_, _, _, _, rfl⟩, .push _ _, fr_at _ _⟩ (fun _ _ _ _ => wkn) ?_ ?_
  · rintro k d en s1 hd ⟨⟨a2, a3, a4, a5, rfl⟩, f1, e1⟩
    rw [List.getElem?_map, Option.map_eq_some_iff] at hd
    obtain ⟨x, hx, rfl⟩ := hd
    have hk := (List.getElem?_eq_some_iff.mp hx).1
    have kk := h.ok x (List.mem_of_getElem? hx)
    refine ⟨_, bt3, ?_⟩
    have g1 := kk.gw.len
    have g2 := nmS_len kk.l0 kk.l1
    have g3 := hiS_len kk
    have st3 : ∀ Q : D → S → Prop, Ok (dStr [.int x.lo] s1) Q ↔ Q (.str (nmS x.lo)) s1 := fun Q => v_nmS kk.l0 kk.l1
    have hm : ((ks.take k).map kindR).map D.str ++ [D.str (kindR x)] = ((ks.take (k + 1)).map kindR).map D.str := by rw [mem_split hx]; simp
    have hz : (((ks.take k).map kindR).map D.str).length < sizeLine := by rw [List.length_map, List.length_map, List.length_take]; exact sml' (by omega)
    have fin : ∀ sh : Str, sh = hiS x.hi → (s1.set st.length (.lst (((ks.take k).map kindR).map D.str ++ [D.str (Str.ofString "kind " ++ x.nm ++ Str.ofString " " ++ nmS x.lo ++ Str.ofString " " ++ sh)])))[st.length]? = some (.lst (((ks.take (k + 1)).map kindR).map D.str)) := fun sh hh => by
      rw [st_at e1, hh]
      exact congrArg (fun l => some (O.lst l)) hm
    cases hh : x.hi with
    | none =>
      rw [hh] at g3
      simp only [kdD, hh, optD]
      wide_open using [bl_kind_rows_1, st3, e1, v_addS]
      exact ⟨by walk_at "ln", by walk_at "ln", by walk_at "ln", by walk_at "ln", by walk_at "ln", hz, f1.set (.inr (Nat.le_refl _)), fin _ (by rw [hh]; rfl)⟩
    | some v =>
      rw [hh] at g3
      have kv := kk.hs v hh
      have g3 : (nmS v).length ≤ 13 := g3
      have st4 : ∀ Q : D → S → Prop, Ok (dStr [.int v] s1) Q ↔ Q (.str (nmS v)) s1 := fun Q => v_nmS kv.1 kv.2.1
      simp only [kdD, hh, optD]
      wide_open using [bl_kind_rows_1, st3, st4, e1, v_addS]
      exact ⟨by walk_at "ln", by walk_at "ln", by walk_at "ln", by walk_at "ln", by walk_at "ln", hz, f1.set (.inr (Nat.le_refl _)), fin _ (by rw [hh]; rfl)⟩
  · rintro en s1 ⟨⟨a2, a3, a4, a5, rfl⟩, f1, e1⟩
    have e : (⟨ks.map kdD, []⟩ : Wk).items.length = ks.length := List.length_map ..
    rw [e, List.take_length] at e1
    wide_open using [bt_kind_rows_1]
    exact q _ f1 e1
/-- lists of texts, by their refs -/
def BlkI (st : S) : List Nat → List (List Str) → Prop
  | [], [] => True
  | g :: gs, b :: B => st[g]? = some (.lst (b.map D.str)) ∧ BlkI st gs B
  | _, _ => False
theorem BlkI.fr {st st' : S} (f : Fr FN st st') : ∀ {gs : List Nat} {B : List (List Str)}, BlkI st gs B → BlkI st' gs B
  | [], [], _ => True.intro
  | g :: gs, b :: B, h => ⟨f.at0 h.1, h.2.fr f⟩
  | [], _ :: _, h => h.elim
  | _ :: _, [], h => h.elim
theorem BlkI.app {st : S} {gs' : List Nat} {B' : List (List Str)} (h' : BlkI st gs' B') : ∀ {gs : List Nat} {B : List (List Str)}, BlkI st gs B → BlkI st (gs ++ gs') (B ++ B')
  | [], [], _ => h'
  | g :: gs, b :: B, h => ⟨h.1, BlkI.app h' h.2⟩
  | [], _ :: _, h => h.elim
  | _ :: _, [], h => h.elim
theorem BlkI.len {st : S} : ∀ {gs : List Nat} {B : List (List Str)}, BlkI st gs B → gs.length = B.length
  | [], [], _ => rfl
  | g :: gs, b :: B, h => congrArg Nat.succ h.2.len
  | [], _ :: _, h => h.elim
  | _ :: _, [], h => h.elim
theorem BlkI.get {st : S} : ∀ {gs : List Nat} {B : List (List Str)} {i g : Nat}, BlkI st gs B → gs[i]? = some g → ∃ b, B[i]? = some b ∧ st[g]? = some (.lst (b.map D.str))
  | g :: gs, b :: B, 0, x, h, e => ⟨b, rfl, by simp at e; subst e; exact h.1⟩
  | g :: gs, b :: B, i + 1, x, h, e => h.2.get (i := i) (by simpa using e)
  | [], [], _, _, _, e => nomatch e
  | [], _ :: _, _, _, h, _ => h.elim
  | _ :: _, [], _, _, h, _ => h.elim
theorem bt4 {i j k m : Nat} {a b c d : D} {en : En} : bTup 4 (bCons (bName i) (bCons (bName j) (bCons (bName k) (bCons (bName m) bNil)))) (.tup [a, b, c, d]) en = some ((((en.set i (some a)).set j (some b)).set k (some c)).set m (some d)) := rfl
/-- the rows of write_frame so far -/
def WrI (st : S) (o a n : Nat) (L : List Str) (en : En) (st' : S) : Prop := ∃ r x3 x4 x5 x6 x7 x8 x9 x10, en = [some (.ref o), some (.ref a), some (.ref r), x3, x4, x5, x6, x7, x8, x9, x10] ∧ Fr FN st st' ∧ st.length ≤ r ∧ st'[r]? = some (.lst (L.map D.str)) ∧ L.length ≤ n
theorem blk_ok {st st' : S} {o a n r : Nat} {L : List Str} {sort : Str} {ks : List Kd} {row : Str} {rowE : EM} {x3 x4 x5 x7 x8 x9 x10 : Option D} {V : Fl × En → S → Prop} (hk : KsOk sort ks) (f : Fr FN st st') (hr : st.length ≤ r) (er : st'[r]? = some (.lst (L.map D.str))) (hn : L.length ≤ n) (hn2 : n ≤ 200)
    (hrow : ∀ R : D → S → Prop, R (.str row) st' → Ok (rowE [some (.ref o), some (.ref a), some (.ref r), x3, x4, x5, some (.tup (ks.map kdD)), x7, x8, x9, x10] st') R) (q : ∀ en s, WrI st o a (n + 5) (L ++ row :: ks.map kindR) en s → V (.nx, en) s) :
    Ok (sSeq (sExpr (dMt "list" mAppend (dVar 2) (dCons rowE dNil))) (sSet 2 (dO2 dAdd (dVar 2) (dCall 1 dn_kind_rows (dCons (dVar 6) dNil)))) [some (.ref o), some (.ref a), some (.ref r), x3, x4, x5, some (.tup (ks.map kdD)), x7, x8, x9, x10] st') V := by
  wide_open using [er]
  refine hrow _ ?_
  have hz : (L.map D.str).length < sizeLine := by rw [List.length_map]; exact sml' (by omega)
  wide_open using [er]
  refine ⟨hz, ?_⟩
  have f2 : Fr FN st (st'.set r (.lst (L.map D.str ++ [.str row]))) := f.set (.inr hr)
  have e2 : (st'.set r (.lst (L.map D.str ++ [.str row])))[r]? = some (.lst ((L ++ [row]).map D.str)) := by rw [st_at er, List.map_append]; rfl
  generalize st'.set r (.lst (L.map D.str ++ [.str row])) = s2 at f2 e2 ⊢
  refine krows_ok hk fun s3 f3 e3 => ?_
  have k4 : (ks.map kindR).length ≤ 4 := (kinds_len hk).2
  rw [v_addL (f3.at0 e2) e3]
  refine ⟨by rw [List.length_map, List.length_map, List.length_append, List.length_singleton, sz24]; omega, ?_⟩
  refine q _ _ ⟨_, _, _, _, _, _, _, _, _, rfl, (f2.trans f3).trans (.push _ _), ?_, ?_, ?_⟩
  · exact Nat.le_trans f2.len f3.len
  · rw [fr_at]
    rw [← List.map_append, List.append_assoc]; rfl
  · rw [List.length_append, List.length_cons]; omega
theorem write_ok {st : S} {o : Nat} {f : Fd} {N : Nat → Prop} {Q : D → S → Prop} (h : Fm st o (f.ds.map D.str) (f.cs.map ckD) (f.ls.map lkD) (f.ss.map srD) (.int (f.ft : Nat)) N) (ok : FdOk f) (q : ∀ st', Fr FN st st' → Q (.str (textF (linesF f))) st') : Ok (dn_write_frame [.ref o] st) Q := by
  obtain ⟨A, B, C, E, h0, h1, h2, h3, h4, _⟩ := h
  have d6 := ok.d6
  have p9 := ok.p9
  unfold dn_write_frame b_write_frame
  rw [ok_def]
  refine ⟨rfl, ?_⟩
  wide_open using [h0, lf_dev, h1]
  refine ok_lcM (fun d => match d with | .str w => .str (devR w) | d => d) (wk1 h1) (by show (f.ds.map D.str).length < _; rw [List.length_map]; exact sml' (by omega)) (fun i d hd => ?_) ?_
  · have hd : (f.ds.map D.str)[i]? = some d := hd
    rw [List.getElem?_map, Option.map_eq_some_iff] at hd
    obtain ⟨w, hw, rfl⟩ := hd
    have g := (ok.d.gw w (List.mem_of_getElem? hw)).len
    refine ⟨_, rfl, ?_⟩
    wide_open using [v_addS]
    exact ⟨by walk_at "ln", rfl⟩
  have e0 : ((f.ds.map D.str).map fun d => match d with | .str w => .str (devR w) | d => d) = (f.ds.map devR).map D.str := by rw [List.map_map, List.map_map]; rfl
  rw [show (⟨f.ds.map D.str, [(A, f.ds.map D.str)]⟩ : Wk).items = f.ds.map D.str from rfl, e0]
  have r1 := fr_at st (.lst ((f.ds.map devR).map D.str))
  have g1 := Fr.push (F := FN) st (.lst ((f.ds.map devR).map D.str))
  generalize st ++ [O.lst ((f.ds.map devR).map D.str)] = s1 at r1 g1 ⊢
  have i0 := g1.at0 h0
  have i1 := g1.at0 h1
  have i2 := g1.at0 h2
  wide_open using [i0, lf_clk, i2]
  refine ok_loop0 (w := ⟨f.cs.map ckD, [(B, f.cs.map ckD)]⟩) (fun k en st' => WrI st o A (6 + 5 * k) (f.ds.map devR ++ ((f.cs.take k).map (clockB f)).flatten) en st') ⟨_, _, _, _, _, _, _, _, _, rfl, g1, Nat.le_refl _, ?_, ?_⟩ (fun k en st' ⟨_, _, _, _, _, _, _, _, _, _, f, _⟩ => wk1 (f.at0 h2)) ?_ ?_
  · simpa using r1
  · simp; omega
  · rintro k d en s2 hd ⟨r, x3, x4, x5, x6, x7, x8, x9, x10, rfl, g2, hr, er, hl⟩
    have hd : (f.cs.map ckD)[k]? = some d := hd
    rw [List.getElem?_map, Option.map_eq_some_iff] at hd
    obtain ⟨x, hx, rfl⟩ := hd
    have hk := (List.getElem?_eq_some_iff.mp hx).1
    obtain ⟨gx, dx, kx⟩ := ok.c.ok x (List.mem_of_getElem? hx)
    have nx := nmD_at dx
    have gn := (nmD_gw ok dx).len
    have gx := gx.len
    have gt := tailS_len x.on
    have m1 := g2.at0 h1
    refine ⟨_, bt4, ?_⟩
    have hm : f.ds.map devR ++ ((f.cs.take k).map (clockB f)).flatten ++ clockB f x = f.ds.map devR ++ ((f.cs.take (k + 1)).map (clockB f)).flatten := by rw [mem_split hx]; simp
    have hb : Ok (dIfE (dTru (dVar 5)) (dC (.str " goes on asleep")) (dC (.str "")) [some (.ref o), some (.ref A), some (.ref r), some (.str x.nm), some (.int (x.dev : Nat)), some (.bl x.on), some (.tup (x.ks.map kdD)), x7, x8, x9, x10] s2) fun d s => d = .str (tailS x.on) ∧ s = s2 := by
      cases x.on
      · wide_open using []
        rfl
      · wide_open using []
        rfl
    unfold bl_write_frame_1
    rw [ok_seq, ok_set]
    refine hb.mono fun d s ⟨hd, hs⟩ => ?_
    subst hd hs
    rw [sq_nx]
    refine blk_ok kx g2 hr er hl (by omega) (row := clockR f x) (fun R hR => ?_) fun en s hI => ?_
    · wide_open using [v_addS, m1, nx]
      exact ⟨by walk_at "ln", by walk_at "ln", by walk_at "ln", by walk_at "ln", hR⟩
    · rw [← hm]
      exact hI
  rintro en s2 ⟨r, x3, x4, x5, x6, x7, x8, x9, x10, rfl, g2, hr, er, hl⟩
  have ec : (⟨f.cs.map ckD, [(B, f.cs.map ckD)]⟩ : Wk).items.length = f.cs.length := List.length_map ..
  rw [ec, List.take_length] at er
  rw [ec, List.take_length] at hl
  generalize hM : f.ds.map devR ++ (f.cs.map (clockB f)).flatten = M at er hl
  have i0 := g2.at0 h0
  have i3 := g2.at0 h3
  wide_open using [bt_write_frame_1, i0, lf_lnk, i3]
  refine ok_loop0 (w := ⟨f.ls.map lkD, [(C, f.ls.map lkD)]⟩) (fun k en st' => WrI st o A (6 + 5 * f.cs.length + 5 * k) (M ++ ((f.ls.take k).map (linkB f)).flatten) en st') ⟨_, _, _, _, _, _, _, _, _, rfl, g2, hr, ?_, ?_⟩ (fun k en st' ⟨_, _, _, _, _, _, _, _, _, _, f, _⟩ => wk1 (f.at0 h3)) ?_ ?_
  · simpa using er
  · simpa using hl
  · rintro k d en s3 hd ⟨r, x3, x4, x5, x6, x7, x8, x9, x10, rfl, g3, hr, er, hl⟩
    have hd : (f.ls.map lkD)[k]? = some d := hd
    rw [List.getElem?_map, Option.map_eq_some_iff] at hd
    obtain ⟨x, hx, rfl⟩ := hd
    have hk := (List.getElem?_eq_some_iff.mp hx).1
    obtain ⟨gx, dx, dx', _, kx⟩ := ok.l.ok x (List.mem_of_getElem? hx)
    have nx := nmD_at dx
    have gn := (nmD_gw ok dx).len
    have nx' := nmD_at dx'
    have gn' := (nmD_gw ok dx').len
    have gx := gx.len
    have m1 := g3.at0 h1
    refine ⟨_, bt4, ?_⟩
    have hm : M ++ ((f.ls.take k).map (linkB f)).flatten ++ linkB f x = M ++ ((f.ls.take (k + 1)).map (linkB f)).flatten := by rw [mem_split hx]; simp
    refine blk_ok kx g3 hr er hl (by omega) (row := linkR f x) (fun R hR => ?_) fun en s hI => ?_
    · wide_open using [v_addS, m1, nx, nx']
      exact ⟨by walk_at "ln", by walk_at "ln", by walk_at "ln", by walk_at "ln", by walk_at "ln", hR⟩
    · rw [← hm]
      exact hI
  clear hl er hr g2 i0 i3
  rintro en s3 ⟨r, x3, x4, x5, x6, x7, x8, x9, x10, rfl, g3, hr, er, hl⟩
  have el : (⟨f.ls.map lkD, [(C, f.ls.map lkD)]⟩ : Wk).items.length = f.ls.length := List.length_map ..
  rw [el, List.take_length] at er
  rw [el, List.take_length] at hl
  generalize hM2 : M ++ (f.ls.map (linkB f)).flatten = M2 at er hl
  have i0 := g3.at0 h0
  have i4 := g3.at0 h4
  wide_open using [bt_write_frame_2, i0, lf_src, i4]
  refine ok_loop0 (w := ⟨f.ss.map srD, [(E, f.ss.map srD)]⟩) (fun k en st' => WrI st o A (6 + 5 * f.cs.length + 5 * f.ls.length + 5 * k) (M2 ++ ((f.ss.take k).map (srcB f)).flatten) en st') ⟨_, _, _, _, _, _, _, _, _, rfl, g3, hr, ?_, ?_⟩ (fun k en st' ⟨_, _, _, _, _, _, _, _, _, _, f, _⟩ => wk1 (f.at0 h4)) ?_ ?_
  · simpa using er
  · simpa using hl
  · rintro k d en s4 hd ⟨r, x3, x4, x5, x6, x7, x8, x9, x10, rfl, g4, hr, er, hl⟩
    have hd : (f.ss.map srD)[k]? = some d := hd
    rw [List.getElem?_map, Option.map_eq_some_iff] at hd
    obtain ⟨x, hx, rfl⟩ := hd
    have hk := (List.getElem?_eq_some_iff.mp hx).1
    obtain ⟨gx, dx, kx⟩ := ok.s.ok x (List.mem_of_getElem? hx)
    have nx := nmD_at dx
    have gn := (nmD_gw ok dx).len
    have gx := gx.len
    have m1 := g4.at0 h1
    refine ⟨_, bt3, ?_⟩
    have hm : M2 ++ ((f.ss.take k).map (srcB f)).flatten ++ srcB f x = M2 ++ ((f.ss.take (k + 1)).map (srcB f)).flatten := by rw [mem_split hx]; simp
    refine blk_ok kx g4 hr er hl (by omega) (row := srcR f x) (fun R hR => ?_) fun en s hI => ?_
    · wide_open using [v_addS, m1, nx]
      exact ⟨by walk_at "ln", by walk_at "ln", by walk_at "ln", hR⟩
    · rw [← hm]
      exact hI
  clear hl er hr g3 i0 i4
  rintro en s4 ⟨r, x3, x4, x5, x6, x7, x8, x9, x10, rfl, g4, hr, er, hl⟩
  have es : (⟨f.ss.map srD, [(E, f.ss.map srD)]⟩ : Wk).items.length = f.ss.length := List.length_map ..
  rw [es, List.take_length] at er
  rw [es, List.take_length] at hl
  have i0 := g4.at0 h0
  have ll := lines_len ok
  have hL : linesF f = M2 ++ (f.ss.map (srcB f)).flatten ++ fltR f := by
    unfold linesF blksF
    rw [← hM2, ← hM]
    simp only [List.flatten_append, List.append_assoc]
  generalize M2 ++ (f.ss.map (srcB f)).flatten = M3 at er hl hL
  have f2 := ok.f2
  have nf : ∀ {Q : D → S → Prop}, Ok (dStr [.int (f.ft : Nat)] s4) Q ↔ Q (.str (nmS (f.ft : Nat))) s4 := v_nmS (by omega) (by omega)
  have nl := nmS_len (i := (f.ft : Nat)) (by omega) (by omega)
  by_cases hft : 0 < f.ft
  · have hft' : (0 : Int) < (f.ft : Nat) := by omega
    wide_open using [bt_write_frame_3, i0, lf_flt, hft', nf, v_addS, er]
    have hL' : linesF f = M3 ++ [Str.ofString "faults " ++ nmS (f.ft : Nat)] := by rw [hL]; unfold fltR; rw [if_pos hft]
    refine ⟨by walk_at "ln", by rw [List.length_map]; exact sml' (by omega), ?_⟩
    unfold bi_write_frame_1
    wide_open using []
    refine v_joinG (L := linesF f) rfl (by rw [st_at er, hL', List.map_append]; rfl) ll.1 (by omega) ?_
    exact q _ (g4.set (.inr hr))
  · have hft' : ¬ (0 : Int) < (f.ft : Nat) := by omega
    wide_open using [bt_write_frame_3, i0, lf_flt, hft']
    have hL' : linesF f = M3 := by rw [hL]; unfold fltR; rw [if_neg hft, List.append_nil]
    unfold bi_write_frame_1
    wide_open using []
    refine v_joinG (L := linesF f) rfl (by rw [hL']; exact er) ll.1 (by omega) ?_
    exact q _ g4
theorem BlkI.frF {F : Nat → Prop} {st st' : S} (f : Fr F st st') : ∀ {gs : List Nat} {B : List (List Str)}, BlkI st gs B → (∀ g ∈ gs, ¬ F g) → BlkI st' gs B
  | [], [], _, _ => True.intro
  | g :: gs, b :: B, h, n => ⟨f.at_ h.1 (n g List.mem_cons_self), h.2.frF f fun x hx => n x (List.mem_cons_of_mem _ hx)⟩
  | [], _ :: _, h, _ => h.elim
  | _ :: _, [], h, _ => h.elim
theorem lkrows_ok {st : S} {ks : List Kd} {sort : Str} {Q : D → S → Prop} (h : KsOk sort ks) (q : ∀ st', Fr FN st st' → st'[st.length]? = some (.lst ((ks.map kindR).map D.str)) → Q (.ref st.length) st') : Ok (dn_llaw_kind_rows [.tup (ks.map kdD)] st) Q := by
  have h4 := h.l4
  unfold dn_llaw_kind_rows b_llaw_kind_rows
  rw [ok_def]
  refine ⟨rfl, ?_⟩
  wide_open using []
  refine ok_loop0 (w := ⟨ks.map kdD, []⟩) (fun k en st' => (∃ a2 a3, en = [some (.tup (ks.map kdD)), some (.ref st.length), a2, a3]) ∧ Fr FN st st' ∧ st'[st.length]? = some (.lst (((ks.take k).map kindR).map D.str))) ⟨⟨_, _, rfl⟩, .push _ _, fr_at _ _⟩ (fun _ _ _ _ => wkn) ?_ ?_
  · rintro k d en s1 hd ⟨⟨a2, a3, rfl⟩, f1, e1⟩
    rw [List.getElem?_map, Option.map_eq_some_iff] at hd
    obtain ⟨x, hx, rfl⟩ := hd
    have hk := (List.getElem?_eq_some_iff.mp hx).1
    have kk := h.ok x (List.mem_of_getElem? hx)
    refine ⟨_, rfl, ?_⟩
    have g1 := kk.gw.len
    have g2 := nmS_len kk.l0 kk.l1
    have g3 := hiS_len kk
    have st3 : ∀ Q : D → S → Prop, Ok (dStr [.int x.lo] s1) Q ↔ Q (.str (nmS x.lo)) s1 := fun Q => v_nmS kk.l0 kk.l1
    have hm : ((ks.take k).map kindR).map D.str ++ [D.str (kindR x)] = ((ks.take (k + 1)).map kindR).map D.str := by rw [mem_split hx]; simp
    have hz : (((ks.take k).map kindR).map D.str).length < sizeLine := by rw [List.length_map, List.length_map, List.length_take]; exact sml' (by omega)
    have fin : ∀ sh : Str, sh = hiS x.hi → (s1.set st.length (.lst (((ks.take k).map kindR).map D.str ++ [D.str (Str.ofString "kind " ++ x.nm ++ Str.ofString " " ++ nmS x.lo ++ Str.ofString " " ++ sh)])))[st.length]? = some (.lst (((ks.take (k + 1)).map kindR).map D.str)) := fun sh hh => by
      rw [st_at e1, hh]
      exact congrArg (fun l => some (O.lst l)) hm
    cases hh : x.hi with
    | none =>
      rw [hh] at g3
      simp only [kdD, hh, optD]
      wide_open using [bl_llaw_kind_rows_1, bi_llaw_kind_rows_1, st3, e1, v_addS]
      exact ⟨by walk_at "ln", by walk_at "ln", by walk_at "ln", by walk_at "ln", by walk_at "ln", hz, f1.set (.inr (Nat.le_refl _)), fin _ (by rw [hh]; rfl)⟩
    | some v =>
      rw [hh] at g3
      have kv := kk.hs v hh
      have g3 : (nmS v).length ≤ 13 := g3
      have st4 : ∀ Q : D → S → Prop, Ok (dStr [.int v] s1) Q ↔ Q (.str (nmS v)) s1 := fun Q => v_nmS kv.1 kv.2.1
      simp only [kdD, hh, optD]
      wide_open using [bl_llaw_kind_rows_1, bi_llaw_kind_rows_1, st3, st4, e1, v_addS]
      exact ⟨by walk_at "ln", by walk_at "ln", by walk_at "ln", by walk_at "ln", by walk_at "ln", hz, f1.set (.inr (Nat.le_refl _)), fin _ (by rw [hh]; rfl)⟩
  · rintro en s1 ⟨⟨a2, a3, rfl⟩, f1, e1⟩
    have e : (⟨ks.map kdD, []⟩ : Wk).items.length = ks.length := List.length_map ..
    rw [e, List.take_length] at e1
    wide_open using [bt_llaw_kind_rows_1]
    exact q _ f1 e1
/-- the law's blocks so far -/
def LbI (st : S) (fd : D) (r1 : Nat) (B : List (List Str)) (en : En) (st' : S) : Prop := ∃ x2 x3 gs, en = [some fd, some (.ref r1), x2, x3] ∧ Fr FN st st' ∧ st.length ≤ r1 ∧ st'[r1]? = some (.lst (gs.map D.ref)) ∧ BlkI st' gs B ∧ ∀ g ∈ gs, r1 < g
theorem btail_ok {st st' : S} {fd item : D} {r1 : Nat} {gs : List Nat} {B : List (List Str)} {sort : Str} {ks : List Kd} {row : Str} {kE : EM} {V : Fl × En → S → Prop} (hk : KsOk sort ks) (f : Fr FN st st') (hr : st.length ≤ r1) (e1 : st'[r1]? = some (.lst (gs.map D.ref))) (hb : BlkI st' gs B) (hg : ∀ g ∈ gs, r1 < g) (hn : gs.length ≤ 100)
    (hkE : ∀ (R : D → S → Prop) s, R (.tup (ks.map kdD)) s → Ok (kE [some fd, some (.ref r1), some item, some (.str row)] s) R) (q : ∀ en s, LbI st fd r1 (B ++ [row :: ks.map kindR]) en s → V (.nx, en) s) :
    Ok (sExpr (dMt "list" mAppend (dVar 1) (dCons (dO2 dAdd (dLst (dCons (dVar 3) dNil)) (dCall 1 dn_llaw_kind_rows (dCons kE dNil))) dNil)) [some fd, some (.ref r1), some item, some (.str row)] st') V := by
  have h1 : (1 : Nat) ≤ sizeLine := by decide
  wide_open using [e1, h1]
  refine hkE _ _ ?_
  have a1 := fr_at st' (.lst [D.str row])
  have f1 := Fr.push (F := FN) st' (.lst [D.str row])
  generalize hs1 : st' ++ [O.lst [D.str row]] = s1 at a1 f1 ⊢
  refine lkrows_ok hk fun s2 f2 e2 => ?_
  have k4 : (ks.map kindR).length ≤ 4 := (kinds_len hk).2
  have l1' := lt_at e1
  have l2 := f1.len
  have l3 := f2.len
  rw [v_addL (f2.at0 a1) e2]
  refine ⟨by rw [List.length_map, List.length_singleton, sz24]; omega, ?_⟩
  have e3 := fr_at s2 (.lst ([D.str row] ++ (ks.map kindR).map D.str))
  have f3 := (f1.trans f2).trans (Fr.push (F := FN) s2 (.lst ([D.str row] ++ (ks.map kindR).map D.str)))
  generalize s2 ++ [O.lst ([D.str row] ++ (ks.map kindR).map D.str)] = s3 at e3 f3 ⊢
  have e4 := f3.at0 e1
  wide_open using [e4]
  refine ⟨by rw [List.length_map]; exact sml' (by omega), q _ _ ⟨_, _, gs ++ [s2.length], rfl, (f.trans f3).set (.inr hr), hr, ?_, ?_, ?_⟩⟩
  · rw [st_at e4, List.map_append]; rfl
  · have b3 : BlkI s3 (gs ++ [s2.length]) (B ++ [row :: ks.map kindR]) := BlkI.app (show BlkI s3 [s2.length] [row :: ks.map kindR] from ⟨e3, True.intro⟩) (hb.fr f3)
    refine b3.frF (F := fun b => b = r1) ((Fr.refl _).set (.inl rfl)) fun g hg' => ?_
    rcases List.mem_append.mp hg' with z | z
    · have := hg g z; omega
    · rw [List.mem_singleton.mp z]; omega
  · intro g hg'
    rcases List.mem_append.mp hg' with z | z
    · exact hg g z
    · rw [List.mem_singleton.mp z]; omega
abbrev fdD (f : Fd) (d c l s : Nat) : D := .tup [.ref d, .ref c, .ref l, .ref s, .int (f.ft : Nat)]
section
variable {st : S} {f : Fd} {d c l s : Nat} {Q : D → S → Prop}
/-- blocks made: a list of refs to lists -/
def LbQ (st : S) (B : List (List Str)) (Q : D → S → Prop) : Prop := ∀ st' gs, Fr FN st st' → st'[st.length]? = some (.lst (gs.map D.ref)) → BlkI st' gs B → Q (.ref st.length) st'
theorem cblk_ok (h : FdAt st f d c l s) (ok : FdOk f) (q : LbQ st (f.cs.map (clockB f)) Q) : Ok (dn_llaw_clock_blocks [fdD f d c l s] st) Q := by
  have p9 := ok.p9
  unfold dn_llaw_clock_blocks b_llaw_clock_blocks
  rw [ok_def]
  refine ⟨rfl, ?_⟩
  have g1 := Fr.push (F := FN) st (.lst [])
  have r1 := fr_at st (.lst [])
  wide_open using [(h.fr0 g1).ec]
  generalize st ++ [O.lst []] = s1 at g1 r1 ⊢
  refine ok_loop0 (w := ⟨f.cs.map ckD, [(c, f.cs.map ckD)]⟩) (fun k en st' => LbI st (fdD f d c l s) st.length ((f.cs.take k).map (clockB f)) en st') ⟨_, _, [], rfl, g1, Nat.le_refl _, r1, True.intro, fun _ z => nomatch z⟩ (fun k en st' ⟨_, _, _, _, g, _⟩ => wk1 (h.fr0 g).ec) ?_ ?_
  · rintro k dd en s2 hd ⟨x2, x3, gs, rfl, g2, hr, er, hb, hg⟩
    have hd : (f.cs.map ckD)[k]? = some dd := hd
    rw [List.getElem?_map, Option.map_eq_some_iff] at hd
    obtain ⟨x, hx, rfl⟩ := hd
    have hk := (List.getElem?_eq_some_iff.mp hx).1
    obtain ⟨gx, dx, kx⟩ := ok.c.ok x (List.mem_of_getElem? hx)
    have nx := nmD_at dx
    have gn := (nmD_gw ok dx).len
    have gx := gx.len
    have m1 := (h.fr0 g2).ed
    have hgl := hb.len
    rw [List.length_map, List.length_take] at hgl
    refine ⟨_, rfl, ?_⟩
    have hm : (f.cs.take k).map (clockB f) ++ [clockB f x] = (f.cs.take (k + 1)).map (clockB f) := by rw [mem_split hx]; simp
    have fin : ∀ row V, row = clockR f x → Ok (bi_llaw_clock_blocks_1 [some (fdD f d c l s), some (.ref st.length), some (ckD x), some (.str row)] s2) (Tn (LbI st (fdD f d c l s) st.length ((f.cs.take (k + 1)).map (clockB f))) V) := fun row V hrow => by
      unfold bi_llaw_clock_blocks_1
      refine btail_ok kx g2 hr er hb hg (by omega) (fun R s hR => ?_) fun en s hI => ?_
      · wide_open using [ckD]
        exact hR
      · rw [hrow] at hI
        rw [← hm]
        exact hI
    cases ho : x.on with
    | false =>
      wide_open using [bl_llaw_clock_blocks_1, ckD, ho, v_addS, m1, nx]
      refine ⟨by walk_at "ln", by walk_at "ln", by walk_at "ln", ?_⟩
      have := fun V => fin (Str.ofString "clock " ++ x.nm ++ Str.ofString " of " ++ nmD f x.dev) V (by unfold clockR tailS; rw [ho]; exact (app_nil _).symm)
      rw [show ckD x = .tup [.str x.nm, .int (x.dev : Nat), .bl x.on, .tup (x.ks.map kdD)] from rfl, ho] at this
      exact this _
    | true =>
      wide_open using [bl_llaw_clock_blocks_1, ckD, ho, v_addS, m1, nx]
      refine ⟨by walk_at "ln", by walk_at "ln", by walk_at "ln", by walk_at "ln", ?_⟩
      have := fun V => fin (Str.ofString "clock " ++ x.nm ++ Str.ofString " of " ++ nmD f x.dev ++ Str.ofString " goes on asleep") V (by unfold clockR tailS; rw [ho]; rfl)
      rw [show ckD x = .tup [.str x.nm, .int (x.dev : Nat), .bl x.on, .tup (x.ks.map kdD)] from rfl, ho] at this
      exact this _
  · rintro en s2 ⟨x2, x3, gs, rfl, g2, hr, er, hb, hg⟩
    have ec : (⟨f.cs.map ckD, [(c, f.cs.map ckD)]⟩ : Wk).items.length = f.cs.length := List.length_map ..
    rw [ec, List.take_length] at hb
    wide_open using [bt_llaw_clock_blocks_1]
    exact q _ _ g2 er hb
theorem lblk_ok (h : FdAt st f d c l s) (ok : FdOk f) (q : LbQ st (f.ls.map (linkB f)) Q) : Ok (dn_llaw_link_blocks [fdD f d c l s] st) Q := by
  have p9 := ok.p9
  unfold dn_llaw_link_blocks b_llaw_link_blocks
  rw [ok_def]
  refine ⟨rfl, ?_⟩
  have g1 := Fr.push (F := FN) st (.lst [])
  have r1 := fr_at st (.lst [])
  wide_open using [(h.fr0 g1).el]
  generalize st ++ [O.lst []] = s1 at g1 r1 ⊢
  refine ok_loop0 (w := ⟨f.ls.map lkD, [(l, f.ls.map lkD)]⟩) (fun k en st' => LbI st (fdD f d c l s) st.length ((f.ls.take k).map (linkB f)) en st') ⟨_, _, [], rfl, g1, Nat.le_refl _, r1, True.intro, fun _ z => nomatch z⟩ (fun k en st' ⟨_, _, _, _, g, _⟩ => wk1 (h.fr0 g).el) ?_ ?_
  · rintro k dd en s2 hd ⟨x2, x3, gs, rfl, g2, hr, er, hb, hg⟩
    have hd : (f.ls.map lkD)[k]? = some dd := hd
    rw [List.getElem?_map, Option.map_eq_some_iff] at hd
    obtain ⟨x, hx, rfl⟩ := hd
    have hk := (List.getElem?_eq_some_iff.mp hx).1
    obtain ⟨gx, dx, dx', _, kx⟩ := ok.l.ok x (List.mem_of_getElem? hx)
    have nx := nmD_at dx
    have gn := (nmD_gw ok dx).len
    have nx' := nmD_at dx'
    have gn' := (nmD_gw ok dx').len
    have gx := gx.len
    have m1 := (h.fr0 g2).ed
    have hgl := hb.len
    rw [List.length_map, List.length_take] at hgl
    refine ⟨_, rfl, ?_⟩
    have hm : (f.ls.take k).map (linkB f) ++ [linkB f x] = (f.ls.take (k + 1)).map (linkB f) := by rw [mem_split hx]; simp
    unfold bl_llaw_link_blocks_1
    rw [ok_seq, ok_set]
    refine Ok.mono (Q := fun d s => d = .str (linkR f x) ∧ s = s2) ?_ fun d s ⟨hd, hs⟩ => ?_
    · wide_open using [lkD, v_addS, m1, nx, nx']
      exact ⟨by walk_at "ln", by walk_at "ln", by walk_at "ln", by walk_at "ln", by walk_at "ln", rfl⟩
    subst hd hs
    rw [sq_nx]
    refine btail_ok (row := linkR f x) kx g2 hr er hb hg (by omega) (fun R s hR => ?_) fun en s hI => ?_
    · wide_open using [lkD]
      exact hR
    · rw [← hm]
      exact hI
  · rintro en s2 ⟨x2, x3, gs, rfl, g2, hr, er, hb, hg⟩
    have ec : (⟨f.ls.map lkD, [(l, f.ls.map lkD)]⟩ : Wk).items.length = f.ls.length := List.length_map ..
    rw [ec, List.take_length] at hb
    wide_open using [bt_llaw_link_blocks_1]
    exact q _ _ g2 er hb
theorem sblk_ok (h : FdAt st f d c l s) (ok : FdOk f) (q : LbQ st (f.ss.map (srcB f)) Q) : Ok (dn_llaw_source_blocks [fdD f d c l s] st) Q := by
  have p9 := ok.p9
  unfold dn_llaw_source_blocks b_llaw_source_blocks
  rw [ok_def]
  refine ⟨rfl, ?_⟩
  have g1 := Fr.push (F := FN) st (.lst [])
  have r1 := fr_at st (.lst [])
  wide_open using [(h.fr0 g1).es]
  generalize st ++ [O.lst []] = s1 at g1 r1 ⊢
  refine ok_loop0 (w := ⟨f.ss.map srD, [(s, f.ss.map srD)]⟩) (fun k en st' => LbI st (fdD f d c l s) st.length ((f.ss.take k).map (srcB f)) en st') ⟨_, _, [], rfl, g1, Nat.le_refl _, r1, True.intro, fun _ z => nomatch z⟩ (fun k en st' ⟨_, _, _, _, g, _⟩ => wk1 (h.fr0 g).es) ?_ ?_
  · rintro k dd en s2 hd ⟨x2, x3, gs, rfl, g2, hr, er, hb, hg⟩
    have hd : (f.ss.map srD)[k]? = some dd := hd
    rw [List.getElem?_map, Option.map_eq_some_iff] at hd
    obtain ⟨x, hx, rfl⟩ := hd
    have hk := (List.getElem?_eq_some_iff.mp hx).1
    obtain ⟨gx, dx, kx⟩ := ok.s.ok x (List.mem_of_getElem? hx)
    have nx := nmD_at dx
    have gn := (nmD_gw ok dx).len
    have gx := gx.len
    have m1 := (h.fr0 g2).ed
    have hgl := hb.len
    rw [List.length_map, List.length_take] at hgl
    refine ⟨_, rfl, ?_⟩
    have hm : (f.ss.take k).map (srcB f) ++ [srcB f x] = (f.ss.take (k + 1)).map (srcB f) := by rw [mem_split hx]; simp
    unfold bl_llaw_source_blocks_1
    rw [ok_seq, ok_set]
    refine Ok.mono (Q := fun d s => d = .str (srcR f x) ∧ s = s2) ?_ fun d s ⟨hd, hs⟩ => ?_
    · wide_open using [srD, v_addS, m1, nx]
      exact ⟨by walk_at "ln", by walk_at "ln", by walk_at "ln", rfl⟩
    subst hd hs
    rw [sq_nx]
    refine btail_ok (row := srcR f x) kx g2 hr er hb hg (by omega) (fun R s hR => ?_) fun en s hI => ?_
    · wide_open using [srD]
      exact hR
    · rw [← hm]
      exact hI
  · rintro en s2 ⟨x2, x3, gs, rfl, g2, hr, er, hb, hg⟩
    have ec : (⟨f.ss.map srD, [(s, f.ss.map srD)]⟩ : Wk).items.length = f.ss.length := List.length_map ..
    rw [ec, List.take_length] at hb
    wide_open using [bt_llaw_source_blocks_1]
    exact q _ _ g2 er hb
end

/-! ### the law's lines and text -/
section
variable {st : S} {f : Fd} {d c l s : Nat} {Q : D → S → Prop}
def WlI (st : S) (fd : D) (n : Nat) (L : List Str) (en : En) (st' : S) : Prop := ∃ r x2 x3, en = [some fd, some (.ref r), x2, x3] ∧ Fr FN st st' ∧ st.length ≤ r ∧ st'[r]? = some (.lst (L.map D.str)) ∧ L.length ≤ n
theorem llines_ok (h : FdAt st f d c l s) (ok : FdOk f) (q : ∀ st' r, Fr FN st st' → st.length ≤ r → st'[r]? = some (.lst ((linesF f).map D.str)) → Q (.ref r) st') : Ok (dn_llaw_lines [fdD f d c l s] st) Q := by
  have d6 := ok.d6
  have p9 := ok.p9
  unfold dn_llaw_lines b_llaw_lines
  rw [ok_def]
  refine ⟨rfl, ?_⟩
  wide_open using [h.ed]
  refine ok_lcM (fun d => match d with | .str w => .str (devR w) | d => d) (wk1 h.ed) (by show (f.ds.map D.str).length < _; rw [List.length_map]; exact sml' (by omega)) (fun i d hd => ?_) ?_
  · have hd : (f.ds.map D.str)[i]? = some d := hd
    rw [List.getElem?_map, Option.map_eq_some_iff] at hd
    obtain ⟨w, hw, rfl⟩ := hd
    have g := (ok.d.gw w (List.mem_of_getElem? hw)).len
    refine ⟨_, rfl, ?_⟩
    wide_open using [v_addS]
    exact ⟨by walk_at "ln", rfl⟩
  have e0 : ((f.ds.map D.str).map fun d => match d with | .str w => .str (devR w) | d => d) = (f.ds.map devR).map D.str := by rw [List.map_map, List.map_map]; rfl
  rw [show (⟨f.ds.map D.str, [(d, f.ds.map D.str)]⟩ : Wk).items = f.ds.map D.str from rfl, e0]
  have r1 := fr_at st (.lst ((f.ds.map devR).map D.str))
  have g1 := Fr.push (F := FN) st (.lst ((f.ds.map devR).map D.str))
  generalize st ++ [O.lst ((f.ds.map devR).map D.str)] = s1 at r1 g1 ⊢
  refine cblk_ok (h.fr0 g1) ok fun s2 g2s f2 e2 b2 => ?_
  have g2 := g1.trans f2
  refine lblk_ok (h.fr0 g2) ok fun s3 g3s f3 e3 b3 => ?_
  have g3 := g2.trans f3
  have e2' := f3.at0 e2
  have n2 := b2.len
  have n3 := b3.len
  rw [List.length_map] at n2 n3
  rw [v_addL e2' e3]
  refine ⟨by rw [List.length_map, List.length_map, sz24]; omega, ?_⟩
  have f4 := Fr.push (F := FN) s3 (.lst (g2s.map D.ref ++ g3s.map D.ref))
  have e4 := fr_at s3 (.lst (g2s.map D.ref ++ g3s.map D.ref))
  have b4 := BlkI.app (b3.fr f4) ((b2.fr f3).fr f4)
  generalize s3 ++ [O.lst (g2s.map D.ref ++ g3s.map D.ref)] = s4 at f4 e4 b4 ⊢
  have g4 := g3.trans f4
  refine sblk_ok (h.fr0 g4) ok fun s5 g5s f5 e5 b5 => ?_
  have n5 := b5.len
  rw [List.length_map] at n5
  rw [v_addL (f5.at0 e4) e5]
  refine ⟨by rw [List.length_append, List.length_map, List.length_map, List.length_map, sz24]; omega, ?_⟩
  have g5 := g4.trans f5
  have f6 := Fr.push (F := FN) s5 (.lst (g2s.map D.ref ++ g3s.map D.ref ++ g5s.map D.ref))
  have e6 := fr_at s5 (.lst (g2s.map D.ref ++ g3s.map D.ref ++ g5s.map D.ref))
  have b6 : BlkI _ _ (blksF f) := BlkI.app (b5.fr f6) ((b4.fr f5).fr f6)
  generalize s5 ++ [O.lst (g2s.map D.ref ++ g3s.map D.ref ++ g5s.map D.ref)] = s6 at f6 e6 b6 ⊢
  have g6 := g5.trans f6
  rw [← List.map_append, ← List.map_append] at e6
  generalize g2s ++ g3s ++ g5s = gs at e6 b6
  have r6 := (((f2.trans f3).trans f4).trans f5).trans f6 |>.at0 r1
  have bl := blks_len ok
  have bn := blks_n ok
  have nb := b6.len
  have fl6 : ∀ k, ((blksF f).take k).flatten.length ≤ 45 := fun k => by
    have := flat_len (m := 5) (B := (blksF f).take k) fun b hb => (bl b (List.mem_of_mem_take hb)).2
    rw [List.length_take] at this
    omega
  wide_open using [e6]
  refine ok_loop0 (w := ⟨gs.map D.ref, [(s5.length, gs.map D.ref)]⟩) (fun k en st' => Fr FN s6 st' ∧ WlI st (fdD f d c l s) 51 (f.ds.map devR ++ ((blksF f).take k).flatten) en st') ⟨.refl _, _, _, _, rfl, g6, Nat.le_refl _, ?_, ?_⟩ (fun k en st' ⟨g, _⟩ => wk1 (g.at0 e6)) ?_ ?_
  · simpa using r6
  · simp; omega
  · rintro k dd en s7 hd ⟨f7, r, x2, x3, rfl, g7, hr, er, hl⟩
    have hd : (gs.map D.ref)[k]? = some dd := hd
    rw [List.getElem?_map, Option.map_eq_some_iff] at hd
    obtain ⟨g, hg, rfl⟩ := hd
    obtain ⟨b, hb, eb⟩ := (b6.fr f7).get hg
    refine ⟨_, rfl, ?_⟩
    have hm : ((blksF f).take k).flatten ++ b = ((blksF f).take (k + 1)).flatten := by rw [mem_split hb]; simp
    have bb := (bl b (List.mem_of_getElem? hb)).2
    have fk := fl6 (k + 1)
    wide_open using [bl_llaw_lines_1]
    rw [v_addL er eb]
    refine ⟨by rw [List.length_map, List.length_map, sz24]; omega, f7.trans (.push _ _), _, _, _, rfl, g7.trans (.push _ _), g7.len, ?_, ?_⟩
    · rw [fr_at, ← List.map_append, List.append_assoc, hm]
    · rw [List.length_append, List.length_map]; omega
  rintro en s7 ⟨f7, r, x2, x3, rfl, g7, hr, er, hl⟩
  have ec : (⟨gs.map D.ref, [(s5.length, gs.map D.ref)]⟩ : Wk).items.length = (blksF f).length := by rw [← nb]; exact List.length_map ..
  rw [ec, List.take_length] at er
  have f2 := ok.f2
  have nf : ∀ {Q : D → S → Prop}, Ok (dStr [.int (f.ft : Nat)] s7) Q ↔ Q (.str (nmS (f.ft : Nat))) s7 := v_nmS (by omega) (by omega)
  have nl := nmS_len (i := (f.ft : Nat)) (by omega) (by omega)
  have hL : linesF f = f.ds.map devR ++ (blksF f).flatten ++ fltR f := rfl
  rw [ec, List.take_length] at hl
  generalize f.ds.map devR ++ (blksF f).flatten = M at er hl hL
  by_cases hft : 0 < f.ft
  · have hft' : (0 : Int) < (f.ft : Nat) := by omega
    have hL' : linesF f = M ++ [Str.ofString "faults " ++ nmS (f.ft : Nat)] := by rw [hL]; unfold fltR; rw [if_pos hft]
    wide_open using [bt_llaw_lines_1, hft', nf, v_addS, er]
    refine ⟨by walk_at "ln", by rw [List.length_map]; exact sml' (by omega), ?_⟩
    wide_open using [bi_llaw_lines_1]
    exact q _ _ (g7.set (.inr hr)) hr (by rw [st_at er, hL', List.map_append]; rfl)
  · have hft' : ¬ (0 : Int) < (f.ft : Nat) := by omega
    have hL' : linesF f = M := by rw [hL]; unfold fltR; rw [if_neg hft, List.append_nil]
    wide_open using [bt_llaw_lines_1, hft', bi_llaw_lines_1]
    exact q _ _ g7 hr (by rw [hL']; exact er)
end
theorem ltext_ok {st : S} {r : Nat} {L : List Str} {Q : D → S → Prop} (h : st[r]? = some (.lst (L.map D.str))) (hL : ∀ w ∈ L, w.length ≤ 60) (hl : L.length ≤ 100) (q : Q (.str (textF L)) st) : Ok (dn_llaw_text [.ref r] st) Q := by
  unfold dn_llaw_text b_llaw_text
  rw [ok_def]
  refine ⟨rfl, ?_⟩
  wide_open using [h]
  refine ok_loop0 (w := ⟨L.map D.str, [(r, L.map D.str)]⟩) (fun k en st' => (∃ x2 t, en = [some (.ref r), some (.str t), x2] ∧ t = textF (L.take k)) ∧ st' = st) ⟨⟨_, _, rfl, rfl⟩, rfl⟩ (fun k en st' ⟨_, e⟩ => by subst e; exact wk1 h) ?_ ?_
  · rintro k dd en s1 hd ⟨⟨x2, t, rfl, ht⟩, rfl⟩
    have hd : (L.map D.str)[k]? = some dd := hd
    rw [List.getElem?_map, Option.map_eq_some_iff] at hd
    obtain ⟨w, hw, rfl⟩ := hd
    refine ⟨_, rfl, ?_⟩
    have w60 := hL w (List.mem_of_getElem? hw)
    have tz : t.length ≤ 6100 := by
      rw [ht, str_len, tl_text]
      have := flat60 (L := L.take k) fun x hx => hL x (List.mem_of_mem_take hx)
      rw [List.length_take] at this
      omega
    wide_open using [bl_llaw_text_1, v_addS]
    refine ⟨by walk_at "ln", by walk_at "ln", _, _, rfl, rfl, ?_⟩
    refine str_ext ?_
    rw [TL.tl_append, TL.tl_append, ht, tl_text, tl_text, mem_split hw, show tl (Str.ofString "\n") = [10] by decide +kernel]
    simp
  · rintro en s1 ⟨⟨x2, t, rfl, ht⟩, rfl⟩
    have ec : (⟨L.map D.str, [(r, L.map D.str)]⟩ : Wk).items.length = L.length := List.length_map ..
    rw [ec, List.take_length] at ht
    subst ht
    wide_open using [bt_llaw_text_1]
    exact q

theorem law_true (ns : List Int) (hn : ns.length ≤ 63) : ∃ st', dn_law [.ref 0] [.frz (ns.map D.int)] = .ok (.bl true) st' := by
  suffices h : Ok (dn_law [.ref 0] [.frz (ns.map D.int)]) fun d _ => d = .bl true by
    obtain ⟨d, st', e, rfl⟩ := h.ex
    exact ⟨st', e⟩
  unfold dn_law b_law
  rw [ok_def]
  refine ⟨rfl, ?_⟩
  wide_open using []
  refine draws_ok (m := 26) (ns := ns) rfl (by decide) fun st1 l1 o1 r1 => ?_
  have r1 : Rows st1 1 26 := r1
  have l1 : st1.length = 2 := l1
  try wide_open using []
  refine parts_ok r1 (by decide) fun f d c l s st2 f2 ok at2 ld dc cl ls sl => ?_
  wide_open using [at2.ed]
  have g3 := Fr.push (F := FN) st2 (.lst (f.ds.map D.str))
  have a3 := fr_at st2 (.lst (f.ds.map D.str))
  have at3 := at2.fr0 g3
  generalize hs3 : st2 ++ [O.lst (f.ds.map D.str)] = st3 at g3 a3 at3 ⊢
  wide_open using [at3.ec]
  have g4 := g3.trans (Fr.push (F := FN) st3 (.lst (f.cs.map ckD)))
  have b4 := fr_at st3 (.lst (f.cs.map ckD))
  have a4 := (Fr.push (F := FN) st3 (.lst (f.cs.map ckD))).at0 a3
  have at4 := at2.fr0 g4
  generalize hs4 : st3 ++ [O.lst (f.cs.map ckD)] = st4 at g4 a4 b4 at4 ⊢
  wide_open using [at4.el]
  have g5 := g4.trans (Fr.push (F := FN) st4 (.lst (f.ls.map lkD)))
  have c5 := fr_at st4 (.lst (f.ls.map lkD))
  have b5 := (Fr.push (F := FN) st4 (.lst (f.ls.map lkD))).at0 b4
  have a5 := (Fr.push (F := FN) st4 (.lst (f.ls.map lkD))).at0 a4
  have at5 := at2.fr0 g5
  generalize hs5 : st4 ++ [O.lst (f.ls.map lkD)] = st5 at g5 a5 b5 c5 at5 ⊢
  wide_open using [at5.es]
  have g6 := g5.trans (Fr.push (F := FN) st5 (.lst (f.ss.map srD)))
  have d6 := fr_at st5 (.lst (f.ss.map srD))
  have c6 := (Fr.push (F := FN) st5 (.lst (f.ss.map srD))).at0 c5
  have b6 := (Fr.push (F := FN) st5 (.lst (f.ss.map srD))).at0 b5
  have a6 := (Fr.push (F := FN) st5 (.lst (f.ss.map srD))).at0 a5
  have at6 := at2.fr0 g6
  generalize hs6 : st5 ++ [O.lst (f.ss.map srD)] = st6 at g6 a6 b6 c6 d6 at6 ⊢
  refine frame_mk a6 b6 c6 d6 fun st8 f8 fm8 => ?_
  have at8 := at6.fr0 f8
  wide_open using []
  refine write_ok fm8 ok fun st9 f9 => ?_
  have fm9 := fm8.fr0 f9
  have at9 := at8.fr0 f9
  wide_open using []
  refine llines_ok at9 ok fun st10 r f10 hr er => ?_
  have ll := lines_len ok
  refine ltext_ok er ll.1 (by omega) ?_
  have fm10 := fm9.fr0 f10
  have at10 := at9.fr0 f10
  have fm10' := fm10
  obtain ⟨A, B, C, E, h0, h1, h2, h3, h4, _⟩ := fm10
  wide_open using [bi_law_1, h0, lf_dev, at10.ed]
  refine eq_same h1 at10.ed (ds_pure ok.d) ?_
  wide_open using [h0, lf_clk]
  refine eq_same h2 at10.ec (ck_pure ok.c) ?_
  wide_open using [h0, lf_lnk]
  refine eq_same h3 at10.el (lk_pure ok.l) ?_
  wide_open using [bi_law_2, h0, lf_src]
  refine eq_same h4 at10.es (sr_pure ok.s) ?_
  wide_open using [h0, lf_flt]
  refine write_ok fm10' ok fun st11 f11 => ?_
  wide_open using []

end G


open PySem PySem.W PyProof.Rows in
set_option maxRecDepth 100000 in
set_option maxHeartbeats 0 in
theorem PySem.Challenge.cw_whensure_k02_written_forms_holds : PySem.Challenge.rw_whensure_k02_written_forms.Holds := by
  w_on; o_law; k_head; (case hw => w_witness2)
  k_fill
  refine Dn.walkCT (ns := ["write_frame"]) (l := PySem.Challenge.rw_whensure_k02_written_forms) (k := 5) (x := "_law_script") (f := G.dn_law) rfl rfl ⟨rfl, by decide, by decide⟩ (fun w h Y => PySem.W.kIn_of Y) (by rfl) (fun P => by rfl) G.law_true ?F
  case F =>
    intro w mg fa h KX G0 hmg
    refine' Dn.use_none (x := "range") KX G0 ?a (fun m_range => ?_); (case a => k_is)
    refine' Dn.use_none (x := "len") KX G0 ?a (fun m_len => ?_); (case a => k_is)
    refine' Dn.use_none (x := "int") KX G0 ?a (fun m_int => ?_); (case a => k_is)
    refine' Dn.use_none (x := "sum") KX G0 ?a (fun m_sum => ?_); (case a => k_is)
    refine' Dn.use_none (x := "tuple") KX G0 ?a (fun m_tuple => ?_); (case a => k_is)
    refine' Dn.use_none (x := "min") KX G0 ?a (fun m_min => ?_); (case a => k_is)
    refine' Dn.use_none (x := "list") KX G0 ?a (fun m_list => ?_); (case a => k_is)
    refine' Dn.use_none (x := "str") KX G0 ?a (fun m_str => ?_); (case a => k_is)
    refine' Dn.use_none (x := "isinstance") KX G0 ?a (fun m_isinstance => ?_); (case a => k_is)
    refine' Dn.use_def (x := "_law_draws") (qual := "_law_draws") (st := G.s_llaw_draws) KX G0 ?a ?l ?c ?k (fun d_llaw_draws => ?_); (case a => k_is); (case l => k_is); (case c => k_is); (case k => k_is)
    refine' Dn.use_def (x := "_law_take") (qual := "_law_take") (st := G.s_llaw_take) KX G0 ?a ?l ?c ?k (fun d_llaw_take => ?_); (case a => k_is); (case l => k_is); (case c => k_is); (case k => k_is)
    refine' Dn.use_def (x := "_law_counts") (qual := "_law_counts") (st := G.s_llaw_counts) KX G0 ?a ?l ?c ?k (fun d_llaw_counts => ?_); (case a => k_is); (case l => k_is); (case c => k_is); (case k => k_is)
    refine' Dn.use_def (x := "_law_word") (qual := "_law_word") (st := G.s_llaw_word) KX G0 ?a ?l ?c ?k (fun d_llaw_word => ?_); (case a => k_is); (case l => k_is); (case c => k_is); (case k => k_is)
    refine' Dn.use_def (x := "_law_ways") (qual := "_law_ways") (st := G.s_llaw_ways) KX G0 ?a ?l ?c ?k (fun d_llaw_ways => ?_); (case a => k_is); (case l => k_is); (case c => k_is); (case k => k_is)
    refine' Dn.use_def (x := "_law_number") (qual := "_law_number") (st := G.s_llaw_number) KX G0 ?a ?l ?c ?k (fun d_llaw_number => ?_); (case a => k_is); (case l => k_is); (case c => k_is); (case k => k_is)
    refine' Dn.use_def (x := "_law_kinds") (qual := "_law_kinds") (st := G.s_llaw_kinds) KX G0 ?a ?l ?c ?k (fun d_llaw_kinds => ?_); (case a => k_is); (case l => k_is); (case c => k_is); (case k => k_is)
    refine' Dn.use_def (x := "_law_parts") (qual := "_law_parts") (st := G.s_llaw_parts) KX G0 ?a ?l ?c ?k (fun d_llaw_parts => ?_); (case a => k_is); (case l => k_is); (case c => k_is); (case k => k_is)
    refine' Dn.use_def (x := "kind_rows") (qual := "kind_rows") (st := G.s_kind_rows) KX G0 ?a ?l ?c ?k (fun d_kind_rows => ?_); (case a => k_is); (case l => k_is); (case c => k_is); (case k => k_is)
    refine' Dn.use_defC (x := "write_frame") (qual := "write_frame") (st := G.s_write_frame) KX G0 ?a ?l ?c ?k (fun d_write_frame => ?_); (case a => k_is); (case l => k_is); (case c => k_is); (case k => k_is)
    refine' Dn.use_tab (x := "write_frame") KX ?a ?l ?e ?l2 ?v (fun ht_write_frame => ?_); (case a => k_is); (case l => k_is); (case e => exact rfl); (case l2 => k_is); (case v => exact rfl)
    refine' Dn.use_def (x := "_law_text") (qual := "_law_text") (st := G.s_llaw_text) KX G0 ?a ?l ?c ?k (fun d_llaw_text => ?_); (case a => k_is); (case l => k_is); (case c => k_is); (case k => k_is)
    refine' Dn.use_def (x := "_law_kind_rows") (qual := "_law_kind_rows") (st := G.s_llaw_kind_rows) KX G0 ?a ?l ?c ?k (fun d_llaw_kind_rows => ?_); (case a => k_is); (case l => k_is); (case c => k_is); (case k => k_is)
    refine' Dn.use_def (x := "_law_source_blocks") (qual := "_law_source_blocks") (st := G.s_llaw_source_blocks) KX G0 ?a ?l ?c ?k (fun d_llaw_source_blocks => ?_); (case a => k_is); (case l => k_is); (case c => k_is); (case k => k_is)
    refine' Dn.use_def (x := "_law_clock_blocks") (qual := "_law_clock_blocks") (st := G.s_llaw_clock_blocks) KX G0 ?a ?l ?c ?k (fun d_llaw_clock_blocks => ?_); (case a => k_is); (case l => k_is); (case c => k_is); (case k => k_is)
    refine' Dn.use_def (x := "_law_link_blocks") (qual := "_law_link_blocks") (st := G.s_llaw_link_blocks) KX G0 ?a ?l ?c ?k (fun d_llaw_link_blocks => ?_); (case a => k_is); (case l => k_is); (case c => k_is); (case k => k_is)
    refine' Dn.use_def (x := "_law_lines") (qual := "_law_lines") (st := G.s_llaw_lines) KX G0 ?a ?l ?c ?k (fun d_llaw_lines => ?_); (case a => k_is); (case l => k_is); (case c => k_is); (case k => k_is)
    refine' Dn.use_def (x := "law") (qual := "law") (st := G.s_law) KX G0 ?a ?l ?c ?k (fun d_law => ?_); (case a => k_is); (case l => k_is); (case c => k_is); (case k => k_is)
    refine' G.use_Frame KX G0 ?aC ?pg ?hd ?po ?sa ?n_devices ?n_clocks ?n_links ?n_sources ?n_faults ?at_init ?fn_init ?lk_init ?co_init ?kp_init ?mk ?kc (fun C_Frame h_Frame => ?_)
    (case aC => k_is)
    (case pg => k_is)
    (case hd => k_is)
    (case po => k_is)
    (case sa => k_is)
    (case n_devices => k_is)
    (case n_clocks => k_is)
    (case n_links => k_is)
    (case n_sources => k_is)
    (case n_faults => k_is)
    (case at_init => k_is)
    (case fn_init => k_is)
    (case lk_init => k_is)
    (case co_init => k_is)
    (case kp_init => k_is)
    (case mk => k_is)
    (case kc => k_is)
    refine Dn.law_finT ["write_frame"] (Dn.clmT PySem.Challenge.rw_whensure_k02_written_forms.prog w [("Frame", C_Frame)] [Dn.tabP ht_write_frame]) rfl rfl ⟨Dn.all_cons (Dn.tb_in ht_write_frame (by simp)) (Dn.all_nil), rfl⟩ d_law hmg (fun _ _ _ _ _ _ _ => rfl) fun base tabs fa fd F => ?_
    have tb_write_frame := tabs _ (Dn.tab_in ht_write_frame (by simp))
    obtain ⟨f_Frame_devices, f_Frame_clocks, f_Frame_links, f_Frame_sources, f_Frame_faults, t_Frame_init⟩ := h_Frame (Dn.clmT PySem.Challenge.rw_whensure_k02_written_forms.prog w [("Frame", C_Frame)] [Dn.tabP ht_write_frame]) (by rfl)
    have c_llaw_draws := G.ok_llaw_draws (P := PySem.Challenge.rw_whensure_k02_written_forms.prog) (w := w) (mg := mg) (base := base) (cl := (Dn.clmT PySem.Challenge.rw_whensure_k02_written_forms.prog w [("Frame", C_Frame)] [Dn.tabP ht_write_frame])) d_llaw_draws m_range m_len m_int
    have c_llaw_take := G.ok_llaw_take (P := PySem.Challenge.rw_whensure_k02_written_forms.prog) (w := w) (mg := mg) (base := base) (cl := (Dn.clmT PySem.Challenge.rw_whensure_k02_written_forms.prog w [("Frame", C_Frame)] [Dn.tabP ht_write_frame])) d_llaw_take m_int
    have c_llaw_counts := G.ok_llaw_counts (P := PySem.Challenge.rw_whensure_k02_written_forms.prog) (w := w) (mg := mg) (base := base) (cl := (Dn.clmT PySem.Challenge.rw_whensure_k02_written_forms.prog w [("Frame", C_Frame)] [Dn.tabP ht_write_frame])) d_llaw_counts m_sum c_llaw_take
    have c_llaw_word := G.ok_llaw_word (P := PySem.Challenge.rw_whensure_k02_written_forms.prog) (w := w) (mg := mg) (base := base) (cl := (Dn.clmT PySem.Challenge.rw_whensure_k02_written_forms.prog w [("Frame", C_Frame)] [Dn.tabP ht_write_frame])) d_llaw_word m_range m_len c_llaw_take
    have c_llaw_ways := G.ok_llaw_ways (P := PySem.Challenge.rw_whensure_k02_written_forms.prog) (w := w) (mg := mg) (base := base) (cl := (Dn.clmT PySem.Challenge.rw_whensure_k02_written_forms.prog w [("Frame", C_Frame)] [Dn.tabP ht_write_frame])) d_llaw_ways m_range m_int c_llaw_take
    have c_llaw_number := G.ok_llaw_number (P := PySem.Challenge.rw_whensure_k02_written_forms.prog) (w := w) (mg := mg) (base := base) (cl := (Dn.clmT PySem.Challenge.rw_whensure_k02_written_forms.prog w [("Frame", C_Frame)] [Dn.tabP ht_write_frame])) d_llaw_number c_llaw_take
    have c_llaw_kinds := G.ok_llaw_kinds (P := PySem.Challenge.rw_whensure_k02_written_forms.prog) (w := w) (mg := mg) (base := base) (cl := (Dn.clmT PySem.Challenge.rw_whensure_k02_written_forms.prog w [("Frame", C_Frame)] [Dn.tabP ht_write_frame])) d_llaw_kinds m_range m_tuple m_min m_int c_llaw_word c_llaw_take c_llaw_number
    have c_llaw_parts := G.ok_llaw_parts (P := PySem.Challenge.rw_whensure_k02_written_forms.prog) (w := w) (mg := mg) (base := base) (cl := (Dn.clmT PySem.Challenge.rw_whensure_k02_written_forms.prog w [("Frame", C_Frame)] [Dn.tabP ht_write_frame])) d_llaw_parts m_range m_min m_len c_llaw_counts c_llaw_take c_llaw_word c_llaw_ways c_llaw_kinds
    have c_Frame_init := G.ok_Frame_init (P := PySem.Challenge.rw_whensure_k02_written_forms.prog) (w := w) (mg := mg) (base := base) (cl := (Dn.clmT PySem.Challenge.rw_whensure_k02_written_forms.prog w [("Frame", C_Frame)] [Dn.tabP ht_write_frame])) t_Frame_init m_list f_Frame_devices f_Frame_clocks f_Frame_links f_Frame_sources f_Frame_faults
    have c_kind_rows := G.ok_kind_rows (P := PySem.Challenge.rw_whensure_k02_written_forms.prog) (w := w) (mg := mg) (base := base) (cl := (Dn.clmT PySem.Challenge.rw_whensure_k02_written_forms.prog w [("Frame", C_Frame)] [Dn.tabP ht_write_frame])) d_kind_rows m_str
    have c_write_frame := G.ok_write_frame (P := PySem.Challenge.rw_whensure_k02_written_forms.prog) (w := w) (mg := mg) (base := base) (cl := (Dn.clmT PySem.Challenge.rw_whensure_k02_written_forms.prog w [("Frame", C_Frame)] [Dn.tabP ht_write_frame])) d_write_frame tb_write_frame (by simp [Dn.clmT, Dn.tabP]) m_str f_Frame_devices f_Frame_clocks f_Frame_links f_Frame_sources f_Frame_faults c_kind_rows
    have c_llaw_text := G.ok_llaw_text (P := PySem.Challenge.rw_whensure_k02_written_forms.prog) (w := w) (mg := mg) (base := base) (cl := (Dn.clmT PySem.Challenge.rw_whensure_k02_written_forms.prog w [("Frame", C_Frame)] [Dn.tabP ht_write_frame])) d_llaw_text 
    have c_llaw_kind_rows := G.ok_llaw_kind_rows (P := PySem.Challenge.rw_whensure_k02_written_forms.prog) (w := w) (mg := mg) (base := base) (cl := (Dn.clmT PySem.Challenge.rw_whensure_k02_written_forms.prog w [("Frame", C_Frame)] [Dn.tabP ht_write_frame])) d_llaw_kind_rows m_str
    have c_llaw_source_blocks := G.ok_llaw_source_blocks (P := PySem.Challenge.rw_whensure_k02_written_forms.prog) (w := w) (mg := mg) (base := base) (cl := (Dn.clmT PySem.Challenge.rw_whensure_k02_written_forms.prog w [("Frame", C_Frame)] [Dn.tabP ht_write_frame])) d_llaw_source_blocks c_llaw_kind_rows
    have c_llaw_clock_blocks := G.ok_llaw_clock_blocks (P := PySem.Challenge.rw_whensure_k02_written_forms.prog) (w := w) (mg := mg) (base := base) (cl := (Dn.clmT PySem.Challenge.rw_whensure_k02_written_forms.prog w [("Frame", C_Frame)] [Dn.tabP ht_write_frame])) d_llaw_clock_blocks c_llaw_kind_rows
    have c_llaw_link_blocks := G.ok_llaw_link_blocks (P := PySem.Challenge.rw_whensure_k02_written_forms.prog) (w := w) (mg := mg) (base := base) (cl := (Dn.clmT PySem.Challenge.rw_whensure_k02_written_forms.prog w [("Frame", C_Frame)] [Dn.tabP ht_write_frame])) d_llaw_link_blocks c_llaw_kind_rows
    have c_llaw_lines := G.ok_llaw_lines (P := PySem.Challenge.rw_whensure_k02_written_forms.prog) (w := w) (mg := mg) (base := base) (cl := (Dn.clmT PySem.Challenge.rw_whensure_k02_written_forms.prog w [("Frame", C_Frame)] [Dn.tabP ht_write_frame])) d_llaw_lines m_str c_llaw_source_blocks c_llaw_clock_blocks c_llaw_link_blocks
    exact G.ok_law F m_list m_isinstance m_str f_Frame_devices f_Frame_clocks f_Frame_links f_Frame_sources f_Frame_faults c_llaw_draws c_llaw_parts c_Frame_init c_write_frame c_llaw_text c_llaw_lines
#print axioms PySem.Challenge.cw_whensure_k02_written_forms_holds
