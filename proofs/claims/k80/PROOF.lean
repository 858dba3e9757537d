import PyProof.Rows.All
import Wide.All
import OpenK.AllK
import Wide.FinOn
import HandS.ForMost
import HandS.Exc
import HandS.CallSlots
import HandS.More
import HandS.TupAny
import HandS.TupMul
import HandS.Deep
import HandS.SortInts
import HandS.Conv
import HandS.Wide
import HandS.Style
import HandS.IsInst
import HandS.DictComp
import HandS.SetFor
import HandS.WordsExc
import HandS.Defaults
import HandS.Head0
import HandS.Head1
import HandS.Head2
import HandS.HeadEnd
import HandS.HeadHook1
import HandS.HeadHook2
import PySem.Challenge.RW_folderkin_k80_blocks_that_must_come
set_option Elab.async false
set_option linter.all false
set_option maxRecDepth 100000
set_option maxHeartbeats 4000000
/-! Dn1: data by value, a memory of the mutable objects, how both stand in the abstract heap. -/
namespace Dn
open PySem L2

/-- the classes of the program -/
inductive XN where
  | FolderkinError | PowerCut | InvalidBlock | InvalidPattern | InvalidBytes | InvalidScript
  deriving DecidableEq
inductive CN where
  | Entry | Store | Reader | Sharing | Rule | Pattern | Atoms | Script | Guest | Lines | Book | Pull | Device | World | Sender | Receiver | OneWayWorld
  deriving DecidableEq

/-- a value: what never changes by value, what may change by its address -/
inductive D where
  | non | bl (b : Bool) | int (i : Int) | str (x : Str)
  | tup (xs : List D) | lst (xs : List D) | scr (xs : List Int)
  | ins (c : CN) (fs : List (Str × D))
  | fnv (x : Str) | ref (a : Addr)

/-- an object that may change -/
inductive MO where
  | lst (xs : List D) | dic (kvs : List (Key × D)) | ins (c : CN) (fs : List (Str × D))
abbrev Mem := Addr → Option MO
def upm (M : Mem) (a : Addr) (o : MO) : Mem := fun b => if b = a then some o else M b
theorem upm_same {M : Mem} {a : Addr} {o : MO} : upm M a o a = some o := by unfold upm; rw [if_pos rfl]
theorem upm_ne {M : Mem} {a b : Addr} {o : MO} (h : b ≠ a) : upm M a o b = M b := by unfold upm; rw [if_neg h]
theorem upm_upm {M : Mem} {a : Addr} {o u : MO} : upm (upm M a o) a u = upm M a u := by funext b; unfold upm; split <;> rfl
theorem upm_self {M : Mem} {a : Addr} {o : MO} (h : M a = some o) : upm M a o = M := by
  funext b; unfold upm; split
  · subst b; exact h.symm
  · rfl
theorem upm_comm {M : Mem} {a b : Addr} {o u : MO} (h : a ≠ b) : upm (upm M a o) b u = upm (upm M b u) a o := by
  funext c; unfold upm
  by_cases h1 : c = b
  · subst h1; rw [if_pos rfl, if_neg (Ne.symm h), if_pos rfl]
  · rw [if_neg h1]
    by_cases h2 : c = a
    · subst h2; rw [if_pos rfl, if_pos rfl]
    · rw [if_neg h2, if_neg h2, if_neg h1]
def dlm (M : Mem) (a : Addr) : Mem := fun b => if b = a then none else M b
theorem dlm_same {M : Mem} {a : Addr} : dlm M a a = none := by unfold dlm; rw [if_pos rfl]
theorem dlm_ne {M : Mem} {a b : Addr} (h : b ≠ a) : dlm M a b = M b := by unfold dlm; rw [if_neg h]
theorem dlm_upm {M : Mem} {a : Addr} {o : MO} (h : M a = none) : dlm (upm M a o) a = M := by
  funext b; unfold dlm upm; split
  · subst b; exact h.symm
  · rfl

/-- what stands fast under all this: the written part, where the classes and the defs stand -/
structure Bs where
  K : PySem.W.Frag
  adr : CN → Addr
  xad : XN → Addr
  fad : Str → Addr

/-- a may be the place of something that never changes -/
def Im (Z : List Addr) (M : Mem) (a : Addr) : Prop := M a = none ∧ a ∉ Z
def nil0 : Hp := fun _ => none

mutual
def Rp (B : Bs) (H : Hp) (I : Addr → Prop) : D → V → Prop
  | .non, v => v = .non
  | .bl b, v => v = .bl b
  | .int i, v => v = .int i
  | .str x, v => v = .str x
  | .fnv x, v => v = .ref (B.fad x)
  | .ref a, v => v = .ref a
  | .scr xs, v => ∃ a, v = .ref a ∧ ((I a ∧ Rd H a (.lst (xs.map V.int))) ∨ SqL B.K nil0 a (xs.map V.int))
  | .tup xs, v => ∃ a vs, v = .ref a ∧ ((I a ∧ H a = some (.tup vs)) ∨ SqT B.K nil0 a vs) ∧ RpL B H I xs vs
  | .lst xs, v => ∃ a vs, v = .ref a ∧ I a ∧ H a = some (.lst vs) ∧ RpL B H I xs vs
  | .ins c fs, v => ∃ a dx vs, v = .ref a ∧ I a ∧ H a = some (.ins (B.adr c) dx vs) ∧ RpF B H I fs vs
def RpL (B : Bs) (H : Hp) (I : Addr → Prop) : List D → List V → Prop
  | [], vs => vs = []
  | d :: ds, vs => ∃ v ws, vs = v :: ws ∧ Rp B H I d v ∧ RpL B H I ds ws
def RpF (B : Bs) (H : Hp) (I : Addr → Prop) : List (Str × D) → List (Str × V) → Prop
  | [], vs => vs = []
  | (f, d) :: ds, vs => ∃ v ws, vs = (f, v) :: ws ∧ Rp B H I d v ∧ RpF B H I ds ws
end

section
variable {B : Bs} {H H' : Hp} {I I' : Addr → Prop}
theorem sqT_nil {K : PySem.W.Frag} {a : Addr} {xs : List V} (h : SqT K nil0 a xs) (H : Hp) : SqT K H a xs := by
  rcases h with (h | ⟨o, h⟩) | h
  · cases h
  · cases h
  · exact .inr h
theorem sqL_nil {K : PySem.W.Frag} {a : Addr} {xs : List V} (h : SqL K nil0 a xs) (H : Hp) : SqL K H a xs := by
  rcases h with (h | ⟨o, h⟩) | h
  · cases h
  · cases h
  · exact .inr h
theorem rd_mono {a : Addr} {u : HO} (m : ∀ a o, I a → H a = some o → I' a ∧ H' a = some o) (i : I a) (h : Rd H a u) : I' a ∧ Rd H' a u := by
  rcases h with h | ⟨o, h⟩
  · exact ⟨(m a _ i h).1, .inl (m a _ i h).2⟩
  · exact ⟨(m a _ i h).1, .inr ⟨o, (m a _ i h).2⟩⟩
mutual
theorem Rp.mono (m : ∀ a o, I a → H a = some o → I' a ∧ H' a = some o) : ∀ {d : D} {v : V}, Rp B H I d v → Rp B H' I' d v
  | .non, _, h => h
  | .bl _, _, h => h
  | .int _, _, h => h
  | .str _, _, h => h
  | .fnv _, _, h => h
  | .ref _, _, h => h
  | .scr xs, v, ⟨a, e, s⟩ => ⟨a, e, s.elim (fun s => .inl (rd_mono m s.1 s.2)) .inr⟩
  | .tup xs, v, ⟨a, vs, e, s, r⟩ => ⟨a, vs, e, s.elim (fun s => .inl (m a _ s.1 s.2)) .inr, RpL.mono m r⟩
  | .lst xs, v, ⟨a, vs, e, i, s, r⟩ => ⟨a, vs, e, (m a _ i s).1, (m a _ i s).2, RpL.mono m r⟩
  | .ins c fs, v, ⟨a, dx, vs, e, i, s, r⟩ => ⟨a, dx, vs, e, (m a _ i s).1, (m a _ i s).2, RpF.mono m r⟩
theorem RpL.mono (m : ∀ a o, I a → H a = some o → I' a ∧ H' a = some o) : ∀ {ds : List D} {vs : List V}, RpL B H I ds vs → RpL B H' I' ds vs
  | [], _, h => h
  | d :: ds, vs, ⟨v, ws, e, r, s⟩ => ⟨v, ws, e, Rp.mono m r, RpL.mono m s⟩
theorem RpF.mono (m : ∀ a o, I a → H a = some o → I' a ∧ H' a = some o) : ∀ {ds : List (Str × D)} {vs : List (Str × V)}, RpF B H I ds vs → RpF B H' I' ds vs
  | [], _, h => h
  | (f, d) :: ds, vs, ⟨v, ws, e, r, s⟩ => ⟨v, ws, e, Rp.mono m r, RpF.mono m s⟩
end
theorem RpL.length : ∀ {ds : List D} {vs : List V}, RpL B H I ds vs → ds.length = vs.length
  | [], _, h => by cases h; rfl
  | d :: ds, vs, ⟨v, ws, e, r, s⟩ => by cases e; simp [RpL.length s]
theorem RpL.get : ∀ {ds : List D} {vs : List V} {i : Nat} {d : D}, RpL B H I ds vs → ds[i]? = some d → ∃ v, vs[i]? = some v ∧ Rp B H I d v
  | [], _, _, _, h, e => by cases e
  | d :: ds, vs, 0, d', ⟨v, ws, e, r, s⟩, q => by cases e; cases q; exact ⟨v, rfl, r⟩
  | d :: ds, vs, i + 1, d', ⟨v, ws, e, r, s⟩, q => by cases e; exact RpL.get (i := i) s (by simpa using q)
theorem RpL.get' : ∀ {ds : List D} {vs : List V} {i : Nat} {v : V}, RpL B H I ds vs → vs[i]? = some v → ∃ d, ds[i]? = some d ∧ Rp B H I d v
  | [], _, _, _, h, e => by cases h; cases e
  | d :: ds, vs, 0, d', ⟨v, ws, e, r, s⟩, q => by cases e; cases q; exact ⟨d, rfl, r⟩
  | d :: ds, vs, i + 1, d', ⟨v, ws, e, r, s⟩, q => by cases e; exact RpL.get' (i := i) s (by simpa using q)
theorem RpL.append : ∀ {ds es : List D} {vs ws : List V}, RpL B H I ds vs → RpL B H I es ws → RpL B H I (ds ++ es) (vs ++ ws)
  | [], _, _, _, h, k => by cases h; exact k
  | d :: ds, es, vs, us, ⟨v, ws, e, r, s⟩, k => by cases e; exact ⟨v, ws ++ us, rfl, r, RpL.append s k⟩
theorem RpL.take : ∀ {ds : List D} {vs : List V} (n : Nat), RpL B H I ds vs → RpL B H I (ds.take n) (vs.take n)
  | _, _, 0, _ => rfl
  | [], _, n + 1, h => by cases h; rfl
  | d :: ds, vs, n + 1, ⟨v, ws, e, r, s⟩ => by cases e; exact ⟨v, _, rfl, r, RpL.take n s⟩
theorem RpL.drop : ∀ {ds : List D} {vs : List V} (n : Nat), RpL B H I ds vs → RpL B H I (ds.drop n) (vs.drop n)
  | _, _, 0, h => h
  | [], _, n + 1, h => by cases h; rfl
  | d :: ds, vs, n + 1, ⟨v, ws, e, r, s⟩ => by cases e; exact RpL.drop n s
theorem RpL.set {d : D} {v : V} (h : Rp B H I d v) : ∀ {ds : List D} {vs : List V} (n : Nat), RpL B H I ds vs → RpL B H I (ds.set n d) (vs.set n v)
  | [], _, n, q => by cases q; cases n <;> rfl
  | _ :: ds, vs, 0, ⟨_, ws, e, _, s⟩ => by cases e; exact ⟨v, ws, rfl, h, s⟩
  | _ :: ds, vs, n + 1, ⟨u, ws, e, r, s⟩ => by cases e; exact ⟨u, _, rfl, r, RpL.set h n s⟩
theorem RpL.eraseIdx : ∀ {ds : List D} {vs : List V} (n : Nat), RpL B H I ds vs → RpL B H I (ds.eraseIdx n) (vs.eraseIdx n)
  | [], _, n, q => by cases q; exact rfl
  | _ :: ds, vs, 0, ⟨_, ws, e, _, s⟩ => by cases e; exact s
  | _ :: ds, vs, n + 1, ⟨u, ws, e, r, s⟩ => by cases e; exact ⟨u, _, rfl, r, RpL.eraseIdx n s⟩
theorem RpL.dropLast : ∀ {ds : List D} {vs : List V}, RpL B H I ds vs → RpL B H I ds.dropLast vs.dropLast
  | [], _, q => by cases q; exact rfl
  | [_], _, ⟨u, ws, e, r, s⟩ => by cases e; cases s; rfl
  | _ :: b :: ds, vs, ⟨u, ws, e, r, s⟩ => by
    obtain ⟨u2, ws2, e2, r2, s2⟩ := s
    cases e; cases e2
    exact ⟨u, _, rfl, r, RpL.dropLast (ds := b :: ds) ⟨u2, ws2, rfl, r2, s2⟩⟩
theorem RpL.replicate {d : D} {v : V} (h : Rp B H I d v) : ∀ n : Nat, RpL B H I (List.replicate n d) (List.replicate n v)
  | 0 => rfl
  | n + 1 => ⟨v, _, rfl, h, RpL.replicate h n⟩
theorem RpL.ints : ∀ {xs : List Int} {vs : List V}, RpL B H I (xs.map D.int) vs ↔ vs = xs.map V.int
  | [], vs => Iff.rfl
  | x :: xs, vs => ⟨fun ⟨v, ws, e, r, s⟩ => by cases r; rw [e, RpL.ints.mp s]; rfl, fun e => ⟨.int x, xs.map V.int, e, rfl, RpL.ints.mpr rfl⟩⟩
theorem RpL.strs : ∀ {xs : List Str} {vs : List V}, RpL B H I (xs.map D.str) vs ↔ vs = xs.map V.str
  | [], vs => Iff.rfl
  | x :: xs, vs => ⟨fun ⟨v, ws, e, r, s⟩ => by cases r; rw [e, RpL.strs.mp s]; rfl, fun e => ⟨.str x, xs.map V.str, e, rfl, RpL.strs.mpr rfl⟩⟩
theorem RpL.bls : ∀ {xs : List Bool} {vs : List V}, RpL B H I (xs.map D.bl) vs ↔ vs = xs.map V.bl
  | [], vs => Iff.rfl
  | x :: xs, vs => ⟨fun ⟨v, ws, e, r, s⟩ => by cases r; rw [e, RpL.bls.mp s]; rfl, fun e => ⟨.bl x, xs.map V.bl, e, rfl, RpL.bls.mpr rfl⟩⟩
theorem RpF.length : ∀ {ds : List (Str × D)} {vs : List (Str × V)}, RpF B H I ds vs → ds.length = vs.length
  | [], _, h => by cases h; rfl
  | (f, d) :: ds, vs, ⟨v, ws, e, r, s⟩ => by cases e; simp [RpF.length s]
theorem RpF.lookup : ∀ {ds : List (Str × D)} {vs : List (Str × V)} {f : Str} {d : D}, RpF B H I ds vs → ds.lookup f = some d → ∃ v, vs.lookup f = some v ∧ Rp B H I d v
  | [], _, _, _, h, e => by cases e
  | (g, d) :: ds, vs, f, d', ⟨v, ws, e, r, s⟩, q => by
    cases e
    by_cases h : f = g
    · subst h
      rw [List.lookup_cons_self] at q ⊢
      cases q
      exact ⟨v, rfl, r⟩
    · have e : (f == g) = false := by simpa using h
      rw [List.lookup_cons, e] at q
      rw [List.lookup_cons, e]
      exact RpF.lookup s q
theorem RpF.lookup_none : ∀ {ds : List (Str × D)} {vs : List (Str × V)} {f : Str}, RpF B H I ds vs → ds.lookup f = none → vs.lookup f = none
  | [], _, _, h, _ => by cases h; rfl
  | (g, d) :: ds, vs, f, ⟨v, ws, e, r, s⟩, q => by
    cases e
    by_cases h : f = g
    · subst h
      rw [List.lookup_cons_self] at q
      cases q
    · have e : (f == g) = false := by simpa using h
      rw [List.lookup_cons, e] at q
      rw [List.lookup_cons, e]
      exact RpF.lookup_none s q
/-- a field is stored (as L2.putF) -/
def putD (f : Str) (d : D) : List (Str × D) → List (Str × D)
  | [] => [(f, d)]
  | (g, e) :: r => if g = f then (g, d) :: r else (g, e) :: putD f d r
end
end Dn
set_option Elab.async false
set_option linter.all false
set_option maxRecDepth 100000
set_option maxHeartbeats 4000000
/-! Dn2: states of data beside states of the abstract heap; readings over data and their lifts. -/
namespace Dn
open PySem L2

theorem PEimp {X : Cx} {e : Expr} {t t' : TE} (h : PE X e t) (i : ∀ σ H Q, t' σ H Q → t σ H Q) : PE X e t' := ⟨fun pins s σ H Q I q => h.run pins s σ H Q I (i σ H Q q)⟩
theorem PTimp {X : Cx} {e : Expr} {t t' : TT} (h : PT X e t) (i : ∀ σ H Q, t' σ H Q → t σ H Q) : PT X e t' := ⟨fun pins s σ H Q I q => h.run pins s σ H Q I (i σ H Q q)⟩
theorem PWimp {X : Cx} {e : Expr} {t t' : TT} (h : PW X e t) (i : ∀ σ H Q, t' σ H Q → t σ H Q) : PW X e t' := ⟨fun wh pins s σ H Q I q => h.run wh pins s σ H Q I (i σ H Q q)⟩
theorem PAimp {X : Cx} {e : List Expr} {t t' : TA} (h : PA X e t) (i : ∀ σ H Q, t' σ H Q → t σ H Q) : PA X e t' := ⟨fun p pins s σ H Q I q => h.run p pins s σ H Q I (i σ H Q q)⟩
theorem PSimp {X : Cx} {e : Stmt} {t t' : TS} (h : PS X e t) (i : ∀ D σ H, t' D σ H → t D σ H) : PS X e t' := ⟨fun pins s σ H D I q => h.run pins s σ H D I (i D σ H q)⟩
theorem PSsimp {X : Cx} {e : List Stmt} {t t' : TS} (h : PSs X e t) (i : ∀ D σ H, t' D σ H → t D σ H) : PSs X e t' := ⟨fun pins s σ H D I q => h.run pins s σ H D I (i D σ H q)⟩
theorem OpRimp {X : Cx} {f : Value → Value → Sem Value} {r r' : R2} (h : OpR X f r) (i : ∀ x y H Q, r' x y H Q → r x y H Q) : OpR X f r' := by
  intro pins s σ H x y u v Q I rx ry q
  exact h pins s σ H x y u v Q I rx ry (i x y H Q q)
theorem IxRimp {X : Cx} {r r' : R2} (h : IxR X r) (i : ∀ x y H Q, r' x y H Q → r x y H Q) : IxR X r' := by
  intro value slice pins s σ H x y v u Q I rx ry q
  exact h value slice pins s σ H x y v u Q I rx ry (i x y H Q q)
theorem CallRimp {X : Cx} {f : Value} {r r' : List V → Hp → VK → Prop} (h : CallR X f r) (i : ∀ x H Q, r' x H Q → r x H Q) : CallR X f r' := by
  intro pins s σ H x us Q I rx q
  exact h pins s σ H x us Q I rx (i x H Q q)
theorem MtRimp {X : Cx} {id : String} {r r' : V → List V → Hp → VK → Prop} (h : MtR X id r) (i : ∀ x y H Q, r' x y H Q → r x y H Q) : MtR X id r' := by
  intro pins s σ H x y u v Q I rx ry q
  exact h pins s σ H x y u v Q I rx ry (i x y H Q q)

/-! ### states -/
abbrev rp (B : Bs) (Z : List Addr) (H : Hp) (M : Mem) : D → V → Prop := Rp B H (Im Z M)
abbrev rpl (B : Bs) (Z : List Addr) (H : Hp) (M : Mem) : List D → List V → Prop := RpL B H (Im Z M)
abbrev rpf (B : Bs) (Z : List Addr) (H : Hp) (M : Mem) : List (Str × D) → List (Str × V) → Prop := RpF B H (Im Z M)
def RpK (R : D → V → Prop) : List (Key × D) → List (Key × V) → Prop := Paired fun p q => p.1 = q.1 ∧ R p.2 q.2
def ObR (B : Bs) (Z : List Addr) (H : Hp) (M : Mem) (a : Addr) : MO → Prop
  | .lst ds => ∃ vs, H a = some (.lst vs) ∧ rpl B Z H M ds vs
  | .dic kvs => ∃ ws, H a = some (.dK ws) ∧ RpK (rp B Z H M) kvs ws
  | .ins c fs => ∃ dx vs, H a = some (.ins (B.adr c) dx vs) ∧ rpf B Z H M fs vs
structure Sim (B : Bs) (Z : List Addr) (H : Hp) (M : Mem) : Prop where
  ob : ∀ a o, M a = some o → a ∉ Z ∧ ObR B Z H M a o
  zs : ∀ a, a ∈ Z → ∃ o, H a = some o
/-- from here to there: what never changes has stayed -/
structure Evo (Z : List Addr) (H : Hp) (M : Mem) (H' : Hp) (M' : Mem) : Prop where
  im : ∀ a o, H a = some o → Im Z M a → M' a = none ∧ H' a = some o
  zs : ∀ a o, a ∈ Z → H a = some o → H' a = some o
/-- .. where more addresses stand apart afterwards -/
structure Evo2 (Z : List Addr) (H : Hp) (M : Mem) (Z2 : List Addr) (H' : Hp) (M' : Mem) : Prop where
  im : ∀ a o, H a = some o → Im Z M a → Im Z2 M' a ∧ H' a = some o
abbrev Sd := List (Option D)
structure Sls (B : Bs) (Z : List Addr) (H : Hp) (M : Mem) (sd : Sd) (σ : St) : Prop where
  len : sd.length = σ.length
  at_ : ∀ (i : Nat) (d : D), sd[i]? = some (some d) → ∃ v, σ[i]? = some (some v) ∧ rp B Z H M d v

section
variable {B : Bs} {Z : List Addr} {H H' H1 H2 : Hp} {M M' M1 M2 : Mem} {a p : Addr} {d : D} {v : V}
theorem Evo.refl : Evo Z H M H M := ⟨fun a o h i => ⟨i.1, h⟩, fun a o _ h => h⟩
theorem Evo.trans (e : Evo Z H M H1 M1) (f : Evo Z H1 M1 H2 M2) : Evo Z H M H2 M2 :=
  ⟨fun a o h i => f.im a o (e.im a o h i).2 ⟨(e.im a o h i).1, i.2⟩, fun a o hz h => f.zs a o hz (e.zs a o hz h)⟩
theorem Evo.mono1 (e : Evo Z H M H' M') : ∀ a o, Im Z M a → H a = some o → Im Z M' a ∧ H' a = some o := fun a o i h => ⟨⟨(e.im a o h i).1, i.2⟩, (e.im a o h i).2⟩
theorem Evo.rp (e : Evo Z H M H' M') (h : rp B Z H M d v) : rp B Z H' M' d v := Rp.mono e.mono1 h
theorem Evo.two (e : Evo Z H M H' M') : Evo2 Z H M Z H' M' := ⟨fun a o h i => ⟨⟨(e.im a o h i).1, i.2⟩, (e.im a o h i).2⟩⟩
theorem Evo2.rp {Z2 : List Addr} (e : Evo2 Z H M Z2 H' M') (h : rp B Z H M d v) : rp B Z2 H' M' d v := Rp.mono (fun a o i h => e.im a o h i) h
theorem Evo2.rpl {Z2 : List Addr} {ds : List D} {vs : List V} (e : Evo2 Z H M Z2 H' M') (h : rpl B Z H M ds vs) : rpl B Z2 H' M' ds vs := RpL.mono (fun a o i h => e.im a o h i) h
theorem Evo.rpl {ds : List D} {vs : List V} (e : Evo Z H M H' M') (h : rpl B Z H M ds vs) : rpl B Z H' M' ds vs := RpL.mono e.mono1 h
theorem Evo.rpf {ds : List (Str × D)} {vs : List (Str × V)} (e : Evo Z H M H' M') (h : rpf B Z H M ds vs) : rpf B Z H' M' ds vs := RpF.mono e.mono1 h
theorem RpK.mono {R R' : D → V → Prop} {ks : List (Key × D)} {ws : List (Key × V)} (h : RpK R ks ws) (m : ∀ d v, R d v → R' d v) : RpK R' ks ws := Paired.mapP h fun _ _ z => ⟨z.1, m _ _ z.2⟩
theorem ObR.mono {b : Addr} {o : MO} (e : Evo Z H M H' M') (k : ∀ u, H b = some u → H' b = some u) (h : ObR B Z H M b o) : ObR B Z H' M' b o := by
  cases o with
  | lst ds => obtain ⟨vs, h1, h2⟩ := h; exact ⟨vs, k _ h1, e.rpl h2⟩
  | dic kvs => obtain ⟨vs, h1, h2⟩ := h; exact ⟨vs, k _ h1, h2.mono fun _ _ z => e.rp z⟩
  | ins c fs => obtain ⟨dx, vs, h1, h2⟩ := h; exact ⟨dx, vs, k _ h1, e.rpf h2⟩
theorem ObR.some {b : Addr} {o : MO} (h : ObR B Z H M b o) : ∃ u, H b = some u ∧ Mut (some u) := by
  cases o with
  | lst ds => obtain ⟨vs, h1, h2⟩ := h; exact ⟨_, h1, trivial⟩
  | dic kvs => obtain ⟨vs, h1, h2⟩ := h; exact ⟨_, h1, trivial⟩
  | ins c fs => obtain ⟨dx, vs, h1, h2⟩ := h; exact ⟨_, h1, trivial⟩
theorem Sim.free (s : Sim B Z H M) (h : H p = none) : M p = none := by
  cases e : M p with
  | none => rfl
  | some o => obtain ⟨u, h1, _⟩ := (s.ob p o e).2.some; rw [h] at h1; cases h1
theorem Sim.freeZ (s : Sim B Z H M) (h : H p = none) : p ∉ Z := fun hz => by obtain ⟨o, e⟩ := s.zs p hz; rw [h] at e; cases e
theorem Sls.mono {sd : Sd} {σ : St} (e : Evo Z H M H' M') (h : Sls B Z H M sd σ) : Sls B Z H' M' sd σ := ⟨h.len, fun i d q => by obtain ⟨v, h1, h2⟩ := h.at_ i d q; exact ⟨v, h1, e.rp h2⟩⟩
theorem Sls.set {sd : Sd} {σ : St} (h : Sls B Z H M sd σ) (i : Nat) (r : rp B Z H M d v) : Sls B Z H M (sd.set i (some d)) (σ.set i (some v)) := by
  refine ⟨by simp [h.len], fun j e q => ?_⟩
  by_cases hj : i = j
  · subst hj
    have hl : i < sd.length := by
      have := (List.getElem?_eq_some_iff.mp q).1
      simpa using this
    rw [List.getElem?_set_self hl] at q
    cases q
    exact ⟨v, List.getElem?_set_self (by rw [← h.len]; exact hl), r⟩
  · rw [List.getElem?_set_ne hj] at q
    obtain ⟨u, h1, h2⟩ := h.at_ j e q
    exact ⟨u, by rw [List.getElem?_set_ne hj]; exact h1, h2⟩
/-- something new that never changes -/
theorem Sim.newI (s : Sim B Z H M) (h : H p = none) (o : HO) : Evo Z H M (upd H p o) M ∧ Sim B Z (upd H p o) M := by
  have k : ∀ b u, H b = some u → upd H p o b = some u := fun b u e => by rw [upd_ne (ne_of_none e h)]; exact e
  have ev : Evo Z H M (upd H p o) M := ⟨fun a u e i => ⟨i.1, k a u e⟩, fun a u _ e => k a u e⟩
  exact ⟨ev, fun a u e => ⟨(s.ob a u e).1, (s.ob a u e).2.mono ev (k a)⟩, fun a hz => by obtain ⟨u, e⟩ := s.zs a hz; exact ⟨u, k a u e⟩⟩
theorem Sim.im (s : Sim B Z H M) (h : H p = none) : Im Z M p := ⟨s.free h, s.freeZ h⟩
/-- something new that may change -/
theorem Sim.newM (s : Sim B Z H M) (h : H p = none) {o : HO} {mo : MO} (new : ∀ M', Evo Z H M (upd H p o) M' → ObR B Z (upd H p o) M' p mo) : Evo Z H M (upd H p o) (upm M p mo) ∧ Sim B Z (upd H p o) (upm M p mo) := by
  have k : ∀ b u, H b = some u → upd H p o b = some u := fun b u e => by rw [upd_ne (ne_of_none e h)]; exact e
  have ev : Evo Z H M (upd H p o) (upm M p mo) := ⟨fun a u e i => ⟨by rw [upm_ne (ne_of_none e h)]; exact i.1, k a u e⟩, fun a u _ e => k a u e⟩
  refine ⟨ev, fun a u e => ?_, fun a hz => by obtain ⟨u, e⟩ := s.zs a hz; exact ⟨u, k a u e⟩⟩
  by_cases ha : a = p
  · subst ha
    rw [upm_same] at e; cases e
    exact ⟨s.freeZ h, new _ ev⟩
  · rw [upm_ne ha] at e
    exact ⟨(s.ob a u e).1, (s.ob a u e).2.mono ev (k a)⟩
/-- an object that may change is written -/
theorem Sim.wr (s : Sim B Z H M) {mo0 : MO} (hm : M a = some mo0) {o : HO} {mo : MO} (new : ∀ M', Evo Z H M (upd H a o) M' → ObR B Z (upd H a o) M' a mo) : Evo Z H M (upd H a o) (upm M a mo) ∧ Sim B Z (upd H a o) (upm M a mo) := by
  have nz := (s.ob a mo0 hm).1
  have ev : Evo Z H M (upd H a o) (upm M a mo) := ⟨fun b u e i => by
      have hb : b ≠ a := fun z => by subst z; have := i.1; rw [hm] at this; cases this
      exact ⟨by rw [upm_ne hb]; exact i.1, by rw [upd_ne hb]; exact e⟩, fun b u hz e => by
      have hb : b ≠ a := fun z => by subst z; exact nz hz
      rw [upd_ne hb]; exact e⟩
  refine ⟨ev, fun b u e => ?_, fun b hz => by obtain ⟨u, e⟩ := s.zs b hz; exact ⟨u, ev.zs b u hz e⟩⟩
  by_cases hb : b = a
  · subst hb
    rw [upm_same] at e; cases e
    exact ⟨nz, new _ ev⟩
  · rw [upm_ne hb] at e
    exact ⟨(s.ob b u e).1, (s.ob b u e).2.mono ev fun u' e' => by rw [upd_ne hb]; exact e'⟩
theorem Evo.im' (e : Evo Z H M H' M') {o : HO} (h : H a = some o) (i : Im Z M a) : Im Z M' a := ⟨(e.im a o h i).1, i.2⟩
/-- less may change from here on -/
theorem Sim.less (s : Sim B Z H M) (h : ∀ a o, M' a = some o → M a = some o) : Evo Z H M H M' ∧ Sim B Z H M' := by
  have fr : ∀ a, M a = none → M' a = none := fun a i => by
    cases q : M' a with
    | none => rfl
    | some u => have z := h a u q; rw [i] at z; cases z
  have ev : Evo Z H M H M' := ⟨fun a o e i => ⟨fr a i.1, e⟩, fun a o _ e => e⟩
  exact ⟨ev, fun a o e => ⟨(s.ob a o (h a o e)).1, (s.ob a o (h a o e)).2.mono ev fun _ z => z⟩, s.zs⟩
end

/-! ### readings over data -/
abbrev KD := D → Mem → Prop
abbrev ED := XN → D → Mem → Prop
abbrev TDe := Sd → Mem → KD → ED → Prop
abbrev TDt := Sd → Mem → (Bool → Mem → Prop) → ED → Prop
abbrev TDa := Sd → Mem → (List D → Mem → Prop) → ED → Prop
structure EndsD where
  nx : Sd → Mem → Prop
  rt : KD
  bk : Sd → Mem → Prop := fun _ _ => False
  ct : Sd → Mem → Prop := fun _ _ => False
  ex : XN → D → Sd → Mem → Prop := fun _ _ _ _ => False
abbrev TDs := EndsD → Sd → Mem → Prop

section
variable (B : Bs)
/-- what is wished of an exception of expressions -/
def XLk (Z : List Addr) (H : Hp) (M : Mem) (W : WX) (σ : St) (E : ED) : Prop :=
  ∀ c p dx v H' M', Evo Z H M H' M' → Sim B Z H' M' → H' dx = some (.xd [("place", v)]) → rp B Z H' M' p v → E c p M' → W (.ref (B.xad c)) (some dx) σ H'
def VLk (Z : List Addr) (H : Hp) (M : Mem) (Qd : KD) (Q : VK) : Prop := ∀ v H' d M', Evo Z H M H' M' → Sim B Z H' M' → rp B Z H' M' d v → Qd d M' → Q v H'
def BLk (Z : List Addr) (H : Hp) (M : Mem) (Qd : Bool → Mem → Prop) (Q : Bool → Hp → Prop) : Prop := ∀ b H' M', Evo Z H M H' M' → Sim B Z H' M' → Qd b M' → Q b H'
def ALk (Z : List Addr) (H : Hp) (M : Mem) (Qd : List D → Mem → Prop) (Q : List V → Hp → Prop) : Prop := ∀ vs H' ds M', Evo Z H M H' M' → Sim B Z H' M' → rpl B Z H' M' ds vs → Qd ds M' → Q vs H'
def lfE (W : WX) (td : TDe) : TE := fun σ H Q => ∃ Z M sd Qd E, Sim B Z H M ∧ Sls B Z H M sd σ ∧ td sd M Qd E ∧ XLk B Z H M W σ E ∧ VLk B Z H M Qd Q
def lfT (W : WX) (td : TDt) : TT := fun σ H Q => ∃ Z M sd Qd E, Sim B Z H M ∧ Sls B Z H M sd σ ∧ td sd M Qd E ∧ XLk B Z H M W σ E ∧ BLk B Z H M Qd Q
def lfA (W : WX) (td : TDa) : TA := fun σ H Q => ∃ Z M sd Qd E, Sim B Z H M ∧ Sls B Z H M sd σ ∧ td sd M Qd E ∧ XLk B Z H M W σ E ∧ ALk B Z H M Qd Q
/-- operations on values -/
def lf1 (op : D → Mem → KD → Prop) : V → Hp → VK → Prop := fun x H Q => ∃ Z M Qd d, Sim B Z H M ∧ rp B Z H M d x ∧ op d M Qd ∧ VLk B Z H M Qd Q
def lf2 (op : D → D → Mem → KD → Prop) : R2 := fun x y H Q => ∃ Z M Qd d e, Sim B Z H M ∧ rp B Z H M d x ∧ rp B Z H M e y ∧ op d e M Qd ∧ VLk B Z H M Qd Q
def lfN (op : List D → Mem → KD → Prop) : List V → Hp → VK → Prop := fun xs H Q => ∃ Z M Qd ds, Sim B Z H M ∧ rpl B Z H M ds xs ∧ op ds M Qd ∧ VLk B Z H M Qd Q
def lfM (op : D → List D → Mem → KD → Prop) : V → List V → Hp → VK → Prop := fun x xs H Q => ∃ Z M Qd d ds, Sim B Z H M ∧ rp B Z H M d x ∧ rpl B Z H M ds xs ∧ op d ds M Qd ∧ VLk B Z H M Qd Q
end
def dOp (op : D → D → Mem → KD → Prop) (ta tb : TDe) : TDe := fun sd M Q E => ta sd M (fun d M1 => tb sd M1 (fun e M2 => op d e M2 Q) E) E
def dUn (op : D → Mem → KD → Prop) (ta : TDe) : TDe := fun sd M Q E => ta sd M (fun d M1 => op d M1 Q) E
def dVar (i : Nat) : TDe := fun sd M Q _ => ∃ d, sd[i]? = some (some d) ∧ Q d M
def dC (d : D) : TDe := fun _ M Q _ => Q d M
def dNil : TDa := fun _ M Q _ => Q [] M
def dCons (ta : TDe) (tr : TDa) : TDa := fun sd M Q E => ta sd M (fun d M1 => tr sd M1 (fun ds M2 => Q (d :: ds) M2) E) E
def dCB (op : List D → Mem → KD → Prop) (t : TDa) : TDe := fun sd M Q E => t sd M (fun ds M1 => op ds M1 Q) E

section
variable {B : Bs} {Z : List Addr} {H H' H1 H2 : Hp} {M M' M1 M2 : Mem} {a p : Addr} {d : D} {v : V} {W : WX} {σ : St} {E : ED} {Q : VK} {Qd : KD}
theorem XLk.mono (h : XLk B Z H M W σ E) (e : Evo Z H M H' M') : XLk B Z H' M' W σ E := fun c p dx v H2 M2 e2 => h c p dx v H2 M2 (e.trans e2)
theorem VLk.mono (h : VLk B Z H M Qd Q) (e : Evo Z H M H' M') : VLk B Z H' M' Qd Q := fun v H2 d M2 e2 => h v H2 d M2 (e.trans e2)
theorem BLk.mono {Qd : Bool → Mem → Prop} {Q : Bool → Hp → Prop} (h : BLk B Z H M Qd Q) (e : Evo Z H M H' M') : BLk B Z H' M' Qd Q := fun v H2 M2 e2 => h v H2 M2 (e.trans e2)
theorem ALk.mono {Qd : List D → Mem → Prop} {Q : List V → Hp → Prop} (h : ALk B Z H M Qd Q) (e : Evo Z H M H' M') : ALk B Z H' M' Qd Q := fun v H2 d M2 e2 => h v H2 d M2 (e.trans e2)
theorem VLk.here (h : VLk B Z H M Qd Q) (s : Sim B Z H M) (r : rp B Z H M d v) (q : Qd d M) : Q v H := h v H d M Evo.refl s r q
/-- one expression, then the rest -/
theorem lfE_go {ta : TDe} {k : D → Mem → Prop} {R : VK} {sd : Sd} (s : Sim B Z H M) (l : Sls B Z H M sd σ) (x : XLk B Z H M W σ E) (h : ta sd M k E) (f : ∀ v H' d M', Evo Z H M H' M' → Sim B Z H' M' → rp B Z H' M' d v → k d M' → R v H') : lfE B W ta σ H R :=
  ⟨Z, M, sd, k, E, s, l, h, x, f⟩
theorem lf_op {op : D → D → Mem → KD → Prop} {ta tb : TDe} : ∀ σ H Q, lfE B W (dOp op ta tb) σ H Q → tOp (lf2 B op) (lfE B W ta) (lfE B W tb) σ H Q := by
  rintro σ H Q ⟨Z, M, sd, Qd, E, s, l, h, x, q⟩
  refine lfE_go s l x h fun v H1 d M1 e1 s1 r1 h1 => ?_
  refine lfE_go s1 (l.mono e1) (x.mono e1) h1 fun u H2 e M2 e2 s2 r2 h2 => ?_
  exact ⟨Z, M2, Qd, d, e, s2, e2.rp r1, r2, h2, q.mono (e1.trans e2)⟩
theorem lf_un {op : D → Mem → KD → Prop} {ta : TDe} : ∀ σ H Q, lfE B W (dUn op ta) σ H Q → tUn (lf1 B op) (lfE B W ta) σ H Q := by
  rintro σ H Q ⟨Z, M, sd, Qd, E, s, l, h, x, q⟩
  refine lfE_go s l x h fun v H1 d M1 e1 s1 r1 h1 => ?_
  exact ⟨Z, M1, Qd, d, s1, r1, h1, q.mono e1⟩
theorem lf_var {i : Nat} : ∀ σ H Q, lfE B W (dVar i) σ H Q → tVar i σ H Q := by
  rintro σ H Q ⟨Z, M, sd, Qd, E, s, l, ⟨d, e, h⟩, x, q⟩
  obtain ⟨v, h1, h2⟩ := l.at_ i d e
  exact ⟨v, h1, q.here s h2 h⟩
theorem lf_c {d : D} {u : V} (r : ∀ (Z : List Addr) (H : Hp) (M : Mem), rp B Z H M d u) : ∀ σ H Q, lfE B W (dC d) σ H Q → tC u σ H Q := by
  rintro σ H Q ⟨Z, M, sd, Qd, E, s, l, h, x, q⟩
  exact q.here s (r _ _ _) h
theorem lf_nil : ∀ σ H Q, lfA B W dNil σ H Q → tNil σ H Q := by
  rintro σ H Q ⟨Z, M, sd, Qd, E, s, l, h, x, q⟩
  exact q [] H [] M Evo.refl s rfl h
theorem lf_cons {ta : TDe} {tr : TDa} : ∀ σ H Q, lfA B W (dCons ta tr) σ H Q → tCons (lfE B W ta) (lfA B W tr) σ H Q := by
  rintro σ H Q ⟨Z, M, sd, Qd, E, s, l, h, x, q⟩
  refine lfE_go s l x h fun v H1 d M1 e1 s1 r1 h1 => ?_
  exact ⟨Z, M1, sd, _, E, s1, l.mono e1, h1, x.mono e1, fun vs H2 ds M2 e2 s2 r2 h2 => q (v :: vs) H2 (d :: ds) M2 (e1.trans e2) s2 ⟨v, vs, rfl, e2.rp r1, r2⟩ h2⟩
theorem lf_cb {op : List D → Mem → KD → Prop} {t : TDa} : ∀ σ H Q, lfE B W (dCB op t) σ H Q → tCB (lfN B op) (lfA B W t) σ H Q := by
  rintro σ H Q ⟨Z, M, sd, Qd, E, s, l, h, x, q⟩
  exact ⟨Z, M, sd, _, E, s, l, h, x, fun vs H1 ds M1 e1 s1 r1 h1 => ⟨Z, M1, Qd, ds, s1, r1, h1, q.mono e1⟩⟩
end
end Dn
set_option Elab.async false
set_option linter.all false
set_option maxRecDepth 100000
set_option maxHeartbeats 4000000
/-! Dn3: operations on data and the rules of expressions. -/
namespace Dn
open PySem L2

/-! ### looking at values -/
/-- a list's items -/
def lstO (M : Mem) : D → Option (List D)
  | .lst ds => some ds
  | .ref a => match M a with
    | some (.lst ds) => some ds
    | _ => none
  | _ => none
/-- .. the script's too -/
def lstS (M : Mem) : D → Option (List D)
  | .scr xs => some (xs.map D.int)
  | d => lstO M d
def dicO (M : Mem) : D → Option (List (Key × D))
  | .ref a => match M a with
    | some (.dic kvs) => some kvs
    | _ => none
  | _ => none
/-- an instance's class and fields -/
def insO (M : Mem) : D → Option (CN × List (Str × D))
  | .ins c fs => some (c, fs)
  | .ref a => match M a with
    | some (.ins c fs) => some (c, fs)
    | _ => none
  | _ => none
def keyD : D → Option Key
  | .int i => some (.inl i)
  | .str x => some (.inr x)
  | _ => none
def dK : Key → D
  | .inl i => .int i
  | .inr x => .str x
def valD (kvs : List (Key × D)) (k : Key) : Option D := (kvs.find? fun kv => decide (kv.1 = k)).map (·.2)
def putKD (kvs : List (Key × D)) (k : Key) (v : D) : List (Key × D) :=
  if kvs.any (fun kv => decide (kv.1 = k)) then kvs.map fun kv => if kv.1 = k then (kv.1, v) else kv else kvs ++ [(k, v)]
def dropKD (kvs : List (Key × D)) (k : Key) : List (Key × D) := kvs.filter fun kv => decide (kv.1 ≠ k)
def flatD : D → Bool
  | .non => true
  | .bl _ => true
  | .int _ => true
  | .str _ => true
  | _ => false
def isNonD : D → Bool
  | .non => true
  | _ => false
mutual
def pyD : D → PyData
  | .non => .none
  | .bl b => .bool b
  | .int i => .int i
  | .str x => .str x
  | .tup xs => .tuple (pyL xs)
  | .lst xs => .list (pyL xs)
  | .scr xs => .list (xs.map .int)
  | .ins _ _ => .none
  | .fnv _ => .none
  | .ref _ => .none
def pyL : List D → List PyData
  | [] => []
  | d :: ds => pyD d :: pyL ds
end
mutual
/-- data, without objects of its own class -/
def isDat : D → Bool
  | .non => true
  | .bl _ => true
  | .int _ => true
  | .str _ => true
  | .tup xs => isDats xs
  | .lst xs => isDats xs
  | .scr _ => true
  | .ins _ _ => false
  | .fnv _ => false
  | .ref _ => false
def isDats : List D → Bool
  | [] => true
  | d :: ds => isDat d && isDats ds
end
/-- a list that may change is looked through -/
def res (M : Mem) : D → D
  | .ref a => match M a with
    | some (.lst ds) => .lst ds
    | _ => .ref a
  | d => d
def datD (d : D) : Prop := isDat d = true ∧ SeqAt.shaped (pyD d) = true
def eqvD (d e : D) : Bool := PyData.eqv (pyD d) (pyD e)
/-- a new list: m: it may change later -/
def newL (m : Bool) (ds : List D) (M : Mem) (Q : KD) : Prop :=
  match m with
  | true => ∀ p, M p = none → Q (.ref p) (upm M p (.lst ds))
  | false => Q (.lst ds) M
def newK (kvs : List (Key × D)) (M : Mem) (Q : KD) : Prop := ∀ p, M p = none → Q (.ref p) (upm M p (.dic kvs))
def cutD (xs : List D) (lo hi : Option Int) : List D := (xs.drop (HT.sIx xs.length 0 lo)).take (HT.sIx xs.length xs.length hi - HT.sIx xs.length 0 lo)

/-! ### operations -/
def addD (m : Bool) (d e : D) (M : Mem) (Q : KD) : Prop :=
  match d, e with
  | .int i, .int j => Q (.int (i + j)) M
  | .str x, .str y => x.length + y.length ≤ sizeLine ∧ Q (.str (x ++ y)) M
  | .tup xs, .tup ys => xs.length + ys.length ≤ sizeLine ∧ Q (.tup (xs ++ ys)) M
  | d, e => ∃ xs ys, lstO M d = some xs ∧ lstO M e = some ys ∧ xs.length + ys.length ≤ sizeLine ∧ newL m (xs ++ ys) M Q
def intD (C : Int → Int → Prop) (g : Int → Int → D) (d e : D) (M : Mem) (Q : KD) : Prop :=
  match d, e with
  | .int i, .int j => C i j ∧ Q (g i j) M
  | _, _ => False
def mulD (m : Bool) (d e : D) (M : Mem) (Q : KD) : Prop :=
  match d, e with
  | .int i, .int j => (CMul i j ∨ CMulW i j) ∧ Q (.int (i * j)) M
  | d, .int k => ∃ xs, lstO M d = some xs ∧ -(2 ^ 63) ≤ k ∧ k < 2 ^ 63 ∧ xs.length * k.toNat ≤ sizeLine ∧ newL m (List.replicate k.toNat xs).flatten M Q
  | _, _ => False
def subD : D → D → Mem → KD → Prop := intD (fun _ _ => True) fun i j => .int (i - j)
def fdivD : D → D → Mem → KD → Prop := intD CDivW fun i j => .int (i / j)
def modD : D → D → Mem → KD → Prop := intD (fun _ j => 0 < j) fun i j => .int (i % j)
def powD : D → D → Mem → KD → Prop := intD CPow fun i j => .int (i ^ j.toNat)
def shlD : D → D → Mem → KD → Prop := intD CPow fun i j => .int (i * 2 ^ j.toNat)
def shrD : D → D → Mem → KD → Prop := intD (fun _ j => 0 ≤ j) fun i j => .int (i / 2 ^ j.toNat)
def andD : D → D → Mem → KD → Prop := intD (fun _ _ => True) fun i j => .int (Builtin.bitAnd i j)
def eqD (neg : Bool) (d e : D) (M : Mem) (Q : KD) : Prop :=
  match d, e with
  | .int i, .int j => Q (.bl (if neg then !decide (i = j) else decide (i = j))) M
  | .str i, .str j => Q (.bl (if neg then !decide (i = j) else decide (i = j))) M
  | d, e => datD (res M d) ∧ datD (res M e) ∧ Q (.bl (if neg then !eqvD (res M d) (res M e) else eqvD (res M d) (res M e))) M
/-- an order: of ints by f, of texts by g -/
def ordD (f : Int → Int → Bool) (g : List Nat → List Nat → Bool) (d e : D) (M : Mem) (Q : KD) : Prop :=
  match d, e with
  | .int i, .int j => Q (.bl (f i j)) M
  | .str x, .str y => Q (.bl (g x.cps.toList y.cps.toList)) M
  | _, _ => False
def ltD : D → D → Mem → KD → Prop := ordD (fun i j => decide (i < j)) fun x y => decide (x < y)
def leD : D → D → Mem → KD → Prop := ordD (fun i j => decide (i ≤ j)) fun x y => !decide (y < x)
def gtD : D → D → Mem → KD → Prop := ordD (fun i j => decide (j < i)) fun x y => decide (y < x)
def geD : D → D → Mem → KD → Prop := ordD (fun i j => decide (j ≤ i)) fun x y => !decide (x < y)
def notIf (neg b : Bool) : Bool := if neg then !b else b
def inD (neg : Bool) (d e : D) (M : Mem) (Q : KD) : Prop :=
  match e with
  | .str z => ∃ c, d = .str ⟨#[c]⟩ ∧ Q (.bl (notIf neg (decide (c ∈ z.cps.toList)))) M
  | .tup es => flatD d = true ∧ es.all flatD = true ∧ Q (.bl (notIf neg (es.any fun z => eqvD z d))) M
  | e => match dicO M e with
    | some kvs => ∃ k, keyD d = some k ∧ Q (.bl (notIf neg (valD kvs k).isSome)) M
    | none => ∃ es, lstO M e = some es ∧ datD d ∧ datD (.lst es) ∧ Q (.bl (notIf neg (es.any fun z => eqvD z d))) M
def ixD (d e : D) (M : Mem) (Q : KD) : Prop :=
  match d with
  | .str z => ∃ i c, e = .int i ∧ z.length ≤ sizeLine ∧ atI z.cps.toList i = some c ∧ Q (.str ⟨#[c]⟩) M
  | .tup xs => ∃ i y, e = .int i ∧ atI xs i = some y ∧ Q y M
  | d => match dicO M d with
    | some kvs => ∃ k y, keyD e = some k ∧ valD kvs k = some y ∧ Q y M
    | none => ∃ xs i y, lstS M d = some xs ∧ e = .int i ∧ atI xs i = some y ∧ Q y M
/-! ### how they stand in the abstract heap -/
section
variable {B : Bs} {Z : List Addr} {H H' : Hp} {M M' : Mem} {a p : Addr} {d e : D} {v u : V} {ds es : List D} {vs : List V} {Qd : KD} {Q : VK}
theorem tup_at (r : rp B Z H M (.tup ds) v) : ∃ a vs, v = .ref a ∧ SqT B.K H a vs ∧ rpl B Z H M ds vs := by
  obtain ⟨a, vs, e, h, r⟩ := r
  exact ⟨a, vs, e, h.elim (fun h => SqT.of h.2) (fun h => sqT_nil h H), r⟩
theorem lstO_ref {a : Addr} (h : lstO M (.ref a) = some ds) : M a = some (.lst ds) := by
  unfold lstO at h
  dsimp only at h
  split at h
  · cases h; assumption
  · cases h
theorem lstO_at (s : Sim B Z H M) (r : rp B Z H M d v) (h : lstO M d = some ds) : ∃ a vs, v = .ref a ∧ H a = some (.lst vs) ∧ rpl B Z H M ds vs := by
  cases d with
  | lst xs => cases h; obtain ⟨a, vs, e, i, h, r⟩ := r; exact ⟨a, vs, e, h, r⟩
  | ref a =>
    cases r
    have hm := lstO_ref h
    obtain ⟨vs, h1, h2⟩ := (s.ob a _ hm).2
    exact ⟨a, vs, rfl, h1, h2⟩
  | _ => cases h
theorem lstS_at (K : PySem.W.Frag) (hK : B.K = K) (s : Sim B Z H M) (r : rp B Z H M d v) (h : lstS M d = some ds) : ∃ a vs, v = .ref a ∧ SqL K H a vs ∧ rpl B Z H M ds vs := by
  cases d with
  | scr xs => cases h; obtain ⟨a, e, h⟩ := r; exact ⟨a, _, e, h.elim (fun h => .inl h.2) (fun h => hK ▸ sqL_nil h H), RpL.ints.mpr rfl⟩
  | _ => obtain ⟨a, vs, e, h, r⟩ := lstO_at s r h; exact ⟨a, vs, e, SqL.of h, r⟩
theorem dicO_ref {kvs : List (Key × D)} (h : dicO M d = some kvs) : ∃ a, d = .ref a ∧ M a = some (.dic kvs) := by
  cases d with
  | ref a =>
    unfold dicO at h
    dsimp only at h
    split at h
    · cases h; exact ⟨a, rfl, by assumption⟩
    · cases h
  | _ => cases h
theorem dicO_at {kvs : List (Key × D)} (s : Sim B Z H M) (r : rp B Z H M d v) (h : dicO M d = some kvs) : ∃ a ws, d = .ref a ∧ M a = some (.dic kvs) ∧ v = .ref a ∧ H a = some (.dK ws) ∧ RpK (rp B Z H M) kvs ws := by
  obtain ⟨a, rfl, hm⟩ := dicO_ref h
  cases r
  obtain ⟨ws, h1, h2⟩ := (s.ob a _ hm).2
  exact ⟨a, ws, rfl, hm, rfl, h1, h2⟩
theorem keyD_at {k : Key} (r : rp B Z H M d v) (h : keyD d = some k) : v = kV k := by
  cases d with
  | int i => cases h; exact r
  | str i => cases h; exact r
  | _ => cases h
theorem dK_at (k : Key) : rp B Z H M (dK k) (kV k) := by cases k <;> rfl
section
variable {R : D → V → Prop} {ks : List (Key × D)} {ws : List (Key × V)} {k : Key}
theorem RpK.val (r : RpK R ks ws) (k : Key) : (∀ d, valD ks k = some d → ∃ v, valV ws k = some v ∧ R d v) ∧ (valD ks k = none → valV ws k = none) := by
  induction r with
  | nil =>
    refine ⟨fun d h => ?_, fun _ => rfl⟩
    have : (none : Option D) = some d := h
    cases this
  | @cons p q l m h t ih =>
    obtain ⟨e, h⟩ := h
    by_cases hk : p.1 = k
    · refine ⟨fun d hd => ⟨q.2, valV_pos (e ▸ hk), ?_⟩, fun hd => ?_⟩
      · unfold valD at hd; rw [List.find?_cons_of_pos (by simpa using hk)] at hd; cases hd; exact h
      · unfold valD at hd; rw [List.find?_cons_of_pos (by simpa using hk)] at hd; cases hd
    · have hq : ¬ q.1 = k := by rw [← e]; exact hk
      rw [valV_neg hq]
      have : valD (p :: l) k = valD l k := by unfold valD; rw [List.find?_cons_of_neg (by simpa using hk)]
      rw [this]
      exact ih
theorem RpK.isSome (r : RpK R ks ws) (k : Key) : (valV ws k).isSome = (valD ks k).isSome := by
  cases h : valD ks k with
  | none => rw [(r.val k).2 h]; rfl
  | some d => obtain ⟨v, e, _⟩ := (r.val k).1 d h; rw [e]; rfl
theorem RpK.keys (r : RpK R ks ws) : ks.map (·.1) = ws.map (·.1) := by
  induction r with
  | nil => rfl
  | cons h t ih => rw [List.map_cons, List.map_cons, ih, h.1]
theorem RpK.length (r : RpK R ks ws) : ks.length = ws.length := by have := congrArg List.length r.keys; simpa using this
theorem RpK.any (r : RpK R ks ws) (k : Key) : (ks.any fun kv => decide (kv.1 = k)) = ws.any fun kv => decide (kv.1 = k) := by
  induction r with
  | nil => rfl
  | cons h t ih => rw [List.any_cons, List.any_cons, ih, h.1]
theorem Paired.app {α β : Type} {F : α → β → Prop} : ∀ {l : List α} {m : List β} {l' : List α} {m' : List β}, Paired F l m → Paired F l' m' → Paired F (l ++ l') (m ++ m')
  | _, _, _, _, .nil, s => s
  | _, _, _, _, .cons r t, s => .cons r (Paired.app t s)
theorem RpK.repl (r : RpK R ks ws) (k : Key) {d : D} {v : V} (h : R d v) : RpK R (ks.map fun kv => if kv.1 = k then (kv.1, d) else kv) (ws.map fun kv => if kv.1 = k then (kv.1, v) else kv) := by
  induction r with
  | nil => exact .nil
  | @cons p q l m hh t ih =>
    refine .cons ?_ ih
    show (if p.1 = k then (p.1, d) else p).1 = (if q.1 = k then (q.1, v) else q).1 ∧ R (if p.1 = k then (p.1, d) else p).2 (if q.1 = k then (q.1, v) else q).2
    by_cases hk : q.1 = k
    · rw [if_pos hk, if_pos (hh.1.trans hk)]
      exact ⟨hh.1, h⟩
    · rw [if_neg hk, if_neg (fun z => hk (hh.1.symm.trans z))]
      exact hh
theorem RpK.put (r : RpK R ks ws) (k : Key) {d : D} {v : V} (h : R d v) : RpK R (putKD ks k d) (putK ws k v) := by
  unfold putKD putK
  rw [r.any k]
  split
  · exact r.repl k h
  · exact Paired.app r (.cons ⟨rfl, h⟩ .nil)
theorem RpK.drop (r : RpK R ks ws) (k : Key) : RpK R (dropKD ks k) (dropK ws k) := by
  unfold dropKD dropK
  induction r with
  | nil => exact .nil
  | @cons p q l m hh t ih =>
    by_cases hk : p.1 = k
    · rw [List.filter_cons_of_neg (by simpa using hk), List.filter_cons_of_neg (by rw [← hh.1]; simpa using hk)]
      exact ih
    · rw [List.filter_cons_of_pos (by simpa using hk), List.filter_cons_of_pos (by rw [← hh.1]; simpa using hk)]
      exact .cons hh ih
end
theorem newL_ok {m : Bool} (s : Sim B Z H M) (r : rpl B Z H M ds vs) (h : newL m ds M Qd) (q : VLk B Z H M Qd Q) : ∀ p, H p = none → Q (.ref p) (upd H p (.lst vs)) := by
  intro p hp
  cases m with
  | true =>
    obtain ⟨ev, s'⟩ := s.newM (mo := .lst ds) hp (o := .lst vs) fun M' e => ⟨vs, upd_same, e.rpl r⟩
    exact q (.ref p) _ (.ref p) _ ev s' rfl (h p (s.free hp))
  | false =>
    obtain ⟨ev, s'⟩ := s.newI hp (.lst vs)
    exact q (.ref p) _ (.lst ds) _ ev s' ⟨p, vs, rfl, s.im hp, upd_same, ev.rpl r⟩ h
theorem newT_ok (s : Sim B Z H M) (r : rpl B Z H M ds vs) (h : Qd (.tup ds) M) (q : VLk B Z H M Qd Q) : ∀ p, H p = none → Q (.ref p) (upd H p (.tup vs)) := by
  intro p hp
  obtain ⟨ev, s'⟩ := s.newI hp (.tup vs)
  exact q (.ref p) _ (.tup ds) _ ev s' ⟨p, vs, rfl, .inl ⟨s.im hp, upd_same⟩, ev.rpl r⟩ h
theorem newK_ok {kvs : List (Key × D)} {ws : List (Key × V)} (s : Sim B Z H M) (r : RpK (rp B Z H M) kvs ws) (h : newK kvs M Qd) (q : VLk B Z H M Qd Q) : ∀ p, H p = none → Q (.ref p) (upd H p (.dK ws)) := by
  intro p hp
  obtain ⟨ev, s'⟩ := s.newM (mo := .dic kvs) hp (o := .dK ws) fun M' e => ⟨ws, upd_same, r.mono fun _ _ z => e.rp z⟩
  exact q (.ref p) _ (.ref p) _ ev s' rfl (h p (s.free hp))
theorem dp_ints (K : PySem.W.Frag) : ∀ xs : List Int, DpAll K H (xs.map V.int) (xs.map PyData.int)
  | [] => .nil
  | x :: xs => .cons (.int x) (dp_ints K xs)
mutual
theorem rp_dp (K : PySem.W.Frag) (hK : B.K = K) : ∀ {d : D} {v : V}, isDat d = true → rp B Z H M d v → Dp K H v (pyD d)
  | .non, _, _, h => by cases h; exact .non
  | .bl _, _, _, h => by cases h; exact .bl _
  | .int _, _, _, h => by cases h; exact .int _
  | .str _, _, _, h => by cases h; exact .str _
  | .tup xs, v, c, h => by
    obtain ⟨a, vs, e, h1, r⟩ := tup_at h
    subst e
    subst hK
    exact .tup h1 (rp_dps B.K rfl c r)
  | .lst xs, v, c, ⟨a, vs, e, i, h, r⟩ => by
    subst e
    exact .lst (SqL.of h) (rp_dps K hK c r)
  | .scr xs, v, c, ⟨a, e, h⟩ => by
    subst e
    exact .lst (h.elim (fun h => .inl h.2) (fun h => hK ▸ sqL_nil h H)) (dp_ints K xs)
  | .ins _ _, _, c, _ => by cases c
  | .fnv _, _, c, _ => by cases c
  | .ref _, _, c, _ => by cases c
theorem rp_dps (K : PySem.W.Frag) (hK : B.K = K) : ∀ {ds : List D} {vs : List V}, isDats ds = true → rpl B Z H M ds vs → DpAll K H vs (pyL ds)
  | [], _, _, h => by cases h; exact .nil
  | d :: ds, vs, c, ⟨v, ws, e, r, s⟩ => by
    subst e
    have c' : isDat d = true ∧ isDats ds = true := by simpa [isDats] using c
    exact .cons (rp_dp K hK c'.1 r) (rp_dps K hK c'.2 s)
end
theorem res_at (s : Sim B Z H M) (r : rp B Z H M d v) (c : isDat (res M d) = true) (K : PySem.W.Frag) (hK : B.K = K) : Dp K H v (pyD (res M d)) := by
  cases d with
  | ref a =>
    cases r
    unfold res at c ⊢
    cases hm : M a with
    | none => simp only [hm] at c; cases c
    | some o =>
      cases o with
      | lst ds =>
        simp only [hm] at c ⊢
        obtain ⟨vs, h1, h2⟩ := (s.ob a _ hm).2
        exact .lst (SqL.of h1) (rp_dps K hK c h2)
      | dic k => simp only [hm] at c; cases c
      | ins c' f => simp only [hm] at c; cases c
  | _ => exact rp_dp K hK c r
theorem VLk.i {i : Int} (q : VLk B Z H M Qd Q) (s : Sim B Z H M) (h : Qd (.int i) M) : Q (.int i) H := q.here s (d := .int i) (show _ = _ from rfl) h
theorem VLk.t {i : Str} (q : VLk B Z H M Qd Q) (s : Sim B Z H M) (h : Qd (.str i) M) : Q (.str i) H := q.here s (d := .str i) (show _ = _ from rfl) h
theorem VLk.b {i : Bool} (q : VLk B Z H M Qd Q) (s : Sim B Z H M) (h : Qd (.bl i) M) : Q (.bl i) H := q.here s (d := .bl i) (show _ = _ from rfl) h
theorem VLk.n (q : VLk B Z H M Qd Q) (s : Sim B Z H M) (h : Qd .non M) : Q .non H := q.here s (d := .non) (show _ = _ from rfl) h
theorem VLk.r {a : Addr} (q : VLk B Z H M Qd Q) (s : Sim B Z H M) (h : Qd (.ref a) M) : Q (.ref a) H := q.here s (d := .ref a) (show _ = _ from rfl) h
theorem isNon_at (r : rp B Z H M d v) : decide (v = .non) = isNonD d := by
  cases d with
  | non => cases r; rfl
  | bl b => cases r; rfl
  | int i => cases r; rfl
  | str i => cases r; rfl
  | fnv i => cases r; rfl
  | ref i => cases r; rfl
  | scr xs => obtain ⟨a, e, _⟩ := r; subst e; rfl
  | tup xs => obtain ⟨a, _, e, _⟩ := r; subst e; rfl
  | lst xs => obtain ⟨a, _, e, _⟩ := r; subst e; rfl
  | ins c xs => obtain ⟨a, _, _, e, _⟩ := r; subst e; rfl
end

/-! ### the operations' rules -/
section
variable {X : Cx} {B : Bs}
theorem o_int {op : Operator} {C : Int → Int → Prop} {g : Int → Int → D} {g' : Int → Int → V} (h : OpR X (binaryOp op) (rI C g')) (hg : ∀ i j Z H M, rp B Z H M (g i j) (g' i j)) : OpR X (binaryOp op) (lf2 B (intD C g)) :=
  OpRimp h fun x y H Q ⟨Z, M, Qd, d, e, s, r1, r2, h, q⟩ => by
    unfold intD at h
    split at h
    · cases r1; cases r2
      exact ⟨_, _, rfl, rfl, h.1, q.here s (hg _ _ _ _ _) h.2⟩
    · exact h.elim
theorem rI_true {op : Operator} {g' : Int → Int → V} (h : OpR X (binaryOp op) (rI0 g')) : OpR X (binaryOp op) (rI (fun _ _ => True) g') := OpRimp h fun x y H Q ⟨i, j, a, b, _, q⟩ => ⟨i, j, a, b, q⟩
theorem o_sub : OpR X (binaryOp .Sub) (lf2 B subD) := o_int (rI_true op_sub) fun _ _ _ _ _ => rfl
theorem o_fdiv : OpR X (binaryOp .FloorDiv) (lf2 B fdivD) := o_int op_fdivW fun _ _ _ _ _ => rfl
theorem o_mod : OpR X (binaryOp .Mod) (lf2 B modD) := o_int op_mod fun _ _ _ _ _ => rfl
theorem o_pow : OpR X (binaryOp .Pow) (lf2 B powD) := o_int op_pow fun _ _ _ _ _ => rfl
theorem o_shl : OpR X (binaryOp .LShift) (lf2 B shlD) := o_int op_shl fun _ _ _ _ _ => rfl
theorem o_shr : OpR X (binaryOp .RShift) (lf2 B shrD) := o_int op_shr fun _ _ _ _ _ => rfl
theorem o_and : OpR X (binaryOp .BitAnd) (lf2 B andD) := o_int (rI_true op_and) fun _ _ _ _ _ => rfl
theorem o_add (hK : X.K = B.K) {m : Bool} : OpR X (binaryOp .Add) (lf2 B (addD m)) :=
  OpRimp (((op_add.or op_add_str).or op_catA).or op_cat) fun x y H Q ⟨Z, M, Qd, d, e, s, r1, r2, h, q⟩ => by
    unfold addD at h
    split at h
    · cases r1; cases r2
      exact .inl (.inl (.inl ⟨_, _, rfl, rfl, q.i s h⟩))
    · cases r1; cases r2
      exact .inl (.inl (.inr ⟨_, _, rfl, rfl, h.1, q.t s h.2⟩))
    · have r1' := r1
      have r2' := r2
      obtain ⟨a, vs, rfl, ha, ra⟩ := tup_at r1
      obtain ⟨b, ws, rfl, hb, rb⟩ := tup_at r2
      refine .inl (.inr ⟨a, b, vs, ws, rfl, rfl, hK ▸ ha, hK ▸ hb, by rw [← ra.length, ← rb.length]; exact h.1, fun e => ?_, fun _ e => ?_, fun _ _ => newT_ok s (ra.append rb) h.2 q⟩)
      · subst e
        have : _ = 0 := ra.length
        rw [List.eq_nil_of_length_eq_zero this] at h
        exact q.here s r2' h.2
      · subst e
        have : _ = 0 := rb.length
        rw [List.eq_nil_of_length_eq_zero this, List.append_nil] at h
        exact q.here s r1' h.2
    · obtain ⟨xs, ys, h1, h2, hl, h⟩ := h
      obtain ⟨a, vs, rfl, ha, ra⟩ := lstO_at s r1 h1
      obtain ⟨b, ws, rfl, hb, rb⟩ := lstO_at s r2 h2
      exact .inr ⟨a, b, vs, ws, rfl, rfl, ha, hb, by rw [← ra.length, ← rb.length]; exact hl, newL_ok s (ra.append rb) h q⟩
theorem RpL.rep {Z : List Addr} {H : Hp} {M : Mem} {ds : List D} {vs : List V} (r : rpl B Z H M ds vs) : ∀ n : Nat, rpl B Z H M (List.replicate n ds).flatten (List.replicate n vs).flatten
  | 0 => rfl
  | n + 1 => by rw [List.replicate_succ, List.replicate_succ, List.flatten_cons, List.flatten_cons]; exact r.append (RpL.rep r n)
theorem o_mul {m : Bool} : OpR X (binaryOp .Mult) (lf2 B (mulD m)) :=
  OpRimp ((op_mul.or op_mulW).or op_rep) fun x y H Q ⟨Z, M, Qd, d, e, s, r1, r2, h, q⟩ => by
    unfold mulD at h
    split at h
    · cases r1; cases r2
      exact .inl (h.1.elim (fun c => .inl ⟨_, _, rfl, rfl, c, q.i s h.2⟩) fun c => .inr ⟨_, _, rfl, rfl, c, q.i s h.2⟩)
    · obtain ⟨xs, h1, h2, h3, hl, h⟩ := h
      cases r2
      obtain ⟨a, vs, rfl, ha, ra⟩ := lstO_at s r1 h1
      exact .inr ⟨a, _, vs, rfl, rfl, ha, h2, h3, by rw [← ra.length]; exact hl, newL_ok s (RpL.rep ra _) h q⟩
    · exact h.elim
theorem o_eq (hK : X.K = B.K) (hu : X.A.units + 64 < cLine) : OpR X (compareOp .Eq) (lf2 B (eqD false)) :=
  OpRimp (op_eq.or (op_eqD hu)) fun x y H Q ⟨Z, M, Qd, d, e, s, r1, r2, h, q⟩ => by
    unfold eqD at h
    split at h
    · cases r1; cases r2
      refine .inl ⟨rfl, q.b s ?_⟩
      simpa using h
    · cases r1; cases r2
      refine .inl ⟨rfl, q.b s ?_⟩
      simpa using h
    · exact .inr ⟨_, _, res_at s r1 h.1.1 _ hK.symm, res_at s r2 h.2.1.1 _ hK.symm, h.1.2, h.2.1.2, q.b s h.2.2⟩
theorem o_ne (hK : X.K = B.K) (hu : X.A.units + 64 < cLine) : OpR X (compareOp .NotEq) (lf2 B (eqD true)) :=
  OpRimp (op_ne.or (op_neD hu)) fun x y H Q ⟨Z, M, Qd, d, e, s, r1, r2, h, q⟩ => by
    unfold eqD at h
    split at h
    · cases r1; cases r2
      refine .inl ⟨rfl, q.b s ?_⟩
      simpa using h
    · cases r1; cases r2
      refine .inl ⟨rfl, q.b s ?_⟩
      simpa using h
    · exact .inr ⟨_, _, res_at s r1 h.1.1 _ hK.symm, res_at s r2 h.2.1.1 _ hK.symm, h.1.2, h.2.1.2, q.b s h.2.2⟩
theorem o_ord {op : CmpOp} {f : Int → Int → Bool} {g : List Nat → List Nat → Bool} (h1 : OpR X (compareOp op) (rI0 fun i j => .bl (f i j))) (h2 : OpR X (compareOp op) (fun x y H Q => ∃ i j, x = .str i ∧ y = .str j ∧ Q (.bl (g i.cps.toList j.cps.toList)) H)) :
    OpR X (compareOp op) (lf2 B (ordD f g)) :=
  OpRimp (h1.or h2) fun x y H Q ⟨Z, M, Qd, d, e, s, r1, r2, h, q⟩ => by
    unfold ordD at h
    split at h
    · cases r1; cases r2; exact .inl ⟨_, _, rfl, rfl, q.b s h⟩
    · cases r1; cases r2; exact .inr ⟨_, _, rfl, rfl, q.b s h⟩
    · exact h.elim
theorem o_lt : OpR X (compareOp .Lt) (lf2 B ltD) := o_ord op_lt op_lt_str
theorem o_le : OpR X (compareOp .LtE) (lf2 B leD) := o_ord op_le op_le_str
theorem o_gt : OpR X (compareOp .Gt) (lf2 B gtD) := o_ord op_gt op_gt_str
theorem o_ge : OpR X (compareOp .GtE) (lf2 B geD) := o_ord op_ge op_ge_str
end
end Dn
set_option Elab.async false
set_option linter.all false
set_option maxRecDepth 100000
set_option maxHeartbeats 4000000
/-! Dn4: sorted lists; membership, subscripts, slices, calls of built-ins, methods of built-ins. -/
namespace Dn
open PySem PySem.Spec PyProof.Rows L2

/-! ### sorting by plain functions -/
def isort (ns : List Int) : List Int := ns.mergeSort fun a b => decide (a ≤ b)
theorem isort_perm (ns : List Int) : (isort ns).Perm ns := List.mergeSort_perm _ _
theorem isort_sorted (ns : List Int) : (isort ns).Pairwise (· ≤ ·) := by
  have h := List.pairwise_mergeSort (le := fun a b : Int => decide (a ≤ b)) (fun a b c h1 h2 => by simp at *; omega) (fun a b => by simp; omega) ns
  exact h.imp fun {a b} h => by simpa using h
theorem isort_uniq {ns ms : List Int} (p : ms.Perm ns) (s : ms.Pairwise (· ≤ ·)) : ms = isort ns :=
  List.Perm.eq_of_pairwise (fun a b _ _ h1 h2 => Int.le_antisymm h1 h2) s (isort_sorted ns) (p.trans (isort_perm ns).symm)
theorem ltCps_tot : ∀ a b : List Nat, ltCps a b = false → ltCps b a = false → a = b
  | [], [], _, _ => rfl
  | [], _ :: _, h, _ => by simp [ltCps] at h
  | _ :: _, [], _, h => by simp [ltCps] at h
  | a :: r, b :: t, h1, h2 => by
    simp only [ltCps, Bool.or_eq_false_iff, decide_eq_false_iff_not, Bool.and_eq_false_iff, beq_eq_false_iff_ne] at h1 h2
    have e : a = b := by omega
    subst e
    rw [ltCps_tot r t (by have := h1.2; simpa using this) (by have := h2.2; simpa using this)]
theorem ltCps_trans : ∀ a b c : List Nat, ltCps b a = false → ltCps c b = false → ltCps c a = false
  | [], _, [], _, _ => rfl
  | [], [], _ :: _, _, h => by simp [ltCps] at h ⊢
  | [], b :: t, c :: r, h, h2 => by simp [ltCps]
  | a :: s, [], _, h, _ => by simp [ltCps] at h
  | a :: s, b :: t, [], _, h => by simp [ltCps] at h
  | a :: s, b :: t, c :: r, h1, h2 => by
    simp only [ltCps, Bool.or_eq_false_iff, decide_eq_false_iff_not, Bool.and_eq_false_iff, beq_eq_false_iff_ne] at h1 h2 ⊢
    refine ⟨by omega, ?_⟩
    by_cases e : c = a
    · right
      have e1 : b = a := by omega
      have e2 : c = b := by omega
      exact ltCps_trans s t r (h1.2.resolve_left (fun q => q e1)) (h2.2.resolve_left (fun q => q e2))
    · exact .inl e
theorem ltCps_asymm : ∀ a b : List Nat, ltCps a b = true → ltCps b a = false
  | [], [], h => by simp [ltCps] at h
  | [], _ :: _, _ => by simp [ltCps]
  | _ :: _, [], h => by simp [ltCps] at h
  | a :: r, b :: t, h => by
    simp only [ltCps, Bool.or_eq_true, decide_eq_true_eq, Bool.and_eq_true, beq_iff_eq] at h
    simp only [ltCps, Bool.or_eq_false_iff, decide_eq_false_iff_not, Bool.and_eq_false_iff, beq_eq_false_iff_ne]
    rcases h with h | ⟨e, h⟩
    · exact ⟨by omega, .inl (by omega)⟩
    · exact ⟨by omega, .inr (ltCps_asymm r t h)⟩
def leS (a b : Str) : Bool := !ltCps b.cps.toList a.cps.toList
theorem leS_anti {a b : Str} (h1 : leS a b = true) (h2 : leS b a = true) : a = b := by
  have e := ltCps_tot a.cps.toList b.cps.toList (by simpa [leS] using h2) (by simpa [leS] using h1)
  cases a; cases b
  exact congrArg Str.mk (Array.toList_inj.mp e)
def ssort (xs : List Str) : List Str := xs.mergeSort leS
theorem ssort_perm (xs : List Str) : (ssort xs).Perm xs := List.mergeSort_perm _ _
theorem leS_trans {a b c : Str} (h1 : leS a b = true) (h2 : leS b c = true) : leS a c = true := by
  simp only [leS, Bool.not_eq_true'] at *; exact ltCps_trans _ _ _ h1 h2
theorem leS_total (a b : Str) : (leS a b || leS b a) = true := by
  cases h : ltCps b.cps.toList a.cps.toList
  · simp [leS, h]
  · simp [leS, ltCps_asymm _ _ h]
theorem ssort_sorted (xs : List Str) : (ssort xs).Pairwise (fun a b => leS a b = true) :=
  List.pairwise_mergeSort (le := leS) (fun a b c => leS_trans) leS_total xs
theorem risingS_pw : ∀ (p : Str) (l : List Str), risingS p l = true → (p :: l).Pairwise fun a b => leS a b = true
  | p, [], _ => by simp
  | p, x :: r, h => by
    have h' : leS p x = true ∧ risingS x r = true := by simpa [risingS, leS] using h
    have ih := risingS_pw x r h'.2
    refine List.pairwise_cons.mpr ⟨fun y hy => ?_, ih⟩
    rcases List.mem_cons.mp hy with rfl | hy
    · exact h'.1
    · exact leS_trans h'.1 ((List.pairwise_cons.mp ih).1 y hy)
theorem sortedS_pw : ∀ l : List Str, sortedS l = true → l.Pairwise fun a b => leS a b = true
  | [], _ => .nil
  | x :: r, h => risingS_pw x r h
theorem ssort_uniq {xs ys : List Str} (p : ys.Perm xs) (s : sortedS ys = true) : ys = ssort xs :=
  List.Perm.eq_of_pairwise (le := fun a b => leS a b = true) (fun a b _ _ h1 h2 => leS_anti h1 h2) (sortedS_pw _ s) (ssort_sorted xs) (p.trans (ssort_perm xs).symm)

/-! ### operations, further -/
def lenD (ds : List D) (M : Mem) (Q : KD) : Prop :=
  match ds with
  | [.str x] => x.length ≤ sizeLine ∧ Q (.int x.length) M
  | [.tup xs] => Q (.int xs.length) M
  | [d] => match dicO M d with
    | some kvs => Q (.int kvs.length) M
    | none => ∃ xs, lstS M d = some xs ∧ Q (.int xs.length) M
  | _ => False
def listD (m : Bool) (ds : List D) (M : Mem) (Q : KD) : Prop :=
  match ds with
  | [.tup xs] => newL m xs M Q
  | [d] => match dicO M d with
    | some kvs => newL m (kvs.map fun kv => dK kv.1) M Q
    | none => ∃ xs, lstS M d = some xs ∧ newL m xs M Q
  | _ => False
def tupD (ds : List D) (M : Mem) (Q : KD) : Prop :=
  match ds with
  | [.tup xs] => Q (.tup xs) M
  | [d] => ∃ xs, lstS M d = some xs ∧ Q (.tup xs) M
  | _ => False
def dictD (ds : List D) (M : Mem) (Q : KD) : Prop := ∃ d kvs, ds = [d] ∧ dicO M d = some kvs ∧ newK kvs M Q
def pairK : List D → Option (List (Key × D))
  | [] => some []
  | .tup [k, v] :: r => match keyD k, pairK r with
    | some k, some kvs => some ((k, v) :: kvs)
    | _, _ => none
  | _ :: _ => none
def mergeKD (kvs more : List (Key × D)) : List (Key × D) := more.foldl (fun acc kv => putKD acc kv.1 kv.2) kvs
def dictPD (ds : List D) (M : Mem) (Q : KD) : Prop := ∃ d xs kvs, ds = [d] ∧ lstS M d = some xs ∧ pairK xs = some kvs ∧ newK (mergeKD [] kvs) M Q
def intCD (ds : List D) (M : Mem) (Q : KD) : Prop :=
  match ds with
  | [.int i] => Q (.int i) M
  | [.bl b] => Q (.int (if b then 1 else 0)) M
  | _ => False
def absD (ds : List D) (M : Mem) (Q : KD) : Prop :=
  match ds with
  | [.int i] => Q (.int (if i < 0 then -i else i)) M
  | _ => False
def strCD (ds : List D) (M : Mem) (Q : KD) : Prop :=
  match ds with
  | [.int i] => i.natAbs.log2 < 1920 ∧ Q (.str (toString i)) M
  | _ => False
def ordCD (ds : List D) (M : Mem) (Q : KD) : Prop :=
  match ds with
  | [.str x] => x.length = 1 ∧ Q (.int (x.cps.getD 0 0 : Nat)) M
  | _ => False
def max2D (ds : List D) (M : Mem) (Q : KD) : Prop :=
  match ds with
  | [.int i, .int j] => Q (.int (if j > i then j else i)) M
  | _ => False
def min2D (ds : List D) (M : Mem) (Q : KD) : Prop :=
  match ds with
  | [.int i, .int j] => Q (.int (if j < i then j else i)) M
  | _ => False
def sumD (ds : List D) (M : Mem) (Q : KD) : Prop := ∃ (d : D) (ns : List Int), ds = [d] ∧ lstO M d = some (ns.map D.int) ∧ Q (.int ns.sum) M
def maxLD (ds : List D) (M : Mem) (Q : KD) : Prop := ∃ (d : D) (ns : List Int), ds = [d] ∧ lstO M d = some (ns.map D.int) ∧ 0 < ns.length ∧ ∀ m, m ∈ ns → (∀ y, y ∈ ns → y ≤ m) → Q (.int m) M
def minLD (ds : List D) (M : Mem) (Q : KD) : Prop := ∃ (d : D) (ns : List Int), ds = [d] ∧ lstO M d = some (ns.map D.int) ∧ 0 < ns.length ∧ ∀ m, m ∈ ns → (∀ y, y ∈ ns → m ≤ y) → Q (.int m) M
def anyD (ds : List D) (M : Mem) (Q : KD) : Prop := ∃ (d : D) (bs : List Bool), ds = [d] ∧ lstO M d = some (bs.map D.bl) ∧ Q (.bl (bs.any id)) M
def allD (ds : List D) (M : Mem) (Q : KD) : Prop := ∃ (d : D) (bs : List Bool), ds = [d] ∧ lstO M d = some (bs.map D.bl) ∧ Q (.bl (bs.all id)) M
/-- sorted of a list of ints, of a list of fewer than 64 texts, of a dict with fewer than 64 keys of one kind -/
def sortD (m : Bool) (ds : List D) (M : Mem) (Q : KD) : Prop := ∃ d, ds = [d] ∧
  ((∃ ns : List Int, lstO M d = some (ns.map D.int) ∧ newL m ((isort ns).map D.int) M Q) ∨ (∃ ns : List Str, lstO M d = some (ns.map D.str) ∧ ns.length < 64 ∧ newL m ((ssort ns).map D.str) M Q) ∨
   (∃ (kvs : List (Key × D)) (ns : List Int), dicO M d = some kvs ∧ kvs.map (·.1) = ns.map Sum.inl ∧ ns.length < 64 ∧ newL m ((isort ns).map D.int) M Q) ∨ (∃ (kvs : List (Key × D)) (ns : List Str), dicO M d = some kvs ∧ kvs.map (·.1) = ns.map Sum.inr ∧ ns.length < 64 ∧ newL m ((ssort ns).map D.str) M Q))

section
variable {X : Cx} {B : Bs}
theorem flat_at {Z : List Addr} {H : Hp} {M : Mem} {d : D} {v : V} (f : flatD d = true) (r : rp B Z H M d v) : flatV v = true := by
  cases d with
  | non => cases r; rfl
  | bl b => cases r; rfl
  | int b => cases r; rfl
  | str b => cases r; rfl
  | _ => cases f
theorem eqV_at {Z : List Addr} {H : Hp} {M : Mem} {d e : D} {v u : V} (f : flatD d = true) (g : flatD e = true) (r : rp B Z H M d v) (s : rp B Z H M e u) : eqV v u = eqvD d e := by
  cases d with
  | non => cases r; cases e <;> first | (cases s; rfl) | cases g
  | bl b => cases r; cases e <;> first | (cases s; rfl) | cases g
  | int b => cases r; cases e <;> first | (cases s; rfl) | cases g
  | str b => cases r; cases e <;> first | (cases s; rfl) | cases g
  | _ => cases f
theorem flats_at {Z : List Addr} {H : Hp} {M : Mem} {d : D} {v : V} (f : flatD d = true) (r : rp B Z H M d v) : ∀ {ds : List D} {vs : List V}, ds.all flatD = true → rpl B Z H M ds vs → vs.all flatV = true ∧ inV v vs = ds.any fun z => eqvD z d
  | [], _, _, h => by cases h; exact ⟨rfl, rfl⟩
  | e :: ds, vs, c, ⟨u, ws, q, r1, r2⟩ => by
    subst q
    have c' : flatD e = true ∧ ds.all flatD = true := by simpa using c
    have ih := flats_at f r c'.2 r2
    refine ⟨by rw [List.all_cons, flat_at c'.1 r1, ih.1]; rfl, ?_⟩
    show (List.any (u :: ws) fun y => eqV y v) = _
    rw [List.any_cons, List.any_cons, eqV_at c'.1 f r1 r, ← ih.2]
    rfl
theorem any_pyL (d : PyData) : ∀ es : List D, ((pyL es).any fun z => PyData.eqv z d) = es.any fun z => PyData.eqv (pyD z) d
  | [] => rfl
  | e :: es => by show (List.any (pyD e :: pyL es) _) = _; rw [List.any_cons, List.any_cons, any_pyL d es]
theorem op_din (hu : X.A.units + 1 < cLine) : OpR X (compareOp .In) (fun x y H Q => ∃ a o, y = .ref a ∧ DGet H a x o ∧ Q (.bl o.isSome) H) := by
  intro pins s σ H x y u v Q I rx ry h
  obtain ⟨a, o, rfl, g, q⟩ := h
  obtain rfl : v = Value.ref a := ry
  exact d_in hu I g rx fun s3 I3 => ⟨.bl o.isSome, H, I3, rfl, q⟩
theorem op_dnotin (hu : X.A.units + 1 < cLine) : OpR X (compareOp .NotIn) (fun x y H Q => ∃ a o, y = .ref a ∧ DGet H a x o ∧ Q (.bl (!o.isSome)) H) := by
  intro pins s σ H x y u v Q I rx ry h
  obtain ⟨a, o, rfl, g, q⟩ := h
  obtain rfl : v = Value.ref a := ry
  exact d_notIn hu I g rx fun s3 I3 => ⟨.bl (!o.isSome), H, I3, rfl, q⟩
theorem lstO_dp {Z : List Addr} {H : Hp} {M : Mem} {d : D} {v : V} {es : List D} (s : Sim B Z H M) (r : rp B Z H M d v) (h : lstO M d = some es) (c : isDat (.lst es) = true) (K : PySem.W.Frag) (hK : B.K = K) : Dp K H v (.list (pyL es)) := by
  obtain ⟨a, vs, rfl, ha, ra⟩ := lstO_at s r h
  exact .lst (SqL.of ha) (rp_dps K hK c ra)
theorem o_in (hK : X.K = B.K) (hu : X.A.units + 65 < cLine) : OpR X (compareOp .In) (lf2 B (inD false)) :=
  OpRimp (((op_in_sign.or op_in_seq).or (op_din (by omega))).or (op_inD hu)) fun x y H Q ⟨Z, M, Qd, d, e, s, r1, r2, h, q⟩ => by
    unfold inD at h
    split at h
    · obtain ⟨c, rfl, h⟩ := h
      cases r1; cases r2
      exact .inl (.inl (.inl ⟨c, _, rfl, rfl, q.b s h⟩))
    · obtain ⟨f, g, h⟩ := h
      obtain ⟨a, vs, rfl, ha, ra⟩ := tup_at r2
      obtain ⟨g1, g2⟩ := flats_at f r1 g ra
      refine .inl (.inl (.inr ⟨a, vs, rfl, .inr (hK ▸ ha), flat_at f r1, g1, ?_⟩))
      show Q (.bl (inV x vs)) H
      rw [g2]
      exact q.b s h
    · split at h
      · obtain ⟨k, hk, h⟩ := h
        obtain ⟨a, ws, rfl, hm, rfl, ha, rk⟩ := dicO_at s r2 (by assumption)
        obtain rfl := keyD_at r1 hk
        refine .inl (.inr ⟨a, _, rfl, DGet.k ha, ?_⟩)
        rw [rk.isSome]
        exact q.b s h
      · obtain ⟨es, h1, c1, c2, h⟩ := h
        refine .inr ⟨_, pyL es, hK ▸ rp_dp B.K rfl c1.1 r1, hK ▸ lstO_dp s r2 h1 c2.1 B.K rfl, c1.2, c2.2, ?_⟩
        rw [any_pyL]
        exact q.b s h
theorem o_notin (hK : X.K = B.K) (hu : X.A.units + 65 < cLine) : OpR X (compareOp .NotIn) (lf2 B (inD true)) :=
  OpRimp (((op_notIn_sign.or op_notIn_seq).or (op_dnotin (by omega))).or (op_notInD hu)) fun x y H Q ⟨Z, M, Qd, d, e, s, r1, r2, h, q⟩ => by
    unfold inD at h
    split at h
    · obtain ⟨c, rfl, h⟩ := h
      cases r1; cases r2
      exact .inl (.inl (.inl ⟨c, _, rfl, rfl, q.b s h⟩))
    · obtain ⟨f, g, h⟩ := h
      obtain ⟨a, vs, rfl, ha, ra⟩ := tup_at r2
      obtain ⟨g1, g2⟩ := flats_at f r1 g ra
      refine .inl (.inl (.inr ⟨a, vs, rfl, .inr (hK ▸ ha), flat_at f r1, g1, ?_⟩))
      show Q (.bl (!inV x vs)) H
      rw [g2]
      exact q.b s h
    · split at h
      · obtain ⟨k, hk, h⟩ := h
        obtain ⟨a, ws, rfl, hm, rfl, ha, rk⟩ := dicO_at s r2 (by assumption)
        obtain rfl := keyD_at r1 hk
        refine .inl (.inr ⟨a, _, rfl, DGet.k ha, ?_⟩)
        rw [rk.isSome]
        exact q.b s h
      · obtain ⟨es, h1, c1, c2, h⟩ := h
        refine .inr ⟨_, pyL es, hK ▸ rp_dp B.K rfl c1.1 r1, hK ▸ lstO_dp s r2 h1 c2.1 B.K rfl, c1.2, c2.2, ?_⟩
        rw [any_pyL]
        exact q.b s h
/-! ### subscripts -/
theorem ix_dict (hu : X.A.units + 1 < cLine) : IxR X (fun x y H Q => ∃ a v, x = .ref a ∧ DGet H a y (some v) ∧ Q v H) := by
  intro value slice pins s σ H x y v u Q I rx ry h hs
  obtain ⟨a, w, rfl, g, q⟩ := h
  obtain rfl : v = Value.ref a := rx
  exact PyProof.Rows.tail_any (dict_typeIs I g) PySem.F.slot_dict_getitem.lookup (d_getItem hu I g ry fun w' s3 I3 rw' => ⟨w, H, I3, rw', q⟩) hs
theorem RpL.atI {Z : List Addr} {H : Hp} {M : Mem} {ds : List D} {vs : List V} {i : Int} {d : D} (r : rpl B Z H M ds vs) (h : atI ds i = some d) : ∃ v, L2.atI vs i = some v ∧ rp B Z H M d v := by
  unfold L2.atI at h ⊢
  rw [← r.length]
  cases e : ixN ds.length i with
  | none => rw [e] at h; cases h
  | some j => rw [e] at h; exact r.get h
theorem i_ix (hK : X.K = B.K) (hu : X.A.units + 1 < cLine) : IxR X (lf2 B ixD) :=
  IxRimp (ix_seq.or (ix_dict hu)) fun x y H Q ⟨Z, M, Qd, d, e, s, r1, r2, h, q⟩ => by
    unfold ixD at h
    split at h
    · obtain ⟨i, c, rfl, hz, ha, h⟩ := h
      cases r1; cases r2
      exact .inl (.inr (.inr ⟨_, _, c, rfl, rfl, hz, ha, q.t s h⟩))
    · obtain ⟨i, y', rfl, ha, h⟩ := h
      cases r2
      obtain ⟨a, vs, rfl, hv, ra⟩ := tup_at r1
      obtain ⟨v, ev, rv⟩ := ra.atI ha
      exact .inl (.inr (.inl ⟨a, vs, i, v, rfl, rfl, hK ▸ hv, ev, q.here s rv h⟩))
    · split at h
      · obtain ⟨k, y', hk, hv, h⟩ := h
        obtain ⟨a, ws, rfl, hm, rfl, ha, rk⟩ := dicO_at s r1 (by assumption)
        obtain rfl := keyD_at r2 hk
        obtain ⟨v, ev, rv⟩ := (rk.val k).1 _ hv
        exact .inr ⟨a, v, rfl, ev ▸ DGet.k ha, q.here s rv h⟩
      · obtain ⟨xs, i, y', h1, rfl, ha, h⟩ := h
        cases r2
        obtain ⟨a, vs, rfl, hv, ra⟩ := lstS_at B.K rfl s r1 h1
        obtain ⟨v, ev, rv⟩ := ra.atI ha
        exact .inl (.inl ⟨a, vs, i, v, rfl, rfl, hK ▸ hv, ev, q.here s rv h⟩)
/-! ### calls of built-ins -/
theorem rpl1 {Z : List Addr} {H : Hp} {M : Mem} {d : D} {vs : List V} (r : rpl B Z H M [d] vs) : ∃ v, vs = [v] ∧ rp B Z H M d v := by
  obtain ⟨v, ws, rfl, r1, r2⟩ := r
  obtain rfl : ws = [] := r2
  exact ⟨v, rfl, r1⟩
theorem rpl2 {Z : List Addr} {H : Hp} {M : Mem} {d e : D} {vs : List V} (r : rpl B Z H M [d, e] vs) : ∃ v w, vs = [v, w] ∧ rp B Z H M d v ∧ rp B Z H M e w := by
  obtain ⟨v, ws, rfl, r1, r2⟩ := r
  obtain ⟨w, rfl, r3⟩ := rpl1 r2
  exact ⟨v, w, rfl, r1, r3⟩
theorem c_len (hK : X.K = B.K) : CallR X (.builtin "len") (lfN B lenD) :=
  CallRimp ((call_len_str.or call_lenD).or call_len_seq) fun xs H Q ⟨Z, M, Qd, ds, s, r, h, q⟩ => by
    unfold lenD at h
    split at h
    · obtain ⟨v, rfl, r0⟩ := rpl1 r
      cases r0
      exact .inl (.inl ⟨_, rfl, h.1, q.i s h.2⟩)
    · obtain ⟨v, rfl, r0⟩ := rpl1 r
      obtain ⟨a, vs, rfl, hv, ra⟩ := tup_at r0
      refine .inr ⟨a, vs, rfl, .inr (hK ▸ hv), ?_⟩
      rw [← ra.length]
      exact q.i s h
    · obtain ⟨v, rfl, r0⟩ := rpl1 r
      split at h
      · obtain ⟨a, ws, rfl, hm, rfl, ha, rk⟩ := dicO_at s r0 (by assumption)
        refine .inl (.inr ⟨a, ws, rfl, ha, ?_⟩)
        rw [← rk.length]
        exact q.i s h
      · obtain ⟨xs, h1, h⟩ := h
        obtain ⟨a, vs, rfl, hv, ra⟩ := lstS_at B.K rfl s r0 h1
        refine .inr ⟨a, vs, rfl, .inl (hK ▸ hv), ?_⟩
        rw [← ra.length]
        exact q.i s h
    · exact h.elim
theorem RpK.dks {Z : List Addr} {H : Hp} {M : Mem} {R : D → V → Prop} {ks : List (Key × D)} {ws : List (Key × V)} (r : RpK R ks ws) : rpl B Z H M (ks.map fun kv => dK kv.1) (ws.map fun kv => kV kv.1) := by
  induction r with
  | nil => rfl
  | @cons p q l m h t ih => exact ⟨kV q.1, _, rfl, h.1 ▸ dK_at p.1, ih⟩
theorem c_list (hK : X.K = B.K) (hc : X.calm = true) {m : Bool} : CallR X (.type "list") (lfN B (listD m)) :=
  CallRimp (call_list_of.or (call_list_dK hc)) fun xs H Q ⟨Z, M, Qd, ds, s, r, h, q⟩ => by
    unfold listD at h
    split at h
    · obtain ⟨v, rfl, r0⟩ := rpl1 r
      obtain ⟨a, vs, rfl, hv, ra⟩ := tup_at r0
      exact .inl ⟨a, vs, rfl, .inr (hK ▸ hv), newL_ok s ra h q⟩
    · obtain ⟨v, rfl, r0⟩ := rpl1 r
      split at h
      · obtain ⟨a, ws, rfl, hm, rfl, ha, rk⟩ := dicO_at s r0 (by assumption)
        exact .inr ⟨a, ws, rfl, ha, newL_ok s rk.dks h q⟩
      · obtain ⟨xs, h1, h⟩ := h
        obtain ⟨a, vs, rfl, hv, ra⟩ := lstS_at B.K rfl s r0 h1
        exact .inl ⟨a, vs, rfl, .inl (hK ▸ hv), newL_ok s ra h q⟩
    · exact h.elim
theorem c_tuple (hK : X.K = B.K) : CallR X (.type "tuple") (lfN B tupD) :=
  CallRimp call_tuple_of fun xs H Q ⟨Z, M, Qd, ds, s, r, h, q⟩ => by
    unfold tupD at h
    split at h
    · obtain ⟨v, rfl, r0⟩ := rpl1 r
      have r00 := r0
      obtain ⟨a, vs, rfl, hv, ra⟩ := tup_at r0
      exact ⟨a, vs, rfl, .inr ⟨hK ▸ hv, q.here s r00 h⟩⟩
    · obtain ⟨v, rfl, r0⟩ := rpl1 r
      obtain ⟨xs, h1, h⟩ := h
      obtain ⟨a, vs, rfl, hv, ra⟩ := lstS_at B.K rfl s r0 h1
      exact ⟨a, vs, rfl, .inl ⟨hK ▸ hv, newT_ok s ra h q⟩⟩
    · exact h.elim
theorem c_dict : CallR X (.type "dict") (lfN B dictD) :=
  CallRimp call_dictD fun xs H Q ⟨Z, M, Qd, ds, s, r, h, q⟩ => by
    obtain ⟨d, kvs, rfl, h1, h⟩ := h
    obtain ⟨v, rfl, r0⟩ := rpl1 r
    obtain ⟨a, ws, rfl, hm, rfl, ha, rk⟩ := dicO_at s r0 h1
    exact ⟨a, ws, rfl, .inl ha, newK_ok s rk h q⟩
theorem pairK_at {Z : List Addr} {H : Hp} {M : Mem} : ∀ {xs : List D} {vs : List V} {kvs : List (Key × D)}, pairK xs = some kvs → rpl B Z H M xs vs → ∃ (ps : List Addr) (ws : List (Key × V)), vs = ps.map V.ref ∧ Paired (fun p kv => SqT B.K H p [kV kv.1, kv.2]) ps ws ∧ RpK (rp B Z H M) kvs ws
  | [], _, _, e, h => by cases e; cases h; exact ⟨[], [], rfl, .nil, .nil⟩
  | d :: ds, vs, kvs, e, h => by
    unfold pairK at e
    split at e
    · rename_i heq; cases heq
    · rename_i k0 v0 r0 heq
      cases heq
      split at e
      · rename_i k kvs' hk hr
        cases e
        obtain ⟨v, ws, rfl, r1, r2⟩ := h
        obtain ⟨a, us, rfl, hv, ra⟩ := tup_at r1
        obtain ⟨x, y, rfl, rx, ry⟩ := rpl2 ra
        obtain rfl := keyD_at rx hk
        obtain ⟨ps, us, rfl, h1, h2⟩ := pairK_at hr r2
        exact ⟨a :: ps, (k, y) :: us, rfl, .cons hv h1, .cons ⟨rfl, ry⟩ h2⟩
      · cases e
    · cases e
theorem RpK.merge {Z : List Addr} {H : Hp} {M : Mem} : ∀ {more : List (Key × D)} {rs : List (Key × V)} {ks : List (Key × D)} {ws : List (Key × V)}, RpK (rp B Z H M) more rs → RpK (rp B Z H M) ks ws → RpK (rp B Z H M) (mergeKD ks more) (mergeK ws rs)
  | _, _, _, _, .nil, h => h
  | _, _, _, _, .cons (a := p) (b := q) e t, h => by
    show RpK _ (mergeKD (putKD _ p.1 p.2) _) (mergeK (putK _ q.1 q.2) _)
    rw [← e.1]
    exact RpK.merge t (h.put _ e.2)
theorem c_dictP (hK : X.K = B.K) (hc : X.calm = true) : CallR X (.type "dict") (lfN B dictPD) :=
  CallRimp (call_dictP hc) fun xs H Q ⟨Z, M, Qd, ds, s, r, h, q⟩ => by
    obtain ⟨d, xs, kvs, rfl, h1, h2, h⟩ := h
    obtain ⟨v, rfl, r0⟩ := rpl1 r
    obtain ⟨a, vs, rfl, hv, ra⟩ := lstS_at B.K rfl s r0 h1
    obtain ⟨ps, ws, rfl, h3, h4⟩ := pairK_at h2 ra
    exact ⟨a, ps, ws, rfl, hK ▸ hv, hK ▸ h3, newK_ok s (RpK.merge h4 .nil) h q⟩
theorem c_int : CallR X (.type "int") (lfN B intCD) :=
  CallRimp call_int1 fun xs H Q ⟨Z, M, Qd, ds, s, r, h, q⟩ => by
    unfold intCD at h
    split at h
    · obtain ⟨v, rfl, r0⟩ := rpl1 r
      cases r0
      exact .inl ⟨_, rfl, q.i s h⟩
    · obtain ⟨v, rfl, r0⟩ := rpl1 r
      cases r0
      exact .inr ⟨_, rfl, q.i s h⟩
    · exact h.elim
theorem c_abs : CallR X (.builtin "abs") (lfN B absD) :=
  CallRimp call_abs fun xs H Q ⟨Z, M, Qd, ds, s, r, h, q⟩ => by
    unfold absD at h
    split at h
    · obtain ⟨v, rfl, r0⟩ := rpl1 r
      cases r0
      exact ⟨_, rfl, q.i s h⟩
    · exact h.elim
theorem c_str : CallR X (.type "str") (lfN B strCD) :=
  CallRimp call_str_int fun xs H Q ⟨Z, M, Qd, ds, s, r, h, q⟩ => by
    unfold strCD at h
    split at h
    · obtain ⟨v, rfl, r0⟩ := rpl1 r
      cases r0
      exact ⟨_, rfl, h.1, q.t s h.2⟩
    · exact h.elim
theorem c_ord : CallR X (.builtin "ord") (lfN B ordCD) :=
  CallRimp call_ord fun xs H Q ⟨Z, M, Qd, ds, s, r, h, q⟩ => by
    unfold ordCD at h
    split at h
    · obtain ⟨v, rfl, r0⟩ := rpl1 r
      cases r0
      exact ⟨_, rfl, h.1, q.i s h.2⟩
    · exact h.elim
theorem c_max2 (hc : X.calm = true) : CallR X (.builtin "max") (lfN B max2D) :=
  CallRimp (call_max2 hc) fun xs H Q ⟨Z, M, Qd, ds, s, r, h, q⟩ => by
    unfold max2D at h
    split at h
    · obtain ⟨v, w, rfl, r1, r2⟩ := rpl2 r
      cases r1; cases r2
      exact ⟨_, _, rfl, q.i s h⟩
    · exact h.elim
theorem c_min2 (hc : X.calm = true) : CallR X (.builtin "min") (lfN B min2D) :=
  CallRimp (call_min2 hc) fun xs H Q ⟨Z, M, Qd, ds, s, r, h, q⟩ => by
    unfold min2D at h
    split at h
    · obtain ⟨v, w, rfl, r1, r2⟩ := rpl2 r
      cases r1; cases r2
      exact ⟨_, _, rfl, q.i s h⟩
    · exact h.elim
theorem lst_ints {Z : List Addr} {H : Hp} {M : Mem} {d : D} {v : V} {ns : List Int} (K : PySem.W.Frag) (s : Sim B Z H M) (r : rp B Z H M d v) (h : lstO M d = some (ns.map D.int)) : ∃ a, v = .ref a ∧ SqL K H a (ns.map V.int) := by
  obtain ⟨a, vs, rfl, hv, ra⟩ := lstO_at s r h
  obtain rfl := RpL.ints.mp ra
  exact ⟨a, rfl, SqL.of hv⟩
theorem c_sum (hc : X.calm = true) : CallR X (.builtin "sum") (lfN B sumD) :=
  CallRimp (cr_sum hc) fun xs H Q ⟨Z, M, Qd, ds, s, r, ⟨d, ns, e, h1, h⟩, q⟩ => by
    subst e
    obtain ⟨v, rfl, r0⟩ := rpl1 r
    obtain ⟨a, rfl, hv⟩ := lst_ints X.K s r0 h1
    exact ⟨a, ns, rfl, hv, q.i s h⟩
theorem c_maxL (hc : X.calm = true) : CallR X (.builtin "max") (lfN B maxLD) :=
  CallRimp (cr_max hc) fun xs H Q ⟨Z, M, Qd, ds, s, r, ⟨d, ns, e, h1, h2, h⟩, q⟩ => by
    subst e
    obtain ⟨v, rfl, r0⟩ := rpl1 r
    obtain ⟨a, rfl, hv⟩ := lst_ints X.K s r0 h1
    exact ⟨a, ns, rfl, hv, h2, fun m hm hy => q.i s (h m hm hy)⟩
theorem c_minL (hc : X.calm = true) : CallR X (.builtin "min") (lfN B minLD) :=
  CallRimp (cr_min hc) fun xs H Q ⟨Z, M, Qd, ds, s, r, ⟨d, ns, e, h1, h2, h⟩, q⟩ => by
    subst e
    obtain ⟨v, rfl, r0⟩ := rpl1 r
    obtain ⟨a, rfl, hv⟩ := lst_ints X.K s r0 h1
    exact ⟨a, ns, rfl, hv, h2, fun m hm hy => q.i s (h m hm hy)⟩
theorem c_any (hc : X.calm = true) : CallR X (.builtin "any") (lfN B anyD) :=
  CallRimp (cr_any hc) fun xs H Q ⟨Z, M, Qd, ds, s, r, ⟨d, bs, e, h1, h⟩, q⟩ => by
    subst e
    obtain ⟨v, rfl, r0⟩ := rpl1 r
    obtain ⟨a, vs, rfl, hv, ra⟩ := lstO_at s r0 h1
    obtain rfl := RpL.bls.mp ra
    exact ⟨a, bs, rfl, SqL.of hv, q.b s h⟩
theorem c_all (hc : X.calm = true) : CallR X (.builtin "all") (lfN B allD) :=
  CallRimp (cr_all hc) fun xs H Q ⟨Z, M, Qd, ds, s, r, ⟨d, bs, e, h1, h⟩, q⟩ => by
    subst e
    obtain ⟨v, rfl, r0⟩ := rpl1 r
    obtain ⟨a, vs, rfl, hv, ra⟩ := lstO_at s r0 h1
    obtain rfl := RpL.bls.mp ra
    exact ⟨a, bs, rfl, SqL.of hv, q.b s h⟩
theorem c_sorted (hc : X.calm = true) {m : Bool} : CallR X (.builtin "sorted") (lfN B (sortD m)) :=
  CallRimp (((cr_sortedI.or cr_sortedS).or (call_sortedDI hc)).or (call_sortedD hc)) fun xs H Q ⟨Z, M, Qd, ds, s, r, ⟨d, e, h⟩, q⟩ => by
    subst e
    obtain ⟨v, rfl, r0⟩ := rpl1 r
    rcases h with ⟨ns, h1, h⟩ | ⟨ns, h1, h2, h⟩ | ⟨kvs, ns, h1, h2, h3, h⟩ | ⟨kvs, ns, h1, h2, h3, h⟩
    · obtain ⟨a, rfl, hv⟩ := lst_ints X.K s r0 h1
      refine .inl (.inl (.inl ⟨a, ns, rfl, hv, fun ns' p hp hs hn => ?_⟩))
      rw [isort_uniq hp hs]
      exact newL_ok s (RpL.ints.mpr rfl) h q p hn
    · obtain ⟨a, vs, rfl, hv, ra⟩ := lstO_at s r0 h1
      obtain rfl := RpL.strs.mp ra
      refine .inl (.inl (.inr ⟨a, ns, rfl, SqL.of hv, h2, fun ns' p hp hs hn => ?_⟩))
      rw [ssort_uniq hp hs]
      exact newL_ok s (RpL.strs.mpr rfl) h q p hn
    · obtain ⟨a, ws, rfl, hm, rfl, ha, rk⟩ := dicO_at s r0 h1
      refine .inl (.inr ⟨a, ws, ns, rfl, .inl ha, by rw [← rk.keys]; exact h2, h3, fun ns' p hp hs hn => ?_⟩)
      rw [isort_uniq hp hs]
      exact newL_ok s (RpL.ints.mpr rfl) h q p hn
    · obtain ⟨a, ws, rfl, hm, rfl, ha, rk⟩ := dicO_at s r0 h1
      refine .inr ⟨a, ws, ns, rfl, .inl ha, by rw [← rk.keys]; exact h2, h3, fun ns' p hp hs hn => ?_⟩
      rw [ssort_uniq hp hs]
      exact newL_ok s (RpL.strs.mpr rfl) h q p hn
end
end Dn
set_option Elab.async false
set_option linter.all false
set_option maxRecDepth 100000
set_option maxHeartbeats 4000000
/-! Dn5: the rules of expressions. -/
namespace Dn
open PySem PySem.Spec PyProof.Rows L2

def dAnd (ta tb : TDe) : TDe := fun sd M Q E => ta sd M (fun d M1 => ∃ c, d = .bl c ∧ if c = true then tb sd M1 Q E else Q (.bl false) M1) E
def dOr (ta tb : TDe) : TDe := fun sd M Q E => ta sd M (fun d M1 => ∃ c, d = .bl c ∧ if c = true then Q (.bl true) M1 else tb sd M1 Q E) E
def dNot (ta : TDe) : TDe := fun sd M Q E => ta sd M (fun d M1 => ∃ c, d = .bl c ∧ Q (.bl (!c)) M1) E
def dIsN (ta : TDe) : TDe := fun sd M Q E => ta sd M (fun d M1 => Q (.bl (isNonD d)) M1) E
def dNotN (ta : TDe) : TDe := fun sd M Q E => ta sd M (fun d M1 => Q (.bl (!isNonD d)) M1) E
def dNeg (ta : TDe) : TDe := fun sd M Q E => ta sd M (fun d M1 => ∃ i, d = .int i ∧ Q (.int (-i)) M1) E
def dTup (ta : TDa) : TDe := fun sd M Q E => ta sd M (fun ds M1 => ds.length ≤ sizeLine ∧ Q (.tup ds) M1) E
def dLst (m : Bool) (ta : TDa) : TDe := fun sd M Q E => ta sd M (fun ds M1 => ds.length ≤ sizeLine ∧ newL m ds M1 Q) E
def dDic0 : TDe := fun _ M Q _ => newK [] M Q
def dFld (f : Str) (ta : TDe) : TDe := fun sd M Q E => ta sd M (fun d M1 => ∃ c fs y, insO M1 d = some (c, fs) ∧ fs.lookup f = some y ∧ Q y M1) E
abbrev TDo := Sd → Mem → (Option Int → Mem → Prop) → ED → Prop
def dNoPart : TDo := fun _ M Q _ => Q none M
def dPart (t : TDe) : TDo := fun sd M Q E => t sd M (fun d M1 => ∃ i, d = .int i ∧ Q (some i) M1) E
def cutDS (z : Str) (lo hi : Option Int) : Str := cutS z lo hi
/-- a slice of a text, a tuple, a list -/
def sliceD (m : Bool) (d : D) (lo hi : Option Int) (M : Mem) (Q : KD) : Prop :=
  match d with
  | .str z => z.length ≤ sizeLine ∧ Q (.str (cutS z lo hi)) M
  | .tup xs => Q (.tup (cutD xs lo hi)) M
  | d => ∃ xs, lstO M d = some xs ∧ newL m (cutD xs lo hi) M Q
def dSl (m : Bool) (te : TDe) (tl th : TDo) : TDe := fun sd M Q E => te sd M (fun d M1 => tl sd M1 (fun lo M2 => th sd M2 (fun hi M3 => sliceD m d lo hi M3 Q) E) E) E
/-- a test -/
def dTst (t : TDe) : TDt := fun sd M Q E => t sd M (fun d M1 => ∃ b, d = .bl b ∧ Q b M1) E
def dIf (c : TDt) (ta tb : TDe) : TDe := fun sd M Q E => c sd M (fun b M1 => if b = true then ta sd M1 Q E else tb sd M1 Q E) E
def tAndD (t u : TDt) : TDt := fun sd M Q E => t sd M (fun c M1 => if c = true then u sd M1 Q E else Q false M1) E
def tOrD (t u : TDt) : TDt := fun sd M Q E => t sd M (fun c M1 => if c = true then Q true M1 else u sd M1 Q E) E
def tNotD (t : TDt) : TDt := fun sd M Q E => t sd M (fun c M1 => Q (!c) M1) E
/-- a built-in's method: the receiver is of the type T -/
def tyD (T : String) (M : Mem) (d : D) : Prop :=
  match d with
  | .str _ => T = "str"
  | d => T = "list" ∧ ∃ xs, lstO M d = some xs
def dBM (T : String) (op : D → List D → Mem → KD → Prop) (to : TDe) (ta : TDa) : TDe := fun sd M Q E => to sd M (fun d M1 => tyD T M1 d ∧ ta sd M1 (fun ds M2 => op d ds M2 Q) E) E
def dBM0 (T : String) (op : D → List D → Mem → KD → Prop) (to : TDe) : TDe := fun sd M Q E => to sd M (fun d M1 => tyD T M1 d ∧ op d [] M1 Q) E
def dChain (r r' : D → D → Mem → KD → Prop) (ta tb tc : TDe) : TDe := fun sd M Q E => ta sd M (fun x M1 => tb sd M1 (fun y M2 => r x y M2 fun z M3 => ∃ k, z = .bl k ∧ if k = true then tc sd M3 (fun w M4 => r' y w M4 Q) E else Q (.bl false) M3) E) E

section
variable {X : Cx} {B : Bs} {W : WX} {a b c e : Expr} {es : List Expr} {ta tb tc te : TDe} {t : TDa} {pos p p2 apos cpos : Pos} {x : Str}
theorem qe_var {i : Nat} (h : PE X (.Name x pos) (tVar i)) : PE X (.Name x pos) (lfE B W (dVar i)) := PEimp h lf_var
theorem qe_int {i : Int} {j : Nat} : PE X (.Constant (.int i) j pos) (lfE B W (dC (.int i))) := PEimp pe_int (lf_c fun _ _ _ => rfl)
theorem qe_bl {i : Bool} {j : Nat} : PE X (.Constant (.bool i) j pos) (lfE B W (dC (.bl i))) := PEimp pe_bl (lf_c fun _ _ _ => rfl)
theorem qe_non {j : Nat} : PE X (.Constant .none j pos) (lfE B W (dC .non)) := PEimp pe_non (lf_c fun _ _ _ => rfl)
theorem qe_str {i : Str} {j : Nat} : PE X (.Constant (.str i) j pos) (lfE B W (dC (.str i))) := PEimp pe_str (lf_c fun _ _ _ => rfl)
theorem qe_glob {d : D} {v : V} {u : Value} (hg : Gl X x) (hm : X.mg x = some u) (r : RelV v u) (rd : ∀ Z H M, rp B Z H M d v) (hd : (x == ("__debug__" : Str)) = false := by decide) : PE X (.Name x pos) (lfE B W (dC d)) := PEimp (pe_glob hg hm r hd) (lf_c rd)
theorem qe_gc {d : D} {v : V} (hg : Gl X x) (h : ∃ u, X.mg x = some u ∧ RelV v u) (rd : ∀ Z H M, rp B Z H M d v) (hd : (x == ("__debug__" : Str)) = false := by decide) : PE X (.Name x pos) (lfE B W (dC d)) := by
  obtain ⟨u, hm, r⟩ := h
  exact qe_glob hg hm r rd hd
theorem qe_op {op : Operator} {od : D → D → Mem → KD → Prop} (ho : OpR X (binaryOp op) (lf2 B od)) (ha : PE X a (lfE B W ta)) (hb : PE X b (lfE B W tb)) : PE X (.BinOp a op b pos) (lfE B W (dOp od ta tb)) := PEimp (pe_op ho ha hb) lf_op
theorem qe_cmp {op : CmpOp} {od : D → D → Mem → KD → Prop} (ho : OpR X (compareOp op) (lf2 B od)) (ha : PE X a (lfE B W ta)) (hb : PE X b (lfE B W tb)) (hm : behindInMarks op b = false) : PE X (.Compare a [op] [b] pos) (lfE B W (dOp od ta tb)) := PEimp (pe_cmpR ho ha hb hm) lf_op
theorem lf_chain {r r' : D → D → Mem → KD → Prop} : ∀ σ H Q, lfE B W (dChain r r' ta tb tc) σ H Q → tChain (lf2 B r) (lf2 B r') (lfE B W ta) (lfE B W tb) (lfE B W tc) σ H Q := by
  rintro σ H Q ⟨Z, M, sd, Qd, E, s, l, h, x, q⟩
  refine lfE_go s l x h fun v H1 d M1 e1 s1 r1 h1 => ?_
  refine lfE_go s1 (l.mono e1) (x.mono e1) h1 fun u H2 f M2 e2 s2 r2 h2 => ?_
  refine ⟨Z, M2, _, d, f, s2, e2.rp r1, r2, h2, fun z H3 z' M3 e3 s3 r3 h3 => ?_⟩
  have e13 := (e1.trans e2).trans e3
  obtain ⟨k, rfl, h3⟩ := h3
  cases r3
  refine ⟨k, rfl, ?_⟩
  cases k with
  | true =>
    rw [if_pos rfl] at h3 ⊢
    exact lfE_go s3 (l.mono e13) (x.mono e13) h3 fun w' H4 g M4 e4 s4 r4 h4 => ⟨Z, M4, Qd, f, g, s4, (e3.trans e4).rp r2, r4, h4, q.mono (e13.trans e4)⟩
  | false =>
    rw [if_neg Bool.false_ne_true] at h3 ⊢
    exact (q.mono e13).b s3 h3
theorem qe_chain {op op' : CmpOp} {r r' : D → D → Mem → KD → Prop} (ho : OpR X (compareOp op) (lf2 B r)) (ho' : OpR X (compareOp op') (lf2 B r')) (ha : PE X a (lfE B W ta)) (hb : PE X b (lfE B W tb)) (hc : PE X c (lfE B W tc)) (hm : lastMarks [op, op'] [b, c] = false := by with_unfolding_all rfl) :
    PE X (.Compare a [op, op'] [b, c] pos) (lfE B W (dChain r r' ta tb tc)) := PEimp (pe_chain ho ho' ha hb hc hm) lf_chain
theorem qt_chain {op op' : CmpOp} {r r' : D → D → Mem → KD → Prop} (ho : OpR X (compareOp op) (lf2 B r)) (ho' : OpR X (compareOp op') (lf2 B r')) (ha : PE X a (lfE B W ta)) (hb : PE X b (lfE B W tb)) (hc : PE X c (lfE B W tc)) (hm : lastMarks [op, op'] [b, c] = false := by with_unfolding_all rfl) :
    PT X (.Compare a [op, op'] [b, c] pos) (lfT B W (dTst (dChain r r' ta tb tc))) := PTimp (pt_chain ho ho' ha hb hc hm) fun σ H Q ⟨Z, M, sd, Qd, E, s, l, h, x, q⟩ =>
  lf_chain σ H _ ⟨Z, M, sd, _, E, s, l, h, x, fun v H1 d M1 e1 s1 r1 ⟨b, hb, h1⟩ => by subst hb; cases r1; exact ⟨b, rfl, q b H1 M1 e1 s1 h1⟩⟩
theorem qe_and {rest : List Expr} (ha : PE X a (lfE B W ta)) (hb : PE X (.BoolOp .And (b :: rest) pos) (lfE B W tb)) : PE X (.BoolOp .And (a :: b :: rest) pos) (lfE B W (dAnd ta tb)) := PEimp (pe_and ha hb) fun σ H Q ⟨Z, M, sd, Qd, E, s, l, h, x, q⟩ => by
  refine lfE_go s l x h fun v H1 d M1 e1 s1 r1 h1 => ?_
  obtain ⟨k, rfl, h1⟩ := h1
  cases r1
  refine ⟨k, rfl, ?_⟩
  cases k with
  | true =>
    rw [if_pos rfl] at h1 ⊢
    exact ⟨Z, M1, sd, Qd, E, s1, l.mono e1, h1, x.mono e1, q.mono e1⟩
  | false =>
    rw [if_neg Bool.false_ne_true] at h1 ⊢
    exact (q.mono e1).b s1 h1
theorem qe_or {rest : List Expr} (ha : PE X a (lfE B W ta)) (hb : PE X (.BoolOp .Or (b :: rest) pos) (lfE B W tb)) : PE X (.BoolOp .Or (a :: b :: rest) pos) (lfE B W (dOr ta tb)) := PEimp (pe_or ha hb) fun σ H Q ⟨Z, M, sd, Qd, E, s, l, h, x, q⟩ => by
  refine lfE_go s l x h fun v H1 d M1 e1 s1 r1 h1 => ?_
  obtain ⟨k, rfl, h1⟩ := h1
  cases r1
  refine ⟨k, rfl, ?_⟩
  cases k with
  | true =>
    rw [if_pos rfl] at h1 ⊢
    exact (q.mono e1).b s1 h1
  | false =>
    rw [if_neg Bool.false_ne_true] at h1 ⊢
    exact ⟨Z, M1, sd, Qd, E, s1, l.mono e1, h1, x.mono e1, q.mono e1⟩
theorem qe_one {op : BoolOp} (h : PE X a (lfE B W ta)) : PE X (.BoolOp op [a] pos) (lfE B W ta) := pe_one h
theorem qe_not (ha : PE X a (lfE B W ta)) : PE X (.UnaryOp .Not a pos) (lfE B W (dNot ta)) := PEimp (pe_not ha) fun σ H Q ⟨Z, M, sd, Qd, E, s, l, h, x, q⟩ => by
  refine lfE_go s l x h fun v H1 d M1 e1 s1 r1 h1 => ?_
  obtain ⟨k, rfl, h1⟩ := h1
  cases r1
  exact ⟨k, rfl, (q.mono e1).b s1 h1⟩
theorem qe_isN {j : Nat} (ha : PE X a (lfE B W ta)) : PE X (.Compare a [.Is] [.Constant .none j p] pos) (lfE B W (dIsN ta)) := PEimp (pe_cmp (pc_isN ha) rfl) fun σ H Q ⟨Z, M, sd, Qd, E, s, l, h, x, q⟩ => by
  refine lfE_go s l x h fun v H1 d M1 e1 s1 r1 h1 => ?_
  show Q (.bl (decide (v = .non))) H1
  rw [isNon_at r1]
  exact (q.mono e1).b s1 h1
theorem qe_notN {j : Nat} (ha : PE X a (lfE B W ta)) : PE X (.Compare a [.IsNot] [.Constant .none j p] pos) (lfE B W (dNotN ta)) := PEimp (pe_cmp (pc_notN ha) rfl) fun σ H Q ⟨Z, M, sd, Qd, E, s, l, h, x, q⟩ => by
  refine lfE_go s l x h fun v H1 d M1 e1 s1 r1 h1 => ?_
  show Q (.bl (!decide (v = .non))) H1
  rw [isNon_at r1]
  exact (q.mono e1).b s1 h1
theorem qe_neg (ha : PE X a (lfE B W ta)) : PE X (.UnaryOp .USub a pos) (lfE B W (dNeg ta)) := PEimp (pe_un un_neg ha) fun σ H Q ⟨Z, M, sd, Qd, E, s, l, h, x, q⟩ => by
  refine lfE_go s l x h fun v H1 d M1 e1 s1 r1 h1 => ?_
  obtain ⟨k, rfl, h1⟩ := h1
  cases r1
  exact ⟨k, rfl, (q.mono e1).i s1 h1⟩
theorem qa_nil : PA X [] (lfA B W dNil) := PAimp pa_nil lf_nil
theorem qa_cons (ha : PE X e (lfE B W te)) (hr : PA X es (lfA B W t)) (hs : starEach (e :: es) X.env = (false, eval e X.env) :: starEach es X.env := by rfl) : PA X (e :: es) (lfA B W (dCons te t)) := PAimp (pa_cons ha hr hs) lf_cons
theorem qe_tup {k : Nat} (h : PA X es (lfA B W t)) : PE X (.Tuple es k pos) (lfE B W (dTup t)) := PEimp (pe_tup h) fun σ H Q ⟨Z, M, sd, Qd, E, s, l, h, x, q⟩ =>
  ⟨Z, M, sd, _, E, s, l, h, x, fun vs H1 ds M1 e1 s1 r1 ⟨hz, h1⟩ => ⟨by rw [← r1.length]; exact hz, newT_ok s1 r1 h1 (q.mono e1)⟩⟩
theorem qe_lst {m : Bool} (h : PA X es (lfA B W t)) : PE X (.List es pos) (lfE B W (dLst m t)) := PEimp (pe_lst h) fun σ H Q ⟨Z, M, sd, Qd, E, s, l, h, x, q⟩ =>
  ⟨Z, M, sd, _, E, s, l, h, x, fun vs H1 ds M1 e1 s1 r1 ⟨hz, h1⟩ => ⟨by rw [← r1.length]; exact hz, newL_ok s1 r1 h1 (q.mono e1)⟩⟩
theorem qe_dic0 : PE X (.Dict [] [] pos) (lfE B W dDic0) := PEimp pe_dnewK fun σ H Q ⟨Z, M, sd, Qd, E, s, l, h, x, q⟩ => newK_ok s .nil h q
theorem qe_ix (hr : IxR X (lf2 B ixD)) (ha : PE X a (lfE B W ta)) (hb : PE X b (lfE B W tb)) (hs : PlainIx b) : PE X (.Subscript a b pos) (lfE B W (dOp ixD ta tb)) := PEimp (pe_ix hr ha hb hs) lf_op
theorem insO_at {Z : List Addr} {H : Hp} {M : Mem} {d : D} {v : V} {c : CN} {fs : List (Str × D)} (s : Sim B Z H M) (r : rp B Z H M d v) (h : insO M d = some (c, fs)) : ∃ a dx vs, v = .ref a ∧ H a = some (.ins (B.adr c) dx vs) ∧ rpf B Z H M fs vs := by
  cases d with
  | ins c' fs' => cases h; obtain ⟨a, dx, vs, e, i, h1, h2⟩ := r; exact ⟨a, dx, vs, e, h1, h2⟩
  | ref a =>
    cases r
    unfold insO at h
    dsimp only at h
    split at h
    · rename_i hm
      cases h
      obtain ⟨dx, vs, h1, h2⟩ := (s.ob a _ hm).2
      exact ⟨a, dx, vs, rfl, h1, h2⟩
    · cases h
  | _ => cases h
/-- what is known of the classes -/
structure ClsOk (X : Cx) (B : Bs) : Prop where
  cl : ∀ c, Cls X.K (B.adr c)
def FldOk (X : Cx) (B : Bs) (f : Str) : Prop := ∀ c, NoAttr X.K (B.adr c) f
theorem qe_fld {f : Str} (C : ClsOk X B) (F : FldOk X B f) (he : PE X e (lfE B W te)) (hb : attributeBase e f X.env (eval e X.env) = eval e X.env) : PE X (.Attribute e f pos) (lfE B W (dFld f te)) := PEimp (pe_fld he hb) fun σ H Q ⟨Z, M, sd, Qd, E, s, l, h, x, q⟩ => by
  refine lfE_go s l x h fun v H1 d M1 e1 s1 r1 ⟨c, fs, y, h1, h2, h3⟩ => ?_
  obtain ⟨a, dx, vs, rfl, h4, h5⟩ := insO_at s1 r1 h1
  obtain ⟨v, h6, r6⟩ := h5.lookup h2
  exact ⟨a, _, dx, vs, v, rfl, h4, C.cl c, F c, h6, (q.mono e1).here s1 r6 h3⟩
theorem qe_cb {id : String} {op : List D → Mem → KD → Prop} (hc : CallR X (.builtin id) (lfN B op)) (hg : Gl X x) (hm : X.mg x = none) (hv : bootBuiltins x = some (.builtin id)) (ha : PA X (e :: es) (lfA B W t)) (hn : x ≠ "__name__" := by decide) (hdb : (x == ("__debug__" : Str)) = false := by decide)
    (he : starEach (e :: es) X.env = (false, eval e X.env) :: starEach es X.env := by rfl) (hpl : (backTo pos (starEach es X.env)).any (·.1) = false := by rfl) : PE X (.Call (.Name x p) (e :: es) [] pos) (lfE B W (dCB op t)) := PEimp (pe_callB hc hg hm hv ha hn hdb he hpl) lf_cb
theorem qe_ct {T : String} {op : List D → Mem → KD → Prop} (hc : CallR X (.type T) (lfN B op)) (hg : Gl X x) (hm : X.mg x = none) (hv : bootBuiltins x = some (.type T)) (ha : PA X (e :: es) (lfA B W t)) (hn : x ≠ "__name__" := by decide) (hdb : (x == ("__debug__" : Str)) = false := by decide)
    (he : starEach (e :: es) X.env = (false, eval e X.env) :: starEach es X.env := by rfl) (hpl : (backTo pos (starEach es X.env)).any (·.1) = false := by rfl) : PE X (.Call (.Name x p) (e :: es) [] pos) (lfE B W (dCB op t)) := PEimp (pe_callTy hc hg hm hv ha hn hdb he hpl) lf_cb
/-! ### slices -/
def lfO (B : Bs) (W : WX) (td : TDo) : TO := fun σ H Q => ∃ Z M sd Qd E, Sim B Z H M ∧ Sls B Z H M sd σ ∧ td sd M Qd E ∧ XLk B Z H M W σ E ∧ ∀ o H' M', Evo Z H M H' M' → Sim B Z H' M' → Qd o M' → Q o H'
theorem POimp {X : Cx} {e : Option Expr} {t t' : TO} (h : PO X e t) (i : ∀ σ H Q, t' σ H Q → t σ H Q) : PO X e t' := ⟨fun pins s σ H Q I q => h.run pins s σ H Q I (i σ H Q q)⟩
theorem qo_none : PO X none (lfO B W dNoPart) := POimp po_none fun σ H Q ⟨Z, M, sd, Qd, E, s, l, h, x, q⟩ => q none H M Evo.refl s h
theorem qo_some (he : PE X e (lfE B W te)) : PO X (some e) (lfO B W (dPart te)) := POimp (po_some he) fun σ H Q ⟨Z, M, sd, Qd, E, s, l, h, x, q⟩ => by
  refine lfE_go s l x h fun v H1 d M1 e1 s1 r1 ⟨i, hi, h1⟩ => ?_
  subst hi
  cases r1
  exact ⟨i, rfl, q _ _ _ e1 s1 h1⟩
theorem RpL.cut {Z : List Addr} {H : Hp} {M : Mem} {ds : List D} {vs : List V} (r : rpl B Z H M ds vs) (lo hi : Option Int) : rpl B Z H M (cutD ds lo hi) (cutV vs lo hi) := by
  unfold cutD cutV
  rw [← r.length]
  exact (r.drop _).take _
def lfSl (B : Bs) (op : D → Option Int → Option Int → Mem → KD → Prop) : V → Option Int → Option Int → Hp → VK → Prop := fun x lo hi H Q => ∃ Z M Qd d, Sim B Z H M ∧ rp B Z H M d x ∧ op d lo hi M Qd ∧ VLk B Z H M Qd Q
theorem SlRimp {X : Cx} {r r' : V → Option Int → Option Int → Hp → VK → Prop} (h : L2.SlR X r) (i : ∀ x lo hi H Q, r' x lo hi H Q → r x lo hi H Q) : L2.SlR X r' := by
  intro pins s σ H x v vl vu lo hi sl Q I rx hs pl pu q
  exact h pins s σ H x v vl vu lo hi sl Q I rx hs pl pu (i _ _ _ _ _ q)
theorem cut_all {ds : List D} {vs : List V} {lo hi : Option Int} (hl : ds.length = vs.length) (z1 : HT.sIx vs.length 0 lo = 0) (z2 : HT.sIx vs.length vs.length hi = vs.length) : cutD ds lo hi = ds := by
  unfold cutD
  rw [hl, z1, z2, List.drop_zero, Nat.sub_zero, ← hl, List.take_length]
theorem s_slice (hK : X.K = B.K) {m : Bool} : L2.SlR X (lfSl B (sliceD m)) :=
  SlRimp ((sl_list.or sl_tupA).or sl_str) fun x lo hi H Q ⟨Z, M, Qd, d, s, r, h, q⟩ => by
    unfold sliceD at h
    split at h
    · cases r
      exact .inr ⟨_, rfl, h.1, q.t s h.2⟩
    · have r0 := r
      obtain ⟨a, vs, rfl, hv, ra⟩ := tup_at r
      have rc := ra.cut lo hi
      refine .inl (.inr ⟨a, vs, rfl, hK ▸ hv, fun ⟨z1, z2⟩ => ?_, fun _ => newT_ok s rc h q⟩)
      rw [cut_all ra.length z1 z2] at h
      exact q.here s r0 h
    · obtain ⟨xs, h1, h⟩ := h
      obtain ⟨a, vs, rfl, hv, ra⟩ := lstO_at s r h1
      exact .inl (.inl ⟨a, vs, rfl, SqL.of hv, newL_ok s (ra.cut lo hi) h q⟩)
theorem qe_sl {m : Bool} {lo hi : Option Expr} {tl th : TDo} (hK : X.K = B.K) (he : PE X e (lfE B W te)) (hl : PO X lo (lfO B W tl)) (hu : PO X hi (lfO B W th)) : PE X (.Subscript e (.Slice lo hi none p2) pos) (lfE B W (dSl m te tl th)) :=
  PEimp (pe_slice (s_slice hK) he hl hu) fun σ H Q ⟨Z, M, sd, Qd, E, s, l, h, x, q⟩ => by
    refine lfE_go s l x h fun v H1 d M1 e1 s1 r1 h1 => ?_
    refine ⟨Z, M1, sd, _, E, s1, l.mono e1, h1, x.mono e1, fun lo H2 M2 e2 s2 h2 => ?_⟩
    refine ⟨Z, M2, sd, _, E, s2, l.mono (e1.trans e2), h2, x.mono (e1.trans e2), fun hi H3 M3 e3 s3 h3 => ?_⟩
    exact ⟨Z, M3, Qd, d, s3, (e2.trans e3).rp r1, h3, q.mono ((e1.trans e2).trans e3)⟩
/-! ### tests -/
theorem lf_tst {t : TDe} : ∀ σ H Q, lfT B W (dTst t) σ H Q → lfE B W t σ H (fun x H' => ∃ k, x = .bl k ∧ Q k H') := fun σ H Q ⟨Z, M, sd, Qd, E, s, l, h, x, q⟩ =>
  ⟨Z, M, sd, _, E, s, l, h, x, fun v H1 d M1 e1 s1 r1 ⟨b, hb, h1⟩ => by subst hb; cases r1; exact ⟨b, rfl, q b H1 M1 e1 s1 h1⟩⟩
theorem qt_val (h : PE X e (lfE B W te)) (he : ∀ whole, isTrue e X.env whole = (do let v ← whole; standAt e.pos; holding [v] (truthy v)) := by intro _; rfl) : PT X e (lfT B W (dTst te)) := PTimp (pt_val h he) lf_tst
theorem qt_cmp {op : CmpOp} {od : D → D → Mem → KD → Prop} (ho : OpR X (compareOp op) (lf2 B od)) (ha : PE X a (lfE B W ta)) (hb : PE X b (lfE B W tb)) (hm : behindInMarks op b = false) : PT X (.Compare a [op] [b] pos) (lfT B W (dTst (dOp od ta tb))) :=
  PTimp (pt_cmpR ho ha hb hm) fun σ H Q h => lf_op σ H _ (lf_tst σ H Q h)
theorem qt_isN {j : Nat} (ha : PE X a (lfE B W ta)) : PT X (.Compare a [.Is] [.Constant .none j p] pos) (lfT B W (dTst (dIsN ta))) := PTimp (pt_cmp (pc_isN ha) rfl) fun σ H Q h => by
  obtain ⟨Z, M, sd, Qd, E, s, l, h, x, q⟩ := lf_tst σ H Q h
  refine lfE_go s l x h fun v H1 d M1 e1 s1 r1 h1 => ?_
  refine ⟨decide (v = .non), rfl, ?_⟩
  rw [isNon_at r1]
  obtain ⟨k, e, h2⟩ := (q.mono e1).b s1 h1
  cases e
  exact h2
theorem qt_notN {j : Nat} (ha : PE X a (lfE B W ta)) : PT X (.Compare a [.IsNot] [.Constant .none j p] pos) (lfT B W (dTst (dNotN ta))) := PTimp (pt_cmp (pc_notN ha) rfl) fun σ H Q h => by
  obtain ⟨Z, M, sd, Qd, E, s, l, h, x, q⟩ := lf_tst σ H Q h
  refine lfE_go s l x h fun v H1 d M1 e1 s1 r1 h1 => ?_
  refine ⟨!decide (v = .non), rfl, ?_⟩
  rw [isNon_at r1]
  obtain ⟨k, e, h2⟩ := (q.mono e1).b s1 h1
  cases e
  exact h2
theorem lfT_go {Z : List Addr} {H : Hp} {M : Mem} {σ : L2.St} {E : ED} {t : TDt} {k : Bool → Mem → Prop} {R : Bool → Hp → Prop} {sd : Sd} (s : Sim B Z H M) (l : Sls B Z H M sd σ) (x : XLk B Z H M W σ E) (h : t sd M k E) (f : ∀ b H' M', Evo Z H M H' M' → Sim B Z H' M' → k b M' → R b H') : lfT B W t σ H R :=
  ⟨Z, M, sd, k, E, s, l, h, x, f⟩
theorem qw_one {op : BoolOp} {t : TDt} (h : PT X a (lfT B W t)) (hh : PW X (.BoolOp op [a] pos) (lfT B W t)) : PW X (.BoolOp op [a] pos) (lfT B W t) := hh
theorem qw_and {rest : List Expr} {t u : TDt} (ha : PT X a (lfT B W t)) (hb : PW X (.BoolOp .And (b :: rest) pos) (lfT B W u)) : PW X (.BoolOp .And (a :: b :: rest) pos) (lfT B W (tAndD t u)) := PWimp (pw_and ha hb) fun σ H Q ⟨Z, M, sd, Qd, E, s, l, h, x, q⟩ => by
  refine lfT_go s l x h fun k H1 M1 e1 s1 h1 => ?_
  cases k with
  | true =>
    rw [if_pos rfl] at h1 ⊢
    exact ⟨Z, M1, sd, Qd, E, s1, l.mono e1, h1, x.mono e1, q.mono e1⟩
  | false =>
    rw [if_neg Bool.false_ne_true] at h1 ⊢
    exact q _ _ _ e1 s1 h1
theorem qw_or {rest : List Expr} {t u : TDt} (ha : PT X a (lfT B W t)) (hb : PW X (.BoolOp .Or (b :: rest) pos) (lfT B W u)) : PW X (.BoolOp .Or (a :: b :: rest) pos) (lfT B W (tOrD t u)) := PWimp (pw_or ha hb) fun σ H Q ⟨Z, M, sd, Qd, E, s, l, h, x, q⟩ => by
  refine lfT_go s l x h fun k H1 M1 e1 s1 h1 => ?_
  cases k with
  | true =>
    rw [if_pos rfl] at h1 ⊢
    exact q _ _ _ e1 s1 h1
  | false =>
    rw [if_neg Bool.false_ne_true] at h1 ⊢
    exact ⟨Z, M1, sd, Qd, E, s1, l.mono e1, h1, x.mono e1, q.mono e1⟩
theorem qt_not {t : TDt} (ha : PT X a (lfT B W t)) : PT X (.UnaryOp .Not a pos) (lfT B W (tNotD t)) := PTimp (pt_not ha) fun σ H Q ⟨Z, M, sd, Qd, E, s, l, h, x, q⟩ => by
  refine lfT_go s l x h fun k H1 M1 e1 s1 h1 => q _ _ _ e1 s1 h1
theorem qe_if {t : TDt} (hc : PT X c (lfT B W t)) (ha : PE X a (lfE B W ta)) (hb : PE X b (lfE B W tb)) : PE X (.IfExp c a b pos) (lfE B W (dIf t ta tb)) := PEimp (pe_ifExp hc ha hb) fun σ H Q ⟨Z, M, sd, Qd, E, s, l, h, x, q⟩ => by
  refine lfT_go s l x h fun k H1 M1 e1 s1 h1 => ?_
  cases k with
  | true =>
    rw [if_pos rfl] at h1 ⊢
    exact ⟨Z, M1, sd, Qd, E, s1, l.mono e1, h1, x.mono e1, q.mono e1⟩
  | false =>
    rw [if_neg Bool.false_ne_true] at h1 ⊢
    exact ⟨Z, M1, sd, Qd, E, s1, l.mono e1, h1, x.mono e1, q.mono e1⟩
/-! ### methods of built-ins -/
theorem tyD_at {Z : List Addr} {H : Hp} {M : Mem} {d : D} {v : V} {T : String} (s : Sim B Z H M) (r : rp B Z H M d v) (h : tyD T M d) (K : PySem.W.Frag) : tyV K T v H := by
  unfold tyD at h
  split at h
  · cases r; exact h
  · obtain ⟨rfl, xs, h1⟩ := h
    obtain ⟨a, vs, rfl, h2, _⟩ := lstO_at s r h1
    exact .inl ⟨rfl, vs, SqL.of h2⟩
theorem lf_bm {T : String} {op : D → List D → Mem → KD → Prop} : ∀ σ H Q, lfE B W (dBM T op te t) σ H Q → tBM X.K T (lfM B op) (lfE B W te) (lfA B W t) σ H Q := fun σ H Q ⟨Z, M, sd, Qd, E, s, l, h, x, q⟩ => by
  refine lfE_go s l x h fun v H1 d M1 e1 s1 r1 ⟨ty, h1⟩ => ?_
  refine ⟨tyD_at s1 r1 ty X.K, Z, M1, sd, _, E, s1, l.mono e1, h1, x.mono e1, fun vs H2 ds M2 e2 s2 r2 h2 => ?_⟩
  exact ⟨Z, M2, Qd, d, ds, s2, e2.rp r1, r2, h2, q.mono (e1.trans e2)⟩
theorem lf_bm0 {T : String} {op : D → List D → Mem → KD → Prop} : ∀ σ H Q, lfE B W (dBM0 T op te) σ H Q → tBM0 X.K T (lfM B op) (lfE B W te) σ H Q := fun σ H Q ⟨Z, M, sd, Qd, E, s, l, h, x, q⟩ => by
  refine lfE_go s l x h fun v H1 d M1 e1 s1 r1 ⟨ty, h1⟩ => ?_
  exact ⟨tyD_at s1 r1 ty X.K, Z, M1, Qd, d, [], s1, r1, rfl, h1, q.mono e1⟩
end
end Dn
set_option Elab.async false
set_option linter.all false
set_option maxRecDepth 100000
set_option maxHeartbeats 4000000
/-! Dn6: the rules of statements, targets, loops, comprehensions. -/
namespace Dn
open PySem PySem.Spec PyProof.Rows L2

/-! ### lifts -/
structure SLk (B : Bs) (Z : List Addr) (H : Hp) (M : Mem) (W : WX) (Dd : EndsD) (D : Ends) : Prop where
  nx : ∀ σ' H' sd' M', Evo Z H M H' M' → Sim B Z H' M' → Sls B Z H' M' sd' σ' → Dd.nx sd' M' → D.nx σ' H'
  rt : VLk B Z H M Dd.rt D.rt
  bk : ∀ σ' H' sd' M', Evo Z H M H' M' → Sim B Z H' M' → Sls B Z H' M' sd' σ' → Dd.bk sd' M' → D.bk σ' H'
  ct : ∀ σ' H' sd' M', Evo Z H M H' M' → Sim B Z H' M' → Sls B Z H' M' sd' σ' → Dd.ct sd' M' → D.ct σ' H'
  ex : ∀ c p dx v σ' H' sd' M', Evo Z H M H' M' → Sim B Z H' M' → Sls B Z H' M' sd' σ' → H' dx = some (.xd [("place", v)]) → rp B Z H' M' p v → Dd.ex c p sd' M' → W (.ref (B.xad c)) (some dx) σ' H'
def lfS (B : Bs) (W : WX) (td : TDs) : TS := fun D σ H => ∃ Z M sd Dd, Sim B Z H M ∧ Sls B Z H M sd σ ∧ td Dd sd M ∧ SLk B Z H M W Dd D
abbrev TDg := D → Sd → Mem → (Sd → Mem → Prop) → Prop
abbrev TDgs := List D → Sd → Mem → (Sd → Mem → Prop) → Prop
def GLk (B : Bs) (Z : List Addr) (H : Hp) (M : Mem) (Qd : Sd → Mem → Prop) (Q : L2.St → Hp → Prop) : Prop := ∀ σ' H' sd' M', Evo Z H M H' M' → Sim B Z H' M' → Sls B Z H' M' sd' σ' → Qd sd' M' → Q σ' H'
def lfG (B : Bs) (g : TDg) : TG := fun v σ H Q => ∃ Z M sd d Qd, Sim B Z H M ∧ Sls B Z H M sd σ ∧ rp B Z H M d v ∧ g d sd M Qd ∧ GLk B Z H M Qd Q
def lfGs (B : Bs) (g : TDgs) : TGs := fun vs σ H Q => ∃ Z M sd ds Qd, Sim B Z H M ∧ Sls B Z H M sd σ ∧ rpl B Z H M ds vs ∧ g ds sd M Qd ∧ GLk B Z H M Qd Q
section
variable {B : Bs} {Z : List Addr} {H H' : Hp} {M M' : Mem} {W : WX} {Dd : EndsD} {D : Ends}
theorem SLk.mono (h : SLk B Z H M W Dd D) (e : Evo Z H M H' M') : SLk B Z H' M' W Dd D :=
  ⟨fun σ' H2 sd' M2 e2 => h.nx σ' H2 sd' M2 (e.trans e2), h.rt.mono e, fun σ' H2 sd' M2 e2 => h.bk σ' H2 sd' M2 (e.trans e2), fun σ' H2 sd' M2 e2 => h.ct σ' H2 sd' M2 (e.trans e2), fun c p dx v σ' H2 sd' M2 e2 => h.ex c p dx v σ' H2 sd' M2 (e.trans e2)⟩
theorem SLk.x (h : SLk B Z H M W Dd D) {sd : Sd} {σ : L2.St} (l : Sls B Z H M sd σ) : XLk B Z H M W σ (fun c p M' => Dd.ex c p sd M') :=
  fun c p dx v H2 M2 e2 s2 hd r q => h.ex c p dx v σ H2 sd M2 e2 s2 (l.mono e2) hd r q
theorem GLk.mono {Qd : Sd → Mem → Prop} {Q : L2.St → Hp → Prop} (h : GLk B Z H M Qd Q) (e : Evo Z H M H' M') : GLk B Z H' M' Qd Q := fun σ' H2 sd' M2 e2 => h σ' H2 sd' M2 (e.trans e2)
end

/-! ### statements over data -/
def dNext : TDs := fun D sd M => D.nx sd M
def dSeq (t u : TDs) : TDs := fun D sd M => t { D with nx := fun sd' M' => u D sd' M' } sd M
def dBreak : TDs := fun D sd M => D.bk sd M
def dCont : TDs := fun D sd M => D.ct sd M
def xE (D : EndsD) (sd : Sd) : ED := fun c p M' => D.ex c p sd M'
def dDrop (te : TDe) : TDs := fun D sd M => te sd M (fun _ M1 => D.nx sd M1) (xE D sd)
def dRet (te : TDe) : TDs := fun D sd M => te sd M D.rt (xE D sd)
def dIfS (c : TDt) (t u : TDs) : TDs := fun D sd M => c sd M (fun b M1 => if b = true then t D sd M1 else u D sd M1) (xE D sd)
def dAsg (te : TDe) (g : TDg) : TDs := fun D sd M => te sd M (fun d M1 => g d sd M1 D.nx) (xE D sd)
def dgName (i : Nat) : TDg := fun d sd M Q => Q (sd.set i (some d)) M
def dgNil : TDgs := fun ds sd M Q => ds = [] ∧ Q sd M
def dgCons (t : TDg) (u : TDgs) : TDgs := fun ds sd M Q => ∃ d r, ds = d :: r ∧ t d sd M fun sd' M' => u r sd' M' Q
def dgTup (n : Nat) (t : TDgs) : TDg := fun d sd M Q => ∃ ds, d = .tup ds ∧ ds.length = n ∧ t ds sd M Q
def dPar (i j : Nat) (ta : TDa) : TDs := fun D sd M => ta sd M (fun ds M1 => ∃ v w, ds = [v, w] ∧ D.nx ((sd.set i (some v)).set j (some w)) M1) (xE D sd)
/-- name op= e -/
def dAug (i : Nat) (op : D → D → Mem → KD → Prop) (te : TDe) : TDs := fun D sd M => ∃ d, sd[i]? = some (some d) ∧ te sd M (fun e M1 => op d e M1 fun z M2 => D.nx (sd.set i (some z)) M2) (xE D sd)
/-- o[k] = v: a dict, a list -/
def storeD (o k v : D) (M : Mem) (Q : Mem → Prop) : Prop :=
  ∃ a, o = .ref a ∧ ((∃ kvs key, M a = some (.dic kvs) ∧ keyD k = some key ∧ kvs.length < sizeLine ∧ Q (upm M a (.dic (putKD kvs key v)))) ∨
    ∃ xs i j, M a = some (.lst xs) ∧ k = .int i ∧ ixN xs.length i = some j ∧ Q (upm M a (.lst (xs.set j v))))
def dgSub (to ti : TDe) : TDg := fun v sd M Q => to sd M (fun o M1 => ti sd M1 (fun k M2 => storeD o k v M2 (fun M3 => Q sd M3)) fun _ _ _ => False) fun _ _ _ => False
def dFldS (ta tv : TDe) (f : Str) : TDs := fun D sd M => tv sd M (fun y M1 => ta sd M1 (fun o M2 => ∃ a c fs, o = .ref a ∧ M2 a = some (.ins c fs) ∧ fs.length < 1000 ∧ D.nx sd (upm M2 a (.ins c (putD f y fs)))) (xE D sd)) (xE D sd)
/-- o.f op= e -/
def dFldA (ta tv : TDe) (op : D → D → Mem → KD → Prop) (f : Str) : TDs := fun D sd M => ta sd M (fun o M1 => ∃ a c fs x, o = .ref a ∧ M1 a = some (.ins c fs) ∧ fs.lookup f = some x ∧
  tv sd M1 (fun y M2 => op x y M2 fun z M3 => ∃ fs', M3 a = some (.ins c fs') ∧ fs'.length < 1000 ∧ D.nx sd (upm M3 a (.ins c (putD f z fs')))) (xE D sd)) (xE D sd)
def addI : D → D → Mem → KD → Prop := intD (fun _ _ => True) fun i j => .int (i + j)
/-- a loop's walk: the items, what must stand at each turn -/
abbrev TDi := Sd → Mem → (List D → (Mem → Prop) → Mem → Prop) → ED → Prop
def dFor (ti : TDi) (g : TDg) (tb : TDs) : TDs := fun D sd M => ti sd M (fun xs St M1 => ∃ Pv : Nat → Sd → Mem → Prop, Pv 0 sd M1 ∧ (∀ i sd' M', i ≤ xs.length → Pv i sd' M' → St M') ∧
  (∀ i x sd' M', xs[i]? = some x → Pv i sd' M' → g x sd' M' fun sd2 M2 => tb { D with nx := Pv (i + 1), ct := Pv (i + 1), bk := D.nx } sd2 M2) ∧ ∀ sd' M', Pv xs.length sd' M' → D.nx sd' M') (xE D sd)
def dWhile (c : TDt) (tb : TDs) : TDs := fun D sd M => ∃ V : Nat → Sd → Mem → Prop, (∃ m, V m sd M) ∧ ∀ m sd M, V m sd M →
  c sd M (fun b M1 => if b = true then ∃ N : Sd → Mem → Prop, (∀ sd' M', N sd' M' → ∃ m', m' < m ∧ V m' sd' M') ∧ tb { D with nx := N, ct := N, bk := D.nx } sd M1 else D.nx sd M1) (xE D sd)
def iLst (te : TDe) : TDi := fun sd M K E => te sd M (fun d M1 => ∃ xs, lstS M1 d = some xs ∧ K xs (fun M' => lstS M' d = some xs) M1) E
def iTup (te : TDe) : TDi := fun sd M K E => te sd M (fun d M1 => ∃ xs, d = .tup xs ∧ K xs (fun _ => True) M1) E
def chars (z : Str) : List D := z.cps.toList.map fun c => D.str ⟨#[c]⟩
def iStr (te : TDe) : TDi := fun sd M K E => te sd M (fun d M1 => ∃ z, d = .str z ∧ K (chars z) (fun _ => True) M1) E
def rng (lo c : Int) (n : Nat) : List D := (List.range n).map fun k : Nat => D.int (lo + (k : Int) * c)
def iRng1 (ta : TDa) : TDi := fun sd M K E => ta sd M (fun ds M1 => ∃ j, ds = [.int j] ∧ -(2 ^ 62) ≤ j ∧ j < 2 ^ 62 ∧ K (rng 0 1 j.toNat) (fun _ => True) M1) E
def iRng2 (ta : TDa) : TDi := fun sd M K E => ta sd M (fun ds M1 => ∃ i j, ds = [.int i, .int j] ∧ (-(2 ^ 62) ≤ i ∧ i < 2 ^ 62 ∧ -(2 ^ 62) ≤ j ∧ j < 2 ^ 62) ∧ K (rng i 1 (j - i).toNat) (fun _ => True) M1) E
def iRng3 (ta : TDa) : TDi := fun sd M K E => ta sd M (fun ds M1 => ∃ i j c n, ds = [.int i, .int j, .int c] ∧ RgC i j c n ∧ K (rng i c n) (fun _ => True) M1) E
def zipD (xs ys : List D) : List D := List.zipWith (fun x y => .tup [x, y]) xs ys
def iZip (ta : TDa) : TDi := fun sd M K E => ta sd M (fun ds M1 => ∃ d e xs ys, ds = [d, e] ∧ lstS M1 d = some xs ∧ lstS M1 e = some ys ∧ K (zipD xs ys) (fun M' => lstS M' d = some xs ∧ lstS M' e = some ys) M1) E
/-- the walk of the abstract heap beside the items -/
def ItR (B : Bs) (Z : List Addr) (H1 : Hp) (M1 : Mem) (J : It) (xs : List D) (St : Mem → Prop) : Prop := ∀ Z2 i H2 M2, Evo2 Z H1 M1 Z2 H2 M2 → Sim B Z2 H2 M2 → St M2 →
  (xs.length ≤ i → J.stop i H2) ∧ ∀ x, xs[i]? = some x → J.go i H2 ∧ ∀ v H3, J.yld i H2 v H3 → Evo Z2 H2 M2 H3 M2 ∧ Sim B Z2 H3 M2 ∧ rp B Z2 H3 M2 x v
def lfI (B : Bs) (W : WX) (ti : TDi) : TI := fun σ H R => ∃ Z M sd K E, Sim B Z H M ∧ Sls B Z H M sd σ ∧ ti sd M K E ∧ XLk B Z H M W σ E ∧ ∀ J H1 xs St M1, Evo Z H M H1 M1 → Sim B Z H1 M1 → ItR B Z H1 M1 J xs St → K xs St M1 → R J H1
theorem PIimp {X : Cx} {tg e : Expr} {t t' : TI} (h : PI X tg e t) (i : ∀ σ H Q, t' σ H Q → t σ H Q) : PI X tg e t' := ⟨fun pins s σ H Q I q => h.run pins s σ H Q I (i σ H Q q)⟩

section
variable {X : Cx} {B : Bs} {W : WX} {a b c e tg : Expr} {es : List Expr} {ta tb tc te tv : TDe} {t u : TDs} {tl : TDa} {pos p p2 pos' : Pos} {x : Str} {st : Stmt} {rest body : List Stmt}
theorem qs_nil : PSs X [] (lfS B W dNext) := PSsimp pss_nil fun D σ H ⟨Z, M, sd, Dd, s, l, h, q⟩ => q.nx _ _ _ _ Evo.refl s l h
theorem qs_cons (h1 : PS X st (lfS B W t)) (h2 : PSs X rest (lfS B W u)) : PSs X (st :: rest) (lfS B W (dSeq t u)) := PSsimp (pss_cons h1 h2) fun D σ H ⟨Z, M, sd, Dd, s, l, h, q⟩ =>
  ⟨Z, M, sd, _, s, l, h, ⟨fun σ' H' sd' M' e s' l' h' => ⟨Z, M', sd', Dd, s', l', h', q.mono e⟩, q.rt, q.bk, q.ct, q.ex⟩⟩
theorem qs_one (h1 : PS X st (lfS B W t)) : PSs X [st] (lfS B W t) := pss_one h1
theorem qs_pass : PS X (.Pass pos) (lfS B W dNext) := PSimp ps_pass fun D σ H ⟨Z, M, sd, Dd, s, l, h, q⟩ => q.nx _ _ _ _ Evo.refl s l h
theorem qs_break : PS X (.Break pos) (lfS B W dBreak) := PSimp ps_break fun D σ H ⟨Z, M, sd, Dd, s, l, h, q⟩ => q.bk _ _ _ _ Evo.refl s l h
theorem qs_cont : PS X (.Continue pos) (lfS B W dCont) := PSimp ps_continue fun D σ H ⟨Z, M, sd, Dd, s, l, h, q⟩ => q.ct _ _ _ _ Evo.refl s l h
theorem qs_expr (he : PE X e (lfE B W te)) (hs : swapsWith e none pos.line X.env = pure false := by rfl) : PS X (.Expr e pos) (lfS B W (dDrop te)) := PSimp (ps_expr he hs) fun D σ H ⟨Z, M, sd, Dd, s, l, h, q⟩ =>
  lfE_go s l (q.x l) h fun v H1 d M1 e1 s1 r1 h1 => q.nx _ _ _ _ e1 s1 (l.mono e1) h1
theorem qs_ret (he : PE X e (lfE B W te)) : PS X (.Return (some e) pos) (lfS B W (dRet te)) := PSimp (ps_ret he) fun D σ H ⟨Z, M, sd, Dd, s, l, h, q⟩ =>
  lfE_go s l (q.x l) h fun v H1 d M1 e1 s1 r1 h1 => q.rt _ _ _ _ e1 s1 r1 h1
theorem qs_if {ca cb : List Stmt} {tt : TDt} (hc : PT X c (lfT B W tt)) (ha : PSs X ca (lfS B W t)) (hb : PSs X cb (lfS B W u)) : PS X (.If c ca cb pos) (lfS B W (dIfS tt t u)) := PSimp (ps_if hc ha hb) fun D σ H ⟨Z, M, sd, Dd, s, l, h, q⟩ => by
  refine lfT_go s l (q.x l) h fun k H1 M1 e1 s1 h1 => ?_
  cases k with
  | true =>
    rw [if_pos rfl] at h1 ⊢
    exact ⟨Z, M1, sd, Dd, s1, l.mono e1, h1, q.mono e1⟩
  | false =>
    rw [if_neg Bool.false_ne_true] at h1 ⊢
    exact ⟨Z, M1, sd, Dd, s1, l.mono e1, h1, q.mono e1⟩
/-! ### targets -/
theorem PGimp {X : Cx} {e : Expr} {t t' : TG} (h : PG X e t) (i : ∀ v σ H Q, t' v σ H Q → t v σ H Q) : PG X e t' := ⟨fun pins s σ H v u Q I r q => h.run pins s σ H v u Q I r (i v σ H Q q)⟩
theorem PGsimp {X : Cx} {e : List Expr} {t t' : TGs} (h : PGs X e t) (i : ∀ v σ H Q, t' v σ H Q → t v σ H Q) : PGs X e t' := ⟨fun pins s σ H v u Q I r q => h.run pins s σ H v u Q I r (i v σ H Q q)⟩
theorem lf_gname {i : Nat} : ∀ v σ H Q, lfG B (dgName i) v σ H Q → gName i v σ H Q := fun v σ H Q ⟨Z, M, sd, d, Qd, s, l, r, h, q⟩ => q _ _ _ _ Evo.refl s (l.set i r) h
theorem qg_name {i : Nat} (h : PG X (.Name x pos) (gName i)) : PG X (.Name x pos) (lfG B (dgName i)) := PGimp h lf_gname
theorem qg_nil : PGs X [] (lfGs B dgNil) := PGsimp pgs_nil fun vs σ H Q ⟨Z, M, sd, ds, Qd, s, l, r, ⟨e, h⟩, q⟩ => by
  subst e
  exact ⟨r, q _ _ _ _ Evo.refl s l h⟩
theorem qg_cons {g : TDg} {gs : TDgs} (h1 : PG X e (lfG B g)) (h2 : PGs X es (lfGs B gs)) (hs : (assignEach (e :: es) X.env).map (·.2) = assign e X.env :: (assignEach es X.env).map (·.2) := by rfl) : PGs X (e :: es) (lfGs B (dgCons g gs)) :=
  PGsimp (pgs_cons h1 h2 hs) fun vs σ H Q ⟨Z, M, sd, ds, Qd, s, l, r, ⟨d, ds', e, h⟩, q⟩ => by
    subst e
    obtain ⟨v, ws, rfl, r1, r2⟩ := r
    exact ⟨v, ws, rfl, Z, M, sd, d, _, s, l, r1, h, fun σ' H' sd' M' e1 s1 l1 h1 => ⟨Z, M', sd', ds', Qd, s1, l1, e1.rpl r2, h1, q.mono e1⟩⟩
theorem qg_tup {k n : Nat} {gs : TDgs} (hK : X.K = B.K) (hc : X.calm = true) (h : PGs X es (lfGs B gs)) (hn : (assignEach es X.env).length = n := by rfl) (hst : (assignEach es X.env).findIdx? (·.1) = none := by rfl) : PG X (.Tuple es k pos) (lfG B (dgTup n gs)) :=
  PGimp (pg_tup hc h hn hst) fun v σ H Q ⟨Z, M, sd, d, Qd, s, l, r, ⟨ds, e, hl, h⟩, q⟩ => by
    subst e
    obtain ⟨a, vs, rfl, h1, r1⟩ := tup_at r
    exact ⟨a, vs, rfl, hK ▸ h1, by rw [← r1.length]; exact hl, Z, M, sd, ds, Qd, s, l, r1, h, q⟩
theorem set_any (hu : X.A.units + 1 < cLine) : PSet X (fun o k v H Q => (∃ a H4, o = .ref a ∧ DPut H a k v H4 ∧ Q H4) ∨ rSetL o k v H Q) := by
  intro pins s σ H o i v ov iv u Q I ro ri rv h
  rcases h with ⟨a, H4, rfl, g, q⟩ | h
  · obtain rfl : ov = Value.ref a := ro
    exact d_setItem hu I g ri rv fun s4 I4 => ⟨H4, I4, q⟩
  · exact set_list pins s σ H o i v ov iv u Q I ro ri rv h
theorem storeD_ok {Z : List Addr} {H : Hp} {M : Mem} {o k v : D} {x y z : V} {Qd : Mem → Prop} {Q : Hp → Prop} (s : Sim B Z H M) (ro : rp B Z H M o x) (rk : rp B Z H M k y) (rv : rp B Z H M v z) (h : storeD o k v M Qd)
    (q : ∀ H' M', Evo Z H M H' M' → Sim B Z H' M' → Qd M' → Q H') : (∃ a H4, x = .ref a ∧ DPut H a y z H4 ∧ Q H4) ∨ rSetL x y z H Q := by
  obtain ⟨a, rfl, h⟩ := h
  cases ro
  rcases h with ⟨kvs, key, hm, hk, hl, h⟩ | ⟨xs, i, j, hm, rfl, hj, h⟩
  · obtain ⟨ws, ha, rk'⟩ := (s.ob a _ hm).2
    obtain rfl := keyD_at rk hk
    obtain ⟨ev, s'⟩ := s.wr (mo := .dic (putKD kvs key v)) hm (o := .dK (putK ws key z)) fun M' e => ⟨_, upd_same, (rk'.mono fun _ _ z => e.rp z).put key (e.rp rv)⟩
    exact .inl ⟨a, _, rfl, DPut.k ha (by rw [← rk'.length]; exact hl), q _ _ ev s' h⟩
  · obtain ⟨vs, ha, rl⟩ := (s.ob a _ hm).2
    cases rk
    obtain ⟨ev, s'⟩ := s.wr (mo := .lst (xs.set j v)) hm (o := .lst (vs.set j z)) fun M' e => ⟨_, upd_same, (e.rpl rl).set (e.rp rv) j⟩
    exact .inr ⟨a, vs, i, j, rfl, rfl, ha, by rw [← rl.length]; exact hj, q _ _ ev s' h⟩
theorem qg_sub {o i : Expr} {to ti : TDe} (hu : X.A.units + 1 < cLine) (ho : PE X o (lfE B W to)) (hi : PE X i (lfE B W ti)) (ha : ∀ v, assign (.Subscript o i pos) X.env v = (do
      let ov ← holding [v] (eval o X.env)
      let iv ← holding [v, ov] (eval i X.env)
      standAt pos
      holding [v, ov, iv] (setItem ov iv v)
      release [v, ov, iv] []) := by intro _; rfl) : PG X (.Subscript o i pos) (lfG B (dgSub to ti)) :=
  PGimp (pg_sub ho hi (set_any hu) ha) fun v σ H Q ⟨Z, M, sd, d, Qd, s, l, r, h, q⟩ => by
    have nox : ∀ {H1 : Hp} {M1 : Mem}, XLk B Z H1 M1 W σ (fun _ _ _ => False) := fun {H1 M1} c p dx v H' M' _ _ _ _ z => z.elim
    refine lfE_go s l nox h fun ov H1 od M1 e1 s1 r1 h1 => ?_
    refine lfE_go s1 (l.mono e1) nox h1 fun iv H2 kd M2 e2 s2 r2 h2 => ?_
    exact storeD_ok s2 (e2.rp r1) r2 ((e1.trans e2).rp r) h2 fun H3 M3 e3 s3 h3 => q _ _ _ _ ((e1.trans e2).trans e3) s3 (l.mono ((e1.trans e2).trans e3)) h3
/-! ### assignments -/
theorem qs_set {i : Nat} {e : Expr} {pos' : Pos} (hN : X.N.Nodup) (hi : X.N[i]? = some x) (hx : Loc X.env.scope x) (he : PE X e (lfE B W te)) (hs : swapsWith e (some (.Name x pos')) pos.line X.env = pure false := by rfl) (hf : X.fn x = true ∨ X.env.scope.names.lookup x = some .local := by first | exact .inl rfl | exact .inr rfl | assumption) :
    PS X (.Assign [.Name x pos'] e pos) (lfS B W (dAsg te (dgName i))) :=
  PSimp (ps_set hN hi hx he hs hf) fun D σ H ⟨Z, M, sd, Dd, s, l, h, q⟩ => lfE_go s l (q.x l) h fun v H1 d M1 e1 s1 r1 h1 => q.nx _ _ _ _ e1 s1 ((l.mono e1).set i r1) h1
theorem qs_asg {g : TDg} (he : PE X e (lfE B W te)) (hg : PG X tg (lfG B g)) (hs : swapsWithSole [tg] e pos.line X.env = pure false := by rfl) (hw : swappedStores [tg] e X.env = pure none := by rfl)
    (h1 : (assignEach [tg] X.env).map (·.2) = [assign tg X.env] := by rfl) : PS X (.Assign [tg] e pos) (lfS B W (dAsg te g)) :=
  PSimp (ps_asg he hg hs hw h1) fun D σ H ⟨Z, M, sd, Dd, s, l, h, q⟩ => lfE_go s l (q.x l) h fun v H1 d M1 e1 s1 r1 h1 =>
    ⟨Z, M1, sd, d, Dd.nx, s1, l.mono e1, r1, h1, fun σ' H' sd' M' e2 s2 l2 h2 => q.nx _ _ _ _ (e1.trans e2) s2 l2 h2⟩
theorem qs_par {i j : Nat} {x y : Str} {a b : Expr} {px py pt : Pos} {kt k2 pt2} (hc : X.calm = true) (hN : X.N.Nodup) (hi : X.N[i]? = some x) (hj : X.N[j]? = some y) (hij : i ≠ j) (hx : X.env.scope.names.lookup x = some .local) (hy : X.env.scope.names.lookup y = some .local) (ha : PA X [a, b] (lfA B W tl))
    (hw : swappedStores [.Tuple [.Name x px, .Name y py] kt pt] (.Tuple [a, b] k2 pt2) X.env = pure (some [x, y])) (hs : swapsWithSole [.Tuple [.Name x px, .Name y py] kt pt] (.Tuple [a, b] k2 pt2) pos.line X.env = pure false := by rfl) :
    PS X (.Assign [.Tuple [.Name x px, .Name y py] kt pt] (.Tuple [a, b] k2 pt2) pos) (lfS B W (dPar i j tl)) :=
  PSimp (ps_par hc hN hi hj hij hx hy ha hw hs) fun D σ H ⟨Z, M, sd, Dd, s, l, h, q⟩ => ⟨Z, M, sd, _, _, s, l, h, q.x l, fun vs H1 ds M1 e1 s1 r1 ⟨v, w, e, h1⟩ => by
    subst e
    obtain ⟨v', w', rfl, ra, rb⟩ := rpl2 r1
    exact ⟨v', w', rfl, q.nx _ _ _ _ e1 s1 (((l.mono e1).set i ra).set j rb) h1⟩⟩
theorem qs_aug {i : Nat} {op : Operator} {od : D → D → Mem → KD → Prop} (ho : OpR X (inplaceOp op) (lf2 B od)) (hN : X.N.Nodup) (hi : X.N[i]? = some x) (hx : Loc X.env.scope x) (he : PE X e (lfE B W te)) (hf : X.fn x = true ∨ X.env.scope.names.lookup x = some .local := by first | exact .inl rfl | exact .inr rfl | assumption) :
    PS X (.AugAssign (.Name x pos') op e pos) (lfS B W (dAug i od te)) :=
  PSimp (ps_aug hN hi hx he ho hf) fun D σ H ⟨Z, M, sd, Dd, s, l, ⟨d, e, h⟩, q⟩ => by
    obtain ⟨v, ev, r⟩ := l.at_ i d e
    refine ⟨v, ev, lfE_go s l (q.x l) h fun u H1 f M1 e1 s1 r1 h1 => ?_⟩
    exact ⟨Z, M1, _, d, f, s1, e1.rp r, r1, h1, fun z H2 g M2 e2 s2 r2 h2 => q.nx _ _ _ _ (e1.trans e2) s2 ((l.mono (e1.trans e2)).set i r2) h2⟩
/-- += : ints, texts -/
def addA (d e : D) (M : Mem) (Q : KD) : Prop :=
  match d, e with
  | .int i, .int j => Q (.int (i + j)) M
  | .str x, .str y => x.length + y.length ≤ sizeLine ∧ Q (.str (x ++ y)) M
  | _, _ => False
theorem oi_add : OpR X (inplaceOp .Add) (lf2 B addA) :=
  OpRimp (iop_add.or iop_add_str) fun x y H Q ⟨Z, M, Qd, d, e, s, r1, r2, h, q⟩ => by
    unfold addA at h
    split at h
    · cases r1; cases r2
      exact .inl ⟨_, _, rfl, rfl, q.i s h⟩
    · cases r1; cases r2
      exact .inr ⟨_, _, rfl, rfl, h.1, q.t s h.2⟩
    · exact h.elim
theorem in_addI : InOp X .Add (lf2 B addI) := fun pins s σ H x y u v Q I rx ry ⟨Z, M, Qd, d, e, s', r1, r2, h, q⟩ => in_add pins s σ H x y u v Q I rx ry (by
  unfold addI intD at h
  split at h
  · cases r1; cases r2
    exact ⟨_, _, rfl, rfl, q.i s' h.2⟩
  · exact h.elim)
theorem RpF.put {I : Addr → Prop} {H : Hp} {d : D} {v : V} {f : Str} (r : Rp B H I d v) : ∀ {ds : List (Str × D)} {vs : List (Str × V)}, RpF B H I ds vs → RpF B H I (putD f d ds) (putF f v vs)
  | [], _, h => by cases h; exact ⟨v, [], rfl, r, rfl⟩
  | (g, e) :: ds, _, ⟨u, ws, q, r1, r2⟩ => by
    subst q
    by_cases hg : g = f
    · have a1 : putD f d ((g, e) :: ds) = (g, d) :: ds := if_pos hg
      have a2 : putF f v ((g, u) :: ws) = (g, v) :: ws := if_pos hg
      rw [a1, a2]
      exact ⟨v, ws, rfl, r, r2⟩
    · have a1 : putD f d ((g, e) :: ds) = (g, e) :: putD f d ds := if_neg hg
      have a2 : putF f v ((g, u) :: ws) = (g, u) :: putF f v ws := if_neg hg
      rw [a1, a2]
      exact ⟨u, _, rfl, r1, RpF.put r r2⟩
theorem fld_wr {Z : List Addr} {H : Hp} {M : Mem} {a : Addr} {c : CN} {fs : List (Str × D)} {f : Str} {d : D} {v : V} (s : Sim B Z H M) (hm : M a = some (.ins c fs)) (r : rp B Z H M d v) : ∃ dx vs, H a = some (.ins (B.adr c) dx vs) ∧ fs.length = vs.length ∧
    Evo Z H M (upd H a (.ins (B.adr c) dx (putF f v vs))) (upm M a (.ins c (putD f d fs))) ∧ Sim B Z (upd H a (.ins (B.adr c) dx (putF f v vs))) (upm M a (.ins c (putD f d fs))) := by
  obtain ⟨dx, vs, ha, rf⟩ := (s.ob a _ hm).2
  exact ⟨dx, vs, ha, rf.length, s.wr (mo := .ins c (putD f d fs)) hm (o := .ins (B.adr c) dx (putF f v vs)) fun M' e => ⟨dx, _, upd_same, RpF.put (e.rp r) (e.rpf rf)⟩⟩
theorem qs_fld {o value : Expr} {f : Str} (C : ClsOk X B) (F : FldOk X B f) (ha : PE X o (lfE B W ta)) (hv : PE X value (lfE B W tv)) (hs : swapsWith value (some (.Attribute o f pos')) pos.line X.env = pure false) : PS X (.Assign [.Attribute o f pos'] value pos) (lfS B W (dFldS ta tv f)) :=
  PSimp (ps_fld ha hv hs) fun D σ H ⟨Z, M, sd, Dd, s, l, h, q⟩ => by
    refine lfE_go s l (q.x l) h fun y H1 d M1 e1 s1 r1 h1 => ?_
    refine lfE_go s1 (l.mono e1) ((q.mono e1).x (l.mono e1)) h1 fun x H2 od M2 e2 s2 r2 ⟨a, c, fs, e, hm, hl, h2⟩ => ?_
    subst e
    cases r2
    obtain ⟨dx, vs, ha, hn, ev, s3⟩ := fld_wr (f := f) s2 hm (e2.rp r1)
    exact ⟨a, _, dx, vs, rfl, ha, C.cl c, F c, by rw [← hn]; exact hl, q.nx _ _ _ _ ((e1.trans e2).trans ev) s3 (l.mono ((e1.trans e2).trans ev)) h2⟩
theorem qs_fldA {o value : Expr} {f : Str} {op : Operator} {od : D → D → Mem → KD → Prop} {tpos : Pos} (C : ClsOk X B) (F : FldOk X B f) (hop : InOp X op (lf2 B od)) (ha : PE X o (lfE B W ta)) (hv : PE X value (lfE B W tv)) : PS X (.AugAssign (.Attribute o f tpos) op value pos) (lfS B W (dFldA ta tv od f)) :=
  PSimp (ps_fldaug ha hv hop) fun D σ H ⟨Z, M, sd, Dd, s, l, h, q⟩ => by
    refine lfE_go s l (q.x l) h fun x H1 od' M1 e1 s1 r1 ⟨a, c, fs, x', e, hm, hx, h1⟩ => ?_
    subst e
    cases r1
    obtain ⟨dx, vs, ha, rf⟩ := (s1.ob a _ hm).2
    obtain ⟨xv, hxv, rx⟩ := rf.lookup hx
    refine ⟨a, _, dx, vs, xv, rfl, ha, C.cl c, F c, hxv, ?_⟩
    refine lfE_go s1 (l.mono e1) ((q.mono e1).x (l.mono e1)) h1 fun y H2 d M2 e2 s2 r2 h2 => ?_
    refine ⟨Z, M2, _, x', d, s2, e2.rp rx, r2, h2, fun z H3 zd M3 e3 s3 r3 ⟨fs', hm3, hl, h3⟩ => ?_⟩
    obtain ⟨dx', vs', ha', hn, ev, s4⟩ := fld_wr (f := f) s3 hm3 r3
    have e4 := ((e1.trans e2).trans e3).trans ev
    exact ⟨dx', vs', ha', by rw [← hn]; exact hl, q.nx _ _ _ _ e4 s4 (l.mono e4) h3⟩
/-! ### while, for -/
theorem qs_while {tt : TDt} (hp : PassesOwn (model X.prog X.w) X.A X.env X.xe) (hc : PT X c (lfT B W tt)) (hb : PSs X body (lfS B W t)) : PS X (.While c body [] pos) (lfS B W (dWhile tt t)) :=
  PSimp (ps_while hp hc hb) fun D σ H ⟨Z, M, sd, Dd, s, l, ⟨V, ⟨m0, v0⟩, turn⟩, q⟩ => by
    refine ⟨fun m σ' H' => ∃ M' sd', Evo Z H M H' M' ∧ Sim B Z H' M' ∧ Sls B Z H' M' sd' σ' ∧ V m sd' M', ⟨m0, M, sd, Evo.refl, s, l, v0⟩, ?_⟩
    rintro m σ1 H1 ⟨M1, sd1, e1, s1, l1, v1⟩
    refine lfT_go s1 l1 ((q.mono e1).x l1) (turn m sd1 M1 v1) fun k H2 M2 e2 s2 h2 => ?_
    cases k with
    | true =>
      rw [if_pos rfl] at h2 ⊢
      obtain ⟨N, hN, h2⟩ := h2
      refine ⟨fun σ' H' => ∃ M' sd', Evo Z H M H' M' ∧ Sim B Z H' M' ∧ Sls B Z H' M' sd' σ' ∧ N sd' M', fun σ' H' ⟨M', sd', e', s', l', n'⟩ => ?_, ?_⟩
      · obtain ⟨m', hm, v'⟩ := hN sd' M' n'
        exact ⟨m', hm, M', sd', e', s', l', v'⟩
      · have e12 := e1.trans e2
        exact ⟨Z, M2, sd1, _, s2, l1.mono e2, h2, ⟨fun σ' H' sd' M' e s l h => ⟨M', sd', e12.trans e, s, l, h⟩, q.rt.mono e12, fun σ' H' sd' M' e s l h => q.nx σ' H' sd' M' (e12.trans e) s l h, fun σ' H' sd' M' e s l h => ⟨M', sd', e12.trans e, s, l, h⟩, (q.mono e12).ex⟩⟩
    | false =>
      rw [if_neg Bool.false_ne_true] at h2 ⊢
      exact q.nx _ _ _ _ (e1.trans e2) s2 (l1.mono e2) h2
theorem lf_for {ti : TDi} {g : TDg} : ∀ D σ H, lfS B W (dFor ti g t) D σ H → tFor (lfI B W ti) (lfG B g) (lfS B W t) D σ H := fun D σ H ⟨Z, M, sd, Dd, s, l, h, q⟩ => by
  refine ⟨Z, M, sd, _, _, s, l, h, q.x l, ?_⟩
  rintro J H1 xs St M1 e1 s1 it ⟨Pv, p0, hst, hs, hd⟩
  refine ⟨fun i m σ' H' => ∃ M' sd', Evo Z H1 M1 H' M' ∧ Sim B Z H' M' ∧ Sls B Z H' M' sd' σ' ∧ Pv i sd' M' ∧ i ≤ xs.length ∧ m = xs.length - i, ⟨xs.length, M1, sd, Evo.refl, s1, l.mono e1, p0, Nat.zero_le _, rfl⟩, ?_⟩
  rintro i m σ2 H2 ⟨M2, sd2, e2, s2, l2, p2, hi, rfl⟩
  have st2 := hst i sd2 M2 hi p2
  obtain ⟨it1, it2⟩ := it Z i H2 M2 e2.two s2 st2
  by_cases hlt : i < xs.length
  · obtain ⟨go, yl⟩ := it2 xs[i] (List.getElem?_eq_getElem hlt)
    refine .inr ⟨go, fun σ' H' => ∃ M' sd', Evo Z H1 M1 H' M' ∧ Sim B Z H' M' ∧ Sls B Z H' M' sd' σ' ∧ Pv (i + 1) sd' M', fun σ' H' ⟨M', sd', a1, a2, a3, a4⟩ => ⟨xs.length - (i + 1), by omega, M', sd', a1, a2, a3, a4, hlt, rfl⟩, fun v H3 y => ?_⟩
    obtain ⟨e3, s3, r3⟩ := yl v H3 y
    have h3 := hs i xs[i] sd2 M2 (List.getElem?_eq_getElem hlt) p2
    refine ⟨Z, M2, sd2, xs[i], _, s3, l2.mono e3, r3, h3, fun σ4 H4 sd4 M4 e4 s4 l4 h4 => ?_⟩
    have e5 := (e2.trans e3).trans e4
    have q5 := q.mono (e1.trans e5)
    exact ⟨Z, M4, sd4, _, s4, l4, h4, ⟨fun σ' H' sd' M' e s l h => ⟨M', sd', e5.trans e, s, l, h⟩, q5.rt, q5.nx, fun σ' H' sd' M' e s l h => ⟨M', sd', e5.trans e, s, l, h⟩, q5.ex⟩⟩
  · have e : i = xs.length := by omega
    subst e
    exact .inl ⟨it1 (Nat.le_refl _), q.nx _ _ _ _ (e1.trans e2) s2 l2 (hd sd2 M2 p2)⟩
theorem qs_for {iter : Expr} {ti : TDi} {g : TDg} (hp : PassesOwn (model X.prog X.w) X.A X.env X.xe) (hc : X.calm = true) (hi : PI X tg iter (lfI B W ti)) (hg : PG X tg (lfG B g)) (hb : PSs X body (lfS B W t))
    (hs : ∀ x, foldedSetIterable iter X.env x = pure x := by intro _; rfl) : PS X (.For tg iter body [] pos) (lfS B W (dFor ti g t)) := PSimp (ps_for hp hc hi hg hb hs) lf_for
/-! ### what is walked -/
theorem itr_list {Z : List Addr} {H : Hp} {M : Mem} {d : D} {v : V} {xs : List D} {K : PySem.W.Frag} (hK : K = B.K) (s : Sim B Z H M) (r : rp B Z H M d v) (h : lstS M d = some xs) : ∃ a, v = .ref a ∧ (∃ vs, SqL K H a vs) ∧ ItR B Z H M (Itl K a) xs (fun M' => lstS M' d = some xs) := by
  subst hK
  obtain ⟨a, vs, rfl, hv, ra⟩ := lstS_at B.K rfl s r h
  refine ⟨a, rfl, ⟨vs, hv⟩, fun Z2 i H2 M2 e2 s2 h2 => ?_⟩
  obtain ⟨a', ws, e, hw, rw'⟩ := lstS_at B.K rfl s2 (e2.rp r) h2
  cases e
  refine ⟨fun hi => ⟨ws, hw, by rw [← rw'.length]; exact hi⟩, fun x hx => ?_⟩
  obtain ⟨u, hu, ru⟩ := rw'.get hx
  refine ⟨⟨ws, u, hw, hu⟩, fun v H3 ⟨e3, y⟩ => ?_⟩
  subst e3
  have := y ws hw
  rw [hu] at this
  cases this
  exact ⟨Evo.refl, s2, ru⟩
theorem qi_list (hK : X.K = B.K) (he : PE X e (lfE B W te)) : PI X tg e (lfI B W (iLst te)) := PIimp (pi_list he) fun σ H R ⟨Z, M, sd, K, E, s, l, h, x, q⟩ => by
  refine lfE_go s l x h fun v H1 d M1 e1 s1 r1 ⟨xs, h1, h2⟩ => ?_
  obtain ⟨a, rfl, h3, it⟩ := itr_list hK s1 r1 h1
  exact ⟨a, rfl, h3, q _ _ _ _ _ e1 s1 it h2⟩
theorem qi_tup (hK : X.K = B.K) (he : PE X e (lfE B W te)) : PI X tg e (lfI B W (iTup te)) := PIimp (pi_tup he) fun σ H R ⟨Z, M, sd, K, E, s, l, h, x, q⟩ => by
  refine lfE_go s l x h fun v H1 d M1 e1 s1 r1 ⟨xs, h1, h2⟩ => ?_
  subst h1
  have r0 := r1
  obtain ⟨a, vs, rfl, hv, ra⟩ := tup_at r1
  refine ⟨a, rfl, ⟨vs, hK ▸ hv⟩, q _ _ _ _ _ e1 s1 (fun Z2 i H2 M2 e2 s2 _ => ?_) h2⟩
  obtain ⟨a', ws, e, hw, rw'⟩ := tup_at (e2.rp r0)
  cases e
  refine ⟨fun hi => ⟨ws, hK ▸ hw, by rw [← rw'.length]; exact hi⟩, fun x hx => ?_⟩
  obtain ⟨u, hu, ru⟩ := rw'.get hx
  refine ⟨⟨ws, u, hK ▸ hw, hu⟩, fun v H3 ⟨e3, y⟩ => ?_⟩
  subst e3
  have := y ws (hK ▸ hw)
  rw [hu] at this
  cases this
  exact ⟨Evo.refl, s2, ru⟩
theorem qi_str (he : PE X e (lfE B W te)) : PI X tg e (lfI B W (iStr te)) := PIimp (pi_str he) fun σ H R ⟨Z, M, sd, K, E, s, l, h, x, q⟩ => by
  refine lfE_go s l x h fun v H1 d M1 e1 s1 r1 ⟨z, h1, h2⟩ => ?_
  subst h1
  cases r1
  refine ⟨z, rfl, q _ _ _ _ _ e1 s1 (fun Z2 i H2 M2 e2 s2 _ => ⟨fun hi => ?_, fun x hx => ?_⟩) h2⟩
  · show z.cps.size ≤ i
    unfold chars at hi
    simpa using hi
  · unfold chars at hx
    rw [List.getElem?_map] at hx
    cases ec : z.cps.toList[i]? with
    | none => rw [ec] at hx; cases hx
    | some ch =>
      rw [ec] at hx
      cases hx
      have hi : i < z.cps.size := by
        have := (List.getElem?_eq_some_iff.mp ec).1
        simpa using this
      refine ⟨hi, fun v H3 ⟨e3, ch', h3, h4⟩ => ?_⟩
      subst e3 h4
      have e4 : ch' = ch := by
        rw [← Array.getElem?_toList, ec] at h3
        exact (Option.some.inj h3).symm
      subst e4
      exact ⟨Evo.refl, s2, rfl⟩
theorem rng_get {lo c : Int} {n i : Nat} {x : D} (h : (rng lo c n)[i]? = some x) : i < n ∧ x = .int (lo + (i : Int) * c) := by
  unfold rng at h
  rw [List.getElem?_map] at h
  by_cases hi : i < n
  · rw [List.getElem?_range hi] at h
    exact ⟨hi, (Option.some.inj h).symm⟩
  · rw [List.getElem?_eq_none (by simpa using Nat.le_of_not_lt hi)] at h
    cases h
theorem rng_length {lo c : Int} {n : Nat} : (rng lo c n).length = n := by unfold rng; simp
theorem itr_r {Z : List Addr} {H : Hp} {M : Mem} {lo : Int} {n : Nat} : ItR B Z H M (Itr lo n) (rng lo 1 n) (fun _ => True) := fun Z2 i H2 M2 e2 s2 _ => by
  refine ⟨fun hi => by rw [rng_length] at hi; exact hi, fun x hx => ?_⟩
  obtain ⟨hi, rfl⟩ := rng_get hx
  refine ⟨hi, fun v H3 ⟨e3, e4⟩ => ?_⟩
  subst e3 e4
  exact ⟨Evo.refl, s2, by show V.int _ = V.int _; rw [Int.mul_one]⟩
theorem itr_c {Z : List Addr} {H : Hp} {M : Mem} {lo c : Int} {n : Nat} : ItR B Z H M (Itc lo c n) (rng lo c n) (fun _ => True) := fun Z2 i H2 M2 e2 s2 _ => by
  refine ⟨fun hi => by rw [rng_length] at hi; exact hi, fun x hx => ?_⟩
  obtain ⟨hi, rfl⟩ := rng_get hx
  refine ⟨hi, fun v H3 ⟨e3, e4⟩ => ?_⟩
  subst e3 e4
  exact ⟨Evo.refl, s2, rfl⟩
theorem qi_rng1 (hg : Gl X "range") (hm : X.mg "range" = none) (ha : PA X [a] (lfA B W tl)) (hs : starEach [a] X.env = [(false, eval a X.env)] := by rfl) : PI X tg (.Call (.Name "range" p) [a] [] pos) (lfI B W (iRng1 tl)) :=
  PIimp (pi_range1 hg hm ha hs) fun σ H R ⟨Z, M, sd, K, E, s, l, h, x, q⟩ => ⟨Z, M, sd, _, E, s, l, h, x, fun vs H1 ds M1 e1 s1 r1 ⟨j, e, h1, h2, h3⟩ => by
    subst e
    obtain ⟨v, rfl, r⟩ := rpl1 r1
    cases r
    exact ⟨j, rfl, h1, h2, q _ _ _ _ _ e1 s1 itr_r h3⟩⟩
theorem qi_rng2 (hg : Gl X "range") (hm : X.mg "range" = none) (ha : PA X [a, b] (lfA B W tl)) (hs : starEach [a, b] X.env = [(false, eval a X.env), (false, eval b X.env)] := by rfl) (hs2 : starEach [b] X.env = [(false, eval b X.env)] := by rfl) : PI X tg (.Call (.Name "range" p) [a, b] [] pos) (lfI B W (iRng2 tl)) :=
  PIimp (pi_range2 hg hm ha hs hs2) fun σ H R ⟨Z, M, sd, K, E, s, l, h, x, q⟩ => ⟨Z, M, sd, _, E, s, l, h, x, fun vs H1 ds M1 e1 s1 r1 ⟨i, j, e, h1, h3⟩ => by
    subst e
    obtain ⟨v, w, rfl, r, r'⟩ := rpl2 r1
    cases r; cases r'
    exact ⟨i, j, rfl, h1, q _ _ _ _ _ e1 s1 itr_r h3⟩⟩
theorem qi_rng3 (hg : Gl X "range") (hm : X.mg "range" = none) (ha : PA X [a, b, c] (lfA B W tl)) (hs : starEach [a, b, c] X.env = (false, eval a X.env) :: starEach [b, c] X.env := by rfl) (hpl : (backTo pos (starEach [b, c] X.env)).any (·.1) = false := by rfl) : PI X tg (.Call (.Name "range" p) [a, b, c] [] pos) (lfI B W (iRng3 tl)) :=
  PIimp (pi_range3 hg hm ha hs hpl) fun σ H R ⟨Z, M, sd, K, E, s, l, h, x, q⟩ => ⟨Z, M, sd, _, E, s, l, h, x, fun vs H1 ds M1 e1 s1 r1 ⟨i, j, k, n, e, h1, h3⟩ => by
    subst e
    obtain ⟨v, vs', rfl, r, r'⟩ := r1
    obtain ⟨v', w', rfl, ra, rb⟩ := rpl2 r'
    cases r; cases ra; cases rb
    exact ⟨i, j, k, n, rfl, h1, q _ _ _ _ _ e1 s1 itr_c h3⟩⟩
theorem qi_zip {elts : List Expr} {kk : Nat} {tpos : Pos} (hK : X.K = B.K) (hg : Gl X "zip") (hm : X.mg "zip" = none) (ha : PA X [a, b] (lfA B W tl)) (hs : starEach [a, b] X.env = (false, eval a X.env) :: starEach [b] X.env := by rfl) (hpl : (backTo pos (starEach [b] X.env)).any (·.1) = false := by rfl) :
    PI X (.Tuple elts kk tpos) (.Call (.Name "zip" p) [a, b] [] pos) (lfI B W (iZip tl)) :=
  PIimp (pi_zip hg hm ha hs hpl) fun σ H R ⟨Z, M, sd, K, E, s, l, h, x, q⟩ => ⟨Z, M, sd, _, E, s, l, h, x, fun vs H1 ds M1 e1 s1 r1 ⟨d, d', xs, ys, e, h1, h2, h3⟩ => by
    subst e
    obtain ⟨v, w, rfl, r, r'⟩ := rpl2 r1
    obtain ⟨a1, us, rfl, hu, ru⟩ := lstS_at B.K rfl s1 r h1
    obtain ⟨a2, ws, rfl, hw, rw'⟩ := lstS_at B.K rfl s1 r' h2
    refine ⟨a1, a2, us, ws, rfl, hK ▸ hu, hK ▸ hw, q _ _ _ _ _ e1 s1 (fun Z2 i H2 M2 e2 s2 ⟨st1, st2⟩ => ?_) h3⟩
    obtain ⟨b1, us2, e, hu2, ru2⟩ := lstS_at B.K rfl s2 (e2.rp r) st1
    cases e
    obtain ⟨b2, ws2, e, hw2, rw2⟩ := lstS_at B.K rfl s2 (e2.rp r') st2
    cases e
    refine ⟨fun hi => ⟨us2, ws2, hK ▸ hu2, hK ▸ hw2, ?_⟩, fun x hx => ?_⟩
    · rw [← ru2.length, ← rw2.length]
      unfold zipD at hi
      rw [List.length_zipWith] at hi
      omega
    · unfold zipD at hx
      rw [List.getElem?_zipWith_eq_some] at hx
      obtain ⟨x1, y1, hx1, hy1, rfl⟩ := hx
      obtain ⟨u1, hu1, ru1⟩ := ru2.get hx1
      obtain ⟨w1, hw1, rw1⟩ := rw2.get hy1
      refine ⟨⟨us2, ws2, u1, w1, hK ▸ hu2, hK ▸ hw2, hu1, hw1⟩, fun v H3 ⟨T, x', y', e3, hT, e4, g1, g2⟩ => ?_⟩
      have q1 := g1 us2 (hK ▸ hu2)
      have q2 := g2 ws2 (hK ▸ hw2)
      rw [hu1] at q1
      rw [hw1] at q2
      cases q1; cases q2
      subst e3 e4
      obtain ⟨ev, s3⟩ := s2.newI hT (.tup [u1, w1])
      exact ⟨ev, s3, T, [u1, w1], rfl, .inl ⟨s2.im hT, upd_same⟩, u1, [w1], rfl, ev.rp ru1, w1, [], rfl, ev.rp rw1, rfl⟩⟩
end
end Dn
set_option Elab.async false
set_option linter.all false
set_option maxRecDepth 100000
set_option maxHeartbeats 4000000
/-! Dn7: list comprehensions. -/
namespace Dn
open PySem PySem.Spec PyProof.Rows L2

/-- a comprehension's target: a name, a tuple of names, by their slots -/
inductive LT where
  | one (i : Nat) | tup (is : List Nat)
def LT.slots : LT → List Nat
  | .one i => [i]
  | .tup is => is
def gNs : List Nat → TGs
  | [] => gNil
  | i :: is => gCons (gName i) (gNs is)
def gT (K : PySem.W.Frag) : LT → TG
  | .one i => gName i
  | .tup is => gTup K is.length (gNs is)
def setAll : List Nat → Sd → List D → Sd
  | i :: is, sd, d :: ds => setAll is (sd.set i (some d)) ds
  | _, sd, _ => sd
def setT (lt : LT) (sd : Sd) (d : D) : Option Sd :=
  match lt, d with
  | .one i, d => some (sd.set i (some d))
  | .tup is, .tup ds => if ds.length = is.length then some (setAll is sd ds) else none
  | .tup _, _ => none
def wipeD (sd : Sd) : List Nat → Sd
  | [] => sd
  | v :: vs => (wipeD sd vs).set v none
def noX : ED := fun _ _ _ => False
def W0 : WX := fun _ _ _ _ => False
def tYesD : TDt := fun _ M Q _ => Q true M
def dLc (m : Bool) (ti : TDi) (lt : LT) (tt : TDt) (te : TDe) (vs : List Nat) : TDe := fun sd M Q E => ti sd M (fun xs St M1 => xs.length < sizeLine ∧ ∃ P : Nat → List D → Mem → Prop, P 0 [] M1 ∧
  (∀ i acc M', i ≤ xs.length → P i acc M' → St M') ∧
  (∀ i x acc M', xs[i]? = some x → P i acc M' → ∃ sd2, setT lt (wipeD sd vs) x = some sd2 ∧ tt sd2 M' (fun b M3 => if b = true then te sd2 M3 (fun y M4 => P (i + 1) (acc ++ [y]) M4) noX else P (i + 1) acc M3) noX) ∧
  ∀ acc M', P xs.length acc M' → newL m acc M' Q) E

section
theorem wipe_set {σ : L2.St} {i : Nat} {x : Option V} : ∀ {vs : List Nat}, i ∈ vs → wipe (σ.set i x) vs = wipe σ vs
  | v :: vs, h => by
    show (wipe (σ.set i x) vs).set v none = (wipe σ vs).set v none
    by_cases hv : i ∈ vs
    · rw [wipe_set hv]
    · have e : v = i := by
        rcases List.mem_cons.mp h with e | h
        · exact e.symm
        · exact absurd h hv
      subst e
      apply List.ext_getElem?
      intro j
      by_cases hj : v = j
      · subst hj
        rw [List.getElem?_set, List.getElem?_set, wipe_length, wipe_length, List.length_set, if_pos rfl, if_pos rfl]
      · rw [List.getElem?_set_ne hj, List.getElem?_set_ne hj]
        by_cases hm : j ∈ vs
        · clear h hv
          induction vs with
          | nil => cases hm
          | cons u us ih =>
            show ((wipe (σ.set v x) us).set u none)[j]? = ((wipe σ us).set u none)[j]?
            rw [List.getElem?_set, List.getElem?_set, wipe_length, wipe_length, List.length_set]
            split
            · rfl
            · rename_i hu
              exact ih ((List.mem_cons.mp hm).resolve_left fun z => hu z.symm)
        · rw [wipe_out hm, wipe_out hm, List.getElem?_set_ne hj]
theorem wipe_idem {σ : L2.St} : ∀ {vs : List Nat}, wipe (wipe σ vs) vs = wipe σ vs
  | [] => rfl
  | v :: vs => by
    show (wipe ((wipe σ vs).set v none) vs).set v none = (wipe σ vs).set v none
    by_cases hv : v ∈ vs
    · rw [wipe_set hv, wipe_idem]
    · apply List.ext_getElem?
      intro j
      by_cases hj : v = j
      · subst hj
        rw [List.getElem?_set, List.getElem?_set, wipe_length, wipe_length, List.length_set, wipe_length, if_pos rfl, if_pos rfl]
      · rw [List.getElem?_set_ne hj, List.getElem?_set_ne hj]
        have e : wipe (wipe σ vs) vs = wipe σ vs := wipe_idem
        by_cases hm : j ∈ vs
        · have a1 : ∀ (τ : L2.St), (wipe (τ.set v none) vs)[j]? = (wipe τ vs)[j]? := fun τ => by
            clear e hv
            induction vs with
            | nil => cases hm
            | cons u us ih =>
              show ((wipe (τ.set v none) us).set u none)[j]? = ((wipe τ us).set u none)[j]?
              rw [List.getElem?_set, List.getElem?_set, wipe_length, wipe_length, List.length_set]
              split
              · rfl
              · rename_i hu
                exact ih ((List.mem_cons.mp hm).resolve_left fun z => hu z.symm)
          rw [a1, e]
        · rw [wipe_out hm, List.getElem?_set_ne hj]
variable {B : Bs} {Z : List Addr} {H H' : Hp} {M M' : Mem}
theorem Sls.wipe {sd : Sd} {σ : L2.St} (l : Sls B Z H M sd σ) : ∀ vs : List Nat, Sls B Z H M (wipeD sd vs) (L2.wipe σ vs)
  | [] => l
  | v :: vs => by
    have ih := l.wipe vs
    refine ⟨by show ((wipeD sd vs).set v none).length = ((L2.wipe σ vs).set v none).length; rw [List.length_set, List.length_set, ih.len], fun j d h => ?_⟩
    have h' : ((wipeD sd vs).set v none)[j]? = some (some d) := h
    by_cases hj : v = j
    · subst hj
      rw [List.getElem?_set] at h'
      split at h'
      · split at h'
        · cases h'
        · cases h'
      · rename_i hn; exact absurd rfl hn
    · rw [List.getElem?_set_ne hj] at h'
      obtain ⟨u, h1, h2⟩ := ih.at_ j d h'
      exact ⟨u, by show ((L2.wipe σ vs).set v none)[j]? = _; rw [List.getElem?_set_ne hj]; exact h1, h2⟩
theorem gNs_ok {vs : List Nat} {σ0 : L2.St} {R : L2.St → Hp → Prop} : ∀ {is : List Nat} {sd : Sd} {σ : L2.St} {ds : List D} {us : List V}, ds.length = is.length → (∀ i ∈ is, i ∈ vs) → rpl B Z H M ds us → Sls B Z H M sd σ → wipe σ vs = σ0 →
    (∀ σ2, Sls B Z H M (setAll is sd ds) σ2 → wipe σ2 vs = σ0 → R σ2 H) → gNs is us σ H R
  | [], sd, σ, [], us, _, _, r, l, w, k => by
    cases r
    exact ⟨rfl, k σ l w⟩
  | i :: is, sd, σ, d :: ds, us, hl, hi, ⟨u, ws, e, r1, r2⟩, l, w, k => by
    subst e
    refine ⟨u, ws, rfl, ?_⟩
    exact gNs_ok (is := is) (sd := sd.set i (some d)) (ds := ds) (by simpa using hl) (fun j hj => hi j (List.mem_cons_of_mem _ hj)) r2 (l.set i r1) (by rw [wipe_set (hi i List.mem_cons_self)]; exact w) k
theorem gT_ok {K : PySem.W.Frag} (hK : K = B.K) {vs : List Nat} {lt : LT} {sd sd2 : Sd} {σ : L2.St} {d : D} {v : V} {R : L2.St → Hp → Prop} (hi : ∀ i ∈ lt.slots, i ∈ vs) (r : rp B Z H M d v) (l : Sls B Z H M sd σ) (h : setT lt (wipeD sd vs) d = some sd2)
    (k : ∀ σ2, Sls B Z H M sd2 σ2 → wipe σ2 vs = wipe σ vs → R σ2 H) : gT K lt v (wipe σ vs) H R := by
  cases lt with
  | one i =>
    have e : some ((wipeD sd vs).set i (some d)) = some sd2 := h
    cases e
    exact k _ ((l.wipe vs).set i r) (by rw [wipe_set (hi i (List.mem_singleton.mpr rfl)), wipe_idem])
  | tup is =>
    cases d with
    | tup ds =>
      unfold setT at h
      dsimp only at h
      split at h
      · rename_i hl
        cases h
        obtain ⟨a, us, rfl, h1, r1⟩ := tup_at r
        exact ⟨a, us, rfl, hK ▸ h1, by rw [← r1.length]; exact hl, gNs_ok hl hi r1 (l.wipe vs) wipe_idem k⟩
      · cases h
    | _ => cases h
/-- an address stands apart no more -/
theorem Sim.unZ {a : Addr} (s : Sim B (a :: Z) H M) : Sim B Z H M := ⟨fun b o h => ⟨fun z => (s.ob b o h).1 (List.mem_cons_of_mem _ z), by
    have q := (s.ob b o h).2
    have m : ∀ c o, Im (a :: Z) M c → H c = some o → Im Z M c ∧ H c = some o := fun c o i h => ⟨⟨i.1, fun z => i.2 (List.mem_cons_of_mem _ z)⟩, h⟩
    cases o with
    | lst ds => obtain ⟨vs, h1, h2⟩ := q; exact ⟨vs, h1, RpL.mono m h2⟩
    | dic kvs => obtain ⟨vs, h1, h2⟩ := q; exact ⟨vs, h1, h2.mono fun _ _ z => Rp.mono m z⟩
    | ins c fs => obtain ⟨dx, vs, h1, h2⟩ := q; exact ⟨dx, vs, h1, RpF.mono m h2⟩⟩, fun b hb => s.zs b (List.mem_cons_of_mem _ hb)⟩
theorem rpl_unZ {a : Addr} {ds : List D} {vs : List V} (h : rpl B (a :: Z) H M ds vs) : rpl B Z H M ds vs := RpL.mono (fun c o i h => ⟨⟨i.1, fun z => i.2 (List.mem_cons_of_mem _ z)⟩, h⟩) h
/-- an address of one's own stands apart from now on -/
theorem Sim.inZ {a : Addr} {o : HO} (s : Sim B Z H M) (h : H a = none) : Sim B (a :: Z) (upd H a o) M ∧ Evo2 Z H M (a :: Z) (upd H a o) M := by
  have k : ∀ b u, H b = some u → upd H a o b = some u := fun b u e => by rw [upd_ne (ne_of_none e h)]; exact e
  have m : ∀ c o', Im Z M c → H c = some o' → Im (a :: Z) M c ∧ upd H a o c = some o' := fun c o' i e => ⟨⟨i.1, fun z => by
    rcases List.mem_cons.mp z with z | z
    · subst z; rw [h] at e; cases e
    · exact i.2 z⟩, k c o' e⟩
  refine ⟨⟨fun b o' e => ?_, fun b hb => ?_⟩, ⟨fun c o' e i => m c o' i e⟩⟩
  · obtain ⟨h1, h2⟩ := s.ob b o' e
    refine ⟨fun z => ?_, ?_⟩
    · rcases List.mem_cons.mp z with z | z
      · subst z
        rw [s.free h] at e; cases e
      · exact h1 z
    · cases o' with
      | lst ds => obtain ⟨vs, h1, h2⟩ := h2; exact ⟨vs, k _ _ h1, RpL.mono m h2⟩
      | dic kvs => obtain ⟨vs, h1, h2⟩ := h2; exact ⟨vs, k _ _ h1, h2.mono fun _ _ z => Rp.mono m z⟩
      | ins c fs => obtain ⟨dx, vs, h1, h2⟩ := h2; exact ⟨dx, vs, k _ _ h1, RpF.mono m h2⟩
  · rcases List.mem_cons.mp hb with z | z
    · subst z; exact ⟨o, upd_same⟩
    · obtain ⟨u, e⟩ := s.zs b z; exact ⟨u, k b u e⟩
theorem Evo2.then {Z2 : List Addr} {H2 : Hp} {M2 : Mem} (e : Evo2 Z H M Z2 H' M') (f : Evo Z2 H' M' H2 M2) : Evo2 Z H M Z2 H2 M2 := ⟨fun a o h i => by
  obtain ⟨i2, h2⟩ := e.im a o h i
  obtain ⟨h3, h4⟩ := f.im a o h2 i2
  exact ⟨⟨h3, i2.2⟩, h4⟩⟩
theorem Sls.two {Z2 : List Addr} {sd : Sd} {σ : L2.St} (l : Sls B Z H M sd σ) (e : Evo2 Z H M Z2 H' M') : Sls B Z2 H' M' sd σ := ⟨l.len, fun i d q => by obtain ⟨v, h1, h2⟩ := l.at_ i d q; exact ⟨v, h1, e.rp h2⟩⟩
/-- what stands apart is written by its owner -/
theorem Sim.wrZ {a : Addr} {o0 o : HO} (s : Sim B (a :: Z) H M) (h : H a = some o0) : Sim B (a :: Z) (upd H a o) M ∧ ∀ {ds : List D} {vs : List V}, rpl B (a :: Z) H M ds vs → rpl B (a :: Z) (upd H a o) M ds vs := by
  have m : ∀ c o', Im (a :: Z) M c → H c = some o' → Im (a :: Z) M c ∧ upd H a o c = some o' := fun c o' i e => ⟨i, by
    rw [upd_ne (fun z => i.2 (by rw [z]; exact List.mem_cons_self))]; exact e⟩
  refine ⟨⟨fun b o' e => ?_, fun b hb => ?_⟩, fun h => RpL.mono m h⟩
  · obtain ⟨h1, h2⟩ := s.ob b o' e
    have hb : b ≠ a := fun z => h1 (by rw [z]; exact List.mem_cons_self)
    refine ⟨h1, ?_⟩
    cases o' with
    | lst ds => obtain ⟨vs, h1, h2⟩ := h2; exact ⟨vs, by rw [upd_ne hb]; exact h1, RpL.mono m h2⟩
    | dic kvs => obtain ⟨vs, h1, h2⟩ := h2; exact ⟨vs, by rw [upd_ne hb]; exact h1, h2.mono fun _ _ z => Rp.mono m z⟩
    | ins c fs => obtain ⟨dx, vs, h1, h2⟩ := h2; exact ⟨dx, vs, by rw [upd_ne hb]; exact h1, RpF.mono m h2⟩
  · by_cases hba : b = a
    · subst hba; exact ⟨o, upd_same⟩
    · obtain ⟨u, e⟩ := s.zs b hb; exact ⟨u, by rw [upd_ne hba]; exact e⟩
theorem noXLk {W : WX} {σ : L2.St} : XLk B Z H M W σ noX := fun _ _ _ _ _ _ _ _ _ _ z => z.elim
end
section
variable {X : Cx} {B : Bs} {W : WX}
theorem lf_lc {K : PySem.W.Frag} (hK : K = B.K) {m : Bool} {ti : TDi} {lt : LT} {tt : TDt} {te : TDe} {vs : List Nat} (hi : ∀ i ∈ lt.slots, i ∈ vs) : ∀ σ H Q, lfE B W (dLc m ti lt tt te vs) σ H Q → tLc (lfI B W ti) (gT K lt) (lfT B W0 tt) (lfE B W0 te) vs σ H Q := by
  rintro σ H Q ⟨Z, M, sd, Qd, E, s, l, h, x, q⟩
  refine ⟨Z, M, sd, _, E, s, l, h, x, ?_⟩
  rintro J H1 xs St M1 e1 s1 it ⟨hsz, P, p0, hst, hs, hd⟩ Dl hD
  obtain ⟨sz, ez⟩ := s1.inZ (o := .lst []) hD
  refine ⟨fun i mm H' => ∃ acc vacc M', Evo2 Z H1 M1 (Dl :: Z) H' M' ∧ (∀ a o, a ∈ Z → H1 a = some o → H' a = some o) ∧ Sim B (Dl :: Z) H' M' ∧ H' Dl = some (.lst vacc) ∧ rpl B (Dl :: Z) H' M' acc vacc ∧ P i acc M' ∧ i ≤ xs.length ∧ mm = xs.length - i ∧ acc.length ≤ i,
    ⟨xs.length, [], [], M1, ez, fun a o hz e => by rw [upd_ne (ne_of_none e hD)]; exact e, sz, upd_same, rfl, p0, Nat.zero_le _, rfl, Nat.zero_le _⟩, ?_⟩
  rintro i mm H2 ⟨acc, vacc, M2, e2, z2, s2, d2, r2, p2, hil, rfl, hal⟩
  have st2 := hst i acc M2 hil p2
  obtain ⟨it1, it2⟩ := it (Dl :: Z) i H2 M2 e2 s2 st2
  by_cases hlt : i < xs.length
  · obtain ⟨go, yl⟩ := it2 xs[i] (List.getElem?_eq_getElem hlt)
    refine .inr ⟨go, fun H' => ∃ acc vacc M', Evo2 Z H1 M1 (Dl :: Z) H' M' ∧ (∀ a o, a ∈ Z → H1 a = some o → H' a = some o) ∧ Sim B (Dl :: Z) H' M' ∧ H' Dl = some (.lst vacc) ∧ rpl B (Dl :: Z) H' M' acc vacc ∧ P (i + 1) acc M' ∧ acc.length ≤ i + 1,
      fun H' ⟨acc, vacc, M', a1, a2, a3, a4, a5, a6, a7⟩ => ⟨xs.length - (i + 1), by omega, acc, vacc, M', a1, a2, a3, a4, a5, a6, hlt, rfl, a7⟩, fun v H3 y => ?_⟩
    obtain ⟨e3, s3, r3⟩ := yl v H3 y
    obtain ⟨sd2, hsd, h3⟩ := hs i xs[i] acc M2 (List.getElem?_eq_getElem hlt) p2
    have l3 : Sls B (Dl :: Z) H3 M2 sd σ := (l.mono e1).two (e2.then e3)
    refine gT_ok hK hi r3 l3 hsd fun σ2 l4 w4 => ⟨w4, ?_⟩
    refine lfT_go s3 l4 noXLk h3 fun b H4 M4 e4 s4 h4 => ?_
    have e24 := (e2.then e3).then e4
    have z4 : ∀ a o, a ∈ Z → H1 a = some o → H4 a = some o := fun a o hz e => e4.zs a o (List.mem_cons_of_mem _ hz) (e3.zs a o (List.mem_cons_of_mem _ hz) (z2 a o hz e))
    have d4 : H4 Dl = some (.lst vacc) := e4.zs Dl _ List.mem_cons_self (e3.zs Dl _ List.mem_cons_self d2)
    have r4 : rpl B (Dl :: Z) H4 M4 acc vacc := e4.rpl (e3.rpl r2)
    cases b with
    | true =>
      rw [if_pos rfl] at h4 ⊢
      refine lfE_go s4 (l4.mono e4) noXLk h4 fun y H5 yd M5 e5 s5 r5 h5 => ?_
      have d5 : H5 Dl = some (.lst vacc) := e5.zs Dl _ List.mem_cons_self d4
      have r5' : rpl B (Dl :: Z) H5 M5 acc vacc := e5.rpl r4
      refine ⟨vacc, d5, by rw [← r5'.length]; omega, ?_⟩
      obtain ⟨s6, m6⟩ := s5.wrZ (o := .lst (vacc ++ [y])) d5
      refine ⟨acc ++ [yd], vacc ++ [y], M5, ⟨fun a o h i => ?_⟩, fun a o hz e => ?_, s6, upd_same, m6 (r5'.append ⟨y, [], rfl, r5, rfl⟩), h5, by simp; omega⟩
      · obtain ⟨i5, h5'⟩ := (e24.then e5).im a o h i
        exact ⟨i5, by rw [upd_ne (ne_of_none h hD)]; exact h5'⟩
      · rw [upd_ne (ne_of_none e hD)]
        exact e5.zs a o (List.mem_cons_of_mem _ hz) (z4 a o hz e)
    | false =>
      rw [if_neg Bool.false_ne_true] at h4 ⊢
      exact ⟨acc, vacc, M4, e24, z4, s4, d4, r4, h4, by omega⟩
  · have e : i = xs.length := by omega
    subst e
    refine .inl ⟨it1 (Nat.le_refl _), ?_⟩
    have hf := hd acc M2 p2
    have mD : M2 Dl = none := by
      cases hm : M2 Dl with
      | none => rfl
      | some o => exact absurd List.mem_cons_self (s2.ob Dl o hm).1
    have nZ : Dl ∉ Z := s1.freeZ hD
    have ev : Evo Z H1 M1 H2 M2 := ⟨fun a o h i => ⟨(e2.im a o h i).1.1, (e2.im a o h i).2⟩, fun a o hz h => z2 a o hz h⟩
    cases m with
    | false => exact q (.ref Dl) H2 (.lst acc) M2 (e1.trans ev) s2.unZ ⟨Dl, vacc, rfl, ⟨mD, nZ⟩, d2, rpl_unZ r2⟩ hf
    | true =>
      have mm : ∀ c o', Im (Dl :: Z) M2 c → H2 c = some o' → Im Z (upm M2 Dl (.lst acc)) c ∧ H2 c = some o' := fun c o' i e => ⟨⟨by
        rw [upm_ne (fun z => i.2 (by rw [z]; exact List.mem_cons_self))]; exact i.1, fun z => i.2 (List.mem_cons_of_mem _ z)⟩, e⟩
      refine q (.ref Dl) H2 (.ref Dl) (upm M2 Dl (.lst acc)) (e1.trans ⟨fun a o h i => ⟨?_, (ev.im a o h i).2⟩, ev.zs⟩) ⟨fun b o h => ?_, s2.unZ.zs⟩ rfl (hf Dl mD)
      · rw [upm_ne (ne_of_none h hD)]
        exact (ev.im a o h i).1
      · by_cases hb : b = Dl
        · subst hb
          rw [upm_same] at h; cases h
          exact ⟨nZ, vacc, d2, RpL.mono mm r2⟩
        · rw [upm_ne hb] at h
          obtain ⟨h1, h2⟩ := s2.ob b o h
          refine ⟨fun z => h1 (List.mem_cons_of_mem _ z), ?_⟩
          cases o with
          | lst ds => obtain ⟨vs, h1, h2⟩ := h2; exact ⟨vs, h1, RpL.mono mm h2⟩
          | dic kvs => obtain ⟨vs, h1, h2⟩ := h2; exact ⟨vs, h1, h2.mono fun _ _ z => Rp.mono mm z⟩
          | ins c fs => obtain ⟨dx, vs, h1, h2⟩ := h2; exact ⟨dx, vs, h1, RpF.mono mm h2⟩
theorem qp_nil : PTs X [] (lfT B W tYesD) := ⟨fun pins s σ H Q I ⟨Z, M, sd, Qd, E, s', l, h, x, q⟩ => pts_nil.run pins s σ H Q I (q true H M Evo.refl s' h)⟩
theorem qp_one {c : Expr} {t : TDt} (h : PT X c (lfT B W t)) : PTs X [c] (lfT B W t) := pts_one h
theorem qe_lc {elt tg iter : Expr} {ifs : List Expr} {scope : Scope} {own : List (Str × Nat)} {pos : Pos} {m : Bool} {ti : TDi} {lt : LT} {tt : TDt} {te : TDe} (hK : X.K = B.K) (hc : X.calm = true) (hN : X.N.Nodup) (hi : PI X tg iter (lfI B W ti)) (ok : BlkOk X.N X.env.scope scope own) (hl : ∀ i ∈ lt.slots, i ∈ own.map (·.2))
    (hg : ∀ (s : Shared) (H : Hp) (C : Addr) (cl : List (Str × Addr)) (fp : List Addr), PG (X.blk s H scope (compEnvC scope cl C X.env) fp) tg (gT X.K lt)) (ht : ∀ (s : Shared) (H : Hp) (C : Addr) (cl : List (Str × Addr)) (fp : List Addr), PTs (X.blk s H scope (compEnvC scope cl C X.env) fp) ifs (lfT B W0 tt))
    (he : ∀ (s : Shared) (H : Hp) (C : Addr) (cl : List (Str × Addr)) (fp : List Addr), PE (X.blk s H scope (compEnvC scope cl C X.env) fp) elt (lfE B W0 te)) (hs : ∀ x, foldedSetIterable iter X.env x = pure x := by intro _; rfl) :
    PE X (.ListComp elt [⟨tg, iter, ifs, 0⟩] scope pos) (lfE B W (dLc m ti lt tt te (own.map (·.2)))) := PEimp (pe_lc hc hN hi ok hg ht he hs) (lf_lc hK hl)
theorem qs_setLc {i : Nat} {y : Str} {py : Pos} {elt tg iter : Expr} {ifs : List Expr} {scope : Scope} {own : List (Str × Nat)} {pos spos : Pos} {m : Bool} {ti : TDi} {lt : LT} {tt : TDt} {te : TDe} (hK : X.K = B.K) (hc : X.calm = true) (hN : X.N.Nodup) (hy : X.N[i]? = some y) (hyl : X.env.scope.names.lookup y = some .local)
    (hsw : swapsWith (.ListComp elt [⟨tg, iter, ifs, 0⟩] scope pos) (some (.Name y py)) spos.line X.env = pure true) (hi : PI X tg iter (lfI B W ti)) (ok : BlkOk X.N X.env.scope scope own) (hl : ∀ i ∈ lt.slots, i ∈ own.map (·.2))
    (hg : ∀ (s : Shared) (H : Hp) (C : Addr) (cl : List (Str × Addr)) (fp : List Addr), PG (X.blk s H scope (compEnvC scope cl C X.env) fp) tg (gT X.K lt)) (ht : ∀ (s : Shared) (H : Hp) (C : Addr) (cl : List (Str × Addr)) (fp : List Addr), PTs (X.blk s H scope (compEnvC scope cl C X.env) fp) ifs (lfT B W0 tt))
    (he : ∀ (s : Shared) (H : Hp) (C : Addr) (cl : List (Str × Addr)) (fp : List Addr), PE (X.blk s H scope (compEnvC scope cl C X.env) fp) elt (lfE B W0 te)) (hs : ∀ x, foldedSetIterable iter X.env x = pure x := by intro _; rfl) :
    PS X (.Assign [.Name y py] (.ListComp elt [⟨tg, iter, ifs, 0⟩] scope pos) spos) (lfS B W (dAsg (dLc m ti lt tt te (own.map (·.2))) (dgName i))) :=
  PSimp (ps_setLc hc hN hy hyl hsw hi ok hg ht he hs) fun D σ H ⟨Z, M, sd, Dd, s, l, h, q⟩ => lf_lc hK hl σ H _ (lfE_go s l (q.x l) h fun v H1 d M1 e1 s1 r1 h1 => q.nx _ _ _ _ e1 s1 ((l.mono e1).set i r1) h1)
end
end Dn
set_option Elab.async false
set_option linter.all false
set_option maxRecDepth 100000
set_option maxHeartbeats 4000000
/-! Dn8: defs, their promises over data, calls. -/
namespace Dn
open PySem PySem.Spec PyProof.Rows L2

/-- a def's promise over data: arguments, memory, what follows, what is raised -/
abbrev SpD := List D → Mem → KD → ED → Prop
def ELk (B : Bs) (Z : List Addr) (H : Hp) (M : Mem) (E : XK) (Ed : ED) : Prop :=
  ∀ c p dx v H' M', Evo Z H M H' M' → Sim B Z H' M' → H' dx = some (.xd [("place", v)]) → rp B Z H' M' p v → Ed c p M' → E (.ref (B.xad c)) (some dx) H'
def lift (B : Bs) (spd : SpD) : Sp := fun vs H Q E => ∃ Z ds M Qd Ed, Sim B Z H M ∧ rpl B Z H M ds vs ∧ spd ds M Qd Ed ∧ VLk B Z H M Qd Q ∧ ELk B Z H M E Ed
/-- from here on d stands for it, and less may change -/
def Frz (d : D) (M : Mem) (d' : D) (M' : Mem) : Prop := ∀ B Z H v, Sim B Z H M → rp B Z H M d v → Evo Z H M H M' ∧ Sim B Z H M' ∧ rp B Z H M' d' v
def FQ (Q : KD) : KD := fun d M => ∃ d' M', Frz d M d' M' ∧ Q d' M'
theorem frz_refl {d : D} {M : Mem} : Frz d M d M := fun B Z H v s r => ⟨Evo.refl, s, r⟩
theorem FQ.of {Q : KD} {d : D} {M : Mem} (h : Q d M) : FQ Q d M := ⟨d, M, frz_refl, h⟩
theorem Frz.trans {d d1 d2 : D} {M M1 M2 : Mem} (a : Frz d M d1 M1) (b : Frz d1 M1 d2 M2) : Frz d M d2 M2 := fun B Z H v s r => by
  obtain ⟨e1, s1, r1⟩ := a B Z H v s r
  obtain ⟨e2, s2, r2⟩ := b B Z H v s1 r1
  exact ⟨e1.trans e2, s2, r2⟩
theorem frz_less {d : D} {M M' : Mem} (h : ∀ a o, M' a = some o → M a = some o) : Frz d M d M' := fun B Z H v s r => by
  obtain ⟨ev, s'⟩ := s.less h
  exact ⟨ev, s', ev.rp r⟩
theorem dlm_less {M : Mem} {p : Addr} : ∀ a o, dlm M p a = some o → M a = some o := fun a o h => by
  unfold dlm at h; split at h
  · cases h
  · exact h
theorem frz_lst {M : Mem} {p : Addr} {ds : List D} (h : M p = some (.lst ds)) : Frz (.ref p) M (.lst ds) (dlm M p) := fun B Z H v s r => by
  obtain ⟨ev, s'⟩ := s.less (dlm_less (p := p))
  cases r
  obtain ⟨nz, vs, h1, h2⟩ := s.ob p _ h
  exact ⟨ev, s', p, vs, rfl, ⟨dlm_same, nz⟩, h1, ev.rpl h2⟩
theorem frz_ins {M : Mem} {p : Addr} {c : CN} {fs : List (Str × D)} (h : M p = some (.ins c fs)) : Frz (.ref p) M (.ins c fs) (dlm M p) := fun B Z H v s r => by
  obtain ⟨ev, s'⟩ := s.less (dlm_less (p := p))
  cases r
  obtain ⟨nz, dx, vs, h1, h2⟩ := s.ob p _ h
  exact ⟨ev, s', p, dx, vs, rfl, ⟨dlm_same, nz⟩, h1, ev.rpf h2⟩
theorem FQ.lst {Q : KD} {M : Mem} {p : Addr} {ds : List D} (h : M p = some (.lst ds)) (q : Q (.lst ds) (dlm M p)) : FQ Q (.ref p) M := ⟨_, _, frz_lst h, q⟩
theorem FQ.new {Q : KD} {M : Mem} {p : Addr} {ds : List D} (h : M p = none) (q : Q (.lst ds) M) : FQ Q (.ref p) (upm M p (.lst ds)) := ⟨_, _, frz_lst upm_same, by rw [dlm_upm h]; exact q⟩

def dCall (spd : SpD) (dds : List D) (ta : TDa) : TDe := fun sd M Q E => ta sd M (fun ds M1 => spd (ds ++ dds) M1 Q E) E
def dMeth (c : CN) (m : Str) (spd : SpD) (dds : List D) (to : TDe) (ta : TDa) : TDe := fun sd M Q E => to sd M (fun o M1 => ∃ fs, insO M1 o = some (c, fs) ∧ fs.lookup m = none ∧ ta sd M1 (fun ds M2 => spd (o :: (ds ++ dds)) M2 Q E) E) E
/-- C(..): made, then __init__; fr: the instance never changes from then on -/
def dMake (fr : Bool) (c : CN) (spd : SpD) (dds : List D) (ta : TDa) : TDe := fun sd M Q E => ta sd M (fun ds M1 => ∀ x, M1 x = none →
  spd (.ref x :: (ds ++ dds)) (upm M1 x (.ins c [])) (fun d M2 => d = .non ∧ match fr with
    | false => Q (.ref x) M2
    | true => ∃ fs, M2 x = some (.ins c fs) ∧ Q (.ins c fs) (dlm M2 x)) noX) E

section
variable (P : Program) (w : World) (K : PySem.W.Frag) (mg : Str → Option Value) (base : Heap) (B : Bs)
/-- a def of the module keeps its promise; dds: the defaults that fill up -/
structure FnD (k : Nat) (x : Str) (spd : SpD) (dds : List D) : Prop where
  ex : ∃ (f : Addr) (fd : FuncData) (ps : List Str) (ds : List Value) (dvs : List V), FnOk P w K mg base (L2.CX P w) k f fd ps (lift B spd) ∧ mg x = some (.ref f) ∧ PySem.W.keepIn K (.ref f) = true ∧ Binds K fd ps ds ∧ Vals dvs ds ∧ ∀ Z H M, rpl B Z H M dds dvs
structure MetD (k : Nat) (c : CN) (m : Str) (spd : SpD) (dds : List D) : Prop where
  ex : ∃ (f : Addr) (fd : FuncData) (ps : List Str) (ds : List Value) (dvs : List V), Cls K (B.adr c) ∧ Meth K (B.adr c) m f ∧ FnOk P w K mg base (L2.CX P w) k f fd ps (lift B spd) ∧ Binds K fd ps ds ∧ Vals dvs ds ∧ ∀ Z H M, rpl B Z H M dds dvs
structure MakD (k : Nat) (x : Str) (c : CN) (spd : SpD) (dds : List D) : Prop where
  ex : ∃ (f : Addr) (fd : FuncData) (ps : List Str) (ds : List Value) (dvs : List V), Mk K (B.adr c) f ∧ FnOk P w K mg base (L2.CX P w) k f fd ps (lift B spd) ∧ mg x = some (.ref (B.adr c)) ∧ Binds K fd ps ds ∧ Vals dvs ds ∧ ∀ Z H M, rpl B Z H M dds dvs
end
section
variable {P : Program} {w : World} {K : PySem.W.Frag} {mg : Str → Option Value} {base : Heap} {B : Bs}
theorem FnD.mono {j k : Nat} {x : Str} {spd : SpD} {dds : List D} (F : FnD P w K mg base B j x spd dds) (h : j ≤ k) : FnD P w K mg base B k x spd dds := by
  obtain ⟨f, fd, ps, ds, dvs, h1, h2⟩ := F.ex
  exact ⟨f, fd, ps, ds, dvs, h1.mono h, h2⟩
theorem MetD.mono {j k : Nat} {c : CN} {x : Str} {spd : SpD} {dds : List D} (F : MetD P w K mg base B j c x spd dds) (h : j ≤ k) : MetD P w K mg base B k c x spd dds := by
  obtain ⟨f, fd, ps, ds, dvs, h0, h0', h1, h2⟩ := F.ex
  exact ⟨f, fd, ps, ds, dvs, h0, h0', h1.mono h, h2⟩
theorem MakD.mono {j k : Nat} {c : CN} {x : Str} {spd : SpD} {dds : List D} (F : MakD P w K mg base B j x c spd dds) (h : j ≤ k) : MakD P w K mg base B k x c spd dds := by
  obtain ⟨f, fd, ps, ds, dvs, h0, h1, h2⟩ := F.ex
  exact ⟨f, fd, ps, ds, dvs, h0, h1.mono h, h2⟩
end

section
variable {X : Cx} {B : Bs} {W : WX} {e o : Expr} {es : List Expr} {to te : TDe} {ta : TDa} {pos p apos : Pos} {x m : Str} {k : Nat} {spd : SpD} {dds : List D} {c : CN}
theorem rpl_cons {Z : List Addr} {H : Hp} {M : Mem} {d : D} {v : V} {ds : List D} {vs : List V} (r : rp B Z H M d v) (t : rpl B Z H M ds vs) : rpl B Z H M (d :: ds) (v :: vs) := ⟨v, vs, rfl, r, t⟩
theorem rpl_nil {Z : List Addr} {H : Hp} {M : Mem} : rpl B Z H M [] [] := rfl
theorem XLk.el {Z : List Addr} {H : Hp} {M : Mem} {σ : L2.St} {E : ED} (h : XLk B Z H M W σ E) : ELk B Z H M (WE W σ) E := h
theorem lift_len {n : Nat} {spd : SpD} (len : ∀ ds M Q E, spd ds M Q E → ds.length = n) : ∀ vs H Q E, lift B spd vs H Q E → vs.length = n := by
  rintro vs H Q E ⟨Z, ds, M, Qd, Ed, s, r, h, _⟩
  rw [← r.length]
  exact len _ _ _ _ h
theorem run_sd {pins : List (Addr × Obj)} {σ : L2.St} {H : Hp} {s : Shared} {Q : VK} {us : List Value} {vs : List V} {f : Addr} {fd : FuncData} {ps : List Str} {ds : List Value} {dvs : List V} (tk : Takes X W)
    (F : FnOk X.prog X.w X.K X.mg X.base (L2.CX X.prog X.w) k f fd ps (lift B spd)) (hr : Room k X.A) (hb : Binds X.K fd ps ds) (hd : Vals dvs ds) (I : Inv X pins σ H s) (r : Vals vs us) (h : lift B spd (vs ++ dvs) H Q (WE W σ)) :
    wpAny (model X.prog X.w) X.A (call (.ref f) us) (EP X pins σ Q) X.xe s := run_fnSD (E := WE W) F hr hb hd (passAt tk σ) I r h
theorem qe_call (F : FnD X.prog X.w X.K X.mg X.base B k x spd dds) (hr : Room k X.A) (tk : Takes X W) (hg : Gl X x) (ha : PA X (e :: es) (lfA B W ta))
    (hdb : (x == ("__debug__" : Str)) = false := by decide) (he : starEach (e :: es) X.env = (false, eval e X.env) :: starEach es X.env := by rfl) (hpl : (backTo pos (starEach es X.env)).any (·.1) = false := by rfl) :
    PE X (.Call (.Name x p) (e :: es) [] pos) (lfE B W (dCall spd dds ta)) := by
  obtain ⟨f, fd, ps, ds, dvs, h1, h2, h3, h4, h5, h6⟩ := F.ex
  refine PEimp (pe_callSD (E := WE W) h1 hr hg h2 h3 h4 h5 (fun σ => passAt tk σ) ha hdb he hpl) fun σ H Q ⟨Z, M, sd, Qd, E, s, l, h, x, q⟩ => ?_
  exact ⟨Z, M, sd, _, E, s, l, h, x, fun vs H1 ds M1 e1 s1 r1 h1 => ⟨Z, _, M1, Qd, E, s1, r1.append (h6 _ _ _), h1, q.mono e1, (x.mono e1).el⟩⟩
theorem qe_call0 (F : FnD X.prog X.w X.K X.mg X.base B k x spd dds) (hr : Room k X.A) (tk : Takes X W) (hg : Gl X x) (hdb : (x == ("__debug__" : Str)) = false := by decide) : PE X (.Call (.Name x p) [] [] pos) (lfE B W (dCall spd dds dNil)) := by
  obtain ⟨f, fd, ps, ds, dvs, h1, h2, h3, h4, h5, h6⟩ := F.ex
  refine ⟨fun pins s σ H Q I ⟨Z, M, sd, Qd, E, s', l, h, x, q⟩ => wpAny_Call_Name_kw (ld_glob I hg h2 ?_ hdb)⟩
  exact PySem.W.callWith_K0 I.kIn h3 (run_sd (us := []) (vs := []) tk h1 hr h4 h5 I .nil ⟨Z, _, M, Qd, E, s', h6 _ _ _, h, q, x.el⟩)
theorem qe_meth {pl : Sem Bool} (F : MetD X.prog X.w X.K X.mg X.base B k c m spd dds) (hr : Room k X.A) (tk : Takes X W) (he : PE X o (lfE B W to)) (ha : PA X (e :: es) (lfA B W ta))
    (hst : starEach (e :: es) X.env = (false, eval e X.env) :: starEach es X.env := by rfl) (hpl : (backTo pos (starEach es X.env)).any (·.1) = false := by rfl)
    (ht : eval (.Call (.Attribute o m apos) (e :: es) [] pos) X.env = (do
      let ov ← eval o X.env
      standAt apos.atName
      let (f, first) ← holding [ov] (getMethod ov m pl)
      callWith pos f first (backTo pos (starEach (e :: es) X.env)) (backToKw pos (keywordEach [] X.env))) := by rfl) :
    PE X (.Call (.Attribute o m apos) (e :: es) [] pos) (lfE B W (dMeth c m spd dds to ta)) := by
  obtain ⟨f, fd, ps, ds, dvs, h1, h2, h3, h4, h5, h6⟩ := F.ex
  refine ⟨fun pins s σ H Q I ⟨Z, M, sd, Qd, E, s', l, h, x, q⟩ => methcall_of (pl := pl) he I ?_ ht⟩
  refine lfE_go s' l x h fun v H1 od M1 e1 s1 r1 ⟨fs, hi, hl, h'⟩ => ?_
  have r0 := r1
  obtain ⟨a, dx, us, rfl, ha1, rf⟩ := insO_at s1 r1 hi
  refine ⟨a, _, dx, us, f, rfl, ha1, h1, h2, rf.lookup_none hl, fun s2 I2 => ?_⟩
  refine PySem.W.callWith_K (first := [.ref a]) (h₀ := X.base) I2.ok.mod.kin h2.kp (thn (ha.run pos pins s2 σ H1 (fun vs H2 => lift B spd (.ref a :: (vs ++ dvs)) H2 Q (WE W σ)) I2 ?_) fun ws s3 ⟨vs, H2, I3, rv, hq⟩ => ⟨I3.kIn, ?_⟩) hst hpl
  · exact ⟨Z, M1, sd, _, E, s1, l.mono e1, h', x.mono e1, fun vs H2 ds M2 e2 s2 r2 h2 => ⟨Z, _, M2, Qd, E, s2, rpl_cons (e2.rp r0) (r2.append (h6 _ _ _)), h2, q.mono (e1.trans e2), (x.mono (e1.trans e2)).el⟩⟩
  · exact run_sd (us := .ref a :: ws) (vs := .ref a :: vs) tk h3 hr h4 h5 I3 (.cons rfl rv) hq
theorem qe_meth0 {pl : Sem Bool} (F : MetD X.prog X.w X.K X.mg X.base B k c m spd dds) (hr : Room k X.A) (tk : Takes X W) (he : PE X o (lfE B W to))
    (ht : eval (.Call (.Attribute o m apos) [] [] pos) X.env = (do
      let ov ← eval o X.env
      standAt apos.atName
      let (f, first) ← holding [ov] (getMethod ov m pl)
      callWith pos f first (backTo pos (starEach [] X.env)) (backToKw pos (keywordEach [] X.env))) := by rfl) :
    PE X (.Call (.Attribute o m apos) [] [] pos) (lfE B W (dMeth c m spd dds to dNil)) := by
  obtain ⟨f, fd, ps, ds, dvs, h1, h2, h3, h4, h5, h6⟩ := F.ex
  refine ⟨fun pins s σ H Q I ⟨Z, M, sd, Qd, E, s', l, h, x, q⟩ => methcall_of (pl := pl) he I ?_ ht⟩
  refine lfE_go s' l x h fun v H1 od M1 e1 s1 r1 ⟨fs, hi, hl, h'⟩ => ?_
  have r0 := r1
  obtain ⟨a, dx, us, rfl, ha1, rf⟩ := insO_at s1 r1 hi
  refine ⟨a, _, dx, us, f, rfl, ha1, h1, h2, rf.lookup_none hl, fun s2 I2 => ?_⟩
  exact PySem.W.callWith_K0 (first := [.ref a]) I2.kIn h2.kp (run_sd (us := [.ref a]) (vs := [.ref a]) tk h3 hr h4 h5 I2 (.cons rfl .nil) ⟨Z, _, M1, Qd, E, s1, rpl_cons r0 (h6 _ _ _), h', q.mono e1, (x.mono e1).el⟩)
theorem make_lk {fr : Bool} {Z : List Addr} {H : Hp} {M : Mem} {ds : List D} {vs dvs : List V} {Qd : KD} {Q : VK} (s : Sim B Z H M) (r : rpl B Z H M ds vs) (hd : ∀ Z H M, rpl B Z H M dds dvs) (q : VLk B Z H M Qd Q)
    (h : ∀ x, M x = none → spd (.ref x :: (ds ++ dds)) (upm M x (.ins c [])) (fun d M2 => d = .non ∧ match fr with
      | false => Qd (.ref x) M2
      | true => ∃ fs, M2 x = some (.ins c fs) ∧ Qd (.ins c fs) (dlm M2 x)) noX) : ∀ x dx, H x = none → H dx = none → dx ≠ x →
    lift B spd (.ref x :: (vs ++ dvs)) (upd (upd H dx (.own x)) x (.ins (B.adr c) dx [])) (fun v H2 => v = .non ∧ Q (.ref x) H2) E0 := fun x dx hx hdx nx => by
  obtain ⟨e1, s1⟩ := s.newI hdx (.own x)
  have hx1 : upd H dx (.own x) x = none := by rw [upd_ne (Ne.symm nx)]; exact hx
  obtain ⟨e2, s2⟩ := s1.newM (mo := .ins c []) hx1 (o := .ins (B.adr c) dx []) fun M' _ => ⟨dx, [], upd_same, rfl⟩
  have e12 := e1.trans e2
  refine ⟨Z, _, _, _, _, s2, rpl_cons (d := .ref x) (v := .ref x) rfl ((e12.rpl r).append (hd _ _ _)), h x (s.free hx), fun v H3 d M3 e3 s3 r3 ⟨hd, h3⟩ => ?_, fun _ _ _ _ _ _ _ _ _ _ z => z.elim⟩
  subst hd
  cases r3
  refine ⟨rfl, ?_⟩
  have e13 := e12.trans e3
  cases fr with
  | false => exact q (.ref x) _ (.ref x) _ e13 s3 rfl h3
  | true =>
    obtain ⟨fs, hm, h3⟩ := h3
    obtain ⟨nz, dx', us, ha, rf⟩ := s3.ob x _ hm
    obtain ⟨e4, s4⟩ := s3.less (dlm_less (p := x))
    exact q (.ref x) _ (.ins c fs) _ (e13.trans e4) s4 ⟨x, dx', us, rfl, ⟨dlm_same, nz⟩, ha, e4.rpf rf⟩ h3
theorem qe_make {fr : Bool} (F : MakD X.prog X.w X.K X.mg X.base B k x c spd dds) (hr : Room (k + 1) X.A) (hg : Gl X x) (ha : PA X (e :: es) (lfA B W ta))
    (hdb : (x == ("__debug__" : Str)) = false := by decide) (he : starEach (e :: es) X.env = (false, eval e X.env) :: starEach es X.env := by rfl) (hpl : (backTo pos (starEach es X.env)).any (·.1) = false := by rfl) :
    PE X (.Call (.Name x p) (e :: es) [] pos) (lfE B W (dMake fr c spd dds ta)) := by
  obtain ⟨f, fd, ps, ds, dvs, h1, h2, h3, h4, h5, h6⟩ := F.ex
  refine PEimp (pe_make h1 h2 hr hg h3 h4 h5 passL ha hdb he hpl) fun σ H Q ⟨Z, M, sd, Qd, E, s, l, h, x, q⟩ => ?_
  exact ⟨Z, M, sd, _, E, s, l, h, x, fun vs H1 ds M1 e1 s1 r1 h1 => make_lk s1 r1 h6 (q.mono e1) h1⟩
theorem qe_make0 {fr : Bool} (F : MakD X.prog X.w X.K X.mg X.base B k x c spd dds) (hr : Room (k + 1) X.A) (hg : Gl X x) (hdb : (x == ("__debug__" : Str)) = false := by decide) : PE X (.Call (.Name x p) [] [] pos) (lfE B W (dMake fr c spd dds dNil)) := by
  obtain ⟨f, fd, ps, ds, dvs, h1, h2, h3, h4, h5, h6⟩ := F.ex
  refine PEimp (pe_make0 h1 h2 hr hg h3 h4 h5 passL hdb) fun σ H Q ⟨Z, M, sd, Qd, E, s, l, h, x, q⟩ => ?_
  exact make_lk s rpl_nil h6 q h
/-! ### a def by its body -/
def startD (N : List Str) (ds : List D) : Sd := ds.map some ++ List.replicate (N.length - ds.length) none
theorem start_ok {Z : List Addr} {H : Hp} {M : Mem} {N : List Str} {ds : List D} {vs : List V} (r : rpl B Z H M ds vs) : Sls B Z H M (startD N ds) (L2.start N vs) := by
  refine ⟨by unfold startD L2.start; simp [r.length], fun i d h => ?_⟩
  unfold startD at h
  unfold L2.start
  by_cases hi : i < ds.length
  · rw [List.getElem?_append_left (by simpa using hi), List.getElem?_map] at h
    cases e : ds[i]? with
    | none => rw [e] at h; cases h
    | some d' =>
      rw [e] at h
      cases h
      obtain ⟨v, h1, h2⟩ := r.get e
      refine ⟨v, ?_, h2⟩
      rw [List.getElem?_append_left (by simpa using (by rw [← r.length]; exact hi)), List.getElem?_map, h1]
      rfl
  · rw [List.getElem?_append_right (by simpa using hi), List.getElem?_replicate] at h
    split at h <;> cases h
section
variable {P : Program} {w : World} {K : PySem.W.Frag} {mg : Str → Option Value} {base : Heap}
theorem fn_ok {x qual : Str} {st : Stmt} {f : Addr} {fd : FuncData} {N ps : List Str} {k : Nat} {spd : SpD} {td : TDs} (F : Fun K x qual st f fd) (S : FnScope N ps (defScope st)) (len : ∀ ds M Q E, spd ds M Q E → ds.length = ps.length)
    (hb : ∀ (cdv : Value) (A : Around) (outer : List Env) (s : Shared) (H : Hp) (E : XK), Room k (A.deeper (envOfC qual (defScope st) s.heap.objs.size f cdv)) →
      PSs (cxOf (L2.CX P w) P w K mg base N qual (defScope st) f cdv A outer s H E) (defBody st) (lfS B (fun cls d _ H => E cls d H) td))
    (hd : ∀ ds M Q E, spd ds M Q E → td { nx := fun _ M' => FQ Q .non M', rt := FQ Q, ex := fun c p _ M' => E c p M' } (startD N ds) M) : FnOk P w K mg base (L2.CX P w) (k + 1) f fd ps (lift B spd) := by
  refine F.okX S (lift_len len) fun cdv A outer s H vs Q E hr ⟨Z, ds, M, Qd, Ed, s', r, h, q, x⟩ => ⟨_, hb cdv A outer s H E hr, ?_⟩
  refine ⟨Z, M, _, _, s', start_ok r, hd ds M Qd Ed h, ⟨fun σ' H' sd' M' e1 s1 l1 ⟨d', M2, fz, hq⟩ => ?_, fun v H' d M' e1 s1 r1 ⟨d', M2, fz, hq⟩ => ?_, fun _ _ _ _ _ _ _ z => z.elim, fun _ _ _ _ _ _ _ z => z.elim, fun c p dx v σ' H' sd' M' e1 s1 l1 hx r1 h1 => x c p dx v H' M' e1 s1 hx r1 h1⟩⟩
  · obtain ⟨e2, s2, r2⟩ := fz B Z H' .non s1 (show V.non = V.non from rfl)
    exact q _ _ _ _ (e1.trans e2) s2 r2 hq
  · obtain ⟨e2, s2, r2⟩ := fz B Z H' v s1 r1
    exact q _ _ _ _ (e1.trans e2) s2 r2 hq
theorem tk_of {qual : Str} {sc : Scope} {N : List Str} {f : Addr} {cdv : Value} {A : Around} {outer : List Env} {s : Shared} {H : Hp} {E : XK} : Takes (cxOf (L2.CX P w) P w K mg base N qual sc f cdv A outer s H E) (fun cls d _ H => E cls d H) := takes_of rfl rfl rfl rfl
theorem own_of {qual : Str} {sc : Scope} {N : List Str} {f : Addr} {cdv : Value} {A : Around} {outer : List Env} {s : Shared} {H : Hp} {E : XK} : PassesOwn (model P w) (cxOf (L2.CX P w) P w K mg base N qual sc f cdv A outer s H E).A (cxOf (L2.CX P w) P w K mg base N qual sc f cdv A outer s H E).env (cxOf (L2.CX P w) P w K mg base N qual sc f cdv A outer s H E).xe :=
  passes_of (X := cxOf (L2.CX P w) P w K mg base N qual sc f cdv A outer s H E) rfl
theorem tk0 {X : Cx} : Takes X W0 := takes0
end
end
end Dn
set_option Elab.async false
set_option linter.all false
set_option maxRecDepth 100000
set_option maxHeartbeats 4000000
/-! Dn9: methods of lists, dicts, texts. -/
namespace Dn
open PySem PySem.Spec PyProof.Rows L2

def appendD (d : D) (ds : List D) (M : Mem) (Q : KD) : Prop := ∃ a xs y, d = .ref a ∧ ds = [y] ∧ M a = some (.lst xs) ∧ xs.length < sizeLine ∧ Q .non (upm M a (.lst (xs ++ [y])))
def extendD (d : D) (ds : List D) (M : Mem) (Q : KD) : Prop := ∃ a xs y ys, d = .ref a ∧ ds = [y] ∧ M a = some (.lst xs) ∧ lstO M y = some ys ∧ xs.length + ys.length ≤ sizeLine ∧ Q .non (upm M a (.lst (xs ++ ys)))
def insertD (d : D) (ds : List D) (M : Mem) (Q : KD) : Prop := ∃ a xs i y, d = .ref a ∧ ds = [.int i, y] ∧ M a = some (.lst xs) ∧ xs.length < sizeLine ∧ 0 ≤ i ∧ i < 2 ^ 63 ∧ Q .non (upm M a (.lst (xs.take i.toNat ++ [y] ++ xs.drop i.toNat)))
def popD (d : D) (ds : List D) (M : Mem) (Q : KD) : Prop := ∃ a xs y, d = .ref a ∧ ds = [] ∧ M a = some (.lst xs) ∧ xs[xs.length - 1]? = some y ∧ Q y (upm M a (.lst xs.dropLast))
def popAtD (d : D) (ds : List D) (M : Mem) (Q : KD) : Prop := ∃ a xs i k y, d = .ref a ∧ ds = [.int i] ∧ M a = some (.lst xs) ∧ -(2 ^ 63) ≤ i ∧ i < 2 ^ 63 ∧ seqIndex? i xs.length = some k ∧ xs[k]? = some y ∧ Q y (upm M a (.lst (xs.eraseIdx k)))
def countD (d : D) (ds : List D) (M : Mem) (Q : KD) : Prop := ∃ (ns : List Int) (k : Int), lstO M d = some (ns.map D.int) ∧ ds = [.int k] ∧ Q (.int (ns.count k : Nat)) M
def indexD (d : D) (ds : List D) (M : Mem) (Q : KD) : Prop := ∃ xs y j z, lstO M d = some xs ∧ ds = [y] ∧ datD (.lst xs) ∧ datD y ∧ xs[j]? = some z ∧ eqvD z y = true ∧ (∀ (m : Nat) (z' : D), m < j → xs[m]? = some z' → eqvD z' y = false) ∧ Q (.int (j : Nat)) M
def joinD (d : D) (ds : List D) (M : Mem) (Q : KD) : Prop := ∃ (a : Str) (y : D) (xs : List Str), d = .str a ∧ ds = [y] ∧ lstO M y = some (xs.map D.str) ∧ (xs.map (·.length)).sum + xs.length * a.length ≤ 16777216 ∧ Q (.str (Txt.join a xs)) M
def splitD (d : D) (ds : List D) (M : Mem) (Q : KD) : Prop := ∃ a b : Str, d = .str a ∧ ds = [.str b] ∧ (b.length == 0) = false ∧ a.length + 2 ≤ sizeLine ∧ Q (.lst ((Txt.split a b).map D.str)) M
def findD (d : D) (ds : List D) (M : Mem) (Q : KD) : Prop := ∃ a b : Str, d = .str a ∧ ds = [.str b] ∧ Q (.int (Txt.find a b)) M
def dGet1 (td ty : TDe) : TDe := fun sd M Q E => td sd M (fun o M1 => ty sd M1 (fun y M2 => ∃ kvs k, dicO M1 o ≠ none ∧ dicO M2 o = some kvs ∧ keyD y = some k ∧ Q ((valD kvs k).getD .non) M2) E) E
def dGet2 (td ty tx : TDe) : TDe := fun sd M Q E => td sd M (fun o M1 => dicO M1 o ≠ none ∧ ty sd M1 (fun y M2 => tx sd M2 (fun z M3 => ∃ kvs k, dicO M3 o = some kvs ∧ keyD y = some k ∧ Q ((valD kvs k).getD z) M3) E) E) E
def dPop1 (td ty : TDe) : TDe := fun sd M Q E => td sd M (fun o M1 => dicO M1 o ≠ none ∧ ty sd M1 (fun y M2 => ∃ a kvs k v, o = .ref a ∧ M2 a = some (.dic kvs) ∧ keyD y = some k ∧ valD kvs k = some v ∧ Q v (upm M2 a (.dic (dropKD kvs k)))) E) E
def dPop2 (td ty tx : TDe) : TDe := fun sd M Q E => td sd M (fun o M1 => dicO M1 o ≠ none ∧ ty sd M1 (fun y M2 => tx sd M2 (fun z M3 => ∃ a kvs k, o = .ref a ∧ M3 a = some (.dic kvs) ∧ keyD y = some k ∧
  (∀ v, valD kvs k = some v → Q v (upm M3 a (.dic (dropKD kvs k)))) ∧ (valD kvs k = none → Q z M3)) E) E) E

section
variable {X : Cx} {B : Bs} {W : WX} {o e f : Expr} {es : List Expr} {to te ty tx : TDe} {t : TDa} {apos cpos : Pos} {name : Str}
theorem qe_bm {T id : String} {op : D → List D → Mem → KD → Prop} (pa : PlainAttrs T) (slot : Slot T name id) (hty : typeOf (.builtin id) = pure (.type "method_descriptor")) (hm : MtR X id (lfM B op)) (ho : PE X o (lfE B W to)) (ha : PA X (e :: es) (lfA B W t))
    (hbase : attributeBase o name X.env (eval o X.env) = eval o X.env := by rfl)
    (hfew : ((backTo cpos (starEach (e :: es) X.env)).all (fun x => !x.1) && (backToKw cpos (keywordEach [] X.env)).all (fun x => x.1.isSome)
      && decide ((e :: es).length + ([] : List Keyword).length + (if ([] : List Keyword).isEmpty then 0 else 1) < 30)) = true := by rfl)
    (hline : (apos.endLine == cpos.line) = true := by rfl) (hs : starEach (e :: es) X.env = (false, eval e X.env) :: starEach es X.env := by rfl) (hplain : (backTo cpos (starEach es X.env)).any (·.1) = false := by rfl) :
    PE X (.Call (.Attribute o name apos) (e :: es) [] cpos) (lfE B W (dBM T op to t)) := PEimp (pe_bm pa slot hty hm ho ha hbase hfew hline hs hplain) lf_bm
theorem qe_bm0 {T id : String} {op : D → List D → Mem → KD → Prop} (pa : PlainAttrs T) (slot : Slot T name id) (hty : typeOf (.builtin id) = pure (.type "method_descriptor")) (hm : MtR X id (lfM B op)) (ho : PE X o (lfE B W to))
    (hbase : attributeBase o name X.env (eval o X.env) = eval o X.env := by rfl) (hline : (apos.endLine == cpos.line) = true := by rfl) : PE X (.Call (.Attribute o name apos) [] [] cpos) (lfE B W (dBM0 T op to)) := PEimp (pe_bm0 pa slot hty hm ho hbase hline) lf_bm0
theorem rp_ref {Z : List Addr} {H : Hp} {M : Mem} {a : Addr} {v : V} (r : rp B Z H M (.ref a) v) : v = .ref a := r
theorem m_append : MtR X "list.append" (lfM B appendD) := MtRimp mt_append fun x xs H Q ⟨Z, M, Qd, d, ds, s, r, rs, ⟨a, ys, y, e, e2, hm, hz, h⟩, q⟩ => by
  subst e e2
  obtain rfl := rp_ref r
  obtain ⟨v, rfl, rv⟩ := rpl1 rs
  obtain ⟨_, vs, h1, h2⟩ := s.ob a _ hm
  obtain ⟨ev, s'⟩ := s.wr (mo := .lst (ys ++ [y])) hm (o := .lst (vs ++ [v])) fun M' e => ⟨_, upd_same, (e.rpl h2).append (rpl_cons (e.rp rv) rpl_nil)⟩
  exact ⟨a, vs, v, rfl, rfl, h1, by rw [← h2.length]; exact hz, (q.mono ev).n s' h⟩
theorem m_extend : MtR X "list.extend" (lfM B extendD) := MtRimp mt_extend fun x xs H Q ⟨Z, M, Qd, d, ds, s, r, rs, ⟨a, zs, y, ys, e, e2, hm, hy, hz, h⟩, q⟩ => by
  subst e e2
  obtain rfl := rp_ref r
  obtain ⟨v, rfl, rv⟩ := rpl1 rs
  obtain ⟨_, vs, h1, h2⟩ := s.ob a _ hm
  obtain ⟨b, ws, rfl, h3, h4⟩ := lstO_at s rv hy
  obtain ⟨ev, s'⟩ := s.wr (mo := .lst (zs ++ ys)) hm (o := .lst (vs ++ ws)) fun M' e => ⟨_, upd_same, (e.rpl h2).append (e.rpl h4)⟩
  exact ⟨a, b, vs, ws, rfl, rfl, h1, h3, by rw [← h2.length, ← h4.length]; exact hz, (q.mono ev).n s' h⟩
theorem m_insert : MtR X "list.insert" (lfM B insertD) := MtRimp mt_insert fun x xs H Q ⟨Z, M, Qd, d, ds, s, r, rs, ⟨a, ys, i, y, e, e2, hm, hz, hi, hi2, h⟩, q⟩ => by
  subst e e2
  obtain rfl := rp_ref r
  obtain ⟨u, v, rfl, ru, rv⟩ := rpl2 rs
  cases ru
  obtain ⟨_, vs, h1, h2⟩ := s.ob a _ hm
  obtain ⟨ev, s'⟩ := s.wr (mo := .lst (ys.take i.toNat ++ [y] ++ ys.drop i.toNat)) hm (o := .lst (vs.take i.toNat ++ [v] ++ vs.drop i.toNat)) fun M' e => ⟨_, upd_same, (((e.rpl h2).take _).append (rpl_cons (e.rp rv) rpl_nil)).append ((e.rpl h2).drop _)⟩
  exact ⟨a, vs, i, v, rfl, rfl, h1, by rw [← h2.length]; exact hz, hi, hi2, (q.mono ev).n s' h⟩
theorem m_pop : MtR X "list.pop" (lfM B popD) := MtRimp mt_pop fun x xs H Q ⟨Z, M, Qd, d, ds, s, r, rs, ⟨a, ys, y, e, e2, hm, hy, h⟩, q⟩ => by
  subst e e2
  obtain rfl := rp_ref r
  obtain rfl : xs = [] := rs
  obtain ⟨_, vs, h1, h2⟩ := s.ob a _ hm
  obtain ⟨v, hv, rv⟩ := h2.get hy
  obtain ⟨ev, s'⟩ := s.wr (mo := .lst ys.dropLast) hm (o := .lst vs.dropLast) fun M' e => ⟨_, upd_same, (e.rpl h2).dropLast⟩
  exact ⟨a, vs, v, rfl, rfl, h1, by rw [← h2.length]; exact hv, (q.mono ev).here s' (ev.rp rv) h⟩
theorem m_popAt : MtR X "list.pop" (lfM B popAtD) := MtRimp mt_popAt fun x xs H Q ⟨Z, M, Qd, d, ds, s, r, rs, ⟨a, ys, i, k, y, e, e2, hm, hi, hi2, hk, hy, h⟩, q⟩ => by
  subst e e2
  obtain rfl := rp_ref r
  obtain ⟨u, rfl, ru⟩ := rpl1 rs
  cases ru
  obtain ⟨_, vs, h1, h2⟩ := s.ob a _ hm
  obtain ⟨v, hv, rv⟩ := h2.get hy
  obtain ⟨ev, s'⟩ := s.wr (mo := .lst (ys.eraseIdx k)) hm (o := .lst (vs.eraseIdx k)) fun M' e => ⟨_, upd_same, (e.rpl h2).eraseIdx k⟩
  exact ⟨a, vs, i, k, v, rfl, rfl, h1, hi, hi2, by rw [← h2.length]; exact hk, hv, (q.mono ev).here s' (ev.rp rv) h⟩
theorem m_count : MtR X "list.count" (lfM B countD) := MtRimp mt_lcount fun x xs H Q ⟨Z, M, Qd, d, ds, s, r, rs, ⟨ns, k, h1, e, h⟩, q⟩ => by
  subst e
  obtain ⟨u, rfl, ru⟩ := rpl1 rs
  cases ru
  obtain ⟨a, rfl, hv⟩ := lst_ints X.K s r h1
  exact ⟨a, ns, k, rfl, rfl, hv, q.i s h⟩
theorem pyL_get : ∀ {es : List D} {j : Nat}, (pyL es)[j]? = (es[j]?).map pyD
  | [], j => by cases j <;> rfl
  | e :: es, 0 => rfl
  | e :: es, j + 1 => by show (pyL es)[j]? = _; rw [pyL_get]; rfl
theorem m_index (hK : X.K = B.K) (hu : X.A.units + 65 < cLine) : MtR X "list.index" (lfM B indexD) := MtRimp (mt_indexD hu) fun x xs H Q ⟨Z, M, Qd, d, ds, s, r, rs, ⟨ys, y, j, z, h1, e, c1, c2, hj, hz, hm, h⟩, q⟩ => by
  subst e
  obtain ⟨u, rfl, ru⟩ := rpl1 rs
  have hd := lstO_dp s r h1 c1.1 B.K rfl
  obtain ⟨a, vs, rfl, ha, ra⟩ := lstO_at s r h1
  refine ⟨a, u, pyD y, pyL ys, j, pyD z, rfl, rfl, hK ▸ hd, hK ▸ rp_dp B.K rfl c2.1 ru, c1.2, c2.2, by rw [pyL_get, hj]; rfl, hz, fun m z' hm' hz' => ?_, q.i s h⟩
  rw [pyL_get] at hz'
  cases e : ys[m]? with
  | none => rw [e] at hz'; cases hz'
  | some z2 =>
    rw [e] at hz'
    cases hz'
    exact hm m z2 hm' e
theorem m_join : MtR X "str.join" (lfM B joinD) := MtRimp mt_join fun x xs H Q ⟨Z, M, Qd, d, ds, s, r, rs, ⟨a, y, ys, e, e2, h1, hz, h⟩, q⟩ => by
  subst e e2
  cases r
  obtain ⟨u, rfl, ru⟩ := rpl1 rs
  obtain ⟨p, vs, rfl, hv, ra⟩ := lstO_at s ru h1
  obtain rfl := RpL.strs.mp ra
  exact ⟨a, p, ys, rfl, rfl, .inl (SqL.of hv), hz, q.t s h⟩
theorem m_split : MtR X "str.split" (lfM B splitD) := MtRimp mt_split fun x xs H Q ⟨Z, M, Qd, d, ds, s, r, rs, ⟨a, b, e, e2, hb, hz, h⟩, q⟩ => by
  subst e e2
  cases r
  obtain ⟨u, rfl, ru⟩ := rpl1 rs
  cases ru
  exact ⟨a, b, rfl, rfl, hb, hz, newL_ok (m := false) s (RpL.strs.mpr rfl) h q⟩
theorem m_find : MtR X "str.find" (lfM B findD) := MtRimp mt_find fun x xs H Q ⟨Z, M, Qd, d, ds, s, r, rs, ⟨a, b, e, e2, h⟩, q⟩ => by
  subst e e2
  cases r
  obtain ⟨u, rfl, ru⟩ := rpl1 rs
  cases ru
  exact ⟨a, b, rfl, rfl, q.i s h⟩
theorem isD_of {Z : List Addr} {H : Hp} {M : Mem} {d : D} {v : V} (s : Sim B Z H M) (r : rp B Z H M d v) (h : dicO M d ≠ none) : ∃ a, v = .ref a ∧ IsD H a := by
  cases e : dicO M d with
  | none => exact absurd e h
  | some kvs =>
    obtain ⟨a, ws, _, _, rfl, ha, _⟩ := dicO_at s r e
    exact ⟨a, rfl, .inl ⟨ws, .inl ha⟩⟩
theorem qe_get2 (hu : X.A.units + 1 < cLine) (ho : PE X o (lfE B W to)) (he : PE X e (lfE B W ty)) (hf : PE X f (lfE B W tx)) (m : M2 X o "get" apos e f cpos) : PE X (.Call (.Attribute o "get" apos) [e, f] [] cpos) (lfE B W (dGet2 to ty tx)) :=
  PEimp (pe_dget2 hu ho he hf m) fun σ H Q ⟨Z, M, sd, Qd, E, s, l, h, x, q⟩ => by
    refine lfE_go s l x h fun v H1 d M1 e1 s1 r1 ⟨h0, h1⟩ => ?_
    obtain ⟨a, rfl, hD⟩ := isD_of s1 r1 h0
    refine ⟨a, rfl, hD, ?_⟩
    refine lfE_go s1 (l.mono e1) (x.mono e1) h1 fun y H2 yd M2 e2 s2 r2 h2 => ?_
    refine lfE_go s2 (l.mono (e1.trans e2)) (x.mono (e1.trans e2)) h2 fun z H3 zd M3 e3 s3 r3 ⟨kvs, k, h3, hk, h4⟩ => ?_
    obtain ⟨a', ws, _, hm, e', ha, rk⟩ := dicO_at s3 ((e2.trans e3).rp r1) h3
    cases e'
    obtain rfl := keyD_at (e3.rp r2) hk
    refine ⟨_, DGet.k ha, ?_⟩
    have e13 := (e1.trans e2).trans e3
    cases ev : valD kvs k with
    | none =>
      rw [(rk.val k).2 ev]
      rw [ev] at h4
      exact (q.mono e13).here s3 r3 h4
    | some w =>
      obtain ⟨v, hv, rv⟩ := (rk.val k).1 w ev
      rw [hv]
      rw [ev] at h4
      exact (q.mono e13).here s3 rv h4
theorem qe_get1 (hu : X.A.units + 1 < cLine) (ho : PE X o (lfE B W to)) (he : PE X e (lfE B W ty)) (m : M1 X o "get" apos e cpos) : PE X (.Call (.Attribute o "get" apos) [e] [] cpos) (lfE B W (fun sd M Q E => to sd M (fun o M1 => dicO M1 o ≠ none ∧ ty sd M1 (fun y M2 => ∃ kvs k, dicO M2 o = some kvs ∧ keyD y = some k ∧ Q ((valD kvs k).getD .non) M2) E) E)) :=
  PEimp (pe_dget1 hu ho he m) fun σ H Q ⟨Z, M, sd, Qd, E, s, l, h, x, q⟩ => by
    refine lfE_go s l x h fun v H1 d M1 e1 s1 r1 ⟨h0, h1⟩ => ?_
    obtain ⟨a, rfl, hD⟩ := isD_of s1 r1 h0
    refine ⟨a, rfl, hD, ?_⟩
    refine lfE_go s1 (l.mono e1) (x.mono e1) h1 fun y H2 yd M2 e2 s2 r2 ⟨kvs, k, h3, hk, h4⟩ => ?_
    obtain ⟨a', ws, _, hm, e', ha, rk⟩ := dicO_at s2 (e2.rp r1) h3
    cases e'
    obtain rfl := keyD_at r2 hk
    refine ⟨_, DGet.k ha, ?_⟩
    have e13 := e1.trans e2
    cases ev : valD kvs k with
    | none =>
      rw [(rk.val k).2 ev]
      rw [ev] at h4
      exact (q.mono e13).n s2 h4
    | some w =>
      obtain ⟨v, hv, rv⟩ := (rk.val k).1 w ev
      rw [hv]
      rw [ev] at h4
      exact (q.mono e13).here s2 rv h4
theorem qe_pop1 (ho : PE X o (lfE B W to)) (he : PE X e (lfE B W ty)) (m : M1 X o "pop" apos e cpos) : PE X (.Call (.Attribute o "pop" apos) [e] [] cpos) (lfE B W (dPop1 to ty)) :=
  PEimp (pe_dpop1 ho he m) fun σ H Q ⟨Z, M, sd, Qd, E, s, l, h, x, q⟩ => by
    refine lfE_go s l x h fun v H1 d M1 e1 s1 r1 ⟨h0, h1⟩ => ?_
    obtain ⟨a, rfl, hD⟩ := isD_of s1 r1 h0
    refine ⟨a, rfl, hD, ?_⟩
    refine lfE_go s1 (l.mono e1) (x.mono e1) h1 fun y H2 yd M2 e2 s2 r2 ⟨b, kvs, k, v, eb, hm, hk, hv, h4⟩ => ?_
    subst eb
    cases r1
    obtain ⟨_, ws, ha, rk⟩ := s2.ob a _ hm
    obtain rfl := keyD_at r2 hk
    obtain ⟨u, hu, ru⟩ := (rk.val k).1 v hv
    obtain ⟨ev, s3⟩ := s2.wr (mo := .dic (dropKD kvs k)) hm (o := .dK (dropK ws k)) fun M' e => ⟨_, upd_same, (rk.mono fun _ _ z => e.rp z).drop k⟩
    exact ⟨ws, k, u, ha, rfl, hu, (q.mono ((e1.trans e2).trans ev)).here s3 (ev.rp ru) h4⟩
theorem qe_pop2 (ho : PE X o (lfE B W to)) (he : PE X e (lfE B W ty)) (hf : PE X f (lfE B W tx)) (m : M2 X o "pop" apos e f cpos) : PE X (.Call (.Attribute o "pop" apos) [e, f] [] cpos) (lfE B W (dPop2 to ty tx)) :=
  PEimp (pe_dpop2 ho he hf m) fun σ H Q ⟨Z, M, sd, Qd, E, s, l, h, x, q⟩ => by
    refine lfE_go s l x h fun v H1 d M1 e1 s1 r1 ⟨h0, h1⟩ => ?_
    obtain ⟨a, rfl, hD⟩ := isD_of s1 r1 h0
    refine ⟨a, rfl, hD, ?_⟩
    refine lfE_go s1 (l.mono e1) (x.mono e1) h1 fun y H2 yd M2 e2 s2 r2 h2 => ?_
    refine lfE_go s2 (l.mono (e1.trans e2)) (x.mono (e1.trans e2)) h2 fun z H3 zd M3 e3 s3 r3 ⟨b, kvs, k, eb, hm, hk, h4, h5⟩ => ?_
    subst eb
    cases r1
    obtain ⟨_, ws, ha, rk⟩ := s3.ob a _ hm
    obtain rfl := keyD_at (e3.rp r2) hk
    have e13 := (e1.trans e2).trans e3
    refine ⟨ws, k, ha, rfl, fun u hu => ?_, fun hn => ?_⟩
    · cases hv : valD kvs k with
      | none => rw [(rk.val k).2 hv] at hu; cases hu
      | some w =>
        obtain ⟨u', hu', ru⟩ := (rk.val k).1 w hv
        rw [hu] at hu'
        cases hu'
        obtain ⟨ev, s4⟩ := s3.wr (mo := .dic (dropKD kvs k)) hm (o := .dK (dropK ws k)) fun M' e => ⟨_, upd_same, (rk.mono fun _ _ z => e.rp z).drop k⟩
        exact (q.mono (e13.trans ev)).here s4 (ev.rp ru) (h4 w hv)
    · cases hv : valD kvs k with
      | none => exact (q.mono e13).here s3 r3 (h5 hv)
      | some w =>
        obtain ⟨u', hu', ru⟩ := (rk.val k).1 w hv
        rw [hn] at hu'
        cases hu'
end
end Dn
set_option Elab.async false
set_option linter.all false
set_option maxRecDepth 100000
set_option maxHeartbeats 4000000
/-! Dn10: defs with their facts, the law's end; a loop over an empty dict; what is never reached. -/
namespace Dn
open PySem PySem.Spec PyProof.Rows L2

theorem hu65 {k : Nat} {A : Around} (r : Room k A) : A.units + 65 < cLine := by have := r.un; omega
def dNever : TDs := fun _ _ _ => False
section
variable {X : Cx} {B : Bs} {W : WX} {tg e : Expr} {body : List Stmt} {pos p : Pos} {x : Str}
theorem qs_never (st : Stmt) : PS X st (lfS B W dNever) := ⟨fun pins s σ H D I ⟨Z, M, sd, Dd, _, _, h, _⟩ => h.elim⟩
/-- for .. in d, an empty dict -/
def dForK0 (i : Nat) : TDs := fun D sd M => ∃ a, sd[i]? = some (some (.ref a)) ∧ M a = some (.dic []) ∧ D.nx sd M
theorem upd_upd {H : Hp} {a : Addr} {o u : HO} : upd (upd H a o) a u = upd H a u := by
  funext b
  by_cases h : b = a
  · subst h; rw [upd_same, upd_same]
  · rw [upd_ne h, upd_ne h, upd_ne h]
theorem upd_self {H : Hp} {a : Addr} {o : HO} (h : H a = some o) : upd H a o = H := by
  funext b
  by_cases hb : b = a
  · subst hb; rw [upd_same, h]
  · rw [upd_ne hb]
theorem qs_forK0 {i : Nat} (hp : PassesOwn (model X.prog X.w) X.A X.env X.xe) (hc : X.calm = true) (hi : PE X e (tVar i)) (hs : ∀ x, foldedSetIterable e X.env x = pure x := by intro _; rfl) : PS X (.For tg e body [] pos) (lfS B W (dForK0 i)) :=
  PSimp (ps_lock (ps_for (g := fun _ _ _ _ => False) (tb := fun _ _ _ => False) hp hc (pi_keys hi) ⟨fun pins s σ H v u Q I r q => q.elim⟩ ⟨fun pins s σ H D I q => q.elim⟩ hs)) fun D σ H ⟨Z, M, sd, Dd, s, l, ⟨a, ha, hm, h⟩, q⟩ => by
    obtain ⟨v, hv, rv⟩ := l.at_ i _ ha
    cases rv
    obtain ⟨nz, ws, h1, h2⟩ := s.ob a _ hm
    cases h2
    refine ⟨a, _, h1, trivial, fun od => ?_⟩
    refine ⟨_, hv, a, od, rfl, .inl ⟨[], upd_same, fun i m σ' H' => σ' = σ ∧ H' = upd H a (.frz od (.dK [])), ⟨0, rfl, rfl⟩, ?_⟩⟩
    rintro i m σ' H' ⟨rfl, rfl⟩
    refine .inl ⟨⟨upd_same, Nat.zero_le _⟩, upd_same, ?_⟩
    rw [upd_upd, upd_self h1]
    exact q.nx _ _ _ _ Evo.refl s l h
end
section
variable {P : Program} {w : World} {K : PySem.W.Frag} {mg : Str → Option Value} {base : Heap} {B : Bs}
/-- a def by its body, from the head's facts -/
theorem fn_okD {x qual : Str} {params : Arguments} {body : List Stmt} {scope : Scope} {dvs : List V} {kws : List (Str × V)} {f : Addr} {fd : FuncData} {N ps : List Str} {k : Nat} {spd : SpD} {td : TDs} (F : FunD K x qual params body scope dvs kws f fd) (S : FnScope N ps scope) (len : ∀ ds M Q E, spd ds M Q E → ds.length = ps.length)
    (hb : ∀ (cdv : Value) (A : Around) (outer : List Env) (s : Shared) (H : Hp) (E : XK), Room k (A.deeper (envOfC qual scope s.heap.objs.size f cdv)) →
      PSs (cxOf (L2.CX P w) P w K mg base N qual scope f cdv A outer s H E) body (lfS B (fun cls d _ H => E cls d H) td))
    (hd : ∀ ds M Q E, spd ds M Q E → td { nx := fun _ M' => FQ Q .non M', rt := FQ Q, ex := fun c p _ M' => E c p M' } (startD N ds) M) : FnOk P w K mg base (L2.CX P w) (k + 1) f fd ps (lift B spd) := by
  refine F.ok S (lift_len len) fun cdv A outer s H vs Q E hr ⟨Z, ds, M, Qd, Ed, s', r, h, q, x⟩ => ⟨_, hb cdv A outer s H E hr, ?_⟩
  refine ⟨Z, M, _, _, s', start_ok r, hd ds M Qd Ed h, ⟨fun σ' H' sd' M' e1 s1 l1 ⟨d', M2, fz, hq⟩ => ?_, fun v H' d M' e1 s1 r1 ⟨d', M2, fz, hq⟩ => ?_, fun _ _ _ _ _ _ _ z => z.elim, fun _ _ _ _ _ _ _ z => z.elim, fun c p dx v σ' H' sd' M' e1 s1 l1 hx r1 h1 => x c p dx v H' M' e1 s1 hx r1 h1⟩⟩
  · obtain ⟨e2, s2, r2⟩ := fz B Z H' .non s1 (show V.non = V.non from rfl)
    exact q _ _ _ _ (e1.trans e2) s2 r2 hq
  · obtain ⟨e2, s2, r2⟩ := fz B Z H' v s1 r1
    exact q _ _ _ _ (e1.trans e2) s2 r2 hq
/-- what the head tells of a def of no default -/
theorem FnD.of {k : Nat} {x : Str} {spd : SpD} {ps : List Str} {f : Addr} {fd : FuncData} (h1 : FnOk P w K mg base (L2.CX P w) k f fd ps (lift B spd)) (g : mg x = some (.ref f)) (kp : PySem.W.keepIn K (.ref f) = true) (b : Binds K fd ps []) : FnD P w K mg base B k x spd [] :=
  ⟨f, fd, ps, [], [], h1, g, kp, b, .nil, fun _ _ _ => rfl⟩
theorem MetD.of {k : Nat} {c : CN} {x : Str} {spd : SpD} {ps : List Str} {f : Addr} {fd : FuncData} (h1 : FnOk P w K mg base (L2.CX P w) k f fd ps (lift B spd)) (g : Cls K (B.adr c)) (m : Meth K (B.adr c) x f) (b : Binds K fd ps []) : MetD P w K mg base B k c x spd [] :=
  ⟨f, fd, ps, [], [], g, m, h1, b, .nil, fun _ _ _ => rfl⟩
theorem MakD.of {k : Nat} {x : Str} {c : CN} {spd : SpD} {ps : List Str} {f : Addr} {fd : FuncData} (h1 : FnOk P w K mg base (L2.CX P w) k f fd ps (lift B spd)) (g : mg x = some (.ref (B.adr c))) (m : Mk K (B.adr c) f) (b : Binds K fd ps []) : MakD P w K mg base B k x c spd [] :=
  ⟨f, fd, ps, [], [], m, h1, g, b, .nil, fun _ _ _ => rfl⟩
end
/-- the law's promise, met from nothing -/
def spLaw (sp : SpD) : Prop := ∀ ns : List Int, ns.length ≤ 63 → ∀ M0 : Mem, (∀ a, M0 a = none) → sp [.scr ns] M0 (fun d _ => d = .bl true) (fun _ _ _ => False)
theorem law_lift {K : PySem.W.Frag} {B : Bs} (hK : B.K = K) {sp : SpD} (h : spLaw sp) (H : Hp) (a : Addr) (ns : List Int) (hl : ns.length ≤ 63) (hS : SqL K H a (ns.map V.int)) : lift B sp [.ref a] H (fun v _ => v = .bl true) fun _ _ _ => False := by
  subst hK
  refine ⟨[], [.scr ns], fun _ => none, _, _, ⟨fun a o e => (by cases e), fun a e => (by cases e)⟩, ⟨_, [], rfl, ⟨a, rfl, ?_⟩, rfl⟩, h ns hl _ (fun _ => rfl), fun v H' d M' _ _ r e => ?_, fun _ _ _ _ _ _ _ _ _ _ z => z.elim⟩
  · rcases hS with hS | hS
    · exact .inl ⟨⟨rfl, by simp⟩, hS⟩
    · exact .inr (.inr hS)
  · subst e; cases r; rfl
/-- the law's end, over a head by facts -/
theorem walk_D {l : PySem.W.OpenLaw} {k : Nat} {q : Program} {loose : List Str} {XP : (Str → Option Value) → Heap → Prop} {YP : World → Heap → Prop} {d : DefRec} {x : Str}
    (hn : l.most = some 63) (hdf : d.params.defaults = []) (hr : Room k callerA) {sp : SpD} (hsp : spLaw sp)
    (F : ∀ (w : World) (mg : Str → Option Value) (fa : Addr) (h : Heap), YP w h → h.Ns mainGlobals mg → mg d.name = some (.ref fa) →
      ∃ (K : PySem.W.Frag) (fd : FuncData) (B : Bs), B.K = K ∧ K.In h ∧ (∀ (s : Shared) (u : Value), BindsTo s fd ⟨[u], []⟩ [(x, u)]) ∧
        ∀ base : Heap, K.In base → base.Ns mainGlobals mg → FnOk l.prog w K mg base (L2.CX l.prog w) k fa fd [x] (lift B sp)) :
    PySem.W.WalkO q loose XP YP l.row.toRowW d [] (fun f vs => PySem.call f vs) := by
  refine Att.attach_call hn hdf fun w s₀ s₁ mg mb fa o pm cd doc a vs ns G Y ho hd hcd hmg hobj hints hlen hg => ?_
  obtain ⟨K, fd, B, hK, KX, hb, hF⟩ := F w mg fa _ Y G.T.g hmg
  exact law_call KX G.T.g G.T.b G.T.builtins G.T.nolimit hg hobj hints (Nat.le_trans hlen (by decide)) hr hF hb (fun H hO hS => law_lift hK hsp H a ns hlen hS) fun H e s' ⟨_, _, _, _, _, _, _, _, _, _, _, _, z⟩ => z
end Dn
set_option Elab.async false
set_option linter.all false
set_option maxRecDepth 100000
set_option maxHeartbeats 4000000
/-! Dn11: data: what is laid out, what is equal; memory kept elsewhere. -/
namespace Dn
open PySem PySem.Spec PyProof.Rows L2

/-- data of at most that depth -/
def shD : Nat → D → Bool
  | 0, d => match d with
    | .non => true
    | .bl _ => true
    | .int _ => true
    | .str x => PyData.strOk x
    | _ => false
  | n + 1, d => match d with
    | .non => true
    | .bl _ => true
    | .int _ => true
    | .str x => PyData.strOk x
    | .tup xs => xs.all (shD n)
    | .lst xs => xs.all (shD n)
    | _ => false
/-- .. without bools -/
def nbD : Nat → D → Bool
  | 0, d => match d with
    | .non => true
    | .int _ => true
    | .str x => PyData.strOk x
    | _ => false
  | n + 1, d => match d with
    | .non => true
    | .int _ => true
    | .str x => PyData.strOk x
    | .tup xs => xs.all (nbD n)
    | .lst xs => xs.all (nbD n)
    | _ => false
theorem nb_sh : ∀ (n : Nat) (d : D), nbD n d = true → shD n d = true
  | 0, d, h => by cases d <;> first | rfl | exact h | cases h
  | n + 1, d, h => by
    cases d with
    | tup xs => exact List.all_eq_true.mpr fun x hx => nb_sh n x (List.all_eq_true.mp (show xs.all (nbD n) = true from h) x hx)
    | lst xs => exact List.all_eq_true.mpr fun x hx => nb_sh n x (List.all_eq_true.mp (show xs.all (nbD n) = true from h) x hx)
    | _ => first | rfl | exact h | cases h
theorem sh_all {n : Nat} (ih : ∀ d : D, shD n d = true → isDat d = true ∧ PyData.canLay0 (pyD d) = true ∧ PyData.depth (pyD d) ≤ n) : ∀ xs : List D, xs.all (shD n) = true → isDats xs = true ∧ PyData.canLayAll0 (pyL xs) = true ∧ PyData.depthAll (pyL xs) ≤ n
  | [], _ => ⟨rfl, rfl, Nat.zero_le _⟩
  | x :: xs, h => by
    have h' : shD n x = true ∧ xs.all (shD n) = true := by simpa using h
    obtain ⟨a1, a2, a3⟩ := ih x h'.1
    obtain ⟨b1, b2, b3⟩ := sh_all ih xs h'.2
    refine ⟨by simp [isDats, a1, b1], by simp [pyL, PyData.canLayAll0, a2, b2], ?_⟩
    show max (PyData.depth (pyD x)) (PyData.depthAll (pyL xs)) ≤ n
    omega
theorem sh_dat : ∀ (n : Nat) (d : D), shD n d = true → isDat d = true ∧ PyData.canLay0 (pyD d) = true ∧ PyData.depth (pyD d) ≤ n
  | 0, d, h => by
    cases d <;> first | exact ⟨rfl, rfl, Nat.zero_le _⟩ | exact ⟨rfl, h, Nat.zero_le _⟩ | cases h
  | n + 1, d, h => by
    cases d with
    | tup xs =>
      obtain ⟨h1, h2, h3⟩ := sh_all (sh_dat n) xs h
      exact ⟨h1, h2, Nat.succ_le_succ h3⟩
    | lst xs =>
      obtain ⟨h1, h2, h3⟩ := sh_all (sh_dat n) xs h
      exact ⟨h1, h2, Nat.succ_le_succ h3⟩
    | _ => first | exact ⟨rfl, rfl, Nat.zero_le _⟩ | exact ⟨rfl, h, Nat.zero_le _⟩ | cases h
theorem datD_of {n : Nat} {d : D} (h : shD n d = true) (hn : n ≤ 64) : datD d := by
  obtain ⟨h1, h2, h3⟩ := sh_dat n d h
  refine ⟨h1, ?_⟩
  show (PyData.canLay0 (pyD d) && decide ((pyD d).depth ≤ 64)) = true
  rw [h2, decide_eq_true (by omega)]
  rfl
theorem eqvD_refl {n : Nat} {d : D} (h : shD n d = true) : eqvD d d = true := SeqAt.eqv_refl _ (sh_dat n d h).2.1
theorem eqv_all {n : Nat} (ih : ∀ d e : D, nbD n d = true → nbD n e = true → (PyData.eqv (pyD d) (pyD e) = true ↔ d = e)) : ∀ xs ys : List D, xs.all (nbD n) = true → ys.all (nbD n) = true → (PyData.eqvAll (pyL xs) (pyL ys) = true ↔ xs = ys)
  | [], [], _, _ => ⟨fun _ => rfl, fun _ => rfl⟩
  | [], _ :: _, _, _ => by simp [pyL, PyData.eqvAll]
  | _ :: _, [], _, _ => by simp [pyL, PyData.eqvAll]
  | x :: xs, y :: ys, h, k => by
    have h' : nbD n x = true ∧ xs.all (nbD n) = true := by simpa using h
    have k' : nbD n y = true ∧ ys.all (nbD n) = true := by simpa using k
    have i1 := ih x y h'.1 k'.1
    have i2 := eqv_all ih xs ys h'.2 k'.2
    show (PyData.eqv (pyD x) (pyD y) && PyData.eqvAll (pyL xs) (pyL ys)) = true ↔ _
    rw [Bool.and_eq_true, i1, i2, List.cons.injEq]
theorem eqv_iff : ∀ (n : Nat) (d e : D), nbD n d = true → nbD n e = true → (PyData.eqv (pyD d) (pyD e) = true ↔ d = e)
  | 0, d, e, h, k => by
    cases d <;> cases e <;> first | (cases h; done) | (cases k; done) | simp [pyD, PyData.eqv]
  | n + 1, d, e, h, k => by
    cases d <;> cases e <;> first | (cases h; done) | (cases k; done) | (simp [pyD, PyData.eqv]; done) | skip
    · have := eqv_all (eqv_iff n) _ _ h k
      simpa [pyD, PyData.eqv] using this
    · have := eqv_all (eqv_iff n) _ _ h k
      simpa [pyD, PyData.eqv] using this
theorem eqvD_iff {n : Nat} {d e : D} (h : nbD n d = true) (k : nbD n e = true) : eqvD d e = true ↔ d = e := eqv_iff n d e h k
def iL (xs : List Int) : List D := xs.map D.int
theorem nb_ints {n : Nat} (xs : List Int) : (iL xs).all (nbD n) = true := by
  unfold iL
  rw [List.all_map]
  refine List.all_eq_true.mpr fun x _ => ?_
  cases n <;> rfl
theorem ints_inj {xs ys : List Int} : iL xs = iL ys ↔ xs = ys := by
  refine ⟨fun h => ?_, fun h => h ▸ rfl⟩
  unfold iL at h
  exact (List.map_inj_right (fun a b e => by cases e; rfl)).mp h
theorem nb_lst {n : Nat} {xs : List D} (h : xs.all (nbD n) = true) : nbD (n + 1) (.lst xs) = true := h
theorem nb_tup {n : Nat} {xs : List D} (h : xs.all (nbD n) = true) : nbD (n + 1) (.tup xs) = true := h
/-- memory is the same but at these -/
def Fr (M M' : Mem) (as : List Addr) : Prop := ∀ a, a ∉ as → M' a = M a
theorem Fr.refl {M : Mem} {as : List Addr} : Fr M M as := fun _ _ => rfl
theorem Fr.trans {M M1 M2 : Mem} {as : List Addr} (h : Fr M M1 as) (k : Fr M1 M2 as) : Fr M M2 as := fun a ha => (k a ha).trans (h a ha)
theorem Fr.mono {M M1 : Mem} {as bs : List Addr} (h : Fr M M1 as) (k : ∀ a, a ∈ as → a ∈ bs) : Fr M M1 bs := fun a ha => h a fun z => ha (k a z)
theorem fr_upm {M : Mem} {a : Addr} {o : MO} {as : List Addr} (h : a ∈ as) : Fr M (upm M a o) as := fun b hb => upm_ne fun z => hb (z ▸ h)
/-! ### shapes of promises -/
def sp0 (p : Mem → KD → ED → Prop) : SpD := fun ds M Q E => ds = [] ∧ p M Q E
def sp1 (p : D → Mem → KD → ED → Prop) : SpD := fun ds M Q E => ∃ a, ds = [a] ∧ p a M Q E
def sp2 (p : D → D → Mem → KD → ED → Prop) : SpD := fun ds M Q E => ∃ a b, ds = [a, b] ∧ p a b M Q E
def sp3 (p : D → D → D → Mem → KD → ED → Prop) : SpD := fun ds M Q E => ∃ a b c, ds = [a, b, c] ∧ p a b c M Q E
def sp4 (p : D → D → D → D → Mem → KD → ED → Prop) : SpD := fun ds M Q E => ∃ a b c d, ds = [a, b, c, d] ∧ p a b c d M Q E
def sp5 (p : D → D → D → D → D → Mem → KD → ED → Prop) : SpD := fun ds M Q E => ∃ a b c d e, ds = [a, b, c, d, e] ∧ p a b c d e M Q E
theorem len1 {p : D → Mem → KD → ED → Prop} : ∀ ds M Q E, sp1 p ds M Q E → ds.length = 1 := fun ds M Q E ⟨a, e, _⟩ => e ▸ rfl
theorem len2 {p : D → D → Mem → KD → ED → Prop} : ∀ ds M Q E, sp2 p ds M Q E → ds.length = 2 := fun ds M Q E ⟨a, b, e, _⟩ => e ▸ rfl
theorem len3 {p : D → D → D → Mem → KD → ED → Prop} : ∀ ds M Q E, sp3 p ds M Q E → ds.length = 3 := fun ds M Q E ⟨a, b, c, e, _⟩ => e ▸ rfl
theorem len4 {p : D → D → D → D → Mem → KD → ED → Prop} : ∀ ds M Q E, sp4 p ds M Q E → ds.length = 4 := fun ds M Q E ⟨a, b, c, d, e, _⟩ => e ▸ rfl
theorem len5 {p : D → D → D → D → D → Mem → KD → ED → Prop} : ∀ ds M Q E, sp5 p ds M Q E → ds.length = 5 := fun ds M Q E ⟨a, b, c, d, x, e, _⟩ => e ▸ rfl
/-- the reading of a def, as it is asked -/
def Rds (N : List Str) (sp : SpD) (td : TDs) : Prop := ∀ ds M Q E, sp ds M Q E → td { nx := fun _ M' => FQ Q .non M', rt := FQ Q, ex := fun c p _ M' => E c p M' } (startD N ds) M
end Dn
set_option Elab.async false
set_option linter.all false
set_option maxRecDepth 100000
set_option maxHeartbeats 4000000
/-! Dn12: lists of ints, slices, ranges, dicts by keys. -/
namespace Dn
open PySem PySem.Spec PyProof.Rows L2

theorem iL_len {xs : List Int} : (iL xs).length = xs.length := by unfold iL; rw [List.length_map]
theorem iL_get {xs : List Int} {i : Nat} {x : D} (h : (iL xs)[i]? = some x) : ∃ b, xs[i]? = some b ∧ x = .int b := by
  unfold iL at h
  rw [List.getElem?_map] at h
  cases e : xs[i]? with
  | none => rw [e] at h; cases h
  | some b => rw [e] at h; cases h; exact ⟨b, rfl, rfl⟩
theorem iL_app {xs ys : List Int} : iL (xs ++ ys) = iL xs ++ iL ys := by unfold iL; rw [List.map_append]
theorem iL_take {xs : List Int} {n : Nat} : iL (xs.take n) = (iL xs).take n := by unfold iL; rw [List.map_take]
theorem iL_drop {xs : List Int} {n : Nat} : iL (xs.drop n) = (iL xs).drop n := by unfold iL; rw [List.map_drop]
theorem iL_atI {xs : List Int} {i : Nat} {b : Int} (h : xs[i]? = some b) : atI (iL xs) (i : Int) = some (.int b) := by
  have hi : i < xs.length := (List.getElem?_eq_some_iff.mp h).1
  unfold L2.atI L2.ixN
  rw [if_pos (by omega), if_pos (by rw [iL_len]; omega), Int.toNat_natCast]
  show (iL xs)[i]? = _
  unfold iL
  rw [List.getElem?_map, h]
  rfl
theorem atI_nat {α : Type} {xs : List α} {i : Nat} {b : α} (h : xs[i]? = some b) : atI xs (i : Int) = some b := by
  have hi : i < xs.length := (List.getElem?_eq_some_iff.mp h).1
  unfold L2.atI L2.ixN
  rw [if_pos (by omega), if_pos (by omega), Int.toNat_natCast]
  exact h
theorem cutD_nat {xs : List D} {a b : Nat} : cutD xs (some (a : Int)) (some (b : Int)) = (xs.drop a).take (b - a) := by
  unfold cutD
  rw [HT.sIx_nat, HT.sIx_nat]
  by_cases ha : a ≤ xs.length
  · rw [Nat.min_eq_left ha]
    by_cases hb : b ≤ xs.length
    · rw [Nat.min_eq_left hb]
    · rw [Nat.min_eq_right (by omega), List.take_of_length_le (by simp), List.take_of_length_le (by simp; omega)]
  · rw [List.drop_eq_nil_of_le (by omega), List.drop_eq_nil_of_le (by omega), List.take_nil, List.take_nil]
theorem cutD_lo {xs : List D} {b : Nat} : cutD xs none (some (b : Int)) = xs.take b := by
  unfold cutD
  rw [HT.sIx_nat]
  show (xs.drop 0).take (min b xs.length - 0) = _
  rw [List.drop_zero, Nat.sub_zero]
  by_cases hb : b ≤ xs.length
  · rw [Nat.min_eq_left hb]
  · rw [Nat.min_eq_right (by omega), List.take_of_length_le (Nat.le_refl _), List.take_of_length_le (by omega)]
theorem cutD_hi {xs : List D} {a : Nat} : cutD xs (some (a : Int)) none = xs.drop a := by
  unfold cutD
  rw [HT.sIx_nat]
  show (xs.drop (min a xs.length)).take (xs.length - min a xs.length) = _
  by_cases ha : a ≤ xs.length
  · rw [Nat.min_eq_left ha, List.take_of_length_le (by simp)]
  · rw [Nat.min_eq_right (by omega), List.drop_eq_nil_of_le (Nat.le_refl _), List.take_nil, List.drop_eq_nil_of_le (by omega)]
theorem cut_iL {xs : List Int} {a b : Nat} : cutD (iL xs) (some (a : Int)) (some (b : Int)) = iL ((xs.drop a).take (b - a)) := by rw [cutD_nat, iL_take, iL_drop]
theorem rgc_step {n c : Nat} (hc : 0 < c) (hc2 : c < 1000) (hn : n < 1000000000) : RgC 0 (n : Int) (c : Int) ((n + c - 1) / c) := by
  refine ⟨by omega, by omega, ?_, ?_⟩
  · unfold Builtin.Range.small
    rw [PyProof.Rows.rangeSize_pos (by omega) (by omega)]
    have e : ((n : Int) + (c : Int) - 1) = ((n + c - 1 : Nat) : Int) := by omega
    have d : (n + c - 1) / c ≤ n + c - 1 := Nat.div_le_self _ _
    have e2 : ((n : Int) + (c : Int) - 1) / (c : Int) = (((n + c - 1) / c : Nat) : Int) := by rw [e]; norm_cast
    rw [e2]
    have hc0 : (c : Int) > 0 := by omega
    have m1 : (n + c - 1) / c * c ≤ n + c - 1 := Nat.div_mul_le_self _ _
    have m2 : (((n + c - 1) / c : Nat) : Int) * (c : Int) = (((n + c - 1) / c * c : Nat) : Int) := by norm_cast
    clear e2 e
    simp only [Builtin.Range.rangeFitsLong, Bool.and_eq_true, Bool.or_eq_true, decide_eq_true_eq, beq_iff_eq, hc0, if_true]
    generalize (n + c - 1) / c = m at *
    have m3 : ((m : Int) - 1) * (c : Int) = (m : Int) * (c : Int) - (c : Int) := by rw [Int.sub_mul, Int.one_mul]
    try rw [m3]
    generalize (m : Int) * (c : Int) = z at *
    omega
  · rw [PyProof.Rows.rangeSize_pos (by omega) (by omega)]
    have e : ((n : Int) + (c : Int) - 1) = ((n + c - 1 : Nat) : Int) := by omega
    rw [e]
    norm_cast
theorem rng_get? {lo c : Int} {n i : Nat} (h : i < n) : (rng lo c n)[i]? = some (.int (lo + (i : Int) * c)) := by
  unfold rng; rw [List.getElem?_map, List.getElem?_range h]; rfl
/-! ### dicts -/
theorem valD_put {kvs : List (Key × D)} {k k' : Key} {v : D} : valD (putKD kvs k v) k' = if k' = k then some v else valD kvs k' := by
  unfold putKD
  split
  · rename_i h
    induction kvs with
    | nil => cases h
    | cons p q ih =>
      rw [List.map_cons]
      by_cases hp : p.1 = k
      · rw [if_pos hp]
        by_cases hk : k' = k
        · rw [if_pos hk]
          unfold valD
          rw [List.find?_cons_of_pos (by simp [hp, hk])]
          rfl
        · rw [if_neg hk]
          have n1 : ¬ p.1 = k' := fun z => hk (by rw [← z, hp])
          unfold valD
          rw [List.find?_cons_of_neg (by simpa using n1), List.find?_cons_of_neg (by simpa using n1)]
          by_cases ha : (q.any fun kv => decide (kv.1 = k)) = true
          · have := ih ha
            rw [if_neg hk] at this
            exact this
          · congr 1
            have : (q.map fun kv => if kv.1 = k then (kv.1, v) else kv) = q := by
              conv => rhs; rw [← List.map_id q]
              refine List.map_congr_left fun kv hkv => ?_
              rw [if_neg fun z => ha (List.any_eq_true.mpr ⟨kv, hkv, by simpa using z⟩)]
              rfl
            rw [this]
      · rw [if_neg hp]
        have ha : (q.any fun kv => decide (kv.1 = k)) = true := by simpa [hp] using h
        by_cases hk2 : p.1 = k'
        · have hk : ¬ k' = k := fun z => hp (hk2.trans z)
          rw [if_neg hk]
          unfold valD
          rw [List.find?_cons_of_pos (by simpa using hk2), List.find?_cons_of_pos (by simpa using hk2)]
        · have := ih ha
          unfold valD at this ⊢
          rw [List.find?_cons_of_neg (by simpa using hk2), List.find?_cons_of_neg (by simpa using hk2)]
          exact this
  · rename_i h
    unfold valD
    rw [List.find?_append]
    by_cases hk : k' = k
    · rw [if_pos hk]
      have : kvs.find? (fun kv => decide (kv.1 = k')) = none := by
        rw [List.find?_eq_none]
        intro kv hkv z
        exact h (List.any_eq_true.mpr ⟨kv, hkv, by simpa [hk] using z⟩)
      rw [this]
      simp [hk]
    · rw [if_neg hk]
      have : [(k, v)].find? (fun kv => decide (kv.1 = k')) = none := by simp; exact fun z => hk z.symm
      rw [this, Option.or_none]
theorem mem_put {kvs : List (Key × D)} {k : Key} {v : D} {kv : Key × D} (h : kv ∈ putKD kvs k v) : kv ∈ kvs ∨ kv = (k, v) := by
  unfold putKD at h
  split at h
  · obtain ⟨p, hp, e⟩ := List.mem_map.mp h
    split at e
    · rename_i hk; exact .inr (by rw [← e, hk])
    · exact .inl (e ▸ hp)
  · rcases List.mem_append.mp h with h | h
    · exact .inl h
    · exact .inr (List.mem_singleton.mp h)
theorem len_put {kvs : List (Key × D)} {k : Key} {v : D} : (putKD kvs k v).length ≤ kvs.length + 1 := by
  unfold putKD
  split
  · rw [List.length_map]; omega
  · rw [List.length_append]; exact Nat.le_refl _
theorem valD_mem {kvs : List (Key × D)} {k : Key} {d : D} (h : valD kvs k = some d) : (k, d) ∈ kvs := by
  unfold valD at h
  cases e : kvs.find? (fun kv => decide (kv.1 = k)) with
  | none => rw [e] at h; cases h
  | some p =>
    rw [e] at h
    cases h
    have h1 := List.find?_some e
    have h2 := List.mem_of_find?_eq_some e
    have h3 : p.1 = k := by simpa using h1
    subst h3
    exact h2
theorem valD_some {kvs : List (Key × D)} {k : Key} {d : D} (h : (k, d) ∈ kvs) : ∃ e, valD kvs k = some e := by
  cases e : valD kvs k with
  | some x => exact ⟨x, rfl⟩
  | none =>
    unfold valD at e
    have e2 : kvs.find? (fun kv => decide (kv.1 = k)) = none := by simpa using e
    rw [List.find?_eq_none] at e2
    exact absurd (e2 _ h) (by simp)
theorem valD_nil {k : Key} : valD [] k = none := rfl
/-- keys of a put -/
theorem keys_put {kvs : List (Key × D)} {k : Key} {v : D} : (k ∈ kvs.map (·.1) ∧ (putKD kvs k v).map (·.1) = kvs.map (·.1)) ∨ (k ∉ kvs.map (·.1) ∧ (putKD kvs k v).map (·.1) = kvs.map (·.1) ++ [k]) := by
  unfold putKD
  by_cases h : (kvs.any fun kv => decide (kv.1 = k)) = true
  · refine .inl ⟨?_, ?_⟩
    · obtain ⟨p, hp, e⟩ := List.any_eq_true.mp h
      exact List.mem_map.mpr ⟨p, hp, by simpa using e⟩
    · rw [if_pos h, List.map_map]
      refine List.map_congr_left fun kv _ => ?_
      show (if kv.1 = k then (kv.1, v) else kv).1 = kv.1
      split <;> rfl
  · refine .inr ⟨fun z => ?_, ?_⟩
    · obtain ⟨p, hp, e⟩ := List.mem_map.mp z
      exact h (List.any_eq_true.mpr ⟨p, hp, by simpa using e⟩)
    · rw [if_neg h, List.map_append]
      rfl
theorem iteD {b : Bool} {P R : Prop} (h1 : b = true → P) (h2 : b = false → R) : if b = true then P else R := by
  cases b with
  | true => rw [if_pos rfl]; exact h1 rfl
  | false => rw [if_neg Bool.false_ne_true]; exact h2 rfl
theorem yes {sd : Sd} {M : Mem} {P R : Mem → Prop} {E : ED} (h : P M) : tYesD sd M (fun b M3 => if b = true then P M3 else R M3) E := by
  show (if true = true then P M else R M)
  rw [if_pos rfl]
  exact h
theorem lstO_of {M : Mem} {p : Addr} {xs : List D} (h : M p = some (.lst xs)) : lstO M (.ref p) = some xs := by unfold lstO; simp only [h]
theorem dicO_of {M : Mem} {p : Addr} {kvs : List (Key × D)} (h : M p = some (.dic kvs)) : dicO M (.ref p) = some kvs := by unfold dicO; simp only [h]
theorem insO_of {M : Mem} {p : Addr} {c : CN} {fs : List (Str × D)} (h : M p = some (.ins c fs)) : insO M (.ref p) = some (c, fs) := by unfold insO; simp only [h]
theorem dicO_not {M : Mem} {p : Addr} {xs : List D} (h : M p = some (.lst xs)) : dicO M (.ref p) = none := by unfold dicO; simp only [h]
theorem tyL {M : Mem} {p : Addr} {xs : List D} (h : M p = some (.lst xs)) : tyD "list" M (.ref p) := ⟨rfl, xs, lstO_of h⟩
theorem inD_dic {neg : Bool} {d : D} {f : Addr} {M : Mem} {Q : KD} {kvs : List (Key × D)} {k : Key} (h : M f = some (.dic kvs)) (hk : keyD d = some k) (q : Q (.bl (notIf neg (valD kvs k).isSome)) M) : inD neg d (.ref f) M Q := by
  unfold inD; simp only [dicO_of h]; exact ⟨k, hk, q⟩
theorem inD_ref {neg : Bool} {d : D} {f : Addr} {M : Mem} {Q : KD} {xs : List D} (h : M f = some (.lst xs)) (h1 : datD d) (h2 : datD (.lst xs)) (q : Q (.bl (notIf neg (xs.any fun z => eqvD z d))) M) : inD neg d (.ref f) M Q := by
  unfold inD; simp only [dicO_not h]; exact ⟨xs, lstO_of h, h1, h2, q⟩
theorem ixD_dic {d : D} {f : Addr} {M : Mem} {Q : KD} {kvs : List (Key × D)} {k : Key} {y : D} (h : M f = some (.dic kvs)) (hk : keyD d = some k) (hv : valD kvs k = some y) (q : Q y M) : ixD (.ref f) d M Q := by
  unfold ixD; simp only [dicO_of h]; exact ⟨k, y, hk, hv, q⟩
theorem ixD_ref {i : Int} {f : Addr} {M : Mem} {Q : KD} {xs : List D} {y : D} (h : M f = some (.lst xs)) (hv : atI xs i = some y) (q : Q y M) : ixD (.ref f) (.int i) M Q := by
  unfold ixD; simp only [dicO_not h]; exact ⟨xs, i, y, lstO_of h, rfl, hv, q⟩
theorem lenD_dic {f : Addr} {M : Mem} {Q : KD} {kvs : List (Key × D)} (h : M f = some (.dic kvs)) (q : Q (.int kvs.length) M) : lenD [.ref f] M Q := by
  unfold lenD; simp only [dicO_of h]; exact q
theorem lenD_ref {f : Addr} {M : Mem} {Q : KD} {xs : List D} (h : M f = some (.lst xs)) (q : Q (.int xs.length) M) : lenD [.ref f] M Q := by
  unfold lenD; simp only [dicO_not h]; exact ⟨xs, lstO_of h, q⟩
theorem listD_ref {m : Bool} {f : Addr} {M : Mem} {Q : KD} {xs : List D} (h : M f = some (.lst xs)) (q : newL m xs M Q) : listD m [.ref f] M Q := by
  unfold listD; simp only [dicO_not h]; exact ⟨xs, lstO_of h, q⟩
theorem dic_ne {M : Mem} {p : Addr} {kvs : List (Key × D)} (h : M p = some (.dic kvs)) : dicO M (.ref p) ≠ none := by rw [dicO_of h]; exact fun z => by cases z
theorem dC_go {d : D} {sd : Sd} {M : Mem} {Q : KD} {E : ED} (h : Q d M) : dC d sd M Q E := h
theorem ixC_ref {i : Int} {f : Addr} {M : Mem} {Q : KD} {xs : List D} {y : D} {sd : Sd} {E : ED} (h : M f = some (.lst xs)) (hv : atI xs i = some y) (q : Q y M) : dC (.int i) sd M (fun e M2 => ixD (.ref f) e M2 Q) E := ixD_ref h hv q
theorem isort_of_perm {xs ys : List Int} (h : xs.Perm ys) : isort xs = isort ys := isort_uniq ((isort_perm xs).trans h) (isort_sorted xs)
theorem perm_of_nodup {xs ys : List Int} (h : xs.Nodup) (k : ys.Nodup) (e : ∀ b, b ∈ xs ↔ b ∈ ys) : xs.Perm ys := (List.perm_ext_iff_of_nodup h k).mpr e
end Dn
set_option Elab.async false
set_option linter.all false
set_option maxRecDepth 100000
set_option maxHeartbeats 4000000
/-! K80a: what the defs of the law of blocks that must come promise. -/
namespace K80
open PySem PySem.Spec PyProof.Rows L2 Dn

def bnum (bs : List Int) : Int := bs.foldl (fun n b => n * 256 + b) 1
def bsize (n : Int) : Int := if n / 256 = 1 then 1 else if n / 65536 = 1 then 2 else if n / 16777216 = 1 then 3 else if n / 4294967296 = 1 then 4 else 0
def Bts (xs : List Int) : Prop := ∀ b, b ∈ xs → 0 ≤ b ∧ b < 256
def nbl (xs : List Int) : Nat := (xs.length + 3) / 4
def ck (xs : List Int) (k : Nat) : List Int := (xs.drop (4 * k)).take 4
def chunks (xs : List Int) : List (List Int) := (List.range (nbl xs)).map (ck xs)
def blocks (xs : List Int) : List Int := (chunks xs).map bnum
def GC (xs : List Int) : Prop := Bts xs ∧ xs.length ≤ 16
structure Sto where
  f : Addr
  t : Addr
  o : Addr
  files : List (Key × D)
  temps : List (Key × D)
  old : List D
  wr : Int
def storeO (S : Sto) : MO := .ins .Store [("files", .ref S.f), ("temps", .ref S.t), ("old", .ref S.o), ("records", .lst []), ("fresh", .lst []), ("writes", .int S.wr), ("most", .non)]
structure StoreAt (M : Mem) (s : Addr) (S : Sto) : Prop where
  ms : M s = some (storeO S)
  mf : M S.f = some (.dic S.files)
  mt : M S.t = some (.dic S.temps)
  mo : M S.o = some (.lst S.old)
  ft : S.f ≠ S.t
def GF (i : Nat) (kvs : List (Key × D)) : Prop := kvs.length ≤ i ∧ ∀ kv, kv ∈ kvs → ∃ n c t, kv = (.inr n, .tup [.lst (iL c), .int t]) ∧ GC c ∧ PyData.strOk n = true
def GT (j : Nat) (kvs : List (Key × D)) : Prop := kvs.length ≤ j ∧ ∀ kv, kv ∈ kvs → ∃ n c, kv = (.inr n, .lst (iL c)) ∧ c.length ≤ 16 * j ∧ PyData.strOk n = true
def GO (l : Nat) (rs : List D) : Prop := rs.length ≤ l ∧ ∀ r, r ∈ rs → ∃ n v c, r = .tup [.str n, v, .lst (iL c)] ∧ GC c ∧ PyData.strOk n = true ∧ shD 3 v = true
structure Good (S : Sto) : Prop where
  f : GF 4 S.files
  t : GT 2 S.temps
  o : GO 2 S.old
/-- so many blocks stand in front of the temporary file -/
def okAt (xs ts : List Int) (k : Nat) : Prop := (ts.drop (4 * k)).take (ck xs k).length = ck xs k
def Kept (tm : Option D) (xs : List Int) (i : Nat) : Prop := (tm = none ∧ i = 0) ∨ ∃ ts, tm = some (.lst (iL ts)) ∧ i ≤ nbl xs ∧ (∀ j, j < i → okAt xs ts j) ∧ (i < nbl xs → ¬ okAt xs ts i)
def Far (S : Sto) (b : Int) : Prop := (∃ n c t, valD S.files (.inr n) = some (.tup [.lst (iL c), .int t]) ∧ b ∈ blocks c) ∨ ∃ n v c, .tup [.str n, v, .lst (iL c)] ∈ S.old ∧ b ∈ blocks c
def Near (S : Sto) (xs : List Int) (i : Nat) (b : Int) : Prop := b ∈ (blocks xs).take i ∨ Far S b
def Need (S : Sto) (n : Str) (xs : List Int) (b : Int) : Prop := ∃ i, Kept (valD S.temps (.inr n)) xs i ∧ b ∈ (blocks xs).drop i ∧ ¬ Near S xs i b
structure Ent where
  n : Str
  v : D
  h : D
  m : D
  d : D
  t : D
  xs : List Int
def Ent.fs (e : Ent) : List (Str × D) := [("name", .str e.n), ("vector", e.v), ("height", e.h), ("maker", e.m), ("deleted", e.d), ("time", e.t), ("blocks", .tup (iL (blocks e.xs)))]
def Ent.d' (e : Ent) : D := .ins .Entry e.fs
/-! ### the program -/
def sp_block_number : SpD := sp1 fun d M Q _ => ∃ bs : List Int, d = .lst (iL bs) ∧ Q (.int (bnum bs)) M
def sp_block_size : SpD := sp1 fun d M Q _ => ∃ n, d = .int n ∧ Q (.int (bsize n)) M
def sp_is_block : SpD := sp1 fun d M Q _ => ∃ n, d = .int n ∧ Q (.bl (decide (0 < bsize n))) M
def sp_block_bytes : SpD := sp1 fun d M Q _ => ∃ bs : List Int, d = .int (bnum bs) ∧ Bts bs ∧ 1 ≤ bs.length ∧ bs.length ≤ 4 ∧ Q (.lst (iL bs)) M
def sp_split : SpD := sp1 fun d M Q _ => ∃ xs : List Int, d = .lst (iL xs) ∧ xs.length ≤ 1000 ∧ Q (.tup (iL (blocks xs))) M
def sp_kept_blocks : SpD := sp2 fun st en M Q _ => ∃ (s : Addr) (S : Sto) (e : Ent), st = .ref s ∧ StoreAt M s S ∧ Good S ∧ en = Ent.d' e ∧ GC e.xs ∧ ∀ i, Kept (valD S.temps (.inr e.n)) e.xs i → Q (.int (i : Nat)) M
def sp_near_places : SpD := sp2 fun st en M Q _ => ∃ (s : Addr) (S : Sto) (e : Ent), st = .ref s ∧ StoreAt M s S ∧ Good S ∧ en = Ent.d' e ∧ GC e.xs ∧ ∀ i kvs p, Kept (valD S.temps (.inr e.n)) e.xs i → M p = none → (∀ k, (valD kvs k).isSome = true ↔ ∃ b, k = .inl b ∧ Near S e.xs i b) → Q (.ref p) (upm M p (.dic kvs))
def sp_missing : SpD := sp2 fun st en M Q _ => ∃ (s : Addr) (S : Sto) (e : Ent), st = .ref s ∧ StoreAt M s S ∧ Good S ∧ en = Ent.d' e ∧ GC e.xs ∧ ∀ ms : List Int, ms.length ≤ 4 → (∀ b, b ∈ ms ↔ Need S e.n e.xs b) → Q (.lst (iL ms)) M
def sp_must_come : SpD := sp2 fun st en M Q _ => ∃ (s : Addr) (S : Sto) (es : List Ent), st = .ref s ∧ StoreAt M s S ∧ Good S ∧ lstO M en = some (es.map Ent.d') ∧ es.length ≤ 3 ∧ (∀ e : Ent, e ∈ es → GC e.xs) ∧ ∀ ks : List Int, ks.Nodup → (∀ b, b ∈ ks ↔ ∃ e : Ent, e ∈ es ∧ Need S e.n e.xs b) → Q (.lst (iL (isort ks))) M
def sp_Entry___init__ : SpD := fun ds M Q _ => ∃ a n v h m d t b, ds = [.ref a, n, v, h, m, d, t, b] ∧ M a = some (.ins .Entry []) ∧ Q .non (upm M a (.ins .Entry [("name", n), ("vector", v), ("height", h), ("maker", m), ("deleted", d), ("time", t), ("blocks", b)]))
def sp_Store___init__ : SpD := sp3 fun se fi lo M Q _ => ∃ (s a : Addr), se = .ref s ∧ fi = .ref a ∧ M a = some (.dic []) ∧ M s = some (.ins .Store []) ∧ lo = .lst [] ∧ ∀ (M' : Mem) (S : Sto), Fr M M' [s, S.f, S.t, S.o] → M S.f = none → M S.t = none → M S.o = none → StoreAt M' s S → S.files = [] → S.temps = [] → S.old = [] → Q .non M'
def sp_Store_write_now : SpD := sp1 fun se M Q _ => ∃ (s : Addr) (S : Sto), se = .ref s ∧ StoreAt M s S ∧ Q .non (upm M s (storeO { S with wr := S.wr + 1 }))
def sp_Store_names : SpD := sp1 fun se M Q _ => ∃ (s : Addr) (S : Sto) (ns : List Str), se = .ref s ∧ StoreAt M s S ∧ S.files.map (·.1) = ns.map Sum.inr ∧ ns.length < 64 ∧ Q (.lst ((ssort ns).map D.str)) M
def sp_Store_temp_names : SpD := sp1 fun se M Q _ => ∃ (s : Addr) (S : Sto) (ns : List Str), se = .ref s ∧ StoreAt M s S ∧ S.temps.map (·.1) = ns.map Sum.inr ∧ ns.length < 64 ∧ Q (.lst ((ssort ns).map D.str)) M
def sp_Store_read : SpD := sp2 fun se na M Q _ => ∃ (s : Addr) (S : Sto) (n : Str) (c : List Int) (t : Int), se = .ref s ∧ StoreAt M s S ∧ na = .str n ∧ valD S.files (.inr n) = some (.tup [.lst (iL c), .int t]) ∧ Q (.tup [.lst (iL c), .int t]) M
def sp_Store_write : SpD := sp4 fun se na co ti M Q _ => ∃ (s : Addr) (S : Sto) (n : Str) (c : List Int) (t : Int), se = .ref s ∧ StoreAt M s S ∧ na = .str n ∧ co = .lst (iL c) ∧ ti = .int t ∧ S.files.length < 100 ∧ Q .non (upm (upm M s (storeO { S with wr := S.wr + 1 })) S.f (.dic (putKD S.files (.inr n) (.tup [.lst (iL c), .int t]))))
def sp_Store_temp : SpD := sp2 fun se na M Q _ => ∃ (s : Addr) (S : Sto) (n : Str), se = .ref s ∧ StoreAt M s S ∧ na = .str n ∧ ((valD S.temps (.inr n) = none ∧ Q .non M) ∨ ∃ ts, valD S.temps (.inr n) = some (.lst (iL ts)) ∧ Q (.lst (iL ts)) M)
def sp_Store_append_temp : SpD := sp3 fun se na da M Q _ => ∃ (s : Addr) (S : Sto) (n : Str) (c : List Int) (j : Nat), se = .ref s ∧ StoreAt M s S ∧ na = .str n ∧ PyData.strOk n = true ∧ da = .lst (iL c) ∧ c.length ≤ 16 ∧ GT j S.temps ∧ j ≤ 2 ∧ ∀ M' tm wr, Fr M M' [s, S.t] → StoreAt M' s { S with temps := tm, wr := wr } → GT (j + 1) tm → Q .non M'
def sp_Store_attic : SpD := sp1 fun se M Q _ => ∃ (s : Addr) (S : Sto), se = .ref s ∧ StoreAt M s S ∧ GO 2 S.old ∧ Q (.lst S.old) M
def sp_Store_attic_put : SpD := sp4 fun se na ve co M Q _ => ∃ (s : Addr) (S : Sto) (n : Str) (c : List Int), se = .ref s ∧ StoreAt M s S ∧ na = .str n ∧ co = .lst (iL c) ∧ S.old.length < 100 ∧ Q .non (upm (upm M s (storeO { S with wr := S.wr + 1 })) S.o (.lst (S.old ++ [.tup [.str n, ve, .lst (iL c)]])))
def rowF (kvs : List (Key × D)) (n : Str) : D := match valD kvs (.inr n) with
  | some (.tup [.lst c, t]) => .tup [.str n, .tup c, t]
  | _ => .non
def rowT (kvs : List (Key × D)) (n : Str) : D := match valD kvs (.inr n) with
  | some (.lst c) => .tup [.str n, .tup c]
  | _ => .non
def rowO : D → D
  | .tup [n, v, .lst c] => .tup [n, v, .tup c]
  | _ => .non
def kS : List (Key × D) → List Str := fun kvs => kvs.filterMap fun kv => match kv.1 with
  | .inr n => some n
  | .inl _ => none
def dur (S : Sto) : D := .tup [.tup ((ssort (kS S.files)).map (rowF S.files)), .tup ((ssort (kS S.temps)).map (rowT S.temps)), .tup (S.old.map rowO), .tup [], .tup []]
def sp_Store_durable : SpD := sp1 fun se M Q _ => ∃ (s : Addr) (S : Sto), se = .ref s ∧ StoreAt M s S ∧ Good S ∧ Q (dur S) M
/-! ### the law -/
def DrawAt (M : Mem) (a : Addr) : Prop := ∃ (xs : List Int) (i : Nat) (big seed : Int), M a = some (.lst [.lst (iL xs), .int i, .int big, .int seed]) ∧ i ≤ xs.length ∧ 0 ≤ big ∧ 0 ≤ seed ∧ seed < 2147483648
def sp_u_law_draws : SpD := sp1 fun sc M Q _ => ∃ ns, sc = .scr ns ∧ ∀ M' p, M p = none → Fr M M' [p] → DrawAt M' p → Q (.ref p) M'
def sp_u_law_draw : SpD := sp2 fun dr li M Q _ => ∃ a lim, dr = .ref a ∧ li = .int lim ∧ 0 < lim ∧ lim < 1000000 ∧ DrawAt M a ∧ ∀ M' (r : Nat), Fr M M' [a] → DrawAt M' a → (r : Int) < lim → Q (.int r) M'
def sp_u_law_content : SpD := sp1 fun dr M Q _ => ∃ a, dr = .ref a ∧ DrawAt M a ∧ ∀ M' xs, Fr M M' [a] → DrawAt M' a → GC xs → Q (.lst (iL xs)) M'
def pieces (xs : List Int) : List D := (chunks xs).map fun c => .tup (iL c)
def sp_u_law_pieces : SpD := sp1 fun d M Q _ => ∃ xs : List Int, d = .lst (iL xs) ∧ xs.length ≤ 1000 ∧ Q (.lst (pieces xs)) M
def sp_u_law_number : SpD := sp1 fun d M Q _ => ∃ bs : List Int, d = .tup (iL bs) ∧ Q (.int (bnum bs)) M
def sp_u_law_missing : SpD := sp3 fun st na co M Q _ => ∃ (s : Addr) (S : Sto) (n : Str) (xs : List Int), st = .ref s ∧ StoreAt M s S ∧ Good S ∧ na = .str n ∧ co = .lst (iL xs) ∧ GC xs ∧ ∀ ms : List Int, ms.length ≤ 4 → (∀ b, b ∈ ms ↔ Need S n xs b) → Q (.lst (iL ms)) M
def sp_law : SpD := sp1 fun sc M Q _ => ∃ ns, sc = .scr ns ∧ (∀ a, M a = none) ∧ ∀ M', Q (.bl true) M'
end K80
set_option Elab.async false
set_option linter.all false
set_option maxRecDepth 100000
set_option maxHeartbeats 4000000
/-! K80b: the defs as they stand, their readings, the head's facts (printed by emit.py). -/
namespace K80
open PySem PySem.Spec PyProof.Rows L2 Dn
def topS (i : Nat) : Stmt := PySem.Challenge.pw_folderkin_k80_blocks_that_must_come.main.body.getD i (.Pass ⟨0, 0, 0, 0⟩)
abbrev s_block_number : Stmt := topS 7
def td_block_number : TDs := dSeq (dAsg (dC (.int 1)) (dgName 1))
  (dSeq (dFor (iLst (dVar 0)) (dgName 2) (dAsg (dOp (addD false) (dOp (mulD false) (dVar 1) (dC (.int 256))) (dVar 2)) (dgName 1)))
  (dRet (dVar 1)))
def N_block_number : List Str := ["data", "number", "byte"]
theorem sc_block_number : FnScope ["data", "number", "byte"] ["data"] (defScope s_block_number) := ⟨rfl, rfl, rfl, by decide +kernel, rfl, by decide +kernel, by decide +kernel⟩
abbrev s_block_size : Stmt := topS 8
def td_block_size : TDs := dSeq (dFor (Dn.iRng2 (dCons (dC (.int 1)) (dCons (dOp (addD false) (dC (.int 4)) (dC (.int 1))) (dNil)))) (dgName 1) (dIfS (dTst (dOp (eqD false) (dOp (shrD) (dVar 0) (dOp (mulD false) (dC (.int 8)) (dVar 1))) (dC (.int 1)))) (dRet (dVar 1)) (dNext)))
  (dRet (dC (.int 0)))
def N_block_size : List Str := ["number", "size"]
theorem sc_block_size : FnScope ["number", "size"] ["number"] (defScope s_block_size) := ⟨rfl, rfl, rfl, by decide +kernel, rfl, by decide +kernel, by decide +kernel⟩
abbrev s_is_block : Stmt := topS 9
def td_is_block : TDs := dRet (dOp (gtD) (dCall sp_block_size [] (dCons (dVar 0) (dNil))) (dC (.int 0)))
def N_is_block : List Str := ["number"]
theorem sc_is_block : FnScope ["number"] ["number"] (defScope s_is_block) := ⟨rfl, rfl, rfl, by decide +kernel, rfl, by decide +kernel, by decide +kernel⟩
abbrev s_block_bytes : Stmt := topS 10
def td_block_bytes : TDs := dSeq (dIfS (tNotD (dTst (dCall sp_is_block [] (dCons (dVar 0) (dNil))))) (dNever) (dNext))
  (dSeq (dAsg (dLst true (dNil)) (dgName 1))
  (dSeq (dWhile (dTst (dOp (gtD) (dVar 0) (dC (.int 1)))) (dSeq (dDrop (dBM "list" insertD (dVar 1) (dCons (dC (.int 0)) (dCons (dOp (modD) (dVar 0) (dC (.int 256))) (dNil)))))
  (dAsg (dOp (fdivD) (dVar 0) (dC (.int 256))) (dgName 0))))
  (dRet (dVar 1))))
def N_block_bytes : List Str := ["number", "data"]
theorem sc_block_bytes : FnScope ["number", "data"] ["number"] (defScope s_block_bytes) := ⟨rfl, rfl, rfl, by decide +kernel, rfl, by decide +kernel, by decide +kernel⟩
abbrev s_split : Stmt := topS 11
def td_split : TDs := dRet (dCB (tupD) (dCons (dLc false (Dn.iRng3 (dCons (dC (.int 0)) (dCons (dCB (lenD) (dCons (dVar 0) (dNil))) (dCons (dC (.int 4)) (dNil))))) (.one 1) (tYesD) (dCall sp_block_number [] (dCons (dSl false (dVar 0) (dPart (dVar 1)) (dPart (dOp (addD false) (dVar 1) (dC (.int 4))))) (dNil))) [1]) (dNil)))
def N_split : List Str := ["content", "at"]
theorem sc_split : FnScope ["content", "at"] ["content"] (defScope s_split) := ⟨rfl, rfl, rfl, by decide +kernel, rfl, by decide +kernel, by decide +kernel⟩
abbrev s_Entry___init__ : Stmt := inClass (topS 22) 0
def td_Entry___init__ : TDs := dSeq (dFldS (dVar 0) (dVar 1) "name")
  (dSeq (dFldS (dVar 0) (dVar 2) "vector")
  (dSeq (dFldS (dVar 0) (dVar 3) "height")
  (dSeq (dFldS (dVar 0) (dVar 4) "maker")
  (dSeq (dFldS (dVar 0) (dVar 5) "deleted")
  (dSeq (dFldS (dVar 0) (dVar 6) "time")
  (dFldS (dVar 0) (dVar 7) "blocks"))))))
def N_Entry___init__ : List Str := ["self", "name", "vector", "height", "maker", "deleted", "time", "blocks"]
theorem sc_Entry___init__ : FnScope ["self", "name", "vector", "height", "maker", "deleted", "time", "blocks"] ["self", "name", "vector", "height", "maker", "deleted", "time", "blocks"] (defScope s_Entry___init__) := ⟨rfl, rfl, rfl, by decide +kernel, rfl, by decide +kernel, by decide +kernel⟩
abbrev s_Store___init__ : Stmt := inClass (topS 24) 0
def td_Store___init__ : TDs := dSeq (dFldS (dVar 0) (dDic0) "files")
  (dSeq (dForK0 1)
  (dSeq (dFldS (dVar 0) (dDic0) "temps")
  (dSeq (dFldS (dVar 0) (dLst true (dNil)) "old")
  (dSeq (dFldS (dVar 0) (dCB (listD false) (dCons (dVar 2) (dNil))) "records")
  (dSeq (dFldS (dVar 0) (dLst false (dNil)) "fresh")
  (dSeq (dFldS (dVar 0) (dC (.int 0)) "writes")
  (dFldS (dVar 0) (dC .non) "most")))))))
def N_Store___init__ : List Str := ["self", "files", "log", "name", "content", "time"]
theorem sc_Store___init__ : FnScope ["self", "files", "log", "name", "content", "time"] ["self", "files", "log"] (defScope s_Store___init__) := ⟨rfl, rfl, rfl, by decide +kernel, rfl, by decide +kernel, by decide +kernel⟩
abbrev s_Store_write_now : Stmt := inClass (topS 24) 3
def td_Store_write_now : TDs := dSeq (dIfS (tAndD (dTst (dNotN (dFld "most" (dVar 0)))) (dTst (dOp (geD) (dFld "writes" (dVar 0)) (dFld "most" (dVar 0))))) (dNever) (dNext))
  (dFldA (dVar 0) (dC (.int 1)) addI "writes")
def N_Store_write_now : List Str := ["self"]
theorem sc_Store_write_now : FnScope ["self"] ["self"] (defScope s_Store_write_now) := ⟨rfl, rfl, rfl, by decide +kernel, rfl, by decide +kernel, by decide +kernel⟩
abbrev s_Store_names : Stmt := inClass (topS 24) 4
def td_Store_names : TDs := dRet (dCB (sortD false) (dCons (dFld "files" (dVar 0)) (dNil)))
def N_Store_names : List Str := ["self"]
theorem sc_Store_names : FnScope ["self"] ["self"] (defScope s_Store_names) := ⟨rfl, rfl, rfl, by decide +kernel, rfl, by decide +kernel, by decide +kernel⟩
abbrev s_Store_temp_names : Stmt := inClass (topS 24) 9
def td_Store_temp_names : TDs := dRet (dCB (sortD false) (dCons (dFld "temps" (dVar 0)) (dNil)))
def N_Store_temp_names : List Str := ["self"]
theorem sc_Store_temp_names : FnScope ["self"] ["self"] (defScope s_Store_temp_names) := ⟨rfl, rfl, rfl, by decide +kernel, rfl, by decide +kernel, by decide +kernel⟩
abbrev s_Store_read : Stmt := inClass (topS 24) 5
def td_Store_read : TDs := dSeq (dIfS (dTst (dOp (inD true) (dVar 1) (dFld "files" (dVar 0)))) (dRet (dC .non)) (dNext))
  (dSeq (dAsg (dOp ixD (dFld "files" (dVar 0)) (dVar 1)) (dgTup 2 (dgCons (dgName 2) (dgCons (dgName 3) (dgNil)))))
  (dRet (dTup (dCons (dCB (listD false) (dCons (dVar 2) (dNil))) (dCons (dVar 3) (dNil))))))
def N_Store_read : List Str := ["self", "name", "content", "time"]
theorem sc_Store_read : FnScope ["self", "name", "content", "time"] ["self", "name"] (defScope s_Store_read) := ⟨rfl, rfl, rfl, by decide +kernel, rfl, by decide +kernel, by decide +kernel⟩
abbrev s_Store_write : Stmt := inClass (topS 24) 6
def td_Store_write : TDs := dSeq (dDrop (dMeth .Store "write_now" sp_Store_write_now [] (dVar 0) (dNil)))
  (dAsg (dTup (dCons (dCB (listD false) (dCons (dVar 2) (dNil))) (dCons (dVar 3) (dNil)))) (dgSub (dFld "files" (dVar 0)) (dVar 1)))
def N_Store_write : List Str := ["self", "name", "content", "time"]
theorem sc_Store_write : FnScope ["self", "name", "content", "time"] ["self", "name", "content", "time"] (defScope s_Store_write) := ⟨rfl, rfl, rfl, by decide +kernel, rfl, by decide +kernel, by decide +kernel⟩
abbrev s_Store_temp : Stmt := inClass (topS 24) 10
def td_Store_temp : TDs := dSeq (dIfS (dTst (dOp (inD true) (dVar 1) (dFld "temps" (dVar 0)))) (dRet (dC .non)) (dNext))
  (dRet (dCB (listD false) (dCons (dOp ixD (dFld "temps" (dVar 0)) (dVar 1)) (dNil))))
def N_Store_temp : List Str := ["self", "name"]
theorem sc_Store_temp : FnScope ["self", "name"] ["self", "name"] (defScope s_Store_temp) := ⟨rfl, rfl, rfl, by decide +kernel, rfl, by decide +kernel, by decide +kernel⟩
abbrev s_Store_append_temp : Stmt := inClass (topS 24) 11
def td_Store_append_temp : TDs := dFor (iLst (dVar 2)) (dgName 3) (dSeq (dDrop (dMeth .Store "write_now" sp_Store_write_now [] (dVar 0) (dNil)))
  (dAsg (dOp (addD false) (dGet2 (dFld "temps" (dVar 0)) (dVar 1) (dLst false (dNil))) (dLst false (dCons (dVar 3) (dNil)))) (dgSub (dFld "temps" (dVar 0)) (dVar 1))))
def N_Store_append_temp : List Str := ["self", "name", "data", "byte"]
theorem sc_Store_append_temp : FnScope ["self", "name", "data", "byte"] ["self", "name", "data"] (defScope s_Store_append_temp) := ⟨rfl, rfl, rfl, by decide +kernel, rfl, by decide +kernel, by decide +kernel⟩
abbrev s_Store_attic : Stmt := inClass (topS 24) 14
def td_Store_attic : TDs := dRet (dLc false (iLst (dFld "old" (dVar 0))) (.tup [2, 3, 1]) (tYesD) (dTup (dCons (dVar 2) (dCons (dVar 3) (dCons (dCB (listD false) (dCons (dVar 1) (dNil))) (dNil))))) [2, 3, 1])
def N_Store_attic : List Str := ["self", "content", "name", "vector"]
theorem sc_Store_attic : FnScope ["self", "content", "name", "vector"] ["self"] (defScope s_Store_attic) := ⟨rfl, rfl, rfl, by decide +kernel, rfl, by decide +kernel, by decide +kernel⟩
abbrev s_Store_attic_put : Stmt := inClass (topS 24) 15
def td_Store_attic_put : TDs := dSeq (dDrop (dMeth .Store "write_now" sp_Store_write_now [] (dVar 0) (dNil)))
  (dDrop (dBM "list" appendD (dFld "old" (dVar 0)) (dCons (dTup (dCons (dVar 1) (dCons (dVar 2) (dCons (dCB (listD false) (dCons (dVar 3) (dNil))) (dNil))))) (dNil))))
def N_Store_attic_put : List Str := ["self", "name", "vector", "content"]
theorem sc_Store_attic_put : FnScope ["self", "name", "vector", "content"] ["self", "name", "vector", "content"] (defScope s_Store_attic_put) := ⟨rfl, rfl, rfl, by decide +kernel, rfl, by decide +kernel, by decide +kernel⟩
abbrev s_Store_durable : Stmt := inClass (topS 24) 23
def td_Store_durable : TDs := dSeq (dAsg (dCB (tupD) (dCons (dLc false (iLst (dMeth .Store "names" sp_Store_names [] (dVar 0) (dNil))) (.one 4) (tYesD) (dTup (dCons (dVar 4) (dCons (dCB (tupD) (dCons (dOp ixD (dOp ixD (dFld "files" (dVar 0)) (dVar 4)) (dC (.int 0))) (dNil))) (dCons (dOp ixD (dOp ixD (dFld "files" (dVar 0)) (dVar 4)) (dC (.int 1))) (dNil))))) [4]) (dNil))) (dgName 1))
  (dSeq (dAsg (dCB (tupD) (dCons (dLc false (iLst (dMeth .Store "temp_names" sp_Store_temp_names [] (dVar 0) (dNil))) (.one 4) (tYesD) (dTup (dCons (dVar 4) (dCons (dCB (tupD) (dCons (dOp ixD (dFld "temps" (dVar 0)) (dVar 4)) (dNil))) (dNil)))) [4]) (dNil))) (dgName 2))
  (dSeq (dAsg (dCB (tupD) (dCons (dLc false (iLst (dFld "old" (dVar 0))) (.tup [4, 6, 5]) (tYesD) (dTup (dCons (dVar 4) (dCons (dVar 6) (dCons (dCB (tupD) (dCons (dVar 5) (dNil))) (dNil))))) [4, 6, 5]) (dNil))) (dgName 3))
  (dRet (dTup (dCons (dVar 1) (dCons (dVar 2) (dCons (dVar 3) (dCons (dCB (tupD) (dCons (dFld "records" (dVar 0)) (dNil))) (dCons (dCB (tupD) (dCons (dFld "fresh" (dVar 0)) (dNil))) (dNil))))))))))
def N_Store_durable : List Str := ["self", "files", "temps", "old", "name", "content", "vector"]
theorem sc_Store_durable : FnScope ["self", "files", "temps", "old", "name", "content", "vector"] ["self"] (defScope s_Store_durable) := ⟨rfl, rfl, rfl, by decide +kernel, rfl, by decide +kernel, by decide +kernel⟩
abbrev s_kept_blocks : Stmt := topS 16
def td_kept_blocks : TDs := dSeq (dAsg (dMeth .Store "temp" sp_Store_temp [] (dVar 0) (dCons (dFld "name" (dVar 1)) (dNil))) (dgName 2))
  (dSeq (dAsg (dC (.int 0)) (dgName 3))
  (dSeq (dIfS (dTst (dNotN (dVar 2))) (dSeq (dAsg (dC (.int 0)) (dgName 4))
  (dWhile (dTst (dOp (ltD) (dVar 3) (dCB (lenD) (dCons (dFld "blocks" (dVar 1)) (dNil))))) (dSeq (dAsg (dCall sp_block_bytes [] (dCons (dOp ixD (dFld "blocks" (dVar 1)) (dVar 3)) (dNil))) (dgName 5))
  (dSeq (dIfS (dTst (dOp (eqD true) (dSl false (dVar 2) (dPart (dVar 4)) (dPart (dOp (addD false) (dVar 4) (dCB (lenD) (dCons (dVar 5) (dNil)))))) (dVar 5))) (dRet (dVar 3)) (dNext))
  (dSeq (dAug 4 addA (dCB (lenD) (dCons (dVar 5) (dNil))))
  (dAug 3 addA (dC (.int 1)))))))) (dNext))
  (dRet (dVar 3))))
def N_kept_blocks : List Str := ["store", "entry", "temp", "count", "length", "content"]
theorem sc_kept_blocks : FnScope ["store", "entry", "temp", "count", "length", "content"] ["store", "entry"] (defScope s_kept_blocks) := ⟨rfl, rfl, rfl, by decide +kernel, rfl, by decide +kernel, by decide +kernel⟩
abbrev s_near_places : Stmt := topS 17
def td_near_places : TDs := dSeq (dAsg (dDic0) (dgName 2))
  (dSeq (dAsg (dLst true (dCons (dTup (dCons (dC (.str "temp")) (dCons (dFld "name" (dVar 1)) (dCons (dSl false (dFld "blocks" (dVar 1)) (dNoPart) (dPart (dCall sp_kept_blocks [] (dCons (dVar 0) (dCons (dVar 1) (dNil)))))) (dNil))))) (dNil))) (dgName 3))
  (dSeq (dFor (iLst (dMeth .Store "names" sp_Store_names [] (dVar 0) (dNil))) (dgName 4) (dDrop (dBM "list" appendD (dVar 3) (dCons (dTup (dCons (dC (.str "file")) (dCons (dVar 4) (dCons (dCall sp_split [] (dCons (dOp ixD (dMeth .Store "read" sp_Store_read [] (dVar 0) (dCons (dVar 4) (dNil))) (dC (.int 0))) (dNil))) (dNil))))) (dNil)))))
  (dSeq (dAsg (dMeth .Store "attic" sp_Store_attic [] (dVar 0) (dNil)) (dgName 5))
  (dSeq (dFor (Dn.iRng1 (dCons (dCB (lenD) (dCons (dVar 5) (dNil))) (dNil))) (dgName 6) (dDrop (dBM "list" appendD (dVar 3) (dCons (dTup (dCons (dC (.str "attic")) (dCons (dVar 6) (dCons (dCall sp_split [] (dCons (dOp ixD (dOp ixD (dVar 5) (dVar 6)) (dC (.int 2))) (dNil))) (dNil))))) (dNil)))))
  (dSeq (dFor (iLst (dVar 3)) (dgTup 3 (dgCons (dgName 7) (dgCons (dgName 8) (dgCons (dgName 9) (dgNil))))) (dFor (Dn.iRng1 (dCons (dCB (lenD) (dCons (dVar 9) (dNil))) (dNil))) (dgName 6) (dIfS (dTst (dOp (inD true) (dOp ixD (dVar 9) (dVar 6)) (dVar 2))) (dAsg (dTup (dCons (dVar 7) (dCons (dVar 8) (dCons (dVar 6) (dNil))))) (dgSub (dVar 2) (dOp ixD (dVar 9) (dVar 6)))) (dNext))))
  (dRet (dVar 2)))))))
def N_near_places : List Str := ["store", "entry", "found", "lots", "other", "old", "k", "kind", "where", "blocks"]
theorem sc_near_places : FnScope ["store", "entry", "found", "lots", "other", "old", "k", "kind", "where", "blocks"] ["store", "entry"] (defScope s_near_places) := ⟨rfl, rfl, rfl, by decide +kernel, rfl, by decide +kernel, by decide +kernel⟩
abbrev s_missing : Stmt := topS 18
def td_missing : TDs := dSeq (dAsg (dCall sp_near_places [] (dCons (dVar 0) (dCons (dVar 1) (dNil)))) (dgName 2))
  (dSeq (dAsg (dLst true (dNil)) (dgName 3))
  (dSeq (dFor (Dn.iTup (dSl false (dFld "blocks" (dVar 1)) (dPart (dCall sp_kept_blocks [] (dCons (dVar 0) (dCons (dVar 1) (dNil))))) (dNoPart))) (dgName 4) (dIfS (tAndD (dTst (dOp (inD true) (dVar 4) (dVar 2))) (dTst (dOp (inD true) (dVar 4) (dVar 3)))) (dDrop (dBM "list" appendD (dVar 3) (dCons (dVar 4) (dNil)))) (dNext)))
  (dRet (dVar 3))))
def N_missing : List Str := ["store", "entry", "near", "found", "block"]
theorem sc_missing : FnScope ["store", "entry", "near", "found", "block"] ["store", "entry"] (defScope s_missing) := ⟨rfl, rfl, rfl, by decide +kernel, rfl, by decide +kernel, by decide +kernel⟩
abbrev s_must_come : Stmt := topS 20
def td_must_come : TDs := dSeq (dAsg (dDic0) (dgName 2))
  (dSeq (dFor (iLst (dVar 1)) (dgName 3) (dFor (iLst (dCall sp_missing [] (dCons (dVar 0) (dCons (dVar 3) (dNil))))) (dgName 4) (dAsg (dC (.bl true)) (dgSub (dVar 2) (dVar 4)))))
  (dRet (dCB (sortD false) (dCons (dVar 2) (dNil)))))
def N_must_come : List Str := ["store", "entries", "found", "entry", "block"]
theorem sc_must_come : FnScope ["store", "entries", "found", "entry", "block"] ["store", "entries"] (defScope s_must_come) := ⟨rfl, rfl, rfl, by decide +kernel, rfl, by decide +kernel, by decide +kernel⟩
abbrev s_u_law_draws : Stmt := topS 26
def td_u_law_draws : TDs := dRet (dLst true (dCons (dCB (listD false) (dCons (dVar 0) (dNil))) (dCons (dC (.int 0)) (dCons (dC (.int 0)) (dCons (dC (.int 1)) (dNil))))))
def N_u_law_draws : List Str := ["_law_script"]
theorem sc_u_law_draws : FnScope ["_law_script"] ["_law_script"] (defScope s_u_law_draws) := ⟨rfl, rfl, rfl, by decide +kernel, rfl, by decide +kernel, by decide +kernel⟩
abbrev s_u_law_draw : Stmt := topS 27
def td_u_law_draw_4 : TDs := dRet (dOp (modD) (dCB (intCD) (dCons (dOp (fdivD) (dOp ixD (dVar 0) (dC (.int 3))) (dC (.int 11))) (dNil))) (dVar 1))
def td_u_law_draw_3 : TDs := dSeq (dAsg (dOp (modD) (dCB (intCD) (dCons (dOp (addD false) (dOp (mulD false) (dOp ixD (dVar 0) (dC (.int 3))) (dC (.int 69621))) (dC (.int 7))) (dNil))) (dC (.int 2147483629))) (dgSub (dVar 0) (dC (.int 3)))) td_u_law_draw_4
def td_u_law_draw_2 : TDs := dSeq (dIfS (dTst (dOp (gtD) (dOp ixD (dVar 0) (dC (.int 2))) (dC (.int 0)))) (dSeq (dAsg (dOp (modD) (dCB (intCD) (dCons (dOp ixD (dVar 0) (dC (.int 2))) (dNil))) (dVar 1)) (dgName 3))
  (dSeq (dAsg (dOp (fdivD) (dOp ixD (dVar 0) (dC (.int 2))) (dVar 1)) (dgSub (dVar 0) (dC (.int 2))))
  (dRet (dVar 3)))) (dNext)) td_u_law_draw_3
def td_u_law_draw : TDs := dSeq (dIfS (tAndD (dTst (dOp (eqD false) (dOp ixD (dVar 0) (dC (.int 2))) (dC (.int 0)))) (dTst (dOp (ltD) (dOp ixD (dVar 0) (dC (.int 1))) (dCB (lenD) (dCons (dOp ixD (dVar 0) (dC (.int 0))) (dNil)))))) (dSeq (dAsg (dCB (absD) (dCons (dCB (intCD) (dCons (dOp ixD (dOp ixD (dVar 0) (dC (.int 0))) (dOp ixD (dVar 0) (dC (.int 1)))) (dNil))) (dNil))) (dgName 2))
  (dSeq (dAsg (dOp (addD false) (dOp ixD (dVar 0) (dC (.int 1))) (dC (.int 1))) (dgSub (dVar 0) (dC (.int 1))))
  (dSeq (dIfS (dTst (dOp (geD) (dVar 2) (dOp (powD) (dC (.int 10)) (dC (.int 18))))) (dAsg (dVar 2) (dgSub (dVar 0) (dC (.int 2)))) (dNext))
  (dAsg (dOp (modD) (dCB (intCD) (dCons (dOp (addD false) (dOp (addD false) (dOp (mulD false) (dOp ixD (dVar 0) (dC (.int 3))) (dC (.int 48271))) (dVar 2)) (dC (.int 13))) (dNil))) (dC (.int 2147483647))) (dgSub (dVar 0) (dC (.int 3))))))) (dNext)) td_u_law_draw_2
def N_u_law_draw : List Str := ["_law_draws_here", "_law_limit", "_law_cell", "_law_value"]
theorem sc_u_law_draw : FnScope ["_law_draws_here", "_law_limit", "_law_cell", "_law_value"] ["_law_draws_here", "_law_limit"] (defScope s_u_law_draw) := ⟨rfl, rfl, rfl, by decide +kernel, rfl, by decide +kernel, by decide +kernel⟩
abbrev s_u_law_content : Stmt := topS 28
def td_u_law_content_4 : TDs := dRet (dVar 2)
def td_u_law_content_3 : TDs := dSeq (dFor (Dn.iRng1 (dCons (dCall sp_u_law_draw [] (dCons (dVar 0) (dCons (dC (.int 5)) (dNil)))) (dNil))) (dgName 3) (dAsg (dOp (addD false) (dVar 2) (dOp ixD (dVar 1) (dCall sp_u_law_draw [] (dCons (dVar 0) (dCons (dC (.int 6)) (dNil)))))) (dgName 2))) td_u_law_content_4
def td_u_law_content_2 : TDs := dSeq (dAsg (dLst false (dNil)) (dgName 2)) td_u_law_content_3
def td_u_law_content : TDs := dSeq (dAsg (dLst false (dCons (dLst false (dCons (dC (.int 1)) (dCons (dC (.int 2)) (dCons (dC (.int 3)) (dCons (dC (.int 4)) (dNil)))))) (dCons (dLst false (dCons (dC (.int 0)) (dCons (dC (.int 0)) (dCons (dC (.int 0)) (dCons (dC (.int 0)) (dNil)))))) (dCons (dLst false (dCons (dC (.int 9)) (dCons (dC (.int 9)) (dCons (dC (.int 9)) (dCons (dC (.int 9)) (dNil)))))) (dCons (dLst false (dCons (dC (.int 5)) (dNil))) (dCons (dLst false (dCons (dC (.int 9)) (dCons (dC (.int 9)) (dNil)))) (dCons (dLst false (dCons (dC (.int 1)) (dCons (dC (.int 2)) (dCons (dC (.int 3)) (dNil))))) (dNil)))))))) (dgName 1)) td_u_law_content_2
def N_u_law_content : List Str := ["_law_draws_here", "_law_words", "_law_content_here", "_law_k"]
theorem sc_u_law_content : FnScope ["_law_draws_here", "_law_words", "_law_content_here", "_law_k"] ["_law_draws_here"] (defScope s_u_law_content) := ⟨rfl, rfl, rfl, by decide +kernel, rfl, by decide +kernel, by decide +kernel⟩
abbrev s_u_law_pieces : Stmt := topS 29
def td_u_law_pieces : TDs := dRet (dLc false (Dn.iRng3 (dCons (dC (.int 0)) (dCons (dCB (lenD) (dCons (dVar 0) (dNil))) (dCons (dC (.int 4)) (dNil))))) (.one 1) (tYesD) (dCB (tupD) (dCons (dSl false (dVar 0) (dPart (dVar 1)) (dPart (dOp (addD false) (dVar 1) (dC (.int 4))))) (dNil))) [1])
def N_u_law_pieces : List Str := ["_law_content_here", "_law_at"]
theorem sc_u_law_pieces : FnScope ["_law_content_here", "_law_at"] ["_law_content_here"] (defScope s_u_law_pieces) := ⟨rfl, rfl, rfl, by decide +kernel, rfl, by decide +kernel, by decide +kernel⟩
abbrev s_u_law_number : Stmt := topS 30
def td_u_law_number : TDs := dSeq (dAsg (dC (.int 1)) (dgName 1))
  (dSeq (dFor (Dn.iTup (dVar 0)) (dgName 2) (dAsg (dOp (addD false) (dOp (mulD false) (dVar 1) (dC (.int 256))) (dVar 2)) (dgName 1)))
  (dRet (dVar 1)))
def N_u_law_number : List Str := ["_law_piece", "_law_number_here", "_law_byte"]
theorem sc_u_law_number : FnScope ["_law_piece", "_law_number_here", "_law_byte"] ["_law_piece"] (defScope s_u_law_number) := ⟨rfl, rfl, rfl, by decide +kernel, rfl, by decide +kernel, by decide +kernel⟩
abbrev s_u_law_missing : Stmt := topS 31
def td_u_law_missing_7 : TDs := dRet (dLc false (iLst (dSl false (dCall sp_u_law_pieces [] (dCons (dVar 2) (dNil))) (dPart (dVar 7)) (dNoPart))) (.one 10) (dTst (dOp (inD true) (dVar 10) (dVar 3))) (dCall sp_u_law_number [] (dCons (dVar 10) (dNil))) [10])
def td_u_law_missing_6 : TDs := dSeq (dIfS (dTst (dNotN (dVar 6))) (dSeq (dAsg (dCall sp_u_law_pieces [] (dCons (dVar 2) (dNil))) (dgName 8))
  (dSeq (dFor (Dn.iRng1 (dCons (dCB (lenD) (dCons (dVar 8) (dNil))) (dNil))) (dgName 9) (dIfS (tAndD (dTst (dOp (eqD false) (dSl false (dVar 6) (dPart (dOp (mulD false) (dC (.int 4)) (dVar 9))) (dPart (dOp (addD false) (dOp (mulD false) (dC (.int 4)) (dVar 9)) (dCB (lenD) (dCons (dOp ixD (dVar 8) (dVar 9)) (dNil)))))) (dCB (listD false) (dCons (dOp ixD (dVar 8) (dVar 9)) (dNil))))) (dTst (dOp (eqD false) (dVar 7) (dVar 9)))) (dAsg (dOp (addD false) (dVar 9) (dC (.int 1))) (dgName 7)) (dNext)))
  (dAsg (dOp (addD false) (dVar 3) (dSl false (dVar 8) (dNoPart) (dPart (dVar 7)))) (dgName 3)))) (dNext)) td_u_law_missing_7
def td_u_law_missing_5 : TDs := dSeq (dAsg (dC (.int 0)) (dgName 7)) td_u_law_missing_6
def td_u_law_missing_4 : TDs := dSeq (dAsg (dMeth .Store "temp" sp_Store_temp [] (dVar 0) (dCons (dVar 1) (dNil))) (dgName 6)) td_u_law_missing_5
def td_u_law_missing_3 : TDs := dSeq (dFor (iLst (dMeth .Store "attic" sp_Store_attic [] (dVar 0) (dNil))) (dgName 5) (dAsg (dOp (addD false) (dVar 3) (dCall sp_u_law_pieces [] (dCons (dOp ixD (dVar 5) (dC (.int 2))) (dNil)))) (dgName 3))) td_u_law_missing_4
def td_u_law_missing_2 : TDs := dSeq (dFor (iLst (dMeth .Store "names" sp_Store_names [] (dVar 0) (dNil))) (dgName 4) (dAsg (dOp (addD false) (dVar 3) (dCall sp_u_law_pieces [] (dCons (dOp ixD (dMeth .Store "read" sp_Store_read [] (dVar 0) (dCons (dVar 4) (dNil))) (dC (.int 0))) (dNil)))) (dgName 3))) td_u_law_missing_3
def td_u_law_missing : TDs := dSeq (dAsg (dLst false (dNil)) (dgName 3)) td_u_law_missing_2
def N_u_law_missing : List Str := ["_law_store", "_law_name", "_law_content_here", "_law_near", "_law_other", "_law_row", "_law_temp", "_law_front", "_law_pieces_here", "_law_k", "_law_piece"]
theorem sc_u_law_missing : FnScope ["_law_store", "_law_name", "_law_content_here", "_law_near", "_law_other", "_law_row", "_law_temp", "_law_front", "_law_pieces_here", "_law_k", "_law_piece"] ["_law_store", "_law_name", "_law_content_here"] (defScope s_u_law_missing) := ⟨rfl, rfl, rfl, by decide +kernel, rfl, by decide +kernel, by decide +kernel⟩
abbrev s_law : Stmt := topS 32
def td_law_12 : TDs := dRet (dAnd (dOp (eqD false) (dVar 10) (dCB (sortD false) (dCons (dCB (dictPD) (dCons (dLc false (iLst (dVar 6)) (.one 11) (tYesD) (dTup (dCons (dVar 11) (dCons (dC (.bl true)) (dNil)))) [11]) (dNil))) (dNil)))) (dAnd (dOp (eqD false) (dMeth .Store "durable" sp_Store_durable [] (dVar 2) (dNil)) (dVar 5)) (dOp (eqD false) (dCall sp_must_come [] (dCons (dVar 2) (dCons (dLst false (dNil)) (dNil)))) (dLst false (dNil)))))
def td_law_11 : TDs := dSeq (dAsg (dCall sp_must_come [] (dCons (dVar 2) (dCons (dVar 7) (dNil)))) (dgName 10)) td_law_12
def td_law_10 : TDs := dSeq (dFor (Dn.iRng1 (dCons (dOp (addD false) (dC (.int 1)) (dCall sp_u_law_draw [] (dCons (dVar 1) (dCons (dC (.int 3)) (dNil))))) (dNil))) (dgName 4) (dSeq (dAsg (dCall sp_u_law_content [] (dCons (dVar 1) (dNil))) (dgName 8))
  (dSeq (dAsg (dOp ixD (dVar 3) (dCall sp_u_law_draw [] (dCons (dVar 1) (dCons (dC (.int 4)) (dNil))))) (dgName 9))
  (dSeq (dDrop (dBM "list" appendD (dVar 7) (dCons (dMake true .Entry sp_Entry___init__ [] (dCons (dVar 9) (dCons (dTup (dCons (dTup (dCons (dC (.int 2)) (dCons (dOp (addD false) (dVar 4) (dC (.int 1))) (dNil)))) (dNil))) (dCons (dC (.int 1)) (dCons (dTup (dCons (dC (.int 2)) (dCons (dOp (addD false) (dVar 4) (dC (.int 1))) (dNil)))) (dCons (dC (.bl false)) (dCons (dC (.int 5)) (dCons (dCall sp_split [] (dCons (dVar 8) (dNil))) (dNil))))))))) (dNil))))
  (dAsg (dOp (addD false) (dVar 6) (dCall sp_u_law_missing [] (dCons (dVar 2) (dCons (dVar 9) (dCons (dVar 8) (dNil)))))) (dgName 6)))))) td_law_11
def td_law_9 : TDs := dSeq (dAsg (dLst true (dNil)) (dgName 7)) td_law_10
def td_law_8 : TDs := dSeq (dAsg (dLst false (dNil)) (dgName 6)) td_law_9
def td_law_7 : TDs := dSeq (dAsg (dMeth .Store "durable" sp_Store_durable [] (dVar 2) (dNil)) (dgName 5)) td_law_8
def td_law_6 : TDs := dSeq (dFor (Dn.iRng1 (dCons (dCall sp_u_law_draw [] (dCons (dVar 1) (dCons (dC (.int 3)) (dNil)))) (dNil))) (dgName 4) (dDrop (dMeth .Store "attic_put" sp_Store_attic_put [] (dVar 2) (dCons (dOp ixD (dVar 3) (dCall sp_u_law_draw [] (dCons (dVar 1) (dCons (dC (.int 4)) (dNil))))) (dCons (dTup (dCons (dTup (dCons (dC (.int 1)) (dCons (dOp (addD false) (dVar 4) (dC (.int 1))) (dNil)))) (dNil))) (dCons (dCall sp_u_law_content [] (dCons (dVar 1) (dNil))) (dNil))))))) td_law_7
def td_law_5 : TDs := dSeq (dFor (Dn.iRng1 (dCons (dCall sp_u_law_draw [] (dCons (dVar 1) (dCons (dC (.int 3)) (dNil)))) (dNil))) (dgName 4) (dDrop (dMeth .Store "append_temp" sp_Store_append_temp [] (dVar 2) (dCons (dOp ixD (dVar 3) (dCall sp_u_law_draw [] (dCons (dVar 1) (dCons (dC (.int 4)) (dNil))))) (dCons (dCall sp_u_law_content [] (dCons (dVar 1) (dNil))) (dNil)))))) td_law_6
def td_law_4 : TDs := dSeq (dFor (Dn.iRng1 (dCons (dCall sp_u_law_draw [] (dCons (dVar 1) (dCons (dC (.int 5)) (dNil)))) (dNil))) (dgName 4) (dDrop (dMeth .Store "write" sp_Store_write [] (dVar 2) (dCons (dOp ixD (dVar 3) (dCall sp_u_law_draw [] (dCons (dVar 1) (dCons (dC (.int 4)) (dNil))))) (dCons (dCall sp_u_law_content [] (dCons (dVar 1) (dNil))) (dCons (dC (.int 7)) (dNil))))))) td_law_5
def td_law_3 : TDs := dSeq (dAsg (dLst false (dCons (dC (.str "a")) (dCons (dC (.str "b")) (dCons (dC (.str "c")) (dCons (dC (.str "d")) (dNil)))))) (dgName 3)) td_law_4
def td_law_2 : TDs := dSeq (dAsg (dMake false .Store sp_Store___init__ [] (dCons (dDic0) (dCons (dLst false (dNil)) (dNil)))) (dgName 2)) td_law_3
def td_law : TDs := dSeq (dAsg (dCall sp_u_law_draws [] (dCons (dVar 0) (dNil))) (dgName 1)) td_law_2
def N_law : List Str := ["_law_script", "_law_draws_here", "_law_store", "_law_names", "_law_k", "_law_before", "_law_due", "_law_entries", "_law_content_here", "_law_name", "_law_found", "_law_block"]
theorem sc_law : FnScope ["_law_script", "_law_draws_here", "_law_store", "_law_names", "_law_k", "_law_before", "_law_due", "_law_entries", "_law_content_here", "_law_name", "_law_found", "_law_block"] ["_law_script"] (defScope s_law) := ⟨rfl, rfl, rfl, by decide +kernel, rfl, by decide +kernel, by decide +kernel⟩
def bs (K : PySem.W.Frag) : Bs := ⟨K, fun c => match c with
  | .Entry => He.ga K "Entry"
  | .Store => He.ga K "Store"
  | _ => He.ga K "Entry", fun x => match x with
  | .FolderkinError => He.ga K "FolderkinError"
  | .InvalidBlock => He.ga K "InvalidBlock"
  | .PowerCut => He.ga K "PowerCut"
  | _ => 0
  , fun x => He.ga K x⟩
def d_block_number : He.DefD := ⟨("block_number", none), "block_number", "block_number", defArgs s_block_number, defBody s_block_number, defScope s_block_number, [], []⟩
def d_block_size : He.DefD := ⟨("block_size", none), "block_size", "block_size", defArgs s_block_size, defBody s_block_size, defScope s_block_size, [], []⟩
def d_is_block : He.DefD := ⟨("is_block", none), "is_block", "is_block", defArgs s_is_block, defBody s_is_block, defScope s_is_block, [], []⟩
def d_block_bytes : He.DefD := ⟨("block_bytes", none), "block_bytes", "block_bytes", defArgs s_block_bytes, defBody s_block_bytes, defScope s_block_bytes, [], []⟩
def d_split : He.DefD := ⟨("split", none), "split", "split", defArgs s_split, defBody s_split, defScope s_split, [], []⟩
def d_Entry___init__ : He.DefD := ⟨("Entry", some "__init__"), "__init__", "Entry.__init__", defArgs s_Entry___init__, defBody s_Entry___init__, defScope s_Entry___init__, [], []⟩
def d_Store___init__ : He.DefD := ⟨("Store", some "__init__"), "__init__", "Store.__init__", defArgs s_Store___init__, defBody s_Store___init__, defScope s_Store___init__, [], []⟩
def d_Store_write_now : He.DefD := ⟨("Store", some "write_now"), "write_now", "Store.write_now", defArgs s_Store_write_now, defBody s_Store_write_now, defScope s_Store_write_now, [], []⟩
def d_Store_names : He.DefD := ⟨("Store", some "names"), "names", "Store.names", defArgs s_Store_names, defBody s_Store_names, defScope s_Store_names, [], []⟩
def d_Store_temp_names : He.DefD := ⟨("Store", some "temp_names"), "temp_names", "Store.temp_names", defArgs s_Store_temp_names, defBody s_Store_temp_names, defScope s_Store_temp_names, [], []⟩
def d_Store_read : He.DefD := ⟨("Store", some "read"), "read", "Store.read", defArgs s_Store_read, defBody s_Store_read, defScope s_Store_read, [], []⟩
def d_Store_write : He.DefD := ⟨("Store", some "write"), "write", "Store.write", defArgs s_Store_write, defBody s_Store_write, defScope s_Store_write, [], []⟩
def d_Store_temp : He.DefD := ⟨("Store", some "temp"), "temp", "Store.temp", defArgs s_Store_temp, defBody s_Store_temp, defScope s_Store_temp, [], []⟩
def d_Store_append_temp : He.DefD := ⟨("Store", some "append_temp"), "append_temp", "Store.append_temp", defArgs s_Store_append_temp, defBody s_Store_append_temp, defScope s_Store_append_temp, [], []⟩
def d_Store_attic : He.DefD := ⟨("Store", some "attic"), "attic", "Store.attic", defArgs s_Store_attic, defBody s_Store_attic, defScope s_Store_attic, [], []⟩
def d_Store_attic_put : He.DefD := ⟨("Store", some "attic_put"), "attic_put", "Store.attic_put", defArgs s_Store_attic_put, defBody s_Store_attic_put, defScope s_Store_attic_put, [], []⟩
def d_Store_durable : He.DefD := ⟨("Store", some "durable"), "durable", "Store.durable", defArgs s_Store_durable, defBody s_Store_durable, defScope s_Store_durable, [], []⟩
def d_kept_blocks : He.DefD := ⟨("kept_blocks", none), "kept_blocks", "kept_blocks", defArgs s_kept_blocks, defBody s_kept_blocks, defScope s_kept_blocks, [], []⟩
def d_near_places : He.DefD := ⟨("near_places", none), "near_places", "near_places", defArgs s_near_places, defBody s_near_places, defScope s_near_places, [], []⟩
def d_missing : He.DefD := ⟨("missing", none), "missing", "missing", defArgs s_missing, defBody s_missing, defScope s_missing, [], []⟩
def d_must_come : He.DefD := ⟨("must_come", none), "must_come", "must_come", defArgs s_must_come, defBody s_must_come, defScope s_must_come, [], []⟩
def d_u_law_draws : He.DefD := ⟨("_law_draws", none), "_law_draws", "_law_draws", defArgs s_u_law_draws, defBody s_u_law_draws, defScope s_u_law_draws, [], []⟩
def d_u_law_draw : He.DefD := ⟨("_law_draw", none), "_law_draw", "_law_draw", defArgs s_u_law_draw, defBody s_u_law_draw, defScope s_u_law_draw, [], []⟩
def d_u_law_content : He.DefD := ⟨("_law_content", none), "_law_content", "_law_content", defArgs s_u_law_content, defBody s_u_law_content, defScope s_u_law_content, [], []⟩
def d_u_law_pieces : He.DefD := ⟨("_law_pieces", none), "_law_pieces", "_law_pieces", defArgs s_u_law_pieces, defBody s_u_law_pieces, defScope s_u_law_pieces, [], []⟩
def d_u_law_number : He.DefD := ⟨("_law_number", none), "_law_number", "_law_number", defArgs s_u_law_number, defBody s_u_law_number, defScope s_u_law_number, [], []⟩
def d_u_law_missing : He.DefD := ⟨("_law_missing", none), "_law_missing", "_law_missing", defArgs s_u_law_missing, defBody s_u_law_missing, defScope s_u_law_missing, [], []⟩
def d_law : He.DefD := ⟨("law", none), "law", "law", defArgs s_law, defBody s_law, defScope s_law, [], []⟩
def fn0 : List He.DefD := [d_block_number, d_block_size, d_is_block, d_block_bytes, d_split, d_Entry___init__, d_Store___init__, d_Store_write_now, d_Store_names, d_Store_temp_names, d_Store_read, d_Store_write, d_Store_temp, d_Store_append_temp, d_Store_attic, d_Store_attic_put, d_Store_durable, d_kept_blocks, d_near_places, d_missing, d_must_come, d_u_law_draws, d_u_law_draw, d_u_law_content, d_u_law_pieces, d_u_law_number, d_u_law_missing, d_law]
def fn : List He.DefD := fn0
def fa0 : List He.Fa := [.free "abs", .free "dict", .free "int", .free "len", .free "list", .free "range", .free "sorted", .free "tuple", .str "ATTIC" "attic", .int "BLOCK" 4, .str "FILE" "file", .str "TEMP" "temp", .glo "block_number", .glo "block_size", .glo "is_block", .glo "block_bytes", .glo "split", .glo "Entry", .mkr "Entry", .glo "Store", .mkr "Store", .meth "Store" "write_now", .meth "Store" "names", .meth "Store" "temp_names", .meth "Store" "read", .meth "Store" "write", .meth "Store" "temp", .meth "Store" "append_temp", .meth "Store" "attic", .meth "Store" "attic_put"]
def fa1 : List He.Fa := [.meth "Store" "durable", .glo "kept_blocks", .glo "near_places", .glo "missing", .glo "must_come", .glo "_law_draws", .glo "_law_draw", .glo "_law_content", .glo "_law_pieces", .glo "_law_number", .glo "_law_missing", .glo "law", .cls "Entry", .cls "Store", .noat "Entry" "blocks", .noat "Store" "blocks", .noat "Entry" "deleted", .noat "Store" "deleted", .noat "Entry" "files", .noat "Store" "files", .noat "Entry" "fresh", .noat "Store" "fresh", .noat "Entry" "height", .noat "Store" "height", .noat "Entry" "maker", .noat "Store" "maker", .noat "Entry" "most", .noat "Store" "most", .noat "Entry" "name", .noat "Store" "name"]
def fa2 : List He.Fa := [.noat "Entry" "old", .noat "Store" "old", .noat "Entry" "records", .noat "Store" "records", .noat "Entry" "temps", .noat "Store" "temps", .noat "Entry" "time", .noat "Store" "time", .noat "Entry" "vector", .noat "Store" "vector", .noat "Entry" "writes", .noat "Store" "writes"]
def fa : List He.Fa := fa0 ++ (fa1 ++ (fa2))
structure Txt (K : PySem.W.Frag) (mg : Str → Option Value) : Prop where
  cl : ∀ c, Cls K ((bs K).adr c)
  f_blocks : ∀ c, NoAttr K ((bs K).adr c) "blocks"
  f_deleted : ∀ c, NoAttr K ((bs K).adr c) "deleted"
  f_files : ∀ c, NoAttr K ((bs K).adr c) "files"
  f_fresh : ∀ c, NoAttr K ((bs K).adr c) "fresh"
  f_height : ∀ c, NoAttr K ((bs K).adr c) "height"
  f_maker : ∀ c, NoAttr K ((bs K).adr c) "maker"
  f_most : ∀ c, NoAttr K ((bs K).adr c) "most"
  f_name : ∀ c, NoAttr K ((bs K).adr c) "name"
  f_old : ∀ c, NoAttr K ((bs K).adr c) "old"
  f_records : ∀ c, NoAttr K ((bs K).adr c) "records"
  f_temps : ∀ c, NoAttr K ((bs K).adr c) "temps"
  f_time : ∀ c, NoAttr K ((bs K).adr c) "time"
  f_vector : ∀ c, NoAttr K ((bs K).adr c) "vector"
  f_writes : ∀ c, NoAttr K ((bs K).adr c) "writes"
  b_abs : mg "abs" = none
  b_dict : mg "dict" = none
  b_int : mg "int" = none
  b_len : mg "len" = none
  b_list : mg "list" = none
  b_range : mg "range" = none
  b_sorted : mg "sorted" = none
  b_tuple : mg "tuple" = none
  g_ATTIC : ∃ u, mg "ATTIC" = some u ∧ RelV (.str "attic") u
  g_BLOCK : ∃ u, mg "BLOCK" = some u ∧ RelV (.int 4) u
  g_FILE : ∃ u, mg "FILE" = some u ∧ RelV (.str "file") u
  g_TEMP : ∃ u, mg "TEMP" = some u ∧ RelV (.str "temp") u
  G_block_number : mg "block_number" = some (.ref (He.ga K "block_number"))
  G_block_size : mg "block_size" = some (.ref (He.ga K "block_size"))
  G_is_block : mg "is_block" = some (.ref (He.ga K "is_block"))
  G_block_bytes : mg "block_bytes" = some (.ref (He.ga K "block_bytes"))
  G_split : mg "split" = some (.ref (He.ga K "split"))
  G_Entry : mg "Entry" = some (.ref (He.ga K "Entry"))
  M_Entry : Mk K (He.ga K "Entry") (He.ma K (He.ga K "Entry") "__init__")
  G_Store : mg "Store" = some (.ref (He.ga K "Store"))
  M_Store : Mk K (He.ga K "Store") (He.ma K (He.ga K "Store") "__init__")
  m_Store_write_now : Meth K (He.ga K "Store") "write_now" (He.ma K (He.ga K "Store") "write_now")
  m_Store_names : Meth K (He.ga K "Store") "names" (He.ma K (He.ga K "Store") "names")
  m_Store_temp_names : Meth K (He.ga K "Store") "temp_names" (He.ma K (He.ga K "Store") "temp_names")
  m_Store_read : Meth K (He.ga K "Store") "read" (He.ma K (He.ga K "Store") "read")
  m_Store_write : Meth K (He.ga K "Store") "write" (He.ma K (He.ga K "Store") "write")
  m_Store_temp : Meth K (He.ga K "Store") "temp" (He.ma K (He.ga K "Store") "temp")
  m_Store_append_temp : Meth K (He.ga K "Store") "append_temp" (He.ma K (He.ga K "Store") "append_temp")
  m_Store_attic : Meth K (He.ga K "Store") "attic" (He.ma K (He.ga K "Store") "attic")
  m_Store_attic_put : Meth K (He.ga K "Store") "attic_put" (He.ma K (He.ga K "Store") "attic_put")
  m_Store_durable : Meth K (He.ga K "Store") "durable" (He.ma K (He.ga K "Store") "durable")
  G_kept_blocks : mg "kept_blocks" = some (.ref (He.ga K "kept_blocks"))
  G_near_places : mg "near_places" = some (.ref (He.ga K "near_places"))
  G_missing : mg "missing" = some (.ref (He.ga K "missing"))
  G_must_come : mg "must_come" = some (.ref (He.ga K "must_come"))
  G_u_law_draws : mg "_law_draws" = some (.ref (He.ga K "_law_draws"))
  G_u_law_draw : mg "_law_draw" = some (.ref (He.ga K "_law_draw"))
  G_u_law_content : mg "_law_content" = some (.ref (He.ga K "_law_content"))
  G_u_law_pieces : mg "_law_pieces" = some (.ref (He.ga K "_law_pieces"))
  G_u_law_number : mg "_law_number" = some (.ref (He.ga K "_law_number"))
  G_u_law_missing : mg "_law_missing" = some (.ref (He.ga K "_law_missing"))
  G_law : mg "law" = some (.ref (He.ga K "law"))
  D_block_number : ∃ fd, FunD K "block_number" "block_number" (defArgs s_block_number) (defBody s_block_number) (defScope s_block_number) [] [] (He.fAd K ("block_number", none)) fd
  D_block_size : ∃ fd, FunD K "block_size" "block_size" (defArgs s_block_size) (defBody s_block_size) (defScope s_block_size) [] [] (He.fAd K ("block_size", none)) fd
  D_is_block : ∃ fd, FunD K "is_block" "is_block" (defArgs s_is_block) (defBody s_is_block) (defScope s_is_block) [] [] (He.fAd K ("is_block", none)) fd
  D_block_bytes : ∃ fd, FunD K "block_bytes" "block_bytes" (defArgs s_block_bytes) (defBody s_block_bytes) (defScope s_block_bytes) [] [] (He.fAd K ("block_bytes", none)) fd
  D_split : ∃ fd, FunD K "split" "split" (defArgs s_split) (defBody s_split) (defScope s_split) [] [] (He.fAd K ("split", none)) fd
  D_Entry___init__ : ∃ fd, FunD K "__init__" "Entry.__init__" (defArgs s_Entry___init__) (defBody s_Entry___init__) (defScope s_Entry___init__) [] [] (He.fAd K ("Entry", some "__init__")) fd
  D_Store___init__ : ∃ fd, FunD K "__init__" "Store.__init__" (defArgs s_Store___init__) (defBody s_Store___init__) (defScope s_Store___init__) [] [] (He.fAd K ("Store", some "__init__")) fd
  D_Store_write_now : ∃ fd, FunD K "write_now" "Store.write_now" (defArgs s_Store_write_now) (defBody s_Store_write_now) (defScope s_Store_write_now) [] [] (He.fAd K ("Store", some "write_now")) fd
  D_Store_names : ∃ fd, FunD K "names" "Store.names" (defArgs s_Store_names) (defBody s_Store_names) (defScope s_Store_names) [] [] (He.fAd K ("Store", some "names")) fd
  D_Store_temp_names : ∃ fd, FunD K "temp_names" "Store.temp_names" (defArgs s_Store_temp_names) (defBody s_Store_temp_names) (defScope s_Store_temp_names) [] [] (He.fAd K ("Store", some "temp_names")) fd
  D_Store_read : ∃ fd, FunD K "read" "Store.read" (defArgs s_Store_read) (defBody s_Store_read) (defScope s_Store_read) [] [] (He.fAd K ("Store", some "read")) fd
  D_Store_write : ∃ fd, FunD K "write" "Store.write" (defArgs s_Store_write) (defBody s_Store_write) (defScope s_Store_write) [] [] (He.fAd K ("Store", some "write")) fd
  D_Store_temp : ∃ fd, FunD K "temp" "Store.temp" (defArgs s_Store_temp) (defBody s_Store_temp) (defScope s_Store_temp) [] [] (He.fAd K ("Store", some "temp")) fd
  D_Store_append_temp : ∃ fd, FunD K "append_temp" "Store.append_temp" (defArgs s_Store_append_temp) (defBody s_Store_append_temp) (defScope s_Store_append_temp) [] [] (He.fAd K ("Store", some "append_temp")) fd
  D_Store_attic : ∃ fd, FunD K "attic" "Store.attic" (defArgs s_Store_attic) (defBody s_Store_attic) (defScope s_Store_attic) [] [] (He.fAd K ("Store", some "attic")) fd
  D_Store_attic_put : ∃ fd, FunD K "attic_put" "Store.attic_put" (defArgs s_Store_attic_put) (defBody s_Store_attic_put) (defScope s_Store_attic_put) [] [] (He.fAd K ("Store", some "attic_put")) fd
  D_Store_durable : ∃ fd, FunD K "durable" "Store.durable" (defArgs s_Store_durable) (defBody s_Store_durable) (defScope s_Store_durable) [] [] (He.fAd K ("Store", some "durable")) fd
  D_kept_blocks : ∃ fd, FunD K "kept_blocks" "kept_blocks" (defArgs s_kept_blocks) (defBody s_kept_blocks) (defScope s_kept_blocks) [] [] (He.fAd K ("kept_blocks", none)) fd
  D_near_places : ∃ fd, FunD K "near_places" "near_places" (defArgs s_near_places) (defBody s_near_places) (defScope s_near_places) [] [] (He.fAd K ("near_places", none)) fd
  D_missing : ∃ fd, FunD K "missing" "missing" (defArgs s_missing) (defBody s_missing) (defScope s_missing) [] [] (He.fAd K ("missing", none)) fd
  D_must_come : ∃ fd, FunD K "must_come" "must_come" (defArgs s_must_come) (defBody s_must_come) (defScope s_must_come) [] [] (He.fAd K ("must_come", none)) fd
  D_u_law_draws : ∃ fd, FunD K "_law_draws" "_law_draws" (defArgs s_u_law_draws) (defBody s_u_law_draws) (defScope s_u_law_draws) [] [] (He.fAd K ("_law_draws", none)) fd
  D_u_law_draw : ∃ fd, FunD K "_law_draw" "_law_draw" (defArgs s_u_law_draw) (defBody s_u_law_draw) (defScope s_u_law_draw) [] [] (He.fAd K ("_law_draw", none)) fd
  D_u_law_content : ∃ fd, FunD K "_law_content" "_law_content" (defArgs s_u_law_content) (defBody s_u_law_content) (defScope s_u_law_content) [] [] (He.fAd K ("_law_content", none)) fd
  D_u_law_pieces : ∃ fd, FunD K "_law_pieces" "_law_pieces" (defArgs s_u_law_pieces) (defBody s_u_law_pieces) (defScope s_u_law_pieces) [] [] (He.fAd K ("_law_pieces", none)) fd
  D_u_law_number : ∃ fd, FunD K "_law_number" "_law_number" (defArgs s_u_law_number) (defBody s_u_law_number) (defScope s_u_law_number) [] [] (He.fAd K ("_law_number", none)) fd
  D_u_law_missing : ∃ fd, FunD K "_law_missing" "_law_missing" (defArgs s_u_law_missing) (defBody s_u_law_missing) (defScope s_u_law_missing) [] [] (He.fAd K ("_law_missing", none)) fd
  D_law : ∃ fd, FunD K "law" "law" (defArgs s_law) (defBody s_law) (defScope s_law) [] [] (He.fAd K ("law", none)) fd
theorem Txt.hK {K : PySem.W.Frag} {mg : Str → Option Value} (_ : Txt K mg) : K = (bs K).K := rfl
theorem txt {K : PySem.W.Frag} {h : Heap} {mg : Str → Option Value} (X : K.In h) (G : h.Ns mainGlobals mg) (c : He.SaysD fa fn K) : Txt K mg where
  cl := fun x => by cases x <;> first
    | exact He.cls_ok (x := "Entry") (c.fact 42 rfl)
    | exact He.cls_ok (x := "Store") (c.fact 43 rfl)
  f_blocks := fun x => by cases x <;> first
    | exact He.noat_ok (x := "Entry") (c.fact 44 rfl)
    | exact He.noat_ok (x := "Store") (c.fact 45 rfl)
  f_deleted := fun x => by cases x <;> first
    | exact He.noat_ok (x := "Entry") (c.fact 46 rfl)
    | exact He.noat_ok (x := "Store") (c.fact 47 rfl)
  f_files := fun x => by cases x <;> first
    | exact He.noat_ok (x := "Entry") (c.fact 48 rfl)
    | exact He.noat_ok (x := "Store") (c.fact 49 rfl)
  f_fresh := fun x => by cases x <;> first
    | exact He.noat_ok (x := "Entry") (c.fact 50 rfl)
    | exact He.noat_ok (x := "Store") (c.fact 51 rfl)
  f_height := fun x => by cases x <;> first
    | exact He.noat_ok (x := "Entry") (c.fact 52 rfl)
    | exact He.noat_ok (x := "Store") (c.fact 53 rfl)
  f_maker := fun x => by cases x <;> first
    | exact He.noat_ok (x := "Entry") (c.fact 54 rfl)
    | exact He.noat_ok (x := "Store") (c.fact 55 rfl)
  f_most := fun x => by cases x <;> first
    | exact He.noat_ok (x := "Entry") (c.fact 56 rfl)
    | exact He.noat_ok (x := "Store") (c.fact 57 rfl)
  f_name := fun x => by cases x <;> first
    | exact He.noat_ok (x := "Entry") (c.fact 58 rfl)
    | exact He.noat_ok (x := "Store") (c.fact 59 rfl)
  f_old := fun x => by cases x <;> first
    | exact He.noat_ok (x := "Entry") (c.fact 60 rfl)
    | exact He.noat_ok (x := "Store") (c.fact 61 rfl)
  f_records := fun x => by cases x <;> first
    | exact He.noat_ok (x := "Entry") (c.fact 62 rfl)
    | exact He.noat_ok (x := "Store") (c.fact 63 rfl)
  f_temps := fun x => by cases x <;> first
    | exact He.noat_ok (x := "Entry") (c.fact 64 rfl)
    | exact He.noat_ok (x := "Store") (c.fact 65 rfl)
  f_time := fun x => by cases x <;> first
    | exact He.noat_ok (x := "Entry") (c.fact 66 rfl)
    | exact He.noat_ok (x := "Store") (c.fact 67 rfl)
  f_vector := fun x => by cases x <;> first
    | exact He.noat_ok (x := "Entry") (c.fact 68 rfl)
    | exact He.noat_ok (x := "Store") (c.fact 69 rfl)
  f_writes := fun x => by cases x <;> first
    | exact He.noat_ok (x := "Entry") (c.fact 70 rfl)
    | exact He.noat_ok (x := "Store") (c.fact 71 rfl)
  b_abs := He.free_ok X G (c.fact 0 (f := .free "abs") rfl)
  b_dict := He.free_ok X G (c.fact 1 (f := .free "dict") rfl)
  b_int := He.free_ok X G (c.fact 2 (f := .free "int") rfl)
  b_len := He.free_ok X G (c.fact 3 (f := .free "len") rfl)
  b_list := He.free_ok X G (c.fact 4 (f := .free "list") rfl)
  b_range := He.free_ok X G (c.fact 5 (f := .free "range") rfl)
  b_sorted := He.free_ok X G (c.fact 6 (f := .free "sorted") rfl)
  b_tuple := He.free_ok X G (c.fact 7 (f := .free "tuple") rfl)
  g_ATTIC := (let ⟨t, e⟩ := He.str_ok X G (c.fact 8 (f := .str "ATTIC" "attic") rfl); ⟨_, e, t, rfl⟩)
  g_BLOCK := (let ⟨t, e⟩ := He.int_ok X G (c.fact 9 (f := .int "BLOCK" 4) rfl); ⟨_, e, t, rfl⟩)
  g_FILE := (let ⟨t, e⟩ := He.str_ok X G (c.fact 10 (f := .str "FILE" "file") rfl); ⟨_, e, t, rfl⟩)
  g_TEMP := (let ⟨t, e⟩ := He.str_ok X G (c.fact 11 (f := .str "TEMP" "temp") rfl); ⟨_, e, t, rfl⟩)
  G_block_number := He.glo_ok X G (c.fact 12 (f := .glo "block_number") rfl)
  G_block_size := He.glo_ok X G (c.fact 13 (f := .glo "block_size") rfl)
  G_is_block := He.glo_ok X G (c.fact 14 (f := .glo "is_block") rfl)
  G_block_bytes := He.glo_ok X G (c.fact 15 (f := .glo "block_bytes") rfl)
  G_split := He.glo_ok X G (c.fact 16 (f := .glo "split") rfl)
  G_Entry := He.glo_ok X G (c.fact 17 (f := .glo "Entry") rfl)
  M_Entry := He.mkr_ok (c.fact 18 (f := .mkr "Entry") rfl)
  G_Store := He.glo_ok X G (c.fact 19 (f := .glo "Store") rfl)
  M_Store := He.mkr_ok (c.fact 20 (f := .mkr "Store") rfl)
  m_Store_write_now := He.meth_ok (c.fact 21 (f := .meth "Store" "write_now") rfl)
  m_Store_names := He.meth_ok (c.fact 22 (f := .meth "Store" "names") rfl)
  m_Store_temp_names := He.meth_ok (c.fact 23 (f := .meth "Store" "temp_names") rfl)
  m_Store_read := He.meth_ok (c.fact 24 (f := .meth "Store" "read") rfl)
  m_Store_write := He.meth_ok (c.fact 25 (f := .meth "Store" "write") rfl)
  m_Store_temp := He.meth_ok (c.fact 26 (f := .meth "Store" "temp") rfl)
  m_Store_append_temp := He.meth_ok (c.fact 27 (f := .meth "Store" "append_temp") rfl)
  m_Store_attic := He.meth_ok (c.fact 28 (f := .meth "Store" "attic") rfl)
  m_Store_attic_put := He.meth_ok (c.fact 29 (f := .meth "Store" "attic_put") rfl)
  m_Store_durable := He.meth_ok (c.fact 30 (f := .meth "Store" "durable") rfl)
  G_kept_blocks := He.glo_ok X G (c.fact 31 (f := .glo "kept_blocks") rfl)
  G_near_places := He.glo_ok X G (c.fact 32 (f := .glo "near_places") rfl)
  G_missing := He.glo_ok X G (c.fact 33 (f := .glo "missing") rfl)
  G_must_come := He.glo_ok X G (c.fact 34 (f := .glo "must_come") rfl)
  G_u_law_draws := He.glo_ok X G (c.fact 35 (f := .glo "_law_draws") rfl)
  G_u_law_draw := He.glo_ok X G (c.fact 36 (f := .glo "_law_draw") rfl)
  G_u_law_content := He.glo_ok X G (c.fact 37 (f := .glo "_law_content") rfl)
  G_u_law_pieces := He.glo_ok X G (c.fact 38 (f := .glo "_law_pieces") rfl)
  G_u_law_number := He.glo_ok X G (c.fact 39 (f := .glo "_law_number") rfl)
  G_u_law_missing := He.glo_ok X G (c.fact 40 (f := .glo "_law_missing") rfl)
  G_law := He.glo_ok X G (c.fact 41 (f := .glo "law") rfl)
  D_block_number := c.def_ 0 (d := d_block_number) rfl
  D_block_size := c.def_ 1 (d := d_block_size) rfl
  D_is_block := c.def_ 2 (d := d_is_block) rfl
  D_block_bytes := c.def_ 3 (d := d_block_bytes) rfl
  D_split := c.def_ 4 (d := d_split) rfl
  D_Entry___init__ := c.def_ 5 (d := d_Entry___init__) rfl
  D_Store___init__ := c.def_ 6 (d := d_Store___init__) rfl
  D_Store_write_now := c.def_ 7 (d := d_Store_write_now) rfl
  D_Store_names := c.def_ 8 (d := d_Store_names) rfl
  D_Store_temp_names := c.def_ 9 (d := d_Store_temp_names) rfl
  D_Store_read := c.def_ 10 (d := d_Store_read) rfl
  D_Store_write := c.def_ 11 (d := d_Store_write) rfl
  D_Store_temp := c.def_ 12 (d := d_Store_temp) rfl
  D_Store_append_temp := c.def_ 13 (d := d_Store_append_temp) rfl
  D_Store_attic := c.def_ 14 (d := d_Store_attic) rfl
  D_Store_attic_put := c.def_ 15 (d := d_Store_attic_put) rfl
  D_Store_durable := c.def_ 16 (d := d_Store_durable) rfl
  D_kept_blocks := c.def_ 17 (d := d_kept_blocks) rfl
  D_near_places := c.def_ 18 (d := d_near_places) rfl
  D_missing := c.def_ 19 (d := d_missing) rfl
  D_must_come := c.def_ 20 (d := d_must_come) rfl
  D_u_law_draws := c.def_ 21 (d := d_u_law_draws) rfl
  D_u_law_draw := c.def_ 22 (d := d_u_law_draw) rfl
  D_u_law_content := c.def_ 23 (d := d_u_law_content) rfl
  D_u_law_pieces := c.def_ 24 (d := d_u_law_pieces) rfl
  D_u_law_number := c.def_ 25 (d := d_u_law_number) rfl
  D_u_law_missing := c.def_ 26 (d := d_u_law_missing) rfl
  D_law := c.def_ 27 (d := d_law) rfl
theorem bb_abs : bootBuiltins "abs" = some (.builtin "abs") := by decide +kernel
theorem bb_dict : bootBuiltins "dict" = some (.type "dict") := by decide +kernel
theorem bb_int : bootBuiltins "int" = some (.type "int") := by decide +kernel
theorem bb_len : bootBuiltins "len" = some (.builtin "len") := by decide +kernel
theorem bb_list : bootBuiltins "list" = some (.type "list") := by decide +kernel
theorem bb_range : bootBuiltins "range" = some (.type "range") := by decide +kernel
theorem bb_sorted : bootBuiltins "sorted" = some (.builtin "sorted") := by decide +kernel
theorem bb_tuple : bootBuiltins "tuple" = some (.type "tuple") := by decide +kernel
end K80
set_option Elab.async false
set_option linter.all false
set_option maxRecDepth 100000
set_option maxHeartbeats 4000000
/-! K80c: each def keeps its promise, if its reading holds (printed by emit.py). -/
namespace K80
open PySem PySem.Spec PyProof.Rows L2 Dn
section
variable {P : Program} {w : World} {K : PySem.W.Frag} {mg : Str → Option Value} {base : Heap}
theorem ok_block_number (T : Txt K mg)  (rd : Rds N_block_number sp_block_number td_block_number) : FnD P w K mg base (bs K) 1 "block_number" sp_block_number [] := by
  obtain ⟨fd, F⟩ := T.D_block_number
  have B : Binds K fd ["data"] [] := F.bindsN fun _ _ _ _ _ _ us hl => match us, hl with | [_], _ => rfl
  have OK := fn_okD (P := P) (w := w) (mg := mg) (base := base) (B := bs K) (k := 0) (td := td_block_number) F sc_block_number (by exact len1) (fun cdv A outer s H E hr => (qs_cons (qs_set (i := 1) sc_block_number.nd rfl (by first | exact Or.inl rfl | exact Or.inr rfl) (qe_int))
  (qs_cons (qs_for own_of rfl (qi_list T.hK (qe_var (pv 0))) (qg_name (pg_name (i := 2) sc_block_number.nd rfl (by first | exact Or.inl rfl | exact Or.inr rfl))) (qs_one (qs_set (i := 1) sc_block_number.nd rfl (by first | exact Or.inl rfl | exact Or.inr rfl) (qe_op (o_add (m := false) T.hK) (qe_op (o_mul (m := false)) (qe_var (pv 1)) (qe_int)) (qe_var (pv 2))))))
  (qs_one (qs_ret (qe_var (pv 1))))))) rd
  exact .of OK T.G_block_number F.kp B
theorem ok_block_size (T : Txt K mg)  (rd : Rds N_block_size sp_block_size td_block_size) : FnD P w K mg base (bs K) 1 "block_size" sp_block_size [] := by
  obtain ⟨fd, F⟩ := T.D_block_size
  have B : Binds K fd ["number"] [] := F.bindsN fun _ _ _ _ _ _ us hl => match us, hl with | [_], _ => rfl
  have OK := fn_okD (P := P) (w := w) (mg := mg) (base := base) (B := bs K) (k := 0) (td := td_block_size) F sc_block_size (by exact len1) (fun cdv A outer s H E hr => (qs_cons (qs_for own_of rfl (qi_rng2 rfl T.b_range (qa_cons (qe_int) (qa_cons (qe_op (o_add (m := false) T.hK) (qe_gc rfl T.g_BLOCK (fun _ _ _ => rfl)) (qe_int)) (qa_nil)))) (qg_name (pg_name (i := 1) sc_block_size.nd rfl (by first | exact Or.inl rfl | exact Or.inr rfl))) (qs_one (qs_if (qt_cmp (o_eq T.hK hr.units) (qe_op (o_shr) (qe_var (pv 0)) (qe_op (o_mul (m := false)) (qe_int) (qe_var (pv 1)))) (qe_int) (nomark _)) (qs_one (qs_ret (qe_var (pv 1)))) (qs_nil))))
  (qs_one (qs_ret (qe_int))))) rd
  exact .of OK T.G_block_size F.kp B
theorem ok_is_block (T : Txt K mg) (c_block_size : FnD P w K mg base (bs K) 1 "block_size" sp_block_size []) (rd : Rds N_is_block sp_is_block td_is_block) : FnD P w K mg base (bs K) 2 "is_block" sp_is_block [] := by
  obtain ⟨fd, F⟩ := T.D_is_block
  have B : Binds K fd ["number"] [] := F.bindsN fun _ _ _ _ _ _ us hl => match us, hl with | [_], _ => rfl
  have OK := fn_okD (P := P) (w := w) (mg := mg) (base := base) (B := bs K) (k := 1) (td := td_is_block) F sc_is_block (by exact len1) (fun cdv A outer s H E hr => (qs_one (qs_ret (qe_cmp (o_gt) (qe_call c_block_size (hr.mono (by decide)) tk_of rfl (qa_cons (qe_var (pv 0)) (qa_nil))) (qe_int) (nomark _))))) rd
  exact .of OK T.G_is_block F.kp B
theorem ok_block_bytes (T : Txt K mg) (c_is_block : FnD P w K mg base (bs K) 2 "is_block" sp_is_block []) (rd : Rds N_block_bytes sp_block_bytes td_block_bytes) : FnD P w K mg base (bs K) 3 "block_bytes" sp_block_bytes [] := by
  obtain ⟨fd, F⟩ := T.D_block_bytes
  have B : Binds K fd ["number"] [] := F.bindsN fun _ _ _ _ _ _ us hl => match us, hl with | [_], _ => rfl
  have OK := fn_okD (P := P) (w := w) (mg := mg) (base := base) (B := bs K) (k := 2) (td := td_block_bytes) F sc_block_bytes (by exact len1) (fun cdv A outer s H E hr => (qs_cons (qs_if (qt_not (qt_val (qe_call c_is_block (hr.mono (by decide)) tk_of rfl (qa_cons (qe_var (pv 0)) (qa_nil))))) (qs_one (qs_never _)) (qs_nil))
  (qs_cons (qs_set (i := 1) sc_block_bytes.nd rfl (by first | exact Or.inl rfl | exact Or.inr rfl) (qe_lst (m := true) (qa_nil)))
  (qs_cons (qs_while own_of (qt_cmp (o_gt) (qe_var (pv 0)) (qe_int) (nomark _)) (qs_cons (qs_expr (qe_bm PySem.F.plainAttrs_list PySem.F.slot_list_insert PySem.F.type_list_insert (m_insert) (qe_var (pv 1)) (qa_cons (qe_int) (qa_cons (qe_op (o_mod) (qe_var (pv 0)) (qe_int)) (qa_nil)))))
  (qs_one (qs_set (i := 0) sc_block_bytes.nd rfl (by first | exact Or.inl rfl | exact Or.inr rfl) (qe_op (o_fdiv) (qe_var (pv 0)) (qe_int))))))
  (qs_one (qs_ret (qe_var (pv 1)))))))) rd
  exact .of OK T.G_block_bytes F.kp B
theorem ok_split (T : Txt K mg) (c_block_number : FnD P w K mg base (bs K) 1 "block_number" sp_block_number []) (rd : Rds N_split sp_split td_split) : FnD P w K mg base (bs K) 2 "split" sp_split [] := by
  obtain ⟨fd, F⟩ := T.D_split
  have B : Binds K fd ["content"] [] := F.bindsN fun _ _ _ _ _ _ us hl => match us, hl with | [_], _ => rfl
  have OK := fn_okD (P := P) (w := w) (mg := mg) (base := base) (B := bs K) (k := 1) (td := td_split) F sc_split (by exact len1) (fun cdv A outer s H E hr => (qs_one (qs_ret (qe_ct (c_tuple T.hK) rfl T.b_tuple bb_tuple (qa_cons (qe_lc (m := false) (own := [("at", 1)]) (lt := .one 1) T.hK rfl sc_split.nd (qi_rng3 rfl T.b_range (qa_cons (qe_int) (qa_cons (qe_cb (c_len T.hK) rfl T.b_len bb_len (qa_cons (qe_var (pv 0)) (qa_nil))) (qa_cons (qe_gc rfl T.g_BLOCK (fun _ _ _ => rfl)) (qa_nil))))) (blkOk_by (N := ["content", "at"]) (sc := (defScope s_split)) (by decide +kernel)) (by decide) (fun _ _ _ _ _ => pg_name (i := 1) sc_split.nd rfl (by first | exact Or.inl rfl | exact Or.inr rfl)) (fun _ _ _ _ _ => qp_nil) (fun _ _ _ _ _ => qe_call c_block_number (hr.mono (by decide)) tk0 rfl (qa_cons (qe_sl (m := false) T.hK (qe_var (pv 0)) (qo_some (qe_var (pv 1))) (qo_some (qe_op (o_add (m := false) T.hK) (qe_var (pv 1)) (qe_gc rfl T.g_BLOCK (fun _ _ _ => rfl))))) (qa_nil)))) (qa_nil)))))) rd
  exact .of OK T.G_split F.kp B
theorem ok_Entry___init__ (T : Txt K mg)  (rd : Rds N_Entry___init__ sp_Entry___init__ td_Entry___init__) : MakD P w K mg base (bs K) 1 "Entry" .Entry sp_Entry___init__ [] := by
  obtain ⟨fd, F⟩ := T.D_Entry___init__
  have B : Binds K fd ["self", "name", "vector", "height", "maker", "deleted", "time", "blocks"] [] := F.bindsN fun _ _ _ _ _ _ us hl => match us, hl with | [_, _, _, _, _, _, _, _], _ => rfl
  have OK := fn_okD (P := P) (w := w) (mg := mg) (base := base) (B := bs K) (k := 0) (td := td_Entry___init__) F sc_Entry___init__ (by exact (fun ds M Q E ⟨_, _, _, _, _, _, _, _, e, _⟩ => by rw [e]; rfl)) (fun cdv A outer s H E hr => (qs_cons (qs_fld ⟨T.cl⟩ T.f_name (qe_var (pv 0)) (qe_var (pv 1)) rfl)
  (qs_cons (qs_fld ⟨T.cl⟩ T.f_vector (qe_var (pv 0)) (qe_var (pv 2)) rfl)
  (qs_cons (qs_fld ⟨T.cl⟩ T.f_height (qe_var (pv 0)) (qe_var (pv 3)) rfl)
  (qs_cons (qs_fld ⟨T.cl⟩ T.f_maker (qe_var (pv 0)) (qe_var (pv 4)) rfl)
  (qs_cons (qs_fld ⟨T.cl⟩ T.f_deleted (qe_var (pv 0)) (qe_var (pv 5)) rfl)
  (qs_cons (qs_fld ⟨T.cl⟩ T.f_time (qe_var (pv 0)) (qe_var (pv 6)) rfl)
  (qs_one (qs_fld ⟨T.cl⟩ T.f_blocks (qe_var (pv 0)) (qe_var (pv 7)) rfl))))))))) rd
  exact .of OK T.G_Entry T.M_Entry B
theorem ok_Store___init__ (T : Txt K mg)  (rd : Rds N_Store___init__ sp_Store___init__ td_Store___init__) : MakD P w K mg base (bs K) 1 "Store" .Store sp_Store___init__ [] := by
  obtain ⟨fd, F⟩ := T.D_Store___init__
  have B : Binds K fd ["self", "files", "log"] [] := F.bindsN fun _ _ _ _ _ _ us hl => match us, hl with | [_, _, _], _ => rfl
  have OK := fn_okD (P := P) (w := w) (mg := mg) (base := base) (B := bs K) (k := 0) (td := td_Store___init__) F sc_Store___init__ (by exact len3) (fun cdv A outer s H E hr => (qs_cons (qs_fld ⟨T.cl⟩ T.f_files (qe_var (pv 0)) (qe_dic0) rfl)
  (qs_cons (qs_forK0 own_of rfl (pv 1))
  (qs_cons (qs_fld ⟨T.cl⟩ T.f_temps (qe_var (pv 0)) (qe_dic0) rfl)
  (qs_cons (qs_fld ⟨T.cl⟩ T.f_old (qe_var (pv 0)) (qe_lst (m := true) (qa_nil)) rfl)
  (qs_cons (qs_fld ⟨T.cl⟩ T.f_records (qe_var (pv 0)) (qe_ct (c_list (m := false) T.hK rfl) rfl T.b_list bb_list (qa_cons (qe_var (pv 2)) (qa_nil))) rfl)
  (qs_cons (qs_fld ⟨T.cl⟩ T.f_fresh (qe_var (pv 0)) (qe_lst (m := false) (qa_nil)) rfl)
  (qs_cons (qs_fld ⟨T.cl⟩ T.f_writes (qe_var (pv 0)) (qe_int) rfl)
  (qs_one (qs_fld ⟨T.cl⟩ T.f_most (qe_var (pv 0)) (qe_non) rfl)))))))))) rd
  exact .of OK T.G_Store T.M_Store B
theorem ok_Store_write_now (T : Txt K mg)  (rd : Rds N_Store_write_now sp_Store_write_now td_Store_write_now) : MetD P w K mg base (bs K) 1 .Store "write_now" sp_Store_write_now [] := by
  obtain ⟨fd, F⟩ := T.D_Store_write_now
  have B : Binds K fd ["self"] [] := F.bindsN fun _ _ _ _ _ _ us hl => match us, hl with | [_], _ => rfl
  have OK := fn_okD (P := P) (w := w) (mg := mg) (base := base) (B := bs K) (k := 0) (td := td_Store_write_now) F sc_Store_write_now (by exact len1) (fun cdv A outer s H E hr => (qs_cons (qs_if (L2.PW.pt (qw_and (qt_notN (qe_fld ⟨T.cl⟩ T.f_most (qe_var (pv 0)) rfl)) (pw_and1 (qt_cmp (o_ge) (qe_fld ⟨T.cl⟩ T.f_writes (qe_var (pv 0)) rfl) (qe_fld ⟨T.cl⟩ T.f_most (qe_var (pv 0)) rfl) (nomark _))))) (qs_one (qs_never _)) (qs_nil))
  (qs_one (qs_fldA ⟨T.cl⟩ T.f_writes in_addI (qe_var (pv 0)) (qe_int))))) rd
  exact .of OK (T.cl .Store) T.m_Store_write_now B
theorem ok_Store_names (T : Txt K mg)  (rd : Rds N_Store_names sp_Store_names td_Store_names) : MetD P w K mg base (bs K) 1 .Store "names" sp_Store_names [] := by
  obtain ⟨fd, F⟩ := T.D_Store_names
  have B : Binds K fd ["self"] [] := F.bindsN fun _ _ _ _ _ _ us hl => match us, hl with | [_], _ => rfl
  have OK := fn_okD (P := P) (w := w) (mg := mg) (base := base) (B := bs K) (k := 0) (td := td_Store_names) F sc_Store_names (by exact len1) (fun cdv A outer s H E hr => (qs_one (qs_ret (qe_cb (c_sorted (m := false) rfl) rfl T.b_sorted bb_sorted (qa_cons (qe_fld ⟨T.cl⟩ T.f_files (qe_var (pv 0)) rfl) (qa_nil)))))) rd
  exact .of OK (T.cl .Store) T.m_Store_names B
theorem ok_Store_temp_names (T : Txt K mg)  (rd : Rds N_Store_temp_names sp_Store_temp_names td_Store_temp_names) : MetD P w K mg base (bs K) 1 .Store "temp_names" sp_Store_temp_names [] := by
  obtain ⟨fd, F⟩ := T.D_Store_temp_names
  have B : Binds K fd ["self"] [] := F.bindsN fun _ _ _ _ _ _ us hl => match us, hl with | [_], _ => rfl
  have OK := fn_okD (P := P) (w := w) (mg := mg) (base := base) (B := bs K) (k := 0) (td := td_Store_temp_names) F sc_Store_temp_names (by exact len1) (fun cdv A outer s H E hr => (qs_one (qs_ret (qe_cb (c_sorted (m := false) rfl) rfl T.b_sorted bb_sorted (qa_cons (qe_fld ⟨T.cl⟩ T.f_temps (qe_var (pv 0)) rfl) (qa_nil)))))) rd
  exact .of OK (T.cl .Store) T.m_Store_temp_names B
theorem ok_Store_read (T : Txt K mg)  (rd : Rds N_Store_read sp_Store_read td_Store_read) : MetD P w K mg base (bs K) 1 .Store "read" sp_Store_read [] := by
  obtain ⟨fd, F⟩ := T.D_Store_read
  have B : Binds K fd ["self", "name"] [] := F.bindsN fun _ _ _ _ _ _ us hl => match us, hl with | [_, _], _ => rfl
  have OK := fn_okD (P := P) (w := w) (mg := mg) (base := base) (B := bs K) (k := 0) (td := td_Store_read) F sc_Store_read (by exact len2) (fun cdv A outer s H E hr => (qs_cons (qs_if (qt_cmp (o_notin T.hK (hu65 hr)) (qe_var (pv 1)) (qe_fld ⟨T.cl⟩ T.f_files (qe_var (pv 0)) rfl) (by rfl)) (qs_one (qs_ret (qe_non))) (qs_nil))
  (qs_cons (qs_asg (qe_ix (i_ix T.hK (hu_of hr)) (qe_fld ⟨T.cl⟩ T.f_files (qe_var (pv 0)) rfl) (qe_var (pv 1)) (fun _ _ => rfl)) (qg_tup T.hK rfl (qg_cons (qg_name (pg_name (i := 2) sc_Store_read.nd rfl (by first | exact Or.inl rfl | exact Or.inr rfl))) (qg_cons (qg_name (pg_name (i := 3) sc_Store_read.nd rfl (by first | exact Or.inl rfl | exact Or.inr rfl))) (qg_nil)))))
  (qs_one (qs_ret (qe_tup (qa_cons (qe_ct (c_list (m := false) T.hK rfl) rfl T.b_list bb_list (qa_cons (qe_var (pv 2)) (qa_nil))) (qa_cons (qe_var (pv 3)) (qa_nil))))))))) rd
  exact .of OK (T.cl .Store) T.m_Store_read B
theorem ok_Store_write (T : Txt K mg) (c_Store_write_now : MetD P w K mg base (bs K) 1 .Store "write_now" sp_Store_write_now []) (rd : Rds N_Store_write sp_Store_write td_Store_write) : MetD P w K mg base (bs K) 2 .Store "write" sp_Store_write [] := by
  obtain ⟨fd, F⟩ := T.D_Store_write
  have B : Binds K fd ["self", "name", "content", "time"] [] := F.bindsN fun _ _ _ _ _ _ us hl => match us, hl with | [_, _, _, _], _ => rfl
  have OK := fn_okD (P := P) (w := w) (mg := mg) (base := base) (B := bs K) (k := 1) (td := td_Store_write) F sc_Store_write (by exact len4) (fun cdv A outer s H E hr => (qs_cons (qs_expr (qe_meth0 c_Store_write_now (hr.mono (by decide)) tk_of (qe_var (pv 0))))
  (qs_one (qs_asg (qe_tup (qa_cons (qe_ct (c_list (m := false) T.hK rfl) rfl T.b_list bb_list (qa_cons (qe_var (pv 2)) (qa_nil))) (qa_cons (qe_var (pv 3)) (qa_nil)))) (qg_sub (W := W0) (hu_of hr) (qe_fld ⟨T.cl⟩ T.f_files (qe_var (pv 0)) rfl) (qe_var (pv 1))))))) rd
  exact .of OK (T.cl .Store) T.m_Store_write B
theorem ok_Store_temp (T : Txt K mg)  (rd : Rds N_Store_temp sp_Store_temp td_Store_temp) : MetD P w K mg base (bs K) 1 .Store "temp" sp_Store_temp [] := by
  obtain ⟨fd, F⟩ := T.D_Store_temp
  have B : Binds K fd ["self", "name"] [] := F.bindsN fun _ _ _ _ _ _ us hl => match us, hl with | [_, _], _ => rfl
  have OK := fn_okD (P := P) (w := w) (mg := mg) (base := base) (B := bs K) (k := 0) (td := td_Store_temp) F sc_Store_temp (by exact len2) (fun cdv A outer s H E hr => (qs_cons (qs_if (qt_cmp (o_notin T.hK (hu65 hr)) (qe_var (pv 1)) (qe_fld ⟨T.cl⟩ T.f_temps (qe_var (pv 0)) rfl) (by rfl)) (qs_one (qs_ret (qe_non))) (qs_nil))
  (qs_one (qs_ret (qe_ct (c_list (m := false) T.hK rfl) rfl T.b_list bb_list (qa_cons (qe_ix (i_ix T.hK (hu_of hr)) (qe_fld ⟨T.cl⟩ T.f_temps (qe_var (pv 0)) rfl) (qe_var (pv 1)) (fun _ _ => rfl)) (qa_nil))))))) rd
  exact .of OK (T.cl .Store) T.m_Store_temp B
theorem ok_Store_append_temp (T : Txt K mg) (c_Store_write_now : MetD P w K mg base (bs K) 1 .Store "write_now" sp_Store_write_now []) (rd : Rds N_Store_append_temp sp_Store_append_temp td_Store_append_temp) : MetD P w K mg base (bs K) 2 .Store "append_temp" sp_Store_append_temp [] := by
  obtain ⟨fd, F⟩ := T.D_Store_append_temp
  have B : Binds K fd ["self", "name", "data"] [] := F.bindsN fun _ _ _ _ _ _ us hl => match us, hl with | [_, _, _], _ => rfl
  have OK := fn_okD (P := P) (w := w) (mg := mg) (base := base) (B := bs K) (k := 1) (td := td_Store_append_temp) F sc_Store_append_temp (by exact len3) (fun cdv A outer s H E hr => (qs_one (qs_for own_of rfl (qi_list T.hK (qe_var (pv 2))) (qg_name (pg_name (i := 3) sc_Store_append_temp.nd rfl (by first | exact Or.inl rfl | exact Or.inr rfl))) (qs_cons (qs_expr (qe_meth0 c_Store_write_now (hr.mono (by decide)) tk_of (qe_var (pv 0))))
  (qs_one (qs_asg (qe_op (o_add (m := false) T.hK) (qe_get2 (hu_of hr) (qe_fld ⟨T.cl⟩ T.f_temps (qe_var (pv 0)) rfl) (qe_var (pv 1)) (qe_lst (m := false) (qa_nil)) ⟨rfl, rfl, rfl, rfl⟩) (qe_lst (m := false) (qa_cons (qe_var (pv 3)) (qa_nil)))) (qg_sub (W := W0) (hu_of hr) (qe_fld ⟨T.cl⟩ T.f_temps (qe_var (pv 0)) rfl) (qe_var (pv 1))))))))) rd
  exact .of OK (T.cl .Store) T.m_Store_append_temp B
theorem ok_Store_attic (T : Txt K mg)  (rd : Rds N_Store_attic sp_Store_attic td_Store_attic) : MetD P w K mg base (bs K) 1 .Store "attic" sp_Store_attic [] := by
  obtain ⟨fd, F⟩ := T.D_Store_attic
  have B : Binds K fd ["self"] [] := F.bindsN fun _ _ _ _ _ _ us hl => match us, hl with | [_], _ => rfl
  have OK := fn_okD (P := P) (w := w) (mg := mg) (base := base) (B := bs K) (k := 0) (td := td_Store_attic) F sc_Store_attic (by exact len1) (fun cdv A outer s H E hr => (qs_one (qs_ret (qe_lc (m := false) (own := [("name", 2), ("vector", 3), ("content", 1)]) (lt := .tup [2, 3, 1]) T.hK rfl sc_Store_attic.nd (qi_list T.hK (qe_fld ⟨T.cl⟩ T.f_old (qe_var (pv 0)) rfl)) (blkOk_by (N := ["self", "content", "name", "vector"]) (sc := (defScope s_Store_attic)) (by decide +kernel)) (by decide) (fun _ _ _ _ _ => pg_tup rfl (pgs_cons (pg_name (i := 2) sc_Store_attic.nd rfl (by first | exact Or.inl rfl | exact Or.inr rfl)) (pgs_cons (pg_name (i := 3) sc_Store_attic.nd rfl (by first | exact Or.inl rfl | exact Or.inr rfl)) (pgs_cons (pg_name (i := 1) sc_Store_attic.nd rfl (by first | exact Or.inl rfl | exact Or.inr rfl)) (pgs_nil))))) (fun _ _ _ _ _ => qp_nil) (fun _ _ _ _ _ => qe_tup (qa_cons (qe_var (pv 2)) (qa_cons (qe_var (pv 3)) (qa_cons (qe_ct (c_list (m := false) T.hK rfl) rfl T.b_list bb_list (qa_cons (qe_var (pv 1)) (qa_nil))) (qa_nil))))))))) rd
  exact .of OK (T.cl .Store) T.m_Store_attic B
theorem ok_Store_attic_put (T : Txt K mg) (c_Store_write_now : MetD P w K mg base (bs K) 1 .Store "write_now" sp_Store_write_now []) (rd : Rds N_Store_attic_put sp_Store_attic_put td_Store_attic_put) : MetD P w K mg base (bs K) 2 .Store "attic_put" sp_Store_attic_put [] := by
  obtain ⟨fd, F⟩ := T.D_Store_attic_put
  have B : Binds K fd ["self", "name", "vector", "content"] [] := F.bindsN fun _ _ _ _ _ _ us hl => match us, hl with | [_, _, _, _], _ => rfl
  have OK := fn_okD (P := P) (w := w) (mg := mg) (base := base) (B := bs K) (k := 1) (td := td_Store_attic_put) F sc_Store_attic_put (by exact len4) (fun cdv A outer s H E hr => (qs_cons (qs_expr (qe_meth0 c_Store_write_now (hr.mono (by decide)) tk_of (qe_var (pv 0))))
  (qs_one (qs_expr (qe_bm PySem.F.plainAttrs_list PySem.F.slot_list_append PySem.F.type_list_append (m_append) (qe_fld ⟨T.cl⟩ T.f_old (qe_var (pv 0)) rfl) (qa_cons (qe_tup (qa_cons (qe_var (pv 1)) (qa_cons (qe_var (pv 2)) (qa_cons (qe_ct (c_list (m := false) T.hK rfl) rfl T.b_list bb_list (qa_cons (qe_var (pv 3)) (qa_nil))) (qa_nil))))) (qa_nil))))))) rd
  exact .of OK (T.cl .Store) T.m_Store_attic_put B
theorem ok_Store_durable (T : Txt K mg) (c_Store_names : MetD P w K mg base (bs K) 1 .Store "names" sp_Store_names []) (c_Store_temp_names : MetD P w K mg base (bs K) 1 .Store "temp_names" sp_Store_temp_names []) (rd : Rds N_Store_durable sp_Store_durable td_Store_durable) : MetD P w K mg base (bs K) 2 .Store "durable" sp_Store_durable [] := by
  obtain ⟨fd, F⟩ := T.D_Store_durable
  have B : Binds K fd ["self"] [] := F.bindsN fun _ _ _ _ _ _ us hl => match us, hl with | [_], _ => rfl
  have OK := fn_okD (P := P) (w := w) (mg := mg) (base := base) (B := bs K) (k := 1) (td := td_Store_durable) F sc_Store_durable (by exact len1) (fun cdv A outer s H E hr => (qs_cons (qs_set (i := 1) sc_Store_durable.nd rfl (by first | exact Or.inl rfl | exact Or.inr rfl) (qe_ct (c_tuple T.hK) rfl T.b_tuple bb_tuple (qa_cons (qe_lc (m := false) (own := [("name", 4)]) (lt := .one 4) T.hK rfl sc_Store_durable.nd (qi_list T.hK (qe_meth0 c_Store_names (hr.mono (by decide)) tk_of (qe_var (pv 0)))) (blkOk_by (N := ["self", "files", "temps", "old", "name", "content", "vector"]) (sc := (defScope s_Store_durable)) (by decide +kernel)) (by decide) (fun _ _ _ _ _ => pg_name (i := 4) sc_Store_durable.nd rfl (by first | exact Or.inl rfl | exact Or.inr rfl)) (fun _ _ _ _ _ => qp_nil) (fun _ _ _ _ _ => qe_tup (qa_cons (qe_var (pv 4)) (qa_cons (qe_ct (c_tuple T.hK) rfl T.b_tuple bb_tuple (qa_cons (qe_ix (i_ix T.hK (hu_of hr)) (qe_ix (i_ix T.hK (hu_of hr)) (qe_fld ⟨T.cl⟩ T.f_files (qe_var (pv 0)) rfl) (qe_var (pv 4)) (fun _ _ => rfl)) (qe_int) (fun _ _ => rfl)) (qa_nil))) (qa_cons (qe_ix (i_ix T.hK (hu_of hr)) (qe_ix (i_ix T.hK (hu_of hr)) (qe_fld ⟨T.cl⟩ T.f_files (qe_var (pv 0)) rfl) (qe_var (pv 4)) (fun _ _ => rfl)) (qe_int) (fun _ _ => rfl)) (qa_nil)))))) (qa_nil))))
  (qs_cons (qs_set (i := 2) sc_Store_durable.nd rfl (by first | exact Or.inl rfl | exact Or.inr rfl) (qe_ct (c_tuple T.hK) rfl T.b_tuple bb_tuple (qa_cons (qe_lc (m := false) (own := [("name", 4)]) (lt := .one 4) T.hK rfl sc_Store_durable.nd (qi_list T.hK (qe_meth0 c_Store_temp_names (hr.mono (by decide)) tk_of (qe_var (pv 0)))) (blkOk_by (N := ["self", "files", "temps", "old", "name", "content", "vector"]) (sc := (defScope s_Store_durable)) (by decide +kernel)) (by decide) (fun _ _ _ _ _ => pg_name (i := 4) sc_Store_durable.nd rfl (by first | exact Or.inl rfl | exact Or.inr rfl)) (fun _ _ _ _ _ => qp_nil) (fun _ _ _ _ _ => qe_tup (qa_cons (qe_var (pv 4)) (qa_cons (qe_ct (c_tuple T.hK) rfl T.b_tuple bb_tuple (qa_cons (qe_ix (i_ix T.hK (hu_of hr)) (qe_fld ⟨T.cl⟩ T.f_temps (qe_var (pv 0)) rfl) (qe_var (pv 4)) (fun _ _ => rfl)) (qa_nil))) (qa_nil))))) (qa_nil))))
  (qs_cons (qs_set (i := 3) sc_Store_durable.nd rfl (by first | exact Or.inl rfl | exact Or.inr rfl) (qe_ct (c_tuple T.hK) rfl T.b_tuple bb_tuple (qa_cons (qe_lc (m := false) (own := [("name", 4), ("vector", 6), ("content", 5)]) (lt := .tup [4, 6, 5]) T.hK rfl sc_Store_durable.nd (qi_list T.hK (qe_fld ⟨T.cl⟩ T.f_old (qe_var (pv 0)) rfl)) (blkOk_by (N := ["self", "files", "temps", "old", "name", "content", "vector"]) (sc := (defScope s_Store_durable)) (by decide +kernel)) (by decide) (fun _ _ _ _ _ => pg_tup rfl (pgs_cons (pg_name (i := 4) sc_Store_durable.nd rfl (by first | exact Or.inl rfl | exact Or.inr rfl)) (pgs_cons (pg_name (i := 6) sc_Store_durable.nd rfl (by first | exact Or.inl rfl | exact Or.inr rfl)) (pgs_cons (pg_name (i := 5) sc_Store_durable.nd rfl (by first | exact Or.inl rfl | exact Or.inr rfl)) (pgs_nil))))) (fun _ _ _ _ _ => qp_nil) (fun _ _ _ _ _ => qe_tup (qa_cons (qe_var (pv 4)) (qa_cons (qe_var (pv 6)) (qa_cons (qe_ct (c_tuple T.hK) rfl T.b_tuple bb_tuple (qa_cons (qe_var (pv 5)) (qa_nil))) (qa_nil)))))) (qa_nil))))
  (qs_one (qs_ret (qe_tup (qa_cons (qe_var (pv 1)) (qa_cons (qe_var (pv 2)) (qa_cons (qe_var (pv 3)) (qa_cons (qe_ct (c_tuple T.hK) rfl T.b_tuple bb_tuple (qa_cons (qe_fld ⟨T.cl⟩ T.f_records (qe_var (pv 0)) rfl) (qa_nil))) (qa_cons (qe_ct (c_tuple T.hK) rfl T.b_tuple bb_tuple (qa_cons (qe_fld ⟨T.cl⟩ T.f_fresh (qe_var (pv 0)) rfl) (qa_nil))) (qa_nil))))))))))))) rd
  exact .of OK (T.cl .Store) T.m_Store_durable B
theorem ok_kept_blocks (T : Txt K mg) (c_Store_temp : MetD P w K mg base (bs K) 1 .Store "temp" sp_Store_temp []) (c_block_bytes : FnD P w K mg base (bs K) 3 "block_bytes" sp_block_bytes []) (rd : Rds N_kept_blocks sp_kept_blocks td_kept_blocks) : FnD P w K mg base (bs K) 4 "kept_blocks" sp_kept_blocks [] := by
  obtain ⟨fd, F⟩ := T.D_kept_blocks
  have B : Binds K fd ["store", "entry"] [] := F.bindsN fun _ _ _ _ _ _ us hl => match us, hl with | [_, _], _ => rfl
  have OK := fn_okD (P := P) (w := w) (mg := mg) (base := base) (B := bs K) (k := 3) (td := td_kept_blocks) F sc_kept_blocks (by exact len2) (fun cdv A outer s H E hr => (qs_cons (qs_set (i := 2) sc_kept_blocks.nd rfl (by first | exact Or.inl rfl | exact Or.inr rfl) (qe_meth c_Store_temp (hr.mono (by decide)) tk_of (qe_var (pv 0)) (qa_cons (qe_fld ⟨T.cl⟩ T.f_name (qe_var (pv 1)) rfl) (qa_nil))))
  (qs_cons (qs_set (i := 3) sc_kept_blocks.nd rfl (by first | exact Or.inl rfl | exact Or.inr rfl) (qe_int))
  (qs_cons (qs_if (qt_notN (qe_var (pv 2))) (qs_cons (qs_set (i := 4) sc_kept_blocks.nd rfl (by first | exact Or.inl rfl | exact Or.inr rfl) (qe_int))
  (qs_one (qs_while own_of (qt_cmp (o_lt) (qe_var (pv 3)) (qe_cb (c_len T.hK) rfl T.b_len bb_len (qa_cons (qe_fld ⟨T.cl⟩ T.f_blocks (qe_var (pv 1)) rfl) (qa_nil))) (nomark _)) (qs_cons (qs_set (i := 5) sc_kept_blocks.nd rfl (by first | exact Or.inl rfl | exact Or.inr rfl) (qe_call c_block_bytes (hr.mono (by decide)) tk_of rfl (qa_cons (qe_ix (i_ix T.hK (hu_of hr)) (qe_fld ⟨T.cl⟩ T.f_blocks (qe_var (pv 1)) rfl) (qe_var (pv 3)) (fun _ _ => rfl)) (qa_nil))))
  (qs_cons (qs_if (qt_cmp (o_ne T.hK hr.units) (qe_sl (m := false) T.hK (qe_var (pv 2)) (qo_some (qe_var (pv 4))) (qo_some (qe_op (o_add (m := false) T.hK) (qe_var (pv 4)) (qe_cb (c_len T.hK) rfl T.b_len bb_len (qa_cons (qe_var (pv 5)) (qa_nil)))))) (qe_var (pv 5)) (nomark _)) (qs_one (qs_ret (qe_var (pv 3)))) (qs_nil))
  (qs_cons (qs_aug (i := 4) oi_add sc_kept_blocks.nd rfl (by first | exact Or.inl rfl | exact Or.inr rfl) (qe_cb (c_len T.hK) rfl T.b_len bb_len (qa_cons (qe_var (pv 5)) (qa_nil))))
  (qs_one (qs_aug (i := 3) oi_add sc_kept_blocks.nd rfl (by first | exact Or.inl rfl | exact Or.inr rfl) (qe_int))))))))) (qs_nil))
  (qs_one (qs_ret (qe_var (pv 3)))))))) rd
  exact .of OK T.G_kept_blocks F.kp B
theorem ok_near_places (T : Txt K mg) (c_kept_blocks : FnD P w K mg base (bs K) 4 "kept_blocks" sp_kept_blocks []) (c_Store_names : MetD P w K mg base (bs K) 1 .Store "names" sp_Store_names []) (c_Store_read : MetD P w K mg base (bs K) 1 .Store "read" sp_Store_read []) (c_split : FnD P w K mg base (bs K) 2 "split" sp_split []) (c_Store_attic : MetD P w K mg base (bs K) 1 .Store "attic" sp_Store_attic []) (rd : Rds N_near_places sp_near_places td_near_places) : FnD P w K mg base (bs K) 5 "near_places" sp_near_places [] := by
  obtain ⟨fd, F⟩ := T.D_near_places
  have B : Binds K fd ["store", "entry"] [] := F.bindsN fun _ _ _ _ _ _ us hl => match us, hl with | [_, _], _ => rfl
  have OK := fn_okD (P := P) (w := w) (mg := mg) (base := base) (B := bs K) (k := 4) (td := td_near_places) F sc_near_places (by exact len2) (fun cdv A outer s H E hr => (qs_cons (qs_set (i := 2) sc_near_places.nd rfl (by first | exact Or.inl rfl | exact Or.inr rfl) (qe_dic0))
  (qs_cons (qs_set (i := 3) sc_near_places.nd rfl (by first | exact Or.inl rfl | exact Or.inr rfl) (qe_lst (m := true) (qa_cons (qe_tup (qa_cons (qe_gc rfl T.g_TEMP (fun _ _ _ => rfl)) (qa_cons (qe_fld ⟨T.cl⟩ T.f_name (qe_var (pv 1)) rfl) (qa_cons (qe_sl (m := false) T.hK (qe_fld ⟨T.cl⟩ T.f_blocks (qe_var (pv 1)) rfl) (qo_none) (qo_some (qe_call c_kept_blocks (hr.mono (by decide)) tk_of rfl (qa_cons (qe_var (pv 0)) (qa_cons (qe_var (pv 1)) (qa_nil)))))) (qa_nil))))) (qa_nil))))
  (qs_cons (qs_for own_of rfl (qi_list T.hK (qe_meth0 c_Store_names (hr.mono (by decide)) tk_of (qe_var (pv 0)))) (qg_name (pg_name (i := 4) sc_near_places.nd rfl (by first | exact Or.inl rfl | exact Or.inr rfl))) (qs_one (qs_expr (qe_bm PySem.F.plainAttrs_list PySem.F.slot_list_append PySem.F.type_list_append (m_append) (qe_var (pv 3)) (qa_cons (qe_tup (qa_cons (qe_gc rfl T.g_FILE (fun _ _ _ => rfl)) (qa_cons (qe_var (pv 4)) (qa_cons (qe_call c_split (hr.mono (by decide)) tk_of rfl (qa_cons (qe_ix (i_ix T.hK (hu_of hr)) (qe_meth c_Store_read (hr.mono (by decide)) tk_of (qe_var (pv 0)) (qa_cons (qe_var (pv 4)) (qa_nil))) (qe_int) (fun _ _ => rfl)) (qa_nil))) (qa_nil))))) (qa_nil))))))
  (qs_cons (qs_set (i := 5) sc_near_places.nd rfl (by first | exact Or.inl rfl | exact Or.inr rfl) (qe_meth0 c_Store_attic (hr.mono (by decide)) tk_of (qe_var (pv 0))))
  (qs_cons (qs_for own_of rfl (qi_rng1 rfl T.b_range (qa_cons (qe_cb (c_len T.hK) rfl T.b_len bb_len (qa_cons (qe_var (pv 5)) (qa_nil))) (qa_nil))) (qg_name (pg_name (i := 6) sc_near_places.nd rfl (by first | exact Or.inl rfl | exact Or.inr rfl))) (qs_one (qs_expr (qe_bm PySem.F.plainAttrs_list PySem.F.slot_list_append PySem.F.type_list_append (m_append) (qe_var (pv 3)) (qa_cons (qe_tup (qa_cons (qe_gc rfl T.g_ATTIC (fun _ _ _ => rfl)) (qa_cons (qe_var (pv 6)) (qa_cons (qe_call c_split (hr.mono (by decide)) tk_of rfl (qa_cons (qe_ix (i_ix T.hK (hu_of hr)) (qe_ix (i_ix T.hK (hu_of hr)) (qe_var (pv 5)) (qe_var (pv 6)) (fun _ _ => rfl)) (qe_int) (fun _ _ => rfl)) (qa_nil))) (qa_nil))))) (qa_nil))))))
  (qs_cons (qs_for own_of rfl (qi_list T.hK (qe_var (pv 3))) (qg_tup T.hK rfl (qg_cons (qg_name (pg_name (i := 7) sc_near_places.nd rfl (by first | exact Or.inl rfl | exact Or.inr rfl))) (qg_cons (qg_name (pg_name (i := 8) sc_near_places.nd rfl (by first | exact Or.inl rfl | exact Or.inr rfl))) (qg_cons (qg_name (pg_name (i := 9) sc_near_places.nd rfl (by first | exact Or.inl rfl | exact Or.inr rfl))) (qg_nil))))) (qs_one (qs_for own_of rfl (qi_rng1 rfl T.b_range (qa_cons (qe_cb (c_len T.hK) rfl T.b_len bb_len (qa_cons (qe_var (pv 9)) (qa_nil))) (qa_nil))) (qg_name (pg_name (i := 6) sc_near_places.nd rfl (by first | exact Or.inl rfl | exact Or.inr rfl))) (qs_one (qs_if (qt_cmp (o_notin T.hK (hu65 hr)) (qe_ix (i_ix T.hK (hu_of hr)) (qe_var (pv 9)) (qe_var (pv 6)) (fun _ _ => rfl)) (qe_var (pv 2)) (by rfl)) (qs_one (qs_asg (qe_tup (qa_cons (qe_var (pv 7)) (qa_cons (qe_var (pv 8)) (qa_cons (qe_var (pv 6)) (qa_nil))))) (qg_sub (W := W0) (hu_of hr) (qe_var (pv 2)) (qe_ix (i_ix T.hK (hu_of hr)) (qe_var (pv 9)) (qe_var (pv 6)) (fun _ _ => rfl))))) (qs_nil))))))
  (qs_one (qs_ret (qe_var (pv 2))))))))))) rd
  exact .of OK T.G_near_places F.kp B
theorem ok_missing (T : Txt K mg) (c_near_places : FnD P w K mg base (bs K) 5 "near_places" sp_near_places []) (c_kept_blocks : FnD P w K mg base (bs K) 4 "kept_blocks" sp_kept_blocks []) (rd : Rds N_missing sp_missing td_missing) : FnD P w K mg base (bs K) 6 "missing" sp_missing [] := by
  obtain ⟨fd, F⟩ := T.D_missing
  have B : Binds K fd ["store", "entry"] [] := F.bindsN fun _ _ _ _ _ _ us hl => match us, hl with | [_, _], _ => rfl
  have OK := fn_okD (P := P) (w := w) (mg := mg) (base := base) (B := bs K) (k := 5) (td := td_missing) F sc_missing (by exact len2) (fun cdv A outer s H E hr => (qs_cons (qs_set (i := 2) sc_missing.nd rfl (by first | exact Or.inl rfl | exact Or.inr rfl) (qe_call c_near_places (hr.mono (by decide)) tk_of rfl (qa_cons (qe_var (pv 0)) (qa_cons (qe_var (pv 1)) (qa_nil)))))
  (qs_cons (qs_set (i := 3) sc_missing.nd rfl (by first | exact Or.inl rfl | exact Or.inr rfl) (qe_lst (m := true) (qa_nil)))
  (qs_cons (qs_for own_of rfl (qi_tup T.hK (qe_sl (m := false) T.hK (qe_fld ⟨T.cl⟩ T.f_blocks (qe_var (pv 1)) rfl) (qo_some (qe_call c_kept_blocks (hr.mono (by decide)) tk_of rfl (qa_cons (qe_var (pv 0)) (qa_cons (qe_var (pv 1)) (qa_nil))))) (qo_none))) (qg_name (pg_name (i := 4) sc_missing.nd rfl (by first | exact Or.inl rfl | exact Or.inr rfl))) (qs_one (qs_if (L2.PW.pt (qw_and (qt_cmp (o_notin T.hK (hu65 hr)) (qe_var (pv 4)) (qe_var (pv 2)) (by rfl)) (pw_and1 (qt_cmp (o_notin T.hK (hu65 hr)) (qe_var (pv 4)) (qe_var (pv 3)) (by rfl))))) (qs_one (qs_expr (qe_bm PySem.F.plainAttrs_list PySem.F.slot_list_append PySem.F.type_list_append (m_append) (qe_var (pv 3)) (qa_cons (qe_var (pv 4)) (qa_nil))))) (qs_nil))))
  (qs_one (qs_ret (qe_var (pv 3)))))))) rd
  exact .of OK T.G_missing F.kp B
theorem ok_must_come (T : Txt K mg) (c_missing : FnD P w K mg base (bs K) 6 "missing" sp_missing []) (rd : Rds N_must_come sp_must_come td_must_come) : FnD P w K mg base (bs K) 7 "must_come" sp_must_come [] := by
  obtain ⟨fd, F⟩ := T.D_must_come
  have B : Binds K fd ["store", "entries"] [] := F.bindsN fun _ _ _ _ _ _ us hl => match us, hl with | [_, _], _ => rfl
  have OK := fn_okD (P := P) (w := w) (mg := mg) (base := base) (B := bs K) (k := 6) (td := td_must_come) F sc_must_come (by exact len2) (fun cdv A outer s H E hr => (qs_cons (qs_set (i := 2) sc_must_come.nd rfl (by first | exact Or.inl rfl | exact Or.inr rfl) (qe_dic0))
  (qs_cons (qs_for own_of rfl (qi_list T.hK (qe_var (pv 1))) (qg_name (pg_name (i := 3) sc_must_come.nd rfl (by first | exact Or.inl rfl | exact Or.inr rfl))) (qs_one (qs_for own_of rfl (qi_list T.hK (qe_call c_missing (hr.mono (by decide)) tk_of rfl (qa_cons (qe_var (pv 0)) (qa_cons (qe_var (pv 3)) (qa_nil))))) (qg_name (pg_name (i := 4) sc_must_come.nd rfl (by first | exact Or.inl rfl | exact Or.inr rfl))) (qs_one (qs_asg (qe_bl) (qg_sub (W := W0) (hu_of hr) (qe_var (pv 2)) (qe_var (pv 4))))))))
  (qs_one (qs_ret (qe_cb (c_sorted (m := false) rfl) rfl T.b_sorted bb_sorted (qa_cons (qe_var (pv 2)) (qa_nil)))))))) rd
  exact .of OK T.G_must_come F.kp B
theorem ok_u_law_draws (T : Txt K mg)  (rd : Rds N_u_law_draws sp_u_law_draws td_u_law_draws) : FnD P w K mg base (bs K) 1 "_law_draws" sp_u_law_draws [] := by
  obtain ⟨fd, F⟩ := T.D_u_law_draws
  have B : Binds K fd ["_law_script"] [] := F.bindsN fun _ _ _ _ _ _ us hl => match us, hl with | [_], _ => rfl
  have OK := fn_okD (P := P) (w := w) (mg := mg) (base := base) (B := bs K) (k := 0) (td := td_u_law_draws) F sc_u_law_draws (by exact len1) (fun cdv A outer s H E hr => (qs_one (qs_ret (qe_lst (m := true) (qa_cons (qe_ct (c_list (m := false) T.hK rfl) rfl T.b_list bb_list (qa_cons (qe_var (pv 0)) (qa_nil))) (qa_cons (qe_int) (qa_cons (qe_int) (qa_cons (qe_int) (qa_nil))))))))) rd
  exact .of OK T.G_u_law_draws F.kp B
theorem ok_u_law_draw (T : Txt K mg)  (rd : Rds N_u_law_draw sp_u_law_draw td_u_law_draw) : FnD P w K mg base (bs K) 1 "_law_draw" sp_u_law_draw [] := by
  obtain ⟨fd, F⟩ := T.D_u_law_draw
  have B : Binds K fd ["_law_draws_here", "_law_limit"] [] := F.bindsN fun _ _ _ _ _ _ us hl => match us, hl with | [_, _], _ => rfl
  have OK := fn_okD (P := P) (w := w) (mg := mg) (base := base) (B := bs K) (k := 0) (td := td_u_law_draw) F sc_u_law_draw (by exact len2) (fun cdv A outer s H E hr => (qs_cons (qs_if (L2.PW.pt (qw_and (qt_cmp (o_eq T.hK hr.units) (qe_ix (i_ix T.hK (hu_of hr)) (qe_var (pv 0)) (qe_int) (fun _ _ => rfl)) (qe_int) (nomark _)) (pw_and1 (qt_cmp (o_lt) (qe_ix (i_ix T.hK (hu_of hr)) (qe_var (pv 0)) (qe_int) (fun _ _ => rfl)) (qe_cb (c_len T.hK) rfl T.b_len bb_len (qa_cons (qe_ix (i_ix T.hK (hu_of hr)) (qe_var (pv 0)) (qe_int) (fun _ _ => rfl)) (qa_nil))) (nomark _))))) (qs_cons (qs_set (i := 2) sc_u_law_draw.nd rfl (by first | exact Or.inl rfl | exact Or.inr rfl) (qe_cb (c_abs) rfl T.b_abs bb_abs (qa_cons (qe_ct (c_int) rfl T.b_int bb_int (qa_cons (qe_ix (i_ix T.hK (hu_of hr)) (qe_ix (i_ix T.hK (hu_of hr)) (qe_var (pv 0)) (qe_int) (fun _ _ => rfl)) (qe_ix (i_ix T.hK (hu_of hr)) (qe_var (pv 0)) (qe_int) (fun _ _ => rfl)) (fun _ _ => rfl)) (qa_nil))) (qa_nil))))
  (qs_cons (qs_asg (qe_op (o_add (m := false) T.hK) (qe_ix (i_ix T.hK (hu_of hr)) (qe_var (pv 0)) (qe_int) (fun _ _ => rfl)) (qe_int)) (qg_sub (W := W0) (hu_of hr) (qe_var (pv 0)) (qe_int)))
  (qs_cons (qs_if (qt_cmp (o_ge) (qe_var (pv 2)) (qe_op (o_pow) (qe_int) (qe_int)) (nomark _)) (qs_one (qs_asg (qe_var (pv 2)) (qg_sub (W := W0) (hu_of hr) (qe_var (pv 0)) (qe_int)))) (qs_nil))
  (qs_one (qs_asg (qe_op (o_mod) (qe_ct (c_int) rfl T.b_int bb_int (qa_cons (qe_op (o_add (m := false) T.hK) (qe_op (o_add (m := false) T.hK) (qe_op (o_mul (m := false)) (qe_ix (i_ix T.hK (hu_of hr)) (qe_var (pv 0)) (qe_int) (fun _ _ => rfl)) (qe_int)) (qe_var (pv 2))) (qe_int)) (qa_nil))) (qe_int)) (qg_sub (W := W0) (hu_of hr) (qe_var (pv 0)) (qe_int))))))) (qs_nil))
  (qs_cons (qs_if (qt_cmp (o_gt) (qe_ix (i_ix T.hK (hu_of hr)) (qe_var (pv 0)) (qe_int) (fun _ _ => rfl)) (qe_int) (nomark _)) (qs_cons (qs_set (i := 3) sc_u_law_draw.nd rfl (by first | exact Or.inl rfl | exact Or.inr rfl) (qe_op (o_mod) (qe_ct (c_int) rfl T.b_int bb_int (qa_cons (qe_ix (i_ix T.hK (hu_of hr)) (qe_var (pv 0)) (qe_int) (fun _ _ => rfl)) (qa_nil))) (qe_var (pv 1))))
  (qs_cons (qs_asg (qe_op (o_fdiv) (qe_ix (i_ix T.hK (hu_of hr)) (qe_var (pv 0)) (qe_int) (fun _ _ => rfl)) (qe_var (pv 1))) (qg_sub (W := W0) (hu_of hr) (qe_var (pv 0)) (qe_int)))
  (qs_one (qs_ret (qe_var (pv 3)))))) (qs_nil))
  (qs_cons (qs_asg (qe_op (o_mod) (qe_ct (c_int) rfl T.b_int bb_int (qa_cons (qe_op (o_add (m := false) T.hK) (qe_op (o_mul (m := false)) (qe_ix (i_ix T.hK (hu_of hr)) (qe_var (pv 0)) (qe_int) (fun _ _ => rfl)) (qe_int)) (qe_int)) (qa_nil))) (qe_int)) (qg_sub (W := W0) (hu_of hr) (qe_var (pv 0)) (qe_int)))
  (qs_one (qs_ret (qe_op (o_mod) (qe_ct (c_int) rfl T.b_int bb_int (qa_cons (qe_op (o_fdiv) (qe_ix (i_ix T.hK (hu_of hr)) (qe_var (pv 0)) (qe_int) (fun _ _ => rfl)) (qe_int)) (qa_nil))) (qe_var (pv 1))))))))) rd
  exact .of OK T.G_u_law_draw F.kp B
theorem ok_u_law_content (T : Txt K mg) (c_u_law_draw : FnD P w K mg base (bs K) 1 "_law_draw" sp_u_law_draw []) (rd : Rds N_u_law_content sp_u_law_content td_u_law_content) : FnD P w K mg base (bs K) 2 "_law_content" sp_u_law_content [] := by
  obtain ⟨fd, F⟩ := T.D_u_law_content
  have B : Binds K fd ["_law_draws_here"] [] := F.bindsN fun _ _ _ _ _ _ us hl => match us, hl with | [_], _ => rfl
  have OK := fn_okD (P := P) (w := w) (mg := mg) (base := base) (B := bs K) (k := 1) (td := td_u_law_content) F sc_u_law_content (by exact len1) (fun cdv A outer s H E hr => (qs_cons (qs_set (i := 1) sc_u_law_content.nd rfl (by first | exact Or.inl rfl | exact Or.inr rfl) (qe_lst (m := false) (qa_cons (qe_lst (m := false) (qa_cons (qe_int) (qa_cons (qe_int) (qa_cons (qe_int) (qa_cons (qe_int) (qa_nil)))))) (qa_cons (qe_lst (m := false) (qa_cons (qe_int) (qa_cons (qe_int) (qa_cons (qe_int) (qa_cons (qe_int) (qa_nil)))))) (qa_cons (qe_lst (m := false) (qa_cons (qe_int) (qa_cons (qe_int) (qa_cons (qe_int) (qa_cons (qe_int) (qa_nil)))))) (qa_cons (qe_lst (m := false) (qa_cons (qe_int) (qa_nil))) (qa_cons (qe_lst (m := false) (qa_cons (qe_int) (qa_cons (qe_int) (qa_nil)))) (qa_cons (qe_lst (m := false) (qa_cons (qe_int) (qa_cons (qe_int) (qa_cons (qe_int) (qa_nil))))) (qa_nil)))))))))
  (qs_cons (qs_set (i := 2) sc_u_law_content.nd rfl (by first | exact Or.inl rfl | exact Or.inr rfl) (qe_lst (m := false) (qa_nil)))
  (qs_cons (qs_for own_of rfl (qi_rng1 rfl T.b_range (qa_cons (qe_call c_u_law_draw (hr.mono (by decide)) tk_of rfl (qa_cons (qe_var (pv 0)) (qa_cons (qe_int) (qa_nil)))) (qa_nil))) (qg_name (pg_name (i := 3) sc_u_law_content.nd rfl (by first | exact Or.inl rfl | exact Or.inr rfl))) (qs_one (qs_set (i := 2) sc_u_law_content.nd rfl (by first | exact Or.inl rfl | exact Or.inr rfl) (qe_op (o_add (m := false) T.hK) (qe_var (pv 2)) (qe_ix (i_ix T.hK (hu_of hr)) (qe_var (pv 1)) (qe_call c_u_law_draw (hr.mono (by decide)) tk_of rfl (qa_cons (qe_var (pv 0)) (qa_cons (qe_int) (qa_nil)))) (fun _ _ => rfl))))))
  (qs_one (qs_ret (qe_var (pv 2)))))))) rd
  exact .of OK T.G_u_law_content F.kp B
theorem ok_u_law_pieces (T : Txt K mg)  (rd : Rds N_u_law_pieces sp_u_law_pieces td_u_law_pieces) : FnD P w K mg base (bs K) 1 "_law_pieces" sp_u_law_pieces [] := by
  obtain ⟨fd, F⟩ := T.D_u_law_pieces
  have B : Binds K fd ["_law_content_here"] [] := F.bindsN fun _ _ _ _ _ _ us hl => match us, hl with | [_], _ => rfl
  have OK := fn_okD (P := P) (w := w) (mg := mg) (base := base) (B := bs K) (k := 0) (td := td_u_law_pieces) F sc_u_law_pieces (by exact len1) (fun cdv A outer s H E hr => (qs_one (qs_ret (qe_lc (m := false) (own := [("_law_at", 1)]) (lt := .one 1) T.hK rfl sc_u_law_pieces.nd (qi_rng3 rfl T.b_range (qa_cons (qe_int) (qa_cons (qe_cb (c_len T.hK) rfl T.b_len bb_len (qa_cons (qe_var (pv 0)) (qa_nil))) (qa_cons (qe_int) (qa_nil))))) (blkOk_by (N := ["_law_content_here", "_law_at"]) (sc := (defScope s_u_law_pieces)) (by decide +kernel)) (by decide) (fun _ _ _ _ _ => pg_name (i := 1) sc_u_law_pieces.nd rfl (by first | exact Or.inl rfl | exact Or.inr rfl)) (fun _ _ _ _ _ => qp_nil) (fun _ _ _ _ _ => qe_ct (c_tuple T.hK) rfl T.b_tuple bb_tuple (qa_cons (qe_sl (m := false) T.hK (qe_var (pv 0)) (qo_some (qe_var (pv 1))) (qo_some (qe_op (o_add (m := false) T.hK) (qe_var (pv 1)) (qe_int)))) (qa_nil))))))) rd
  exact .of OK T.G_u_law_pieces F.kp B
theorem ok_u_law_number (T : Txt K mg)  (rd : Rds N_u_law_number sp_u_law_number td_u_law_number) : FnD P w K mg base (bs K) 1 "_law_number" sp_u_law_number [] := by
  obtain ⟨fd, F⟩ := T.D_u_law_number
  have B : Binds K fd ["_law_piece"] [] := F.bindsN fun _ _ _ _ _ _ us hl => match us, hl with | [_], _ => rfl
  have OK := fn_okD (P := P) (w := w) (mg := mg) (base := base) (B := bs K) (k := 0) (td := td_u_law_number) F sc_u_law_number (by exact len1) (fun cdv A outer s H E hr => (qs_cons (qs_set (i := 1) sc_u_law_number.nd rfl (by first | exact Or.inl rfl | exact Or.inr rfl) (qe_int))
  (qs_cons (qs_for own_of rfl (qi_tup T.hK (qe_var (pv 0))) (qg_name (pg_name (i := 2) sc_u_law_number.nd rfl (by first | exact Or.inl rfl | exact Or.inr rfl))) (qs_one (qs_set (i := 1) sc_u_law_number.nd rfl (by first | exact Or.inl rfl | exact Or.inr rfl) (qe_op (o_add (m := false) T.hK) (qe_op (o_mul (m := false)) (qe_var (pv 1)) (qe_int)) (qe_var (pv 2))))))
  (qs_one (qs_ret (qe_var (pv 1))))))) rd
  exact .of OK T.G_u_law_number F.kp B
theorem ok_u_law_missing (T : Txt K mg) (c_Store_names : MetD P w K mg base (bs K) 1 .Store "names" sp_Store_names []) (c_Store_read : MetD P w K mg base (bs K) 1 .Store "read" sp_Store_read []) (c_u_law_pieces : FnD P w K mg base (bs K) 1 "_law_pieces" sp_u_law_pieces []) (c_Store_attic : MetD P w K mg base (bs K) 1 .Store "attic" sp_Store_attic []) (c_Store_temp : MetD P w K mg base (bs K) 1 .Store "temp" sp_Store_temp []) (c_u_law_number : FnD P w K mg base (bs K) 1 "_law_number" sp_u_law_number []) (rd : Rds N_u_law_missing sp_u_law_missing td_u_law_missing) : FnD P w K mg base (bs K) 2 "_law_missing" sp_u_law_missing [] := by
  obtain ⟨fd, F⟩ := T.D_u_law_missing
  have B : Binds K fd ["_law_store", "_law_name", "_law_content_here"] [] := F.bindsN fun _ _ _ _ _ _ us hl => match us, hl with | [_, _, _], _ => rfl
  have OK := fn_okD (P := P) (w := w) (mg := mg) (base := base) (B := bs K) (k := 1) (td := td_u_law_missing) F sc_u_law_missing (by exact len3) (fun cdv A outer s H E hr => (qs_cons (qs_set (i := 3) sc_u_law_missing.nd rfl (by first | exact Or.inl rfl | exact Or.inr rfl) (qe_lst (m := false) (qa_nil)))
  (qs_cons (qs_for own_of rfl (qi_list T.hK (qe_meth0 c_Store_names (hr.mono (by decide)) tk_of (qe_var (pv 0)))) (qg_name (pg_name (i := 4) sc_u_law_missing.nd rfl (by first | exact Or.inl rfl | exact Or.inr rfl))) (qs_one (qs_set (i := 3) sc_u_law_missing.nd rfl (by first | exact Or.inl rfl | exact Or.inr rfl) (qe_op (o_add (m := false) T.hK) (qe_var (pv 3)) (qe_call c_u_law_pieces (hr.mono (by decide)) tk_of rfl (qa_cons (qe_ix (i_ix T.hK (hu_of hr)) (qe_meth c_Store_read (hr.mono (by decide)) tk_of (qe_var (pv 0)) (qa_cons (qe_var (pv 4)) (qa_nil))) (qe_int) (fun _ _ => rfl)) (qa_nil)))))))
  (qs_cons (qs_for own_of rfl (qi_list T.hK (qe_meth0 c_Store_attic (hr.mono (by decide)) tk_of (qe_var (pv 0)))) (qg_name (pg_name (i := 5) sc_u_law_missing.nd rfl (by first | exact Or.inl rfl | exact Or.inr rfl))) (qs_one (qs_set (i := 3) sc_u_law_missing.nd rfl (by first | exact Or.inl rfl | exact Or.inr rfl) (qe_op (o_add (m := false) T.hK) (qe_var (pv 3)) (qe_call c_u_law_pieces (hr.mono (by decide)) tk_of rfl (qa_cons (qe_ix (i_ix T.hK (hu_of hr)) (qe_var (pv 5)) (qe_int) (fun _ _ => rfl)) (qa_nil)))))))
  (qs_cons (qs_set (i := 6) sc_u_law_missing.nd rfl (by first | exact Or.inl rfl | exact Or.inr rfl) (qe_meth c_Store_temp (hr.mono (by decide)) tk_of (qe_var (pv 0)) (qa_cons (qe_var (pv 1)) (qa_nil))))
  (qs_cons (qs_set (i := 7) sc_u_law_missing.nd rfl (by first | exact Or.inl rfl | exact Or.inr rfl) (qe_int))
  (qs_cons (qs_if (qt_notN (qe_var (pv 6))) (qs_cons (qs_set (i := 8) sc_u_law_missing.nd rfl (by first | exact Or.inl rfl | exact Or.inr rfl) (qe_call c_u_law_pieces (hr.mono (by decide)) tk_of rfl (qa_cons (qe_var (pv 2)) (qa_nil))))
  (qs_cons (qs_for own_of rfl (qi_rng1 rfl T.b_range (qa_cons (qe_cb (c_len T.hK) rfl T.b_len bb_len (qa_cons (qe_var (pv 8)) (qa_nil))) (qa_nil))) (qg_name (pg_name (i := 9) sc_u_law_missing.nd rfl (by first | exact Or.inl rfl | exact Or.inr rfl))) (qs_one (qs_if (L2.PW.pt (qw_and (qt_cmp (o_eq T.hK hr.units) (qe_sl (m := false) T.hK (qe_var (pv 6)) (qo_some (qe_op (o_mul (m := false)) (qe_int) (qe_var (pv 9)))) (qo_some (qe_op (o_add (m := false) T.hK) (qe_op (o_mul (m := false)) (qe_int) (qe_var (pv 9))) (qe_cb (c_len T.hK) rfl T.b_len bb_len (qa_cons (qe_ix (i_ix T.hK (hu_of hr)) (qe_var (pv 8)) (qe_var (pv 9)) (fun _ _ => rfl)) (qa_nil)))))) (qe_ct (c_list (m := false) T.hK rfl) rfl T.b_list bb_list (qa_cons (qe_ix (i_ix T.hK (hu_of hr)) (qe_var (pv 8)) (qe_var (pv 9)) (fun _ _ => rfl)) (qa_nil))) (nomark _)) (pw_and1 (qt_cmp (o_eq T.hK hr.units) (qe_var (pv 7)) (qe_var (pv 9)) (nomark _))))) (qs_one (qs_set (i := 7) sc_u_law_missing.nd rfl (by first | exact Or.inl rfl | exact Or.inr rfl) (qe_op (o_add (m := false) T.hK) (qe_var (pv 9)) (qe_int)))) (qs_nil))))
  (qs_one (qs_set (i := 3) sc_u_law_missing.nd rfl (by first | exact Or.inl rfl | exact Or.inr rfl) (qe_op (o_add (m := false) T.hK) (qe_var (pv 3)) (qe_sl (m := false) T.hK (qe_var (pv 8)) (qo_none) (qo_some (qe_var (pv 7))))))))) (qs_nil))
  (qs_one (qs_ret (qe_lc (m := false) (own := [("_law_piece", 10)]) (lt := .one 10) T.hK rfl sc_u_law_missing.nd (qi_list T.hK (qe_sl (m := false) T.hK (qe_call c_u_law_pieces (hr.mono (by decide)) tk_of rfl (qa_cons (qe_var (pv 2)) (qa_nil))) (qo_some (qe_var (pv 7))) (qo_none))) (blkOk_by (N := ["_law_store", "_law_name", "_law_content_here", "_law_near", "_law_other", "_law_row", "_law_temp", "_law_front", "_law_pieces_here", "_law_k", "_law_piece"]) (sc := (defScope s_u_law_missing)) (by decide +kernel)) (by decide) (fun _ _ _ _ _ => pg_name (i := 10) sc_u_law_missing.nd rfl (by first | exact Or.inl rfl | exact Or.inr rfl)) (fun _ _ _ _ _ => qp_one (qt_cmp (o_notin T.hK (hu65 hr)) (qe_var (pv 10)) (qe_var (pv 3)) (by rfl))) (fun _ _ _ _ _ => qe_call c_u_law_number (hr.mono (by decide)) tk0 rfl (qa_cons (qe_var (pv 10)) (qa_nil))))))))))))) rd
  exact .of OK T.G_u_law_missing F.kp B
theorem ok_law (T : Txt K mg) (c_u_law_draws : FnD P w K mg base (bs K) 1 "_law_draws" sp_u_law_draws []) (k_Store : MakD P w K mg base (bs K) 1 "Store" .Store sp_Store___init__ []) (c_u_law_draw : FnD P w K mg base (bs K) 1 "_law_draw" sp_u_law_draw []) (c_u_law_content : FnD P w K mg base (bs K) 2 "_law_content" sp_u_law_content []) (c_Store_write : MetD P w K mg base (bs K) 2 .Store "write" sp_Store_write []) (c_Store_append_temp : MetD P w K mg base (bs K) 2 .Store "append_temp" sp_Store_append_temp []) (c_Store_attic_put : MetD P w K mg base (bs K) 2 .Store "attic_put" sp_Store_attic_put []) (c_Store_durable : MetD P w K mg base (bs K) 2 .Store "durable" sp_Store_durable []) (c_split : FnD P w K mg base (bs K) 2 "split" sp_split []) (k_Entry : MakD P w K mg base (bs K) 1 "Entry" .Entry sp_Entry___init__ []) (c_u_law_missing : FnD P w K mg base (bs K) 2 "_law_missing" sp_u_law_missing []) (c_must_come : FnD P w K mg base (bs K) 7 "must_come" sp_must_come []) (rd : Rds N_law sp_law td_law) {fd : FuncData} (F : FunD K "law" "law" (defArgs s_law) (defBody s_law) (defScope s_law) [] [] (He.fAd K ("law", none)) fd) : FnOk P w K mg base (L2.CX P w) 8 (He.fAd K ("law", none)) fd ["_law_script"] (lift (bs K) sp_law) :=
  fn_okD (P := P) (w := w) (mg := mg) (base := base) (B := bs K) (k := 7) (td := td_law) F sc_law (by exact len1) (fun cdv A outer s H E hr => (qs_cons (qs_set (i := 1) sc_law.nd rfl (by first | exact Or.inl rfl | exact Or.inr rfl) (qe_call c_u_law_draws (hr.mono (by decide)) tk_of rfl (qa_cons (qe_var (pv 0)) (qa_nil))))
  (qs_cons (qs_set (i := 2) sc_law.nd rfl (by first | exact Or.inl rfl | exact Or.inr rfl) (qe_make (fr := false) k_Store (hr.mono (by decide)) rfl (qa_cons (qe_dic0) (qa_cons (qe_lst (m := false) (qa_nil)) (qa_nil)))))
  (qs_cons (qs_set (i := 3) sc_law.nd rfl (by first | exact Or.inl rfl | exact Or.inr rfl) (qe_lst (m := false) (qa_cons (qe_str) (qa_cons (qe_str) (qa_cons (qe_str) (qa_cons (qe_str) (qa_nil)))))))
  (qs_cons (qs_for own_of rfl (qi_rng1 rfl T.b_range (qa_cons (qe_call c_u_law_draw (hr.mono (by decide)) tk_of rfl (qa_cons (qe_var (pv 1)) (qa_cons (qe_int) (qa_nil)))) (qa_nil))) (qg_name (pg_name (i := 4) sc_law.nd rfl (by first | exact Or.inl rfl | exact Or.inr rfl))) (qs_one (qs_expr (qe_meth c_Store_write (hr.mono (by decide)) tk_of (qe_var (pv 2)) (qa_cons (qe_ix (i_ix T.hK (hu_of hr)) (qe_var (pv 3)) (qe_call c_u_law_draw (hr.mono (by decide)) tk_of rfl (qa_cons (qe_var (pv 1)) (qa_cons (qe_int) (qa_nil)))) (fun _ _ => rfl)) (qa_cons (qe_call c_u_law_content (hr.mono (by decide)) tk_of rfl (qa_cons (qe_var (pv 1)) (qa_nil))) (qa_cons (qe_int) (qa_nil))))))))
  (qs_cons (qs_for own_of rfl (qi_rng1 rfl T.b_range (qa_cons (qe_call c_u_law_draw (hr.mono (by decide)) tk_of rfl (qa_cons (qe_var (pv 1)) (qa_cons (qe_int) (qa_nil)))) (qa_nil))) (qg_name (pg_name (i := 4) sc_law.nd rfl (by first | exact Or.inl rfl | exact Or.inr rfl))) (qs_one (qs_expr (qe_meth c_Store_append_temp (hr.mono (by decide)) tk_of (qe_var (pv 2)) (qa_cons (qe_ix (i_ix T.hK (hu_of hr)) (qe_var (pv 3)) (qe_call c_u_law_draw (hr.mono (by decide)) tk_of rfl (qa_cons (qe_var (pv 1)) (qa_cons (qe_int) (qa_nil)))) (fun _ _ => rfl)) (qa_cons (qe_call c_u_law_content (hr.mono (by decide)) tk_of rfl (qa_cons (qe_var (pv 1)) (qa_nil))) (qa_nil)))))))
  (qs_cons (qs_for own_of rfl (qi_rng1 rfl T.b_range (qa_cons (qe_call c_u_law_draw (hr.mono (by decide)) tk_of rfl (qa_cons (qe_var (pv 1)) (qa_cons (qe_int) (qa_nil)))) (qa_nil))) (qg_name (pg_name (i := 4) sc_law.nd rfl (by first | exact Or.inl rfl | exact Or.inr rfl))) (qs_one (qs_expr (qe_meth c_Store_attic_put (hr.mono (by decide)) tk_of (qe_var (pv 2)) (qa_cons (qe_ix (i_ix T.hK (hu_of hr)) (qe_var (pv 3)) (qe_call c_u_law_draw (hr.mono (by decide)) tk_of rfl (qa_cons (qe_var (pv 1)) (qa_cons (qe_int) (qa_nil)))) (fun _ _ => rfl)) (qa_cons (qe_tup (qa_cons (qe_tup (qa_cons (qe_int) (qa_cons (qe_op (o_add (m := false) T.hK) (qe_var (pv 4)) (qe_int)) (qa_nil)))) (qa_nil))) (qa_cons (qe_call c_u_law_content (hr.mono (by decide)) tk_of rfl (qa_cons (qe_var (pv 1)) (qa_nil))) (qa_nil))))))))
  (qs_cons (qs_set (i := 5) sc_law.nd rfl (by first | exact Or.inl rfl | exact Or.inr rfl) (qe_meth0 c_Store_durable (hr.mono (by decide)) tk_of (qe_var (pv 2))))
  (qs_cons (qs_set (i := 6) sc_law.nd rfl (by first | exact Or.inl rfl | exact Or.inr rfl) (qe_lst (m := false) (qa_nil)))
  (qs_cons (qs_set (i := 7) sc_law.nd rfl (by first | exact Or.inl rfl | exact Or.inr rfl) (qe_lst (m := true) (qa_nil)))
  (qs_cons (qs_for own_of rfl (qi_rng1 rfl T.b_range (qa_cons (qe_op (o_add (m := false) T.hK) (qe_int) (qe_call c_u_law_draw (hr.mono (by decide)) tk_of rfl (qa_cons (qe_var (pv 1)) (qa_cons (qe_int) (qa_nil))))) (qa_nil))) (qg_name (pg_name (i := 4) sc_law.nd rfl (by first | exact Or.inl rfl | exact Or.inr rfl))) (qs_cons (qs_set (i := 8) sc_law.nd rfl (by first | exact Or.inl rfl | exact Or.inr rfl) (qe_call c_u_law_content (hr.mono (by decide)) tk_of rfl (qa_cons (qe_var (pv 1)) (qa_nil))))
  (qs_cons (qs_set (i := 9) sc_law.nd rfl (by first | exact Or.inl rfl | exact Or.inr rfl) (qe_ix (i_ix T.hK (hu_of hr)) (qe_var (pv 3)) (qe_call c_u_law_draw (hr.mono (by decide)) tk_of rfl (qa_cons (qe_var (pv 1)) (qa_cons (qe_int) (qa_nil)))) (fun _ _ => rfl)))
  (qs_cons (qs_expr (qe_bm PySem.F.plainAttrs_list PySem.F.slot_list_append PySem.F.type_list_append (m_append) (qe_var (pv 7)) (qa_cons (qe_make (fr := true) k_Entry (hr.mono (by decide)) rfl (qa_cons (qe_var (pv 9)) (qa_cons (qe_tup (qa_cons (qe_tup (qa_cons (qe_int) (qa_cons (qe_op (o_add (m := false) T.hK) (qe_var (pv 4)) (qe_int)) (qa_nil)))) (qa_nil))) (qa_cons (qe_int) (qa_cons (qe_tup (qa_cons (qe_int) (qa_cons (qe_op (o_add (m := false) T.hK) (qe_var (pv 4)) (qe_int)) (qa_nil)))) (qa_cons (qe_bl) (qa_cons (qe_int) (qa_cons (qe_call c_split (hr.mono (by decide)) tk_of rfl (qa_cons (qe_var (pv 8)) (qa_nil))) (qa_nil))))))))) (qa_nil))))
  (qs_one (qs_set (i := 6) sc_law.nd rfl (by first | exact Or.inl rfl | exact Or.inr rfl) (qe_op (o_add (m := false) T.hK) (qe_var (pv 6)) (qe_call c_u_law_missing (hr.mono (by decide)) tk_of rfl (qa_cons (qe_var (pv 2)) (qa_cons (qe_var (pv 9)) (qa_cons (qe_var (pv 8)) (qa_nil))))))))))))
  (qs_cons (qs_set (i := 10) sc_law.nd rfl (by first | exact Or.inl rfl | exact Or.inr rfl) (qe_call c_must_come (hr.mono (by decide)) tk_of rfl (qa_cons (qe_var (pv 2)) (qa_cons (qe_var (pv 7)) (qa_nil)))))
  (qs_one (qs_ret (qe_and (qe_cmp (o_eq T.hK hr.units) (qe_var (pv 10)) (qe_cb (c_sorted (m := false) rfl) rfl T.b_sorted bb_sorted (qa_cons (qe_ct (c_dictP T.hK rfl) rfl T.b_dict bb_dict (qa_cons (qe_lc (m := false) (own := [("_law_block", 11)]) (lt := .one 11) T.hK rfl sc_law.nd (qi_list T.hK (qe_var (pv 6))) (blkOk_by (N := ["_law_script", "_law_draws_here", "_law_store", "_law_names", "_law_k", "_law_before", "_law_due", "_law_entries", "_law_content_here", "_law_name", "_law_found", "_law_block"]) (sc := (defScope s_law)) (by decide +kernel)) (by decide) (fun _ _ _ _ _ => pg_name (i := 11) sc_law.nd rfl (by first | exact Or.inl rfl | exact Or.inr rfl)) (fun _ _ _ _ _ => qp_nil) (fun _ _ _ _ _ => qe_tup (qa_cons (qe_var (pv 11)) (qa_cons (qe_bl) (qa_nil))))) (qa_nil))) (qa_nil))) (nomark _)) (qe_and (qe_cmp (o_eq T.hK hr.units) (qe_meth0 c_Store_durable (hr.mono (by decide)) tk_of (qe_var (pv 2))) (qe_var (pv 5)) (nomark _)) (qe_one (qe_cmp (o_eq T.hK hr.units) (qe_call c_must_come (hr.mono (by decide)) tk_of rfl (qa_cons (qe_var (pv 2)) (qa_cons (qe_lst (m := false) (qa_nil)) (qa_nil)))) (qe_lst (m := false) (qa_nil)) (nomark _))))))))))))))))))) rd
end
theorem all_ok {P : Program} {w : World} {K : PySem.W.Frag} {mg : Str → Option Value} {base : Heap} (T : Txt K mg)
  (r_block_number : Rds N_block_number sp_block_number td_block_number)
  (r_block_size : Rds N_block_size sp_block_size td_block_size)
  (r_is_block : Rds N_is_block sp_is_block td_is_block)
  (r_block_bytes : Rds N_block_bytes sp_block_bytes td_block_bytes)
  (r_split : Rds N_split sp_split td_split)
  (r_Entry___init__ : Rds N_Entry___init__ sp_Entry___init__ td_Entry___init__)
  (r_Store___init__ : Rds N_Store___init__ sp_Store___init__ td_Store___init__)
  (r_Store_write_now : Rds N_Store_write_now sp_Store_write_now td_Store_write_now)
  (r_Store_names : Rds N_Store_names sp_Store_names td_Store_names)
  (r_Store_temp_names : Rds N_Store_temp_names sp_Store_temp_names td_Store_temp_names)
  (r_Store_read : Rds N_Store_read sp_Store_read td_Store_read)
  (r_Store_write : Rds N_Store_write sp_Store_write td_Store_write)
  (r_Store_temp : Rds N_Store_temp sp_Store_temp td_Store_temp)
  (r_Store_append_temp : Rds N_Store_append_temp sp_Store_append_temp td_Store_append_temp)
  (r_Store_attic : Rds N_Store_attic sp_Store_attic td_Store_attic)
  (r_Store_attic_put : Rds N_Store_attic_put sp_Store_attic_put td_Store_attic_put)
  (r_Store_durable : Rds N_Store_durable sp_Store_durable td_Store_durable)
  (r_kept_blocks : Rds N_kept_blocks sp_kept_blocks td_kept_blocks)
  (r_near_places : Rds N_near_places sp_near_places td_near_places)
  (r_missing : Rds N_missing sp_missing td_missing)
  (r_must_come : Rds N_must_come sp_must_come td_must_come)
  (r_u_law_draws : Rds N_u_law_draws sp_u_law_draws td_u_law_draws)
  (r_u_law_draw : Rds N_u_law_draw sp_u_law_draw td_u_law_draw)
  (r_u_law_content : Rds N_u_law_content sp_u_law_content td_u_law_content)
  (r_u_law_pieces : Rds N_u_law_pieces sp_u_law_pieces td_u_law_pieces)
  (r_u_law_number : Rds N_u_law_number sp_u_law_number td_u_law_number)
  (r_u_law_missing : Rds N_u_law_missing sp_u_law_missing td_u_law_missing)
  (r_law : Rds N_law sp_law td_law)
  {fd : FuncData} (F : FunD K "law" "law" (defArgs s_law) (defBody s_law) (defScope s_law) [] [] (He.fAd K ("law", none)) fd) : FnOk P w K mg base (L2.CX P w) 8 (He.fAd K ("law", none)) fd ["_law_script"] (lift (bs K) sp_law) := by
  have c_block_number := ok_block_number (P := P) (w := w) (base := base) T  r_block_number
  have c_block_size := ok_block_size (P := P) (w := w) (base := base) T  r_block_size
  have c_is_block := ok_is_block (P := P) (w := w) (base := base) T c_block_size r_is_block
  have c_block_bytes := ok_block_bytes (P := P) (w := w) (base := base) T c_is_block r_block_bytes
  have c_split := ok_split (P := P) (w := w) (base := base) T c_block_number r_split
  have k_Entry := ok_Entry___init__ (P := P) (w := w) (base := base) T  r_Entry___init__
  have k_Store := ok_Store___init__ (P := P) (w := w) (base := base) T  r_Store___init__
  have c_Store_write_now := ok_Store_write_now (P := P) (w := w) (base := base) T  r_Store_write_now
  have c_Store_names := ok_Store_names (P := P) (w := w) (base := base) T  r_Store_names
  have c_Store_temp_names := ok_Store_temp_names (P := P) (w := w) (base := base) T  r_Store_temp_names
  have c_Store_read := ok_Store_read (P := P) (w := w) (base := base) T  r_Store_read
  have c_Store_write := ok_Store_write (P := P) (w := w) (base := base) T c_Store_write_now r_Store_write
  have c_Store_temp := ok_Store_temp (P := P) (w := w) (base := base) T  r_Store_temp
  have c_Store_append_temp := ok_Store_append_temp (P := P) (w := w) (base := base) T c_Store_write_now r_Store_append_temp
  have c_Store_attic := ok_Store_attic (P := P) (w := w) (base := base) T  r_Store_attic
  have c_Store_attic_put := ok_Store_attic_put (P := P) (w := w) (base := base) T c_Store_write_now r_Store_attic_put
  have c_Store_durable := ok_Store_durable (P := P) (w := w) (base := base) T c_Store_names c_Store_temp_names r_Store_durable
  have c_kept_blocks := ok_kept_blocks (P := P) (w := w) (base := base) T c_Store_temp c_block_bytes r_kept_blocks
  have c_near_places := ok_near_places (P := P) (w := w) (base := base) T c_kept_blocks c_Store_names c_Store_read c_split c_Store_attic r_near_places
  have c_missing := ok_missing (P := P) (w := w) (base := base) T c_near_places c_kept_blocks r_missing
  have c_must_come := ok_must_come (P := P) (w := w) (base := base) T c_missing r_must_come
  have c_u_law_draws := ok_u_law_draws (P := P) (w := w) (base := base) T  r_u_law_draws
  have c_u_law_draw := ok_u_law_draw (P := P) (w := w) (base := base) T  r_u_law_draw
  have c_u_law_content := ok_u_law_content (P := P) (w := w) (base := base) T c_u_law_draw r_u_law_content
  have c_u_law_pieces := ok_u_law_pieces (P := P) (w := w) (base := base) T  r_u_law_pieces
  have c_u_law_number := ok_u_law_number (P := P) (w := w) (base := base) T  r_u_law_number
  have c_u_law_missing := ok_u_law_missing (P := P) (w := w) (base := base) T c_Store_names c_Store_read c_u_law_pieces c_Store_attic c_Store_temp c_u_law_number r_u_law_missing
  exact ok_law T c_u_law_draws k_Store c_u_law_draw c_u_law_content c_Store_write c_Store_append_temp c_Store_attic_put c_Store_durable c_split k_Entry c_u_law_missing c_must_come r_law F
end K80
set_option Elab.async false
set_option linter.all false
set_option maxRecDepth 100000
set_option maxHeartbeats 4000000
/-! K80d: the readings of the program's defs. -/
namespace K80
open PySem PySem.Spec PyProof.Rows L2 Dn

theorem bnum_take {bs : List Int} {i : Nat} {b : Int} (h : bs[i]? = some b) : bnum (bs.take (i + 1)) = bnum (bs.take i) * 256 + b := by
  unfold bnum
  rw [List.take_add_one, h, List.foldl_append]
  rfl
theorem c256 (i : Int) : CMul i 256 ∨ CMulW i 256 := .inl (.inr ⟨by decide, by decide⟩)
theorem rd_block_number : Rds N_block_number sp_block_number td_block_number := by
  rintro ds M Q E ⟨d, rfl, bs, rfl, h⟩
  refine ⟨_, rfl, _, rfl, fun i sd' M' => (∃ o, sd' = [some (.lst (iL bs)), some (.int (bnum (bs.take i))), o]) ∧ M' = M, ⟨⟨_, rfl⟩, rfl⟩, fun _ _ _ _ _ => rfl, ?_, ?_⟩
  · rintro i x sd' M' hx ⟨⟨o, rfl⟩, rfl⟩
    obtain ⟨b, hb, rfl⟩ := iL_get hx
    refine ⟨_, rfl, c256 _, _, rfl, ⟨some (.int b), ?_⟩, rfl⟩
    rw [bnum_take hb]
    rfl
  · rintro sd' M' ⟨⟨o, rfl⟩, rfl⟩
    refine ⟨_, rfl, .of ?_⟩
    rw [iL_len, List.take_length]
    exact h
theorem rd_u_law_number : Rds N_u_law_number sp_u_law_number td_u_law_number := by
  rintro ds M Q E ⟨d, rfl, bs, rfl, h⟩
  refine ⟨_, rfl, _, rfl, fun i sd' M' => (∃ o, sd' = [some (.tup (iL bs)), some (.int (bnum (bs.take i))), o]) ∧ M' = M, ⟨⟨_, rfl⟩, rfl⟩, fun _ _ _ _ _ => trivial, ?_, ?_⟩
  · rintro i x sd' M' hx ⟨⟨o, rfl⟩, rfl⟩
    obtain ⟨b, hb, rfl⟩ := iL_get hx
    refine ⟨_, rfl, c256 _, _, rfl, ⟨some (.int b), ?_⟩, rfl⟩
    rw [bnum_take hb]
    rfl
  · rintro sd' M' ⟨⟨o, rfl⟩, rfl⟩
    refine ⟨_, rfl, .of ?_⟩
    rw [iL_len, List.take_length]
    exact h
theorem bsize_at {n : Int} {i : Nat} (hi : i < 4) (k : ∀ j : Nat, j < i → n / 2 ^ (8 * (j + 1)) ≠ 1) (h : n / 2 ^ (8 * (i + 1)) = 1) : bsize n = 1 + (i : Int) * 1 := by
  unfold bsize
  rcases (by omega : i = 0 ∨ i = 1 ∨ i = 2 ∨ i = 3) with rfl | rfl | rfl | rfl
  · rw [if_pos (by simpa using h)]; rfl
  · rw [if_neg (by simpa using k 0 (by omega)), if_pos (by simpa using h)]; rfl
  · rw [if_neg (by simpa using k 0 (by omega)), if_neg (by simpa using k 1 (by omega)), if_pos (by simpa using h)]; rfl
  · rw [if_neg (by simpa using k 0 (by omega)), if_neg (by simpa using k 1 (by omega)), if_neg (by simpa using k 2 (by omega)), if_pos (by simpa using h)]; rfl
theorem bsize_no {n : Int} (k : ∀ j : Nat, j < 4 → n / 2 ^ (8 * (j + 1)) ≠ 1) : bsize n = 0 := by
  unfold bsize
  rw [if_neg (by simpa using k 0 (by omega)), if_neg (by simpa using k 1 (by omega)), if_neg (by simpa using k 2 (by omega)), if_neg (by simpa using k 3 (by omega))]
theorem rd_block_size : Rds N_block_size sp_block_size td_block_size := by
  rintro ds M Q E ⟨d, rfl, n, rfl, h⟩
  refine ⟨1, 5, rfl, by decide, fun i sd' M' => (∃ o, sd' = [some (.int n), o]) ∧ M' = M ∧ ∀ j : Nat, j < i → n / 2 ^ (8 * (j + 1)) ≠ 1, ⟨⟨_, rfl⟩, rfl, fun j hj => absurd hj (Nat.not_lt_zero _)⟩, fun _ _ _ _ _ => trivial, ?_, ?_⟩
  · rintro i x sd' M' hx ⟨⟨o, rfl⟩, rfl, hj⟩
    obtain ⟨hi, rfl⟩ := rng_get hx
    have hi4 : i < 4 := hi
    have e : ((8 : Int) * (1 + (i : Int) * 1)).toNat = 8 * (i + 1) := by omega
    refine ⟨_, rfl, _, rfl, .inl (.inl ⟨by decide, by decide⟩), (by omega : 0 ≤ (8 : Int) * (1 + (i : Int) * 1)), _, rfl, ?_⟩
    refine iteD (fun hb => ?_) fun hb => ?_
    · have hc : n / 2 ^ (8 * (i + 1)) = 1 := by rw [← e]; simpa using hb
      refine ⟨_, rfl, .of ?_⟩
      rw [bsize_at hi4 hj hc] at h
      exact h
    · have hc : ¬ n / 2 ^ (8 * (i + 1)) = 1 := by rw [← e]; simpa using hb
      refine ⟨⟨_, rfl⟩, rfl, fun j hj' => ?_⟩
      by_cases hji : j = i
      · subst hji; exact hc
      · exact hj j (by omega)
  · rintro sd' M' ⟨⟨o, rfl⟩, rfl, hj⟩
    refine .of ?_
    rw [bsize_no hj] at h
    exact h
theorem rd_is_block : Rds N_is_block sp_is_block td_is_block := by
  rintro ds M Q E ⟨d, rfl, n, rfl, h⟩
  exact ⟨_, rfl, _, rfl, n, rfl, .of h⟩
theorem bnum_pos {bs : List Int} (h : Bts bs) : 1 ≤ bnum bs := by
  have key : ∀ (l : List Int) (n : Int), 1 ≤ n → (∀ b, b ∈ l → 0 ≤ b ∧ b < 256) → 1 ≤ l.foldl (fun n b => n * 256 + b) n := by
    intro l
    induction l with
    | nil => intro n hn _; exact hn
    | cons a l ih =>
      intro n hn hl
      have := (hl a List.mem_cons_self).1
      exact ih _ (show 1 ≤ n * 256 + a by omega) fun b hb => hl b (List.mem_cons_of_mem _ hb)
  exact key bs 1 (by omega) h
theorem bsize_bnum {bs : List Int} (h : Bts bs) (h1 : 1 ≤ bs.length) (h4 : bs.length ≤ 4) : 0 < bsize (bnum bs) := by
  unfold bsize
  match bs, h, h1, h4 with
  | [a], h, _, _ =>
    have ha := h a (by simp)
    have e : bnum [a] = 256 + a := by simp [bnum]
    rw [e, if_pos (by omega)]; decide
  | [a, b], h, _, _ =>
    have ha := h a (by simp)
    have hb := h b (by simp)
    have e : bnum [a, b] = (256 + a) * 256 + b := by simp [bnum]
    rw [e, if_neg (by omega), if_pos (by omega)]; decide
  | [a, b, c], h, _, _ =>
    have ha := h a (by simp)
    have hb := h b (by simp)
    have hc := h c (by simp)
    have e : bnum [a, b, c] = ((256 + a) * 256 + b) * 256 + c := by simp [bnum]
    rw [e, if_neg (by omega), if_neg (by omega), if_pos (by omega)]; decide
  | [a, b, c, d], h, _, _ =>
    have ha := h a (by simp)
    have hb := h b (by simp)
    have hc := h c (by simp)
    have hd := h d (by simp)
    have e : bnum [a, b, c, d] = (((256 + a) * 256 + b) * 256 + c) * 256 + d := by simp [bnum]
    rw [e, if_neg (by omega), if_neg (by omega), if_neg (by omega), if_pos (by omega)]; decide
theorem Bts.take {bs : List Int} (h : Bts bs) (n : Nat) : Bts (bs.take n) := fun b hb => h b (List.mem_of_mem_take hb)
theorem Bts.drop {bs : List Int} (h : Bts bs) (n : Nat) : Bts (bs.drop n) := fun b hb => h b (List.mem_of_mem_drop hb)
theorem rd_block_bytes : Rds N_block_bytes sp_block_bytes td_block_bytes := by
  rintro ds M Q E ⟨d, rfl, bs, rfl, hb, h1, h4, h⟩
  refine ⟨_, rfl, _, rfl, _, rfl, _, rfl, ?_⟩
  rw [decide_eq_true (bsize_bnum hb h1 h4)]
  refine iteD (fun z => by cases z) fun _ => ?_
  refine ⟨by show 0 ≤ sizeLine; exact Nat.zero_le _, fun p hp => ?_⟩
  refine ⟨fun m sd' M' => sd' = [some (.int (bnum (bs.take m))), some (.ref p)] ∧ M' = upm M p (.lst (iL (bs.drop m))) ∧ m ≤ bs.length, ⟨bs.length, ?_, ?_, Nat.le_refl _⟩, ?_⟩
  · rw [List.take_length]; rfl
  · rw [List.drop_length]; rfl
  · rintro m sd' M' ⟨rfl, rfl, hm⟩
    refine ⟨_, rfl, _, rfl, iteD (fun hz => ?_) fun hz => ?_⟩
    · have hm0 : m ≠ 0 := fun z => by subst z; simp [bnum] at hz
      obtain ⟨k, rfl⟩ : ∃ k, m = k + 1 := ⟨m - 1, by omega⟩
      have hk : k < bs.length := by omega
      have e := bnum_take (List.getElem?_eq_getElem hk)
      have hbk := hb bs[k] (List.getElem_mem hk)
      refine ⟨fun sd' M' => sd' = [some (.int (bnum (bs.take k))), some (.ref p)] ∧ M' = upm M p (.lst (iL (bs.drop k))), fun sd' M' ⟨a1, a2⟩ => ⟨k, by omega, a1, a2, by omega⟩, ?_⟩
      refine ⟨_, rfl, tyL upm_same, _, rfl, (by decide : (0 : Int) < 256), p, iL (bs.drop (k + 1)), 0, _, rfl, rfl, upm_same, ?_, by decide, by decide, ?_⟩
      · rw [iL_len]; have : (bs.drop (k + 1)).length ≤ bs.length := by simp
        have : sizeLine = 16777216 := rfl
        omega
      · refine ⟨_, rfl, ⟨by decide, by decide⟩, ?_, ?_⟩
        · show [some (D.int (bnum (bs.take (k + 1)) / 256)), some (.ref p)] = _
          rw [e, show (bnum (bs.take k) * 256 + bs[k]) / 256 = bnum (bs.take k) by omega]
        · show upm (upm M p _) p _ = _
          rw [upm_upm]
          congr 2
          show ([] ++ [D.int (bnum (bs.take (k + 1)) % 256)] ++ iL (bs.drop (k + 1))) = iL (bs.drop k)
          rw [e, show (bnum (bs.take k) * 256 + bs[k]) % 256 = bs[k] by omega, List.drop_eq_getElem_cons hk]
          rfl
    · have hm0 : m = 0 := by
        cases m with
        | zero => rfl
        | succ k =>
          have hk : k < bs.length := by omega
          have e := bnum_take (List.getElem?_eq_getElem hk)
          have hbk := hb bs[k] (List.getElem_mem hk)
          have := bnum_pos (hb.take k)
          rw [e] at hz
          have hz' := of_decide_eq_false hz
          omega
      subst hm0
      exact ⟨_, rfl, .new hp h⟩
theorem cut4 {xs : List Int} {i : Nat} : cutD (iL xs) (some (0 + (i : Int) * 4)) (some (0 + (i : Int) * 4 + 4)) = iL (ck xs i) := by
  have e1 : (0 + (i : Int) * 4) = ((4 * i : Nat) : Int) := by omega
  have e2 : (0 + (i : Int) * 4 + 4) = ((4 * i + 4 : Nat) : Int) := by omega
  rw [e2, e1, cut_iL]
  unfold ck
  congr 2
  omega
theorem rg4 {xs : List Int} (h : xs.length ≤ 1000) : RgC 0 ((iL xs).length : Nat) 4 (nbl xs) := by
  rw [iL_len]
  exact rgc_step (n := xs.length) (c := 4) (by decide) (by decide) (by omega)
theorem chunks_take {xs : List Int} {i : Nat} (h : i < nbl xs) : (chunks xs).take (i + 1) = (chunks xs).take i ++ [ck xs i] := by
  rw [List.take_add_one]
  congr 1
  unfold chunks
  rw [List.getElem?_map, List.getElem?_range h]
  rfl
theorem chunks_len {xs : List Int} : (chunks xs).length = nbl xs := by unfold chunks; simp
theorem blocks_len {xs : List Int} : (blocks xs).length = nbl xs := by unfold blocks; rw [List.length_map, chunks_len]
theorem blocks_take {xs : List Int} {i : Nat} (h : i < nbl xs) : (blocks xs).take (i + 1) = (blocks xs).take i ++ [bnum (ck xs i)] := by
  unfold blocks
  rw [← List.map_take, chunks_take h, List.map_append, List.map_take]
  rfl
theorem nbl_lt {xs : List Int} (h : xs.length ≤ 1000) : nbl xs < sizeLine := by
  have : sizeLine = 16777216 := rfl
  unfold nbl
  omega
theorem rd_split : Rds N_split sp_split td_split := by
  rintro ds M Q E ⟨d, rfl, xs, rfl, hl, h⟩
  refine ⟨_, rfl, _, rfl, 0, _, 4, nbl xs, rfl, rg4 hl, by rw [rng_length]; exact nbl_lt hl, fun i acc M' => acc = iL ((blocks xs).take i) ∧ M' = M, ⟨rfl, rfl⟩, fun _ _ _ _ _ => trivial, ?_, ?_⟩
  · rintro i x acc M' hx ⟨rfl, rfl⟩
    obtain ⟨hi, rfl⟩ := rng_get hx
    refine ⟨_, rfl, yes ?_⟩
    refine ⟨_, rfl, _, rfl, _, rfl, _, rfl, _, rfl, _, rfl, _, rfl, ck xs i, ?_, ?_, rfl⟩
    · exact congrArg D.lst cut4
    · rw [blocks_take hi, iL_app]; rfl
  · rintro acc M' ⟨rfl, rfl⟩
    refine ⟨_, rfl, .of ?_⟩
    rw [rng_length, ← blocks_len, List.take_length]
    exact h
theorem rd_u_law_pieces : Rds N_u_law_pieces sp_u_law_pieces td_u_law_pieces := by
  rintro ds M Q E ⟨d, rfl, xs, rfl, hl, h⟩
  refine ⟨_, rfl, _, rfl, 0, _, 4, nbl xs, rfl, rg4 hl, by rw [rng_length]; exact nbl_lt hl, fun i acc M' => acc = (pieces xs).take i ∧ M' = M, ⟨rfl, rfl⟩, fun _ _ _ _ _ => trivial, ?_, ?_⟩
  · rintro i x acc M' hx ⟨rfl, rfl⟩
    obtain ⟨hi, rfl⟩ := rng_get hx
    refine ⟨_, rfl, yes ?_⟩
    refine ⟨_, rfl, _, rfl, _, rfl, _, rfl, _, rfl, _, rfl, ?_⟩
    refine ⟨_, rfl, ?_, rfl⟩
    rw [cut4]
    unfold pieces
    rw [← List.map_take, ← List.map_take, chunks_take hi, List.map_append]
    rfl
  · rintro acc M' ⟨rfl, rfl⟩
    refine .of ?_
    have e : (pieces xs).length = nbl xs := by unfold pieces; rw [List.length_map, chunks_len]
    rw [rng_length, ← e, List.take_length]
    exact h
end K80
set_option Elab.async false
set_option linter.all false
set_option maxRecDepth 100000
set_option maxHeartbeats 4000000
/-! K80e: the readings of the store. -/
namespace K80
open PySem PySem.Spec PyProof.Rows L2 Dn

theorem len8 {p : D → Prop} : True := trivial
theorem rd_Entry___init__ : Rds N_Entry___init__ sp_Entry___init__ td_Entry___init__ := by
  rintro ds M Q E ⟨a, n, v, h, m, d, t, b, rfl, hm, hq⟩
  refine ⟨_, rfl, _, rfl, a, _, _, rfl, hm, by decide, ?_⟩
  refine ⟨_, rfl, _, rfl, a, _, _, rfl, upm_same, (show 1 < 1000 by decide), ?_⟩
  refine ⟨_, rfl, _, rfl, a, _, _, rfl, upm_same, (show 2 < 1000 by decide), ?_⟩
  refine ⟨_, rfl, _, rfl, a, _, _, rfl, upm_same, (show 3 < 1000 by decide), ?_⟩
  refine ⟨_, rfl, _, rfl, a, _, _, rfl, upm_same, (show 4 < 1000 by decide), ?_⟩
  refine ⟨_, rfl, _, rfl, a, _, _, rfl, upm_same, (show 5 < 1000 by decide), ?_⟩
  refine ⟨_, rfl, _, rfl, a, _, _, rfl, upm_same, (show 6 < 1000 by decide), .of ?_⟩
  simp only [upm_upm]
  exact hq
theorem upm_ne' {M : Mem} {a b : Addr} {o u : MO} (h : M b = none) (k : M a = some u) : upm M a o b = none := by
  rw [upm_ne (fun z => by rw [z, k] at h; cases h)]; exact h
theorem rd_Store___init__ : Rds N_Store___init__ sp_Store___init__ td_Store___init__ := by
  rintro ds M Q E ⟨_, _, _, rfl, s, a, rfl, rfl, ha, hs, rfl, h⟩
  have hsa : s ≠ a := fun z => by rw [z, ha] at hs; cases hs
  intro f hf
  have nsf : s ≠ f := fun z => by rw [z, hf] at hs; cases hs
  have naf : a ≠ f := fun z => by rw [z, hf] at ha; cases ha
  refine ⟨_, rfl, s, _, _, rfl, (upm_ne nsf).trans hs, by decide, ?_⟩
  refine ⟨a, rfl, by rw [upm_ne (Ne.symm hsa), upm_ne naf]; exact ha, ?_⟩
  intro t ht
  have nst : t ≠ s := fun z => by rw [z, upm_same] at ht; cases ht
  rw [upm_ne nst] at ht
  have nft : t ≠ f := fun z => by rw [z, upm_same] at ht; cases ht
  rw [upm_ne nft] at ht
  refine ⟨_, rfl, s, _, _, rfl, (upm_ne (Ne.symm nst)).trans upm_same, (show 1 < 1000 by decide), ?_⟩
  refine ⟨by show 0 ≤ sizeLine; exact Nat.zero_le _, ?_⟩
  intro o ho
  have nso : o ≠ s := fun z => by rw [z, upm_same] at ho; cases ho
  rw [upm_ne nso] at ho
  have nto : o ≠ t := fun z => by rw [z, upm_same] at ho; cases ho
  rw [upm_ne nto, upm_ne nso] at ho
  have nfo : o ≠ f := fun z => by rw [z, upm_same] at ho; cases ho
  rw [upm_ne nfo] at ho
  refine ⟨_, rfl, s, _, _, rfl, (upm_ne (Ne.symm nso)).trans upm_same, (show 2 < 1000 by decide), ?_⟩
  refine ⟨_, rfl, _, rfl, _, rfl, s, _, _, rfl, upm_same, (show 3 < 1000 by decide), ?_⟩
  refine ⟨by show 0 ≤ sizeLine; exact Nat.zero_le _, _, rfl, s, _, _, rfl, upm_same, (show 4 < 1000 by decide), ?_⟩
  refine ⟨_, rfl, s, _, _, rfl, upm_same, (show 5 < 1000 by decide), ?_⟩
  refine ⟨_, rfl, s, _, _, rfl, upm_same, (show 6 < 1000 by decide), .of ?_⟩
  simp only [upm_upm]
  refine h _ ⟨f, t, o, [], [], [], 0⟩ (fun b hb => ?_) hf ht ho ⟨?_, ?_, ?_, ?_, Ne.symm nft⟩ rfl rfl rfl
  · have h1 : b ≠ s := fun z => hb (by simp [z])
    have h2 : b ≠ f := fun z => hb (by simp [z])
    have h3 : b ≠ t := fun z => hb (by simp [z])
    have h4 : b ≠ o := fun z => hb (by simp [z])
    simp only [upm_ne h1, upm_ne h2, upm_ne h3, upm_ne h4]
  · simp only [upm_same]; rfl
  · simp only [upm_ne (Ne.symm nsf), upm_ne (Ne.symm nfo), upm_ne (Ne.symm nft), upm_same]
  · simp only [upm_ne nst, upm_ne (Ne.symm nto), upm_same]
  · simp only [upm_ne nso, upm_same]
theorem rd_Store_write_now : Rds N_Store_write_now sp_Store_write_now td_Store_write_now := by
  rintro ds M Q E ⟨_, rfl, s, S, rfl, hS, h⟩
  refine ⟨_, rfl, _, _, _, insO_of hS.ms, rfl, _, rfl, iteD (fun z => by cases z) fun _ => iteD (fun z => by cases z) fun _ => ?_⟩
  exact ⟨_, rfl, s, _, _, _, rfl, hS.ms, rfl, trivial, _, hS.ms, (show 7 < 1000 by decide), .of h⟩
theorem rd_Store_names : Rds N_Store_names sp_Store_names td_Store_names := by
  rintro ds M Q E ⟨_, rfl, s, S, ns, rfl, hS, hk, hl, h⟩
  exact ⟨_, rfl, _, _, _, insO_of hS.ms, rfl, _, rfl, .inr (.inr (.inr ⟨_, ns, dicO_of hS.mf, hk, hl, .of h⟩))⟩
theorem rd_Store_temp_names : Rds N_Store_temp_names sp_Store_temp_names td_Store_temp_names := by
  rintro ds M Q E ⟨_, rfl, s, S, ns, rfl, hS, hk, hl, h⟩
  exact ⟨_, rfl, _, _, _, insO_of hS.ms, rfl, _, rfl, .inr (.inr (.inr ⟨_, ns, dicO_of hS.mt, hk, hl, .of h⟩))⟩
theorem rd_Store_read : Rds N_Store_read sp_Store_read td_Store_read := by
  rintro ds M Q E ⟨_, _, rfl, s, S, n, c, t, rfl, hS, rfl, hv, h⟩
  refine ⟨_, rfl, _, rfl, _, _, _, insO_of hS.ms, rfl, inD_dic hS.mf rfl ?_⟩
  refine ⟨_, rfl, iteD (fun z => by rw [hv] at z; cases z) fun _ => ?_⟩
  refine ⟨_, rfl, _, _, _, insO_of hS.ms, rfl, _, rfl, ixD_dic hS.mf rfl hv ?_⟩
  refine ⟨_, rfl, rfl, _, _, rfl, _, _, rfl, rfl, ?_⟩
  exact ⟨_, rfl, _, rfl, _, rfl, (show 2 ≤ sizeLine by decide), .of h⟩
theorem rd_Store_temp : Rds N_Store_temp sp_Store_temp td_Store_temp := by
  rintro ds M Q E ⟨_, _, rfl, s, S, n, rfl, hS, rfl, h⟩
  refine ⟨_, rfl, _, rfl, _, _, _, insO_of hS.ms, rfl, inD_dic hS.mt rfl ?_⟩
  rcases h with ⟨hv, h⟩ | ⟨ts, hv, h⟩
  · refine ⟨_, rfl, iteD (fun _ => .of h) fun z => by rw [hv] at z; cases z⟩
  · refine ⟨_, rfl, iteD (fun z => by rw [hv] at z; cases z) fun _ => ?_⟩
    exact ⟨_, rfl, _, _, _, insO_of hS.ms, rfl, _, rfl, ixD_dic hS.mt rfl hv ⟨_, rfl, .of h⟩⟩
theorem StoreAt.ne {M : Mem} {s : Addr} {S : Sto} (h : StoreAt M s S) : S.f ≠ s ∧ S.t ≠ s ∧ S.o ≠ s ∧ S.f ≠ S.o ∧ S.t ≠ S.o :=
  ⟨fun z => (by have := h.mf; rw [z, h.ms] at this; cases this), fun z => (by have := h.mt; rw [z, h.ms] at this; cases this), fun z => (by have := h.mo; rw [z, h.ms] at this; cases this),
   fun z => (by have := h.mf; rw [z, h.mo] at this; cases this), fun z => (by have := h.mt; rw [z, h.mo] at this; cases this)⟩
theorem StoreAt.tick {M : Mem} {s : Addr} {S : Sto} (h : StoreAt M s S) : StoreAt (upm M s (storeO { S with wr := S.wr + 1 })) s { S with wr := S.wr + 1 } := by
  obtain ⟨n1, n2, n3, n4, n5⟩ := h.ne
  exact ⟨upm_same, by rw [upm_ne n1]; exact h.mf, by rw [upm_ne n2]; exact h.mt, by rw [upm_ne n3]; exact h.mo, h.ft⟩
theorem rd_Store_write : Rds N_Store_write sp_Store_write td_Store_write := by
  rintro ds M Q E ⟨_, _, _, _, rfl, s, S, n, c, t, rfl, hS, rfl, rfl, rfl, hl, h⟩
  refine ⟨_, rfl, _, insO_of hS.ms, rfl, _, rfl, s, S, rfl, hS, ?_⟩
  have hS' := hS.tick
  refine ⟨_, rfl, _, rfl, _, rfl, (show 2 ≤ sizeLine by decide), _, rfl, _, _, _, insO_of hS'.ms, rfl, _, rfl, S.f, rfl, .inl ⟨_, _, hS'.mf, rfl, ?_, .of h⟩⟩
  have : sizeLine = 16777216 := rfl
  show S.files.length < sizeLine
  omega
theorem rd_Store_attic_put : Rds N_Store_attic_put sp_Store_attic_put td_Store_attic_put := by
  rintro ds M Q E ⟨_, _, _, _, rfl, s, S, n, c, rfl, hS, rfl, rfl, hl, h⟩
  refine ⟨_, rfl, _, insO_of hS.ms, rfl, _, rfl, s, S, rfl, hS, ?_⟩
  have hS' := hS.tick
  refine ⟨_, rfl, _, _, _, insO_of hS'.ms, rfl, tyL hS'.mo, _, rfl, _, rfl, _, rfl, _, rfl, (show 3 ≤ sizeLine by decide), S.o, _, _, rfl, rfl, hS'.mo, ?_, .of h⟩
  have : sizeLine = 16777216 := rfl
  show S.old.length < sizeLine
  omega
end K80
set_option Elab.async false
set_option linter.all false
set_option maxRecDepth 100000
set_option maxHeartbeats 4000000
/-! K80f: the readings of the store, further. -/
namespace K80
open PySem PySem.Spec PyProof.Rows L2 Dn

theorem StoreAt.setT {M : Mem} {s : Addr} {S : Sto} (h : StoreAt M s S) (tm : List (Key × D)) : StoreAt (upm M S.t (.dic tm)) s { S with temps := tm } := by
  obtain ⟨n1, n2, n3, n4, n5⟩ := h.ne
  exact ⟨by rw [upm_ne (Ne.symm n2)]; exact h.ms, by rw [upm_ne h.ft]; exact h.mf, upm_same, by rw [upm_ne (Ne.symm n5)]; exact h.mo, h.ft⟩
theorem StoreAt.setF {M : Mem} {s : Addr} {S : Sto} (h : StoreAt M s S) (tm : List (Key × D)) : StoreAt (upm M S.f (.dic tm)) s { S with files := tm } := by
  obtain ⟨n1, n2, n3, n4, n5⟩ := h.ne
  exact ⟨by rw [upm_ne (Ne.symm n1)]; exact h.ms, upm_same, by rw [upm_ne (Ne.symm h.ft)]; exact h.mt, by rw [upm_ne (Ne.symm n4)]; exact h.mo, h.ft⟩
theorem StoreAt.setO {M : Mem} {s : Addr} {S : Sto} (h : StoreAt M s S) (tm : List D) : StoreAt (upm M S.o (.lst tm)) s { S with old := tm } := by
  obtain ⟨n1, n2, n3, n4, n5⟩ := h.ne
  exact ⟨by rw [upm_ne (Ne.symm n3)]; exact h.ms, by rw [upm_ne n4]; exact h.mf, by rw [upm_ne n5]; exact h.mt, upm_same, h.ft⟩
def AT (n : Str) (j i : Nat) (tm : List (Key × D)) : Prop := (tm.length ≤ j ∨ (tm.length ≤ j + 1 ∧ ∃ e, (Sum.inr n, e) ∈ tm)) ∧ ∀ kv, kv ∈ tm → ∃ m d, kv = (.inr m, .lst (iL d)) ∧ d.length ≤ 16 * j + i ∧ PyData.strOk m = true
theorem put_old {kvs : List (Key × D)} {k : Key} {v e : D} (h : (k, e) ∈ kvs) : (putKD kvs k v).length = kvs.length := by
  unfold putKD
  rw [if_pos (List.any_eq_true.mpr ⟨_, h, by simp⟩), List.length_map]
theorem put_in {kvs : List (Key × D)} {k : Key} {v : D} : ∃ e, (k, e) ∈ putKD kvs k v := ⟨v, valD_mem (by rw [valD_put, if_pos rfl])⟩
theorem AT.put {n : Str} {j i : Nat} {tm : List (Key × D)} {d : List Int} (h : AT n j i tm) (hn : PyData.strOk n = true) (hd : d.length ≤ 16 * j + (i + 1)) : AT n j (i + 1) (putKD tm (.inr n) (.lst (iL d))) := by
  refine ⟨.inr ⟨?_, put_in⟩, fun kv hkv => ?_⟩
  · rcases h.1 with h1 | ⟨h1, e, he⟩
    · have := @len_put tm (.inr n) (.lst (iL d)); omega
    · rw [put_old he]; exact h1
  · rcases mem_put hkv with hkv | rfl
    · obtain ⟨m, d, e, l, o⟩ := h.2 kv hkv
      exact ⟨m, d, e, by omega, o⟩
    · exact ⟨n, d, rfl, hd, hn⟩
theorem AT.get {n : Str} {j i : Nat} {tm : List (Key × D)} (h : AT n j i tm) : ∃ d, (valD tm (.inr n)).getD (.lst []) = .lst (iL d) ∧ d.length ≤ 16 * j + i := by
  cases e : valD tm (.inr n) with
  | none => exact ⟨[], rfl, Nat.zero_le _⟩
  | some v =>
    obtain ⟨m, d, e2, l, _⟩ := h.2 _ (valD_mem e)
    cases e2
    exact ⟨d, rfl, l⟩
theorem szl : sizeLine = 16777216 := rfl
theorem rd_Store_append_temp : Rds N_Store_append_temp sp_Store_append_temp td_Store_append_temp := by
  rintro ds M Q E ⟨_, _, _, rfl, s, S, n, c, j, rfl, hS, rfl, hn, rfl, hc, hT, hj, h⟩
  refine ⟨_, rfl, _, rfl, fun i sd' M' => (∃ o, sd' = [some (.ref s), some (.str n), some (.lst (iL c)), o]) ∧ ∃ tm wr, Fr M M' [s, S.t] ∧ StoreAt M' s { S with temps := tm, wr := wr } ∧ AT n j i tm,
    ⟨⟨_, rfl⟩, S.temps, S.wr, Fr.refl, hS, .inl hT.1, fun kv hkv => ?_⟩, fun _ _ _ _ _ => rfl, ?_, ?_⟩
  · obtain ⟨m, d, e, l, o⟩ := hT.2 kv hkv
    exact ⟨m, d, e, by omega, o⟩
  · rintro i x sd' M' hx ⟨⟨o, rfl⟩, tm, wr, fr, hS', at_⟩
    obtain ⟨b, hb, rfl⟩ := iL_get hx
    have hi : i < c.length := (List.getElem?_eq_some_iff.mp hb).1
    refine ⟨_, rfl, _, insO_of hS'.ms, rfl, _, rfl, s, _, rfl, hS', ?_⟩
    have hS2 := hS'.tick
    obtain ⟨d, hd, hl⟩ := at_.get
    refine ⟨_, rfl, _, _, _, insO_of hS2.ms, rfl, dic_ne hS2.mt, _, rfl, (show 0 ≤ sizeLine by decide), tm, _, dicO_of hS2.mt, rfl, ?_⟩
    rw [hd]
    refine ⟨_, rfl, (show 1 ≤ sizeLine by decide), _, _, rfl, rfl, ?_, ?_⟩
    · rw [iL_len, szl]; show d.length + 1 ≤ 16777216; omega
    · refine ⟨_, rfl, _, _, _, insO_of hS2.ms, rfl, _, rfl, S.t, rfl, .inl ⟨tm, _, hS2.mt, rfl, ?_, ⟨some (.int b), rfl⟩, _, _, ?_, hS2.setT _, ?_⟩⟩
      · have : tm.length ≤ j + 1 := by rcases at_.1 with h1 | ⟨h1, _⟩ <;> omega
        rw [szl]; omega
      · refine fr.trans fun a ha => ?_
        have h1 : a ≠ s := fun z => ha (by simp [z])
        have h2 : a ≠ S.t := fun z => ha (by simp [z])
        show upm (upm M' s _) S.t _ a = M' a
        rw [upm_ne h2, upm_ne h1]
      · have := at_.put (d := d ++ [b]) hn (by simp; omega)
        rw [iL_app] at this
        exact this
  · rintro sd' M' ⟨⟨o, rfl⟩, tm, wr, fr, hS', at_⟩
    refine .of (h M' tm wr fr hS' ⟨?_, fun kv hkv => ?_⟩)
    · rcases at_.1 with h1 | ⟨h1, _⟩ <;> omega
    · obtain ⟨m, d, e, l, o⟩ := at_.2 kv hkv
      rw [iL_len] at l
      exact ⟨m, d, e, by omega, o⟩
theorem take_get {α : Type} {xs : List α} {i : Nat} {x : α} (h : xs[i]? = some x) : xs.take (i + 1) = xs.take i ++ [x] := by rw [List.take_add_one, h]; rfl
theorem rd_Store_attic : Rds N_Store_attic sp_Store_attic td_Store_attic := by
  rintro ds M Q E ⟨_, rfl, s, S, rfl, hS, hO, h⟩
  refine ⟨_, rfl, _, _, _, insO_of hS.ms, rfl, S.old, lstO_of hS.mo, ?_, fun i acc M' => acc = S.old.take i ∧ M' = M, ⟨rfl, rfl⟩, ?_, ?_, ?_⟩
  · have := hO.1; rw [szl]; omega
  · rintro i acc M' _ ⟨rfl, rfl⟩; exact lstO_of hS.mo
  · rintro i x acc M' hx ⟨rfl, rfl⟩
    obtain ⟨n, v, c, rfl, _⟩ := hO.2 x (List.mem_of_getElem? hx)
    refine ⟨_, rfl, yes ?_⟩
    exact ⟨_, rfl, _, rfl, _, rfl, _, rfl, (show 3 ≤ sizeLine by decide), (take_get hx).symm, rfl⟩
  · rintro acc M' ⟨rfl, rfl⟩
    exact .of (by rw [List.take_length]; exact h)
theorem kS_keys {kvs : List (Key × D)} (h : ∀ kv, kv ∈ kvs → ∃ n, kv.1 = .inr n) : kvs.map (·.1) = (kS kvs).map Sum.inr := by
  induction kvs with
  | nil => rfl
  | cons p q ih =>
    obtain ⟨n, hn⟩ := h p List.mem_cons_self
    have := ih fun kv hkv => h kv (List.mem_cons_of_mem _ hkv)
    rw [List.map_cons, this]
    unfold kS
    rw [List.filterMap_cons, hn]
    rfl
theorem kS_len {kvs : List (Key × D)} : (kS kvs).length ≤ kvs.length := List.length_filterMap_le _ _
theorem kS_mem {kvs : List (Key × D)} {n : Str} (h : n ∈ kS kvs) : ∃ d, (Sum.inr n, d) ∈ kvs := by
  unfold kS at h
  obtain ⟨⟨k, d⟩, h1, h2⟩ := List.mem_filterMap.mp h
  cases k with
  | inl i => cases h2
  | inr m => cases h2; exact ⟨d, h1⟩
theorem mem_kS {kvs : List (Key × D)} {n : Str} {d : D} (h : (Sum.inr n, d) ∈ kvs) : n ∈ kS kvs := List.mem_filterMap.mpr ⟨_, h, rfl⟩
theorem mem_ssort {xs : List Str} {n : Str} : n ∈ ssort xs ↔ n ∈ xs := (ssort_perm xs).mem_iff
theorem ssort_len {xs : List Str} : (ssort xs).length = xs.length := (ssort_perm xs).length_eq
theorem fileAt {i : Nat} {kvs : List (Key × D)} (h : GF i kvs) {n : Str} (hn : n ∈ kS kvs) : ∃ c t, valD kvs (.inr n) = some (.tup [.lst (iL c), .int t]) ∧ GC c ∧ PyData.strOk n = true := by
  obtain ⟨d, hd⟩ := kS_mem hn
  obtain ⟨e, he⟩ := valD_some hd
  obtain ⟨m, c, t, e2, g, o⟩ := h.2 _ (valD_mem he)
  cases e2
  exact ⟨c, t, he, g, o⟩
theorem tempAt {i : Nat} {kvs : List (Key × D)} (h : GT i kvs) {n : Str} (hn : n ∈ kS kvs) : ∃ c, valD kvs (.inr n) = some (.lst (iL c)) ∧ c.length ≤ 16 * i ∧ PyData.strOk n = true := by
  obtain ⟨d, hd⟩ := kS_mem hn
  obtain ⟨e, he⟩ := valD_some hd
  obtain ⟨m, c, e2, g, o⟩ := h.2 _ (valD_mem he)
  cases e2
  exact ⟨c, he, g, o⟩
theorem GF.keys {i : Nat} {kvs : List (Key × D)} (h : GF i kvs) : kvs.map (·.1) = (kS kvs).map Sum.inr := kS_keys fun kv hkv => by obtain ⟨n, c, t, e, _⟩ := h.2 kv hkv; exact ⟨n, by rw [e]⟩
theorem GT.keys {i : Nat} {kvs : List (Key × D)} (h : GT i kvs) : kvs.map (·.1) = (kS kvs).map Sum.inr := kS_keys fun kv hkv => by obtain ⟨n, c, e, _⟩ := h.2 kv hkv; exact ⟨n, by rw [e]⟩
theorem strs_get {xs : List Str} {i : Nat} {x : D} (h : (xs.map D.str)[i]? = some x) : ∃ b, xs[i]? = some b ∧ x = .str b := by
  rw [List.getElem?_map] at h
  cases e : xs[i]? with
  | none => rw [e] at h; cases h
  | some b => rw [e] at h; cases h; exact ⟨b, rfl, rfl⟩
theorem map_take_get {α β : Type} {f : α → β} {xs : List α} {i : Nat} {x : α} (h : xs[i]? = some x) : (xs.map f).take (i + 1) = (xs.map f).take i ++ [f x] := take_get (by rw [List.getElem?_map, h]; rfl)
theorem rd_Store_durable : Rds N_Store_durable sp_Store_durable td_Store_durable := by
  rintro ds M Q E ⟨_, rfl, s, S, rfl, hS, hG, h⟩
  have lf : (kS S.files).length ≤ 4 := Nat.le_trans kS_len hG.f.1
  have lt : (kS S.temps).length ≤ 2 := Nat.le_trans kS_len hG.t.1
  refine ⟨_, rfl, _, insO_of hS.ms, rfl, _, rfl, s, S, kS S.files, rfl, hS, hG.f.keys, by omega, _, rfl, ?_, fun i acc M' => acc = ((ssort (kS S.files)).map (rowF S.files)).take i ∧ M' = M, ⟨rfl, rfl⟩, fun _ _ _ _ _ => rfl, ?_, ?_⟩
  · rw [List.length_map, ssort_len, szl]; omega
  · rintro i x acc M' hx ⟨rfl, rfl⟩
    obtain ⟨n, hn, rfl⟩ := strs_get hx
    obtain ⟨c, t, hv, _⟩ := fileAt hG.f (mem_ssort.mp (List.mem_of_getElem? hn))
    refine ⟨_, rfl, yes ⟨_, rfl, _, rfl, _, _, _, insO_of hS.ms, rfl, _, rfl, ixD_dic hS.mf rfl hv ⟨_, _, rfl, rfl, _, rfl, _, rfl, _, _, _, insO_of hS.ms, rfl, _, rfl, ixD_dic hS.mf rfl hv ⟨_, _, rfl, rfl, (show 3 ≤ sizeLine by decide), ?_, rfl⟩⟩⟩⟩
    rw [map_take_get hn]
    unfold rowF
    rw [hv]
  · rintro acc M' ⟨rfl, rfl⟩
    refine ⟨_, rfl, ?_⟩
    rw [List.length_map, ← List.length_map (f := rowF S.files), List.take_length]
    refine ⟨_, rfl, _, insO_of hS.ms, rfl, _, rfl, s, S, kS S.temps, rfl, hS, hG.t.keys, by omega, _, rfl, ?_, fun i acc M2 => acc = ((ssort (kS S.temps)).map (rowT S.temps)).take i ∧ M2 = M', ⟨rfl, rfl⟩, fun _ _ _ _ _ => rfl, ?_, ?_⟩
    · rw [List.length_map, ssort_len, szl]; omega
    · rintro i x acc M2 hx ⟨rfl, rfl⟩
      obtain ⟨n, hn, rfl⟩ := strs_get hx
      obtain ⟨c, hv, _⟩ := tempAt hG.t (mem_ssort.mp (List.mem_of_getElem? hn))
      refine ⟨_, rfl, yes ⟨_, rfl, _, rfl, _, _, _, insO_of hS.ms, rfl, _, rfl, ixD_dic hS.mt rfl hv ⟨_, rfl, (show 2 ≤ sizeLine by decide), ?_, rfl⟩⟩⟩
      rw [map_take_get hn]
      unfold rowT
      rw [hv]
    · rintro acc M2 ⟨rfl, rfl⟩
      refine ⟨_, rfl, ?_⟩
      rw [List.length_map, ← List.length_map (f := rowT S.temps), List.take_length]
      refine ⟨_, rfl, _, _, _, insO_of hS.ms, rfl, S.old, lstO_of hS.mo, ?_, fun i acc M' => acc = (S.old.map rowO).take i ∧ M' = M2, ⟨rfl, rfl⟩, ?_, ?_, ?_⟩
      · have := hG.o.1; rw [szl]; omega
      · rintro i acc M' _ ⟨rfl, rfl⟩; exact lstO_of hS.mo
      · rintro i x acc M' hx ⟨rfl, rfl⟩
        obtain ⟨n, v, c, rfl, _⟩ := hG.o.2 x (List.mem_of_getElem? hx)
        exact ⟨_, rfl, yes ⟨_, rfl, _, rfl, _, rfl, _, rfl, (show 3 ≤ sizeLine by decide), (map_take_get hx).symm, rfl⟩⟩
      · rintro acc M' ⟨rfl, rfl⟩
        refine ⟨_, rfl, ?_⟩
        rw [← List.length_map (f := rowO), List.take_length]
        exact ⟨_, rfl, _, rfl, _, rfl, _, rfl, _, _, _, insO_of hS.ms, rfl, _, rfl, _, rfl, _, _, _, insO_of hS.ms, rfl, _, rfl, (show 5 ≤ sizeLine by decide), .of h⟩
end K80
set_option Elab.async false
set_option linter.all false
set_option maxRecDepth 100000
set_option maxHeartbeats 4000000
/-! K80g: the readings of the program's own defs over a store. -/
namespace K80
open PySem PySem.Spec PyProof.Rows L2 Dn

theorem Kept.uniq {tm : Option D} {xs : List Int} {i j : Nat} (h : Kept tm xs i) (k : Kept tm xs j) : i = j := by
  rcases h with ⟨e, rfl⟩ | ⟨ts, e, h1, h2, h3⟩
  · rcases k with ⟨_, rfl⟩ | ⟨us, e2, _⟩
    · rfl
    · rw [e] at e2; cases e2
  · rcases k with ⟨e2, _⟩ | ⟨us, e2, k1, k2, k3⟩
    · rw [e] at e2; cases e2
    · rw [e] at e2
      have : iL ts = iL us := by injection e2 with e2; injection e2
      have := ints_inj.mp this
      subst this
      rcases Nat.lt_trichotomy i j with h | h | h
      · exact absurd (k2 i h) (h3 (by omega))
      · exact h
      · exact absurd (h2 j h) (k3 (by omega))
theorem StoreAt.ext {M M' : Mem} {s : Addr} {S : Sto} (h : StoreAt M s S) (k : ∀ a o, M a = some o → M' a = some o) : StoreAt M' s S := ⟨k _ _ h.ms, k _ _ h.mf, k _ _ h.mt, k _ _ h.mo, h.ft⟩
theorem new_ext {M : Mem} {p : Addr} {o : MO} (h : M p = none) : ∀ a u, M a = some u → upm M p o a = some u := fun a u e => by
  rw [upm_ne (fun z => by rw [z, h] at e; cases e)]; exact e
theorem StoreAt.fresh {M : Mem} {s p : Addr} {S : Sto} {o : MO} (h : StoreAt M s S) (k : M p = none) : StoreAt (upm M p o) s S := h.ext (new_ext k)
theorem ck_len {xs : List Int} {k : Nat} : (ck xs k).length = min 4 (xs.length - 4 * k) := by unfold ck; simp
theorem GC.ck {xs : List Int} (h : GC xs) (k : Nat) : Bts (ck xs k) := (h.1.drop _).take _
theorem GC.nbl {xs : List Int} (h : GC xs) : nbl xs ≤ 4 := by have := h.2; unfold K80.nbl; omega
theorem blocks_get {xs : List Int} {k : Nat} (h : k < nbl xs) : (blocks xs)[k]? = some (bnum (ck xs k)) := by
  unfold blocks chunks
  rw [List.getElem?_map, List.getElem?_map, List.getElem?_range h]
  rfl
theorem nb_l {n : Nat} {xs : List Int} : nbD (n + 1) (.lst (iL xs)) = true := nb_lst (nb_ints xs)
theorem rd_kept_blocks : Rds N_kept_blocks sp_kept_blocks td_kept_blocks := by
  rintro ds M Q E ⟨_, _, rfl, s, S, e, rfl, hS, hG, rfl, hx, h⟩
  refine ⟨_, rfl, _, insO_of hS.ms, rfl, _, rfl, _, _, _, rfl, rfl, _, _, rfl, s, S, e.n, rfl, hS, rfl, ?_⟩
  cases hv : valD S.temps (.inr e.n) with
  | none =>
    rw [hv] at h
    exact .inl ⟨rfl, _, rfl, _, rfl, iteD (fun z => by cases z) fun _ => ⟨_, rfl, .of (h 0 (.inl ⟨rfl, rfl⟩))⟩⟩
  | some d =>
    obtain ⟨m, ts, e2, _⟩ := hG.t.2 _ (valD_mem hv)
    cases e2
    rw [hv] at h
    refine .inr ⟨ts, rfl, _, rfl, _, rfl, iteD (fun _ => ?_) fun z => by cases z⟩
    refine ⟨fun m sd' M' => ∃ (k : Nat) (o : Option D), sd' = [some (.ref s), some e.d', some (.lst (iL ts)), some (.int k), some (.int (min (4 * k) e.xs.length : Nat)), o] ∧ M = M' ∧ k ≤ nbl e.xs ∧ (∀ j, j < k → okAt e.xs ts j) ∧ m = nbl e.xs - k, ⟨nbl e.xs, 0, none, ?_, rfl, Nat.zero_le _, fun j hj => absurd hj (Nat.not_lt_zero _), rfl⟩, ?_⟩
    · rw [Nat.mul_zero, Nat.zero_min]; rfl
    · rintro m sd' M' ⟨k, o, rfl, rfl, hk, hok, rfl⟩
      refine ⟨_, rfl, _, rfl, _, _, _, rfl, rfl, _, rfl, iteD (fun hz => ?_) fun hz => ?_⟩
      · have hk' : k < nbl e.xs := by
          have := of_decide_eq_true hz
          rw [iL_len, blocks_len] at this
          omega
        have h4 : 4 * k < e.xs.length := by unfold nbl at hk'; omega
        have hcl := @ck_len e.xs k
        refine ⟨fun sd' M' => ∃ (o : Option D), sd' = [some (.ref s), some e.d', some (.lst (iL ts)), some (.int (k + 1 : Nat)), some (.int (min (4 * (k + 1)) e.xs.length : Nat)), o] ∧ M = M' ∧ okAt e.xs ts k, fun sd' M' ⟨o, a1, a2, a3⟩ => ⟨nbl e.xs - (k + 1), by omega, k + 1, o, a1, a2, hk', fun j hj => ?_, rfl⟩, ?_⟩
        · by_cases hjk : j = k
          · subst hjk; exact a3
          · exact hok j (by omega)
        refine ⟨_, rfl, _, _, _, rfl, rfl, _, rfl, _, _, rfl, iL_atI (blocks_get hk'), _, rfl, ck e.xs k, rfl, hx.ck k, by omega, by omega, ?_⟩
        have hcut : cutD (iL ts) (some ((min (4 * k) e.xs.length : Nat) : Int)) (some (((min (4 * k) e.xs.length : Nat) : Int) + ((iL (ck e.xs k)).length : Nat))) = iL ((ts.drop (4 * k)).take (ck e.xs k).length) := by
          rw [Nat.min_eq_left (by omega), iL_len, ← Int.natCast_add, cut_iL]
          congr 2
          omega
        refine ⟨_, rfl, _, rfl, _, rfl, _, rfl, _, rfl, _, rfl, _, rfl, _, rfl, _, rfl, ?_⟩
        rw [hcut]
        refine ⟨datD_of (n := 1) (nb_sh 1 _ nb_l) (by decide), datD_of (n := 1) (nb_sh 1 _ nb_l) (by decide), ?_⟩
        have hiff : eqvD (.lst (iL ((ts.drop (4 * k)).take (ck e.xs k).length))) (.lst (iL (ck e.xs k))) = true ↔ okAt e.xs ts k := by
          rw [eqvD_iff (n := 1) nb_l nb_l]
          constructor
          · intro z; injection z with z; exact ints_inj.mp z
          · intro z; exact congrArg D.lst (ints_inj.mpr z)
        refine ⟨_, rfl, iteD (fun hb => ?_) fun hb => ?_⟩
        · have hno : ¬ okAt e.xs ts k := fun z => by
            have hb' : (!eqvD (.lst (iL ((ts.drop (4 * k)).take (ck e.xs k).length))) (.lst (iL (ck e.xs k)))) = true := hb
            rw [hiff.mpr z] at hb'
            cases hb'
          exact ⟨_, rfl, .of (h k (.inr ⟨ts, rfl, Nat.le_of_lt hk', hok, fun _ => hno⟩))⟩
        · have hyes : okAt e.xs ts k := hiff.mp (by
            have hb' : (!eqvD (.lst (iL ((ts.drop (4 * k)).take (ck e.xs k).length))) (.lst (iL (ck e.xs k)))) = false := hb
            simpa using hb')
          refine ⟨_, rfl, _, rfl, _, rfl, _, rfl, ⟨some (.lst (iL (ck e.xs k))), ?_⟩⟩
          refine ⟨?_, rfl, hyes⟩
          show [some (D.ref s), some e.d', some (.lst (iL ts)), some (.int ((k : Int) + 1)), some (.int (((min (4 * k) e.xs.length : Nat) : Int) + ((iL (ck e.xs k)).length : Nat))), some (.lst (iL (ck e.xs k)))] = _
          have e1 : ((k : Int) + 1) = ((k + 1 : Nat) : Int) := by omega
          have e2 : ((min (4 * k) e.xs.length : Nat) : Int) + ((iL (ck e.xs k)).length : Nat) = ((min (4 * (k + 1)) e.xs.length : Nat) : Int) := by
            rw [iL_len, ← Int.natCast_add]
            congr 1
            omega
          rw [e1, e2]
      · have hk' : k = nbl e.xs := by
          have := of_decide_eq_false hz
          rw [iL_len, blocks_len] at this
          omega
        subst hk'
        exact ⟨_, rfl, .of (h _ (.inr ⟨ts, rfl, Nat.le_refl _, hok, fun z => absurd z (Nat.lt_irrefl _)⟩))⟩
/-! ### the places near by -/
def unL (l : List D) : List Int := l.map fun d => match d with
  | .int i => i
  | _ => 0
def lot (a b : D) (bs : List Int) : D := .tup [a, b, .tup (iL bs)]
def In (L : List D) (b : Int) : Prop := ∃ x y bs, lot x y bs ∈ L ∧ b ∈ bs
structure Lots (S : Sto) (xs : List Int) (i : Nat) (L : List D) (m : Nat) : Prop where
  len : L.length ≤ m
  ok : ∀ z, z ∈ L → ∃ x y bs, z = lot x y bs ∧ bs.length ≤ 4 ∧ ∀ b, b ∈ bs → Near S xs i b
theorem In.app {L L' : List D} {b : Int} (h : In L b) : In (L ++ L') b := by obtain ⟨x, y, bs, h1, h2⟩ := h; exact ⟨x, y, bs, List.mem_append_left _ h1, h2⟩
theorem In.last {L : List D} {x y : D} {bs : List Int} {b : Int} (h : b ∈ bs) : In (L ++ [lot x y bs]) b := ⟨x, y, bs, List.mem_append_right _ (List.mem_singleton.mpr rfl), h⟩
theorem Lots.add {S : Sto} {xs : List Int} {i m : Nat} {L : List D} {x y : D} {bs : List Int} (h : Lots S xs i L m) (h4 : bs.length ≤ 4) (hn : ∀ b, b ∈ bs → Near S xs i b) : Lots S xs i (L ++ [lot x y bs]) (m + 1) :=
  ⟨by have := h.len; simp; omega, fun z hz => by
    rcases List.mem_append.mp hz with hz | hz
    · exact h.ok z hz
    · exact ⟨x, y, bs, List.mem_singleton.mp hz, h4, hn⟩⟩
theorem GC.blen {xs : List Int} (h : GC xs) : (blocks xs).length ≤ 4 := by rw [blocks_len]; exact h.nbl
def Known (kvs : List (Key × D)) (P : Int → Prop) : Prop := ∀ k, (valD kvs k).isSome = true ↔ ∃ b, k = .inl b ∧ P b
theorem Known.iff {kvs : List (Key × D)} {P P' : Int → Prop} (h : Known kvs P) (e : ∀ b, P b ↔ P' b) : Known kvs P' := fun k => (h k).trans ⟨fun ⟨b, h1, h2⟩ => ⟨b, h1, (e b).mp h2⟩, fun ⟨b, h1, h2⟩ => ⟨b, h1, (e b).mpr h2⟩⟩
theorem Known.put {kvs : List (Key × D)} {P : Int → Prop} (h : Known kvs P) (b : Int) (v : D) : Known (putKD kvs (.inl b) v) (fun c => P c ∨ c = b) := fun k => by
  rw [valD_put]
  by_cases hk : k = .inl b
  · rw [if_pos hk]
    exact ⟨fun _ => ⟨b, hk, .inr rfl⟩, fun _ => rfl⟩
  · rw [if_neg hk, h k]
    constructor
    · rintro ⟨c, rfl, hc⟩; exact ⟨c, rfl, .inl hc⟩
    · rintro ⟨c, rfl, hc⟩
      rcases hc with hc | rfl
      · exact ⟨c, rfl, hc⟩
      · exact absurd rfl hk
theorem frz_drop {M M' : Mem} {d : D} (h : ∀ a o, M a = some o → M' a = some o) : Frz d M' d M := frz_less h
theorem fq_thaw {Q : KD} {M M' : Mem} {p : Addr} {ds : List D} (h : M' p = some (.lst ds)) (hp : M p = none) (k : ∀ a o, M a = some o → M' a = some o) (q : Q (.lst ds) M) : FQ Q (.ref p) M' :=
  ⟨_, _, (frz_lst h).trans (frz_less (M' := M) fun a o e => by
    have : a ≠ p := fun z => by rw [z, hp] at e; cases e
    rw [dlm_ne this]
    exact k a o e), q⟩
theorem fq_less {Q : KD} {M M' : Mem} {d : D} (k : ∀ a o, M a = some o → M' a = some o) (q : Q d M) : FQ Q d M' := ⟨_, _, frz_less k, q⟩
theorem rd_near_places : Rds N_near_places sp_near_places td_near_places := by
  rintro ds M Q E ⟨_, _, rfl, s, S, e, rfl, hS, hG, rfl, hx, h⟩
  intro p hp
  have hS1 : StoreAt (upm M p (.dic [])) s S := hS.fresh hp
  refine ⟨_, rfl, _, _, _, rfl, rfl, _, rfl, _, _, _, rfl, rfl, _, rfl, _, rfl, _, _, rfl, s, S, e, rfl, hS1, hG, rfl, hx, fun i hi => ?_⟩
  refine ⟨_, rfl, (show 3 ≤ sizeLine by decide), (show 1 ≤ sizeLine by decide), fun q hq => ?_⟩
  have npq : p ≠ q := fun z => by rw [z, upm_same] at hq; cases hq
  rw [upm_ne (Ne.symm npq)] at hq
  have hq1 : ∀ kvs : List (Key × D), upm M p (.dic kvs) q = none := fun kvs => by rw [upm_ne (Ne.symm npq)]; exact hq
  have hSx : ∀ kvs L, StoreAt (upm (upm M p (.dic kvs)) q (.lst L)) s S := fun kvs L => (hS.fresh hp).fresh (hq1 kvs)
  have c0 : cutD (iL (blocks e.xs)) none (some (i : Int)) = iL ((blocks e.xs).take i) := by rw [cutD_lo, iL_take]
  have L0 : Lots S e.xs i [lot (.str "temp") (.str e.n) ((blocks e.xs).take i)] 1 := ⟨Nat.le_refl _, fun z hz => ⟨_, _, _, List.mem_singleton.mp hz, by have := hx.blen; rw [List.length_take]; omega, fun b hb => .inl hb⟩⟩
  have lf : (kS S.files).length ≤ 4 := Nat.le_trans kS_len hG.f.1
  refine ⟨_, rfl, _, insO_of (hSx _ _).ms, rfl, _, rfl, s, S, kS S.files, rfl, hSx _ _, hG.f.keys, by omega, _, rfl,
    fun j sd' M' => ∃ (L : List D) (o4 : Option D), sd' = [some (.ref s), some e.d', some (.ref p), some (.ref q), o4, none, none, none, none, none] ∧ M' = upm (upm M p (.dic [])) q (.lst L) ∧ Lots S e.xs i L (1 + j) ∧ (∀ b, b ∈ (blocks e.xs).take i → In L b) ∧
      ∀ n, n ∈ (ssort (kS S.files)).take j → ∀ c t, valD S.files (.inr n) = some (.tup [.lst (iL c), .int t]) → ∀ b, b ∈ blocks c → In L b, ?_, fun _ _ _ _ _ => rfl, ?_, ?_⟩
  · rw [c0]
    exact ⟨_, none, rfl, rfl, L0, fun b hb => ⟨_, _, _, List.mem_singleton.mpr rfl, hb⟩, fun n hn => by simp at hn⟩
  · rintro j x sd' M' hxj ⟨L, o4, rfl, rfl, hL, hT, hF⟩
    obtain ⟨n, hn, rfl⟩ := strs_get hxj
    obtain ⟨c, t, hv, gc, _⟩ := fileAt hG.f (mem_ssort.mp (List.mem_of_getElem? hn))
    refine ⟨_, rfl, tyL upm_same, _, rfl, _, rfl, _, insO_of (hSx _ _).ms, rfl, _, rfl, _, _, rfl, s, S, n, c, t, rfl, hSx _ _, rfl, hv, _, _, rfl, rfl, _, rfl, c, rfl, by have := gc.2; omega, (show 3 ≤ sizeLine by decide), q, _, _, rfl, rfl, upm_same, ?_, ?_⟩
    · have := hL.len
      have hj := (List.getElem?_eq_some_iff.mp hn).1
      rw [ssort_len] at hj
      rw [szl]; omega
    · refine ⟨L ++ [lot (.str "file") (.str n) (blocks c)], some (.str n), rfl, ?_, ?_, fun b hb => (hT b hb).app, fun m hm c' t' hv' b hb => ?_⟩
      · rw [upm_upm]; rfl
      · have := hL.add (x := .str "file") (y := .str n) gc.blen fun b hb => .inr (.inl ⟨n, c, t, hv, hb⟩)
        exact this
      · rw [take_get hn] at hm
        rcases List.mem_append.mp hm with hm | hm
        · exact (hF m hm c' t' hv' b hb).app
        · have hmn := List.mem_singleton.mp hm
          subst hmn
          rw [hv] at hv'
          have ec : iL c = iL c' := by injection hv' with z; injection z with z; injection z with z _; injection z
          rw [← ints_inj.mp ec] at hb
          exact .last hb
  · rintro sd' M' ⟨L1, o4, rfl, rfl, hL1, hT1, hF1⟩
    rw [List.length_map] at hL1 hF1
    rw [List.take_length] at hF1
    rw [ssort_len] at hL1
    refine ⟨_, rfl, _, insO_of (hSx _ _).ms, rfl, _, rfl, s, S, rfl, hSx _ _, hG.o, ?_⟩
    have lo := hG.o.1
    refine ⟨_, rfl, _, rfl, _, rfl, by omega, by omega,
      fun j sd' M' => ∃ (L : List D) (o4 o6 : Option D), sd' = [some (.ref s), some e.d', some (.ref p), some (.ref q), o4, some (.lst S.old), o6, none, none, none] ∧ M' = upm (upm M p (.dic [])) q (.lst L) ∧ Lots S e.xs i L (5 + j) ∧ (∀ b, b ∈ (blocks e.xs).take i → In L b) ∧
        (∀ n, n ∈ ssort (kS S.files) → ∀ c t, valD S.files (.inr n) = some (.tup [.lst (iL c), .int t]) → ∀ b, b ∈ blocks c → In L b) ∧ ∀ k, k < j → ∀ n v c, S.old[k]? = some (.tup [.str n, v, .lst (iL c)]) → ∀ b, b ∈ blocks c → In L b,
      ⟨L1, o4, none, rfl, rfl, ⟨by have := hL1.len; omega, hL1.ok⟩, hT1, hF1, fun k hk => absurd hk (Nat.not_lt_zero _)⟩, fun _ _ _ _ _ => trivial, ?_, ?_⟩
    · rintro j x sd' M' hxj ⟨L, o4, o6, rfl, rfl, hL, hT, hF, hA⟩
      obtain ⟨hj, rfl⟩ := rng_get hxj
      have hj' : j < S.old.length := by simpa using hj
      obtain ⟨n, v, c, er, gc, _⟩ := hG.o.2 _ (List.getElem_mem hj')
      have hr : S.old[j]? = some (.tup [.str n, v, .lst (iL c)]) := by rw [List.getElem?_eq_getElem hj', er]
      have ej : (0 + (j : Int) * 1) = (j : Int) := by omega
      have hat : atI S.old (0 + (j : Int) * 1) = some (.tup [.str n, v, .lst (iL c)]) := by rw [ej]; exact Dn.atI_nat hr
      refine ⟨_, rfl, tyL upm_same, _, rfl, _, rfl, _, rfl, _, _, _, rfl, rfl, hat, 2, _, rfl, rfl, _, rfl, c, rfl, by have := gc.2; omega, (show 3 ≤ sizeLine by decide), q, _, _, rfl, rfl, upm_same, ?_, ?_⟩
      · have := hL.len
        rw [szl]; omega
      · refine ⟨L ++ [lot (.str "attic") (.int (0 + (j : Int) * 1)) (blocks c)], o4, some (.int (0 + (j : Int) * 1)), rfl, ?_, ?_, fun b hb => (hT b hb).app, fun m hm c' t' hv' b hb => (hF m hm c' t' hv' b hb).app, fun k hk n' v' c' hr' b hb => ?_⟩
        · rw [upm_upm]; rfl
        · exact hL.add gc.blen fun b hb => .inr (.inr ⟨n, v, c, List.mem_of_getElem? hr, hb⟩)
        · by_cases hkj : k = j
          · subst hkj
            rw [hr] at hr'
            have ec : iL c = iL c' := by injection hr' with z; injection z with z; injection z with z1 z; injection z with z2 z; injection z with z3 z; injection z3
            rw [← ints_inj.mp ec] at hb
            exact .last hb
          · exact (hA k (by omega) n' v' c' hr' b hb).app
    · rintro sd' M' ⟨L, o4, o6, rfl, rfl, hL, hT, hF, hA⟩
      have hN : ∀ b, In L b ↔ Near S e.xs i b := fun b => by
        constructor
        · rintro ⟨x, y, bs, h1, h2⟩
          obtain ⟨x', y', bs', e1, _, e3⟩ := hL.ok _ h1
          have : iL bs = iL bs' := by injection e1 with z; injection z with z1 z; injection z with z2 z; injection z with z3 z; injection z3
          rw [ints_inj.mp this] at h2
          exact e3 b h2
        · rintro (hb | ⟨n, c, t, hv, hb⟩ | ⟨n, v, c, hr, hb⟩)
          · exact hT b hb
          · exact hF n (mem_ssort.mpr (mem_kS (valD_mem hv))) c t hv b hb
          · obtain ⟨k, hk⟩ := List.mem_iff_getElem?.mp hr
            have hk2 : k < S.old.length := (List.getElem?_eq_some_iff.mp hk).1
            exact hA k (by rw [rng_length]; omega) n v c hk b hb
      have lenL : L.length ≤ 7 := by have := hL.len; rw [rng_length] at this; have : ((S.old.length : Int)).toNat = S.old.length := by omega
                                     omega
      refine ⟨_, rfl, L, lstO_of upm_same, fun j sd' M' => ∃ (o4 o6 o7 o8 o9 : Option D) (kvs : List (Key × D)), sd' = [some (.ref s), some e.d', some (.ref p), some (.ref q), o4, some (.lst S.old), o6, o7, o8, o9] ∧ M' = upm (upm M p (.dic kvs)) q (.lst L) ∧ Known kvs (fun b => In (L.take j) b) ∧ kvs.length ≤ 4 * j,
        ⟨o4, o6, none, none, none, [], rfl, rfl, fun k => ⟨fun z => (by cases z), fun ⟨b, _, x, y, bs, h1, _⟩ => (by simp at h1)⟩, Nat.zero_le _⟩, ?_, ?_, ?_⟩
      · rintro j sd' M' _ ⟨_, _, _, _, _, kvs, rfl, rfl, _⟩
        exact lstO_of upm_same
      · rintro j z sd' M' hz ⟨o4, o6, o7, o8, o9, kvs, rfl, rfl, hK, hl⟩
        have hjl := (List.getElem?_eq_some_iff.mp hz).1
        obtain ⟨x, y, bs, rfl, h4, _⟩ := hL.ok z (List.mem_of_getElem? hz)
        refine ⟨_, rfl, rfl, _, _, rfl, _, _, rfl, _, _, rfl, rfl, ?_⟩
        refine ⟨_, rfl, _, rfl, by omega, by rw [iL_len]; omega, fun k sd' M' => ∃ (o6 : Option D) (kvs : List (Key × D)), sd' = [some (.ref s), some e.d', some (.ref p), some (.ref q), o4, some (.lst S.old), o6, some x, some y, some (.tup (iL bs))] ∧ M' = upm (upm M p (.dic kvs)) q (.lst L) ∧ Known kvs (fun b => In (L.take j) b ∨ b ∈ bs.take k) ∧ kvs.length ≤ 4 * j + k,
          ⟨o6, kvs, rfl, rfl, hK.iff fun b => ⟨.inl, fun h => h.elim id fun z => by simp at z⟩, hl⟩, fun _ _ _ _ _ => trivial, ?_, ?_⟩
        · rintro k w sd' M' hw ⟨o6, kvs, rfl, rfl, hK, hl⟩
          obtain ⟨hk, rfl⟩ := rng_get hw
          have hk' : k < bs.length := by rw [iL_len] at hk; omega
          have ek : (0 + (k : Int) * 1) = (k : Int) := by omega
          have hg := List.getElem?_eq_getElem hk'
          have hat : atI (iL bs) (0 + (k : Int) * 1) = some (.int bs[k]) := by rw [ek]; exact iL_atI hg
          have hMp : upm (upm M p (.dic kvs)) q (.lst L) p = some (.dic kvs) := (upm_ne npq).trans upm_same
          refine ⟨_, rfl, _, rfl, _, _, rfl, hat, _, rfl, inD_dic hMp rfl ⟨_, rfl, iteD (fun hb => ?_) fun hb => ?_⟩⟩
          · refine ⟨_, rfl, _, rfl, _, rfl, (show 3 ≤ sizeLine by decide), _, rfl, _, rfl, _, rfl, _, _, rfl, hat, p, rfl, .inl ⟨kvs, _, hMp, rfl, by rw [szl]; omega, _, _, rfl, ?_, (hK.put bs[k] (.tup [x, y, .int (0 + (k : Int) * 1)])).iff fun b => ?_, ?_⟩⟩
            · rw [upm_comm (Ne.symm npq), upm_upm]
            · rw [take_get hg, List.mem_append, List.mem_singleton]
              exact ⟨fun h => h.elim (fun h => h.elim .inl fun h => .inr (.inl h)) fun h => .inr (.inr h), fun h => h.elim (fun h => .inl (.inl h)) fun h => h.elim (fun h => .inl (.inr h)) .inr⟩
            · have := @len_put kvs (.inl bs[k]) (.tup [x, y, .int (0 + (k : Int) * 1)]); omega
          · refine ⟨_, kvs, rfl, rfl, hK.iff fun b => ?_, by omega⟩
            have hin : (valD kvs (.inl bs[k])).isSome = true := by
              have hb' : (!(valD kvs (.inl bs[k])).isSome) = false := hb
              simpa using hb'
            obtain ⟨b', e', hb'⟩ := (hK _).mp hin
            cases e'
            rw [take_get hg, List.mem_append, List.mem_singleton]
            constructor
            · exact fun h => h.elim .inl fun h => .inr (.inl h)
            · rintro (h | h | rfl)
              · exact .inl h
              · exact .inr h
              · exact hb'
        · rintro sd' M' ⟨o6, kvs, rfl, rfl, hK, hl⟩
          refine ⟨o4, o6, _, _, _, kvs, rfl, rfl, hK.iff fun b => ?_, ?_⟩
          · have er : (rng 0 1 ((iL bs).length : Int).toNat).length = bs.length := by rw [rng_length, iL_len]; omega
            rw [er, List.take_length, take_get hz]
            constructor
            · rintro (h | h)
              · exact h.app
              · exact .last h
            · rintro ⟨x', y', bs', h1, h2⟩
              rcases List.mem_append.mp h1 with h1 | h1
              · exact .inl ⟨x', y', bs', h1, h2⟩
              · have e1 := List.mem_singleton.mp h1
                have : iL bs' = iL bs := by injection e1 with z; injection z with z1 z; injection z with z2 z; injection z with z3 z; injection z3
                rw [ints_inj.mp this] at h2
                exact .inr h2
          · have er : (rng 0 1 ((iL bs).length : Int).toNat).length = bs.length := by rw [rng_length, iL_len]; omega
            rw [er] at hl
            omega
      · rintro sd' M' ⟨o4, o6, o7, o8, o9, kvs, rfl, rfl, hK, hl⟩
        rw [List.take_length] at hK
        exact ⟨_, rfl, fq_less (new_ext (hq1 kvs)) (h i kvs p hi hp (hK.iff hN))⟩
end K80
set_option Elab.async false
set_option linter.all false
set_option maxRecDepth 100000
set_option maxHeartbeats 4000000
/-! K80h: what is missing, what must come. -/
namespace K80
open PySem PySem.Spec PyProof.Rows L2 Dn

theorem any_iL {ms : List Int} {b : Int} : (iL ms).any (fun z => eqvD z (.int b)) = true ↔ b ∈ ms := by
  rw [List.any_eq_true]
  constructor
  · rintro ⟨z, hz, e⟩
    obtain ⟨c, hc, rfl⟩ := List.mem_map.mp hz
    have := (eqvD_iff (n := 0) (d := .int c) (e := .int b) rfl rfl).mp e
    cases this
    exact hc
  · intro h
    exact ⟨.int b, List.mem_map.mpr ⟨b, h, rfl⟩, (eqvD_iff (n := 0) (d := .int b) (e := .int b) rfl rfl).mpr rfl⟩
theorem dat_iL {ms : List Int} : datD (.lst (iL ms)) := datD_of (n := 1) (nb_sh 1 _ nb_l) (by decide)
theorem dat_int {b : Int} : datD (.int b) := datD_of (n := 0) rfl (by decide)
theorem rd_missing : Rds N_missing sp_missing td_missing := by
  rintro ds M Q E ⟨_, _, rfl, s, S, e, rfl, hS, hG, rfl, hx, h⟩
  refine ⟨_, rfl, _, rfl, _, _, rfl, s, S, e, rfl, hS, hG, rfl, hx, fun i kvs p hi hp hK => ?_⟩
  refine ⟨(show 0 ≤ sizeLine by decide), fun q hq => ?_⟩
  have npq : p ≠ q := fun z => by rw [z, upm_same] at hq; cases hq
  have hqM : M q = none := by rw [upm_ne (Ne.symm npq)] at hq; exact hq
  have hSx : ∀ L, StoreAt (upm (upm M p (.dic kvs)) q (.lst L)) s S := fun L => (hS.fresh hp).fresh hq
  refine ⟨_, rfl, _, _, _, rfl, rfl, _, rfl, _, rfl, _, _, rfl, s, S, e, rfl, hSx _, hG, rfl, hx, fun i' hi' => ?_⟩
  obtain rfl := hi.uniq hi'
  have c0 : cutD (iL (blocks e.xs)) (some (i : Int)) none = iL ((blocks e.xs).drop i) := by rw [cutD_hi, iL_drop]
  have dl : ((blocks e.xs).drop i).length ≤ 4 := by have := hx.blen; rw [List.length_drop]; omega
  refine ⟨_, rfl, iL ((blocks e.xs).drop i), congrArg D.tup c0, fun j sd' M' => ∃ (o : Option D) (ms : List Int), sd' = [some (.ref s), some e.d', some (.ref p), some (.ref q), o] ∧ M' = upm (upm M p (.dic kvs)) q (.lst (iL ms)) ∧ ms.length ≤ j ∧ ∀ b, b ∈ ms ↔ b ∈ ((blocks e.xs).drop i).take j ∧ ¬ Near S e.xs i b,
    ⟨none, [], rfl, rfl, Nat.le_refl _, fun b => by simp⟩, fun _ _ _ _ _ => trivial, ?_, ?_⟩
  · rintro j x sd' M' hxj ⟨o, ms, rfl, rfl, hl, hm⟩
    obtain ⟨b, hb, rfl⟩ := iL_get hxj
    have hjl := (List.getElem?_eq_some_iff.mp hb).1
    have hMp : upm (upm M p (.dic kvs)) q (.lst (iL ms)) p = some (.dic kvs) := (upm_ne npq).trans upm_same
    have skip : (Near S e.xs i b ∨ b ∈ ms) → ∀ c, c ∈ ms ↔ c ∈ ((blocks e.xs).drop i).take (j + 1) ∧ ¬ Near S e.xs i c := fun hn c => by
      rw [take_get hb, List.mem_append, List.mem_singleton, hm c]
      constructor
      · rintro ⟨h1, h2⟩; exact ⟨.inl h1, h2⟩
      · rintro ⟨h1 | rfl, h2⟩
        · exact ⟨h1, h2⟩
        · rcases hn with hn | hn
          · exact absurd hn h2
          · exact (hm c).mp hn
    refine ⟨_, rfl, _, rfl, inD_dic hMp rfl ⟨_, rfl, iteD (fun hz => ?_) fun hz => iteD (fun z => by cases z) fun _ => ?_⟩⟩
    · refine ⟨_, rfl, _, rfl, inD_ref upm_same dat_int dat_iL ⟨_, rfl, iteD (fun hy => ?_) fun hy => ?_⟩⟩
      · refine ⟨_, rfl, tyL upm_same, _, rfl, q, _, _, rfl, rfl, upm_same, by rw [iL_len, szl]; omega, some (.int b), ms ++ [b], rfl, ?_, by simp; omega, fun c => ?_⟩
        · rw [upm_upm, iL_app]; rfl
        · have hnb : ¬ Near S e.xs i b := fun z => by
            have := (hK (.inl b)).mpr ⟨b, rfl, z⟩
            have hz' : (!(valD kvs (.inl b)).isSome) = true := hz
            rw [this] at hz'; cases hz'
          rw [take_get hb, List.mem_append, List.mem_append, List.mem_singleton, hm c]
          constructor
          · rintro (⟨h1, h2⟩ | rfl)
            · exact ⟨.inl h1, h2⟩
            · exact ⟨.inr rfl, hnb⟩
          · rintro ⟨h1 | rfl, h2⟩
            · exact .inl ⟨h1, h2⟩
            · exact .inr rfl
      · have hbm : b ∈ ms := any_iL.mp (by
          have hy' : (!(iL ms).any fun z => eqvD z (.int b)) = false := hy
          simpa using hy')
        exact ⟨_, ms, rfl, rfl, by omega, skip (.inr hbm)⟩
    · have hnb : Near S e.xs i b := by
        have hz' : (!(valD kvs (.inl b)).isSome) = false := hz
        have hs : (valD kvs (.inl b)).isSome = true := by simpa using hz'
        obtain ⟨b', e', hb'⟩ := (hK _).mp hs
        cases e'
        exact hb'
      exact ⟨_, ms, rfl, rfl, by omega, skip (.inl hnb)⟩
  · rintro sd' M' ⟨o, ms, rfl, rfl, hl, hm⟩
    rw [iL_len] at hl hm
    rw [List.take_length] at hm
    refine ⟨_, rfl, fq_thaw upm_same hqM (fun a o z => new_ext hq a o (new_ext hp a o z)) (h ms (by omega) fun b => ?_)⟩
    rw [hm b]
    exact ⟨fun ⟨h1, h2⟩ => ⟨i, hi, h1, h2⟩, fun ⟨i', hi', h1, h2⟩ => by obtain rfl := hi.uniq hi'; exact ⟨h1, h2⟩⟩
theorem lstS_of {M : Mem} {d : D} {xs : List D} (h : lstO M d = some xs) : lstS M d = some xs := by cases d <;> first | exact h | cases h
theorem lstO_new {M : Mem} {d : D} {xs : List D} {p : Addr} {o : MO} (h : lstO M d = some xs) (hp : M p = none) : lstO (upm M p o) d = some xs := by
  cases d with
  | ref a => exact lstO_of (new_ext hp _ _ (lstO_ref h))
  | lst ys => exact h
  | _ => cases h
theorem ents_get {es : List Ent} {i : Nat} {x : D} (h : (es.map Ent.d')[i]? = some x) : ∃ e, es[i]? = some e ∧ x = e.d' := by
  rw [List.getElem?_map] at h
  cases e : es[i]? with
  | none => rw [e] at h; cases h
  | some b => rw [e] at h; cases h; exact ⟨b, rfl, rfl⟩
structure Keys (kvs : List (Key × D)) (ns : List Int) (m : Nat) (P : Int → Prop) : Prop where
  ks : kvs.map (·.1) = ns.map Sum.inl
  nd : ns.Nodup
  len : ns.length ≤ m
  mem : ∀ b, b ∈ ns ↔ P b
theorem Keys.put {kvs : List (Key × D)} {ns : List Int} {m : Nat} {P : Int → Prop} (h : Keys kvs ns m P) (b : Int) (v : D) : ∃ ns', Keys (putKD kvs (.inl b) v) ns' (m + 1) (fun c => P c ∨ c = b) := by
  have hin : (Sum.inl b ∈ kvs.map (·.1)) ↔ b ∈ ns := by
    rw [h.ks]
    constructor
    · intro z
      obtain ⟨c, hc, e⟩ := List.mem_map.mp z
      cases e
      exact hc
    · intro z; exact List.mem_map.mpr ⟨b, z, rfl⟩
  rcases @keys_put kvs (.inl b) v with ⟨h1, h2⟩ | ⟨h1, h2⟩
  · have hb := hin.mp h1
    refine ⟨ns, h2.trans h.ks, h.nd, by have := h.len; omega, fun c => ?_⟩
    rw [h.mem c]
    refine ⟨.inl, fun z => z.elim id fun z => ?_⟩
    subst z
    exact (h.mem c).mp hb
  · have hb : b ∉ ns := fun z => h1 (hin.mpr z)
    refine ⟨ns ++ [b], by rw [h2, h.ks, List.map_append]; rfl, ?_, by have := h.len; simp; omega, fun c => ?_⟩
    · rw [List.nodup_append]
      refine ⟨h.nd, by simp, fun a ha c hc e => ?_⟩
      rw [List.mem_singleton] at hc
      subst hc e
      exact hb ha
    · rw [List.mem_append, List.mem_singleton, h.mem c]
theorem Keys.iff {kvs : List (Key × D)} {ns : List Int} {m m' : Nat} {P P' : Int → Prop} (h : Keys kvs ns m P) (l : m ≤ m') (e : ∀ b, P b ↔ P' b) : Keys kvs ns m' P' := ⟨h.ks, h.nd, Nat.le_trans h.len l, fun b => (h.mem b).trans (e b)⟩
theorem Keys.klen {kvs : List (Key × D)} {ns : List Int} {m : Nat} {P : Int → Prop} (h : Keys kvs ns m P) : kvs.length ≤ m := by
  have := congrArg List.length h.ks
  rw [List.length_map, List.length_map] at this
  have := h.len
  omega
theorem rd_must_come : Rds N_must_come sp_must_come td_must_come := by
  rintro ds M Q E ⟨st, en, rfl, s, S, es, rfl, hS, hG, hL, hle, hx, h⟩
  intro p hp
  have hSx : ∀ kvs, StoreAt (upm M p (.dic kvs)) s S := fun kvs => hS.fresh hp
  refine ⟨_, rfl, es.map Ent.d', lstS_of (lstO_new hL hp), fun j sd' M' => ∃ (o3 o4 : Option D) (kvs : List (Key × D)) (ns : List Int), sd' = [some (.ref s), some en, some (.ref p), o3, o4] ∧ M' = upm M p (.dic kvs) ∧ Keys kvs ns (4 * j) (fun b => ∃ e : Ent, e ∈ es.take j ∧ Need S e.n e.xs b),
    ⟨none, none, [], [], rfl, rfl, rfl, List.nodup_nil, Nat.le_refl _, fun b => by simp⟩, ?_, ?_, ?_⟩
  · rintro j sd' M' _ ⟨o3, o4, kvs, ns, rfl, rfl, _⟩
    exact lstS_of (lstO_new hL hp)
  · rintro j x sd' M' hxj ⟨o3, o4, kvs, ns, rfl, rfl, hK⟩
    obtain ⟨e, he, rfl⟩ := ents_get hxj
    have hjl := (List.getElem?_eq_some_iff.mp he).1
    refine ⟨_, rfl, _, rfl, _, _, rfl, s, S, e, rfl, hSx _, hG, rfl, hx e (List.mem_of_getElem? he), fun ms hl hm => ?_⟩
    refine ⟨iL ms, rfl, fun k sd' M' => ∃ (o4 : Option D) (kvs : List (Key × D)) (ns : List Int), sd' = [some (.ref s), some en, some (.ref p), some e.d', o4] ∧ M' = upm M p (.dic kvs) ∧ Keys kvs ns (4 * j + k) (fun b => (∃ e : Ent, e ∈ es.take j ∧ Need S e.n e.xs b) ∨ b ∈ ms.take k),
      ⟨o4, kvs, ns, rfl, rfl, hK.iff (Nat.le_refl _) fun b => ⟨.inl, fun z => z.elim id fun z => by simp at z⟩⟩, fun _ _ _ _ _ => rfl, ?_, ?_⟩
    · rintro k x sd' M' hxk ⟨o4, kvs, ns, rfl, rfl, hK⟩
      obtain ⟨b, hb, rfl⟩ := iL_get hxk
      have hkl := (List.getElem?_eq_some_iff.mp hb).1
      obtain ⟨ns', hK'⟩ := hK.put b (.bl true)
      refine ⟨_, rfl, _, rfl, p, rfl, .inl ⟨kvs, _, upm_same, rfl, ?_, some (.int b), putKD kvs (.inl b) (.bl true), ns', rfl, upm_upm, hK'.iff (Nat.le_refl _) fun c => ?_⟩⟩
      · have := hK.klen; rw [szl]; omega
      · rw [take_get hb, List.mem_append, List.mem_singleton]
        exact ⟨fun h => h.elim (fun h => h.elim .inl fun h => .inr (.inl h)) fun h => .inr (.inr h), fun h => h.elim (fun h => .inl (.inl h)) fun h => h.elim (fun h => .inl (.inr h)) .inr⟩
    · rintro sd' M' ⟨o4, kvs, ns, rfl, rfl, hK⟩
      refine ⟨_, o4, kvs, ns, rfl, rfl, hK.iff (by rw [iL_len]; omega) fun b => ?_⟩
      rw [iL_len, List.take_length, take_get he, hm b]
      constructor
      · rintro (⟨e', h1, h2⟩ | h1)
        · exact ⟨e', List.mem_append_left _ h1, h2⟩
        · exact ⟨e, List.mem_append_right _ (List.mem_singleton.mpr rfl), h1⟩
      · rintro ⟨e', h1, h2⟩
        rcases List.mem_append.mp h1 with h1 | h1
        · exact .inl ⟨e', h1, h2⟩
        · rw [List.mem_singleton.mp h1] at h2; exact .inr h2
  · rintro sd' M' ⟨o3, o4, kvs, ns, rfl, rfl, hK⟩
    have e : (es.map Ent.d').length = es.length := List.length_map _
    rw [e, List.take_length] at hK
    refine ⟨_, rfl, _, rfl, .inr (.inr (.inl ⟨kvs, ns, dicO_of upm_same, hK.ks, by have := hK.len; omega, fq_less (new_ext hp) ?_⟩))⟩
    exact h ns hK.nd hK.mem
end K80
set_option Elab.async false
set_option linter.all false
set_option maxRecDepth 100000
set_option maxHeartbeats 4000000
/-! K80i: the readings of the law's own defs. -/
namespace K80
open PySem PySem.Spec PyProof.Rows L2 Dn

theorem rd_u_law_draws : Rds N_u_law_draws sp_u_law_draws td_u_law_draws := by
  rintro ds M Q E ⟨_, rfl, ns, rfl, h⟩
  refine ⟨_, rfl, _, rfl, (show 4 ≤ sizeLine by decide), fun p hp => .of (h _ p hp (fr_upm (by simp)) ⟨ns, 0, 0, 1, upm_same, Nat.zero_le _, by decide, by decide, by decide⟩)⟩
theorem divW {i j : Int} (h : 0 < j) (k : j < 1000000) : CDivW i j := by
  refine ⟨h, ?_⟩
  have : j.natAbs.log2 < 20 := (Nat.log2_lt (by omega)).mpr (by omega)
  omega
theorem rd_draw2 {a : Addr} {lim : Int} {o : Option D} {M : Mem} {Q : KD} {E : ED} (hl : 0 < lim) (hl2 : lim < 1000000) (hd : DrawAt M a) (h : ∀ M' (r : Nat), Fr M M' [a] → DrawAt M' a → (r : Int) < lim → Q (.int r) M') :
    td_u_law_draw_2 { nx := fun _ M' => FQ Q .non M', rt := FQ Q, ex := fun c p _ M' => E c p M' } [some (.ref a), some (.int lim), o, none] M := by
  obtain ⟨xs, i, big, seed, hM, hi, hb, hs, hs2⟩ := hd
  refine ⟨_, rfl, ixC_ref hM rfl ⟨_, rfl, iteD (fun hz => ?_) fun hz => ?_⟩⟩
  · refine ⟨_, rfl, ixC_ref hM rfl ⟨_, rfl, hl, ?_⟩⟩
    refine ⟨_, rfl, ixC_ref hM rfl ⟨_, rfl, divW hl hl2, _, rfl, a, rfl, .inr ⟨_, 2, 2, hM, rfl, rfl, _, rfl, .of ?_⟩⟩⟩
    have e : big % lim = ((big % lim).toNat : Int) := by have := Int.emod_nonneg big (show lim ≠ 0 by omega); omega
    show Q (.int (big % lim)) _
    rw [e]
    have := Int.emod_lt_of_pos big hl
    exact h _ _ (fr_upm (by simp)) ⟨xs, i, big / lim, seed, upm_same, hi, Int.ediv_nonneg hb (by omega), hs, hs2⟩ (by omega)
  · refine ⟨_, rfl, ixC_ref hM rfl ⟨.inl (.inr ⟨by decide, by decide⟩), (show (0 : Int) < 2147483629 by decide), _, rfl, a, rfl, .inr ⟨_, 3, 3, hM, rfl, rfl, ?_⟩⟩⟩
    refine ⟨_, rfl, ixC_ref upm_same rfl ⟨divW (by decide) (by decide), _, rfl, hl, .of ?_⟩⟩
    generalize hs' : (seed * 69621 + 7) % 2147483629 = seed'
    have h1 : 0 ≤ seed' ∧ seed' < 2147483629 := by subst hs'; omega
    have e : seed' / 11 % lim = ((seed' / 11 % lim).toNat : Int) := by have := Int.emod_nonneg (seed' / 11) (show lim ≠ 0 by omega); omega
    show Q (.int (seed' / 11 % lim)) (upm M a (.lst [.lst (iL xs), .int i, .int big, .int ((seed * 69621 + 7) % 2147483629)]))
    rw [hs', e]
    have := Int.emod_lt_of_pos (seed' / 11) hl
    exact h _ _ (fr_upm (by simp)) ⟨xs, i, big, seed', upm_same, hi, hb, h1.1, by omega⟩ (by omega)
theorem rd_u_law_draw : Rds N_u_law_draw sp_u_law_draw td_u_law_draw := by
  rintro ds M Q E ⟨_, _, rfl, a, lim, rfl, rfl, hl, hl2, hd, h⟩
  have hd0 := hd
  obtain ⟨xs, i, big, seed, hM, hi, hb, hs, hs2⟩ := hd
  refine ⟨_, rfl, ixC_ref hM rfl ⟨_, rfl, iteD (fun hz => ?_) fun hz => iteD (fun z => by cases z) fun _ => rd_draw2 hl hl2 hd0 h⟩⟩
  refine ⟨_, rfl, ixC_ref hM rfl ⟨_, rfl, ixC_ref hM rfl ⟨_, rfl, _, rfl, iteD (fun hy => ?_) fun hy => rd_draw2 hl hl2 hd0 h⟩⟩⟩
  have hlt : i < xs.length := by
    have := of_decide_eq_true hy
    rw [iL_len] at this
    omega
  have hg := List.getElem?_eq_getElem hlt
  refine ⟨_, rfl, ixC_ref hM rfl ⟨_, rfl, ixC_ref hM rfl ⟨_, _, _, rfl, rfl, iL_atI hg, ?_⟩⟩⟩
  have hc0 : 0 ≤ (if xs[i] < 0 then -xs[i] else xs[i]) := by split <;> omega
  refine ⟨_, rfl, ixC_ref hM rfl ⟨_, rfl, a, rfl, .inr ⟨_, 1, 1, hM, rfl, rfl, ?_⟩⟩⟩
  have key : ∀ (cell : Int), 0 ≤ cell → ∀ M2 (big' : Int), Fr M M2 [a] → M2 a = some (.lst [.lst (iL xs), .int (i + 1 : Nat), .int big', .int seed]) → 0 ≤ big' → ∀ (r : Int), r = (seed * 48271 + cell + 13) % 2147483647 →
      td_u_law_draw_2 { nx := fun _ M' => FQ Q .non M', rt := FQ Q, ex := fun c p _ M' => E c p M' } [some (.ref a), some (.int lim), some (.int cell), none] (upm M2 a (.lst [.lst (iL xs), .int (i + 1 : Nat), .int big', .int r])) := fun cell hc0 M2 big' fr h2 hb' r hr => by
    refine rd_draw2 hl hl2 ⟨xs, i + 1, big', r, upm_same, hlt, hb', by omega, by omega⟩ fun M' r' f' d' hr' => h M' r' ((fr.trans (fr_upm (by simp))).trans f') d' hr'
  refine ⟨_, rfl, ⟨by decide, by decide, by decide⟩, _, rfl, iteD (fun hx => ?_) fun hx => ?_⟩
  · refine ⟨_, rfl, _, rfl, a, rfl, .inr ⟨_, 2, 2, upm_same, rfl, rfl, ?_⟩⟩
    refine ⟨_, rfl, ixC_ref upm_same rfl ⟨.inl (.inr ⟨by decide, by decide⟩), _, rfl, (show (0 : Int) < 2147483647 by decide), _, rfl, a, rfl, .inr ⟨_, 3, 3, upm_same, rfl, rfl, ?_⟩⟩⟩
    exact key _ hc0 _ _ ((fr_upm (by simp)).trans (fr_upm (by simp))) upm_same hc0 _ rfl
  · refine ⟨_, rfl, ixC_ref upm_same rfl ⟨.inl (.inr ⟨by decide, by decide⟩), _, rfl, (show (0 : Int) < 2147483647 by decide), _, rfl, a, rfl, .inr ⟨_, 3, 3, upm_same, rfl, rfl, ?_⟩⟩⟩
    exact key _ hc0 _ big (fr_upm (by simp)) upm_same hb _ rfl
def words : List D := [.lst (iL [1, 2, 3, 4]), .lst (iL [0, 0, 0, 0]), .lst (iL [9, 9, 9, 9]), .lst (iL [5]), .lst (iL [9, 9]), .lst (iL [1, 2, 3])]
theorem word_at {r : Nat} (h : r < 6) : ∃ w, atI words (r : Int) = some (.lst (iL w)) ∧ Bts w ∧ w.length ≤ 4 := by
  have b : ∀ w : List Int, (w.all fun b => decide (0 ≤ b) && decide (b < 256)) = true → Bts w := fun w hw b hb => by
    have := List.all_eq_true.mp hw b hb
    simpa using this
  rcases (by omega : r = 0 ∨ r = 1 ∨ r = 2 ∨ r = 3 ∨ r = 4 ∨ r = 5) with rfl | rfl | rfl | rfl | rfl | rfl
  · exact ⟨[1, 2, 3, 4], rfl, b _ rfl, by decide⟩
  · exact ⟨[0, 0, 0, 0], rfl, b _ rfl, by decide⟩
  · exact ⟨[9, 9, 9, 9], rfl, b _ rfl, by decide⟩
  · exact ⟨[5], rfl, b _ rfl, by decide⟩
  · exact ⟨[9, 9], rfl, b _ rfl, by decide⟩
  · exact ⟨[1, 2, 3], rfl, b _ rfl, by decide⟩
theorem rd_u_law_content : Rds N_u_law_content sp_u_law_content td_u_law_content := by
  rintro ds M Q E ⟨_, rfl, a, rfl, hd, h⟩
  refine ⟨(show 4 ≤ sizeLine by decide), (show 4 ≤ sizeLine by decide), (show 4 ≤ sizeLine by decide), (show 1 ≤ sizeLine by decide), (show 2 ≤ sizeLine by decide), (show 3 ≤ sizeLine by decide), (show 6 ≤ sizeLine by decide), ?_⟩
  refine ⟨(show 0 ≤ sizeLine by decide), ?_⟩
  refine ⟨_, rfl, _, _, rfl, a, 5, rfl, rfl, by decide, by decide, hd, fun M1 r fr hd1 hr => ?_⟩
  refine ⟨_, rfl, by omega, by omega, fun j sd' M' => ∃ (o : Option D) (ys : List Int), sd' = [some (.ref a), some (.lst words), some (.lst (iL ys)), o] ∧ Fr M M' [a] ∧ DrawAt M' a ∧ Bts ys ∧ ys.length ≤ 4 * j, ⟨none, [], rfl, fr, hd1, fun b hb => by simp at hb, Nat.le_refl _⟩, fun _ _ _ _ _ => trivial, ?_, ?_⟩
  · rintro j x sd' M' hx ⟨o, ys, rfl, fr, hd, hb, hl⟩
    obtain ⟨hj, rfl⟩ := rng_get hx
    refine ⟨_, rfl, _, rfl, _, rfl, _, _, rfl, a, 6, rfl, rfl, by decide, by decide, hd, fun M2 r2 fr2 hd2 hr2 => ?_⟩
    obtain ⟨w, hw, bw, lw⟩ := word_at (r := r2) (by omega)
    refine ⟨_, _, _, rfl, rfl, hw, _, _, rfl, rfl, ?_, some (.int (0 + (j : Int) * 1)), ys ++ w, ?_, fr.trans fr2, hd2, ?_, ?_⟩
    · rw [iL_len, iL_len, szl]; omega
    · rw [iL_app]; rfl
    · intro b hb'
      rcases List.mem_append.mp hb' with z | z
      · exact hb b z
      · exact bw b z
    · rw [List.length_append]; omega
  · rintro sd' M' ⟨o, ys, rfl, fr, hd, hb, hl⟩
    rw [rng_length] at hl
    exact ⟨_, rfl, .of (h M' ys fr hd ⟨hb, by omega⟩)⟩
end K80
set_option Elab.async false
set_option linter.all false
set_option maxRecDepth 100000
set_option maxHeartbeats 4000000
/-! K80j: the law's own look at what is missing. -/
namespace K80
open PySem PySem.Spec PyProof.Rows L2 Dn

theorem bnum_snoc (xs : List Int) (b : Int) : bnum (xs ++ [b]) = bnum xs * 256 + b := by unfold bnum; rw [List.foldl_append]; rfl
theorem bnum_inj : ∀ (n : Nat) (xs ys : List Int), xs.length = n → Bts xs → Bts ys → bnum xs = bnum ys → xs = ys
  | 0, xs, ys, hl, hx, hy, h => by
    have : xs = [] := List.eq_nil_of_length_eq_zero hl
    subst this
    rcases List.eq_nil_or_concat ys with rfl | ⟨zs, c, rfl⟩
    · rfl
    · rw [List.concat_eq_append] at h hy
      rw [bnum_snoc] at h
      have h1 := bnum_pos (fun b hb => hy b (List.mem_append_left _ hb) : Bts zs)
      have h2 := hy c (List.mem_append_right _ (List.mem_singleton.mpr rfl))
      have h3 : bnum [] = 1 := rfl
      omega
  | n + 1, xs, ys, hl, hx, hy, h => by
    rcases List.eq_nil_or_concat xs with rfl | ⟨us, a, rfl⟩
    · cases hl
    rw [List.concat_eq_append] at h hx hl ⊢
    rw [bnum_snoc] at h
    have ha := hx a (List.mem_append_right _ (List.mem_singleton.mpr rfl))
    have h1 := bnum_pos (fun b hb => hx b (List.mem_append_left _ hb) : Bts us)
    rcases List.eq_nil_or_concat ys with rfl | ⟨zs, c, rfl⟩
    · have h3 : bnum [] = 1 := rfl
      omega
    · rw [List.concat_eq_append] at h hy ⊢
      rw [bnum_snoc] at h
      have hc := hy c (List.mem_append_right _ (List.mem_singleton.mpr rfl))
      have e1 : a = c := by omega
      have e2 : bnum us = bnum zs := by omega
      rw [bnum_inj n us zs (by simp at hl; exact hl) (fun b hb => hx b (List.mem_append_left _ hb)) (fun b hb => hy b (List.mem_append_left _ hb)) e2, e1]
structure NP (N : List D) (m : Nat) (P : Int → Prop) : Prop where
  len : N.length ≤ m
  ok : ∀ z, z ∈ N → ∃ c, z = .tup (iL c) ∧ Bts c
  mem : ∀ b, P b ↔ ∃ c, .tup (iL c) ∈ N ∧ bnum c = b
theorem NP.iff {N : List D} {m m' : Nat} {P P' : Int → Prop} (h : NP N m P) (l : m ≤ m') (e : ∀ b, P b ↔ P' b) : NP N m' P' := ⟨Nat.le_trans h.len l, h.ok, fun b => (e b).symm.trans (h.mem b)⟩
theorem chunk_mem {xs : List Int} {c : List Int} (h : c ∈ chunks xs) (hx : Bts xs) : Bts c := by
  obtain ⟨k, _, rfl⟩ := List.mem_map.mp h
  exact (hx.drop _).take _
theorem pieces_take {xs : List Int} {i : Nat} : (pieces xs).take i = ((chunks xs).take i).map fun c => .tup (iL c) := by unfold pieces; rw [List.map_take]
theorem tup_inj {a b : List Int} (h : D.tup (iL a) = D.tup (iL b)) : a = b := by injection h with h; exact ints_inj.mp h
theorem NP.add {N : List D} {m : Nat} {P : Int → Prop} (h : NP N m P) {xs : List Int} (hx : GC xs) (i : Nat) : NP (N ++ (pieces xs).take i) (m + 4) (fun b => P b ∨ b ∈ (blocks xs).take i) := by
  refine ⟨?_, fun z hz => ?_, fun b => ?_⟩
  · have := h.len
    have e : (pieces xs).length = nbl xs := by unfold pieces; rw [List.length_map, chunks_len]
    have := hx.nbl
    rw [List.length_append, List.length_take]
    omega
  · rcases List.mem_append.mp hz with hz | hz
    · exact h.ok z hz
    · rw [pieces_take] at hz
      obtain ⟨c, hc, rfl⟩ := List.mem_map.mp hz
      exact ⟨c, rfl, chunk_mem (List.mem_of_mem_take hc) hx.1⟩
  · rw [h.mem b]
    unfold blocks
    rw [← List.map_take, pieces_take]
    constructor
    · rintro (⟨c, h1, h2⟩ | h1)
      · exact ⟨c, List.mem_append_left _ h1, h2⟩
      · obtain ⟨c, hc, rfl⟩ := List.mem_map.mp h1
        exact ⟨c, List.mem_append_right _ (List.mem_map.mpr ⟨c, hc, rfl⟩), rfl⟩
    · rintro ⟨c, h1, h2⟩
      rcases List.mem_append.mp h1 with h1 | h1
      · exact .inl ⟨c, h1, h2⟩
      · obtain ⟨c', hc', e⟩ := List.mem_map.mp h1
        rw [tup_inj e] at hc'
        exact .inr (List.mem_map.mpr ⟨c, hc', h2⟩)
theorem NP.has {N : List D} {m : Nat} {P : Int → Prop} (h : NP N m P) {c : List Int} (hc : Bts c) : D.tup (iL c) ∈ N ↔ P (bnum c) := by
  rw [h.mem]
  constructor
  · intro z; exact ⟨c, z, rfl⟩
  · rintro ⟨c', h1, h2⟩
    obtain ⟨c2, e, b2⟩ := h.ok _ h1
    have := tup_inj e
    subst this
    rw [← bnum_inj _ c' c rfl b2 hc h2]
    exact h1
theorem NP.nb {N : List D} {m : Nat} {P : Int → Prop} (h : NP N m P) : N.all (nbD 1) = true := List.all_eq_true.mpr fun z hz => by
  obtain ⟨c, rfl, _⟩ := h.ok z hz
  exact nb_tup (n := 0) (nb_ints c)
theorem NP.dat {N : List D} {m : Nat} {P : Int → Prop} (h : NP N m P) : datD (.lst N) := datD_of (n := 2) (nb_sh 2 _ (nb_lst h.nb)) (by decide)
theorem NP.any {N : List D} {m : Nat} {P : Int → Prop} (h : NP N m P) {c : List Int} : (N.any fun z => eqvD z (.tup (iL c))) = true ↔ D.tup (iL c) ∈ N := by
  rw [List.any_eq_true]
  constructor
  · rintro ⟨z, hz, e⟩
    rw [(eqvD_iff (n := 1) (List.all_eq_true.mp h.nb z hz) (nb_tup (n := 0) (nb_ints c))).mp e] at hz
    exact hz
  · intro hz
    exact ⟨_, hz, (eqvD_iff (n := 1) (nb_tup (n := 0) (nb_ints c)) (nb_tup (n := 0) (nb_ints c))).mpr rfl⟩
theorem pieces_len {xs : List Int} : (pieces xs).length = nbl xs := by unfold pieces; rw [List.length_map, chunks_len]
theorem pieces_get {xs : List Int} {k : Nat} (h : k < nbl xs) : (pieces xs)[k]? = some (.tup (iL (ck xs k))) := by
  unfold pieces chunks
  rw [List.getElem?_map, List.getElem?_map, List.getElem?_range h]
  rfl
theorem rd_missing7 {s : Addr} {S : Sto} {n : Str} {xs : List Int} {N : List D} {f m : Nat} {o4 o5 o6 o8 o9 : Option D} {M : Mem} {Q : KD} {E : ED} (hx : GC xs) (hN : NP N m (Near S xs f)) (hf : Kept (valD S.temps (.inr n)) xs f)
    (h : ∀ ms : List Int, ms.length ≤ 4 → (∀ b, b ∈ ms ↔ Need S n xs b) → Q (.lst (iL ms)) M) :
    td_u_law_missing_7 { nx := fun _ M' => FQ Q .non M', rt := FQ Q, ex := fun c p _ M' => E c p M' } [some (.ref s), some (.str n), some (.lst (iL xs)), some (.lst N), o4, o5, o6, some (.int f), o8, o9, none] M := by
  have c0 : cutD (pieces xs) (some (f : Int)) none = (pieces xs).drop f := cutD_hi
  have dl : ((pieces xs).drop f).length ≤ 4 := by have := hx.nbl; rw [List.length_drop, pieces_len]; omega
  refine ⟨_, rfl, _, rfl, xs, rfl, by have := hx.2; omega, _, rfl, _, rfl, _, rfl, (pieces xs).drop f, congrArg some c0, by rw [szl]; omega, fun j acc M' => ∃ ms : List Int, acc = iL ms ∧ M = M' ∧ ms.length ≤ j ∧ ∀ b, b ∈ ms ↔ b ∈ ((blocks xs).drop f).take j ∧ ¬ Near S xs f b,
    ⟨[], rfl, rfl, Nat.le_refl _, fun b => by simp⟩, ?_, ?_, ?_⟩
  · rintro j acc M' _ _
    exact congrArg some c0
  · rintro j x acc M' hxj ⟨ms, rfl, rfl, hl, hm⟩
    have hjl := (List.getElem?_eq_some_iff.mp hxj).1
    rw [List.length_drop, pieces_len] at hjl
    rw [List.getElem?_drop, pieces_get (by omega)] at hxj
    cases hxj
    have hb : ((blocks xs).drop f)[j]? = some (bnum (ck xs (f + j))) := by rw [List.getElem?_drop, blocks_get (by omega)]
    have hc : Bts (ck xs (f + j)) := hx.ck _
    refine ⟨_, rfl, _, rfl, _, rfl, N, rfl, datD_of (n := 1) (nb_sh 1 _ (nb_tup (n := 0) (nb_ints _))) (by decide), hN.dat, _, rfl, iteD (fun hz => ?_) fun hz => ?_⟩
    · have hnot : ¬ Near S xs f (bnum (ck xs (f + j))) := fun z => by
        have := hN.any.mpr ((hN.has hc).mpr z)
        have hz' : (!N.any fun z => eqvD z (.tup (iL (ck xs (f + j))))) = true := hz
        rw [this] at hz'; cases hz'
      refine ⟨_, rfl, _, rfl, _, rfl, ms ++ [bnum (ck xs (f + j))], by rw [iL_app]; rfl, rfl, by simp; omega, fun c => ?_⟩
      rw [take_get hb, List.mem_append, List.mem_append, List.mem_singleton, hm c]
      constructor
      · rintro (⟨h1, h2⟩ | rfl)
        · exact ⟨.inl h1, h2⟩
        · exact ⟨.inr rfl, hnot⟩
      · rintro ⟨h1 | rfl, h2⟩
        · exact .inl ⟨h1, h2⟩
        · exact .inr rfl
    · have hin : Near S xs f (bnum (ck xs (f + j))) := (hN.has hc).mp (hN.any.mp (by
        have hz' : (!N.any fun z => eqvD z (.tup (iL (ck xs (f + j))))) = false := hz
        simpa using hz'))
      refine ⟨ms, rfl, rfl, by omega, fun c => ?_⟩
      rw [take_get hb, List.mem_append, List.mem_singleton, hm c]
      constructor
      · rintro ⟨h1, h2⟩; exact ⟨.inl h1, h2⟩
      · rintro ⟨h1 | rfl, h2⟩
        · exact ⟨h1, h2⟩
        · exact absurd hin h2
  · rintro acc M' ⟨ms, rfl, rfl, hl, hm⟩
    have e : ((pieces xs).drop f).length = ((blocks xs).drop f).length := by rw [List.length_drop, List.length_drop, pieces_len, blocks_len]
    refine .of (h ms (by omega) fun b => ?_)
    rw [hm b, e, List.take_length]
    exact ⟨fun ⟨h1, h2⟩ => ⟨f, hf, h1, h2⟩, fun ⟨i', hi', h1, h2⟩ => by obtain rfl := hf.uniq hi'; exact ⟨h1, h2⟩⟩
end K80
set_option Elab.async false
set_option linter.all false
set_option maxRecDepth 100000
set_option maxHeartbeats 4000000
/-! K80k: the law's own look at what is missing, whole. -/
namespace K80
open PySem PySem.Spec PyProof.Rows L2 Dn

theorem NP.all {N : List D} {m : Nat} {P : Int → Prop} (h : NP N m P) {xs : List Int} (hx : GC xs) : NP (N ++ pieces xs) (m + 4) (fun b => P b ∨ b ∈ blocks xs) := by
  have := h.add hx (nbl xs)
  rw [List.take_of_length_le (by rw [pieces_len]; exact Nat.le_refl _), List.take_of_length_le (by rw [blocks_len]; exact Nat.le_refl _)] at this
  exact this
theorem nb_c {n : Nat} {xs : List Int} : nbD (n + 1) (.tup (iL xs)) = true := nb_tup (nb_ints xs)
theorem rd_missing6 {s : Addr} {S : Sto} {n : Str} {xs : List Int} {N : List D} {m : Nat} {o4 o5 : Option D} {tmp : D} {M : Mem} {Q : KD} {E : ED} (hx : GC xs) (hm : m ≤ 100) (hN : NP N m (Far S))
    (ht : (valD S.temps (.inr n) = none ∧ tmp = .non) ∨ ∃ ts, valD S.temps (.inr n) = some (.lst (iL ts)) ∧ tmp = .lst (iL ts))
    (h : ∀ ms : List Int, ms.length ≤ 4 → (∀ b, b ∈ ms ↔ Need S n xs b) → Q (.lst (iL ms)) M) :
    td_u_law_missing_6 { nx := fun _ M' => FQ Q .non M', rt := FQ Q, ex := fun c p _ M' => E c p M' } [some (.ref s), some (.str n), some (.lst (iL xs)), some (.lst N), o4, o5, some tmp, some (.int 0), none, none, none] M := by
  rcases ht with ⟨hv, rfl⟩ | ⟨ts, hv, rfl⟩
  · refine ⟨_, rfl, _, rfl, iteD (fun z => by cases z) fun _ => ?_⟩
    exact rd_missing7 (f := 0) hx (hN.iff (Nat.le_refl _) fun b => ⟨.inr, fun z => z.elim (fun z => by simp at z) id⟩) (.inl ⟨hv, rfl⟩) h
  · refine ⟨_, rfl, _, rfl, iteD (fun _ => ?_) fun z => by cases z⟩
    have hn4 := hx.nbl
    refine ⟨_, rfl, _, rfl, xs, rfl, by have := hx.2; omega, _, rfl, _, rfl, _, rfl, by omega, by rw [pieces_len]; omega,
      fun k sd' M' => ∃ (f : Nat) (o9 : Option D), sd' = [some (.ref s), some (.str n), some (.lst (iL xs)), some (.lst N), o4, o5, some (.lst (iL ts)), some (.int f), some (.lst (pieces xs)), o9, none] ∧ M = M' ∧ f ≤ k ∧ (∀ j, j < f → okAt xs ts j) ∧ (f < k → ¬ okAt xs ts f),
      ⟨0, none, rfl, rfl, Nat.le_refl _, fun j hj => absurd hj (Nat.not_lt_zero _), fun z => absurd z (Nat.lt_irrefl _)⟩, fun _ _ _ _ _ => trivial, ?_, ?_⟩
    · rintro k x sd' M' hxk ⟨f, o9, rfl, rfl, hf, hok, hno⟩
      obtain ⟨hk, rfl⟩ := rng_get hxk
      have hk' : k < nbl xs := by rw [pieces_len] at hk; omega
      have ek : (0 + (k : Int) * 1) = (k : Int) := by omega
      have hat : atI (pieces xs) (0 + (k : Int) * 1) = some (.tup (iL (ck xs k))) := by rw [ek]; exact Dn.atI_nat (pieces_get hk')
      have hcut : cutD (iL ts) (some (4 * (0 + (k : Int) * 1))) (some (4 * (0 + (k : Int) * 1) + ((iL (ck xs k)).length : Nat))) = iL ((ts.drop (4 * k)).take (ck xs k).length) := by
        have e1 : (4 * (0 + (k : Int) * 1)) = ((4 * k : Nat) : Int) := by omega
        rw [e1, iL_len, ← Int.natCast_add, cut_iL]
        congr 2
        omega
      have hiff : eqvD (.lst (iL ((ts.drop (4 * k)).take (ck xs k).length))) (.lst (iL (ck xs k))) = true ↔ okAt xs ts k := by
        rw [eqvD_iff (n := 1) nb_l nb_l]
        constructor
        · intro z; injection z with z; exact ints_inj.mp z
        · intro z; exact congrArg D.lst (ints_inj.mpr z)
      refine ⟨_, rfl, _, rfl, .inl (.inl ⟨by decide, by decide⟩), _, rfl, _, rfl, .inl (.inl ⟨by decide, by decide⟩), _, rfl, _, rfl, _, _, _, rfl, rfl, hat, _, rfl, _, rfl, _, rfl, _, rfl, _, _, _, rfl, rfl, hat, ?_⟩
      rw [hcut]
      refine ⟨dat_iL, dat_iL, _, rfl, iteD (fun hb => ?_) fun hb => iteD (fun z => by cases z) fun _ => ?_⟩
      · have hyes : okAt xs ts k := hiff.mp hb
        refine ⟨_, rfl, _, rfl, _, rfl, iteD (fun hy => ?_) fun hy => ?_⟩
        · have efk : f = k := by
            have := of_decide_eq_true hy
            omega
          subst efk
          refine ⟨_, rfl, f + 1, some (.int (0 + (f : Int) * 1)), ?_, rfl, Nat.le_refl _, fun j hj => ?_, fun z => absurd z (Nat.lt_irrefl _)⟩
          · show [some (D.ref s), some (.str n), some (.lst (iL xs)), some (.lst N), o4, o5, some (.lst (iL ts)), some (.int (0 + (f : Int) * 1 + 1)), some (.lst (pieces xs)), some (.int (0 + (f : Int) * 1)), none] = _
            rw [ek]
            rfl
          · by_cases hjf : j = f
            · subst hjf; exact hyes
            · exact hok j (by omega)
        · have efk : f ≠ k := by
            have := of_decide_eq_false hy
            intro z; subst z; exact this (by omega)
          exact ⟨f, _, rfl, rfl, by omega, hok, fun _ => hno (by omega)⟩
      · have hnot : ¬ okAt xs ts k := fun z => by
          have := hiff.mpr z
          have hb' : eqvD (.lst (iL ((ts.drop (4 * k)).take (ck xs k).length))) (.lst (iL (ck xs k))) = false := hb
          rw [this] at hb'; cases hb'
        refine ⟨f, _, rfl, rfl, by omega, hok, fun _ => ?_⟩
        by_cases efk : f = k
        · subst efk; exact hnot
        · exact hno (by omega)
    · rintro sd' M' ⟨f, o9, rfl, rfl, hf, hok, hno⟩
      have er : (rng 0 1 ((pieces xs).length : Int).toNat).length = nbl xs := by rw [rng_length, pieces_len]; omega
      rw [er] at hf hno
      refine ⟨_, rfl, _, rfl, _, rfl, _, rfl, _, rfl, _, _, rfl, rfl, ?_, ?_⟩
      · have := hN.len
        rw [cutD_lo, List.length_take, pieces_len, szl]
        omega
      · rw [cutD_lo]
        exact rd_missing7 (f := f) hx ((hN.add hx f).iff (Nat.le_refl _) fun b => or_comm) (.inr ⟨ts, hv, hf, hok, hno⟩) h
theorem rd_u_law_missing : Rds N_u_law_missing sp_u_law_missing td_u_law_missing := by
  rintro ds M Q E ⟨_, _, _, rfl, s, S, n, xs, rfl, hS, hG, rfl, rfl, hx, h⟩
  have lf : (kS S.files).length ≤ 4 := Nat.le_trans kS_len hG.f.1
  refine ⟨(show 0 ≤ sizeLine by decide), ?_⟩
  refine ⟨_, rfl, _, insO_of hS.ms, rfl, _, rfl, s, S, kS S.files, rfl, hS, hG.f.keys, by omega, _, rfl,
    fun j sd' M' => ∃ (o4 : Option D) (N : List D), sd' = [some (.ref s), some (.str n), some (.lst (iL xs)), some (.lst N), o4, none, none, none, none, none, none] ∧ M = M' ∧ NP N (4 * j) (fun b => ∃ m, m ∈ (ssort (kS S.files)).take j ∧ ∃ c t, valD S.files (.inr m) = some (.tup [.lst (iL c), .int t]) ∧ b ∈ blocks c),
    ⟨none, [], rfl, rfl, Nat.le_refl _, fun z hz => by simp at hz, fun b => ⟨fun ⟨m, hm, _⟩ => by simp at hm, fun ⟨c, hc, _⟩ => by simp at hc⟩⟩, fun _ _ _ _ _ => rfl, ?_, ?_⟩
  · rintro j x sd' M' hxj ⟨o4, N, rfl, rfl, hN⟩
    obtain ⟨m, hm, rfl⟩ := strs_get hxj
    obtain ⟨c, t, hv, gc, _⟩ := fileAt hG.f (mem_ssort.mp (List.mem_of_getElem? hm))
    have hjl := (List.getElem?_eq_some_iff.mp hm).1
    rw [ssort_len] at hjl
    refine ⟨_, rfl, _, rfl, _, insO_of hS.ms, rfl, _, rfl, _, _, rfl, s, S, m, c, t, rfl, hS, rfl, hv, _, _, rfl, rfl, _, rfl, c, rfl, by have := gc.2; omega, _, _, rfl, rfl, ?_, some (.str m), N ++ pieces c, rfl, rfl, (hN.all gc).iff (by omega) fun b => ?_⟩
    · have := hN.len; have := gc.nbl
      rw [pieces_len, szl]; omega
    · rw [take_get hm]
      constructor
      · rintro (⟨m', h1, h2⟩ | h1)
        · exact ⟨m', List.mem_append_left _ h1, h2⟩
        · exact ⟨m, List.mem_append_right _ (List.mem_singleton.mpr rfl), c, t, hv, h1⟩
      · rintro ⟨m', h1, c', t', hv', h2⟩
        rcases List.mem_append.mp h1 with h1 | h1
        · exact .inl ⟨m', h1, c', t', hv', h2⟩
        · rw [List.mem_singleton.mp h1, hv] at hv'
          have ec : iL c = iL c' := by injection hv' with z; injection z with z; injection z with z _; injection z
          rw [← ints_inj.mp ec] at h2
          exact .inr h2
  · rintro sd' M' ⟨o4, N, rfl, rfl, hN⟩
    rw [List.length_map, List.take_length] at hN
    have lo := hG.o.1
    refine ⟨_, rfl, _, insO_of hS.ms, rfl, _, rfl, s, S, rfl, hS, hG.o, S.old, rfl,
      fun j sd' M' => ∃ (o5 : Option D) (N : List D), sd' = [some (.ref s), some (.str n), some (.lst (iL xs)), some (.lst N), o4, o5, none, none, none, none, none] ∧ M = M' ∧ NP N (16 + 4 * j) (fun b => (∃ n c t, valD S.files (.inr n) = some (.tup [.lst (iL c), .int t]) ∧ b ∈ blocks c) ∨ ∃ n v c, .tup [.str n, v, .lst (iL c)] ∈ S.old.take j ∧ b ∈ blocks c),
      ⟨none, N, rfl, rfl, hN.iff (by rw [ssort_len]; omega) fun b => ⟨fun ⟨m, _, c, t, h1, h2⟩ => .inl ⟨m, c, t, h1, h2⟩, fun z => z.elim (fun ⟨m, c, t, h1, h2⟩ => ⟨m, mem_ssort.mpr (mem_kS (valD_mem h1)), c, t, h1, h2⟩) fun ⟨_, _, _, h1, _⟩ => by simp at h1⟩⟩, fun _ _ _ _ _ => rfl, ?_, ?_⟩
    · rintro j x sd' M' hxj ⟨o5, N, rfl, rfl, hN⟩
      obtain ⟨m, v, c, rfl, gc, _⟩ := hG.o.2 x (List.mem_of_getElem? hxj)
      have hjl := (List.getElem?_eq_some_iff.mp hxj).1
      refine ⟨_, rfl, _, rfl, _, _, rfl, rfl, _, rfl, c, rfl, by have := gc.2; omega, _, _, rfl, rfl, ?_, some (.tup [.str m, v, .lst (iL c)]), N ++ pieces c, rfl, rfl, (hN.all gc).iff (by omega) fun b => ?_⟩
      · have := hN.len; have := gc.nbl
        rw [pieces_len, szl]; omega
      · rw [take_get hxj]
        constructor
        · rintro ((h1 | ⟨m', v', c', h1, h2⟩) | h1)
          · exact .inl h1
          · exact .inr ⟨m', v', c', List.mem_append_left _ h1, h2⟩
          · exact .inr ⟨m, v, c, List.mem_append_right _ (List.mem_singleton.mpr rfl), h1⟩
        · rintro (h1 | ⟨m', v', c', h1, h2⟩)
          · exact .inl (.inl h1)
          · rcases List.mem_append.mp h1 with h1 | h1
            · exact .inl (.inr ⟨m', v', c', h1, h2⟩)
            · have e := List.mem_singleton.mp h1
              have ec : iL c' = iL c := by injection e with z; injection z with z1 z; injection z with z2 z; injection z with z3 z; injection z3
              rw [ints_inj.mp ec] at h2
              exact .inr h2
    · rintro sd' M' ⟨o5, N, rfl, rfl, hN⟩
      rw [List.take_length] at hN
      refine ⟨_, rfl, _, insO_of hS.ms, rfl, _, rfl, _, _, rfl, s, S, n, rfl, hS, rfl, ?_⟩
      cases hv : valD S.temps (.inr n) with
      | none => exact .inl ⟨rfl, rd_missing6 hx (by omega) hN (.inl ⟨hv, rfl⟩) h⟩
      | some d =>
        obtain ⟨m, ts, e2, _⟩ := hG.t.2 _ (valD_mem hv)
        cases e2
        exact .inr ⟨ts, rfl, rd_missing6 hx (by omega) hN (.inr ⟨ts, hv, rfl⟩) h⟩
end K80
set_option Elab.async false
set_option linter.all false
set_option maxRecDepth 100000
set_option maxHeartbeats 4000000
/-! K80l: the law. -/
namespace K80
open PySem PySem.Spec PyProof.Rows L2 Dn

structure Wd (M : Mem) (dr s : Addr) (S : Sto) : Prop where
  st : StoreAt M s S
  dw : DrawAt M dr
  no : dr ≠ S.o
theorem DrawAt.same {M M' : Mem} {a : Addr} (h : DrawAt M a) (e : M' a = M a) : DrawAt M' a := by
  obtain ⟨xs, i, b, sd, hm, r⟩ := h
  exact ⟨xs, i, b, sd, e.trans hm, r⟩
theorem Wd.ne {M : Mem} {dr s : Addr} {S : Sto} (h : Wd M dr s S) : dr ≠ s ∧ dr ≠ S.f ∧ dr ≠ S.t := by
  obtain ⟨xs, i, b, sd, hm, r⟩ := h.dw
  exact ⟨fun z => (by rw [z, h.st.ms] at hm; cases hm), fun z => (by rw [z, h.st.mf] at hm; cases hm), fun z => (by rw [z, h.st.mt] at hm; cases hm)⟩
theorem Wd.draw {M M' : Mem} {dr s : Addr} {S : Sto} (h : Wd M dr s S) (f : Fr M M' [dr]) (d : DrawAt M' dr) : Wd M' dr s S := by
  obtain ⟨n1, n2, n3⟩ := h.ne
  have k : ∀ a, a ≠ dr → M' a = M a := fun a ha => f a (by simpa using ha)
  exact ⟨⟨(k _ (Ne.symm n1)).trans h.st.ms, (k _ (Ne.symm n2)).trans h.st.mf, (k _ (Ne.symm n3)).trans h.st.mt, (k _ (Ne.symm h.no)).trans h.st.mo, h.st.ft⟩, d, h.no⟩
theorem Wd.store {M M' : Mem} {dr s : Addr} {S S' : Sto} (h : Wd M dr s S) (f : Fr M M' [s, S.f, S.t, S.o]) (st : StoreAt M' s S') (e : S'.o = S.o) : Wd M' dr s S' := by
  obtain ⟨n1, n2, n3⟩ := h.ne
  refine ⟨st, h.dw.same (f _ ?_), by rw [e]; exact h.no⟩
  have := h.no
  simp [n1, n2, n3, this]
theorem Wd.new {M : Mem} {dr s p : Addr} {S : Sto} {o : MO} (h : Wd M dr s S) (hp : M p = none) : Wd (upm M p o) dr s S := by
  refine ⟨h.st.fresh hp, h.dw.same (upm_ne fun z => ?_), h.no⟩
  obtain ⟨xs, i, b, sd, hm, r⟩ := h.dw
  rw [z, hp] at hm; cases hm
theorem GF.put {i : Nat} {kvs : List (Key × D)} (h : GF i kvs) {n : Str} {c : List Int} {t : Int} (hc : GC c) (hn : PyData.strOk n = true) : GF (i + 1) (putKD kvs (.inr n) (.tup [.lst (iL c), .int t])) := by
  refine ⟨?_, fun kv hkv => ?_⟩
  · have := h.1; have := @len_put kvs (.inr n) (.tup [.lst (iL c), .int t]); omega
  · rcases mem_put hkv with z | rfl
    · exact h.2 kv z
    · exact ⟨n, c, t, rfl, hc, hn⟩
theorem GF.mono {i j : Nat} {kvs : List (Key × D)} (h : GF i kvs) (l : i ≤ j) : GF j kvs := ⟨Nat.le_trans h.1 l, h.2⟩
theorem GT.mono {i j : Nat} {kvs : List (Key × D)} (h : GT i kvs) (l : i ≤ j) : GT j kvs := ⟨Nat.le_trans h.1 l, fun kv hkv => by obtain ⟨n, c, e, l', o⟩ := h.2 kv hkv; exact ⟨n, c, e, by omega, o⟩⟩
theorem GO.mono {i j : Nat} {rs : List D} (h : GO i rs) (l : i ≤ j) : GO j rs := ⟨Nat.le_trans h.1 l, h.2⟩
def LN : List D := [.str "a", .str "b", .str "c", .str "d"]
theorem name_at {r : Nat} (h : r < 4) : ∃ n, atI LN (r : Int) = some (.str n) ∧ PyData.strOk n = true := by
  rcases (by omega : r = 0 ∨ r = 1 ∨ r = 2 ∨ r = 3) with rfl | rfl | rfl | rfl
  · exact ⟨_, rfl, by decide +kernel⟩
  · exact ⟨_, rfl, by decide +kernel⟩
  · exact ⟨_, rfl, by decide +kernel⟩
  · exact ⟨_, rfl, by decide +kernel⟩
theorem sh_str {n : Nat} {x : Str} (h : PyData.strOk x = true) : shD n (.str x) = true := by cases n <;> exact h
theorem sh_int {n : Nat} {x : Int} : shD n (.int x) = true := by cases n <;> rfl
theorem sh_ints {n : Nat} {xs : List Int} : (iL xs).all (shD n) = true := List.all_eq_true.mpr fun z hz => nb_sh n z (List.all_eq_true.mp (nb_ints xs) z hz)
theorem sh_up : ∀ {n : Nat} {d : D}, shD n d = true → shD (n + 1) d = true
  | 0, d, h => by cases d <;> first | rfl | exact h | cases h
  | n + 1, d, h => by
    cases d with
    | tup xs => exact List.all_eq_true.mpr fun x hx => sh_up (List.all_eq_true.mp (show xs.all (shD n) = true from h) x hx)
    | lst xs => exact List.all_eq_true.mpr fun x hx => sh_up (List.all_eq_true.mp (show xs.all (shD n) = true from h) x hx)
    | _ => first | rfl | exact h | cases h
theorem dur_sh {S : Sto} (h : Good S) : shD 6 (dur S) = true := by
  have a1 : ((ssort (kS S.files)).map (rowF S.files)).all (shD 4) = true := List.all_eq_true.mpr fun z hz => by
    obtain ⟨n, hn, rfl⟩ := List.mem_map.mp hz
    obtain ⟨c, t, hv, gc, ho⟩ := fileAt h.f (mem_ssort.mp hn)
    unfold rowF
    rw [hv]
    show ([D.str n, .tup (iL c), .int t].all (shD 3)) = true
    have e2 : shD 3 (.tup (iL c)) = true := sh_ints
    simp [sh_str ho, sh_int, e2]
  have a2 : ((ssort (kS S.temps)).map (rowT S.temps)).all (shD 4) = true := List.all_eq_true.mpr fun z hz => by
    obtain ⟨n, hn, rfl⟩ := List.mem_map.mp hz
    obtain ⟨c, hv, gc, ho⟩ := tempAt h.t (mem_ssort.mp hn)
    unfold rowT
    rw [hv]
    show ([D.str n, .tup (iL c)].all (shD 3)) = true
    have e2 : shD 3 (.tup (iL c)) = true := sh_ints
    simp [sh_str ho, e2]
  have a3 : (S.old.map rowO).all (shD 4) = true := List.all_eq_true.mpr fun z hz => by
    obtain ⟨r, hr, rfl⟩ := List.mem_map.mp hz
    obtain ⟨n, v, c, rfl, gc, ho, hv⟩ := h.o.2 r hr
    show ([D.str n, v, .tup (iL c)].all (shD 3)) = true
    have e2 : shD 3 (.tup (iL c)) = true := sh_ints
    simp [sh_str ho, hv, e2]
  show ([D.tup ((ssort (kS S.files)).map (rowF S.files)), .tup ((ssort (kS S.temps)).map (rowT S.temps)), .tup (S.old.map rowO), .tup [], .tup []].all (shD 5)) = true
  have e1 : shD 5 (.tup ((ssort (kS S.files)).map (rowF S.files))) = true := a1
  have e2 : shD 5 (.tup ((ssort (kS S.temps)).map (rowT S.temps))) = true := a2
  have e3 : shD 5 (.tup (S.old.map rowO)) = true := a3
  have e4 : shD 5 (.tup []) = true := rfl
  simp [e1, e2, e3, e4]
theorem law_sp : spLaw sp_law := fun ns _ M0 h0 => ⟨_, rfl, ns, rfl, h0, fun _ => rfl⟩
theorem pairK_ok : ∀ due : List Int, pairK (due.map fun b => .tup [.int b, .bl true]) = some (due.map fun b => (.inl b, .bl true))
  | [] => rfl
  | b :: due => by
    rw [List.map_cons, List.map_cons]
    unfold pairK
    rw [pairK_ok due]
    rfl
theorem merge_keys : ∀ (due : List Int) (kvs : List (Key × D)) (ns : List Int) (m : Nat) (P : Int → Prop), Keys kvs ns m P → ∃ ns', Keys (mergeKD kvs (due.map fun b => (.inl b, .bl true))) ns' (m + due.length) (fun b => P b ∨ b ∈ due)
  | [], kvs, ns, m, P, h => ⟨ns, h.iff (Nat.le_refl _) fun b => ⟨.inl, fun z => z.elim id fun z => by simp at z⟩⟩
  | b :: due, kvs, ns, m, P, h => by
    obtain ⟨ns1, h1⟩ := h.put b (.bl true)
    obtain ⟨ns2, h2⟩ := merge_keys due _ ns1 (m + 1) _ h1
    refine ⟨ns2, h2.iff (by simp; omega) fun c => ?_⟩
    rw [List.mem_cons]
    exact ⟨fun z => z.elim (fun z => z.elim .inl fun z => .inr (.inl z)) fun z => .inr (.inr z), fun z => z.elim (fun z => .inl (.inl z)) fun z => z.elim (fun z => .inl (.inr z)) .inr⟩
abbrev EE (Q : KD) (E : ED) : EndsD := { nx := fun _ M' => FQ Q .non M', rt := FQ Q, ex := fun c p _ M' => E c p M' }
theorem rd_law12 {ns : List Int} {dr s en : Addr} {S : Sto} {o4 o8 o9 : Option D} {due ks : List Int} {M : Mem} {Q : KD} {E : ED} (hW : Wd M dr s S) (hG : Good S) (hd : due.length ≤ 12) (nd : ks.Nodup) (hk : ∀ b, b ∈ ks ↔ b ∈ due) (h : ∀ M', Q (.bl true) M') :
    td_law_12 (EE Q E) [some (.scr ns), some (.ref dr), some (.ref s), some (.lst LN), o4, some (dur S), some (.lst (iL due)), some (.ref en), o8, o9, some (.lst (iL (isort ks))), none] M := by
  refine ⟨_, rfl, _, rfl, iL due, rfl, by rw [iL_len, szl]; omega, fun i acc M' => acc = (due.take i).map (fun b => .tup [.int b, .bl true]) ∧ M = M', ⟨rfl, rfl⟩, fun _ _ _ _ _ => rfl, ?_, ?_⟩
  · rintro i x acc M' hx ⟨rfl, rfl⟩
    obtain ⟨b, hb, rfl⟩ := iL_get hx
    refine ⟨_, rfl, yes ⟨_, rfl, (show 2 ≤ sizeLine by decide), ?_, rfl⟩⟩
    rw [take_get hb, List.map_append]
    rfl
  · rintro acc M' ⟨rfl, rfl⟩
    rw [iL_len, List.take_length]
    refine ⟨_, _, _, rfl, rfl, pairK_ok due, fun p hp => ?_⟩
    obtain ⟨ns', hK⟩ := merge_keys due [] [] 0 (fun _ => False) ⟨rfl, List.nodup_nil, Nat.le_refl _, fun b => by simp⟩
    have hW2 := hW.new (o := .dic (mergeKD [] (due.map fun b => (.inl b, .bl true)))) hp
    have lk := hK.len
    refine ⟨_, rfl, .inr (.inr (.inl ⟨_, ns', dicO_of upm_same, hK.ks, by omega, ?_⟩))⟩
    have e : isort ks = isort ns' := isort_of_perm (perm_of_nodup nd hK.nd fun b => by rw [hk b, hK.mem b]; exact ⟨.inr, fun z => z.elim (fun z => z.elim) id⟩)
    refine ⟨dat_iL, dat_iL, _, rfl, iteD (fun _ => ?_) fun z => ?_⟩
    · refine ⟨_, rfl, _, insO_of hW2.st.ms, rfl, _, rfl, s, S, rfl, hW2.st, hG, _, rfl, datD_of (dur_sh hG) (by decide), datD_of (dur_sh hG) (by decide), _, rfl, iteD (fun _ => ?_) fun z => ?_⟩
      · refine ⟨_, rfl, (show 0 ≤ sizeLine by decide), _, _, rfl, s, S, [], rfl, hW2.st, hG, rfl, Nat.zero_le _, fun e he => by simp at he, fun ks' nd' mem' => ?_⟩
        have e0 : ks' = [] := List.eq_nil_iff_forall_not_mem.mpr fun b hb => by
          obtain ⟨e, he, _⟩ := (mem' b).mp hb
          simp at he
        subst e0
        have e1 : isort [] = [] := (isort_perm []).eq_nil
        have e2 : eqvD (.lst (iL [])) (.lst []) = true := (eqvD_iff (n := 1) (nb_l (n := 0) (xs := [])) (nb_l (n := 0) (xs := []))).mpr rfl
        rw [e1]
        refine ⟨(show 0 ≤ sizeLine by decide), dat_iL (ms := []), dat_iL (ms := []), .of ?_⟩
        show Q (.bl (eqvD (.lst (iL [])) (.lst []))) _
        rw [e2]
        exact h _
      · have z' : eqvD (dur S) (dur S) = false := z
        rw [eqvD_refl (dur_sh hG)] at z'; cases z'
    · have z' : eqvD (.lst (iL (isort ks))) (.lst (iL (isort ns'))) = false := z
      rw [e, (eqvD_iff (n := 1) nb_l nb_l).mpr rfl] at z'
      cases z'
theorem LN_len : True := trivial
theorem rd_law10 {ns : List Int} {dr s en : Addr} {S : Sto} {o4 : Option D} {M : Mem} {Q : KD} {E : ED} (hW : Wd M dr s S) (hG : Good S) (hen : M en = some (.lst [])) (n1 : en ≠ dr) (n2 : en ≠ S.o) (h : ∀ M', Q (.bl true) M') :
    td_law_10 (EE Q E) [some (.scr ns), some (.ref dr), some (.ref s), some (.lst LN), o4, some (dur S), some (.lst []), some (.ref en), none, none, none, none] M := by
  refine ⟨_, rfl, _, _, rfl, dr, 3, rfl, rfl, by decide, by decide, hW.dw, fun M1 r fr hd hr => ?_⟩
  have hW1 := hW.draw fr hd
  have hen1 : M1 en = some (.lst []) := (fr en (by simpa using n1)).trans hen
  refine ⟨_, rfl, by omega, by omega, fun j sd' M' => ∃ (o4 o8 o9 : Option D) (es : List Ent) (due : List Int), sd' = [some (.scr ns), some (.ref dr), some (.ref s), some (.lst LN), o4, some (dur S), some (.lst (iL due)), some (.ref en), o8, o9, none, none] ∧ Wd M' dr s S ∧ M' en = some (.lst (es.map Ent.d')) ∧ es.length = j ∧ (∀ e : Ent, e ∈ es → GC e.xs) ∧ due.length ≤ 4 * j ∧ ∀ b, b ∈ due ↔ ∃ e : Ent, e ∈ es ∧ Need S e.n e.xs b,
    ⟨o4, none, none, [], [], rfl, hW1, hen1, rfl, fun e he => by simp at he, Nat.le_refl _, fun b => by simp⟩, fun _ _ _ _ _ => trivial, ?_, ?_⟩
  · rintro j x sd' M' hx ⟨o4, o8, o9, es, due, rfl, hW, hen, hl, hgc, hdl, hdm⟩
    obtain ⟨hj, rfl⟩ := rng_get hx
    have hj3 : j < 3 := by omega
    refine ⟨_, rfl, _, rfl, dr, rfl, hW.dw, fun M2 xs fr2 hd2 gc => ?_⟩
    have hW2 := hW.draw fr2 hd2
    have hen2 : M2 en = some (.lst (es.map Ent.d')) := (fr2 en (by simpa using n1)).trans hen
    refine ⟨_, rfl, _, rfl, _, _, rfl, dr, 4, rfl, rfl, by decide, by decide, hW2.dw, fun M3 r3 fr3 hd3 hr3 => ?_⟩
    have hW3 := hW2.draw fr3 hd3
    have hen3 : M3 en = some (.lst (es.map Ent.d')) := (fr3 en (by simpa using n1)).trans hen2
    obtain ⟨n, hn, _⟩ := name_at (r := r3) (by omega)
    refine ⟨_, _, _, rfl, rfl, hn, ?_⟩
    refine ⟨_, rfl, tyL hen3, _, rfl, _, rfl, (show 2 ≤ sizeLine by decide), (show 1 ≤ sizeLine by decide), _, rfl, (show 2 ≤ sizeLine by decide), _, rfl, _, rfl, xs, rfl, by have := gc.2; omega, fun y hy => ⟨y, _, _, _, _, _, _, _, rfl, upm_same, rfl, _, upm_same, ?_⟩⟩
    rw [upm_upm, dlm_upm hy]
    refine ⟨en, _, _, rfl, rfl, hen3, by rw [List.length_map, szl]; omega, ?_⟩
    have hS4 : StoreAt (upm M3 en (.lst (es.map Ent.d' ++ [Ent.d' ⟨n, .tup [.tup [.int 2, .int (0 + (j : Int) * 1 + 1)]], .int 1, .tup [.int 2, .int (0 + (j : Int) * 1 + 1)], .bl false, .int 5, xs⟩]))) s S := by
      have m1 : s ≠ en := fun z => by rw [← z, hW3.st.ms] at hen3; cases hen3
      have m2 : S.f ≠ en := fun z => by rw [← z, hW3.st.mf] at hen3; cases hen3
      have m3 : S.t ≠ en := fun z => by rw [← z, hW3.st.mt] at hen3; cases hen3
      exact ⟨(upm_ne m1).trans hW3.st.ms, (upm_ne m2).trans hW3.st.mf, (upm_ne m3).trans hW3.st.mt, (upm_ne (Ne.symm n2)).trans hW3.st.mo, hW3.st.ft⟩
    refine ⟨_, rfl, _, rfl, _, rfl, _, rfl, _, _, _, rfl, s, S, n, xs, rfl, hS4, hG, rfl, rfl, gc, fun ms hl' hm => ⟨_, _, rfl, rfl, ?_, ?_⟩⟩
    · rw [iL_len, iL_len, szl]; omega
    · refine ⟨some (.int (0 + (j : Int) * 1)), some (.lst (iL xs)), some (.str n), es ++ [⟨n, .tup [.tup [.int 2, .int (0 + (j : Int) * 1 + 1)]], .int 1, .tup [.int 2, .int (0 + (j : Int) * 1 + 1)], .bl false, .int 5, xs⟩], due ++ ms, ?_, ⟨hS4, hW3.dw.same (upm_ne (Ne.symm n1)), hW3.no⟩, ?_, ?_, fun e he => ?_, ?_, fun b => ?_⟩
      · rw [iL_app]; rfl
      · rw [List.map_append]; exact upm_same
      · rw [List.length_append, hl]; rfl
      · rcases List.mem_append.mp he with he | he
        · exact hgc e he
        · rw [List.mem_singleton.mp he]; exact gc
      · rw [List.length_append]; omega
      · rw [List.mem_append, hdm b, hm b]
        constructor
        · rintro (⟨e, h1, h2⟩ | h1)
          · exact ⟨e, List.mem_append_left _ h1, h2⟩
          · exact ⟨_, List.mem_append_right _ (List.mem_singleton.mpr rfl), h1⟩
        · rintro ⟨e, h1, h2⟩
          rcases List.mem_append.mp h1 with h1 | h1
          · exact .inl ⟨e, h1, h2⟩
          · rw [List.mem_singleton.mp h1] at h2; exact .inr h2
  · rintro sd' M' ⟨o4, o8, o9, es, due, rfl, hW, hen, hl, hgc, hdl, hdm⟩
    rw [rng_length] at hl hdl
    refine ⟨_, rfl, _, rfl, _, _, rfl, s, S, es, rfl, hW.st, hG, lstO_of hen, by omega, hgc, fun ks nd mem => ?_⟩
    exact rd_law12 hW hG (by omega) nd (fun b => by rw [mem b, hdm b]) h
theorem rd_law4 {ns : List Int} {dr s : Addr} {S : Sto} {M : Mem} {Q : KD} {E : ED} (hW : Wd M dr s S) (e1 : S.files = []) (e2 : S.temps = []) (e3 : S.old = []) (h : ∀ M', Q (.bl true) M') :
    td_law_4 (EE Q E) [some (.scr ns), some (.ref dr), some (.ref s), some (.lst LN), none, none, none, none, none, none, none, none] M := by
  refine ⟨_, rfl, _, _, rfl, dr, 5, rfl, rfl, by decide, by decide, hW.dw, fun M1 r fr hd hr => ?_⟩
  refine ⟨_, rfl, by omega, by omega, fun j sd' M' => ∃ (o4 : Option D) (S : Sto), sd' = [some (.scr ns), some (.ref dr), some (.ref s), some (.lst LN), o4, none, none, none, none, none, none, none] ∧ Wd M' dr s S ∧ GF j S.files ∧ S.temps = [] ∧ S.old = [],
    ⟨none, S, rfl, hW.draw fr hd, by rw [e1]; exact ⟨Nat.le_refl _, fun kv hkv => by simp at hkv⟩, e2, e3⟩, fun _ _ _ _ _ => trivial, ?_, ?_⟩
  · rintro j x sd' M' hx ⟨o4, S, rfl, hW, gf, e2, e3⟩
    obtain ⟨hj, rfl⟩ := rng_get hx
    refine ⟨_, rfl, _, insO_of hW.st.ms, rfl, _, rfl, _, rfl, _, _, rfl, dr, 4, rfl, rfl, by decide, by decide, hW.dw, fun M2 r2 fr2 hd2 hr2 => ?_⟩
    have hW2 := hW.draw fr2 hd2
    obtain ⟨n, hn, no⟩ := name_at (r := r2) (by omega)
    refine ⟨_, _, _, rfl, rfl, hn, _, rfl, _, rfl, dr, rfl, hW2.dw, fun M3 xs fr3 hd3 gc => ?_⟩
    have hW3 := hW2.draw fr3 hd3
    refine ⟨_, _, _, _, rfl, s, S, n, xs, 7, rfl, hW3.st, rfl, rfl, rfl, by have := gf.1; omega, some (.int (0 + (j : Int) * 1)), _, rfl, hW3.store (fun a ha => ?_) (hW3.st.tick.setF _) rfl, gf.put gc no, e2, e3⟩
    have h1 : a ≠ s := fun z => ha (by simp [z])
    have h2 : a ≠ S.f := fun z => ha (by simp [z])
    show upm (upm M3 s _) S.f _ a = M3 a
    rw [upm_ne h2, upm_ne h1]
  rintro sd' M' ⟨o4, S, rfl, hW, gf, e2, e3⟩
  have gf4 : GF 4 S.files := gf.mono (by rw [rng_length]; omega)
  clear gf
  refine ⟨_, rfl, _, _, rfl, dr, 3, rfl, rfl, by decide, by decide, hW.dw, fun M1 r fr hd hr => ?_⟩
  refine ⟨_, rfl, by omega, by omega, fun j sd' M' => ∃ (o4 : Option D) (S : Sto), sd' = [some (.scr ns), some (.ref dr), some (.ref s), some (.lst LN), o4, none, none, none, none, none, none, none] ∧ Wd M' dr s S ∧ GF 4 S.files ∧ GT j S.temps ∧ S.old = [],
    ⟨o4, S, rfl, hW.draw fr hd, gf4, by rw [e2]; exact ⟨Nat.le_refl _, fun kv hkv => by simp at hkv⟩, e3⟩, fun _ _ _ _ _ => trivial, ?_, ?_⟩
  · rintro j x sd' M' hx ⟨o4, S, rfl, hW, gf, gt, e3⟩
    obtain ⟨hj, rfl⟩ := rng_get hx
    refine ⟨_, rfl, _, insO_of hW.st.ms, rfl, _, rfl, _, rfl, _, _, rfl, dr, 4, rfl, rfl, by decide, by decide, hW.dw, fun M2 r2 fr2 hd2 hr2 => ?_⟩
    have hW2 := hW.draw fr2 hd2
    obtain ⟨n, hn, no⟩ := name_at (r := r2) (by omega)
    refine ⟨_, _, _, rfl, rfl, hn, _, rfl, _, rfl, dr, rfl, hW2.dw, fun M3 xs fr3 hd3 gc => ?_⟩
    have hW3 := hW2.draw fr3 hd3
    refine ⟨_, _, _, rfl, s, S, n, xs, j, rfl, hW3.st, rfl, no, rfl, gc.2, gt, by omega, fun M4 tm wr fr4 st4 gt4 => ?_⟩
    exact ⟨some (.int (0 + (j : Int) * 1)), _, rfl, hW3.store (fr4.mono fun a ha => by simp at ha ⊢; rcases ha with rfl | rfl <;> simp) st4 rfl, gf, gt4, e3⟩
  rintro sd' M' ⟨o4, S, rfl, hW, gf, gt, e3⟩
  have gt2 : GT 2 S.temps := gt.mono (by rw [rng_length]; omega)
  clear gt
  refine ⟨_, rfl, _, _, rfl, dr, 3, rfl, rfl, by decide, by decide, hW.dw, fun M1 r fr hd hr => ?_⟩
  refine ⟨_, rfl, by omega, by omega, fun j sd' M' => ∃ (o4 : Option D) (S : Sto), sd' = [some (.scr ns), some (.ref dr), some (.ref s), some (.lst LN), o4, none, none, none, none, none, none, none] ∧ Wd M' dr s S ∧ GF 4 S.files ∧ GT 2 S.temps ∧ GO j S.old,
    ⟨o4, S, rfl, hW.draw fr hd, gf, gt2, by rw [e3]; exact ⟨Nat.le_refl _, fun kv hkv => by simp at hkv⟩⟩, fun _ _ _ _ _ => trivial, ?_, ?_⟩
  · rintro j x sd' M' hx ⟨o4, S, rfl, hW, gf, gt, go⟩
    obtain ⟨hj, rfl⟩ := rng_get hx
    refine ⟨_, rfl, _, insO_of hW.st.ms, rfl, _, rfl, _, rfl, _, _, rfl, dr, 4, rfl, rfl, by decide, by decide, hW.dw, fun M2 r2 fr2 hd2 hr2 => ?_⟩
    have hW2 := hW.draw fr2 hd2
    obtain ⟨n, hn, no⟩ := name_at (r := r2) (by omega)
    refine ⟨_, _, _, rfl, rfl, hn, _, rfl, (show 2 ≤ sizeLine by decide), (show 1 ≤ sizeLine by decide), _, rfl, _, rfl, dr, rfl, hW2.dw, fun M3 xs fr3 hd3 gc => ?_⟩
    have hW3 := hW2.draw fr3 hd3
    refine ⟨_, _, _, _, rfl, s, S, n, xs, rfl, hW3.st, rfl, rfl, by have := go.1; omega, some (.int (0 + (j : Int) * 1)), _, rfl, hW3.store (fun a ha => ?_) (hW3.st.tick.setO _) rfl, gf, gt, ?_⟩
    · have h1 : a ≠ s := fun z => ha (by simp [z])
      have h2 : a ≠ S.o := fun z => ha (by simp [z])
      show upm (upm M3 s _) S.o _ a = M3 a
      rw [upm_ne h2, upm_ne h1]
    · refine ⟨by have := go.1; show (S.old ++ _).length ≤ _; rw [List.length_append]; exact Nat.succ_le_succ this, fun z hz => ?_⟩
      rcases List.mem_append.mp hz with hz | hz
      · exact go.2 z hz
      · exact ⟨n, _, xs, List.mem_singleton.mp hz, gc, no, rfl⟩
  rintro sd' M' ⟨o4, S, rfl, hW, gf, gt, go⟩
  have hG : Good S := ⟨gf, gt, go.mono (by rw [rng_length]; omega)⟩
  refine ⟨_, rfl, _, insO_of hW.st.ms, rfl, _, rfl, s, S, rfl, hW.st, hG, ?_⟩
  refine ⟨(show 0 ≤ sizeLine by decide), (show 0 ≤ sizeLine by decide), fun en hen => ?_⟩
  have n1 : en ≠ dr := fun z => by
    obtain ⟨xs, i, b, sd, hm, _⟩ := hW.dw
    rw [← z, hen] at hm; cases hm
  have n2 : en ≠ S.o := fun z => by have := hW.st.mo; rw [← z, hen] at this; cases this
  exact rd_law10 (hW.new hen) hG upm_same n1 n2 h
theorem rd_law : Rds N_law sp_law td_law := by
  rintro ds M Q E ⟨_, rfl, ns, rfl, h0, h⟩
  refine ⟨_, rfl, _, rfl, ns, rfl, fun M1 dr hdr fr hd => ?_⟩
  intro q hq
  refine ⟨(show 0 ≤ sizeLine by decide), fun s hs => ?_⟩
  have nqs : q ≠ s := fun z => by rw [z, upm_same] at hs; cases hs
  have hd2 : DrawAt (upm (upm M1 q (.dic [])) s (.ins .Store [])) dr := by
    have a1 : dr ≠ q := fun z => by
      obtain ⟨xs, i, b, sd, hm, _⟩ := hd
      rw [z, hq] at hm; cases hm
    have a2 : dr ≠ s := fun z => by
      obtain ⟨xs, i, b, sd, hm, _⟩ := hd
      rw [upm_ne (Ne.symm nqs)] at hs
      rw [z, hs] at hm; cases hm
    exact hd.same (by rw [upm_ne a2, upm_ne a1])
  refine ⟨_, _, _, rfl, s, q, rfl, rfl, by rw [upm_ne nqs]; exact upm_same, upm_same, rfl, fun M' S fr' hf ht ho st e1 e2 e3 => ⟨rfl, (show 4 ≤ sizeLine by decide), ?_⟩⟩
  have b : ∀ a, (upm (upm M1 q (.dic [])) s (.ins .Store [])) a = none → dr ≠ a := fun a ha z => by
    obtain ⟨xs, i, b, sd, hm, _⟩ := hd2
    rw [z, ha] at hm; cases hm
  have b2 : dr ≠ s := fun z => by
    obtain ⟨xs, i, b, sd, hm, _⟩ := hd2
    rw [z, upm_same] at hm; cases hm
  exact rd_law4 ⟨st, hd2.same (fr' dr (by simp [b2, b _ hf, b _ ht, b _ ho])), b _ ho⟩ e1 e2 e3 h
end K80
set_option Elab.async false
set_option linter.all false
set_option maxRecDepth 100000
set_option maxHeartbeats 0
/-! K80y: the head, the law (printed by emit.py). -/
namespace K80
open PySem PySem.Spec PyProof.Rows L2 Dn
def loose0 : List Str := ["_wall", "__name__", "FolderkinError", "PowerCut", "InvalidBlock", "BLOCK", "block_number", "block_size", "is_block", "block_bytes", "split", "TEMP", "FILE", "ATTIC", "kept_blocks", "near_places", "missing", "must_come", "Entry", "Store", "_law_draws", "_law_draw", "_law_content", "_law_pieces", "_law_number", "_law_missing"]
abbrev loose : List Str := loose0
abbrev R : PySem.W.OpenRow := PySem.W.OpenLaw.row PySem.Challenge.rw_folderkin_k80_blocks_that_must_come
abbrev hk : PySem.W.Hook := He.hookD 6 fa fn
def ob (s : PySem.W.SharedT) : He.AlD := He.obsDG 6 fa fn (HandSHeadRun.getT s)
theorem ob_eq (s : PySem.W.SharedT) : ob s = hk.obs s.abs := He.obsDG_eq (HandSHeadRun.getT_eq s)
theorem run (w : World) : HandSHeadRun.RunEq R (PySem.W.view R.prog [32]) hk ob 6000 loose w := by
  intro os
  kernel_rfl
end K80
set_option Elab.async false
set_option linter.all false
set_option maxRecDepth 100000
set_option maxHeartbeats 0
open PySem PySem.W PySem.Calls PyProof.Rows
theorem PySem.Challenge.cw_folderkin_k80_blocks_that_must_come_holds : PySem.Challenge.rw_folderkin_k80_blocks_that_must_come.Holds := by
  w_on; o_law
  refine HandSHeadRun.head_any (r := OpenLaw.row PySem.Challenge.rw_folderkin_k80_blocks_that_must_come) (q := view (OpenLaw.row PySem.Challenge.rw_folderkin_k80_blocks_that_must_come).prog [32]) (H := K80.hk) (ob := K80.ob) (M := 6000) (loose := K80.loose) (d := HandSHeadRun.topDef (OpenLaw.row PySem.Challenge.rw_folderkin_k80_blocks_that_must_come).prog 32) (kwd := []) K80.ob_eq
    (by kernel_rfl) (fun s => by kernel_rfl) K80.run (by kernel_rfl) (by kernel_rfl) (by kernel_rfl) (by rfl) (by first | assumption | decide +kernel) (by decide +kernel) ⟨rfl, rfl, rfl, rfl, rfl, by decide +kernel⟩ ?hw ?hc
  case hw => w_witness2
  case hc =>
    refine Dn.walk_D (l := PySem.Challenge.rw_folderkin_k80_blocks_that_must_come) (k := 8) (x := "_law_script") rfl (by kernel_rfl) ⟨rfl, by decide, by decide⟩ K80.law_sp ?F
    intro w mg fa h Y G hmg0
    obtain ⟨K, KX, c⟩ := Y
    have hmg : mg ("law" : PySem.Str) = some (.ref fa) := by
      have e : (HandSHeadRun.topDef (OpenLaw.row PySem.Challenge.rw_folderkin_k80_blocks_that_must_come).prog 32).name = ("law" : PySem.Str) := by kernel_rfl
      rw [← e]
      exact hmg0
    have T := K80.txt KX G c
    have e := hmg.symm.trans T.G_law
    cases e
    obtain ⟨fd, F⟩ := T.D_law
    refine ⟨K, fd, K80.bs K, rfl, KX, fun s u => L2.FunD.bindsA (ps := ["_law_script"]) F (fun _ _ _ _ _ _ us hl => match us, hl with | [_], _ => rfl) s [u] rfl, fun base _ _ => K80.all_ok T K80.rd_block_number K80.rd_block_size K80.rd_is_block K80.rd_block_bytes K80.rd_split K80.rd_Entry___init__ K80.rd_Store___init__ K80.rd_Store_write_now K80.rd_Store_names K80.rd_Store_temp_names K80.rd_Store_read K80.rd_Store_write K80.rd_Store_temp K80.rd_Store_append_temp K80.rd_Store_attic K80.rd_Store_attic_put K80.rd_Store_durable K80.rd_kept_blocks K80.rd_near_places K80.rd_missing K80.rd_must_come K80.rd_u_law_draws K80.rd_u_law_draw K80.rd_u_law_content K80.rd_u_law_pieces K80.rd_u_law_number K80.rd_u_law_missing K80.rd_law F⟩
