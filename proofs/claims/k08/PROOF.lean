import PyProof.Rows.All
import Wide.All
import OpenK.AllK
import Wide.FinOn
import HandS.ForMost
import HandS.Walk
import HandS.Exc
import HandS.TryMany
import HandS.CallSlots
import HandS.WordsExc
import HandS.TupAny
import HandS.TupMul
import HandS.IsInst
import HandS.Flow
import HandS.Style
import HandS.Zip
import HandS.Text
import HandS.List
import HandS.Deep
import HandS.Words
import HandS.WordsDict
import HandS.Conv
import HandS.RaiseMore
import HandS.ExcSuper
import HandS.ExcInit
import HandS.More
import KE.KSuper
import KE.KExcInit
import HandS.ExcField
import HandS.ExcIs
import KE.KExcIs
import KE.GoesEnumKw
import HandS.MakeKwOnly
import KE.LtData
import KE.SortData
import KE.KDictSum
import KE.KDictCopyH
import PyProof.ReprRoads
import PyProof.StrBlock2
import HandS.Ends
import HandS.Star
import HandS.Steps
import PyProof.CollectStr
import PyProof.Rows.StrRev
import PyProof.SliceStr2
import HandS.Replace
import PyProof.Rows.StrBin
import PyProof.P3Eq
import PyProof.StrLawsIn
import PyProof.Rows.StrLawsPart
import PySem.Challenge.RW_millhands_k08_what_readers_make
set_option Elab.async false
set_option linter.all false
set_option maxRecDepth 100000
set_option maxHeartbeats 4000000
/-! The layer of plain values: what a piece of the text does, as a function on trees. -/
namespace MH
open PySem L2

/-- plain values: lists, tuples, dicts, instances as trees; loc: a changing object of the store -/
inductive W where
  | non
  | bl (b : Bool)
  | int (i : Int)
  | str (s : Str)
  | tup (xs : List W)
  | lst (xs : List W)
  | scr (xs : List W)
  | stp (xs : List W)
  | dct (k : Bool) (kvs : List (W × W))
  | ins (c : String) (fs : List (Str × W))
  | loc (n : Nat)
  | cls (c : String)
  | ty (n : String)

instance : Inhabited W := ⟨.non⟩

def wk : Key → W
  | .inl i => .int i
  | .inr x => .str x

abbrev CT := String → Option Addr

section
variable (K : PySem.W.Frag) (kc : CT)
mutual
inductive Rp (io : List Addr) (G : Hp) : W → V → Prop
  | non : Rp io G .non .non
  | bl (b : Bool) : Rp io G (.bl b) (.bl b)
  | int (i : Int) : Rp io G (.int i) (.int i)
  | str (s : Str) : Rp io G (.str s) (.str s)
  | tup {ws : List W} {a : Addr} {vs : List V} : G a = some (.tup vs) → RpL io G ws vs → Rp io G (.tup ws) (.ref a)
  | stp {ws : List W} {a : Addr} {vs : List V} : SqT K G a vs → RpL io G ws vs → Rp io G (.stp ws) (.ref a)
  | lst {ws : List W} {a : Addr} {vs : List V} : G a = some (.lst vs) → RpL io G ws vs → Rp io G (.lst ws) (.ref a)
  | scr {ws : List W} {a : Addr} {vs : List V} : SqL K G a vs → RpL io G ws vs → Rp io G (.scr ws) (.ref a)
  | dk {kws : List (W × W)} {a : Addr} {kvs : List (Key × V)} : Rd G a (.dK kvs) → RpD io G kws kvs → Rp io G (.dct false kws) (.ref a)
  | dt {kws : List (W × W)} {a : Addr} {kvs : List (List Key × V)} : Rd G a (.dT kvs) → RpT io G kws kvs → Rp io G (.dct true kws) (.ref a)
  | ins {c : String} {fs : List (Str × W)} {C a dx : Addr} {fv : List (Str × V)} : kc c = some C → G a = some (.ins C dx fv) → RpF io G fs fv → Rp io G (.ins c fs) (.ref a)
  | loc {n : Nat} {a : Addr} : io[n]? = some a → Rp io G (.loc n) (.ref a)
  | cls {c : String} {C : Addr} : kc c = some C → Rp io G (.cls c) (.ref C)
  | ty (n : String) : Rp io G (.ty n) (.ty n)
inductive RpL (io : List Addr) (G : Hp) : List W → List V → Prop
  | nil : RpL io G [] []
  | cons {w : W} {v : V} {ws : List W} {vs : List V} : Rp io G w v → RpL io G ws vs → RpL io G (w :: ws) (v :: vs)
inductive RpF (io : List Addr) (G : Hp) : List (Str × W) → List (Str × V) → Prop
  | nil : RpF io G [] []
  | cons {x : Str} {w : W} {v : V} {ws : List (Str × W)} {vs : List (Str × V)} : Rp io G w v → RpF io G ws vs → RpF io G ((x, w) :: ws) ((x, v) :: vs)
inductive RpD (io : List Addr) (G : Hp) : List (W × W) → List (Key × V) → Prop
  | nil : RpD io G [] []
  | cons {k : Key} {w : W} {v : V} {ws : List (W × W)} {vs : List (Key × V)} : Rp io G w v → RpD io G ws vs → RpD io G ((wk k, w) :: ws) ((k, v) :: vs)
inductive RpT (io : List Addr) (G : Hp) : List (W × W) → List (List Key × V) → Prop
  | nil : RpT io G [] []
  | cons {k : List Key} {w : W} {v : V} {ws : List (W × W)} {vs : List (List Key × V)} : Rp io G w v → RpT io G ws vs → RpT io G ((.tup (k.map wk), w) :: ws) ((k, v) :: vs)
end
end

/-- a heap that has all that another one has -/
def isD : HO → Bool
  | .dK _ => true
  | .dT _ => true
  | _ => false
/-- a dict may be locked by then -/
def Soft (G : Hp) (a : Addr) (o : HO) : Prop := G a = some o ∨ (isD o = true ∧ ∃ od, G a = some (.frz od o))
def Le (G G' : Hp) : Prop := ∀ a o, G a = some o → Soft G' a o
theorem Le.refl (G : Hp) : Le G G := fun _ _ h => .inl h
theorem Le.trans {G G1 G2 : Hp} (a : Le G G1) (b : Le G1 G2) : Le G G2 := fun c o h => by
  rcases a c o h with h1 | ⟨d, od, h1⟩
  · exact b c o h1
  · rcases b c _ h1 with h2 | ⟨d2, _⟩
    · exact .inr ⟨d, od, h2⟩
    · cases d2
/-- .. as it stands -/
def Ls (G G' : Hp) : Prop := ∀ a o, G a = some o → G' a = some o
theorem Ls.refl (G : Hp) : Ls G G := fun _ _ h => h
theorem Ls.trans {G G1 G2 : Hp} (a : Ls G G1) (b : Ls G1 G2) : Ls G G2 := fun c o h => b c o (a c o h)
theorem Ls.le {G G' : Hp} (l : Ls G G') : Le G G' := fun a o h => .inl (l a o h)
theorem Le.of {G G' : Hp} (h : ∀ a o, G a = some o → G' a = some o) : Le G G' := fun a o e => .inl (h a o e)
theorem Le.get {G G' : Hp} (l : Le G G') {a : Addr} {o : HO} (h : G a = some o) (n : isD o = false := by rfl) : G' a = some o := by
  rcases l a o h with h | ⟨d, _⟩
  · exact h
  · rw [n] at d; cases d
theorem Le.rd {G G' : Hp} (l : Le G G') {a : Addr} {o : HO} (h : Rd G a o) (n : ∀ od u, o ≠ .frz od u := by intro _ _ z; cases z) : Rd G' a o := by
  rcases h with h | ⟨od, h⟩
  · rcases l a o h with h | ⟨_, od, h⟩
    · exact .inl h
    · exact .inr ⟨od, h⟩
  · exact .inr ⟨od, l.get h⟩
theorem Le.some {G G' : Hp} (l : Le G G') {a : Addr} {o : HO} (h : G a = some o) : G' a ≠ none := by
  rcases l a o h with h | ⟨_, _, h⟩ <;> rw [h] <;> simp

section
variable {K : PySem.W.Frag} {kc : CT} {io io' : List Addr} {G G' : Hp}
theorem sql_le {a : Addr} {xs : List V} (l : Le G G') (h : SqL K G a xs) : SqL K G' a xs := by
  rcases h with h | h
  · exact .inl (l.rd h)
  · exact .inr h
theorem sqt_le {a : Addr} {xs : List V} (l : Le G G') (h : SqT K G a xs) : SqT K G' a xs := by
  rcases h with h | h
  · exact .inl (l.rd h)
  · exact .inr h
theorem pre_get {n : Nat} {a : Addr} (p : io <+: io') (h : io[n]? = some a) : io'[n]? = some a := by
  obtain ⟨t, rfl⟩ := p
  exact List.getElem?_append_left (List.getElem?_eq_some_iff.mp h).1 ▸ h
mutual
theorem Rp.mono (l : Le G G') (p : io <+: io') : ∀ {w : W} {v : V}, Rp K kc io G w v → Rp K kc io' G' w v
  | _, _, .non => .non
  | _, _, .bl b => .bl b
  | _, _, .int i => .int i
  | _, _, .str s => .str s
  | _, _, .tup h r => .tup (l.get h) (RpL.mono l p r)
  | _, _, .stp h r => .stp (sqt_le l h) (RpL.mono l p r)
  | _, _, .lst h r => .lst (l.get h) (RpL.mono l p r)
  | _, _, .scr h r => .scr (sql_le l h) (RpL.mono l p r)
  | _, _, .dk h r => .dk (l.rd h) (RpD.mono l p r)
  | _, _, .dt h r => .dt (l.rd h) (RpT.mono l p r)
  | _, _, .ins c h r => .ins c (l.get h) (RpF.mono l p r)
  | _, _, .loc h => .loc (pre_get p h)
  | _, _, .cls h => .cls h
  | _, _, .ty n => .ty n
theorem RpL.mono (l : Le G G') (p : io <+: io') : ∀ {w : List W} {v : List V}, RpL K kc io G w v → RpL K kc io' G' w v
  | _, _, .nil => .nil
  | _, _, .cons h r => .cons (Rp.mono l p h) (RpL.mono l p r)
theorem RpF.mono (l : Le G G') (p : io <+: io') : ∀ {w : List (Str × W)} {v : List (Str × V)}, RpF K kc io G w v → RpF K kc io' G' w v
  | _, _, .nil => .nil
  | _, _, .cons h r => .cons (Rp.mono l p h) (RpF.mono l p r)
theorem RpD.mono (l : Le G G') (p : io <+: io') : ∀ {w : List (W × W)} {v : List (Key × V)}, RpD K kc io G w v → RpD K kc io' G' w v
  | _, _, .nil => .nil
  | _, _, .cons h r => .cons (Rp.mono l p h) (RpD.mono l p r)
theorem RpT.mono (l : Le G G') (p : io <+: io') : ∀ {w : List (W × W)} {v : List (List Key × V)}, RpT K kc io G w v → RpT K kc io' G' w v
  | _, _, .nil => .nil
  | _, _, .cons h r => .cons (Rp.mono l p h) (RpT.mono l p r)
end
end
end MH

/-! What a state of the text stands for: slots, a store, frozen things. -/
namespace MH
open PySem L2

abbrev Slt := Option (Bool × W)
abbrev En := List Slt
abbrev Sto := List W

inductive Nd (K : PySem.W.Frag) (kc : CT) (io : List Addr) (G : Hp) : W → HO → Prop
  | lst {ws : List W} {vs : List V} : RpL K kc io G ws vs → Nd K kc io G (.lst ws) (.lst vs)
  | dk {kws : List (W × W)} {kvs : List (Key × V)} : RpD K kc io G kws kvs → Nd K kc io G (.dct false kws) (.dK kvs)
  | dt {kws : List (W × W)} {kvs : List (List Key × V)} : RpT K kc io G kws kvs → Nd K kc io G (.dct true kws) (.dT kvs)
  | ins {c : String} {fs : List (Str × W)} {C dx : Addr} {fv : List (Str × V)} : kc c = some C → RpF K kc io G fs fv → Nd K kc io G (.ins c fs) (.ins C dx fv)

section
variable {K : PySem.W.Frag} {kc : CT} {io io' : List Addr} {G G' H H' : Hp}
theorem Nd.mono {w : W} {o : HO} (l : Le G G') (p : io <+: io') (h : Nd K kc io G w o) : Nd K kc io' G' w o := by
  cases h with
  | lst r => exact .lst (r.mono l p)
  | dk r => exact .dk (r.mono l p)
  | dt r => exact .dt (r.mono l p)
  | ins c r => exact .ins c (r.mono l p)
theorem Nd.nt {w : W} {o : HO} (h : Nd K kc io G w o) : ∀ xs, o ≠ HO.tup xs := fun xs z => by
  cases h <;> cases z
theorem Nd.rp {w : W} {o : HO} {a : Addr} (h : Nd K kc io G w o) (e : G a = some o) : Rp K kc io G w (.ref a) := by
  cases h with
  | lst r => exact .lst e r
  | dk r => exact .dk (.inl e) r
  | dt r => exact .dt (.inl e) r
  | ins c r => exact .ins c e r
theorem pre_refl (l : List Addr) : l <+: l := List.prefix_rfl
theorem upd_ls {a : Addr} {o : HO} (h : H a = none) : Ls H (upd H a o) := fun b u e => by
  rw [upd_ne (ne_of_none e h)]; exact e
theorem upd_le {a : Addr} {o : HO} (h : H a = none) : Le H (upd H a o) := (upd_ls h).le
theorem upd_mono {a : Addr} {o : HO} (l : Ls G H) (h : G a = none) : Ls G (upd H a o) := fun b u e => by
  rw [upd_ne (ne_of_none e h)]; exact l b u e
theorem upd_both {a : Addr} {o : HO} (l : Ls G H) : Ls (upd G a o) (upd H a o) := fun b u e => by
  by_cases hb : b = a
  · subst hb; rw [upd_same] at e ⊢; exact e
  · rw [upd_ne hb] at e ⊢; exact l b u e
theorem le_none {a : Addr} (l : Ls G H) (h : H a = none) : G a = none := by
  cases e : G a with
  | none => rfl
  | some o => rw [l a o e] at h; cases h
end

structure Sim (K : PySem.W.Frag) (kc : CT) (Fz : Hp) (en : En) (st : Sto) (G : Hp) (io : List Addr) (σ : St) (H : Hp) : Prop where
  gs : Ls G H
  fs : Ls Fz H
  fg : ∀ a o, Fz a = some o → G a = none
  ft : ∀ a o, Fz a = some o → ∀ xs, o ≠ HO.tup xs
  il : io.length = st.length
  ind : io.Nodup
  ce : ∀ (n : Nat) (w : W) (a : Addr), st[n]? = some w → io[n]? = some a → G a = none ∧ Fz a = none ∧ ∃ o, H a = some o ∧ Nd K kc io G w o
  sl : ∀ (i : Nat) (w : W), en[i]? = some (some (false, w)) → ∃ v, σ[i]? = some (some v) ∧ Rp K kc io G w v
  ow : ∀ (i : Nat) (w : W), en[i]? = some (some (true, w)) → ∃ a o, σ[i]? = some (some (.ref a)) ∧ G a = none ∧ Fz a = none ∧ a ∉ io ∧ H a = some o ∧ Nd K kc io G w o
  inj : ∀ (i j : Nat) (a : Addr) (w w' : W), en[i]? = some (some (true, w)) → en[j]? = some (some (true, w')) → σ[i]? = some (some (.ref a)) → σ[j]? = some (some (.ref a)) → i = j
  el : en.length = σ.length

section
variable {K : PySem.W.Frag} {kc : CT} {Fz : Hp} {en : En} {st : Sto} {G : Hp} {io : List Addr} {σ : St} {H : Hp}

theorem Sim.io_some (S : Sim K kc Fz en st G io σ H) {a : Addr} (h : a ∈ io) : ∃ (n : Nat) (w : W), io[n]? = some a ∧ st[n]? = some w := by
  obtain ⟨n, hn, e⟩ := List.getElem_of_mem h
  refine ⟨n, st[n]'(by rw [← S.il]; exact hn), ?_, ?_⟩
  · rw [List.getElem?_eq_getElem hn, e]
  · exact List.getElem?_eq_getElem _
theorem Sim.io_h (S : Sim K kc Fz en st G io σ H) {a : Addr} (h : a ∈ io) : G a = none ∧ Fz a = none ∧ ∃ o, H a = some o := by
  obtain ⟨n, w, e1, e2⟩ := S.io_some h
  obtain ⟨h1, h2, o, h3, _⟩ := S.ce n w a e2 e1
  exact ⟨h1, h2, o, h3⟩
theorem Sim.io_free (S : Sim K kc Fz en st G io σ H) {a : Addr} (h : H a = none) : a ∉ io := fun m => by
  obtain ⟨_, _, o, e⟩ := S.io_h m
  rw [h] at e; cases e

/-- the heap changes where nothing is, or what is frozen grows -/
theorem Sim.grow {G' H' : Hp} (S : Sim K kc Fz en st G io σ H) (g : Le G G') (h : Ls G' H') (hh : ∀ a o, H a = some o → G a = none → H' a = some o) (fr : ∀ a o, G' a = some o → G a = none → H a = none) : Sim K kc Fz en st G' io σ H' where
  gs := h
  fs := fun a o e => hh a o (S.fs a o e) (S.fg a o e)
  ft := S.ft
  fg := fun a o e => by
    cases q : G' a with
    | none => rfl
    | some u =>
      have z := fr a u q (S.fg a o e)
      rw [S.fs a o e] at z; cases z
  il := S.il
  ind := S.ind
  ce := fun n w a e1 e2 => by
    obtain ⟨h1, h2, o, h3, h4⟩ := S.ce n w a e1 e2
    refine ⟨?_, h2, o, hh a o h3 h1, h4.mono g (pre_refl _)⟩
    cases q : G' a with
    | none => rfl
    | some u => have := fr a u q h1; rw [h3] at this; cases this
  sl := fun i w e => by
    obtain ⟨v, e1, r⟩ := S.sl i w e
    exact ⟨v, e1, r.mono g (pre_refl _)⟩
  ow := fun i w e => by
    obtain ⟨a, o, e1, e2, e3, e4, e5, e6⟩ := S.ow i w e
    refine ⟨a, o, e1, ?_, e3, e4, hh a o e5 e2, e6.mono g (pre_refl _)⟩
    cases q : G' a with
    | none => rfl
    | some u => have := fr a u q e2; rw [e5] at this; cases this
  inj := S.inj
  el := S.el
/-- a new object, frozen -/
theorem Sim.alloc {p : Addr} {o : HO} (S : Sim K kc Fz en st G io σ H) (hp : H p = none) : Sim K kc Fz en st (upd G p o) io σ (upd H p o) := by
  have gp := le_none S.gs hp
  refine S.grow (upd_le gp) (upd_both S.gs) (fun a u e _ => upd_ls hp a u e) (fun a u e n => ?_)
  by_cases ha : a = p
  · subst ha; exact hp
  · rw [upd_ne ha, n] at e; cases e
/-- .. not yet bound -/
theorem Sim.allocF {p : Addr} {o : HO} (S : Sim K kc Fz en st G io σ H) (hp : H p = none) : Sim K kc Fz en st G io σ (upd H p o) :=
  S.grow (Le.refl G) (S.gs.trans (upd_ls hp)) (fun a u e _ => upd_ls hp a u e) (fun a u e n => by rw [n] at e; cases e)
/-- one that was laid and stands beside all is frozen -/
theorem Sim.frzF {p : Addr} {o : HO} (S : Sim K kc Fz en st G io σ H) (hp : H p = some o) (gp : G p = none) (fp : Fz p = none) (ip : p ∉ io) (ep : ∀ (i : Nat) (w : W), en[i]? = some (some (true, w)) → σ[i]? ≠ some (some (V.ref p))) : Sim K kc Fz en st (upd G p o) io σ H where
  gs := fun a u e => by
    by_cases ha : a = p
    · subst ha; rw [upd_same] at e; cases e; exact hp
    · rw [upd_ne ha] at e; exact S.gs a u e
  fs := S.fs
  ft := S.ft
  fg := fun a u e => by
    have ha : a ≠ p := fun z => by subst z; rw [fp] at e; cases e
    rw [upd_ne ha]; exact S.fg a u e
  il := S.il
  ind := S.ind
  ce := fun n w a e1 e2 => by
    obtain ⟨h1, h2, u, h3, h4⟩ := S.ce n w a e1 e2
    have ha : a ≠ p := fun z => by subst z; exact ip (List.mem_of_getElem? e2)
    exact ⟨by rw [upd_ne ha]; exact h1, h2, u, h3, h4.mono (upd_le gp) (pre_refl _)⟩
  sl := fun i w e => by
    obtain ⟨v, e1, r⟩ := S.sl i w e
    exact ⟨v, e1, r.mono (upd_le gp) (pre_refl _)⟩
  ow := fun i w e => by
    obtain ⟨a, u, e1, e2, e3, e4, e5, e6⟩ := S.ow i w e
    have ha : a ≠ p := fun z => by subst z; exact ep i w e e1
    exact ⟨a, u, e1, by rw [upd_ne ha]; exact e2, e3, e4, e5, e6.mono (upd_le gp) (pre_refl _)⟩
  inj := S.inj
  el := S.el

/-- slot i is given a frozen value -/
theorem Sim.set {i : Nat} {w : W} {v : V} (S : Sim K kc Fz en st G io σ H) (r : Rp K kc io G w v) : Sim K kc Fz (en.set i (some (false, w))) st G io (σ.set i (some v)) H where
  gs := S.gs
  fs := S.fs
  fg := S.fg
  ft := S.ft
  il := S.il
  ind := S.ind
  ce := S.ce
  sl := fun j u e => by
    by_cases hj : i = j
    · subst hj
      have hl : i < en.length := by
        have := (List.getElem?_eq_some_iff.mp e).1
        rwa [List.length_set] at this
      rw [List.getElem?_set_self hl] at e
      cases e
      exact ⟨v, List.getElem?_set_self (by rw [← S.el]; exact hl), r⟩
    · rw [List.getElem?_set_ne hj] at e ⊢
      exact S.sl j u e
  ow := fun j u e => by
    by_cases hj : i = j
    · subst hj
      have hl : i < en.length := by
        have := (List.getElem?_eq_some_iff.mp e).1
        rwa [List.length_set] at this
      rw [List.getElem?_set_self hl] at e
      cases e
    · rw [List.getElem?_set_ne hj] at e ⊢
      exact S.ow j u e
  inj := fun j k a u u' e1 e2 e3 e4 => by
    have hj : i ≠ j := fun z => by
      subst z
      rw [List.getElem?_set_self (by have := (List.getElem?_eq_some_iff.mp e1).1; rwa [List.length_set] at this)] at e1
      cases e1
    have hk : i ≠ k := fun z => by
      subst z
      rw [List.getElem?_set_self (by have := (List.getElem?_eq_some_iff.mp e2).1; rwa [List.length_set] at this)] at e2
      cases e2
    rw [List.getElem?_set_ne hj] at e1 e3
    rw [List.getElem?_set_ne hk] at e2 e4
    exact S.inj j k a u u' e1 e2 e3 e4
  el := by rw [List.length_set, List.length_set]; exact S.el
/-- slot i is forgotten -/
theorem Sim.unset {i : Nat} {x : Option V} (S : Sim K kc Fz en st G io σ H) : Sim K kc Fz (en.set i none) st G io (σ.set i x) H where
  gs := S.gs
  fs := S.fs
  fg := S.fg
  ft := S.ft
  il := S.il
  ind := S.ind
  ce := S.ce
  sl := fun j u e => by
    by_cases hj : i = j
    · subst hj
      rw [List.getElem?_set_self (by have := (List.getElem?_eq_some_iff.mp e).1; rwa [List.length_set] at this)] at e
      cases e
    · rw [List.getElem?_set_ne hj] at e ⊢
      exact S.sl j u e
  ow := fun j u e => by
    by_cases hj : i = j
    · subst hj
      rw [List.getElem?_set_self (by have := (List.getElem?_eq_some_iff.mp e).1; rwa [List.length_set] at this)] at e
      cases e
    · rw [List.getElem?_set_ne hj] at e ⊢
      exact S.ow j u e
  inj := fun j k a u u' e1 e2 e3 e4 => by
    have hj : i ≠ j := fun z => by
      subst z
      rw [List.getElem?_set_self (by have := (List.getElem?_eq_some_iff.mp e1).1; rwa [List.length_set] at this)] at e1
      cases e1
    have hk : i ≠ k := fun z => by
      subst z
      rw [List.getElem?_set_self (by have := (List.getElem?_eq_some_iff.mp e2).1; rwa [List.length_set] at this)] at e2
      cases e2
    rw [List.getElem?_set_ne hj] at e1 e3
    rw [List.getElem?_set_ne hk] at e2 e4
    exact S.inj j k a u u' e1 e2 e3 e4
  el := by rw [List.length_set, List.length_set]; exact S.el
/-- slot i is given a thing of its own -/
theorem Sim.setOwn {i : Nat} {w : W} {p : Addr} {o : HO} (S : Sim K kc Fz en st G io σ H) (hp : H p = some o) (gp : G p = none) (fp : Fz p = none) (ip : p ∉ io) (ep : ∀ (i : Nat) (w : W), en[i]? = some (some (true, w)) → σ[i]? ≠ some (some (V.ref p))) (nd : Nd K kc io G w o) :
    Sim K kc Fz (en.set i (some (true, w))) st G io (σ.set i (some (.ref p))) H where
  gs := S.gs
  fs := S.fs
  fg := S.fg
  ft := S.ft
  il := S.il
  ind := S.ind
  ce := S.ce
  sl := fun j u e => by
    by_cases hj : i = j
    · subst hj
      rw [List.getElem?_set_self (by have := (List.getElem?_eq_some_iff.mp e).1; rwa [List.length_set] at this)] at e
      cases e
    · rw [List.getElem?_set_ne hj] at e ⊢
      exact S.sl j u e
  ow := fun j u e => by
    by_cases hj : i = j
    · subst hj
      have hl : i < en.length := by
        have := (List.getElem?_eq_some_iff.mp e).1
        rwa [List.length_set] at this
      rw [List.getElem?_set_self hl] at e
      cases e
      exact ⟨p, o, List.getElem?_set_self (by rw [← S.el]; exact hl), gp, fp, ip, hp, nd⟩
    · rw [List.getElem?_set_ne hj] at e ⊢
      exact S.ow j u e
  inj := fun j k a u u' e1 e2 e3 e4 => by
    have lj : ∀ {j u}, (en.set i (some (true, w)))[j]? = some (some (true, u)) → j < en.length := fun {j u} e => by
      have := (List.getElem?_eq_some_iff.mp e).1
      rwa [List.length_set] at this
    by_cases hj : i = j
    · by_cases hk : i = k
      · exact hj.symm.trans hk
      · subst hj
        rw [List.getElem?_set_self (by rw [← S.el]; exact lj e1)] at e3
        rw [List.getElem?_set_ne hk] at e2 e4
        cases e3
        exact absurd e4 (ep k _ e2)
    · by_cases hk : i = k
      · subst hk
        rw [List.getElem?_set_self (by rw [← S.el]; exact lj e2)] at e4
        rw [List.getElem?_set_ne hj] at e1 e3
        cases e4
        exact absurd e3 (ep j _ e1)
      · rw [List.getElem?_set_ne hj] at e1 e3
        rw [List.getElem?_set_ne hk] at e2 e4
        exact S.inj j k a u u' e1 e2 e3 e4
  el := by rw [List.length_set, List.length_set]; exact S.el
/-- a slot's own thing is frozen -/
theorem Sim.frz {i : Nat} {w : W} {a : Addr} {o : HO} (S : Sim K kc Fz en st G io σ H) (e : en[i]? = some (some (true, w))) (ea : σ[i]? = some (some (.ref a))) (eo : H a = some o) (ga : G a = none) (fa : Fz a = none) (ia : a ∉ io) (nd : Nd K kc io G w o) :
    Sim K kc Fz (en.set i (some (false, w))) st (upd G a o) io σ H := by
  have hl : i < en.length := (List.getElem?_eq_some_iff.mp e).1
  have hs : σ.set i (some (.ref a)) = σ := by
    obtain ⟨h1, h2⟩ := List.getElem?_eq_some_iff.mp ea
    rw [← h2]; exact List.set_getElem_self h1
  have S1 : Sim K kc Fz (en.set i none) st G io (σ.set i (some (.ref a))) H := S.unset
  rw [hs] at S1
  have S2 : Sim K kc Fz (en.set i none) st (upd G a o) io σ H := S1.frzF eo ga fa ia fun (j : Nat) (u : W) ej es => by
    by_cases hj : i = j
    · subst hj
      rw [List.getElem?_set_self hl] at ej
      cases ej
    · rw [List.getElem?_set_ne hj] at ej
      exact hj (S.inj i j a w u e ej ea es)
  have S3 := S2.set (i := i) (w := w) (v := .ref a) ((nd.mono (upd_le ga) (pre_refl _)).rp upd_same)
  rw [List.set_set, hs] at S3
  exact S3
/-- a slot's own thing is written -/
theorem Sim.wrSlot {i : Nat} {w w' : W} {a : Addr} {o o' : HO} (S : Sim K kc Fz en st G io σ H) (e : en[i]? = some (some (true, w))) (ea : σ[i]? = some (some (.ref a))) (eo : H a = some o) (ga : G a = none) (fa : Fz a = none) (ia : a ∉ io) (nd : Nd K kc io G w' o') :
    Sim K kc Fz (en.set i (some (true, w'))) st G io σ (upd H a o') := by
  have hl : i < en.length := (List.getElem?_eq_some_iff.mp e).1
  have hs : σ.set i (some (.ref a)) = σ := by
    obtain ⟨h1, h2⟩ := List.getElem?_eq_some_iff.mp ea
    rw [← h2]; exact List.set_getElem_self h1
  have S1 : Sim K kc Fz (en.set i none) st G io (σ.set i (some (.ref a))) H := S.unset
  rw [hs] at S1
  have ep : ∀ (j : Nat) (u : W), (en.set i none)[j]? = some (some (true, u)) → σ[j]? ≠ some (some (V.ref a)) := fun (j : Nat) (u : W) ej es => by
    by_cases hj : i = j
    · subst hj
      rw [List.getElem?_set_self hl] at ej
      cases ej
    · rw [List.getElem?_set_ne hj] at ej
      exact hj (S.inj i j a w u e ej ea es)
  have S2 : Sim K kc Fz (en.set i none) st G io σ (upd H a o') :=
    { gs := upd_mono S1.gs ga, fs := upd_mono S1.fs fa, fg := S1.fg, ft := S1.ft, il := S1.il, ind := S1.ind, sl := S1.sl, inj := S1.inj, el := S1.el
      ce := fun n u b e1 e2 => by
        obtain ⟨h1, h2, v, h3, h4⟩ := S1.ce n u b e1 e2
        have hb : b ≠ a := fun z => by subst z; exact ia (List.mem_of_getElem? e2)
        exact ⟨h1, h2, v, by rw [upd_ne hb]; exact h3, h4⟩
      ow := fun j u ej => by
        obtain ⟨b, v, e1, e2, e3, e4, e5, e6⟩ := S1.ow j u ej
        have hb : b ≠ a := fun z => by subst z; exact ep j u ej e1
        exact ⟨b, v, e1, e2, e3, e4, by rw [upd_ne hb]; exact e5, e6⟩ }
  have S3 := S2.setOwn (i := i) (w := w') (p := a) (o := o') upd_same ga fa ia ep nd
  rw [List.set_set, hs] at S3
  exact S3
/-- a cell of the store is written -/
theorem Sim.wrCell {n : Nat} {w w' : W} {a : Addr} {o' : HO} (S : Sim K kc Fz en st G io σ H) (e : st[n]? = some w) (ea : io[n]? = some a) (nd : Nd K kc io G w' o') :
    Sim K kc Fz en (st.set n w') G io σ (upd H a o') := by
  obtain ⟨ga, fa, o, eo, _⟩ := S.ce n w a e ea
  have hn : n < st.length := (List.getElem?_eq_some_iff.mp e).1
  refine { gs := upd_mono S.gs ga, fs := upd_mono S.fs fa, fg := S.fg, ft := S.ft, il := by rw [List.length_set]; exact S.il, ind := S.ind, sl := S.sl, inj := S.inj, el := S.el, ce := fun m u b e1 e2 => ?_, ow := fun j u ej => ?_ }
  · by_cases hm : n = m
    · subst hm
      rw [List.getElem?_set_self hn] at e1
      cases e1
      rw [ea] at e2; cases e2
      exact ⟨ga, fa, o', upd_same, nd⟩
    · rw [List.getElem?_set_ne hm] at e1
      obtain ⟨h1, h2, v, h3, h4⟩ := S.ce m u b e1 e2
      have hb : b ≠ a := fun z => by
        subst z
        exact hm (nd_ix S.ind ea e2)
      exact ⟨h1, h2, v, by rw [upd_ne hb]; exact h3, h4⟩
  · obtain ⟨b, v, e1, e2, e3, e4, e5, e6⟩ := S.ow j u ej
    have hb : b ≠ a := fun z => by subst z; exact e4 (List.mem_of_getElem? ea)
    exact ⟨b, v, e1, e2, e3, e4, by rw [upd_ne hb]; exact e5, e6⟩
/-- a new cell -/
theorem Sim.newCell {w : W} {p : Addr} {o : HO} (S : Sim K kc Fz en st G io σ H) (hp : H p = some o) (gp : G p = none) (fp : Fz p = none) (ip : p ∉ io) (ep : ∀ (i : Nat) (w : W), en[i]? = some (some (true, w)) → σ[i]? ≠ some (some (V.ref p))) (nd : Nd K kc (io ++ [p]) G w o) :
    Sim K kc Fz en (st ++ [w]) G (io ++ [p]) σ H := by
  have pr : io <+: io ++ [p] := List.prefix_append _ _
  refine { gs := S.gs, fs := S.fs, fg := S.fg, ft := S.ft, il := by simp [S.il], ind := ?ind, sl := fun i u e => ?sl, inj := S.inj, el := S.el, ce := fun m u b e1 e2 => ?ce, ow := fun j u ej => ?ow }

  case ind =>
    rw [List.nodup_append]
    refine ⟨S.ind, by simp, ?_⟩
    intro a ha b hb z
    simp at hb
    subst hb; subst z
    exact ip ha
  case sl =>
    obtain ⟨v, e1, r⟩ := S.sl i u e
    exact ⟨v, e1, r.mono (Le.refl _) pr⟩
  case ce =>
    by_cases hm : m < st.length
    · rw [List.getElem?_append_left hm] at e1
      rw [List.getElem?_append_left (by rw [S.il]; exact hm)] at e2
      obtain ⟨h1, h2, v, h3, h4⟩ := S.ce m u b e1 e2
      exact ⟨h1, h2, v, h3, h4.mono (Le.refl _) pr⟩
    · have hm' : m = st.length := by
        have := (List.getElem?_eq_some_iff.mp e1).1
        simp at this
        omega
      subst hm'
      have e3 : (st ++ [w])[st.length]? = some w := by simp
      rw [e3] at e1; cases e1
      have e4 : (io ++ [p])[st.length]? = some p := by rw [← S.il]; simp
      rw [e4] at e2; cases e2
      exact ⟨gp, fp, o, hp, nd⟩
  case ow =>
    obtain ⟨b, v, e1, e2, e3, e4, e5, e6⟩ := S.ow j u ej
    refine ⟨b, v, e1, e2, e3, ?_, e5, e6.mono (Le.refl _) pr⟩
    intro hb
    rcases List.mem_append.mp hb with z | z
    · exact e4 z
    · simp at z
      subst z
      exact ep j u ej e1

/-- a callee's state, and the caller's behind it -/
theorem Sim.callee (S : Sim K kc Fz en st G io σ H) : ∃ Fz', Sim K kc Fz' [] st G io [] H ∧ ∀ st' G' io' H', Le G G' → io <+: io' → Sim K kc Fz' [] st' G' io' [] H' → Sim K kc Fz en st' G' io' σ H' := by
  classical
  have key : ∀ a, (∃ (i : Nat) (w : W), en[i]? = some (some (true, w)) ∧ σ[i]? = some (some (V.ref a))) → G a = none ∧ Fz a = none ∧ a ∉ io ∧ ∃ o, H a = some o := fun a ⟨i, w, e1, e2⟩ => by
    obtain ⟨b, o, q1, q2, q3, q4, q5, _⟩ := S.ow i w e1
    rw [e2] at q1; cases q1
    exact ⟨q2, q3, q4, o, q5⟩
  refine ⟨fun a => if (∃ (i : Nat) (w : W), en[i]? = some (some (true, w)) ∧ σ[i]? = some (some (V.ref a))) then H a else Fz a, ?_, ?_⟩
  · refine { gs := S.gs, fs := fun a o e => ?_, fg := fun a o e => ?_, ft := fun a o e => (by
        try dsimp only at e
        split at e
        · rename_i h; obtain ⟨i, w, e1, e2⟩ := h; obtain ⟨b, o', q1, _, _, _, q5, nd⟩ := S.ow i w e1; rw [e2] at q1; cases q1; rw [q5] at e; cases e; exact nd.nt
        · exact S.ft a o e), il := S.il, ind := S.ind, ce := fun n w a e1 e2 => ?_, sl := fun i w e => by simp at e, ow := fun i w e => by simp at e, inj := fun i j a w w' e => by simp at e, el := rfl }
    · try dsimp only at e
      split at e
      · exact e
      · exact S.fs a o e
    · try dsimp only at e
      split at e
      · rename_i h; exact (key a h).1
      · exact S.fg a o e
    · obtain ⟨h1, h2, q⟩ := S.ce n w a e1 e2
      refine ⟨h1, ?_, q⟩
      rw [if_neg fun h => (key a h).2.2.1 (List.mem_of_getElem? e2)]
      exact h2
  · intro st' G' io' H' g p T
    refine { gs := T.gs, fs := fun a o e => ?_, fg := fun a o e => ?_, ft := S.ft, il := T.il, ind := T.ind, ce := fun n w a e1 e2 => ?_, sl := fun i w e => ?_, ow := fun i w e => ?_, inj := S.inj, el := S.el }
    · refine T.fs a o ?_
      rw [if_neg fun h => by rw [(key a h).2.1] at e; cases e]
      exact e
    · refine T.fg a o ?_
      rw [if_neg fun h => by rw [(key a h).2.1] at e; cases e]
      exact e
    · obtain ⟨h1, h2, q⟩ := T.ce n w a e1 e2
      refine ⟨h1, ?_, q⟩
      try dsimp only at h2
      split at h2
      · rename_i h; exact (key a h).2.1
      · exact h2
    · obtain ⟨v, e1, r⟩ := S.sl i w e
      exact ⟨v, e1, r.mono g p⟩
    · obtain ⟨a, o, e1, e2, e3, e4, e5, e6⟩ := S.ow i w e
      have hf : (if (∃ (i : Nat) (w : W), en[i]? = some (some (true, w)) ∧ σ[i]? = some (some (V.ref a))) then H a else Fz a) = some o := by rw [if_pos ⟨i, w, e, e1⟩]; exact e5
      refine ⟨a, o, e1, T.fg a o hf, e3, fun hm => ?_, T.fs a o hf, e6.mono g p⟩
      have := (T.io_h hm).2.1
      try dsimp only at this
      rw [hf] at this; cases this
end

section
variable {K : PySem.W.Frag} {kc : CT} {Fz : Hp} {en : En} {st : Sto} {G : Hp} {io : List Addr} {σ : St} {H : Hp}
theorem Sim.tupG {b : Addr} {vs : List V} (S : Sim K kc Fz en st G io σ H) (hb : H b = some (.tup vs)) : ∃ G', Le G G' ∧ Sim K kc Fz en st G' io σ H ∧ G' b = some (.tup vs) := by
  cases q : G b with
  | some o =>
    have := S.gs _ _ q
    rw [hb] at this
    cases this
    exact ⟨G, Le.refl _, S, q⟩
  | none =>
    have fp : Fz b = none := by
      cases e : Fz b with
      | none => rfl
      | some o =>
        have := S.fs _ _ e
        rw [hb] at this
        cases this
        exact absurd rfl (S.ft _ _ e vs)
    have ip : b ∉ io := fun hm => by
      obtain ⟨n, w, e1, e2⟩ := S.io_some hm
      obtain ⟨_, _, o, e3, nd⟩ := S.ce n w b e2 e1
      rw [hb] at e3; cases e3
      exact nd.nt vs rfl
    refine ⟨_, upd_le q, S.frzF hb q fp ip (fun i w e es => ?_), upd_same⟩
    obtain ⟨a, o, e1, _, _, _, e5, nd⟩ := S.ow i w e
    rw [es] at e1; cases e1
    rw [hb] at e5; cases e5
    exact nd.nt vs rfl
end
/-! ### what is read -/
inductive Hd where
  | fz (w : W)
  | sl (i : Nat)
def deref (st : Sto) : W → W
  | .loc n => st.getD n .non
  | w => w
def view (en : En) (st : Sto) : Hd → W
  | .fz w => deref st w
  | .sl i => match en[i]? with
    | some (some (_, w)) => w
    | _ => .non
/-- w stands at v: frozen, or just now -/
def Tp (K : PySem.W.Frag) (kc : CT) (io : List Addr) (G H : Hp) (w : W) (v : V) : Prop := Rp K kc io G w v ∨ ∃ a o, v = .ref a ∧ H a = some o ∧ Nd K kc io G w o
def HdOk (K : PySem.W.Frag) (kc : CT) (io : List Addr) (G : Hp) (en : En) (σ : St) : Hd → V → Prop
  | .fz w, v => Rp K kc io G w v
  | .sl i, v => (∃ w, en[i]? = some (some (true, w))) ∧ σ[i]? = some (some v)
section
variable {K : PySem.W.Frag} {kc : CT} {Fz : Hp} {en : En} {st : Sto} {G G' : Hp} {io io' : List Addr} {σ : St} {H : Hp}
theorem HdOk.mono {h : Hd} {v : V} (l : Le G G') (p : io <+: io') (x : HdOk K kc io G en σ h v) : HdOk K kc io' G' en σ h v := by
  cases h with
  | fz w => exact Rp.mono l p x
  | sl i => exact x
theorem deref_of {w : W} {v : V} (S : Sim K kc Fz en st G io σ H) (x : Rp K kc io G w v) : Tp K kc io G H (deref st w) v := by
  cases x with
  | @loc n a e =>
    have hn : n < st.length := by rw [← S.il]; exact (List.getElem?_eq_some_iff.mp e).1
    obtain ⟨_, _, o, h3, h4⟩ := S.ce n st[n] a (List.getElem?_eq_getElem hn) e
    refine .inr ⟨a, o, rfl, h3, ?_⟩
    show Nd K kc io G (st.getD n .non) o
    rw [List.getD_eq_getElem?_getD, List.getElem?_eq_getElem hn]
    exact h4
  | non => exact .inl .non
  | bl b => exact .inl (.bl b)
  | int b => exact .inl (.int b)
  | str b => exact .inl (.str b)
  | tup a b => exact .inl (.tup a b)
  | stp a b => exact .inl (.stp a b)
  | lst a b => exact .inl (.lst a b)
  | scr a b => exact .inl (.scr a b)
  | dk a b => exact .inl (.dk a b)
  | dt a b => exact .inl (.dt a b)
  | ins a b c => exact .inl (.ins a b c)
  | cls a => exact .inl (.cls a)
  | ty a => exact .inl (.ty a)
theorem view_of {h : Hd} {v : V} (S : Sim K kc Fz en st G io σ H) (x : HdOk K kc io G en σ h v) : Tp K kc io G H (view en st h) v := by
  cases h with
  | fz w => exact deref_of S x
  | sl i =>
    obtain ⟨⟨w, e⟩, ev⟩ := x
    obtain ⟨a, o, e1, _, _, _, e5, e6⟩ := S.ow i w e
    rw [e1] at ev; cases ev
    refine .inr ⟨a, o, rfl, e5, ?_⟩
    show Nd K kc io G (match en[i]? with | some (some (_, w)) => w | _ => .non) o
    rw [e]
    exact e6
theorem Tp.int {i : Int} {v : V} (x : Tp K kc io G H (.int i) v) : v = .int i := by
  rcases x with x | ⟨_, _, _, _, x⟩
  · cases x; rfl
  · cases x
theorem Tp.bl {i : Bool} {v : V} (x : Tp K kc io G H (.bl i) v) : v = .bl i := by
  rcases x with x | ⟨_, _, _, _, x⟩
  · cases x; rfl
  · cases x
theorem Tp.str {i : Str} {v : V} (x : Tp K kc io G H (.str i) v) : v = .str i := by
  rcases x with x | ⟨_, _, _, _, x⟩
  · cases x; rfl
  · cases x
theorem Tp.non {v : V} (x : Tp K kc io G H .non v) : v = .non := by
  rcases x with x | ⟨_, _, _, _, x⟩
  · cases x; rfl
  · cases x
theorem Tp.lst {ws : List W} {v : V} (S : Ls G H) (x : Tp K kc io G H (.lst ws) v) : ∃ a vs, v = .ref a ∧ H a = some (.lst vs) ∧ RpL K kc io G ws vs := by
  rcases x with x | ⟨a, o, e, h, x⟩
  · cases x with
    | lst h r => exact ⟨_, _, rfl, S _ _ h, r⟩
  · cases x with
    | lst r => exact ⟨a, _, e, h, r⟩
theorem Tp.scr {ws : List W} {v : V} (S : Ls G H) (x : Tp K kc io G H (.scr ws) v) : ∃ a vs, v = .ref a ∧ SqL K H a vs ∧ RpL K kc io G ws vs := by
  rcases x with x | ⟨a, o, e, h, x⟩
  · cases x with
    | scr h r => exact ⟨_, _, rfl, sql_le S.le h, r⟩
  · cases x
theorem Tp.tup {ws : List W} {v : V} (S : Ls G H) (x : Tp K kc io G H (.tup ws) v) : ∃ a vs, v = .ref a ∧ H a = some (.tup vs) ∧ RpL K kc io G ws vs := by
  rcases x with x | ⟨a, o, e, h, x⟩
  · cases x with
    | tup h r => exact ⟨_, _, rfl, S _ _ h, r⟩
  · cases x
theorem Tp.stp {ws : List W} {v : V} (S : Ls G H) (x : Tp K kc io G H (.stp ws) v) : ∃ a vs, v = .ref a ∧ SqT K H a vs ∧ RpL K kc io G ws vs := by
  rcases x with x | ⟨a, o, e, h, x⟩
  · cases x with
    | stp h r => exact ⟨_, _, rfl, sqt_le S.le h, r⟩
  · cases x
theorem Tp.dk {ws : List (W × W)} {v : V} (S : Ls G H) (x : Tp K kc io G H (.dct false ws) v) : ∃ a vs, v = .ref a ∧ Rd H a (.dK vs) ∧ RpD K kc io G ws vs := by
  rcases x with x | ⟨a, o, e, h, x⟩
  · cases x with
    | dk h r => exact ⟨_, _, rfl, S.le.rd h, r⟩
  · cases x with
    | dk r => exact ⟨a, _, e, .inl h, r⟩
theorem Tp.dt {ws : List (W × W)} {v : V} (S : Ls G H) (x : Tp K kc io G H (.dct true ws) v) : ∃ a vs, v = .ref a ∧ Rd H a (.dT vs) ∧ RpT K kc io G ws vs := by
  rcases x with x | ⟨a, o, e, h, x⟩
  · cases x with
    | dt h r => exact ⟨_, _, rfl, S.le.rd h, r⟩
  · cases x with
    | dt r => exact ⟨a, _, e, .inl h, r⟩
theorem Tp.ins {c : String} {fs : List (Str × W)} {v : V} (S : Ls G H) (x : Tp K kc io G H (.ins c fs) v) : ∃ a C dx fv, v = .ref a ∧ kc c = some C ∧ H a = some (.ins C dx fv) ∧ RpF K kc io G fs fv := by
  rcases x with x | ⟨a, o, e, h, x⟩
  · cases x with
    | ins c h r => exact ⟨_, _, _, _, rfl, c, S _ _ h, r⟩
  · cases x with
    | ins c r => exact ⟨a, _, _, _, e, c, h, r⟩
end
end MH

/-! What a piece of the text does, as a function; that the text does so. -/
namespace MH
open PySem L2

inductive R (S A : Type) where
  | ok (a : A) (s : S)
  | ex (c : String) (fs : List (Str × W)) (s : S)
  | no
def R.bind {S A B : Type} (r : R S A) (f : A → S → R S B) : R S B := match r with
  | .ok a s => f a s
  | .ex c fs s => .ex c fs s
  | .no => .no
inductive Fl where
  | nx
  | rt (w : W)
  | bk
  | ct

abbrev Ev := En → Sto → R Sto W
abbrev Pv := En → Sto → R Sto Hd
abbrev Tv := En → Sto → R Sto Bool
abbrev Av := En → Sto → R Sto (List W)
abbrev Hv := En → Sto → R Sto (List Hd)
abbrev Sv := En → Sto → R (En × Sto) Fl

def R.toS {A : Type} (en : En) (r : R Sto A) (k : A → Sto → R (En × Sto) Fl) : R (En × Sto) Fl := match r with
  | .ok a s => k a s
  | .ex c fs s => .ex c fs (en, s)
  | .no => .no
def R.seq (r : R (En × Sto) Fl) (k : Sv) : R (En × Sto) Fl := match r with
  | .ok .nx s => k s.1 s.2
  | .ok f s => .ok f s
  | .ex c fs s => .ex c fs s
  | .no => .no
def lift {A : Type} (o : Option A) (st : Sto) : R Sto A := match o with
  | some w => .ok w st
  | none => .no

/-- how a result stands to what the text has -/
abbrev Rel (A B : Type) := Hp → List Addr → Hp → En → St → Hp → A → B → Prop

section
variable (K : PySem.W.Frag) (kc : CT)
def relE : Rel W V := fun _ io G _ _ _ w v => Rp K kc io G w v
def relP : Rel Hd V := fun _ io G en σ _ h v => HdOk K kc io G en σ h v
def relF : Rel W V := fun Fz io G en σ H w v => ∃ p o, v = .ref p ∧ H p = some o ∧ G p = none ∧ Fz p = none ∧ p ∉ io ∧ (∀ (i : Nat) (w : W), en[i]? = some (some (true, w)) → σ[i]? ≠ some (some (V.ref p))) ∧ Nd K kc io G w o
def relT : Rel Bool Bool := fun _ _ _ _ _ _ a b => a = b
def relA : Rel (List W) (List V) := fun _ io G _ _ _ w v => RpL K kc io G w v
inductive HdsOk (io : List Addr) (G : Hp) (en : En) (σ : St) : List Hd → List V → Prop
  | nil : HdsOk io G en σ [] []
  | cons {h : Hd} {v : V} {hs : List Hd} {vs : List V} : HdOk K kc io G en σ h v → HdsOk io G en σ hs vs → HdsOk io G en σ (h :: hs) (v :: vs)
def relH : Rel (List Hd) (List V) := fun _ io G en σ _ h v => HdsOk K kc io G en σ h v

/-- the dict of an exception that flies -/
def XOk (io : List Addr) (G : Hp) (d : Option Addr) (fs : List (Str × W)) : Prop := (∃ a fv, d = some a ∧ G a = some (.xd fv) ∧ RpF K kc io G fs fv) ∨ (d = none ∧ fs = [])
def At {A B : Type} (Wx : WX) (rel : Rel A B) (Fz : Hp) (en : En) (G : Hp) (io : List Addr) (σ : St) (r : R Sto A) (t : (B → Hp → Prop) → Prop) : Prop :=
  (∀ a st', r = .ok a st' → ∀ Q : B → Hp → Prop, (∀ b G' io' H', Le G G' → io <+: io' → Sim K kc Fz en st' G' io' σ H' → rel Fz io' G' en σ H' a b → Q b H') → t Q) ∧
  (∀ c fs st', r = .ex c fs st' → ∀ Q : B → Hp → Prop, (∀ C d G' io' H', kc c = some C → Le G G' → io <+: io' → Sim K kc Fz en st' G' io' σ H' → XOk K kc io' G' d fs → Wx (.ref C) d σ H') → t Q)
def Oks {A B : Type} (Wx : WX) (rel : Rel A B) (m : En → Sto → R Sto A) (t : St → Hp → (B → Hp → Prop) → Prop) : Prop :=
  ∀ Fz en st G io σ H, Sim K kc Fz en st G io σ H → At K kc Wx rel Fz en G io σ (m en st) (t σ H)

def Post (Fz G : Hp) (io : List Addr) (fl : Fl) (s : En × Sto) (D : Ends) : Prop := match fl with
  | .nx => ∀ σ' G' io' H', Le G G' → io <+: io' → Sim K kc Fz s.1 s.2 G' io' σ' H' → D.nx σ' H'
  | .bk => ∀ σ' G' io' H', Le G G' → io <+: io' → Sim K kc Fz s.1 s.2 G' io' σ' H' → D.bk σ' H'
  | .ct => ∀ σ' G' io' H', Le G G' → io <+: io' → Sim K kc Fz s.1 s.2 G' io' σ' H' → D.ct σ' H'
  | .rt w => ∀ v σ' G' io' H', Le G G' → io <+: io' → Sim K kc Fz s.1 s.2 G' io' σ' H' → Rp K kc io' G' w v → D.rt v H'
def PostX (Wx : WX) (Fz G : Hp) (io : List Addr) (c : String) (fs : List (Str × W)) (s : En × Sto) : Prop :=
  ∀ C d σ' G' io' H', kc c = some C → Le G G' → io <+: io' → Sim K kc Fz s.1 s.2 G' io' σ' H' → XOk K kc io' G' d fs → Wx (.ref C) d σ' H'
def SAt (Wx : WX) (Fz G : Hp) (io : List Addr) (r : R (En × Sto) Fl) (t : Ends → Prop) : Prop :=
  (∀ fl s, r = .ok fl s → ∀ D : Ends, Post K kc Fz G io fl s D → t D) ∧
  (∀ c fs s, r = .ex c fs s → PostX K kc Wx Fz G io c fs s → ∀ D : Ends, t D)
def SOks (Wx : WX) (m : Sv) (t : TS) : Prop :=
  ∀ Fz en st G io σ H, Sim K kc Fz en st G io σ H → SAt K kc Wx Fz G io (m en st) (fun D => t D σ H)
end

section
variable {K : PySem.W.Frag} {kc : CT} {Wx : WX} {A B A' B' : Type} {rel : Rel A B} {rel' : Rel A' B'} {Fz : Hp} {en : En} {st : Sto} {G G1 : Hp} {io io1 : List Addr} {σ : St} {H : Hp}
theorem At.no {t : (B → Hp → Prop) → Prop} : At K kc Wx rel Fz en G io σ (.no : R Sto A) t := ⟨fun _ _ e => (nomatch e), fun _ _ _ e => (nomatch e)⟩
theorem At.bind {r : R Sto A} {t : (B → Hp → Prop) → Prop} {f : A → Sto → R Sto A'} {u : B → Hp → (B' → Hp → Prop) → Prop} (h : At K kc Wx rel Fz en G io σ r t)
    (hf : ∀ a st1 b G1 io1 H1, r = .ok a st1 → Le G G1 → io <+: io1 → Sim K kc Fz en st1 G1 io1 σ H1 → rel Fz io1 G1 en σ H1 a b → At K kc Wx rel' Fz en G1 io1 σ (f a st1) (u b H1)) :
    At K kc Wx rel' Fz en G io σ (r.bind f) (fun Q => t fun b H1 => u b H1 Q) := by
  cases r with
  | no => exact At.no
  | ex c fs s =>
    refine ⟨fun a st' e => (by cases e), fun c' fs' st' e Q hQ => ?_⟩
    cases e
    exact h.2 _ _ _ rfl _ hQ
  | ok a s =>
    refine ⟨fun a' st' e Q hQ => ?_, fun c' fs' st' e Q hQ => ?_⟩
    · refine h.1 a s rfl _ fun b G1 io1 H1 l p S rl => ?_
      exact (hf a s b G1 io1 H1 rfl l p S rl).1 a' st' e Q fun b' G' io' H' l' p' => hQ b' G' io' H' (l.trans l') (p.trans p')
    · refine h.1 a s rfl _ fun b G1 io1 H1 l p S rl => ?_
      exact (hf a s b G1 io1 H1 rfl l p S rl).2 c' fs' st' e Q fun C d G' io' H' k l' p' => hQ C d G' io' H' k (l.trans l') (p.trans p')
theorem At.pure {a : A} {b : B} (S : Sim K kc Fz en st G io σ H) (r : rel Fz io G en σ H a b) : At K kc Wx rel Fz en G io σ (.ok a st) (fun Q => Q b H) :=
  ⟨fun a' st' e Q hQ => (by cases e; exact hQ b G io H (Le.refl _) (pre_refl _) S r), fun _ _ _ e => (nomatch e)⟩
theorem At.mono {r : R Sto A} {t t' : (B → Hp → Prop) → Prop} (h : At K kc Wx rel Fz en G io σ r t) (m : ∀ Q, t Q → t' Q) : At K kc Wx rel Fz en G io σ r t' :=
  ⟨fun a st' e Q hQ => m Q (h.1 a st' e Q hQ), fun c fs st' e Q hQ => m Q (h.2 c fs st' e Q hQ)⟩
/-- only where something comes of it -/
theorem At.some {r : R Sto A} {t : (B → Hp → Prop) → Prop} (h : r ≠ .no → At K kc Wx rel Fz en G io σ r t) : At K kc Wx rel Fz en G io σ r t := by
  cases r with
  | no => exact At.no
  | ok a s => exact h (by intro z; cases z)
  | ex c fs s => exact h (by intro z; cases z)
/-- the result is weakened -/
theorem At.conv {r : R Sto A} {rel2 : Rel A' B} {f : A → A'} {t : (B → Hp → Prop) → Prop} (h : At K kc Wx rel Fz en G io σ r t)
    (hr : ∀ st' G' io' H' a b, Sim K kc Fz en st' G' io' σ H' → rel Fz io' G' en σ H' a b → ∃ G2, Le G' G2 ∧ Sim K kc Fz en st' G2 io' σ H' ∧ rel2 Fz io' G2 en σ H' (f a) b) :
    At K kc Wx rel2 Fz en G io σ (r.bind fun a s => .ok (f a) s) t := by
  cases r with
  | no => exact At.no
  | ex c fs s =>
    refine ⟨fun a st' e => (by cases e), fun c' fs' st' e Q hQ => ?_⟩
    cases e
    exact h.2 _ _ _ rfl _ hQ
  | ok a s =>
    refine ⟨fun a' st' e Q hQ => ?_, fun c' fs' st' e => by cases e⟩
    cases e
    refine h.1 a s rfl _ fun b G1 io1 H1 l p S rl => ?_
    obtain ⟨G2, l2, S2, r2⟩ := hr _ _ _ _ _ _ S rl
    exact hQ b G2 io1 H1 (l.trans l2) p S2 r2

theorem SAt.no {t : Ends → Prop} : SAt K kc Wx Fz G io .no t := ⟨fun _ _ e => (nomatch e), fun _ _ _ e => (nomatch e)⟩
theorem SAt.some {r : R (En × Sto) Fl} {t : Ends → Prop} (h : r ≠ .no → SAt K kc Wx Fz G io r t) : SAt K kc Wx Fz G io r t := by
  cases r with
  | no => exact SAt.no
  | ok a s => exact h (by intro z; cases z)
  | ex c fs s => exact h (by intro z; cases z)
theorem Post.later {fl : Fl} {s : En × Sto} {D : Ends} (l : Le G G1) (p : io <+: io1) (h : Post K kc Fz G io fl s D) : Post K kc Fz G1 io1 fl s D := by
  cases fl with
  | nx => exact fun σ' G' io' H' l' p' => h σ' G' io' H' (l.trans l') (p.trans p')
  | bk => exact fun σ' G' io' H' l' p' => h σ' G' io' H' (l.trans l') (p.trans p')
  | ct => exact fun σ' G' io' H' l' p' => h σ' G' io' H' (l.trans l') (p.trans p')
  | rt w => exact fun v σ' G' io' H' l' p' => h v σ' G' io' H' (l.trans l') (p.trans p')
theorem PostX.later {c : String} {fs : List (Str × W)} {s : En × Sto} (l : Le G G1) (p : io <+: io1) (h : PostX K kc Wx Fz G io c fs s) : PostX K kc Wx Fz G1 io1 c fs s :=
  fun C d σ' G' io' H' k l' p' => h C d σ' G' io' H' k (l.trans l') (p.trans p')
/-- an expression, then what is done with its value -/
theorem At.toS {r : R Sto A} {t : (B → Hp → Prop) → Prop} {k : A → Sto → R (En × Sto) Fl} {u : Ends → B → Hp → Prop} (h : At K kc Wx rel Fz en G io σ r t)
    (hf : ∀ a st1 b G1 io1 H1, r = .ok a st1 → Le G G1 → io <+: io1 → Sim K kc Fz en st1 G1 io1 σ H1 → rel Fz io1 G1 en σ H1 a b → SAt K kc Wx Fz G1 io1 (k a st1) (fun D => u D b H1)) :
    SAt K kc Wx Fz G io (r.toS en k) (fun D => t (u D)) := by
  cases r with
  | no => exact SAt.no
  | ex c fs s =>
    refine ⟨fun fl s' e => (by cases e), fun c' fs' s' e hX D => ?_⟩
    cases e
    exact h.2 _ _ _ rfl _ fun C d G' io' H' k' l p S xo => hX C d σ G' io' H' k' l p S xo
  | ok a s =>
    refine ⟨fun fl s' e D hD => ?_, fun c' fs' s' e hX D => ?_⟩
    · refine h.1 a s rfl _ fun b G1 io1 H1 l p S rl => ?_
      exact (hf a s b G1 io1 H1 rfl l p S rl).1 fl s' e D (hD.later l p)
    · refine h.1 a s rfl _ fun b G1 io1 H1 l p S rl => ?_
      exact (hf a s b G1 io1 H1 rfl l p S rl).2 c' fs' s' e (hX.later l p) D
theorem SAt.seq {r : R (En × Sto) Fl} {t : Ends → Prop} {k : Sv} {u : Ends → St → Hp → Prop} (h : SAt K kc Wx Fz G io r t)
    (hk : ∀ s σ1 G1 io1 H1, r = .ok .nx s → Le G G1 → io <+: io1 → Sim K kc Fz s.1 s.2 G1 io1 σ1 H1 → SAt K kc Wx Fz G1 io1 (k s.1 s.2) (fun D => u D σ1 H1)) :
    SAt K kc Wx Fz G io (r.seq k) (fun D => t { D with nx := u D }) := by
  cases r with
  | no => exact SAt.no
  | ex c fs s =>
    refine ⟨fun fl s' e => (by cases e), fun c' fs' s' e hX D => ?_⟩
    cases e
    exact h.2 _ _ _ rfl hX _
  | ok fl s =>
    cases fl with
    | nx =>
      refine ⟨fun fl s' e D hD => ?_, fun c' fs' s' e hX D => ?_⟩
      · refine h.1 .nx s rfl _ fun σ1 G1 io1 H1 l p S => ?_
        exact (hk s σ1 G1 io1 H1 rfl l p S).1 fl s' e D (hD.later l p)
      · refine h.1 .nx s rfl _ fun σ1 G1 io1 H1 l p S => ?_
        exact (hk s σ1 G1 io1 H1 rfl l p S).2 c' fs' s' e (hX.later l p) D
    | rt w => exact ⟨fun fl s' e D hD => (by cases e; exact h.1 _ _ rfl _ hD), fun c' fs' s' e => (by cases e)⟩
    | bk => exact ⟨fun fl s' e D hD => (by cases e; exact h.1 _ _ rfl _ hD), fun c' fs' s' e => (by cases e)⟩
    | ct => exact ⟨fun fl s' e D hD => (by cases e; exact h.1 _ _ rfl _ hD), fun c' fs' s' e => (by cases e)⟩
end

/-! ### the judgements over the text -/
section
variable (X : Cx) (kc : CT) (Wx : WX)
def EX (e : Expr) (m : Ev) : Prop := ∃ t, PE X e t ∧ Oks X.K kc Wx (relE X.K kc) m t
def FX (e : Expr) (m : Ev) : Prop := ∃ t, PE X e t ∧ Oks X.K kc Wx (relF X.K kc) m t
def PX (e : Expr) (m : Pv) : Prop := ∃ t, PE X e t ∧ Oks X.K kc Wx (relP X.K kc) m t
def TX (e : Expr) (m : Tv) : Prop := ∃ t, PT X e t ∧ Oks X.K kc Wx relT m t
def WXt (e : Expr) (m : Tv) : Prop := ∃ t, PW X e t ∧ Oks X.K kc Wx relT m t
def AX (es : List Expr) (m : Av) : Prop := ∃ t, PA X es t ∧ Oks X.K kc Wx (relA X.K kc) m t
def HX (es : List Expr) (m : Hv) : Prop := ∃ t, PA X es t ∧ Oks X.K kc Wx (relH X.K kc) m t
def SX (s : Stmt) (m : Sv) : Prop := ∃ t, PS X s t ∧ SOks X.K kc Wx m t
def SXs (s : List Stmt) (m : Sv) : Prop := ∃ t, PSs X s t ∧ SOks X.K kc Wx m t
end
section
variable {X : Cx} {kc : CT} {Wx : WX} {e : Expr}
/-- a fresh thing is frozen -/
theorem relF_frz {K : PySem.W.Frag} {Fz : Hp} {en : En} {st : Sto} {G : Hp} {io : List Addr} {σ : St} {H : Hp} {w : W} {v : V} (S : Sim K kc Fz en st G io σ H) (r : relF K kc Fz io G en σ H w v) : ∃ G2, Le G G2 ∧ Sim K kc Fz en st G2 io σ H ∧ Rp K kc io G2 w v := by
  obtain ⟨p, o, rfl, hp, gp, fp, ip, ep, nd⟩ := r
  exact ⟨upd G p o, upd_le gp, S.frzF hp gp fp ip ep, (nd.mono (upd_le gp) (pre_refl _)).rp upd_same⟩
theorem At.frz {K : PySem.W.Frag} {Fz : Hp} {en : En} {G : Hp} {io : List Addr} {σ : St} {r : R Sto W} {t : (V → Hp → Prop) → Prop} (h : At K kc Wx (relF K kc) Fz en G io σ r t) : At K kc Wx (relE K kc) Fz en G io σ r t := by
  refine ⟨fun a st' e Q hQ => h.1 a st' e Q fun b G' io' H' l p S r => ?_, fun c fs st' e Q hQ => h.2 c fs st' e Q hQ⟩
  obtain ⟨G2, l2, S2, r2⟩ := relF_frz S r
  exact hQ b G2 io' H' (l.trans l2) p S2 r2
theorem FX.ex {m : Ev} (h : FX X kc Wx e m) : EX X kc Wx e m := by
  obtain ⟨t, h1, h2⟩ := h
  exact ⟨t, h1, fun Fz en st G io σ H S => (h2 Fz en st G io σ H S).frz⟩
def Ev.pk (m : Ev) : Pv := fun en st => (m en st).bind fun w s => .ok (.fz w) s
theorem EX.px {m : Ev} (h : EX X kc Wx e m) : PX X kc Wx e m.pk := by
  obtain ⟨t, h1, h2⟩ := h
  exact ⟨t, h1, fun Fz en st G io σ H S => (h2 Fz en st G io σ H S).conv (f := Hd.fz) fun st' G' io' H' a b S' r => ⟨G', Le.refl _, S', r⟩⟩
end
end MH

/-! Expressions. -/
namespace MH
open PySem L2

def fit (n : Nat) : Bool := decide (n ≤ 100000)
theorem fit_line {n : Nat} (h : fit n = true) : n ≤ sizeLine := Nat.le_trans (of_decide_eq_true h) (by decide)
theorem fit_lt {n : Nat} (h : fit n = true) : n < sizeLine := Nat.lt_of_le_of_lt (of_decide_eq_true h) (by decide)

section
variable {K : PySem.W.Frag} {kc : CT} {io : List Addr} {G H : Hp}
theorem RpL.length : ∀ {ws : List W} {vs : List V}, RpL K kc io G ws vs → ws.length = vs.length
  | _, _, .nil => rfl
  | _, _, .cons _ r => by rw [List.length_cons, List.length_cons, RpL.length r]
theorem RpL.append : ∀ {ws us : List W} {vs xs : List V}, RpL K kc io G ws vs → RpL K kc io G us xs → RpL K kc io G (ws ++ us) (vs ++ xs)
  | _, _, _, _, .nil, s => s
  | _, _, _, _, .cons h r, s => .cons h (RpL.append r s)
theorem RpL.take : ∀ {ws : List W} {vs : List V} (n : Nat), RpL K kc io G ws vs → RpL K kc io G (ws.take n) (vs.take n)
  | _, _, 0, _ => .nil
  | _, _, _ + 1, .nil => .nil
  | _, _, n + 1, .cons h r => .cons h (RpL.take n r)
theorem RpL.drop : ∀ {ws : List W} {vs : List V} (n : Nat), RpL K kc io G ws vs → RpL K kc io G (ws.drop n) (vs.drop n)
  | _, _, 0, r => r
  | _, _, _ + 1, .nil => .nil
  | _, _, n + 1, .cons _ r => RpL.drop n r
theorem RpL.get : ∀ {ws : List W} {vs : List V} {n : Nat} {w : W}, RpL K kc io G ws vs → ws[n]? = some w → ∃ v, vs[n]? = some v ∧ Rp K kc io G w v
  | _, _, _, _, .nil, e => by simp at e
  | _, _, 0, _, .cons h _, e => by simp at e; subst e; exact ⟨_, rfl, h⟩
  | _, _, n + 1, _, .cons _ r, e => by
    obtain ⟨v, e1, h⟩ := RpL.get (n := n) r (by simpa using e)
    exact ⟨v, by simpa using e1, h⟩
theorem RpL.getV : ∀ {ws : List W} {vs : List V} {n : Nat} {v : V}, RpL K kc io G ws vs → vs[n]? = some v → ∃ w, ws[n]? = some w ∧ Rp K kc io G w v
  | _, _, _, _, .nil, e => by simp at e
  | _, _, 0, _, .cons h _, e => by simp at e; subst e; exact ⟨_, rfl, h⟩
  | _, _, n + 1, _, .cons _ r, e => by
    obtain ⟨v, e1, h⟩ := RpL.getV (n := n) r (by simpa using e)
    exact ⟨v, by simpa using e1, h⟩
theorem RpL.set {w : W} {v : V} (q : Rp K kc io G w v) : ∀ {ws : List W} {vs : List V} (n : Nat), RpL K kc io G ws vs → RpL K kc io G (ws.set n w) (vs.set n v)
  | _, _, _, .nil => .nil
  | _, _, 0, .cons _ r => .cons q r
  | _, _, n + 1, .cons h r => .cons h (RpL.set q n r)
theorem RpL.rev : ∀ {ws : List W} {vs : List V}, RpL K kc io G ws vs → RpL K kc io G ws.reverse vs.reverse
  | _, _, .nil => .nil
  | _, _, .cons h r => by
    rw [List.reverse_cons, List.reverse_cons]
    exact RpL.append (RpL.rev r) (.cons h .nil)
theorem RpL.rep {ws : List W} {vs : List V} (r : RpL K kc io G ws vs) : ∀ n : Nat, RpL K kc io G (List.replicate n ws).flatten (List.replicate n vs).flatten
  | 0 => .nil
  | n + 1 => by
    rw [List.replicate_succ, List.replicate_succ, List.flatten_cons, List.flatten_cons]
    exact RpL.append r (RpL.rep r n)
theorem RpL.nil_iff {ws : List W} {vs : List V} (r : RpL K kc io G ws vs) : ws = [] ↔ vs = [] := by
  cases r <;> simp
end

section
variable {K : PySem.W.Frag} {kc : CT} {Wx : WX} {Fz : Hp} {en : En} {st : Sto} {G : Hp} {io : List Addr} {σ : St} {H : Hp}
theorem At.new {w : W} {o : HO} (S : Sim K kc Fz en st G io σ H) (rp : ∀ p, H p = none → Rp K kc io (upd G p o) w (.ref p)) : At K kc Wx (relE K kc) Fz en G io σ (.ok w st) (fun Q => ∀ p, H p = none → Q (.ref p) (upd H p o)) :=
  ⟨fun a' st' e Q hQ p hp => (by cases e; exact hQ _ (upd G p o) io _ (upd_le (le_none S.gs hp)) (pre_refl _) (S.alloc hp) (rp p hp)), fun _ _ _ e => (nomatch e)⟩
theorem At.newF {w : W} {o : HO} (S : Sim K kc Fz en st G io σ H) (nd : Nd K kc io G w o) : At K kc Wx (relF K kc) Fz en G io σ (.ok w st) (fun Q => ∀ p, H p = none → Q (.ref p) (upd H p o)) :=
  ⟨fun a' st' e Q hQ p hp => (by
    cases e
    refine hQ _ G io _ (Le.refl _) (pre_refl _) (S.allocF hp) ⟨p, o, rfl, upd_same, le_none S.gs hp, le_none S.fs hp, S.io_free hp, fun i w ei es => ?_, nd⟩
    obtain ⟨a, o, e1, _, _, _, e5, _⟩ := S.ow i w ei
    rw [es] at e1; cases e1
    rw [hp] at e5; cases e5), fun _ _ _ e => (nomatch e)⟩
theorem new_tup {p : Addr} {ws : List W} {vs : List V} (S : Sim K kc Fz en st G io σ H) (r : RpL K kc io G ws vs) (hp : H p = none) : Rp K kc io (upd G p (.tup vs)) (.tup ws) (.ref p) :=
  .tup upd_same (r.mono (upd_le (le_none S.gs hp)) (pre_refl _))
theorem new_lst {p : Addr} {ws : List W} {vs : List V} (S : Sim K kc Fz en st G io σ H) (r : RpL K kc io G ws vs) (hp : H p = none) : Rp K kc io (upd G p (.lst vs)) (.lst ws) (.ref p) :=
  .lst upd_same (r.mono (upd_le (le_none S.gs hp)) (pre_refl _))
theorem At.orL {r : R Sto W} {t t' : (V → Hp → Prop) → Prop} {rel : Rel W V} (h : At K kc Wx rel Fz en G io σ r t) : At K kc Wx rel Fz en G io σ r (fun Q => t Q ∨ t' Q) := h.mono fun _ z => .inl z
theorem At.orR {r : R Sto W} {t t' : (V → Hp → Prop) → Prop} {rel : Rel W V} (h : At K kc Wx rel Fz en G io σ r t') : At K kc Wx rel Fz en G io σ r (fun Q => t Q ∨ t' Q) := h.mono fun _ z => .inr z
end

/-! ### operators by values -/
def OpK (K : PySem.W.Frag) (kc : CT) (r : R2) (f : W → W → Option W) : Prop := ∀ Wx Fz en st G io σ H x y w1 w2, Sim K kc Fz en st G io σ H → Tp K kc io G H w1 x → Tp K kc io G H w2 y → At K kc Wx (relE K kc) Fz en G io σ (lift (f w1 w2) st) (r x y H)

def addW : W → W → Option W
  | .int i, .int j => some (.int (i + j))
  | .str a, .str b => if fit (a.length + b.length) then some (.str (a ++ b)) else none
  | .tup a, .tup b => if fit (a.length + b.length) then some (.tup (a ++ b)) else none
  | .lst a, .lst b => if fit (a.length + b.length) then some (.lst (a ++ b)) else none
  | _, _ => none
def rAddW (K : PySem.W.Frag) : R2 := fun x y H Q => (rI0 fun i j => .int (i + j)) x y H Q ∨ (fun (x y : V) (H : Hp) (Q : VK) => ∃ i j, x = .str i ∧ y = .str j ∧ i.length + j.length ≤ sizeLine ∧ Q (.str (i ++ j)) H) x y H Q ∨ rCatA K x y H Q ∨ rCat x y H Q
theorem op_addW {X : Cx} : OpR X (binaryOp .Add) (rAddW X.K) := op_add.or (op_add_str.or (op_catA.or op_cat))
theorem opk_add {K : PySem.W.Frag} {kc : CT} : OpK K kc (rAddW K) addW := by
  intro Wx Fz en st G io σ H x y w1 w2 S t1 t2
  unfold addW
  split
  · cases t1.int; cases t2.int
    exact (At.pure S (Rp.int _)).mono fun Q q => .inl ⟨_, _, rfl, rfl, q⟩
  · cases t1.str; cases t2.str
    split
    · rename_i h
      exact (At.pure S (Rp.str _)).mono fun Q q => .inr (.inl ⟨_, _, rfl, rfl, fit_line h, q⟩)
    · exact At.no
  · obtain ⟨a, vs, rfl, h1, r1⟩ := t1.tup S.gs
    obtain ⟨b, us, rfl, h2, r2⟩ := t2.tup S.gs
    split
    · rename_i h
      rw [r1.length, r2.length] at h
      by_cases e1 : vs = []
      · refine (At.pure (a := W.tup _) (b := V.ref b) S (?_ : relE K kc Fz io G en σ H _ _)).mono fun Q q => .inr (.inr (.inl ⟨a, b, vs, us, rfl, rfl, .inl (.inl h1), .inl (.inl h2), fit_line h, fun _ => q, fun z => (z e1).elim, fun z => (z e1).elim⟩))
        rw [r1.nil_iff.mpr e1]
        rcases t2 with t2 | ⟨_, _, _, _, t2⟩
        · exact t2
        · cases t2
      · by_cases e2 : us = []
        · refine (At.pure (a := W.tup _) (b := V.ref a) S (?_ : relE K kc Fz io G en σ H _ _)).mono fun Q q => .inr (.inr (.inl ⟨a, b, vs, us, rfl, rfl, .inl (.inl h1), .inl (.inl h2), fit_line h, fun z => (e1 z).elim, fun _ _ => q, fun _ z => (z e2).elim⟩))
          rw [r2.nil_iff.mpr e2, List.append_nil]
          rcases t1 with t1 | ⟨_, _, _, _, t1⟩
          · exact t1
          · cases t1
        · exact (At.new S fun p hp => new_tup S (r1.append r2) hp).mono fun Q q => .inr (.inr (.inl ⟨a, b, vs, us, rfl, rfl, .inl (.inl h1), .inl (.inl h2), fit_line h, fun z => (e1 z).elim, fun _ z => (e2 z).elim, fun _ _ => q⟩))
    · exact At.no
  · obtain ⟨a, vs, rfl, h1, r1⟩ := t1.lst S.gs
    obtain ⟨b, us, rfl, h2, r2⟩ := t2.lst S.gs
    split
    · rename_i h
      rw [r1.length, r2.length] at h
      exact (At.new S fun p hp => new_lst S (r1.append r2) hp).mono fun Q q => .inr (.inr (.inr ⟨a, b, vs, us, rfl, rfl, h1, h2, fit_line h, q⟩))
    · exact At.no
  · exact At.no

def E.bin (f : W → W → Option W) (p q : Pv) : Ev := fun en st => (p en st).bind fun h1 s1 => (q en s1).bind fun h2 s2 => lift (f (view en s2 h1) (view en s2 h2)) s2
section
variable {X : Cx} {kc : CT} {Wx : WX} {a b : Expr} {pos : Pos}
theorem oks_op {r : R2} {f : W → W → Option W} {ma mb : Pv} {ta tb : TE} {K : PySem.W.Frag} (hk : OpK K kc r f) (ha : Oks K kc Wx (relP K kc) ma ta) (hb : Oks K kc Wx (relP K kc) mb tb) : Oks K kc Wx (relE K kc) (E.bin f ma mb) (tOp r ta tb) := by
  intro Fz en st G io σ H S
  refine (ha Fz en st G io σ H S).bind fun h1 s1 x G1 io1 H1 e1 l1 p1 S1 r1 => ?_
  refine (hb Fz en s1 G1 io1 σ H1 S1).bind fun h2 s2 y G2 io2 H2 e2 l2 p2 S2 r2 => ?_
  exact hk _ _ _ _ _ _ _ _ _ _ _ _ S2 (view_of S2 (HdOk.mono l2 p2 r1)) (view_of S2 r2)
theorem ex_op {op : Operator} {r : R2} {f : W → W → Option W} {ma mb : Pv} (ho : OpR X (binaryOp op) r) (hk : OpK X.K kc r f) (ha : PX X kc Wx a ma) (hb : PX X kc Wx b mb) : EX X kc Wx (.BinOp a op b pos) (E.bin f ma mb) := by
  obtain ⟨ta, a1, a2⟩ := ha
  obtain ⟨tb, b1, b2⟩ := hb
  exact ⟨_, pe_op ho a1 b1, oks_op hk a2 b2⟩
theorem ex_cmp {op : CmpOp} {r : R2} {f : W → W → Option W} {ma mb : Pv} (ho : OpR X (compareOp op) r) (hk : OpK X.K kc r f) (ha : PX X kc Wx a ma) (hb : PX X kc Wx b mb) (hm : behindInMarks op b = false) : EX X kc Wx (.Compare a [op] [b] pos) (E.bin f ma mb) := by
  obtain ⟨ta, a1, a2⟩ := ha
  obtain ⟨tb, b1, b2⟩ := hb
  exact ⟨_, pe_cmpR ho a1 b1 hm, oks_op hk a2 b2⟩
def blW : W → Option Bool
  | .bl b => some b
  | _ => none
def T.val (m : Ev) : Tv := fun en st => (m en st).bind fun w s => lift (blW w) s
theorem oks_test {m : Ev} {t : TE} {K : PySem.W.Frag} (h : Oks K kc Wx (relE K kc) m t) : Oks K kc Wx relT (T.val m) (tTest t) := by
  intro Fz en st G io σ H S
  refine (h Fz en st G io σ H S).bind fun w s1 x G1 io1 H1 e1 l1 p1 S1 r1 => ?_
  unfold blW
  split
  · cases r1
    exact (At.pure S1 (rfl : relT _ _ _ _ _ _ _ _)).mono fun Q q => ⟨_, rfl, q⟩
  · exact At.no
theorem tx_cmp {op : CmpOp} {r : R2} {f : W → W → Option W} {ma mb : Pv} (ho : OpR X (compareOp op) r) (hk : OpK X.K kc r f) (ha : PX X kc Wx a ma) (hb : PX X kc Wx b mb) (hm : behindInMarks op b = false) : TX X kc Wx (.Compare a [op] [b] pos) (T.val (E.bin f ma mb)) := by
  obtain ⟨ta, a1, a2⟩ := ha
  obtain ⟨tb, b1, b2⟩ := hb
  exact ⟨_, pt_cmpR ho a1 b1 hm, oks_test (oks_op hk a2 b2)⟩
/-- a value that is True or False, as a test -/
theorem tx_val {e : Expr} {m : Ev} (h : EX X kc Wx e m) (he : ∀ whole, isTrue e X.env whole = (do let v ← whole; standAt e.pos; holding [v] (truthy v)) := by intro _; rfl) : TX X kc Wx e (T.val m) := by
  obtain ⟨t, h1, h2⟩ := h
  exact ⟨_, pt_val h1 he, oks_test h2⟩
def T.not (m : Tv) : Tv := fun en st => (m en st).bind fun b s => .ok (!b) s
theorem tx_not {m : Tv} (h : TX X kc Wx a m) : TX X kc Wx (.UnaryOp .Not a pos) (T.not m) := by
  obtain ⟨t, h1, h2⟩ := h
  refine ⟨_, pt_not h1, fun Fz en st G io σ H S => ?_⟩
  refine (h2 Fz en st G io σ H S).bind fun w s1 x G1 io1 H1 e1 l1 p1 S1 r1 => ?_
  cases r1
  exact At.pure S1 rfl
def T.and (m k : Tv) : Tv := fun en st => (m en st).bind fun b s => if b then k en s else .ok false s
def T.or (m k : Tv) : Tv := fun en st => (m en st).bind fun b s => if b then .ok true s else k en s
theorem wx_and1 {m : Tv} (h : TX X kc Wx a m) : WXt X kc Wx (.BoolOp .And [a] pos) m := by
  obtain ⟨t, h1, h2⟩ := h
  exact ⟨t, pw_and1 h1, h2⟩
theorem wx_or1 {m : Tv} (h : TX X kc Wx a m) : WXt X kc Wx (.BoolOp .Or [a] pos) m := by
  obtain ⟨t, h1, h2⟩ := h
  exact ⟨t, pw_or1 h1, h2⟩
theorem wx_and {m k : Tv} {b : Expr} {rest : List Expr} (h : TX X kc Wx a m) (h' : WXt X kc Wx (.BoolOp .And (b :: rest) pos) k) : WXt X kc Wx (.BoolOp .And (a :: b :: rest) pos) (T.and m k) := by
  obtain ⟨t, h1, h2⟩ := h
  obtain ⟨t', h1', h2'⟩ := h'
  refine ⟨_, pw_and h1 h1', fun Fz en st G io σ H S => ?_⟩
  refine (h2 Fz en st G io σ H S).bind fun w s1 x G1 io1 H1 e1 l1 p1 S1 r1 => ?_
  cases r1
  cases w with
  | true => exact (h2' Fz en s1 G1 io1 σ H1 S1).mono fun Q q => (by rw [if_pos rfl]; exact q)
  | false => exact (At.pure S1 (rfl : relT _ _ _ _ _ _ _ _)).mono fun Q q => (by rw [if_neg (by decide)]; exact q)
theorem wx_or {m k : Tv} {b : Expr} {rest : List Expr} (h : TX X kc Wx a m) (h' : WXt X kc Wx (.BoolOp .Or (b :: rest) pos) k) : WXt X kc Wx (.BoolOp .Or (a :: b :: rest) pos) (T.or m k) := by
  obtain ⟨t, h1, h2⟩ := h
  obtain ⟨t', h1', h2'⟩ := h'
  refine ⟨_, pw_or h1 h1', fun Fz en st G io σ H S => ?_⟩
  refine (h2 Fz en st G io σ H S).bind fun w s1 x G1 io1 H1 e1 l1 p1 S1 r1 => ?_
  cases r1
  cases w with
  | true => exact (At.pure S1 (rfl : relT _ _ _ _ _ _ _ _)).mono fun Q q => (by rw [if_pos rfl]; exact q)
  | false => exact (h2' Fz en s1 G1 io1 σ H1 S1).mono fun Q q => (by rw [if_neg (by decide)]; exact q)
theorem tx_bool {e : Expr} {m : Tv} (h : WXt X kc Wx e m) : TX X kc Wx e m := by
  obtain ⟨t, h1, h2⟩ := h
  exact ⟨t, h1.pt, h2⟩
end
end MH

/-! Names, calls, statements. -/
namespace MH
open PySem L2

/-! ### names and constants -/
def E.var (i : Nat) : Ev := fun en st => match en[i]? with
  | some (some (false, w)) => .ok w st
  | _ => .no
def P.var (i : Nat) : Pv := fun en st => match en[i]? with
  | some (some (false, w)) => .ok (.fz w) st
  | some (some (true, _)) => .ok (.sl i) st
  | _ => .no
def E.c (w : W) : Ev := fun _ st => .ok w st
section
variable {X : Cx} {kc : CT} {Wx : WX} {e a b : Expr} {es : List Expr} {pos : Pos}
theorem ex_var (i : Nat) {x : Str} (hN : X.N[i]? = some x := by rfl) (hv : Vis X.env.scope x := by first | exact Or.inl rfl | exact Or.inr (Or.inl rfl) | exact Or.inr (Or.inr rfl)) (hd : (x == ("__debug__" : Str)) = false := by decide)
    (hcd : (x == ("__classdict__" : Str)) = false := by decide) : EX X kc Wx (.Name x pos) (E.var i) := by
  refine ⟨_, pe_var hN hv hd hcd, fun Fz en st G io σ H S => ?_⟩
  unfold E.var
  split
  · rename_i w ew
    obtain ⟨v, e1, r⟩ := S.sl i w ew
    exact (At.pure S r).mono fun Q q => ⟨v, e1, q⟩
  · exact At.no
theorem px_var (i : Nat) {x : Str} (hN : X.N[i]? = some x := by rfl) (hv : Vis X.env.scope x := by first | exact Or.inl rfl | exact Or.inr (Or.inl rfl) | exact Or.inr (Or.inr rfl)) (hd : (x == ("__debug__" : Str)) = false := by decide)
    (hcd : (x == ("__classdict__" : Str)) = false := by decide) : PX X kc Wx (.Name x pos) (P.var i) := by
  refine ⟨_, pe_var hN hv hd hcd, fun Fz en st G io σ H S => ?_⟩
  unfold P.var
  split
  · rename_i w ew
    obtain ⟨v, e1, r⟩ := S.sl i w ew
    exact (At.pure S (rel := relP X.K kc) (a := .fz w) r).mono fun Q q => ⟨v, e1, q⟩
  · rename_i w ew
    obtain ⟨a, o, e1, _⟩ := S.ow i w ew
    exact (At.pure S (rel := relP X.K kc) (a := .sl i) (b := .ref a) ⟨⟨w, ew⟩, e1⟩).mono fun Q q => ⟨_, e1, q⟩
  · exact At.no
theorem ex_c {w : W} {v : V} (h : PE X e (tC v)) (r : ∀ io G, Rp X.K kc io G w v) : EX X kc Wx e (E.c w) :=
  ⟨_, h, fun Fz en st G io σ H S => (At.pure S (r io G))⟩
theorem ex_int {i : Int} {j : Nat} : EX X kc Wx (.Constant (.int i) j pos) (E.c (.int i)) := ex_c pe_int fun _ _ => .int i
theorem ex_str {s : Str} {j : Nat} : EX X kc Wx (.Constant (.str s) j pos) (E.c (.str s)) := ex_c pe_str fun _ _ => .str s
theorem ex_bl {s : Bool} {j : Nat} : EX X kc Wx (.Constant (.bool s) j pos) (E.c (.bl s)) := ex_c pe_bl fun _ _ => .bl s
theorem ex_non {j : Nat} : EX X kc Wx (.Constant .none j pos) (E.c .non) := ex_c pe_non fun _ _ => .non
/-- a constant of the module -/
theorem ex_glob {x : Str} {w : W} {v : V} {u : Value} (hm : X.mg x = some u) (rv : RelV v u) (r : ∀ io G, Rp X.K kc io G w v) (hg : Gl X x := by rfl) (hd : (x == ("__debug__" : Str)) = false := by decide) : EX X kc Wx (.Name x pos) (E.c w) := ex_c (pe_glob hg hm rv hd) r
/-- a built-in class as a value -/
theorem ex_ty {x : Str} {n : String} (hm : X.mg x = none) (hv : bootBuiltins x = some (.type n)) (hg : Gl X x := by rfl) (hn : x ≠ "__name__" := by decide) (hd : (x == ("__debug__" : Str)) = false := by decide) : EX X kc Wx (.Name x pos) (E.c (.ty n)) :=
  ex_c (v := .ty n) (pe_bltn hg hm hv rfl hn hd) fun _ _ => .ty n

/-! ### lists of arguments -/
def A.nil : Av := fun _ st => .ok [] st
def A.cons (m : Ev) (k : Av) : Av := fun en st => (m en st).bind fun w s => (k en s).bind fun ws s' => .ok (w :: ws) s'
theorem ax_nil : AX X kc Wx [] A.nil := ⟨_, pa_nil, fun Fz en st G io σ H S => At.pure S (rel := relA X.K kc) .nil⟩
theorem ax_cons {m : Ev} {k : Av} (h : EX X kc Wx e m) (h' : AX X kc Wx es k) (hs : starEach (e :: es) X.env = (false, eval e X.env) :: starEach es X.env := by rfl) : AX X kc Wx (e :: es) (A.cons m k) := by
  obtain ⟨t, h1, h2⟩ := h
  obtain ⟨t', h1', h2'⟩ := h'
  refine ⟨_, pa_cons h1 h1' hs, fun Fz en st G io σ H S => ?_⟩
  refine (h2 Fz en st G io σ H S).bind fun w s1 x G1 io1 H1 e1 l1 p1 S1 r1 => ?_
  refine (h2' Fz en s1 G1 io1 σ H1 S1).bind fun ws s2 xs G2 io2 H2 e2 l2 p2 S2 r2 => ?_
  exact At.pure S2 (rel := relA X.K kc) (.cons (r1.mono l2 p2) r2)
def Hs.nil : Hv := fun _ st => .ok [] st
def Hs.cons (m : Pv) (k : Hv) : Hv := fun en st => (m en st).bind fun w s => (k en s).bind fun ws s' => .ok (w :: ws) s'
theorem hx_nil : HX X kc Wx [] Hs.nil := ⟨_, pa_nil, fun Fz en st G io σ H S => At.pure S (rel := relH X.K kc) .nil⟩
theorem hx_cons {m : Pv} {k : Hv} (h : PX X kc Wx e m) (h' : HX X kc Wx es k) (hs : starEach (e :: es) X.env = (false, eval e X.env) :: starEach es X.env := by rfl) : HX X kc Wx (e :: es) (Hs.cons m k) := by
  obtain ⟨t, h1, h2⟩ := h
  obtain ⟨t', h1', h2'⟩ := h'
  refine ⟨_, pa_cons h1 h1' hs, fun Fz en st G io σ H S => ?_⟩
  refine (h2 Fz en st G io σ H S).bind fun w s1 x G1 io1 H1 e1 l1 p1 S1 r1 => ?_
  refine (h2' Fz en s1 G1 io1 σ H1 S1).bind fun ws s2 xs G2 io2 H2 e2 l2 p2 S2 r2 => ?_
  exact At.pure S2 (rel := relH X.K kc) (.cons (HdOk.mono l2 p2 r1) r2)

/-! ### displays -/
def E.tup (m : Av) : Ev := fun en st => (m en st).bind fun ws s => if fit ws.length then .ok (.tup ws) s else .no
theorem ex_tup {m : Av} {x1 : Nat} (h : AX X kc Wx es m) : EX X kc Wx (.Tuple es x1 pos) (E.tup m) := by
  obtain ⟨t, h1, h2⟩ := h
  refine ⟨_, pe_tup h1, fun Fz en st G io σ H S => ?_⟩
  refine (h2 Fz en st G io σ H S).bind fun ws s1 xs G1 io1 H1 e1 l1 p1 S1 r1 => ?_
  by_cases hf : fit ws.length = true
  · rw [if_pos hf]
    have hl : ws.length = xs.length := RpL.length r1
    exact (At.new S1 fun p hp => new_tup S1 r1 hp).mono fun Q q => ⟨hl ▸ fit_line hf, q⟩
  · rw [if_neg hf]
    exact At.no
def E.lst (m : Av) : Ev := fun en st => (m en st).bind fun ws s => if fit ws.length then .ok (.lst ws) s else .no
theorem fx_lst {m : Av} (h : AX X kc Wx es m) : FX X kc Wx (.List es pos) (E.lst m) := by
  obtain ⟨t, h1, h2⟩ := h
  refine ⟨_, pe_lst h1, fun Fz en st G io σ H S => ?_⟩
  refine (h2 Fz en st G io σ H S).bind fun ws s1 xs G1 io1 H1 e1 l1 p1 S1 r1 => ?_
  by_cases hf : fit ws.length = true
  · rw [if_pos hf]
    have hl : ws.length = xs.length := RpL.length r1
    exact (At.newF S1 (.lst r1)).mono fun Q q => ⟨hl ▸ fit_line hf, q⟩
  · rw [if_neg hf]
    exact At.no

/-! ### True and False as values, conditional expressions -/
def E.and (m k : Ev) : Ev := fun en st => (m en st).bind fun w s => match w with
  | .bl true => k en s
  | .bl false => .ok (.bl false) s
  | _ => .no
def E.or (m k : Ev) : Ev := fun en st => (m en st).bind fun w s => match w with
  | .bl true => .ok (.bl true) s
  | .bl false => k en s
  | _ => .no
def E.not (m : Ev) : Ev := fun en st => (m en st).bind fun w s => match w with
  | .bl b => .ok (.bl (!b)) s
  | _ => .no
theorem ex_one {op : BoolOp} {m : Ev} (h : EX X kc Wx a m) : EX X kc Wx (.BoolOp op [a] pos) m := by
  obtain ⟨t, h1, h2⟩ := h
  exact ⟨t, pe_one h1, h2⟩
theorem ex_and {m k : Ev} {rest : List Expr} (h : EX X kc Wx a m) (h' : EX X kc Wx (.BoolOp .And (b :: rest) pos) k) : EX X kc Wx (.BoolOp .And (a :: b :: rest) pos) (E.and m k) := by
  obtain ⟨t, h1, h2⟩ := h
  obtain ⟨t', h1', h2'⟩ := h'
  refine ⟨_, pe_and h1 h1', fun Fz en st G io σ H S => ?_⟩
  refine (h2 Fz en st G io σ H S).bind fun w s1 x G1 io1 H1 e1 l1 p1 S1 r1 => ?_
  split
  · cases r1
    exact (h2' Fz en s1 G1 io1 σ H1 S1).mono fun Q q => ⟨_, rfl, (by rw [if_pos rfl]; exact q)⟩
  · cases r1
    exact (At.pure S1 (Rp.bl false)).mono fun Q q => ⟨_, rfl, (by rw [if_neg (by decide)]; exact q)⟩
  · exact At.no
theorem ex_or {m k : Ev} {rest : List Expr} (h : EX X kc Wx a m) (h' : EX X kc Wx (.BoolOp .Or (b :: rest) pos) k) : EX X kc Wx (.BoolOp .Or (a :: b :: rest) pos) (E.or m k) := by
  obtain ⟨t, h1, h2⟩ := h
  obtain ⟨t', h1', h2'⟩ := h'
  refine ⟨_, pe_or h1 h1', fun Fz en st G io σ H S => ?_⟩
  refine (h2 Fz en st G io σ H S).bind fun w s1 x G1 io1 H1 e1 l1 p1 S1 r1 => ?_
  split
  · cases r1
    exact (At.pure S1 (Rp.bl true)).mono fun Q q => ⟨_, rfl, (by rw [if_pos rfl]; exact q)⟩
  · cases r1
    exact (h2' Fz en s1 G1 io1 σ H1 S1).mono fun Q q => ⟨_, rfl, (by rw [if_neg (by decide)]; exact q)⟩
  · exact At.no
theorem ex_not {m : Ev} (h : EX X kc Wx a m) : EX X kc Wx (.UnaryOp .Not a pos) (E.not m) := by
  obtain ⟨t, h1, h2⟩ := h
  refine ⟨_, pe_not h1, fun Fz en st G io σ H S => ?_⟩
  refine (h2 Fz en st G io σ H S).bind fun w s1 x G1 io1 H1 e1 l1 p1 S1 r1 => ?_
  split
  · cases r1
    exact (At.pure S1 (Rp.bl _)).mono fun Q q => ⟨_, rfl, q⟩
  · exact At.no
def E.ite (c : Tv) (m k : Ev) : Ev := fun en st => (c en st).bind fun b s => if b then m en s else k en s
theorem ex_ite {c : Expr} {mc : Tv} {m k : Ev} (hc : TX X kc Wx c mc) (h : EX X kc Wx a m) (h' : EX X kc Wx b k) : EX X kc Wx (.IfExp c a b pos) (E.ite mc m k) := by
  obtain ⟨tc, c1, c2⟩ := hc
  obtain ⟨t, h1, h2⟩ := h
  obtain ⟨t', h1', h2'⟩ := h'
  refine ⟨_, pe_ifExp c1 h1 h1', fun Fz en st G io σ H S => ?_⟩
  refine (c2 Fz en st G io σ H S).bind fun w s1 x G1 io1 H1 e1 l1 p1 S1 r1 => ?_
  cases r1
  cases w with
  | true => exact (h2 Fz en s1 G1 io1 σ H1 S1).mono fun Q q => (by rw [if_pos rfl]; exact q)
  | false => exact (h2' Fz en s1 G1 io1 σ H1 S1).mono fun Q q => (by rw [if_neg (by decide)]; exact q)

/-! ### built-ins by values -/
def CallK (K : PySem.W.Frag) (kc : CT) (rel : Rel W V) (r : List V → Hp → VK → Prop) (f : List W → Option W) : Prop := ∀ Wx Fz en st G io σ H hs vs, Sim K kc Fz en st G io σ H → HdsOk K kc io G en σ hs vs → At K kc Wx rel Fz en G io σ (lift (f (hs.map (view en st))) st) (r vs H)
def E.call (f : List W → Option W) (m : Hv) : Ev := fun en st => (m en st).bind fun hs s => lift (f (hs.map (view en s))) s
theorem oks_call {K : PySem.W.Frag} {rel : Rel W V} {r : List V → Hp → VK → Prop} {f : List W → Option W} {m : Hv} {t : TA} (hk : CallK K kc rel r f) (h : Oks K kc Wx (relH K kc) m t) : Oks K kc Wx rel (E.call f m) (tCB r t) := by
  intro Fz en st G io σ H S
  refine (h Fz en st G io σ H S).bind fun hs s1 vs G1 io1 H1 e1 l1 p1 S1 r1 => ?_
  exact hk _ _ _ _ _ _ _ _ _ _ S1 r1
theorem ex_callB {id : String} {x : Str} {p : Pos} {r : List V → Hp → VK → Prop} {f : List W → Option W} {m : Hv} (hc : CallR X (.builtin id) r) (hk : CallK X.K kc (relE X.K kc) r f) (hm : X.mg x = none) (hv : bootBuiltins x = some (.builtin id)) (ha : HX X kc Wx (e :: es) m)
    (hg : Gl X x := by rfl) (hn : x ≠ "__name__" := by decide) (hdb : (x == ("__debug__" : Str)) = false := by decide) (he : starEach (e :: es) X.env = (false, eval e X.env) :: starEach es X.env := by rfl) (hpl : (backTo pos (starEach es X.env)).any (·.1) = false := by rfl) : EX X kc Wx (.Call (.Name x p) (e :: es) [] pos) (E.call f m) := by
  obtain ⟨t, h1, h2⟩ := ha
  exact ⟨_, pe_callB hc hg hm hv h1 hn hdb he hpl, oks_call hk h2⟩
theorem fx_callB {id : String} {x : Str} {p : Pos} {r : List V → Hp → VK → Prop} {f : List W → Option W} {m : Hv} (hc : CallR X (.builtin id) r) (hk : CallK X.K kc (relF X.K kc) r f) (hm : X.mg x = none) (hv : bootBuiltins x = some (.builtin id)) (ha : HX X kc Wx (e :: es) m)
    (hg : Gl X x := by rfl) (hn : x ≠ "__name__" := by decide) (hdb : (x == ("__debug__" : Str)) = false := by decide) (he : starEach (e :: es) X.env = (false, eval e X.env) :: starEach es X.env := by rfl) (hpl : (backTo pos (starEach es X.env)).any (·.1) = false := by rfl) : FX X kc Wx (.Call (.Name x p) (e :: es) [] pos) (E.call f m) := by
  obtain ⟨t, h1, h2⟩ := ha
  exact ⟨_, pe_callB hc hg hm hv h1 hn hdb he hpl, oks_call hk h2⟩
theorem ex_callT {T : String} {x : Str} {p : Pos} {r : List V → Hp → VK → Prop} {f : List W → Option W} {m : Hv} (hc : CallR X (.type T) r) (hk : CallK X.K kc (relE X.K kc) r f) (hm : X.mg x = none) (hv : bootBuiltins x = some (.type T)) (ha : HX X kc Wx (e :: es) m)
    (hg : Gl X x := by rfl) (hn : x ≠ "__name__" := by decide) (hdb : (x == ("__debug__" : Str)) = false := by decide) (he : starEach (e :: es) X.env = (false, eval e X.env) :: starEach es X.env := by rfl) (hpl : (backTo pos (starEach es X.env)).any (·.1) = false := by rfl) : EX X kc Wx (.Call (.Name x p) (e :: es) [] pos) (E.call f m) := by
  obtain ⟨t, h1, h2⟩ := ha
  exact ⟨_, pe_callTy hc hg hm hv h1 hn hdb he hpl, oks_call hk h2⟩
theorem fx_callT {T : String} {x : Str} {p : Pos} {r : List V → Hp → VK → Prop} {f : List W → Option W} {m : Hv} (hc : CallR X (.type T) r) (hk : CallK X.K kc (relF X.K kc) r f) (hm : X.mg x = none) (hv : bootBuiltins x = some (.type T)) (ha : HX X kc Wx (e :: es) m)
    (hg : Gl X x := by rfl) (hn : x ≠ "__name__" := by decide) (hdb : (x == ("__debug__" : Str)) = false := by decide) (he : starEach (e :: es) X.env = (false, eval e X.env) :: starEach es X.env := by rfl) (hpl : (backTo pos (starEach es X.env)).any (·.1) = false := by rfl) : FX X kc Wx (.Call (.Name x p) (e :: es) [] pos) (E.call f m) := by
  obtain ⟨t, h1, h2⟩ := ha
  exact ⟨_, pe_callTy hc hg hm hv h1 hn hdb he hpl, oks_call hk h2⟩
end

/-! ### statements -/
section
variable {X : Cx} {kc : CT} {Wx : WX} {e a b : Expr} {pos : Pos} {s : Stmt} {ss : List Stmt}
def Z.nil : Sv := fun en st => .ok .nx (en, st)
def Z.cons (m k : Sv) : Sv := fun en st => (m en st).seq k
theorem sx_nil : SXs X kc Wx [] Z.nil := ⟨_, pss_nil, fun Fz en st G io σ H S => ⟨fun fl s e D hD => (by cases e; exact hD σ G io H (Le.refl _) (pre_refl _) S), fun _ _ _ e => (nomatch e)⟩⟩
theorem sx_cons {m k : Sv} (h : SX X kc Wx s m) (h' : SXs X kc Wx ss k) : SXs X kc Wx (s :: ss) (Z.cons m k) := by
  obtain ⟨t, h1, h2⟩ := h
  obtain ⟨t', h1', h2'⟩ := h'
  refine ⟨_, pss_cons h1 h1', fun Fz en st G io σ H S => ?_⟩
  exact (h2 Fz en st G io σ H S).seq fun s σ1 G1 io1 H1 e1 l1 p1 S1 => h2' Fz s.1 s.2 G1 io1 σ1 H1 S1
theorem sx_one {m : Sv} (h : SX X kc Wx s m) : SXs X kc Wx [s] m := by
  obtain ⟨t, h1, h2⟩ := h
  exact ⟨t, pss_one h1, h2⟩
/-- own thing i is frozen first -/
def Z.frz (i : Nat) (m : Sv) : Sv := fun en st => match en[i]? with
  | some (some (true, w)) => m (en.set i (some (false, w))) st
  | _ => m en st
theorem soks_frz {K : PySem.W.Frag} {i : Nat} {m : Sv} {t : TS} (h : SOks K kc Wx m t) : SOks K kc Wx (Z.frz i m) t := by
  intro Fz en st G io σ H S
  unfold Z.frz
  split
  · rename_i w ew
    obtain ⟨a, o, e1, ga, fa, ia, ha, nd⟩ := S.ow i w ew
    have S' := S.frz ew e1 ha ga fa ia nd
    have g := h Fz _ st _ io σ H S'
    exact ⟨fun fl s e D hD => g.1 fl s e D (hD.later (upd_le ga) (pre_refl _)), fun c fs s e hX D => g.2 c fs s e (hX.later (upd_le ga) (pre_refl _)) D⟩
  · exact h Fz en st G io σ H S
theorem sx_frz {i : Nat} {m : Sv} (h : SX X kc Wx s m) : SX X kc Wx s (Z.frz i m) := by
  obtain ⟨t, h1, h2⟩ := h
  exact ⟨t, h1, soks_frz h2⟩
def Z.ret (m : Ev) : Sv := fun en st => (m en st).toS en fun w s => .ok (.rt w) (en, s)
theorem sx_ret {m : Ev} (h : EX X kc Wx e m) : SX X kc Wx (.Return (some e) pos) (Z.ret m) := by
  obtain ⟨t, h1, h2⟩ := h
  refine ⟨_, ps_ret h1, fun Fz en st G io σ H S => ?_⟩
  refine (h2 Fz en st G io σ H S).toS (u := fun D => D.rt) fun w s1 x G1 io1 H1 e1 l1 p1 S1 r1 => ?_
  exact ⟨fun fl s e D hD => (by cases e; exact hD x σ G1 io1 H1 (Le.refl _) (pre_refl _) S1 r1), fun _ _ _ e => (nomatch e)⟩
def Z.retN : Sv := fun en st => .ok (.rt .non) (en, st)
theorem sx_retN : SX X kc Wx (.Return none pos) Z.retN := ⟨_, ps_retN, fun Fz en st G io σ H S => ⟨fun fl s e D hD => (by cases e; exact hD .non σ G io H (Le.refl _) (pre_refl _) S .non), fun _ _ _ e => (nomatch e)⟩⟩
def Z.set (i : Nat) (m : Ev) : Sv := fun en st => (m en st).toS en fun w s => .ok .nx (en.set i (some (false, w)), s)
theorem sx_set (i : Nat) {x : Str} {m : Ev} {pos' : Pos} (hN : X.N.Nodup) (h : EX X kc Wx e m) (hi : X.N[i]? = some x := by rfl) (hx : Loc X.env.scope x := by first | exact Or.inl rfl | exact Or.inr rfl) (hs : swapsWith e (some (.Name x pos')) pos.line X.env = pure false := by rfl) (hf : X.fn x = true ∨ X.env.scope.names.lookup x = some .local := by first | exact .inl rfl | exact .inr rfl | assumption) :
    SX X kc Wx (.Assign [.Name x pos'] e pos) (Z.set i m) := by
  obtain ⟨t, h1, h2⟩ := h
  refine ⟨_, ps_set hN hi hx h1 hs hf, fun Fz en st G io σ H S => ?_⟩
  refine (h2 Fz en st G io σ H S).toS (u := fun D v H1 => gName i v σ H1 D.nx) fun w s1 x G1 io1 H1 e1 l1 p1 S1 r1 => ?_
  exact ⟨fun fl s e D hD => (by cases e; exact hD _ G1 io1 H1 (Le.refl _) (pre_refl _) (Sim.set S1 r1)), fun _ _ _ e => (nomatch e)⟩
/-- the slot's own -/
def Z.own (i : Nat) (m : Ev) : Sv := fun en st => (m en st).toS en fun w s => .ok .nx (en.set i (some (true, w)), s)
theorem sx_own (i : Nat) {x : Str} {m : Ev} {pos' : Pos} (hN : X.N.Nodup) (h : FX X kc Wx e m) (hi : X.N[i]? = some x := by rfl) (hx : Loc X.env.scope x := by first | exact Or.inl rfl | exact Or.inr rfl) (hs : swapsWith e (some (.Name x pos')) pos.line X.env = pure false := by rfl) (hf : X.fn x = true ∨ X.env.scope.names.lookup x = some .local := by first | exact .inl rfl | exact .inr rfl | assumption) :
    SX X kc Wx (.Assign [.Name x pos'] e pos) (Z.own i m) := by
  obtain ⟨t, h1, h2⟩ := h
  refine ⟨_, ps_set hN hi hx h1 hs hf, fun Fz en st G io σ H S => ?_⟩
  refine (h2 Fz en st G io σ H S).toS (u := fun D v H1 => gName i v σ H1 D.nx) fun w s1 x G1 io1 H1 e1 l1 p1 S1 r1 => ?_
  obtain ⟨p, o, rfl, hp, gp, fp, ip, ep, nd⟩ := r1
  exact ⟨fun fl s e D hD => (by cases e; exact hD _ G1 io1 H1 (Le.refl _) (pre_refl _) (S1.setOwn hp gp fp ip ep nd)), fun _ _ _ e => (nomatch e)⟩
def Z.expr (m : Ev) : Sv := fun en st => (m en st).toS en fun w s => .ok .nx (en, s)
theorem sx_expr {m : Ev} (h : EX X kc Wx e m) (hs : swapsWith e none pos.line X.env = pure false := by rfl) : SX X kc Wx (.Expr e pos) (Z.expr m) := by
  obtain ⟨t, h1, h2⟩ := h
  refine ⟨_, ps_expr h1 hs, fun Fz en st G io σ H S => ?_⟩
  refine (h2 Fz en st G io σ H S).toS (u := fun D _ H1 => D.nx σ H1) fun w s1 x G1 io1 H1 e1 l1 p1 S1 r1 => ?_
  exact ⟨fun fl s e D hD => (by cases e; exact hD σ G1 io1 H1 (Le.refl _) (pre_refl _) S1), fun _ _ _ e => (nomatch e)⟩
def Z.ite (c : Tv) (m k : Sv) : Sv := fun en st => (c en st).toS en fun b s => if b then m en s else k en s
theorem sx_if {c : Expr} {sa sb : List Stmt} {mc : Tv} {m k : Sv} (hc : TX X kc Wx c mc) (h : SXs X kc Wx sa m) (h' : SXs X kc Wx sb k) : SX X kc Wx (.If c sa sb pos) (Z.ite mc m k) := by
  obtain ⟨tc, c1, c2⟩ := hc
  obtain ⟨t, h1, h2⟩ := h
  obtain ⟨t', h1', h2'⟩ := h'
  refine ⟨_, ps_if c1 h1 h1', fun Fz en st G io σ H S => ?_⟩
  refine (c2 Fz en st G io σ H S).toS (u := fun D b H1 => if b = true then t D σ H1 else t' D σ H1) fun w s1 x G1 io1 H1 e1 l1 p1 S1 r1 => ?_
  cases r1
  cases w with
  | true =>
    have g := h2 Fz en s1 G1 io1 σ H1 S1
    exact ⟨fun fl s e D hD => (by show (if true = true then _ else _); rw [if_pos rfl]; exact g.1 fl s e D hD), fun c fs s e hX D => (by show (if true = true then _ else _); rw [if_pos rfl]; exact g.2 c fs s e hX D)⟩
  | false =>
    have g := h2' Fz en s1 G1 io1 σ H1 S1
    exact ⟨fun fl s e D hD => (by show (if false = true then _ else _); rw [if_neg (by decide)]; exact g.1 fl s e D hD), fun c fs s e hX D => (by show (if false = true then _ else _); rw [if_neg (by decide)]; exact g.2 c fs s e hX D)⟩
theorem sx_pass : SX X kc Wx (.Pass pos) Z.nil := ⟨_, ps_pass, fun Fz en st G io σ H S => ⟨fun fl s e D hD => (by cases e; exact hD σ G io H (Le.refl _) (pre_refl _) S), fun _ _ _ e => (nomatch e)⟩⟩
def Z.brk : Sv := fun en st => .ok .bk (en, st)
theorem sx_brk : SX X kc Wx (.Break pos) Z.brk := ⟨_, ps_break, fun Fz en st G io σ H S => ⟨fun fl s e D hD => (by cases e; exact hD σ G io H (Le.refl _) (pre_refl _) S), fun _ _ _ e => (nomatch e)⟩⟩
def Z.cont : Sv := fun en st => .ok .ct (en, st)
theorem sx_cont : SX X kc Wx (.Continue pos) Z.cont := ⟨_, ps_continue, fun Fz en st G io σ H S => ⟨fun fl s e D hD => (by cases e; exact hD σ G io H (Le.refl _) (pre_refl _) S), fun _ _ _ e => (nomatch e)⟩⟩
end

/-! ### functions -/
abbrev Fv := List W → Sto → R Sto W
/-- what a call gives, by its body -/
def body (n : Nat) (b : Sv) : Fv := fun ws st => match b (ws.map (fun w => some (false, w)) ++ List.replicate (n - ws.length) none) st with
  | .ok .nx s => .ok .non s.2
  | .ok (.rt w) s => .ok w s.2
  | .ok _ _ => .no
  | .ex c fs s => .ex c fs s.2
  | .no => .no
/-- a def's promise: it does what f does -/
def spF (K : PySem.W.Frag) (kc : CT) (n : Nat) (f : Fv) : Sp := fun vs H Q E => ∃ Fz G io st ws, Sim K kc Fz [] st G io [] H ∧ RpL K kc io G ws vs ∧ ws.length = n ∧ f ws st ≠ .no ∧
  (∀ w st', f ws st = .ok w st' → ∀ v G' io' H', Le G G' → io <+: io' → Sim K kc Fz [] st' G' io' [] H' → Rp K kc io' G' w v → Q v H') ∧
  (∀ c fs st', f ws st = .ex c fs st' → ∀ C d G' io' H', kc c = some C → Le G G' → io <+: io' → Sim K kc Fz [] st' G' io' [] H' → XOk K kc io' G' d fs → E (.ref C) d H')
section
variable {K : PySem.W.Frag} {kc : CT} {Fz : Hp} {en : En} {st : Sto} {G : Hp} {io : List Addr} {σ : St} {H : Hp}
theorem Sim.start {ws : List W} {vs : List V} {k : Nat} (S : Sim K kc Fz [] st G io [] H) (r : RpL K kc io G ws vs) : Sim K kc Fz (ws.map (fun w => some (false, w)) ++ List.replicate k none) st G io (vs.map some ++ List.replicate k none) H where
  gs := S.gs
  fs := S.fs
  fg := S.fg
  ft := S.ft
  il := S.il
  ind := S.ind
  ce := S.ce
  sl := fun i w e => by
    by_cases hi : i < ws.length
    · rw [List.getElem?_append_left (by rw [List.length_map]; exact hi), List.getElem?_map] at e
      rw [List.getElem?_append_left (by rw [List.length_map, ← r.length]; exact hi), List.getElem?_map]
      cases q : ws[i]? with
      | none => rw [q] at e; cases e
      | some u =>
        rw [q] at e
        cases e
        obtain ⟨v, e1, r1⟩ := r.get q
        exact ⟨v, by rw [e1]; rfl, r1⟩
    · rw [List.getElem?_append_right (by rw [List.length_map]; omega), List.getElem?_replicate] at e
      split at e <;> cases e
  ow := fun i w e => by
    by_cases hi : i < ws.length
    · rw [List.getElem?_append_left (by rw [List.length_map]; exact hi), List.getElem?_map] at e
      cases q : ws[i]? with
      | none => rw [q] at e; cases e
      | some u => rw [q] at e; cases e
    · rw [List.getElem?_append_right (by rw [List.length_map]; omega), List.getElem?_replicate] at e
      split at e <;> cases e
  inj := fun i j a w w' e => by
    by_cases hi : i < ws.length
    · rw [List.getElem?_append_left (by rw [List.length_map]; exact hi), List.getElem?_map] at e
      cases q : ws[i]? with
      | none => rw [q] at e; cases e
      | some u => rw [q] at e; cases e
    · rw [List.getElem?_append_right (by rw [List.length_map]; omega), List.getElem?_replicate] at e
      split at e <;> cases e
  el := by simp [r.length]
theorem Sim.bare (S : Sim K kc Fz en st G io σ H) : Sim K kc Fz [] st G io [] H where
  gs := S.gs
  fs := S.fs
  fg := S.fg
  ft := S.ft
  il := S.il
  ind := S.ind
  ce := S.ce
  sl := fun i w e => by simp at e
  ow := fun i w e => by simp at e
  inj := fun i j a w w' e => by simp at e
  el := rfl
end

/-- a def keeps a promise, where no repr runs -/
structure FnG (P : Program) (w : World) (K : PySem.W.Frag) (mg : Str → Option Value) (base : Heap) (CX : CXT) (k : Nat) (f : Addr) (fd : FuncData) (ps : List Str) (sp : Sp) : Prop where
  len : ∀ vs H Q E, sp vs H Q E → vs.length = ps.length
  run : ∀ (A : Around) (outer : List Env) (s : Shared) (H : Hp) (args : Args) (us : List Value) (vs : List V) (Q : VK) (E : XK), Room k A → A.guards = some [] → Env0 P w K mg base A outer s H → BindsTo s fd args (ps.zip us) → Vals vs us → sp vs H Q E →
    codeAny (model P w) A (.call (.ref f) args) (CR CX outer P w H s Q E) s
theorem FnG.mono {P : Program} {w : World} {K : PySem.W.Frag} {mg : Str → Option Value} {base : Heap} {CX : CXT} {j k : Nat} {f : Addr} {fd : FuncData} {ps : List Str} {sp : Sp} (F : FnG P w K mg base CX j f fd ps sp) (h : j ≤ k) : FnG P w K mg base CX k f fd ps sp :=
  ⟨F.len, fun A outer s H args us vs Q E hr => F.run A outer s H args us vs Q E (hr.mono h)⟩
theorem FnOk.g {P : Program} {w : World} {K : PySem.W.Frag} {mg : Str → Option Value} {base : Heap} {CX : CXT} {k : Nat} {f : Addr} {fd : FuncData} {ps : List Str} {sp : Sp} (F : FnOk P w K mg base CX k f fd ps sp) : FnG P w K mg base CX k f fd ps sp :=
  ⟨F.len, fun A outer s H args us vs Q E hr _ => F.run A outer s H args us vs Q E hr⟩
theorem gd_deeper {A : Around} {env : Env} (h : A.guards = some []) : (A.deeper env).guards = some [] := h
theorem fn_ofG {CX : CXT} {P : Program} {w : World} {K : PySem.W.Frag} {mg : Str → Option Value} {base : Heap} {k : Nat} {f : Addr} {name qual : Str} {params : Arguments} {body : List Stmt} {scope : Scope} {dV kV doc pm cdv ct oc : Value} {an od : Option Addr}
    {osl : Array (Option Value)} {N ps : List Str} {sp : Sp} (lk : K.lookup f = some ⟨oc, od, .func (PySem.W.fnOf name qual params body scope dV kV doc pm an cdv ct), osl⟩) (hcd : PySem.W.codeIn K cdv qual = true) (S : FnScope N ps scope)
    (len : ∀ vs H Q E, sp vs H Q E → vs.length = ps.length)
    (hbody : ∀ (A : Around) (outer : List Env) (s : Shared) (H : Hp) (vs : List V) (Q : VK) (E : XK), Room k (A.deeper (PyProof.Rows.envOfC qual scope s.heap.objs.size f cdv)) → A.guards = some [] → sp vs H Q E →
      ∃ t, PSs (cxOf CX P w K mg base N qual scope f cdv A outer s H E) body t ∧ t { nx := fun _ H' => Q .non H', rt := Q } (start N vs) H) :
    FnG P w K mg base CX (k + 1) f (PySem.W.fnOf name qual params body scope dV kV doc pm an cdv ct) ps sp := by
  refine ⟨len, fun A outer s H args us vs Q E hr hgd e0 hb r hsp => ?_⟩
  have hl := len _ _ _ _ hsp
  have KX : K.In s.heap := e0.mod.kin.keeps fun b o e => (e0.bs b o e).1
  have lim : s.heap.NoLimit := e0.mod.nolimit.keeps fun b o e => (e0.bs b o e).1
  have hkind : ∀ y ∈ ps.zip us, scope.names.lookup y.1 = some .local ∨ (scope.names.lookup y.1 = some .cell ∧ ((cellsFrom (s.heap.objs.size + 1) scope.names []).lookup y.1).isSome = true) := fun ⟨n, v⟩ hy => by
    rcases S.par n (List.of_mem_zip hy).1 with q | q
    · exact .inl q
    · exact .inr ⟨q, PySem.W.cellsFrom_some _ _ _ (.inl q)⟩
  refine codeAny_call_function hr.depth (KX _ _ lk) rfl S.co S.gen rfl (PySem.W.codeRec_of KX hcd) (hb _ _ _ _ ?_)
  refine wpAny_newFunctionEnv_cells S.kind hkind fun env he s1 x => ?_
  subst he
  refine ⟨lim.keeps x.toInCall.keep, codeAny_func ?_⟩
  obtain ⟨t, ht, hq⟩ := hbody A outer s H vs Q E (hr.deeper _) hgd hsp
  have I : Inv (cxOf CX P w K mg base N qual scope f cdv A outer s H E) [] (start N vs) H s1 := inv_start S hr.hd e0 hl r x
  refine wpAny_mono (ht.run [] s1 (start N vs) H _ I hq) (fun fl s' hs => ?_) fun e s' hs => hs
  have fin : ∀ {σ' : L2.St} {H' : Hp} {v : V} {u : Value}, Inv (cxOf CX P w K mg base N qual scope f cdv A outer s H E) [] σ' H' s' → RelV v u → Q v H' → CE outer P w H s Q u s' :=
    fun {σ' H' v u} J rv q => ⟨v, H', J.os, J.bare, J.base, J.hok, rv, q⟩
  cases fl with
  | ret u =>
    obtain ⟨v, σ', H', J, rv, q⟩ := hs
    exact fin J rv q
  | next =>
    obtain ⟨σ', H', J, q⟩ := hs
    exact fin (v := V.non) (u := Value.none) J rfl q
  | brk =>
    obtain ⟨_, _, _, q⟩ := hs
    exact False.elim q
  | cont =>
    obtain ⟨_, _, _, q⟩ := hs
    exact False.elim q
/-- the callee runs -/
theorem run_any {X : Cx} {CX : CXT} {k : Nat} {f : Addr} {fd : FuncData} {ps : List Str} {sp : Sp} {E : L2.St → XK} {pins : List (Addr × Obj)} {σ : L2.St} {H : Hp} {s : Shared} {Q : VK} {args : Args} {us : List Value} {vs : List V} (F : FnG X.prog X.w X.K X.mg X.base CX k f fd ps sp) (hr : Room k X.A) (gd : X.A.guards = some []) (hb : BindsTo s fd args (ps.zip us)) (hx : PassesAt CX X σ (E σ))
    (I : Inv X pins σ H s) (r : Vals vs us) (h : sp vs H Q (E σ)) : wpAny (model X.prog X.w) X.A (call (.ref f) args.pos args.kw) (EP X pins σ Q) X.xe s := by
  refine wpAny_call (codeAny_mono (F.run X.A X.stack s H args us vs Q (E σ) hr gd I.env0 hb r h) fun r s' hq => ?_)
  cases r with
  | error e => exact hx pins H s e s' I hq
  | ok fl =>
    cases fl with
    | ret u => exact I.after hq
    | next => exact False.elim hq
    | brk => exact False.elim hq
    | cont => exact False.elim hq
def PosB (fd : FuncData) (ps : List Str) : Prop := ∀ (s : Shared) (us : List Value), us.length = ps.length → BindsTo s fd ⟨us, []⟩ (ps.zip us)
theorem pe_callG {X : Cx} {CX : CXT} {k : Nat} {f : Addr} {fd : FuncData} {ps : List Str} {sp : Sp} {E : L2.St → XK} {x : Str} {p pos : Pos} {e : Expr} {es : List Expr} {t : TA} (F : FnG X.prog X.w X.K X.mg X.base CX k f fd ps sp) (hr : Room k X.A) (gd : X.A.guards = some []) (hg : Gl X x) (hm : X.mg x = some (.ref f)) (hk : PySem.W.keepIn X.K (.ref f) = true) (hb : PosB fd ps) (hx : ∀ σ, PassesAt CX X σ (E σ))
    (ha : PA X (e :: es) t) (hdb : (x == ("__debug__" : Str)) = false := by decide) (he : starEach (e :: es) X.env = (false, eval e X.env) :: starEach es X.env := by rfl) (hpl : (backTo pos (starEach es X.env)).any (·.1) = false := by rfl) :
    PE X (.Call (.Name x p) (e :: es) [] pos) (tCallS sp E t) := by
  refine ⟨fun pins s σ H Q I h => ?_⟩
  refine wpAny_Call_Name_kw (ld_glob I hg hm ?_ hdb)
  refine PySem.W.callWith_K (h₀ := X.base) I.ok.mod.kin hk (thn (ha.run pos pins s σ H _ I h) fun us s1 ⟨vs, H1, I1, r, q⟩ => ⟨I1.kIn, ?_⟩) he hpl
  exact run_any (args := ⟨us, []⟩) F hr gd (hb s1 us (by rw [← r.length]; exact F.len _ _ _ _ q)) (hx σ) I1 r q
/-- a call of a def, its arguments frozen -/
def E.fn (f : Fv) (m : Av) : Ev := fun en st => (m en st).bind fun ws s => f ws s
section
variable {X : Cx} {kc : CT} {Wx : WX} {e : Expr} {es : List Expr} {pos p : Pos}
theorem at_fn {K : PySem.W.Frag} {Fz : Hp} {en : En} {st : Sto} {G : Hp} {io : List Addr} {σ : St} {H : Hp} {n : Nat} {f : Fv} {ws : List W} {vs : List V} (S : Sim K kc Fz en st G io σ H) (r : RpL K kc io G ws vs) (hn : ws.length = n) :
    At K kc Wx (relE K kc) Fz en G io σ (f ws st) (fun Q => spF K kc n f vs H Q (fun cls d H' => Wx cls d σ H')) := by
  refine At.some fun hno => ?_
  obtain ⟨Fz', S', back⟩ := S.callee
  refine ⟨fun w st' e Q hQ => ⟨Fz', G, io, st, ws, S', r, hn, hno, fun w' st'' e' v G' io' H' l p S2 r2 => ?_, fun c fs st'' e' => ?_⟩, fun c fs st' e Q hQ => ⟨Fz', G, io, st, ws, S', r, hn, hno, fun w' st'' e' => ?_, fun c' fs' st'' e' C d G' io' H' k l p S2 xo => ?_⟩⟩
  · rw [e] at e'; cases e'
    exact hQ v G' io' H' l p (back _ _ _ _ l p S2) r2
  · rw [e] at e'; cases e'
  · rw [e] at e'; cases e'
  · rw [e] at e'; cases e'
    exact hQ C d G' io' H' k l p (back _ _ _ _ l p S2) xo
theorem spF_len {K : PySem.W.Frag} {n : Nat} {f : Fv} : ∀ vs H Q E, spF K kc n f vs H Q E → vs.length = n := fun vs H Q E ⟨_, _, _, _, ws, _, r, hn, _⟩ => by rw [← r.length]; exact hn
/-- a def of the module called by its name -/
theorem ex_fn {k n : Nat} {g : Addr} {fd : FuncData} {ps : List Str} {f : Fv} {x : Str} {m : Av} (F : FnG X.prog X.w X.K X.mg X.base (L2.CX X.prog X.w) k g fd ps (spF X.K kc n f)) (hr : Room k X.A) (gd : X.A.guards = some []) (hm : X.mg x = some (.ref g)) (hk : PySem.W.keepIn X.K (.ref g) = true) (hb : PosB fd ps) (tk : Takes X Wx)
    (hlen : ∀ en st ws s, m en st = .ok ws s → ws.length = n) (ha : AX X kc Wx (e :: es) m) (hg : Gl X x := by rfl) (hdb : (x == ("__debug__" : Str)) = false := by decide) (he : starEach (e :: es) X.env = (false, eval e X.env) :: starEach es X.env := by rfl) (hpl : (backTo pos (starEach es X.env)).any (·.1) = false := by rfl) :
    EX X kc Wx (.Call (.Name x p) (e :: es) [] pos) (E.fn f m) := by
  obtain ⟨t, h1, h2⟩ := ha
  refine ⟨_, pe_callG F hr gd hg hm hk hb (fun σ => passAt tk σ) h1 hdb he hpl, fun Fz en st G io σ H S => ?_⟩
  refine (h2 Fz en st G io σ H S).bind fun ws s1 vs G1 io1 H1 e1 l1 p1 S1 r1 => ?_
  exact at_fn S1 r1 (hlen _ _ _ _ e1)
end
/-- a def of the text keeps its promise -/
theorem fn_ok {P : Program} {w : World} {K : PySem.W.Frag} {mg : Str → Option Value} {base : Heap} {kc : CT} {x qual : Str} {st : Stmt} {g : Addr} {fd : FuncData} {N ps : List Str} {k n : Nat} {b : Sv} (F : Fun K x qual st g fd) (S : FnScope N ps (defScope st)) (hn : ps.length = n)
    (hb : ∀ (X : Cx) (Wx : WX), X.N = N → X.prog = P → X.w = w → X.K = K → X.mg = mg → X.base = base → X.env.scope = defScope st → X.fn = (fun _ => true) → Room k X.A → X.A.guards = some [] → X.calm = true → Takes X Wx → PassesOwn (model X.prog X.w) X.A X.env X.xe → X.stack = X.env :: X.outer → X.env.frame = some X.env.locals → SXs X kc Wx (defBody st) b) :
    FnG P w K mg base (L2.CX P w) (k + 1) g fd ps (spF K kc n (body N.length b)) := by
  obtain ⟨oc, od, kV, doc, pm, an, cdv, ct, osl, rfl, lk, hcd⟩ := F.ex
  refine fn_ofG lk hcd S (fun vs H Q E h => (spF_len vs H Q E h).trans hn.symm) fun A outer s H vs Q E hr hgd h => ?_
  have tk : Takes (cxOf (L2.CX P w) P w K mg base N qual (defScope st) g cdv A outer s H E) (fun cls d _ H' => E cls d H') := takes_of rfl rfl rfl rfl
  obtain ⟨t, h1, h2⟩ := hb _ (fun cls d _ H' => E cls d H') rfl rfl rfl rfl rfl rfl rfl rfl hr hgd rfl tk (passes_of rfl) rfl rfl
  refine ⟨t, h1, ?_⟩
  obtain ⟨Fz, G, io, sto, ws, S0, r, hl, hno, hok, hex⟩ := h
  have S1 := S0.start (k := N.length - ws.length) r
  have e0 : start N vs = vs.map some ++ List.replicate (N.length - ws.length) none := by rw [r.length]; rfl
  rw [e0]
  obtain ⟨g1, g2⟩ := h2 Fz _ sto G io _ H S1
  revert hno hok hex
  unfold body
  cases q : b (ws.map (fun w => some (false, w)) ++ List.replicate (N.length - ws.length) none) sto with
  | no => intro hno; exact (hno rfl).elim
  | ex c fs s =>
    intro hno hok hex
    refine g2 c fs s q (fun C d σ' G' io' H' k l p S2 xo => hex c fs s.2 rfl C d G' io' H' k l p S2.bare xo) _
  | ok fl s =>
    cases fl with
    | nx =>
      intro hno hok hex
      exact g1 _ s q _ fun σ' G' io' H' l p S2 => hok .non s.2 rfl .non G' io' H' l p S2.bare .non
    | rt w =>
      intro hno hok hex
      exact g1 _ s q _ fun v σ' G' io' H' l p S2 r2 => hok w s.2 rfl v G' io' H' l p S2.bare r2
    | bk => intro hno; exact (hno rfl).elim
    | ct => intro hno; exact (hno rfl).elim
end MH

/-! What is walked, loops, comprehensions. -/
namespace MH
open PySem L2


theorem R.bind_ok {S A B : Type} {r : R S A} {f : A → S → R S B} {b : B} {s : S} (h : r.bind f = .ok b s) : ∃ a s1, r = .ok a s1 ∧ f a s1 = .ok b s := by
  cases r with
  | ok a s1 => exact ⟨a, s1, rfl, h⟩
  | ex c fs s => cases h
  | no => cases h
theorem hs_len0 : ∀ (en : En) (st : Sto) (hs : List Hd) (s : Sto), Hs.nil en st = .ok hs s → hs.length = 0 := fun en st hs s h => by
  cases h; rfl
theorem hs_lenS {m : Pv} {k : Hv} {n : Nat} (hk : ∀ (en : En) (st : Sto) (hs : List Hd) (s : Sto), k en st = .ok hs s → hs.length = n) : ∀ (en : En) (st : Sto) (hs : List Hd) (s : Sto), Hs.cons m k en st = .ok hs s → hs.length = n + 1 := fun en st hs s h => by
  obtain ⟨a, s1, h1, h2⟩ := R.bind_ok h
  obtain ⟨b, s2, h3, h4⟩ := R.bind_ok h2
  cases h4
  rw [List.length_cons, hk _ _ _ _ h3]
theorem hs_len1 {m : Pv} : ∀ (en : En) (st : Sto) (hs : List Hd) (s : Sto), Hs.cons m Hs.nil en st = .ok hs s → hs.length = 1 := hs_lenS hs_len0
theorem hs_len2 {m k : Pv} : ∀ (en : En) (st : Sto) (hs : List Hd) (s : Sto), Hs.cons m (Hs.cons k Hs.nil) en st = .ok hs s → hs.length = 2 := hs_lenS hs_len1
theorem hs_len3 {m k l : Pv} : ∀ (en : En) (st : Sto) (hs : List Hd) (s : Sto), Hs.cons m (Hs.cons k (Hs.cons l Hs.nil)) en st = .ok hs s → hs.length = 3 := hs_lenS hs_len2
theorem as_len0 : ∀ (en : En) (st : Sto) (ws : List W) (s : Sto), A.nil en st = .ok ws s → ws.length = 0 := fun en st ws s h => by
  cases h; rfl
theorem as_lenS {m : Ev} {k : Av} {n : Nat} (hk : ∀ (en : En) (st : Sto) (ws : List W) (s : Sto), k en st = .ok ws s → ws.length = n) : ∀ (en : En) (st : Sto) (ws : List W) (s : Sto), A.cons m k en st = .ok ws s → ws.length = n + 1 := fun en st ws s h => by
  obtain ⟨a, s1, h1, h2⟩ := R.bind_ok h
  obtain ⟨b, s2, h3, h4⟩ := R.bind_ok h2
  cases h4
  rw [List.length_cons, hk _ _ _ _ h3]

abbrev Iv := En → Sto → R Sto (List W)
/-- the walk J gives the items, one after the other -/
def Gives (K : PySem.W.Frag) (kc : CT) (io : List Addr) (G : Hp) (items : List W) (J : It) : Prop := ∃ (Gd : Hp → Prop) (Y : Nat → Hp → V → Hp → Prop), Walk J items.length Gd Y ∧ (∀ H, Le G H → Gd H) ∧
  ∀ i H v H', i < items.length → Le G H → Y i H v H' → (H' = H ∧ ∃ w, items[i]? = some w ∧ Rp K kc io G w v) ∨ (∃ T vs ws, v = .ref T ∧ H T = none ∧ H' = upd H T (.tup vs) ∧ items[i]? = some (.tup ws) ∧ RpL K kc io G ws vs) ∨ ∃ T vs ws, v = .ref T ∧ H T = some (.tup vs) ∧ H' = H ∧ items[i]? = some (.tup ws) ∧ RpL K kc io G ws vs
def relI (K : PySem.W.Frag) (kc : CT) : Rel (List W) It := fun _ io G _ _ _ items J => Gives K kc io G items J
def IX (X : Cx) (kc : CT) (Wx : WX) (tg iter : Expr) (m : Iv) : Prop := ∃ wi, PI X tg iter wi ∧ Oks X.K kc Wx (relI X.K kc) m wi

section
variable {K : PySem.W.Frag} {kc : CT} {io : List Addr} {G : Hp}
theorem gives_list {a : Addr} {ws : List W} {vs : List V} (h : SqL K G a vs) (r : RpL K kc io G ws vs) : Gives K kc io G ws (Itl K a) :=
  ⟨_, _, r.length ▸ walk_list, fun H l => sql_le l h, fun i H v H' hi l ⟨e, ev⟩ => .inl ⟨e, r.getV ev⟩⟩
theorem gives_tup {a : Addr} {ws : List W} {vs : List V} (h : SqT K G a vs) (r : RpL K kc io G ws vs) : Gives K kc io G ws (Itt K a) :=
  ⟨_, _, r.length ▸ walk_tup, fun H l => sqt_le l h, fun i H v H' hi l ⟨e, ev⟩ => .inl ⟨e, r.getV ev⟩⟩
def chars (s : Str) : List W := s.cps.toList.map fun c => .str ⟨#[c]⟩
theorem chars_len (s : Str) : (chars s).length = s.cps.size := by simp [chars]
theorem gives_str (s : Str) : Gives K kc io G (chars s) (Its s) :=
  ⟨_, _, chars_len s ▸ walk_str, fun H l => True.intro, fun i H v H' hi l ⟨e, c, ec, ev⟩ => .inl ⟨e, .str ⟨#[c]⟩, by
    unfold chars
    rw [List.getElem?_map, Array.getElem?_toList, ec]
    rfl, ev ▸ .str _⟩⟩
def rangeW (lo c : Int) (n : Nat) : List W := (List.range n).map fun i => .int (lo + (i : Nat) * c)
theorem rangeW_len (lo c : Int) (n : Nat) : (rangeW lo c n).length = n := by simp [rangeW]
theorem gives_rangeC (lo c : Int) (n : Nat) : Gives K kc io G (rangeW lo c n) (Itc lo c n) :=
  ⟨_, _, (show Walk (Itc lo c n) (rangeW lo c n).length (fun _ => True) (YFn fun i => V.int (lo + (i : Nat) * c)) from by rw [rangeW_len]; exact walk_rangeC), fun H l => True.intro, fun i H v H' hi l ⟨e, ev⟩ => .inl ⟨e, .int (lo + (i : Nat) * c), by
    rw [rangeW_len] at hi
    unfold rangeW
    rw [List.getElem?_map, List.getElem?_range hi]
    rfl, ev ▸ .int _⟩⟩
theorem gives_range (lo : Int) (n : Nat) : Gives K kc io G (rangeW lo 1 n) (Itr lo n) :=
  ⟨_, _, (show Walk (Itr lo n) (rangeW lo 1 n).length (fun _ => True) (YFn fun i => V.int (lo + (i : Nat))) from by rw [rangeW_len]; exact walk_range), fun H l => True.intro, fun i H v H' hi l ⟨e, ev⟩ => .inl ⟨e, .int (lo + (i : Nat) * 1), by
    rw [rangeW_len] at hi
    unfold rangeW
    rw [List.getElem?_map, List.getElem?_range hi]
    rfl, by rw [ev, Int.mul_one]; exact .int _⟩⟩
def enumW (k : Int) (ws : List W) : List W := ws.mapIdx fun i w => .tup [.int (k + (i : Nat)), w]
theorem gives_enum {a : Addr} {ws : List W} {vs : List V} (h : SqL K G a vs) (r : RpL K kc io G ws vs) : Gives K kc io G (enumW 0 ws) (Ite K a) := by
  have hl : (enumW 0 ws).length = vs.length := by simp [enumW, r.length]
  refine ⟨_, _, hl ▸ walk_enum, fun H l => sql_le l h, fun i H v H' hi l ⟨T, x, y, ev, hT, eH, ex, ey⟩ => .inr (.inl ?_)⟩
  obtain ⟨w, ew, rw'⟩ := r.getV ey
  cases ex
  refine ⟨T, _, [.int (0 + (i : Nat)), w], ev, hT, eH, ?_, .cons (by rw [Int.zero_add]; exact .int _) (.cons rw' .nil)⟩
  unfold enumW
  rw [List.getElem?_mapIdx, ew]
  rfl
def zipW (ws us : List W) : List W := ws.zipWith (fun a b => .tup [a, b]) us
theorem zip_pair {a b : Nat → Option V} {ws us : List W} {n : Nat} (hn : (zipW ws us).length = n) (ha : ∀ i v, a i = some v → ∃ w, ws[i]? = some w ∧ Rp K kc io G w v) (hb : ∀ i v, b i = some v → ∃ w, us[i]? = some w ∧ Rp K kc io G w v) :
    ∀ i H v H', i < (zipW ws us).length → Le G H → YPair a b i H v H' → (H' = H ∧ ∃ w, (zipW ws us)[i]? = some w ∧ Rp K kc io G w v) ∨ ∃ T vs ws', v = .ref T ∧ H T = none ∧ H' = upd H T (.tup vs) ∧ (zipW ws us)[i]? = some (.tup ws') ∧ RpL K kc io G ws' vs := by
  rintro i H v H' hi l ⟨T, x, y, ev, hT, eH, ex, ey⟩
  obtain ⟨w, ew, r1⟩ := ha i x ex
  obtain ⟨u, eu, r2⟩ := hb i y ey
  refine .inr ⟨T, _, [w, u], ev, hT, eH, ?_, .cons r1 (.cons r2 .nil)⟩
  unfold zipW
  rw [List.getElem?_zipWith, ew, eu]
theorem gives_zip {a b : Addr} {ws us : List W} {vs xs : List V} (h : SqL K G a vs) (r : RpL K kc io G ws vs) (h' : SqL K G b xs) (r' : RpL K kc io G us xs) : Gives K kc io G (zipW ws us) (Itz K a b) :=
  ⟨_, _, walk_zip (by simp [zipW, r.length, r'.length]), fun H l => ⟨sql_le l h, sql_le l h'⟩, fun i H v H' hi l y => (zip_pair rfl (fun i v e => r.getV e) (fun i v e => r'.getV e) i H v H' hi l y).imp id .inl⟩
end

section
variable {X : Cx} {kc : CT} {Wx : WX} {tg e : Expr} {pos p : Pos}
theorem pi_or {wi wj : TI} {l : Expr} (h : PI X tg l wi) (h' : PI X tg l wj) : PI X tg l (fun σ H R => wi σ H R ∨ wj σ H R) :=
  ⟨fun pins s σ H R I q => q.elim (h.run pins s σ H R I) (h'.run pins s σ H R I)⟩
def itemsW : W → Option (List W)
  | .lst ws => some ws
  | .tup ws => some ws
  | .scr ws => some ws
  | .stp ws => some ws
  | .str s => some (chars s)
  | _ => none
def I.of (m : Ev) : Iv := fun en st => (m en st).bind fun w s => lift (itemsW w) s
/-- a list, a tuple or a text is walked -/
theorem ix_of {m : Ev} (h : EX X kc Wx e m) : IX X kc Wx tg e (I.of m) := by
  obtain ⟨t, h1, h2⟩ := h
  refine ⟨_, pi_or (pi_list h1) (pi_or (pi_tup h1) (pi_str h1)), fun Fz en st G io σ H S => ?_⟩
  have hx := h2 Fz en st G io σ H S
  unfold I.of
  revert hx
  cases m en st with
  | no => exact fun _ => At.no
  | ex c fs s => exact fun hx => ⟨fun a s' e => (by cases e), fun c' fs' s' e R hR => .inl (hx.2 c' fs' s' (by cases e; rfl) _ hR)⟩
  | ok w s =>
    intro hx
    show At _ _ _ _ _ _ _ _ _ (lift (itemsW w) s) _
    have g := fun Q => hx.1 w s rfl Q
    unfold itemsW
    split
    · refine ⟨fun a s' e R hR => .inl (g _ fun v G' io' H' l p S' r => ?_), fun _ _ _ e => (nomatch e)⟩
      cases e
      cases r with
      | lst hq rr => exact ⟨_, rfl, ⟨_, sql_le S'.gs.le (.inl (.inl hq))⟩, hR _ G' io' H' l p S' (gives_list (.inl (.inl hq)) rr)⟩
    · refine ⟨fun a s' e R hR => .inr (.inl (g _ fun v G' io' H' l p S' r => ?_)), fun _ _ _ e => (nomatch e)⟩
      cases e
      cases r with
      | tup hq rr => exact ⟨_, rfl, ⟨_, .inl (.inl (S'.gs _ _ hq))⟩, hR _ G' io' H' l p S' (gives_tup (.inl (.inl hq)) rr)⟩
    · refine ⟨fun a s' e R hR => .inl (g _ fun v G' io' H' l p S' r => ?_), fun _ _ _ e => (nomatch e)⟩
      cases e
      cases r with
      | scr hq rr => exact ⟨_, rfl, ⟨_, sql_le S'.gs.le hq⟩, hR _ G' io' H' l p S' (gives_list hq rr)⟩
    · refine ⟨fun a s' e R hR => .inr (.inl (g _ fun v G' io' H' l p S' r => ?_)), fun _ _ _ e => (nomatch e)⟩
      cases e
      cases r with
      | stp hq rr => exact ⟨_, rfl, ⟨_, sqt_le S'.gs.le hq⟩, hR _ G' io' H' l p S' (gives_tup hq rr)⟩
    · refine ⟨fun a s' e R hR => .inr (.inr (g _ fun v G' io' H' l p S' r => ?_)), fun _ _ _ e => (nomatch e)⟩
      cases e
      cases r
      exact ⟨_, rfl, hR _ G' io' H' l p S' (gives_str _)⟩
    · exact At.no
def small62 (i : Int) : Bool := decide (-(2 ^ 62) ≤ i ∧ i < 2 ^ 62)
theorem small62_of {i : Int} (h : small62 i = true) : -(2 ^ 62) ≤ i ∧ i < 2 ^ 62 := of_decide_eq_true h
def rangeOf : List W → Option (List W)
  | [.int j] => if small62 j then some (rangeW 0 1 j.toNat) else none
  | [.int i, .int j] => if small62 i && small62 j then some (rangeW i 1 (j - i).toNat) else none
  | _ => none
def I.range (m : Hv) : Iv := fun en st => (m en st).bind fun hs s => lift (rangeOf (hs.map (view en s))) s
theorem hd1 {K : PySem.W.Frag} {Fz : Hp} {en : En} {st : Sto} {G : Hp} {io : List Addr} {σ : St} {H : Hp} {h : Hd} {vs : List V} (S : Sim K kc Fz en st G io σ H) (r : HdsOk K kc io G en σ [h] vs) : ∃ v, vs = [v] ∧ Tp K kc io G H (view en st h) v := by
  cases r with
  | cons h r =>
    cases r
    exact ⟨_, rfl, view_of S h⟩
theorem hd2 {K : PySem.W.Frag} {Fz : Hp} {en : En} {st : Sto} {G : Hp} {io : List Addr} {σ : St} {H : Hp} {h h' : Hd} {vs : List V} (S : Sim K kc Fz en st G io σ H) (r : HdsOk K kc io G en σ [h, h'] vs) : ∃ v v', vs = [v, v'] ∧ Tp K kc io G H (view en st h) v ∧ Tp K kc io G H (view en st h') v' := by
  cases r with
  | cons h r =>
    cases r with
    | cons h' r =>
      cases r
      exact ⟨_, _, rfl, view_of S h, view_of S h'⟩
theorem hd3 {K : PySem.W.Frag} {Fz : Hp} {en : En} {st : Sto} {G : Hp} {io : List Addr} {σ : St} {H : Hp} {h h' h'' : Hd} {vs : List V} (S : Sim K kc Fz en st G io σ H) (r : HdsOk K kc io G en σ [h, h', h''] vs) : ∃ v v' v'', vs = [v, v', v''] ∧ Tp K kc io G H (view en st h) v ∧ Tp K kc io G H (view en st h') v' ∧ Tp K kc io G H (view en st h'') v'' := by
  cases r with
  | cons h r =>
    cases r with
    | cons h' r =>
      cases r with
      | cons h'' r =>
        cases r
        exact ⟨_, _, _, rfl, view_of S h, view_of S h', view_of S h''⟩
theorem ix_range1 {a : Expr} {m : Hv} (hm : X.mg "range" = none) (ha : HX X kc Wx [a] m) (hg : Gl X "range" := by rfl) (hs : starEach [a] X.env = [(false, eval a X.env)] := by rfl) (hlen : ∀ en st hs s, m en st = .ok hs s → hs.length = 1 := by exact hs_len1) : IX X kc Wx tg (.Call (.Name "range" p) [a] [] pos) (I.range m) := by
  obtain ⟨t, h1, h2⟩ := ha
  refine ⟨_, pi_range1 hg hm h1 hs, fun Fz en st G io σ H S => ?_⟩
  refine (h2 Fz en st G io σ H S).bind (u := fun vs H1 R => ∃ j : Int, vs = [.int j] ∧ -(2 ^ 62) ≤ j ∧ j < 2 ^ 62 ∧ R (Itr 0 j.toNat) H1) fun hs s1 vs G1 io1 H1 e1 l1 p1 S1 r1 => ?_
  match hs, hlen _ _ _ _ e1 with
  | [h], _ =>
    obtain ⟨v, rfl, t1⟩ := hd1 S1 r1
    show At _ _ _ _ _ _ _ _ _ (lift (rangeOf [view en s1 h]) s1) _
    revert t1
    generalize view en s1 h = w
    intro t1
    unfold rangeOf
    split
    · rename_i j he
      cases he
      cases t1.int
      split
      · rename_i hj
        obtain ⟨q1, q2⟩ := small62_of hj
        exact (At.pure (a := rangeW 0 1 j.toNat) (b := Itr 0 j.toNat) S1 (gives_range 0 _)).mono fun R r => ⟨j, rfl, q1, q2, r⟩
      · exact At.no
    · rename_i he
      cases he
    · exact At.no
theorem ix_range2 {a b : Expr} {m : Hv} (hm : X.mg "range" = none) (ha : HX X kc Wx [a, b] m) (hg : Gl X "range" := by rfl) (hs : starEach [a, b] X.env = [(false, eval a X.env), (false, eval b X.env)] := by rfl) (hs2 : starEach [b] X.env = [(false, eval b X.env)] := by rfl) (hlen : ∀ en st hs s, m en st = .ok hs s → hs.length = 2 := by exact hs_len2) : IX X kc Wx tg (.Call (.Name "range" p) [a, b] [] pos) (I.range m) := by
  obtain ⟨t, h1, h2⟩ := ha
  refine ⟨_, pi_range2 hg hm h1 hs hs2, fun Fz en st G io σ H S => ?_⟩
  refine (h2 Fz en st G io σ H S).bind (u := fun vs H1 R => ∃ i j : Int, vs = [.int i, .int j] ∧ (-(2 ^ 62) ≤ i ∧ i < 2 ^ 62 ∧ -(2 ^ 62) ≤ j ∧ j < 2 ^ 62) ∧ R (Itr i (j - i).toNat) H1) fun hs s1 vs G1 io1 H1 e1 l1 p1 S1 r1 => ?_
  match hs, hlen _ _ _ _ e1 with
  | [h, h'], _ =>
    obtain ⟨v, v', rfl, t1, t2⟩ := hd2 S1 r1
    show At _ _ _ _ _ _ _ _ _ (lift (rangeOf [view en s1 h, view en s1 h']) s1) _
    revert t1 t2
    generalize view en s1 h = w
    generalize view en s1 h' = w'
    intro t1 t2
    unfold rangeOf
    split
    · rename_i j he
      cases he
    · rename_i i j he
      cases he
      cases t1.int
      cases t2.int
      split
      · rename_i hj
        rw [Bool.and_eq_true] at hj
        obtain ⟨q1, q2⟩ := small62_of hj.1
        obtain ⟨q3, q4⟩ := small62_of hj.2
        exact (At.pure (a := rangeW i 1 (j - i).toNat) (b := Itr i (j - i).toNat) S1 (gives_range i _)).mono fun R r => ⟨i, j, rfl, ⟨q1, q2, q3, q4⟩, r⟩
      · exact At.no
    · exact At.no
end
end MH

/-! Targets, loops, comprehensions. -/
namespace MH
open PySem L2

/-! ### targets -/
abbrev Bd := W → En → Option En
def GX (X : Cx) (kc : CT) (tg : Expr) (ns : List Nat) (bd : Bd) : Prop := (∃ g, PG X tg g ∧ ∀ Fz en st G io σ H w v en', Sim X.K kc Fz en st G io σ H → Rp X.K kc io G w v → bd w en = some en' → ∀ Q : St → Hp → Prop, (∀ σ', Sim X.K kc Fz en' st G io σ' H → (∀ vs : List Nat, (∀ n ∈ ns, n ∈ vs) → wipe σ' vs = wipe σ vs) → Q σ' H) → g v σ H Q) ∧ ∀ w en en', bd w en = some en' → ∀ i : Nat, i ∉ ns → en'[i]? = en[i]?
def GXs (X : Cx) (kc : CT) (tgs : List Expr) (ns : List Nat) (bd : List W → En → Option En) : Prop := (∃ g, PGs X tgs g ∧ ∀ Fz en st G io σ H ws vs en', Sim X.K kc Fz en st G io σ H → RpL X.K kc io G ws vs → bd ws en = some en' → ∀ Q : St → Hp → Prop, (∀ σ', Sim X.K kc Fz en' st G io σ' H → (∀ vs : List Nat, (∀ n ∈ ns, n ∈ vs) → wipe σ' vs = wipe σ vs) → Q σ' H) → g vs σ H Q) ∧ ∀ ws en en', bd ws en = some en' → ∀ i : Nat, i ∉ ns → en'[i]? = en[i]?
theorem wipe_set {σ : St} {i : Nat} {x : Option V} : ∀ {vs : List Nat}, i ∈ vs → wipe (σ.set i x) vs = wipe σ vs
  | v :: vs, h => by
    unfold wipe
    by_cases e : i ∈ vs
    · rw [wipe_set e]
    · have e1 : i = v := by
        rcases List.mem_cons.mp h with z | z
        · exact z
        · exact absurd z e
      subst e1
      have key : ∀ (us : List Nat), i ∉ us → wipe (σ.set i x) us = (wipe σ us).set i x := fun us => by
        induction us with
        | nil => intro _; rfl
        | cons u us ih =>
          intro hu
          unfold wipe
          rw [ih (fun z => hu (List.mem_cons_of_mem _ z)), List.set_comm _ _ (fun z => hu (by rw [z]; exact List.mem_cons_self))]
      rw [key vs e, List.set_set]
def Bd.name (i : Nat) : Bd := fun w en => some (en.set i (some (false, w)))
def Bd.nil : List W → En → Option En := fun ws en => match ws with
  | [] => some en
  | _ => none
def Bd.cons (b : Bd) (k : List W → En → Option En) : List W → En → Option En := fun ws en => match ws with
  | [] => none
  | w :: ws => (b w en).bind fun en1 => k ws en1
def Bd.tup (k : List W → En → Option En) : Bd := fun w en => match w with
  | .tup ws => k ws en
  | _ => none
section
variable {X : Cx} {kc : CT} {Wx : WX} {pos : Pos}
theorem gx_name (i : Nat) {x : Str} (hN : X.N.Nodup) (hi : X.N[i]? = some x := by rfl) (hx : Loc X.env.scope x := by first | exact Or.inl rfl | exact Or.inr rfl) (hf : X.fn x = true ∨ X.env.scope.names.lookup x = some .local := by first | exact .inl rfl | exact .inr rfl | assumption) : GX X kc (.Name x pos) [i] (Bd.name i) := by
  refine ⟨⟨_, pg_name hN hi hx hf, fun Fz en st G io σ H w v en' S r e Q hQ => ?_⟩, fun w en en' e j hj => ?_⟩
  · cases e
    exact hQ _ (Sim.set S r) fun vs hv => wipe_set (hv i List.mem_cons_self)
  · cases e
    exact List.getElem?_set_ne fun z => hj (by rw [z]; exact List.mem_cons_self)
theorem gxs_nil : GXs X kc [] [] Bd.nil := by
  refine ⟨⟨_, pgs_nil, fun Fz en st G io σ H ws vs en' S r e Q hQ => ?_⟩, fun ws en en' e j hj => ?_⟩
  · cases r with
    | nil => cases e; exact ⟨rfl, hQ σ S fun _ _ => rfl⟩
    | cons h r => cases e
  · cases ws with
    | nil => cases e; rfl
    | cons _ _ => cases e
theorem gxs_cons {e : Expr} {es : List Expr} {n1 n2 : List Nat} {b : Bd} {k : List W → En → Option En} (h : GX X kc e n1 b) (h' : GXs X kc es n2 k) (hs : (assignEach (e :: es) X.env).map (·.2) = assign e X.env :: (assignEach es X.env).map (·.2) := by rfl) : GXs X kc (e :: es) (n1 ++ n2) (Bd.cons b k) := by
  obtain ⟨⟨g, g1, g2⟩, g3⟩ := h
  obtain ⟨⟨g', g1', g2'⟩, g3'⟩ := h'
  refine ⟨⟨_, pgs_cons g1 g1' hs, fun Fz en st G io σ H ws vs en' S r e Q hQ => ?_⟩, fun ws en en' e j hj => ?_⟩
  case refine_2 =>
    cases ws with
    | nil => cases e
    | cons w ws =>
      have e : (b w en).bind (fun en1 => k ws en1) = some en' := e
      cases q : b w en with
      | none => rw [q] at e; cases e
      | some en1 =>
        rw [q] at e
        rw [g3' ws en1 en' e j fun z => hj (List.mem_append_right _ z), g3 w en en1 q j fun z => hj (List.mem_append_left _ z)]
  cases r with
  | nil => cases e
  | @cons w v ws vs hr rr =>
    have e : (b w en).bind (fun en1 => k ws en1) = some en' := e
    cases q : b w en with
    | none => rw [q] at e; cases e
    | some en1 =>
      rw [q] at e
      refine ⟨v, vs, rfl, g2 Fz en st G io σ H w v en1 S hr q _ fun σ1 S1 h1 => ?_⟩
      refine g2' Fz en1 st G io σ1 H ws vs en' S1 rr e Q fun σ2 S2 h2 => hQ σ2 S2 fun us hu => ?_
      rw [h2 us fun n hn => hu n (List.mem_append_right _ hn), h1 us fun n hn => hu n (List.mem_append_left _ hn)]
theorem gx_tup {es : List Expr} {k1 n : Nat} {ns : List Nat} {k : List W → En → Option En} (hc : X.calm = true) (h : GXs X kc es ns k) (hn : (assignEach es X.env).length = n := by rfl) (hst : (assignEach es X.env).findIdx? (·.1) = none := by rfl) (hk : ∀ ws en en', k ws en = some en' → ws.length = n) : GX X kc (.Tuple es k1 pos) ns (Bd.tup k) := by
  obtain ⟨⟨g, g1, g2⟩, g3⟩ := h
  refine ⟨⟨_, pg_tup hc g1 hn hst, fun Fz en st G io σ H w v en' S r e Q hQ => ?_⟩, fun w en en' e => ?_⟩
  · cases r <;> (try cases e)
    rename_i ws a vs hq rr
    exact ⟨a, vs, rfl, .inl (.inl (S.gs _ _ hq)), rr.length.symm.trans (hk _ _ _ e), g2 Fz en st G io σ H ws vs en' S rr e Q hQ⟩
  · cases w <;> (try cases e)
    exact g3 _ en en' e
end
theorem bd_len0 : ∀ ws en en', Bd.nil ws en = some en' → ws.length = 0 := fun ws en en' e => by
  cases ws with
  | nil => rfl
  | cons _ _ => cases e
theorem bd_lenS {b : Bd} {k : List W → En → Option En} {n : Nat} (h : ∀ ws en en', k ws en = some en' → ws.length = n) : ∀ ws en en', Bd.cons b k ws en = some en' → ws.length = n + 1 := fun ws en en' e => by
  cases ws with
  | nil => cases e
  | cons w ws =>
    have e : (b w en).bind (fun en1 => k ws en1) = some en' := e
    cases q : b w en with
    | none => rw [q] at e; cases e
    | some en1 => rw [q] at e; rw [List.length_cons, h _ _ _ e]

/-! ### for -/
def forZ (bd : Bd) (b : Sv) : List W → Sv
  | [], en, st => .ok .nx (en, st)
  | w :: ws, en, st => match bd w en with
    | none => .no
    | some en1 => match b en1 st with
      | .ok .nx s => forZ bd b ws s.1 s.2
      | .ok .ct s => forZ bd b ws s.1 s.2
      | .ok .bk s => .ok .nx s
      | .ok (.rt w) s => .ok (.rt w) s
      | .ex c fs s => .ex c fs s
      | .no => .no
def Z.for (m : Iv) (bd : Bd) (b : Sv) : Sv := fun en st => (m en st).toS en fun items s => forZ bd b items en s
section
variable {K : PySem.W.Frag} {kc : CT} {Wx : WX} {Fz : Hp} {en : En} {st : Sto} {G : Hp} {io : List Addr} {σ : St} {H : Hp}
theorem SAt.mono {r : R (En × Sto) Fl} {t t' : Ends → Prop} (h : SAt K kc Wx Fz G io r t) (m : ∀ D, t D → t' D) : SAt K kc Wx Fz G io r t' :=
  ⟨fun fl s e D hD => m D (h.1 fl s e D hD), fun c fs s e hX D => m D (h.2 c fs s e hX D)⟩
end
section
variable {X : Cx} {kc : CT} {Wx : WX} {tg it : Expr} {bs : List Stmt} {pos : Pos}
theorem sx_for {m : Iv} {ns : List Nat} {bd : Bd} {b : Sv} (hp : PassesOwn (model X.prog X.w) X.A X.env X.xe) (hc : X.calm = true) (hi : IX X kc Wx tg it m) (hg : GX X kc tg ns bd) (hb : SXs X kc Wx bs b)
    (hs : ∀ x, foldedSetIterable it X.env x = pure x := by intro _; rfl) : SX X kc Wx (.For tg it bs [] pos) (Z.for m bd b) := by
  obtain ⟨wi, i1, i2⟩ := hi
  obtain ⟨⟨g, g1, g2⟩, _⟩ := hg
  obtain ⟨t, b1, b2⟩ := hb
  refine ⟨_, ps_for hp hc i1 g1 b1 hs, fun Fz en st G io σ H S => ?_⟩
  refine (i2 Fz en st G io σ H S).toS (u := fun D J H1 => ∃ W : Nat → Nat → St → Hp → Prop, (∃ m, W 0 m σ H1) ∧ ∀ i m σ H, W i m σ H →
    (J.stop i H ∧ D.nx σ H) ∨ (J.go i H ∧ ∃ N : St → Hp → Prop, (∀ σ' H', N σ' H' → ∃ m', m' < m ∧ W (i + 1) m' σ' H') ∧ ∀ x H', J.yld i H x H' → g x σ H' fun σ2 H2 => t { D with nx := N, ct := N, bk := D.nx } σ2 H2)) fun items s1 J G1 io1 H1 e1 l1 p1 S1 r1 => ?_
  obtain ⟨Gd, Y, wk, hGd, hY⟩ := r1
  generalize hr0 : forZ bd b items en s1 = r0
  refine SAt.some fun hno => ?_
  -- both kinds of ends at once
  have both : ∀ D : Ends, (∀ fl s, r0 = .ok fl s → Post X.K kc Fz G1 io1 fl s D) → (∀ c fs s, r0 = .ex c fs s → PostX X.K kc Wx Fz G1 io1 c fs s) →
      ∃ W : Nat → Nat → St → Hp → Prop, (∃ m, W 0 m σ H1) ∧ ∀ i m σ H, W i m σ H →
      (J.stop i H ∧ D.nx σ H) ∨ (J.go i H ∧ ∃ N : St → Hp → Prop, (∀ σ' H', N σ' H' → ∃ m', m' < m ∧ W (i + 1) m' σ' H') ∧ ∀ x H', J.yld i H x H' → g x σ H' fun σ2 H2 => t { D with nx := N, ct := N, bk := D.nx } σ2 H2) := by
    intro D hP hX
    refine for_it wk (tb := t) (D := D) (fun i σ H => ∃ en' st' G' io', Le G1 G' ∧ io1 <+: io' ∧ Sim X.K kc Fz en' st' G' io' σ H ∧ forZ bd b (items.drop i) en' st' = r0)
      ⟨en, s1, G1, io1, Le.refl _, pre_refl _, S1, by rw [List.drop_zero]; exact hr0⟩ (fun i σ H _ ⟨en', st', G', io', l, p, S', _⟩ => hGd H (l.trans S'.gs.le)) ?_ ?_
    · rintro i x σ2 H2 H3 hi ⟨en', st', G', io', l, p, S', e'⟩ y
      -- the item
      obtain ⟨w, G3, ew, l3, S3, rw3⟩ : ∃ w G3, items[i]? = some w ∧ Le G' G3 ∧ Sim X.K kc Fz en' st' G3 io' σ2 H3 ∧ Rp X.K kc io' G3 w x := by
        rcases hY i H2 x H3 hi (l.trans S'.gs.le) y with ⟨rfl, w, ew, rw1⟩ | ⟨T, vs, ws, rfl, hT, rfl, ew, rw1⟩ | ⟨T, vs, ws, rfl, hT, rfl, ew, rw1⟩
        · exact ⟨w, G', ew, Le.refl _, S', rw1.mono l p⟩
        · exact ⟨_, _, ew, upd_le (le_none S'.gs hT), S'.alloc hT, .tup upd_same (rw1.mono (l.trans (upd_le (le_none S'.gs hT))) p)⟩
        · obtain ⟨G4, l4, S4, e4⟩ := S'.tupG hT
          exact ⟨_, _, ew, l4, S4, .tup e4 (rw1.mono (l.trans l4) p)⟩
      have ed : items.drop i = w :: items.drop (i + 1) := by
        obtain ⟨h1, h2⟩ := List.getElem?_eq_some_iff.mp ew
        rw [← h2]
        exact (List.getElem_cons_drop h1).symm
      rw [ed] at e'
      unfold forZ at e'
      revert e'
      cases q : bd w en' with
      | none => intro e'; exact (hno e'.symm).elim
      | some en1 =>
        intro e'
        refine g2 Fz en' st' G3 io' σ2 H3 w x en1 S3 rw3 q _ fun σ4 S4 _ => ?_
        obtain ⟨c1, c2⟩ := b2 Fz en1 st' G3 io' σ4 H3 S4
        revert e'
        dsimp only
        cases q2 : b en1 st' with
        | no => intro e'; exact (hno e'.symm).elim
        | ex c fs s =>
          intro e'
          exact c2 c fs s q2 ((hX c fs s e'.symm).later (l.trans l3) p) _
        | ok fl s =>
          cases fl with
          | nx =>
            intro e'
            exact c1 .nx s q2 _ fun σ5 G5 io5 H5 l5 p5 S5 => ⟨s.1, s.2, G5, io5, (l.trans l3).trans l5, p.trans p5, S5, e'⟩
          | ct =>
            intro e'
            exact c1 .ct s q2 _ fun σ5 G5 io5 H5 l5 p5 S5 => ⟨s.1, s.2, G5, io5, (l.trans l3).trans l5, p.trans p5, S5, e'⟩
          | bk =>
            intro e'
            exact c1 .bk s q2 _ fun σ5 G5 io5 H5 l5 p5 S5 => hP .nx s e'.symm σ5 G5 io5 H5 ((l.trans l3).trans l5) (p.trans p5) S5
          | rt w =>
            intro e'
            exact c1 (.rt w) s q2 _ fun v σ5 G5 io5 H5 l5 p5 S5 r5 => hP (.rt w) s e'.symm v σ5 G5 io5 H5 ((l.trans l3).trans l5) (p.trans p5) S5 r5
    · rintro σ2 H2 ⟨en', st', G', io', l, p, S', e'⟩
      rw [List.drop_length] at e'
      exact hP .nx (en', st') e'.symm σ2 G' io' H2 l p S'
  refine ⟨fun fl s e D hD => both D (fun fl' s' e' => ?_) (fun c fs s' e' => ?_), fun c fs s e hX D => both D (fun fl' s' e' => ?_) (fun c' fs' s' e' => ?_)⟩
  · rw [e] at e'; cases e'; exact hD
  · rw [e] at e'; cases e'
  · rw [e] at e'; cases e'
  · rw [e] at e'; cases e'; exact hX
end

/-! ### while -/
def whileN (c : Tv) (b : Sv) : Nat → Sv
  | 0, _, _ => .no
  | n + 1, en, st => (c en st).toS en fun k s => if k then match b en s with
      | .ok .nx s => whileN c b n s.1 s.2
      | .ok .ct s => whileN c b n s.1 s.2
      | .ok .bk s => .ok .nx s
      | .ok (.rt w) s => .ok (.rt w) s
      | .ex c fs s => .ex c fs s
      | .no => .no
    else .ok .nx (en, s)
theorem whileN_more (c : Tv) (b : Sv) : ∀ (n m : Nat) (en : En) (st : Sto), n ≤ m → whileN c b n en st ≠ .no → whileN c b m en st = whileN c b n en st
  | 0, _, _, _, _, h => (h rfl).elim
  | n + 1, 0, _, _, hm, _ => by omega
  | n + 1, m + 1, en, st, hm, h => by
    unfold whileN at h ⊢
    cases q : c en st with
    | no => rw [q] at h; exact (h rfl).elim
    | ex c' fs s => rfl
    | ok k s =>
      rw [q] at h
      cases k with
      | false => rfl
      | true =>
        show (match b en s with | .ok .nx s => whileN c b m s.1 s.2 | .ok .ct s => whileN c b m s.1 s.2 | .ok .bk s => .ok .nx s | .ok (.rt w) s => .ok (.rt w) s | .ex c fs s => .ex c fs s | .no => .no : R (En × Sto) Fl) = match b en s with | .ok .nx s => whileN c b n s.1 s.2 | .ok .ct s => whileN c b n s.1 s.2 | .ok .bk s => .ok .nx s | .ok (.rt w) s => .ok (.rt w) s | .ex c fs s => .ex c fs s | .no => .no
        replace h : (match b en s with | .ok .nx s => whileN c b n s.1 s.2 | .ok .ct s => whileN c b n s.1 s.2 | .ok .bk s => .ok .nx s | .ok (.rt w) s => .ok (.rt w) s | .ex c fs s => .ex c fs s | .no => .no : R (En × Sto) Fl) ≠ .no := h
        revert h
        cases b en s with
        | no => intro h; exact (h rfl).elim
        | ex _ _ _ => intro _; rfl
        | ok fl s =>
          cases fl with
          | nx => intro h; exact whileN_more c b n m s.1 s.2 (by omega) h
          | ct => intro h; exact whileN_more c b n m s.1 s.2 (by omega) h
          | bk => intro _; rfl
          | rt w => intro _; rfl
open Classical in
noncomputable def Z.while (c : Tv) (b : Sv) : Sv := fun en st => if h : ∃ n, whileN c b n en st ≠ .no then whileN c b (Classical.choose h) en st else .no
theorem while_of {c : Tv} {b : Sv} {en : En} {st : Sto} {n : Nat} (h : whileN c b n en st ≠ .no) : Z.while c b en st = whileN c b n en st := by
  have hx : ∃ n, whileN c b n en st ≠ .no := ⟨n, h⟩
  unfold Z.while
  rw [dif_pos hx]
  rcases Nat.le_total (Classical.choose hx) n with z | z
  · exact (whileN_more c b _ n en st z (Classical.choose_spec hx)).symm
  · exact whileN_more c b n _ en st z h
theorem while_no {c : Tv} {b : Sv} {en : En} {st : Sto} (h : Z.while c b en st ≠ .no) : ∃ n, whileN c b n en st ≠ .no := by
  unfold Z.while at h
  by_cases hx : ∃ n, whileN c b n en st ≠ .no
  · exact hx
  · rw [dif_neg hx] at h; exact (h rfl).elim
section
variable {X : Cx} {kc : CT} {Wx : WX} {bs : List Stmt} {c : Expr} {pos : Pos}
theorem sx_while {mc : Tv} {b : Sv} (hp : PassesOwn (model X.prog X.w) X.A X.env X.xe) (hc : TX X kc Wx c mc) (hb : SXs X kc Wx bs b) : SX X kc Wx (.While c bs [] pos) (Z.while mc b) := by
  obtain ⟨tc, c1, c2⟩ := hc
  obtain ⟨t, b1, b2⟩ := hb
  refine ⟨_, ps_while hp c1 b1, fun Fz en st G io σ H S => ?_⟩
  refine SAt.some fun hno => ?_
  obtain ⟨n0, h0⟩ := while_no hno
  rw [while_of h0]
  clear hno
  generalize hr0 : whileN mc b n0 en st = r0 at h0 ⊢
  have both : ∀ D : Ends, (∀ fl s, r0 = .ok fl s → Post X.K kc Fz G io fl s D) → (∀ c fs s, r0 = .ex c fs s → PostX X.K kc Wx Fz G io c fs s) → tWhile tc t D σ H := by
    intro D hP hX
    refine ⟨fun m σ' H' => ∃ en' st' G' io', Le G G' ∧ io <+: io' ∧ Sim X.K kc Fz en' st' G' io' σ' H' ∧ whileN mc b m en' st' = r0, ⟨n0, en, st, G, io, Le.refl _, pre_refl _, S, hr0⟩, ?_⟩
    rintro m σ' H' ⟨en', st', G', io', l, p, S', e'⟩
    cases m with
    | zero => exact (h0 e'.symm).elim
    | succ m =>
      unfold whileN at e'
      obtain ⟨a1, a2⟩ := c2 Fz en' st' G' io' σ' H' S'
      revert e'
      cases q : mc en' st' with
      | no => intro e'; exact (h0 e'.symm).elim
      | ex c fs s =>
        intro e'
        have hX' := hX c fs (en', s) e'.symm
        exact a2 c fs s q _ fun C d G2 io2 H2 k l2 p2 S2 xo => hX' C d σ' G2 io2 H2 k (l.trans l2) (p.trans p2) S2 xo
      | ok k s =>
        intro e'
        refine a1 k s q _ fun k' G2 io2 H2 l2 p2 S2 ek => ?_
        cases ek
        cases k with
        | false =>
          show (if false = true then _ else _)
          rw [if_neg (by decide)]
          exact hP .nx (en', s) e'.symm σ' G2 io2 H2 (l.trans l2) (p.trans p2) S2
        | true =>
          show (if true = true then _ else _)
          rw [if_pos rfl]
          replace e' : (match b en' s with | .ok .nx s => whileN mc b m s.1 s.2 | .ok .ct s => whileN mc b m s.1 s.2 | .ok .bk s => .ok .nx s | .ok (.rt w) s => .ok (.rt w) s | .ex c fs s => .ex c fs s | .no => .no : R (En × Sto) Fl) = r0 := e'
          refine ⟨_, fun σ' H' h => h, ?_⟩
          obtain ⟨d1, d2⟩ := b2 Fz en' s G2 io2 σ' H2 S2
          revert e'
          cases q2 : b en' s with
          | no => intro e'; exact (h0 e'.symm).elim
          | ex c fs s' =>
            intro e'
            exact d2 c fs s' q2 ((hX c fs s' e'.symm).later (l.trans l2) (p.trans p2)) _
          | ok fl s' =>
            cases fl with
            | nx =>
              intro e'
              exact d1 .nx s' q2 _ fun σ5 G5 io5 H5 l5 p5 S5 => ⟨m, Nat.lt_succ_self m, s'.1, s'.2, G5, io5, (l.trans l2).trans l5, (p.trans p2).trans p5, S5, e'⟩
            | ct =>
              intro e'
              exact d1 .ct s' q2 _ fun σ5 G5 io5 H5 l5 p5 S5 => ⟨m, Nat.lt_succ_self m, s'.1, s'.2, G5, io5, (l.trans l2).trans l5, (p.trans p2).trans p5, S5, e'⟩
            | bk =>
              intro e'
              exact d1 .bk s' q2 _ fun σ5 G5 io5 H5 l5 p5 S5 => hP .nx s' e'.symm σ5 G5 io5 H5 ((l.trans l2).trans l5) ((p.trans p2).trans p5) S5
            | rt w =>
              intro e'
              exact d1 (.rt w) s' q2 _ fun v σ5 G5 io5 H5 l5 p5 S5 r5 => hP (.rt w) s' e'.symm v σ5 G5 io5 H5 ((l.trans l2).trans l5) ((p.trans p2).trans p5) S5 r5
  refine ⟨fun fl s e D hD => both D (fun fl' s' e' => ?_) (fun c fs s' e' => ?_), fun c fs s e hX D => both D (fun fl' s' e' => ?_) (fun c' fs' s' e' => ?_)⟩
  · rw [e] at e'; cases e'; exact hD
  · rw [e] at e'; cases e'
  · rw [e] at e'; cases e'
  · rw [e] at e'; cases e'; exact hX
end
end MH

/-! One reading for a function; comprehensions. -/
namespace MH
open PySem L2

def can {A B : Type} (K : PySem.W.Frag) (kc : CT) (Wx : WX) (rel : Rel A B) (m : En → Sto → R Sto A) : St → Hp → (B → Hp → Prop) → Prop := fun σ H Q => ∃ Fz en st G io, Sim K kc Fz en st G io σ H ∧ m en st ≠ .no ∧
  (∀ a st', m en st = .ok a st' → ∀ b G' io' H', Le G G' → io <+: io' → Sim K kc Fz en st' G' io' σ H' → rel Fz io' G' en σ H' a b → Q b H') ∧
  (∀ c fs st', m en st = .ex c fs st' → ∀ C d G' io' H', kc c = some C → Le G G' → io <+: io' → Sim K kc Fz en st' G' io' σ H' → XOk K kc io' G' d fs → Wx (.ref C) d σ H')
theorem can_of {A B : Type} {K : PySem.W.Frag} {kc : CT} {Wx : WX} {rel : Rel A B} {m : En → Sto → R Sto A} {t : St → Hp → (B → Hp → Prop) → Prop} (h : Oks K kc Wx rel m t) {σ : St} {H : Hp} {Q : B → Hp → Prop} (c : can K kc Wx rel m σ H Q) : t σ H Q := by
  obtain ⟨Fz, en, st, G, io, S, hno, c1, c2⟩ := c
  obtain ⟨h1, h2⟩ := h Fz en st G io σ H S
  cases q : m en st with
  | no => exact (hno q).elim
  | ok a s => exact h1 a s q Q (c1 a s q)
  | ex c fs s => exact h2 c fs s q Q (c2 c fs s q)
theorem of_can {A B : Type} {K : PySem.W.Frag} {kc : CT} {Wx : WX} {rel : Rel A B} {m : En → Sto → R Sto A} : Oks K kc Wx rel m (can K kc Wx rel m) := fun Fz en st G io σ H S =>
  ⟨fun a st' e Q hQ => ⟨Fz, en, st, G, io, S, (by rw [e]; intro z; cases z), fun a' s' e' => (by rw [e] at e'; cases e'; exact hQ), fun c fs s' e' => by rw [e] at e'; cases e'⟩,
   fun c fs st' e Q hQ => ⟨Fz, en, st, G, io, S, (by rw [e]; intro z; cases z), fun a' s' e' => (by rw [e] at e'; cases e'), fun c fs s' e' => by rw [e] at e'; cases e'; exact hQ⟩⟩
def canS (K : PySem.W.Frag) (kc : CT) (Wx : WX) (m : Sv) : TS := fun D σ H => ∃ Fz en st G io, Sim K kc Fz en st G io σ H ∧ m en st ≠ .no ∧ (∀ fl s, m en st = .ok fl s → Post K kc Fz G io fl s D) ∧ (∀ c fs s, m en st = .ex c fs s → PostX K kc Wx Fz G io c fs s)
theorem canS_of {K : PySem.W.Frag} {kc : CT} {Wx : WX} {m : Sv} {t : TS} (h : SOks K kc Wx m t) {σ : St} {H : Hp} {D : Ends} (c : canS K kc Wx m D σ H) : t D σ H := by
  obtain ⟨Fz, en, st, G, io, S, hno, c1, c2⟩ := c
  obtain ⟨h1, h2⟩ := h Fz en st G io σ H S
  cases q : m en st with
  | no => exact (hno q).elim
  | ok a s => exact h1 a s q D (c1 a s q)
  | ex c fs s => exact h2 c fs s q (c2 c fs s q) D
theorem of_canS {K : PySem.W.Frag} {kc : CT} {Wx : WX} {m : Sv} : SOks K kc Wx m (canS K kc Wx m) := fun Fz en st G io σ H S =>
  ⟨fun fl s e D hD => ⟨Fz, en, st, G, io, S, (by rw [e]; intro z; cases z), fun a' s' e' => (by rw [e] at e'; cases e'; exact hD), fun c fs s' e' => by rw [e] at e'; cases e'⟩,
   fun c fs s e hX D => ⟨Fz, en, st, G, io, S, (by rw [e]; intro z; cases z), fun a' s' e' => (by rw [e] at e'; cases e'), fun c fs s' e' => by rw [e] at e'; cases e'; exact hX⟩⟩
def canG (K : PySem.W.Frag) (kc : CT) (ns : List Nat) (bd : Bd) : TG := fun v σ H Q => ∃ Fz en st G io w en', Sim K kc Fz en st G io σ H ∧ Rp K kc io G w v ∧ bd w en = some en' ∧ ∀ σ', Sim K kc Fz en' st G io σ' H → (∀ vs : List Nat, (∀ n ∈ ns, n ∈ vs) → wipe σ' vs = wipe σ vs) → Q σ' H
section
variable {X : Cx} {kc : CT} {Wx : WX} {e tg : Expr}
theorem EX.pe {m : Ev} (h : EX X kc Wx e m) : PE X e (can X.K kc Wx (relE X.K kc) m) := by
  obtain ⟨t, h1, h2⟩ := h
  exact ⟨fun pins s σ H Q I c => h1.run pins s σ H Q I (can_of h2 c)⟩
theorem TX.pt {m : Tv} (h : TX X kc Wx e m) : PT X e (can X.K kc Wx relT m) := by
  obtain ⟨t, h1, h2⟩ := h
  exact ⟨fun pins s σ H Q I c => h1.run pins s σ H Q I (can_of h2 c)⟩
theorem SXs.ps {m : Sv} {ss : List Stmt} (h : SXs X kc Wx ss m) : PSs X ss (canS X.K kc Wx m) := by
  obtain ⟨t, h1, h2⟩ := h
  exact ⟨fun pins s σ H D I c => h1.run pins s σ H D I (canS_of h2 c)⟩
theorem GX.pg {ns : List Nat} {bd : Bd} (h : GX X kc tg ns bd) : PG X tg (canG X.K kc ns bd) := by
  obtain ⟨⟨g, h1, h2⟩, _⟩ := h
  refine ⟨fun pins s σ H v u Q I r c => h1.run pins s σ H v u Q I r ?_⟩
  obtain ⟨Fz, en, st, G, io, w, en', S, rw', e, k⟩ := c
  exact h2 Fz en st G io σ H w v en' S rw' e Q k
end

/-! ### comprehensions -/
def wipeE (en : En) : List Nat → En
  | [] => en
  | v :: vs => (wipeE en vs).set v none
section
variable {K : PySem.W.Frag} {kc : CT} {Fz : Hp} {en : En} {st : Sto} {G : Hp} {io : List Addr} {σ : St} {H : Hp}
theorem Sim.wipe (S : Sim K kc Fz en st G io σ H) : ∀ ns : List Nat, Sim K kc Fz (wipeE en ns) st G io (wipe σ ns) H
  | [] => S
  | v :: vs => Sim.unset (Sim.wipe S vs)
theorem Sim.hold {D : Addr} {o : HO} (hnt : ∀ xs, o ≠ HO.tup xs) (S : Sim K kc Fz en st G io σ H) (hD : H D = none) : Sim K kc (upd Fz D o) en st G io σ (upd H D o) := by
  have S1 := S.allocF (o := o) hD
  have gD := le_none S.gs hD
  have fD := le_none S.fs hD
  refine { gs := S1.gs, fs := upd_both S.fs, fg := fun a u e => ?_, ft := fun a u e => (by
      by_cases ha : a = D
      · subst ha; rw [upd_same] at e; cases e; exact hnt
      · rw [upd_ne ha] at e; exact S.ft a u e), il := S.il, ind := S.ind, ce := fun n w a e1 e2 => ?_, sl := S1.sl, ow := fun i w e => ?_, inj := S.inj, el := S.el }
  · by_cases ha : a = D
    · subst ha; exact gD
    · rw [upd_ne ha] at e; exact S.fg a u e
  · obtain ⟨h1, h2, u, h3, h4⟩ := S.ce n w a e1 e2
    have ha : a ≠ D := ne_of_none h3 hD
    exact ⟨h1, by rw [upd_ne ha]; exact h2, u, by rw [upd_ne ha]; exact h3, h4⟩
  · obtain ⟨a, u, e1, e2, e3, e4, e5, e6⟩ := S.ow i w e
    have ha : a ≠ D := ne_of_none e5 hD
    exact ⟨a, u, e1, e2, by rw [upd_ne ha]; exact e3, e4, by rw [upd_ne ha]; exact e5, e6⟩
theorem Sim.held {D : Addr} {o : HO} (S : Sim K kc (upd Fz D o) en st G io σ H) (fD : Fz D = none) : Sim K kc Fz en st G io σ H ∧ H D = some o ∧ G D = none ∧ D ∉ io ∧ ∀ (i : Nat) (w : W), en[i]? = some (some (true, w)) → σ[i]? ≠ some (some (V.ref D)) := by
  have hD := S.fs D o upd_same
  have gD := S.fg D o upd_same
  have fle : Ls Fz (upd Fz D o) := upd_ls fD
  have ne : ∀ a, upd Fz D o a = none → a ≠ D ∧ Fz a = none := fun a e => by
    have ha : a ≠ D := fun z => by subst z; rw [upd_same] at e; cases e
    exact ⟨ha, by rw [upd_ne ha] at e; exact e⟩
  refine ⟨{ gs := S.gs, fs := fle.trans S.fs, fg := fun a u e => S.fg a u (fle a u e), ft := fun a u e => S.ft a u (fle a u e), il := S.il, ind := S.ind, ce := fun n w a e1 e2 => ?_, sl := S.sl, ow := fun i w e => ?_, inj := S.inj, el := S.el }, hD, gD, fun hm => ?_, fun i w e es => ?_⟩
  · obtain ⟨h1, h2, q⟩ := S.ce n w a e1 e2
    exact ⟨h1, (ne a h2).2, q⟩
  · obtain ⟨a, u, e1, e2, e3, q⟩ := S.ow i w e
    exact ⟨a, u, e1, e2, (ne a e3).2, q⟩
  · have := (S.io_h hm).2.1
    rw [upd_same] at this; cases this
  · obtain ⟨a, u, e1, e2, e3, _⟩ := S.ow i w e
    rw [es] at e1; cases e1
    rw [upd_same] at e3; cases e3
theorem Sim.reheld {D : Addr} {o o' : HO} (hnt : ∀ xs, o' ≠ HO.tup xs) (S : Sim K kc (upd Fz D o) en st G io σ H) (fD : Fz D = none) : Sim K kc (upd Fz D o') en st G io σ (upd H D o') := by
  obtain ⟨S1, hD, gD, iD, oD⟩ := S.held fD
  refine { gs := upd_mono S1.gs gD, fs := upd_both S1.fs, fg := fun a u e => ?_, ft := fun a u e => (by
      by_cases ha : a = D
      · subst ha; rw [upd_same] at e; cases e; exact hnt
      · rw [upd_ne ha] at e; exact S1.ft a u e), il := S.il, ind := S.ind, ce := fun n w a e1 e2 => ?_, sl := S1.sl, ow := fun i w e => ?_, inj := S.inj, el := S.el }
  · by_cases ha : a = D
    · subst ha; exact gD
    · rw [upd_ne ha] at e; exact S1.fg a u e
  · obtain ⟨h1, h2, u, h3, h4⟩ := S1.ce n w a e1 e2
    have ha : a ≠ D := fun z => by subst z; exact iD (List.mem_of_getElem? e2)
    exact ⟨h1, by rw [upd_ne ha]; exact h2, u, by rw [upd_ne ha]; exact h3, h4⟩
  · obtain ⟨a, u, e1, e2, e3, e4, e5, e6⟩ := S1.ow i w e
    have ha : a ≠ D := fun z => by subst z; exact oD i w e e1
    exact ⟨a, u, e1, e2, by rw [upd_ne ha]; exact e3, e4, by rw [upd_ne ha]; exact e5, e6⟩
end
theorem wipeE_out {en : En} {i : Nat} : ∀ {vs : List Nat}, i ∉ vs → (wipeE en vs)[i]? = en[i]?
  | [], _ => rfl
  | v :: vs, h => by
    unfold wipeE
    rw [List.getElem?_set_ne fun z => h (by rw [z]; exact List.mem_cons_self)]
    exact wipeE_out fun z => h (List.mem_cons_of_mem _ z)
theorem wipe_idem {σ : St} {ns : List Nat} : wipe (wipe σ ns) ns = wipe σ ns := by
  have key : ∀ us : List Nat, (∀ n ∈ us, n ∈ ns) → L2.wipe (L2.wipe σ ns) us = L2.wipe σ ns := fun us => by
    induction us with
    | nil => intro _; rfl
    | cons u us ih =>
      intro hu
      rw [show L2.wipe (L2.wipe σ ns) (u :: us) = (L2.wipe (L2.wipe σ ns) us).set u none from rfl]
      rw [ih fun n hn => hu n (List.mem_cons_of_mem _ hn)]
      have hm := hu u List.mem_cons_self
      clear hu ih
      have z : (L2.wipe σ ns)[u]? = none ∨ (L2.wipe σ ns)[u]? = some none := by
        cases q : (L2.wipe σ ns)[u]? with
        | none => exact .inl rfl
        | some o =>
          cases o with
          | none => exact .inr rfl
          | some v => exact absurd hm (wipe_some q).2
      rcases z with z | z
      · exact List.set_eq_of_length_le (List.getElem?_eq_none_iff.mp z)
      · obtain ⟨h1, h2⟩ := List.getElem?_eq_some_iff.mp z
        have e : none = (L2.wipe σ ns)[u] := h2.symm
        rw [e]; exact List.set_getElem_self h1
  exact key ns fun _ h => h
/-- the turns -/
def lcZ (ns : List Nat) (bd : Bd) (t : Tv) (m : Ev) (en : En) : List W → List W → Sto → R Sto (List W)
  | [], acc, st => .ok acc st
  | w :: ws, acc, st => match bd w (wipeE en ns) with
    | none => .no
    | some en1 => match t en1 st with
      | .ok true s => match m en1 s with
        | .ok x s' => if fit acc.length then lcZ ns bd t m en ws (acc ++ [x]) s' else .no
        | _ => .no
      | .ok false s => lcZ ns bd t m en ws acc s
      | _ => .no
def ownS : Slt → Bool
  | some (true, _) => true
  | _ => false
def E.lc (mi : Iv) (ns : List Nat) (bd : Bd) (t : Tv) (m : Ev) : Ev := fun en st => if ns.any (fun n => ownS (en.getD n none)) then .no else (mi en st).bind fun items s => (lcZ ns bd t m en items [] s).bind fun xs s' => .ok (.lst xs) s'
theorem lcZ_ex {ns : List Nat} {bd : Bd} {t : Tv} {m : Ev} {en : En} : ∀ (ws acc : List W) (st : Sto) (c : String) (fs : List (Str × W)) (s : Sto), lcZ ns bd t m en ws acc st ≠ .ex c fs s
  | [], acc, st, c, fs, s => by unfold lcZ; intro z; cases z
  | w :: ws, acc, st, c, fs, s => by
    unfold lcZ
    intro z
    split at z
    · cases z
    · split at z
      · split at z
        · split at z
          · exact lcZ_ex _ _ _ _ _ _ z
          · cases z
        · cases z
      · exact lcZ_ex _ _ _ _ _ _ z
      · cases z
abbrev WF : WX := fun _ _ _ _ => False
section
variable {X : Cx} {kc : CT} {Wx : WX} {tg it elt : Expr} {ifs : List Expr} {scope : Scope} {own : List (Str × Nat)} {pos : Pos}
theorem oks_lc {K : PySem.W.Frag} {wi : TI} {g : TG} {tt : TT} {te : TE} {mi : Iv} {ns ns' : List Nat} {bd : Bd} {t : Tv} {m : Ev} (hi : Oks K kc Wx (relI K kc) mi wi)
    (hg : ∀ Fz en st G io σ H w v en', Sim K kc Fz en st G io σ H → Rp K kc io G w v → bd w en = some en' → ∀ Q : St → Hp → Prop, (∀ σ', Sim K kc Fz en' st G io σ' H → (∀ vs : List Nat, (∀ n ∈ ns', n ∈ vs) → wipe σ' vs = wipe σ vs) → Q σ' H) → g v σ H Q)
    (hs : ∀ n ∈ ns', n ∈ ns) (hbd : ∀ w en en', bd w en = some en' → ∀ i : Nat, i ∉ ns' → en'[i]? = en[i]?) (ht : Oks K kc WF relT t tt) (he : Oks K kc WF (relE K kc) m te) : Oks K kc Wx (relF K kc) (E.lc mi ns bd t m) (tLc wi g tt te ns) := by
  intro Fz en st G io σ H S
  unfold E.lc
  by_cases hno : (ns.any fun n => ownS (en.getD n none)) = true
  · rw [if_pos hno]; exact At.no
  rw [if_neg hno]
  refine (hi Fz en st G io σ H S).bind (u := fun (J : It) (H1 : Hp) (Q : V → Hp → Prop) => ∀ D, H1 D = none → ∃ W : Nat → Nat → Hp → Prop, (∃ m, W 0 m (upd H1 D (.lst []))) ∧ ∀ i m H, W i m H →
    (J.stop i H ∧ Q (V.ref D) H) ∨ (J.go i H ∧ ∃ Nx : Hp → Prop, (∀ H', Nx H' → ∃ m', m' < m ∧ W (i + 1) m' H') ∧ ∀ x H', J.yld i H x H' → g x (wipe σ ns) H' fun σ2 H2 => wipe σ2 ns = wipe σ ns ∧ tt σ2 H2 fun b H3 =>
      if b = true then te σ2 H3 fun y H4 => ∃ acc, H4 D = some (.lst acc) ∧ acc.length < sizeLine ∧ Nx (upd H4 D (.lst (acc ++ [y]))) else Nx H3)) fun items s1 J G1 io1 H1 e1 l1 p1 S1 r1 => ?_
  obtain ⟨Gd, Y, wk, hGd, hY⟩ := r1
  refine ⟨fun a st2 ea Q hQ D hD => ?_, fun c fs st' ea => ?_⟩
  · obtain ⟨xs, s2, e2, e3⟩ := R.bind_ok ea
    injection e3 with e4 e5
    subst e4
    rw [e5] at e2
    have fD := le_none S1.fs hD
    refine lc_it wk (tt := tt) (te := te) (fun i H => ∃ st' G' io' acc av, Le G1 G' ∧ io1 <+: io' ∧ Sim K kc (upd Fz D (.lst av)) en st' G' io' σ H ∧ RpL K kc io' G' acc av ∧ lcZ ns bd t m en (items.drop i) acc st' = .ok xs st2)
      ⟨s1, G1, io1, [], [], Le.refl _, pre_refl _, Sim.hold (fun _ z => nomatch z) S1 hD, .nil, by rw [List.drop_zero]; exact e2⟩ (fun i H _ ⟨_, _, _, _, _, l, p, S', _, _⟩ => hGd H (l.trans S'.gs.le)) ?_ ?_
    · rintro i x H2 H3 hi ⟨st', G', io', acc, av, l, p, S', ra, e'⟩ y
      obtain ⟨w, G3, ew, l3, S3, rw3⟩ : ∃ w G3, items[i]? = some w ∧ Le G' G3 ∧ Sim K kc (upd Fz D (.lst av)) en st' G3 io' σ H3 ∧ Rp K kc io' G3 w x := by
        rcases hY i H2 x H3 hi (l.trans S'.gs.le) y with ⟨rfl, w, ew, rw1⟩ | ⟨T, vs, ws, rfl, hT, rfl, ew, rw1⟩ | ⟨T, vs, ws, rfl, hT, rfl, ew, rw1⟩
        · exact ⟨w, G', ew, Le.refl _, S', rw1.mono l p⟩
        · exact ⟨_, _, ew, upd_le (le_none S'.gs hT), S'.alloc hT, .tup upd_same (rw1.mono (l.trans (upd_le (le_none S'.gs hT))) p)⟩
        · obtain ⟨G4, l4, S4, e4⟩ := S'.tupG hT
          exact ⟨_, _, ew, l4, S4, .tup e4 (rw1.mono (l.trans l4) p)⟩
      have ed : items.drop i = w :: items.drop (i + 1) := by
        obtain ⟨h1, h2⟩ := List.getElem?_eq_some_iff.mp ew
        rw [← h2]
        exact (List.getElem_cons_drop h1).symm
      rw [ed] at e'
      unfold lcZ at e'
      revert e'
      cases q : bd w (wipeE en ns) with
      | none => intro e'; cases e'
      | some en1 =>
        intro e'
        refine hg _ _ _ _ _ _ _ w x en1 (S3.wipe ns) rw3 q _ fun σ4 S4 hw => ⟨?_, ?_⟩
        · rw [hw ns hs]
          exact wipe_idem
        · revert e'
          dsimp only
          obtain ⟨t1, t2⟩ := ht _ _ _ _ _ _ _ S4
          cases q1 : t en1 st' with
          | no => intro e'; cases e'
          | ex c fs s => intro e'; cases e'
          | ok b s =>
            intro e'
            refine t1 b s q1 _ fun b' G5 io5 H5 l5 p5 S5 eb => ?_
            cases eb
            have back : ∀ {st6 G6 io6 H6}, Le G3 G6 → io' <+: io6 → Sim K kc (upd Fz D (.lst av)) en1 st6 G6 io6 σ4 H6 → Sim K kc (upd Fz D (.lst av)) en st6 G6 io6 σ H6 := fun {st6 G6 io6 H6} l6 p6 S6 =>
              { gs := S6.gs, fs := S6.fs, fg := S6.fg, ft := S6.ft, il := S6.il, ind := S6.ind, ce := S6.ce, inj := S3.inj, el := S3.el
                sl := fun i w e => by
                  obtain ⟨v, e1, r⟩ := S3.sl i w e
                  exact ⟨v, e1, r.mono l6 p6⟩
                ow := fun i w e => by
                  have hi : i ∉ ns := fun hm => hno (List.any_eq_true.mpr ⟨i, hm, by rw [List.getD_eq_getElem?_getD, e]; rfl⟩)
                  have e1 : en1[i]? = some (some (true, w)) := by
                    rw [hbd _ _ _ q i fun z => hi (hs i z), wipeE_out hi]
                    exact e
                  have e2 : σ4[i]? = σ[i]? := by
                    have z := hw ns hs
                    rw [wipe_idem] at z
                    rw [← wipe_out (σ := σ4) hi, z, wipe_out hi]
                  obtain ⟨a, o, q1, q2⟩ := S6.ow i w e1
                  exact ⟨a, o, e2 ▸ q1, q2⟩ }
            cases b with
            | false =>
              rw [if_neg (by decide)]
              exact ⟨s, G5, io5, acc, av, (l.trans l3).trans l5, p.trans p5, back l5 p5 S5, ra.mono (l3.trans l5) p5, e'⟩
            | true =>
              rw [if_pos rfl]
              revert e'
              dsimp only
              obtain ⟨m1, m2⟩ := he _ _ _ _ _ _ _ S5
              cases q2 : m en1 s with
              | no => intro e'; cases e'
              | ex c fs s => intro e'; cases e'
              | ok y s' =>
                intro e'
                refine m1 y s' q2 _ fun yv G6 io6 H6 l6 p6 S6 ry => ?_
                have S7 := back (l5.trans l6) (p5.trans p6) S6
                obtain ⟨_, hD6, _⟩ := S7.held fD
                have e' : (if fit acc.length then lcZ ns bd t m en (items.drop (i + 1)) (acc ++ [y]) s' else .no) = R.ok xs st2 := e'
                by_cases hf : fit acc.length = true
                · rw [if_pos hf] at e'
                  have hl : acc.length = av.length := ra.length
                  refine ⟨av, hD6, hl ▸ fit_lt hf, s', G6, io6, acc ++ [y], av ++ [yv], ((l.trans l3).trans l5).trans l6, (p.trans p5).trans p6, Sim.reheld (fun _ z => nomatch z) S7 fD, (ra.mono ((l3.trans l5).trans l6) (p5.trans p6)).append (.cons ry .nil), e'⟩
                · rw [if_neg hf] at e'; cases e'
    · rintro H2 ⟨st', G', io', acc, av, l, p, S', ra, e'⟩
      rw [List.drop_length] at e'
      cases e'
      obtain ⟨S2, hD2, gD2, iD2, oD2⟩ := S'.held fD
      exact hQ _ G' io' H2 l p S2 ⟨D, _, rfl, hD2, gD2, fD, iD2, oD2, .lst ra⟩
  · exfalso
    revert ea
    cases q : lcZ ns bd t m en items [] s1 with
    | ok a s => intro ea; cases ea
    | no => intro ea; cases ea
    | ex c fs s => exact fun _ => lcZ_ex _ _ _ _ _ _ q
end
end MH

/-! Items, slices, attributes, dicts. -/
namespace MH
open PySem L2

section
variable {X : Cx} {kc : CT} {Wx : WX} {tg it elt e o i : Expr} {ifs : List Expr} {scope : Scope} {own : List (Str × Nat)} {pos : Pos}
/-! ### comprehensions, in the text -/
def T.yes : Tv := fun _ st => .ok true st
theorem oks_yes {K : PySem.W.Frag} : Oks K kc Wx relT T.yes tYes := fun Fz en st G io σ H S => At.pure S rfl
theorem fx_lc0 {mi : Iv} {ns : List Nat} {bd : Bd} {m : Ev} (hc : X.calm = true) (hN : X.N.Nodup) (hi : IX X kc Wx tg it mi) (ok : BlkOk X.N X.env.scope scope own) (hsub : ∀ n ∈ ns, n ∈ own.map (·.2))
    (hg : ∀ (s : Shared) (H : Hp) (C : Addr) (cl : List (Str × Addr)) (fp : List Addr), GX (X.blk s H scope (compEnvC scope cl C X.env) fp) kc tg ns bd)
    (he : ∀ (s : Shared) (H : Hp) (C : Addr) (cl : List (Str × Addr)) (fp : List Addr), EX (X.blk s H scope (compEnvC scope cl C X.env) fp) kc WF elt m) (hs : ∀ x, foldedSetIterable it X.env x = pure x := by intro _; rfl) :
    FX X kc Wx (.ListComp elt [⟨tg, it, [], 0⟩] scope pos) (E.lc mi (own.map (·.2)) bd T.yes m) := by
  obtain ⟨wi, i1, i2⟩ := hi
  refine ⟨_, pe_lc (g := canG X.K kc ns bd) (te := can X.K kc WF (relE X.K kc) m) hc hN i1 ok (fun s H C cl fp => (hg s H C cl fp).pg) (fun s H C cl fp => pts_nil) (fun s H C cl fp => (he s H C cl fp).pe) hs, ?_⟩
  exact oks_lc i2 (fun Fz en st G io σ H w v en' S r e Q hQ => ⟨Fz, en, st, G, io, w, en', S, r, e, hQ⟩) hsub (hg X.s_0 X.H_0 0 [] []).2 oks_yes of_can
theorem fx_lc1 {mi : Iv} {ns : List Nat} {bd : Bd} {t : Tv} {m : Ev} {c : Expr} (hc : X.calm = true) (hN : X.N.Nodup) (hi : IX X kc Wx tg it mi) (ok : BlkOk X.N X.env.scope scope own) (hsub : ∀ n ∈ ns, n ∈ own.map (·.2))
    (hg : ∀ (s : Shared) (H : Hp) (C : Addr) (cl : List (Str × Addr)) (fp : List Addr), GX (X.blk s H scope (compEnvC scope cl C X.env) fp) kc tg ns bd)
    (ht : ∀ (s : Shared) (H : Hp) (C : Addr) (cl : List (Str × Addr)) (fp : List Addr), TX (X.blk s H scope (compEnvC scope cl C X.env) fp) kc WF c t)
    (he : ∀ (s : Shared) (H : Hp) (C : Addr) (cl : List (Str × Addr)) (fp : List Addr), EX (X.blk s H scope (compEnvC scope cl C X.env) fp) kc WF elt m) (hs : ∀ x, foldedSetIterable it X.env x = pure x := by intro _; rfl) :
    FX X kc Wx (.ListComp elt [⟨tg, it, [c], 0⟩] scope pos) (E.lc mi (own.map (·.2)) bd t m) := by
  obtain ⟨wi, i1, i2⟩ := hi
  refine ⟨_, pe_lc (g := canG X.K kc ns bd) (te := can X.K kc WF (relE X.K kc) m) hc hN i1 ok (fun s H C cl fp => (hg s H C cl fp).pg) (fun s H C cl fp => pts_one (t := can X.K kc WF relT t) (ht s H C cl fp).pt) (fun s H C cl fp => (he s H C cl fp).pe) hs, ?_⟩
  exact oks_lc i2 (fun Fz en st G io σ H w v en' S r e Q hQ => ⟨Fz, en, st, G, io, w, en', S, r, e, hQ⟩) hsub (hg X.s_0 X.H_0 0 [] []).2 of_can of_can
theorem soks_own {K : PySem.W.Frag} {te : TE} {m : Ev} {i : Nat} (h : Oks K kc Wx (relF K kc) m te) : SOks K kc Wx (Z.own i m) (tAsg te (gName i)) := fun Fz en st G io σ H S => by
  refine (h Fz en st G io σ H S).toS (u := fun D v H1 => gName i v σ H1 D.nx) fun w s1 x G1 io1 H1 e1 l1 p1 S1 r1 => ?_
  obtain ⟨p, o, rfl, hp, gp, fp, ip, ep, nd⟩ := r1
  exact ⟨fun fl s e D hD => (by cases e; exact hD _ G1 io1 H1 (Le.refl _) (pre_refl _) (S1.setOwn hp gp fp ip ep nd)), fun _ _ _ e => (nomatch e)⟩
theorem soks_set {K : PySem.W.Frag} {te : TE} {m : Ev} {i : Nat} (h : Oks K kc Wx (relE K kc) m te) : SOks K kc Wx (Z.set i m) (tAsg te (gName i)) := fun Fz en st G io σ H S => by
  refine (h Fz en st G io σ H S).toS (u := fun D v H1 => gName i v σ H1 D.nx) fun w s1 x G1 io1 H1 e1 l1 p1 S1 r1 => ?_
  exact ⟨fun fl s e D hD => (by cases e; exact hD _ G1 io1 H1 (Le.refl _) (pre_refl _) (Sim.set S1 r1)), fun _ _ _ e => (nomatch e)⟩
theorem oks_frz {K : PySem.W.Frag} {te : TE} {m : Ev} (h : Oks K kc Wx (relF K kc) m te) : Oks K kc Wx (relE K kc) m te := fun Fz en st G io σ H S => (h Fz en st G io σ H S).frz
/-- name = [..] on one line, the name a local -/
theorem sx_ownLc0 (j : Nat) {y : Str} {py : Pos} {spos : Pos} {mi : Iv} {ns : List Nat} {bd : Bd} {m : Ev} (hc : X.calm = true) (hN : X.N.Nodup) (hi : IX X kc Wx tg it mi) (ok : BlkOk X.N X.env.scope scope own) (hsub : ∀ n ∈ ns, n ∈ own.map (·.2))
    (hg : ∀ (s : Shared) (H : Hp) (C : Addr) (cl : List (Str × Addr)) (fp : List Addr), GX (X.blk s H scope (compEnvC scope cl C X.env) fp) kc tg ns bd)
    (he : ∀ (s : Shared) (H : Hp) (C : Addr) (cl : List (Str × Addr)) (fp : List Addr), EX (X.blk s H scope (compEnvC scope cl C X.env) fp) kc WF elt m)
    (hsw : swapsWith (.ListComp elt [⟨tg, it, [], 0⟩] scope pos) (some (.Name y py)) spos.line X.env = pure true) (hy : X.N[j]? = some y := by rfl) (hyl : X.env.scope.names.lookup y = some .local := by rfl) (hs : ∀ x, foldedSetIterable it X.env x = pure x := by intro _; rfl) :
    SX X kc Wx (.Assign [.Name y py] (.ListComp elt [⟨tg, it, [], 0⟩] scope pos) spos) (Z.own j (E.lc mi (own.map (·.2)) bd T.yes m)) := by
  obtain ⟨wi, i1, i2⟩ := hi
  refine ⟨_, ps_setLc (g := canG X.K kc ns bd) (te := can X.K kc WF (relE X.K kc) m) hc hN hy hyl hsw i1 ok (fun s H C cl fp => (hg s H C cl fp).pg) (fun s H C cl fp => pts_nil) (fun s H C cl fp => (he s H C cl fp).pe) hs, soks_own ?_⟩
  exact oks_lc i2 (fun Fz en st G io σ H w v en' S r e Q hQ => ⟨Fz, en, st, G, io, w, en', S, r, e, hQ⟩) hsub (hg X.s_0 X.H_0 0 [] []).2 oks_yes of_can
theorem sx_ownLc1 (j : Nat) {y : Str} {py : Pos} {spos : Pos} {mi : Iv} {ns : List Nat} {bd : Bd} {t : Tv} {m : Ev} {c : Expr} (hc : X.calm = true) (hN : X.N.Nodup) (hi : IX X kc Wx tg it mi) (ok : BlkOk X.N X.env.scope scope own) (hsub : ∀ n ∈ ns, n ∈ own.map (·.2))
    (hg : ∀ (s : Shared) (H : Hp) (C : Addr) (cl : List (Str × Addr)) (fp : List Addr), GX (X.blk s H scope (compEnvC scope cl C X.env) fp) kc tg ns bd)
    (ht : ∀ (s : Shared) (H : Hp) (C : Addr) (cl : List (Str × Addr)) (fp : List Addr), TX (X.blk s H scope (compEnvC scope cl C X.env) fp) kc WF c t)
    (he : ∀ (s : Shared) (H : Hp) (C : Addr) (cl : List (Str × Addr)) (fp : List Addr), EX (X.blk s H scope (compEnvC scope cl C X.env) fp) kc WF elt m)
    (hsw : swapsWith (.ListComp elt [⟨tg, it, [c], 0⟩] scope pos) (some (.Name y py)) spos.line X.env = pure true) (hy : X.N[j]? = some y := by rfl) (hyl : X.env.scope.names.lookup y = some .local := by rfl) (hs : ∀ x, foldedSetIterable it X.env x = pure x := by intro _; rfl) :
    SX X kc Wx (.Assign [.Name y py] (.ListComp elt [⟨tg, it, [c], 0⟩] scope pos) spos) (Z.own j (E.lc mi (own.map (·.2)) bd t m)) := by
  obtain ⟨wi, i1, i2⟩ := hi
  refine ⟨_, ps_setLc (g := canG X.K kc ns bd) (te := can X.K kc WF (relE X.K kc) m) hc hN hy hyl hsw i1 ok (fun s H C cl fp => (hg s H C cl fp).pg) (fun s H C cl fp => pts_one (t := can X.K kc WF relT t) (ht s H C cl fp).pt) (fun s H C cl fp => (he s H C cl fp).pe) hs, soks_own ?_⟩
  exact oks_lc i2 (fun Fz en st G io σ H w v en' S r e Q hQ => ⟨Fz, en, st, G, io, w, en', S, r, e, hQ⟩) hsub (hg X.s_0 X.H_0 0 [] []).2 of_can of_can

/-! ### items -/
def ixW : W → W → Option W
  | .lst ws, .int i => atI ws i
  | .scr ws, .int i => atI ws i
  | .tup ws, .int i => atI ws i
  | .stp ws, .int i => atI ws i
  | .str s, .int i => if fit s.length then (atI s.cps.toList i).map fun c => .str ⟨#[c]⟩ else none
  | _, _ => none
theorem RpL.atI {K : PySem.W.Frag} {io : List Addr} {G : Hp} {ws : List W} {vs : List V} {i : Int} {w : W} (r : RpL K kc io G ws vs) (h : L2.atI ws i = some w) : ∃ v, L2.atI vs i = some v ∧ Rp K kc io G w v := by
  unfold L2.atI at h ⊢
  rw [r.length] at h
  cases q : ixN vs.length i with
  | none => rw [q] at h; cases h
  | some j =>
    rw [q] at h
    exact r.get h
theorem opk_ix {K : PySem.W.Frag} : OpK K kc (rIx K) ixW := by
  intro Wx Fz en st G io σ H x y w1 w2 S t1 t2
  unfold ixW
  split
  · rename_i ws i
    obtain ⟨a, vs, rfl, h1, r1⟩ := t1.lst S.gs
    cases t2.int
    cases q : L2.atI ws i with
    | none => exact At.no
    | some w =>
      obtain ⟨v, e, r⟩ := r1.atI q
      exact (At.pure S r).mono fun Q q => .inl ⟨a, vs, i, v, rfl, rfl, .inl (.inl h1), e, q⟩
  · rename_i ws i
    obtain ⟨a, vs, rfl, h1, r1⟩ := t1.scr S.gs
    cases t2.int
    cases q : L2.atI ws i with
    | none => exact At.no
    | some w =>
      obtain ⟨v, e, r⟩ := r1.atI q
      exact (At.pure S r).mono fun Q q => .inl ⟨a, vs, i, v, rfl, rfl, h1, e, q⟩
  · rename_i ws i
    obtain ⟨a, vs, rfl, h1, r1⟩ := t1.tup S.gs
    cases t2.int
    cases q : L2.atI ws i with
    | none => exact At.no
    | some w =>
      obtain ⟨v, e, r⟩ := r1.atI q
      exact (At.pure S r).mono fun Q q => .inr (.inl ⟨a, vs, i, v, rfl, rfl, .inl (.inl h1), e, q⟩)
  · rename_i ws i
    obtain ⟨a, vs, rfl, h1, r1⟩ := t1.stp S.gs
    cases t2.int
    cases q : L2.atI ws i with
    | none => exact At.no
    | some w =>
      obtain ⟨v, e, r⟩ := r1.atI q
      exact (At.pure S r).mono fun Q q => .inr (.inl ⟨a, vs, i, v, rfl, rfl, h1, e, q⟩)
  · rename_i s i
    cases t1.str
    cases t2.int
    split
    · rename_i hf
      cases q : L2.atI s.cps.toList i with
      | none => exact At.no
      | some c => exact (At.pure (a := W.str ⟨#[c]⟩) S (Rp.str ⟨#[c]⟩)).mono fun Q q' => .inr (.inr ⟨s, i, c, rfl, rfl, fit_line hf, q, q'⟩)
    · exact At.no
  · exact At.no
theorem ex_ix {p q : Pv} (ha : PX X kc Wx o p) (hb : PX X kc Wx i q) (hs : PlainIx i := by exact fun _ _ => rfl) : EX X kc Wx (.Subscript o i pos) (E.bin ixW p q) := by
  obtain ⟨ta, a1, a2⟩ := ha
  obtain ⟨tb, b1, b2⟩ := hb
  exact ⟨_, pe_ix ix_seq a1 b1 hs, oks_op opk_ix a2 b2⟩

/-! ### slices -/
def cutL {α : Type} (xs : List α) (lo hi : Option Int) : List α := (xs.drop (HT.sIx xs.length 0 lo)).take (HT.sIx xs.length xs.length hi - HT.sIx xs.length 0 lo)
abbrev Ov := En → Sto → R Sto (Option Int)
def relO : Rel (Option Int) (Option Int) := fun _ _ _ _ _ _ a b => a = b
def OX (X : Cx) (kc : CT) (Wx : WX) (e : Option Expr) (m : Ov) : Prop := ∃ t, PO X e t ∧ Oks X.K kc Wx relO m t
def O.no : Ov := fun _ st => .ok none st
def intW : W → Option (Option Int)
  | .int i => some (some i)
  | _ => none
def O.at (m : Ev) : Ov := fun en st => (m en st).bind fun w s => lift (intW w) s
theorem ox_no : OX X kc Wx none O.no := ⟨_, po_none, fun Fz en st G io σ H S => At.pure S rfl⟩
theorem ox_at {m : Ev} (h : EX X kc Wx e m) : OX X kc Wx (some e) (O.at m) := by
  obtain ⟨t, h1, h2⟩ := h
  refine ⟨_, po_some h1, fun Fz en st G io σ H S => ?_⟩
  refine (h2 Fz en st G io σ H S).bind (u := fun x H1 Q => ∃ i, x = .int i ∧ Q (some i) H1) fun w s1 x G1 io1 H1 e1 l1 p1 S1 r1 => ?_
  unfold intW
  split
  · cases r1
    exact (At.pure S1 (rfl : relO _ _ _ _ _ _ _ _)).mono fun Q q => ⟨_, rfl, q⟩
  · exact At.no
def sliceW (lo hi : Option Int) : W → Option W
  | .lst ws => some (.lst (cutL ws lo hi))
  | .scr ws => some (.lst (cutL ws lo hi))
  | .tup ws => some (.tup (cutL ws lo hi))
  | .str s => if fit s.length then some (.str (cutS s lo hi)) else none
  | _ => none
def E.slice (p : Pv) (lo hi : Ov) : Ev := fun en st => (p en st).bind fun h s => (lo en s).bind fun l s' => (hi en s').bind fun u s'' => lift (sliceW l u (view en s'' h)) s''
def rSlW (K : PySem.W.Frag) : V → Option Int → Option Int → Hp → VK → Prop := fun x lo hi H Q => rSlL K x lo hi H Q ∨ (fun x lo hi H Q => rSlA K x lo hi H Q ∨ rSlS x lo hi H Q) x lo hi H Q
theorem sl_W : SlR X (rSlW X.K) := sl_list.or (sl_tupA.or sl_str)
theorem cut_rp {K : PySem.W.Frag} {io : List Addr} {G : Hp} {ws : List W} {vs : List V} (r : RpL K kc io G ws vs) (lo hi : Option Int) : RpL K kc io G (cutL ws lo hi) (cutV vs lo hi) := by
  unfold cutL cutV
  rw [r.length]
  exact (r.drop _).take _
theorem at_slice {K : PySem.W.Frag} {Fz : Hp} {en : En} {st : Sto} {G : Hp} {io : List Addr} {σ : St} {H : Hp} {w : W} {x : V} {lo hi : Option Int} (S : Sim K kc Fz en st G io σ H) (t : Tp K kc io G H w x) : At K kc Wx (relE K kc) Fz en G io σ (lift (sliceW lo hi w) st) (rSlW K x lo hi H) := by
  unfold sliceW
  split
  · obtain ⟨a, vs, rfl, h1, r1⟩ := t.lst S.gs
    exact (At.new S fun p hp => new_lst S (cut_rp r1 lo hi) hp).mono fun Q q => .inl ⟨a, vs, rfl, .inl (.inl h1), q⟩
  · obtain ⟨a, vs, rfl, h1, r1⟩ := t.scr S.gs
    exact (At.new S fun p hp => new_lst S (cut_rp r1 lo hi) hp).mono fun Q q => .inl ⟨a, vs, rfl, h1, q⟩
  · rename_i ws
    obtain ⟨a, vs, rfl, h1, r1⟩ := t.tup S.gs
    by_cases hw : HT.sIx vs.length 0 lo = 0 ∧ HT.sIx vs.length vs.length hi = vs.length
    · refine (At.pure (a := W.tup (cutL ws lo hi)) (b := V.ref a) S (?_ : relE K kc Fz io G en σ H _ _)).mono fun Q q => .inr (.inl ⟨a, vs, rfl, .inl (.inl h1), fun _ => q, fun z => (z hw).elim⟩)
      have e : cutL ws lo hi = ws := by
        unfold cutL
        rw [r1.length, hw.1, hw.2, ← r1.length, List.drop_zero, Nat.sub_zero, List.take_length]
      rw [e]
      rcases t with t | ⟨_, _, _, _, t⟩
      · exact t
      · cases t
    · exact (At.new S fun p hp => new_tup S (cut_rp r1 lo hi) hp).mono fun Q q => .inr (.inl ⟨a, vs, rfl, .inl (.inl h1), fun z => (hw z).elim, fun _ => q⟩)
  · cases t.str
    split
    · rename_i hf
      exact (At.pure S (Rp.str _)).mono fun Q q => .inr (.inr ⟨_, rfl, fit_line hf, q⟩)
    · exact At.no
  · exact At.no
theorem ex_slice {lo hi : Option Expr} {p : Pv} {l u : Ov} {p2 : Pos} (h : PX X kc Wx e p) (hl : OX X kc Wx lo l) (hu : OX X kc Wx hi u) : EX X kc Wx (.Subscript e (.Slice lo hi none p2) pos) (E.slice p l u) := by
  obtain ⟨t, h1, h2⟩ := h
  obtain ⟨tl, l1, l2⟩ := hl
  obtain ⟨tu, u1, u2⟩ := hu
  refine ⟨_, pe_slice sl_W h1 l1 u1, fun Fz en st G io σ H S => ?_⟩
  refine (h2 Fz en st G io σ H S).bind fun w s1 x G1 io1 H1 e1 q1 p1 S1 r1 => ?_
  refine (l2 Fz en s1 G1 io1 σ H1 S1).bind fun ol s2 ol' G2 io2 H2 e2 q2 p2 S2 r2 => ?_
  refine (u2 Fz en s2 G2 io2 σ H2 S2).bind fun ou s3 ou' G3 io3 H3 e3 q3 p3 S3 r3 => ?_
  cases r2
  cases r3
  exact at_slice S3 (view_of S3 (HdOk.mono (q2.trans q3) (p2.trans p3) r1))
def revW : W → Option W
  | .lst ws => some (.lst ws.reverse)
  | .scr ws => some (.lst ws.reverse)
  | _ => none
def E.un (f : W → Option W) (p : Pv) : Ev := fun en st => (p en st).bind fun h s => lift (f (view en s h)) s
/-- xs[::-1] of a list -/
theorem fx_revL {p : Pv} {k : Nat} {p1 p2 p3 : Pos} (h : PX X kc Wx e p) : FX X kc Wx (.Subscript e (.Slice none none (some (.UnaryOp .USub (.Constant (.int 1) k p1) p2)) p3) pos) (E.un revW p) := by
  obtain ⟨t, h1, h2⟩ := h
  refine ⟨_, pe_revL h1, fun Fz en st G io σ H S => ?_⟩
  refine (h2 Fz en st G io σ H S).bind (u := fun (x : V) (H1 : Hp) (Q : V → Hp → Prop) => ∃ a xs, x = V.ref a ∧ SqL X.K H1 a xs ∧ ∀ p, H1 p = none → Q (V.ref p) (upd H1 p (.lst xs.reverse))) fun w s1 x G1 io1 H1 e1 q1 p1 S1 r1 => ?_
  have t := view_of S1 r1
  revert t
  generalize view en s1 w = u
  intro t
  unfold revW
  split
  · obtain ⟨a, vs, rfl, h1, r1⟩ := t.lst S1.gs
    exact (At.newF S1 (.lst r1.rev)).mono fun Q q => ⟨a, vs, rfl, .inl (.inl h1), q⟩
  · obtain ⟨a, vs, rfl, h1, r1⟩ := t.scr S1.gs
    exact (At.newF S1 (.lst r1.rev)).mono fun Q q => ⟨a, vs, rfl, h1, q⟩
  · exact At.no

/-! ### attributes -/
def attrW (pl : List String) (f : Str) : W → Option W
  | .ins c fs => if pl.contains c then fs.lookup f else none
  | _ => none
theorem RpF.lookup {K : PySem.W.Frag} {io : List Addr} {G : Hp} {f : Str} : ∀ {fs : List (Str × W)} {fv : List (Str × V)} {w : W}, RpF K kc io G fs fv → fs.lookup f = some w → ∃ v, fv.lookup f = some v ∧ Rp K kc io G w v
  | _, _, _, .nil, e => by cases e
  | _, _, w, @RpF.cons _ _ _ _ x w1 v1 ws vs h r, e => by
    rw [List.lookup_cons] at e ⊢
    cases q : f == x with
    | true => rw [q] at e; cases e; exact ⟨v1, rfl, h⟩
    | false => rw [q] at e; exact RpF.lookup r e
theorem RpF.lookup_none {K : PySem.W.Frag} {io : List Addr} {G : Hp} {f : Str} : ∀ {fs : List (Str × W)} {fv : List (Str × V)}, RpF K kc io G fs fv → fs.lookup f = none → fv.lookup f = none
  | _, _, .nil, e => rfl
  | _, _, @RpF.cons _ _ _ _ x w1 v1 ws vs h r, e => by
    rw [List.lookup_cons] at e ⊢
    cases q : f == x with
    | true => rw [q] at e; cases e
    | false => rw [q] at e; exact RpF.lookup_none r e
/-- the plain classes of the text, as their instances are read -/
def PlainC (X : Cx) (kc : CT) (pl : List String) (f : Str) : Prop := ∀ c ∈ pl, ∀ C, kc c = some C → Cls X.K C ∧ NoAttr X.K C f
theorem ex_attr {p : Pv} {f : Str} {pl : List String} (h : PX X kc Wx e p) (hc : PlainC X kc pl f) (hb : attributeBase e f X.env (eval e X.env) = eval e X.env := by rfl) : EX X kc Wx (.Attribute e f pos) (E.un (attrW pl f) p) := by
  obtain ⟨t, h1, h2⟩ := h
  refine ⟨_, pe_fld h1 hb, fun Fz en st G io σ H S => ?_⟩
  refine (h2 Fz en st G io σ H S).bind (u := fun x H1 Q => ∃ a C dx fs v, x = .ref a ∧ H1 a = some (.ins C dx fs) ∧ Cls X.K C ∧ NoAttr X.K C f ∧ fs.lookup f = some v ∧ Q v H1) fun w s1 x G1 io1 H1 e1 q1 p1 S1 r1 => ?_
  have t := view_of S1 r1
  revert t
  generalize view en s1 w = u
  intro t
  unfold attrW
  split
  · rename_i c fs
    split
    · rename_i hp
      obtain ⟨a, C, dx, fv, rfl, ec, ea, rf⟩ := t.ins S1.gs
      cases q : fs.lookup f with
      | none => exact At.no
      | some w =>
        obtain ⟨v, ev, r⟩ := rf.lookup q
        obtain ⟨c1, c2⟩ := hc c (List.contains_iff_mem.mp hp) C ec
        exact (At.pure S1 r).mono fun Q q => ⟨a, C, dx, fv, v, rfl, ea, c1, c2, ev, q⟩
    · exact At.no
  · exact At.no

/-! ### dicts -/
def keyOf : W → Option Key
  | .int i => some (.inl i)
  | .str s => some (.inr s)
  | _ => none
def keysOf : W → Option (List Key)
  | .tup ws => ws.mapM keyOf
  | _ => none
theorem keyOf_wk (k : Key) : keyOf (wk k) = some k := by cases k <;> rfl
theorem wk_keyOf {w : W} {k : Key} (h : keyOf w = some k) : w = wk k := by
  unfold keyOf at h
  split at h <;> (first | cases h) <;> rfl
theorem mapM_wk : ∀ ks : List Key, (ks.map wk).mapM keyOf = some ks
  | [] => rfl
  | k :: ks => by rw [List.map_cons, List.mapM_cons, keyOf_wk, mapM_wk ks]; rfl
theorem keysOf_wk (ks : List Key) : keysOf (.tup (ks.map wk)) = some ks := mapM_wk ks
theorem of_mapM : ∀ {ws : List W} {ks : List Key}, ws.mapM keyOf = some ks → ws = ks.map wk
  | [], ks, h => by cases h; rfl
  | w :: ws, ks, h => by
    rw [List.mapM_cons] at h
    cases q : keyOf w with
    | none => rw [q] at h; cases h
    | some k =>
      cases q2 : ws.mapM keyOf with
      | none => rw [q, q2] at h; cases h
      | some ks' =>
        rw [q, q2] at h
        cases h
        rw [List.map_cons, ← of_mapM q2, ← wk_keyOf q]
theorem wk_keysOf {w : W} {ks : List Key} (h : keysOf w = some ks) : w = .tup (ks.map wk) := by
  unfold keysOf at h
  split at h
  · rw [of_mapM h]
  · cases h
def lookD (kws : List (W × W)) (k : Key) : Option W := (kws.find? fun p => decide (keyOf p.1 = some k)).map (·.2)
def lookT (kws : List (W × W)) (k : List Key) : Option W := (kws.find? fun p => decide (keysOf p.1 = some k)).map (·.2)
def putD (kws : List (W × W)) (k : Key) (w : W) : List (W × W) := if (kws.any fun p => decide (keyOf p.1 = some k)) then kws.map fun p => if keyOf p.1 = some k then (p.1, w) else p else kws ++ [(wk k, w)]
def putT (kws : List (W × W)) (k : List Key) (w : W) : List (W × W) := if (kws.any fun p => decide (keysOf p.1 = some k)) then kws.map fun p => if keysOf p.1 = some k then (p.1, w) else p else kws ++ [(.tup (k.map wk), w)]
section
variable {K : PySem.W.Frag} {io : List Addr} {G : Hp}
theorem RpD.look {k : Key} : ∀ {kws : List (W × W)} {kvs : List (Key × V)}, RpD K kc io G kws kvs → match lookD kws k with | some w => ∃ v, valV kvs k = some v ∧ Rp K kc io G w v | none => valV kvs k = none
  | _, _, .nil => rfl
  | _, _, @RpD.cons _ _ _ _ k1 w1 v1 ws vs h r => by
    unfold lookD
    rw [List.find?_cons]
    by_cases e : k1 = k
    · subst e
      rw [show decide (keyOf (wk k1, w1).1 = some k1) = true from decide_eq_true (keyOf_wk k1)]
      exact ⟨v1, valV_pos rfl, h⟩
    · rw [show decide (keyOf (wk k1, w1).1 = some k) = false from decide_eq_false (by rw [show (wk k1, w1).1 = wk k1 from rfl, keyOf_wk]; exact fun z => e (Option.some.inj z))]
      have ih := RpD.look (k := k) r
      unfold lookD at ih
      rw [valV_neg (show ¬ (k1, v1).1 = k from e)]
      exact ih
theorem RpT.look {k : List Key} : ∀ {kws : List (W × W)} {kvs : List (List Key × V)}, RpT K kc io G kws kvs → match lookT kws k with | some w => ∃ v, valV kvs k = some v ∧ Rp K kc io G w v | none => valV kvs k = none
  | _, _, .nil => rfl
  | _, _, @RpT.cons _ _ _ _ k1 w1 v1 ws vs h r => by
    unfold lookT
    rw [List.find?_cons]
    by_cases e : k1 = k
    · subst e
      rw [show decide (keysOf (W.tup (k1.map wk), w1).1 = some k1) = true from decide_eq_true (keysOf_wk k1)]
      exact ⟨v1, valV_pos rfl, h⟩
    · rw [show decide (keysOf (W.tup (k1.map wk), w1).1 = some k) = false from decide_eq_false (by rw [show (W.tup (k1.map wk), w1).1 = W.tup (k1.map wk) from rfl, keysOf_wk]; exact fun z => e (Option.some.inj z))]
      have ih := RpT.look (k := k) r
      unfold lookT at ih
      rw [valV_neg (show ¬ (k1, v1).1 = k from e)]
      exact ih
theorem RpD.any {k : Key} : ∀ {kws : List (W × W)} {kvs : List (Key × V)}, RpD K kc io G kws kvs → (kws.any fun p => decide (keyOf p.1 = some k)) = (kvs.any fun kv => decide (kv.1 = k))
  | _, _, .nil => rfl
  | _, _, @RpD.cons _ _ _ _ k1 w1 v1 ws vs h r => by
    rw [List.any_cons, List.any_cons, RpD.any r, show (wk k1, w1).1 = wk k1 from rfl, keyOf_wk]
    congr 1
    by_cases e : k1 = k
    · subst e; simp
    · simp [e]
theorem RpT.any {k : List Key} : ∀ {kws : List (W × W)} {kvs : List (List Key × V)}, RpT K kc io G kws kvs → (kws.any fun p => decide (keysOf p.1 = some k)) = (kvs.any fun kv => decide (kv.1 = k))
  | _, _, .nil => rfl
  | _, _, @RpT.cons _ _ _ _ k1 w1 v1 ws vs h r => by
    rw [List.any_cons, List.any_cons, RpT.any r, show (W.tup (k1.map wk), w1).1 = W.tup (k1.map wk) from rfl, keysOf_wk]
    congr 1
    by_cases e : k1 = k
    · subst e; simp
    · simp [e]
theorem RpD.snoc {k : Key} {w : W} {v : V} (q : Rp K kc io G w v) : ∀ {kws : List (W × W)} {kvs : List (Key × V)}, RpD K kc io G kws kvs → RpD K kc io G (kws ++ [(wk k, w)]) (kvs ++ [(k, v)])
  | _, _, .nil => .cons q .nil
  | _, _, .cons h r => .cons h (RpD.snoc q r)
theorem RpT.snoc {k : List Key} {w : W} {v : V} (q : Rp K kc io G w v) : ∀ {kws : List (W × W)} {kvs : List (List Key × V)}, RpT K kc io G kws kvs → RpT K kc io G (kws ++ [(.tup (k.map wk), w)]) (kvs ++ [(k, v)])
  | _, _, .nil => .cons q .nil
  | _, _, .cons h r => .cons h (RpT.snoc q r)
theorem RpD.repl {k : Key} {w : W} {v : V} (q : Rp K kc io G w v) : ∀ {kws : List (W × W)} {kvs : List (Key × V)}, RpD K kc io G kws kvs → RpD K kc io G (kws.map fun p => if keyOf p.1 = some k then (p.1, w) else p) (kvs.map fun kv => if kv.1 = k then (kv.1, v) else kv)
  | _, _, .nil => .nil
  | _, _, @RpD.cons _ _ _ _ k1 w1 v1 ws vs h r => by
    rw [List.map_cons, List.map_cons, show (wk k1, w1).1 = wk k1 from rfl, keyOf_wk]
    by_cases e : k1 = k
    · rw [if_pos (by rw [e]), if_pos e]; exact .cons q (RpD.repl q r)
    · rw [if_neg (fun z => e (Option.some.inj z)), if_neg e]; exact .cons h (RpD.repl q r)
theorem RpT.repl {k : List Key} {w : W} {v : V} (q : Rp K kc io G w v) : ∀ {kws : List (W × W)} {kvs : List (List Key × V)}, RpT K kc io G kws kvs → RpT K kc io G (kws.map fun p => if keysOf p.1 = some k then (p.1, w) else p) (kvs.map fun kv => if kv.1 = k then (kv.1, v) else kv)
  | _, _, .nil => .nil
  | _, _, @RpT.cons _ _ _ _ k1 w1 v1 ws vs h r => by
    rw [List.map_cons, List.map_cons, show (W.tup (k1.map wk), w1).1 = W.tup (k1.map wk) from rfl, keysOf_wk]
    by_cases e : k1 = k
    · rw [if_pos (by rw [e]), if_pos e]; exact .cons q (RpT.repl q r)
    · rw [if_neg (fun z => e (Option.some.inj z)), if_neg e]; exact .cons h (RpT.repl q r)
theorem RpD.put {k : Key} {w : W} {v : V} {kws : List (W × W)} {kvs : List (Key × V)} (r : RpD K kc io G kws kvs) (q : Rp K kc io G w v) : RpD K kc io G (putD kws k w) (putK kvs k v) := by
  unfold putD putK
  rw [r.any]
  split
  · exact r.repl q
  · exact r.snoc q
theorem RpT.put {k : List Key} {w : W} {v : V} {kws : List (W × W)} {kvs : List (List Key × V)} (r : RpT K kc io G kws kvs) (q : Rp K kc io G w v) : RpT K kc io G (putT kws k w) (putK kvs k v) := by
  unfold putT putK
  rw [r.any]
  split
  · exact r.repl q
  · exact r.snoc q
theorem RpD.length : ∀ {kws : List (W × W)} {kvs : List (Key × V)}, RpD K kc io G kws kvs → kws.length = kvs.length
  | _, _, .nil => rfl
  | _, _, .cons h r => by rw [List.length_cons, List.length_cons, RpD.length r]
theorem RpT.length : ∀ {kws : List (W × W)} {kvs : List (List Key × V)}, RpT K kc io G kws kvs → kws.length = kvs.length
  | _, _, .nil => rfl
  | _, _, .cons h r => by rw [List.length_cons, List.length_cons, RpT.length r]
theorem rp_wk {k : Key} {v : V} (r : Rp K kc io G (wk k) v) : v = kV k := by
  cases k with
  | inl i => cases r; rfl
  | inr s => cases r; rfl
theorem rp_wks : ∀ {ks : List Key} {vs : List V}, RpL K kc io G (ks.map wk) vs → vs = ks.map kV
  | [], _, r => by rw [List.map_nil] at r; cases r; rfl
  | k :: ks, _, r => by
    rw [List.map_cons] at r
    cases r with
    | cons h r => rw [List.map_cons, rp_wk h, rp_wks r]
end
/-- what d.get(k) finds: none of the outer option where the text has no word -/
def getW : W → W → Option (Option W)
  | .dct false kws, k => (keyOf k).map fun k => lookD kws k
  | .dct true kws, k => (keysOf k).map fun k => lookT kws k
  | _, _ => none
theorem tp_keys {K : PySem.W.Frag} {Fz : Hp} {en : En} {st : Sto} {G : Hp} {io : List Addr} {σ : St} {H : Hp} {ks : List Key} {y : V} (S : Sim K kc Fz en st G io σ H) (t : Tp K kc io G H (.tup (ks.map wk)) y) : ∃ b, y = .ref b ∧ H b = some (.tup (ks.map kV)) := by
  obtain ⟨b, vs, rfl, h, r⟩ := t.tup S.gs
  rw [← rp_wks r]
  exact ⟨b, rfl, h⟩
def Got (K : PySem.W.Frag) (kc : CT) (io : List Addr) (G : Hp) : Option W → Option V → Prop
  | some w, r => ∃ v, r = some v ∧ Rp K kc io G w v
  | none, r => r = none
/-- a word of the dict, or none -/
theorem getW_of {K : PySem.W.Frag} {Fz : Hp} {en : En} {st : Sto} {G : Hp} {io : List Addr} {σ : St} {H : Hp} {d k : W} {o : Option W} {x y : V} (S : Sim K kc Fz en st G io σ H) (t1 : Tp K kc io G H d x) (t2 : Tp K kc io G H k y) (h : getW d k = some o) :
    ∃ a r, x = .ref a ∧ IsD H a ∧ DGet H a y r ∧ Got K kc io G o r := by
  cases d <;> try (cases h; done)
  rename_i kk kws
  cases kk with
  | false =>
    have h : (keyOf k).map (fun k => lookD kws k) = some o := h
    cases q : keyOf k with
    | none => rw [q] at h; cases h
    | some kk =>
      rw [q] at h
      have e : o = lookD kws kk := (Option.some.inj h).symm
      subst e
      obtain ⟨a, vs, rfl, ha, r1⟩ := t1.dk S.gs
      have ek := wk_keyOf q
      subst ek
      have ey : y = kV kk := by
        rcases t2 with t2 | ⟨_, _, _, _, t2⟩
        · exact rp_wk t2
        · cases kk <;> cases t2
      subst ey
      refine ⟨a, valV vs kk, rfl, .inl ⟨vs, ha⟩, .inl ⟨vs, kk, ha, rfl, rfl⟩, ?_⟩
      have z := r1.look (k := kk)
      revert z
      cases lookD kws kk <;> exact fun z => z
  | true =>
    have h : (keysOf k).map (fun k => lookT kws k) = some o := h
    cases q : keysOf k with
    | none => rw [q] at h; cases h
    | some kk =>
      rw [q] at h
      have e : o = lookT kws kk := (Option.some.inj h).symm
      subst e
      obtain ⟨a, vs, rfl, ha, r1⟩ := t1.dt S.gs
      have ek := wk_keysOf q
      subst ek
      obtain ⟨b, rfl, hb⟩ := tp_keys S t2
      refine ⟨a, valV vs kk, rfl, .inr ⟨vs, ha⟩, .inr ⟨vs, kk, b, ha, rfl, hb, rfl⟩, ?_⟩
      have z := r1.look (k := kk)
      revert z
      cases lookT kws kk <;> exact fun z => z
/-- d[k], the key there -/
def E.dix (p q : Pv) : Ev := fun en st => (p en st).bind fun h1 s1 => (q en s1).bind fun h2 s2 => lift ((getW (view en s2 h1) (view en s2 h2)).bind id) s2
theorem ex_dix {p q : Pv} (hu : X.A.units + 1 < cLine) (ha : PX X kc Wx o p) (hb : PX X kc Wx i q) (hs : NoSl i := by exact fun _ _ => rfl) : EX X kc Wx (.Subscript o i pos) (E.dix p q) := by
  obtain ⟨ta, a1, a2⟩ := ha
  obtain ⟨tb, b1, b2⟩ := hb
  refine ⟨_, pe_dget hu a1 b1 hs, fun Fz en st G io σ H S => ?_⟩
  refine (a2 Fz en st G io σ H S).bind fun h1 s1 x G1 io1 H1 e1 l1 p1 S1 r1 => ?_
  refine (b2 Fz en s1 G1 io1 σ H1 S1).bind (u := fun y H2 Q => ∃ a v, x = .ref a ∧ DGet H2 a y (some v) ∧ Q v H2) fun h2 s2 y G2 io2 H2 e2 l2 p2 S2 r2 => ?_
  have t1 := view_of S2 (HdOk.mono l2 p2 r1)
  have t2 := view_of S2 r2
  cases q : getW (view en s2 h1) (view en s2 h2) with
  | none => exact At.no
  | some o =>
    obtain ⟨a, r, ex, _, dg, z⟩ := getW_of S2 t1 t2 q
    cases o with
    | none => exact At.no
    | some w =>
      obtain ⟨v, rfl, rv⟩ := z
      exact (At.pure S2 rv).mono fun Q q => ⟨a, v, ex, dg, q⟩
/-- d.get(k, e), d.get(k) -/
def isDct : W → Bool
  | .dct _ _ => true
  | _ => false
theorem isD_of {K : PySem.W.Frag} {io : List Addr} {G H : Hp} {w : W} {x : V} (S : Ls G H) (t : Tp K kc io G H w x) (h : isDct w = true) : ∃ a, x = .ref a ∧ IsD H a := by
  cases w with
  | dct k kws =>
    cases k with
    | false => obtain ⟨a, vs, rfl, ha, _⟩ := t.dk S; exact ⟨a, rfl, .inl ⟨vs, ha⟩⟩
    | true => obtain ⟨a, vs, rfl, ha, _⟩ := t.dt S; exact ⟨a, rfl, .inr ⟨vs, ha⟩⟩
  | _ => cases h
def E.get2 (p q : Pv) (m : Ev) : Ev := fun en st => (p en st).bind fun h1 s1 => if isDct (view en s1 h1) then (q en s1).bind fun h2 s2 => (m en s2).bind fun w s3 => lift ((getW (view en s3 h1) (view en s3 h2)).map fun o => o.getD w) s3 else .no
def E.get1 (p q : Pv) : Ev := fun en st => (p en st).bind fun h1 s1 => if isDct (view en s1 h1) then (q en s1).bind fun h2 s2 => lift ((getW (view en s2 h1) (view en s2 h2)).map fun o => o.getD .non) s2 else .no
theorem ex_get2 {f : Expr} {p q : Pv} {m : Ev} {apos cpos : Pos} (hu : X.A.units + 1 < cLine) (ha : PX X kc Wx o p) (hb : PX X kc Wx e q) (hf : EX X kc Wx f m) (hm : M2 X o "get" apos e f cpos := by exact ⟨rfl, rfl, rfl, rfl⟩) : EX X kc Wx (.Call (.Attribute o "get" apos) [e, f] [] cpos) (E.get2 p q m) := by
  obtain ⟨ta, a1, a2⟩ := ha
  obtain ⟨tb, b1, b2⟩ := hb
  obtain ⟨tc, c1, c2⟩ := hf
  refine ⟨_, pe_dget2 hu a1 b1 c1 hm, fun Fz en st G io σ H S => ?_⟩
  refine (a2 Fz en st G io σ H S).bind (u := fun x H1 Q => ∃ a, x = .ref a ∧ IsD H1 a ∧ tb σ H1 fun y H2 => tc σ H2 fun z H3 => ∃ o, DGet H3 a y o ∧ Q (o.getD z) H3) fun h1 s1 x G1 io1 H1 e1 l1 p1 S1 r1 => ?_
  by_cases hd : isDct (view en s1 h1) = true
  · rw [if_pos hd]
    obtain ⟨a, rfl, da⟩ := isD_of S1.gs (view_of S1 r1) hd
    refine At.mono (t := fun Q => tb σ H1 fun y H2 => tc σ H2 fun z H3 => ∃ o, DGet H3 a y o ∧ Q (o.getD z) H3) ?_ fun Q q => ⟨a, rfl, da, q⟩
    refine (b2 Fz en s1 G1 io1 σ H1 S1).bind fun h2 s2 y G2 io2 H2 e2 l2 p2 S2 r2 => ?_
    refine (c2 Fz en s2 G2 io2 σ H2 S2).bind (u := fun z H3 Q => ∃ o, DGet H3 a y o ∧ Q (o.getD z) H3) fun w s3 z G3 io3 H3 e3 l3 p3 S3 r3 => ?_
    have t1 := view_of S3 (HdOk.mono (l2.trans l3) (p2.trans p3) r1)
    have t2 := view_of S3 (HdOk.mono l3 p3 r2)
    cases q : getW (view en s3 h1) (view en s3 h2) with
    | none => exact At.no
    | some o =>
      obtain ⟨a', r, ex, _, dg, z⟩ := getW_of S3 t1 t2 q
      cases ex
      cases o with
      | none =>
        have z : r = none := z
        subst z
        exact (At.pure S3 r3).mono fun Q q => ⟨_, dg, q⟩
      | some w =>
        obtain ⟨v, rfl, rv⟩ := z
        exact (At.pure S3 rv).mono fun Q q => ⟨_, dg, q⟩
  · rw [if_neg hd]; exact At.no
theorem ex_get1 {p q : Pv} {apos cpos : Pos} (hu : X.A.units + 1 < cLine) (ha : PX X kc Wx o p) (hb : PX X kc Wx e q) (hm : M1 X o "get" apos e cpos := by exact ⟨rfl, rfl, rfl, rfl⟩) : EX X kc Wx (.Call (.Attribute o "get" apos) [e] [] cpos) (E.get1 p q) := by
  obtain ⟨ta, a1, a2⟩ := ha
  obtain ⟨tb, b1, b2⟩ := hb
  refine ⟨_, pe_dget1 hu a1 b1 hm, fun Fz en st G io σ H S => ?_⟩
  refine (a2 Fz en st G io σ H S).bind (u := fun x H1 Q => ∃ a, x = .ref a ∧ IsD H1 a ∧ tb σ H1 fun y H2 => ∃ o, DGet H2 a y o ∧ Q (o.getD .non) H2) fun h1 s1 x G1 io1 H1 e1 l1 p1 S1 r1 => ?_
  by_cases hd : isDct (view en s1 h1) = true
  · rw [if_pos hd]
    obtain ⟨a, rfl, da⟩ := isD_of S1.gs (view_of S1 r1) hd
    refine At.mono (t := fun Q => tb σ H1 fun y H2 => ∃ o, DGet H2 a y o ∧ Q (o.getD .non) H2) ?_ fun Q q => ⟨a, rfl, da, q⟩
    refine (b2 Fz en s1 G1 io1 σ H1 S1).bind (u := fun y H2 Q => ∃ o, DGet H2 a y o ∧ Q (o.getD .non) H2) fun h2 s2 y G2 io2 H2 e2 l2 p2 S2 r2 => ?_
    have t1 := view_of S2 (HdOk.mono l2 p2 r1)
    have t2 := view_of S2 r2
    cases q : getW (view en s2 h1) (view en s2 h2) with
    | none => exact At.no
    | some o =>
      obtain ⟨a', r, ex, _, dg, z⟩ := getW_of S2 t1 t2 q
      cases ex
      cases o with
      | none =>
        have z : r = none := z
        subst z
        exact (At.pure S2 Rp.non).mono fun Q q => ⟨_, dg, q⟩
      | some w =>
        obtain ⟨v, rfl, rv⟩ := z
        exact (At.pure S2 rv).mono fun Q q => ⟨_, dg, q⟩
  · rw [if_neg hd]; exact At.no
/-- k in d, k not in d -/
def E.din (p q : Pv) : Ev := fun en st => (p en st).bind fun h1 s1 => (q en s1).bind fun h2 s2 => lift ((getW (view en s2 h2) (view en s2 h1)).map fun o => .bl o.isSome) s2
def E.dni (p q : Pv) : Ev := fun en st => (p en st).bind fun h1 s1 => (q en s1).bind fun h2 s2 => lift ((getW (view en s2 h2) (view en s2 h1)).map fun o => .bl (!o.isSome)) s2
theorem oks_din {K : PySem.W.Frag} {p q : Pv} {ta tb : TE} (a2 : Oks K kc Wx (relP K kc) p ta) (b2 : Oks K kc Wx (relP K kc) q tb) : Oks K kc Wx (relE K kc) (E.din p q) (tDIn ta tb) := by
  intro Fz en st G io σ H S
  refine (a2 Fz en st G io σ H S).bind fun h1 s1 x G1 io1 H1 e1 l1 p1 S1 r1 => ?_
  refine (b2 Fz en s1 G1 io1 σ H1 S1).bind (u := fun y H2 Q => ∃ a o, y = .ref a ∧ DGet H2 a x o ∧ Q (V.bl o.isSome) H2) fun h2 s2 y G2 io2 H2 e2 l2 p2 S2 r2 => ?_
  have t1 := view_of S2 (HdOk.mono l2 p2 r1)
  have t2 := view_of S2 r2
  cases q : getW (view en s2 h2) (view en s2 h1) with
  | none => exact At.no
  | some o =>
    obtain ⟨a, r, ex, _, dg, z⟩ := getW_of S2 t2 t1 q
    have e : r.isSome = o.isSome := by
      cases o with
      | none => have z : r = none := z; rw [z]; rfl
      | some w => obtain ⟨v, rfl, rv⟩ := z; rfl
    exact (At.pure S2 (Rp.bl o.isSome)).mono fun Q q => ⟨a, r, ex, dg, e ▸ q⟩
theorem oks_dni {K : PySem.W.Frag} {p q : Pv} {ta tb : TE} (a2 : Oks K kc Wx (relP K kc) p ta) (b2 : Oks K kc Wx (relP K kc) q tb) : Oks K kc Wx (relE K kc) (E.dni p q) (tDNotIn ta tb) := by
  intro Fz en st G io σ H S
  refine (a2 Fz en st G io σ H S).bind fun h1 s1 x G1 io1 H1 e1 l1 p1 S1 r1 => ?_
  refine (b2 Fz en s1 G1 io1 σ H1 S1).bind (u := fun y H2 Q => ∃ a o, y = .ref a ∧ DGet H2 a x o ∧ Q (V.bl (!o.isSome)) H2) fun h2 s2 y G2 io2 H2 e2 l2 p2 S2 r2 => ?_
  have t1 := view_of S2 (HdOk.mono l2 p2 r1)
  have t2 := view_of S2 r2
  cases q : getW (view en s2 h2) (view en s2 h1) with
  | none => exact At.no
  | some o =>
    obtain ⟨a, r, ex, _, dg, z⟩ := getW_of S2 t2 t1 q
    have e : r.isSome = o.isSome := by
      cases o with
      | none => have z : r = none := z; rw [z]; rfl
      | some w => obtain ⟨v, rfl, rv⟩ := z; rfl
    exact (At.pure S2 (Rp.bl (!o.isSome))).mono fun Q q => ⟨a, r, ex, dg, e ▸ q⟩
theorem oks_tB {K : PySem.W.Frag} {m : Ev} {t : TE} (h : Oks K kc Wx (relE K kc) m t) : Oks K kc Wx relT (T.val m) (tB t) := by
  intro Fz en st G io σ H S
  refine (h Fz en st G io σ H S).bind (u := fun x H1 Q => ∃ c, x = .bl c ∧ Q c H1) fun w s1 x G1 io1 H1 e1 l1 p1 S1 r1 => ?_
  unfold blW
  split
  · cases r1
    exact (At.pure S1 (rfl : relT _ _ _ _ _ _ _ _)).mono fun Q q => ⟨_, rfl, q⟩
  · exact At.no
theorem ex_din {p q : Pv} (hu : X.A.units + 1 < cLine) (ha : PX X kc Wx i p) (hb : PX X kc Wx o q) (h1 : behindInMarks .In o = false := by rfl) : EX X kc Wx (.Compare i [.In] [o] pos) (E.din p q) := by
  obtain ⟨ta, a1, a2⟩ := ha
  obtain ⟨tb, b1, b2⟩ := hb
  exact ⟨_, pe_cmp (pc_din hu a1 b1) h1, oks_din a2 b2⟩
theorem tx_din {p q : Pv} (hu : X.A.units + 1 < cLine) (ha : PX X kc Wx i p) (hb : PX X kc Wx o q) (h1 : behindInMarks .In o = false := by rfl) : TX X kc Wx (.Compare i [.In] [o] pos) (T.val (E.din p q)) := by
  obtain ⟨ta, a1, a2⟩ := ha
  obtain ⟨tb, b1, b2⟩ := hb
  exact ⟨_, pt_cmp (pc_din hu a1 b1) h1, oks_tB (oks_din a2 b2)⟩
theorem ex_dni {p q : Pv} (hu : X.A.units + 1 < cLine) (ha : PX X kc Wx i p) (hb : PX X kc Wx o q) (h1 : behindInMarks .NotIn o = false := by rfl) : EX X kc Wx (.Compare i [.NotIn] [o] pos) (E.dni p q) := by
  obtain ⟨ta, a1, a2⟩ := ha
  obtain ⟨tb, b1, b2⟩ := hb
  exact ⟨_, pe_cmp (pc_dnotin hu a1 b1) h1, oks_dni a2 b2⟩
theorem tx_dni {p q : Pv} (hu : X.A.units + 1 < cLine) (ha : PX X kc Wx i p) (hb : PX X kc Wx o q) (h1 : behindInMarks .NotIn o = false := by rfl) : TX X kc Wx (.Compare i [.NotIn] [o] pos) (T.val (E.dni p q)) := by
  obtain ⟨ta, a1, a2⟩ := ha
  obtain ⟨tb, b1, b2⟩ := hb
  exact ⟨_, pt_cmp (pc_dnotin hu a1 b1) h1, oks_tB (oks_dni a2 b2)⟩
end
end MH

/-! What is changed in place; equality. -/
namespace MH
open PySem L2

/-! ### writing -/
def wrH (h : Hd) (w : W) (en : En) (st : Sto) : Option (En × Sto) := match h with
  | .sl i => some (en.set i (some (true, w)), st)
  | .fz (.loc n) => some (en, st.set n w)
  | _ => none
section
variable {K : PySem.W.Frag} {kc : CT} {Fz : Hp} {en en' : En} {st st' : Sto} {G : Hp} {io : List Addr} {σ : St} {H : Hp}
/-- what a handle that can be written stands for -/
theorem wr_of {h : Hd} {w : W} {v : V} (S : Sim K kc Fz en st G io σ H) (x : HdOk K kc io G en σ h v) (e : wrH h w en st = some (en', st')) : ∃ a o, v = .ref a ∧ H a = some o ∧ Nd K kc io G (view en st h) o ∧ ∀ o', Nd K kc io G w o' → Sim K kc Fz en' st' G io σ (upd H a o') := by
  cases h with
  | sl i =>
    obtain ⟨⟨u, eu⟩, ev⟩ := x
    obtain ⟨a, o, e1, ga, fa, ia, ha, nd⟩ := S.ow i u eu
    rw [e1] at ev; cases ev
    cases e
    refine ⟨a, o, rfl, ha, ?_, fun o' nd' => S.wrSlot eu e1 ha ga fa ia nd'⟩
    show Nd K kc io G (match en[i]? with | some (some (_, w)) => w | _ => .non) o
    rw [eu]
    exact nd
  | fz u =>
    cases u <;> try (cases e; done)
    rename_i n
    cases e
    cases x with
    | @loc n a ea =>
      have hn : n < st.length := by rw [← S.il]; exact (List.getElem?_eq_some_iff.mp ea).1
      obtain ⟨_, _, o, h3, h4⟩ := S.ce n st[n] a (List.getElem?_eq_getElem hn) ea
      refine ⟨a, o, rfl, h3, ?_, fun o' nd' => S.wrCell (List.getElem?_eq_getElem hn) ea nd'⟩
      show Nd K kc io G (st.getD n .non) o
      rw [List.getD_eq_getElem?_getD, List.getElem?_eq_getElem hn]
      exact h4
theorem Nd.lstI {ws : List W} {o : HO} (h : Nd K kc io G (.lst ws) o) : ∃ vs, o = .lst vs ∧ RpL K kc io G ws vs := by
  cases h with
  | lst r => exact ⟨_, rfl, r⟩
end
/-- a statement's end from a written handle -/
def wrS (o : Option (En × Sto)) : R (En × Sto) Fl := match o with
  | some s => .ok .nx s
  | none => .no
section
variable {X : Cx} {kc : CT} {Wx : WX} {e o i : Expr} {es : List Expr} {pos : Pos}
/-! ### x.append(e), x.extend(y) -/
def lstW : W → Option (List W)
  | .lst ws => some ws
  | _ => none
def isLst : W → Bool
  | .lst _ => true
  | _ => false
def Z.app (p : Pv) (m : Ev) : Sv := fun en st => (p en st).toS en fun h s1 => if isLst (view en s1 h) then (m en s1).toS en fun w s2 => match view en s2 h with
    | .lst ws => if fit ws.length then wrS (wrH h (.lst (ws ++ [w])) en s2) else .no
    | _ => .no
  else .no
theorem tyL {K : PySem.W.Frag} {io : List Addr} {G H : Hp} {w : W} {x : V} (S : Ls G H) (t : Tp K kc io G H w x) (h : isLst w = true) : tyV K "list" x H := by
  cases w <;> try (cases h; done)
  obtain ⟨a, vs, rfl, ha, _⟩ := t.lst S
  exact .inl ⟨rfl, vs, .inl (.inl ha)⟩
theorem SAt.mono' {K : PySem.W.Frag} {Fz G : Hp} {io : List Addr} {r : R (En × Sto) Fl} {t t' : Ends → Prop} (h : SAt K kc Wx Fz G io r t) (m : ∀ D, t D → t' D) : SAt K kc Wx Fz G io r t' :=
  ⟨fun fl s e D hD => m D (h.1 fl s e D hD), fun c fs s e hX D => m D (h.2 c fs s e hX D)⟩
theorem SAt.wr {K : PySem.W.Frag} {Fz G : Hp} {io : List Addr} {σ : St} {H : Hp} {s : En × Sto} (S : Sim K kc Fz s.1 s.2 G io σ H) : SAt K kc Wx Fz G io (wrS (Option.some s)) (fun D => D.nx σ H) :=
  ⟨fun fl s e D hD => (by cases e; exact hD σ G io H (Le.refl _) (pre_refl _) S), fun _ _ _ e => (nomatch e)⟩
theorem sx_app {p : Pv} {m : Ev} {apos cpos : Pos} (ha : PX X kc Wx o p) (hb : EX X kc Wx e m)
    (hbase : attributeBase o "append" X.env (eval o X.env) = eval o X.env := by rfl) (hfew : ((backTo cpos (starEach [e] X.env)).all (fun x => !x.1) && (backToKw cpos (keywordEach [] X.env)).all (fun x => x.1.isSome)
      && decide (([e] : List Expr).length + ([] : List Keyword).length + (if ([] : List Keyword).isEmpty then 0 else 1) < 30)) = true := by rfl)
    (hline : (apos.endLine == cpos.line) = true := by rfl) (hs : starEach [e] X.env = (false, eval e X.env) :: starEach [] X.env := by rfl) (hplain : (backTo cpos (starEach [] X.env)).any (·.1) = false := by rfl) (hsw : swapsWith (.Call (.Attribute o "append" apos) [e] [] cpos) none pos.line X.env = pure false := by rfl) :
    SX X kc Wx (.Expr (.Call (.Attribute o "append" apos) [e] [] cpos) pos) (Z.app p m) := by
  obtain ⟨ta, a1, a2⟩ := ha
  obtain ⟨tb, b1, b2⟩ := hb
  refine ⟨_, ps_expr (pe_bm PySem.F.plainAttrs_list PySem.F.slot_list_append PySem.F.type_list_append mt_append a1 (pa_cons b1 pa_nil hs) hbase hfew hline hs hplain) hsw, fun Fz en st G io σ H S => ?_⟩
  refine (a2 Fz en st G io σ H S).toS (u := fun D x H1 => tyV X.K "list" x H1 ∧ tCons tb tNil σ H1 fun xs H2 => rAppend x xs H2 fun _ H3 => D.nx σ H3) fun h s1 x G1 io1 H1 e1 l1 p1 S1 r1 => ?_
  by_cases hl : isLst (view en s1 h) = true
  · rw [if_pos hl]
    refine SAt.mono' (t := fun D => tb σ H1 fun y H2 => rAppend x [y] H2 fun _ H3 => D.nx σ H3) ?_ fun D q => ⟨tyL S1.gs (view_of S1 r1) hl, q⟩
    refine (b2 Fz en s1 G1 io1 σ H1 S1).toS (u := fun D y H2 => rAppend x [y] H2 fun _ H3 => D.nx σ H3) fun w s2 y G2 io2 H2 e2 l2 p2 S2 r2 => ?_
    cases q : view en s2 h <;> try exact SAt.no
    rename_i ws
    dsimp only
    split
    · rename_i hf
      cases q2 : wrH h (.lst (ws ++ [w])) en s2 with
      | none => exact SAt.no
      | some s3 =>
        obtain ⟨a, o, rfl, ha, nd, back⟩ := wr_of S2 (HdOk.mono l2 p2 r1) q2
        rw [q] at nd
        obtain ⟨vs, rfl, rl⟩ := nd.lstI
        refine (SAt.wr (back _ (.lst (rl.append (.cons r2 .nil))))).mono' fun D q => ⟨a, vs, y, rfl, rfl, ha, ?_, q⟩
        rw [← rl.length]; exact fit_lt hf
    · exact SAt.no
  · rw [if_neg hl]; exact SAt.no
def Z.ext (p q : Pv) : Sv := fun en st => (p en st).toS en fun h s1 => if isLst (view en s1 h) then (q en s1).toS en fun k s2 => match view en s2 h, view en s2 k with
    | .lst ws, .lst us => if fit (ws.length + us.length) then wrS (wrH h (.lst (ws ++ us)) en s2) else .no
    | _, _ => .no
  else .no
theorem sx_ext {p q : Pv} {apos cpos : Pos} (ha : PX X kc Wx o p) (hb : PX X kc Wx e q)
    (hbase : attributeBase o "extend" X.env (eval o X.env) = eval o X.env := by rfl) (hfew : ((backTo cpos (starEach [e] X.env)).all (fun x => !x.1) && (backToKw cpos (keywordEach [] X.env)).all (fun x => x.1.isSome)
      && decide (([e] : List Expr).length + ([] : List Keyword).length + (if ([] : List Keyword).isEmpty then 0 else 1) < 30)) = true := by rfl)
    (hline : (apos.endLine == cpos.line) = true := by rfl) (hs : starEach [e] X.env = (false, eval e X.env) :: starEach [] X.env := by rfl) (hplain : (backTo cpos (starEach [] X.env)).any (·.1) = false := by rfl) (hsw : swapsWith (.Call (.Attribute o "extend" apos) [e] [] cpos) none pos.line X.env = pure false := by rfl) :
    SX X kc Wx (.Expr (.Call (.Attribute o "extend" apos) [e] [] cpos) pos) (Z.ext p q) := by
  obtain ⟨ta, a1, a2⟩ := ha
  obtain ⟨tb, b1, b2⟩ := hb
  refine ⟨_, ps_expr (pe_bm PySem.F.plainAttrs_list PySem.F.slot_list_extend PySem.F.type_list_extend mt_extend a1 (pa_cons b1 pa_nil hs) hbase hfew hline hs hplain) hsw, fun Fz en st G io σ H S => ?_⟩
  refine (a2 Fz en st G io σ H S).toS (u := fun D x H1 => tyV X.K "list" x H1 ∧ tCons tb tNil σ H1 fun xs H2 => rExtend x xs H2 fun _ H3 => D.nx σ H3) fun h s1 x G1 io1 H1 e1 l1 p1 S1 r1 => ?_
  by_cases hl : isLst (view en s1 h) = true
  · rw [if_pos hl]
    refine SAt.mono' (t := fun D => tb σ H1 fun y H2 => rExtend x [y] H2 fun _ H3 => D.nx σ H3) ?_ fun D q => ⟨tyL S1.gs (view_of S1 r1) hl, q⟩
    refine (b2 Fz en s1 G1 io1 σ H1 S1).toS (u := fun D y H2 => rExtend x [y] H2 fun _ H3 => D.nx σ H3) fun k s2 y G2 io2 H2 e2 l2 p2 S2 r2 => ?_
    have tk := view_of S2 r2
    cases q1 : view en s2 h <;> try exact SAt.no
    cases q2 : view en s2 k <;> try exact SAt.no
    rename_i ws us
    rw [q2] at tk
    obtain ⟨b, xs, rfl, hb, rb⟩ := tk.lst S2.gs
    dsimp only
    split
    · rename_i hf
      cases q3 : wrH h (.lst (ws ++ us)) en s2 with
      | none => exact SAt.no
      | some s3 =>
        obtain ⟨a, o, rfl, ha, nd, back⟩ := wr_of S2 (HdOk.mono l2 p2 r1) q3
        rw [q1] at nd
        obtain ⟨vs, rfl, rl⟩ := nd.lstI
        refine (SAt.wr (back _ (.lst (rl.append rb)))).mono' fun D q => ⟨a, b, vs, xs, rfl, rfl, ha, hb, ?_, q⟩
        rw [← rl.length, ← rb.length]; exact fit_line hf
    · exact SAt.no
  · rw [if_neg hl]; exact SAt.no
/-! ### x.pop() of a changing thing of the store -/
def E.pop (m : Ev) : Ev := fun en st => (m en st).bind fun w s => match w with
  | .loc n => match s.getD n .non with
    | .lst ws => match ws[ws.length - 1]? with
      | some u => .ok u (s.set n (.lst ws.dropLast))
      | none => .no
    | _ => .no
  | _ => .no
theorem RpL.dropLast {K : PySem.W.Frag} {io : List Addr} {G : Hp} : ∀ {ws : List W} {vs : List V}, RpL K kc io G ws vs → RpL K kc io G ws.dropLast vs.dropLast
  | _, _, .nil => .nil
  | _, _, .cons h .nil => .nil
  | _, _, .cons h (.cons h' r) => .cons h (RpL.dropLast (.cons h' r))
theorem ex_pop {m : Ev} {apos cpos : Pos} (ha : EX X kc Wx o m) (hbase : attributeBase o "pop" X.env (eval o X.env) = eval o X.env := by rfl) (hline : (apos.endLine == cpos.line) = true := by rfl) :
    EX X kc Wx (.Call (.Attribute o "pop" apos) [] [] cpos) (E.pop m) := by
  obtain ⟨ta, a1, a2⟩ := ha
  refine ⟨_, pe_bm0 PySem.F.plainAttrs_list PySem.F.slot_list_pop PySem.F.type_list_pop mt_pop a1 hbase hline, fun Fz en st G io σ H S => ?_⟩
  refine (a2 Fz en st G io σ H S).bind (u := fun x H1 Q => tyV X.K "list" x H1 ∧ rPop x [] H1 Q) fun w s1 x G1 io1 H1 e1 l1 p1 S1 r1 => ?_
  cases w <;> try exact At.no
  rename_i n
  dsimp only
  cases q : s1.getD n .non <;> try exact At.no
  rename_i ws
  dsimp only
  cases q2 : ws[ws.length - 1]? with
  | none => exact At.no
  | some u =>
    have x1 : HdOk X.K kc io1 G1 en σ (.fz (.loc n)) x := r1
    obtain ⟨a, o, rfl, ha, nd, back⟩ := wr_of (h := .fz (.loc n)) (w := .lst ws.dropLast) (en' := en) (st' := s1.set n (.lst ws.dropLast)) S1 x1 rfl
    rw [show view en s1 (.fz (.loc n)) = .lst ws from q] at nd
    obtain ⟨vs, rfl, rl⟩ := nd.lstI
    obtain ⟨v, ev, rv⟩ := rl.get q2
    refine (At.pure (back _ (.lst rl.dropLast)) rv).mono fun Q q => ⟨.inl ⟨rfl, vs, .inl (.inl ha)⟩, a, vs, v, rfl, rfl, ha, ?_, q⟩
    rw [← rl.length]; exact ev
/-- a fresh thing, kept in the store -/
def E.loc (m : Ev) : Ev := fun en st => (m en st).bind fun w s => .ok (.loc s.length) (s ++ [w])
theorem FX.loc {m : Ev} (h : FX X kc Wx e m) : EX X kc Wx e (E.loc m) := by
  obtain ⟨t, h1, h2⟩ := h
  refine ⟨t, h1, fun Fz en st G io σ H S => ?_⟩
  have g := h2 Fz en st G io σ H S
  unfold E.loc
  revert g
  cases m en st with
  | no => exact fun _ => At.no
  | ex c fs s => exact fun g => ⟨fun a s' e => (by cases e), fun c' fs' s' e Q hQ => g.2 c' fs' s' (by cases e; rfl) Q hQ⟩
  | ok w s =>
    intro g
    refine ⟨fun a s' e Q hQ => ?_, fun c' fs' s' e => (by cases e)⟩
    cases e
    refine g.1 w s rfl Q fun v G' io' H' l p S' r => ?_
    obtain ⟨q, o, rfl, hq, gq, fq, iq, oq, nd⟩ := r
    have pr : io' <+: io' ++ [q] := List.prefix_append _ _
    refine hQ _ G' (io' ++ [q]) H' l (p.trans pr) (S'.newCell hq gq fq iq oq (nd.mono (Le.refl _) pr)) (.loc ?_)
    rw [← S'.il]; simp
/-! ### d[k] = v, x[i] = v -/
def putW : W → W → W → Option W
  | .dct false kws, k, v => if fit kws.length then (keyOf k).map fun k => .dct false (putD kws k v) else none
  | .dct true kws, k, v => if fit kws.length then (keysOf k).map fun k => .dct true (putT kws k v) else none
  | _, _, _ => none
def Z.dput (p q : Pv) (m : Ev) : Sv := fun en st => (m en st).toS en fun w s1 => (p en s1).toS en fun h s2 => (q en s2).toS en fun k s3 => match putW (view en s3 h) (view en s3 k) w with
  | some w' => wrS (wrH h w' en s3)
  | none => .no
theorem sx_dput {value : Expr} {p q : Pv} {m : Ev} {pos' : Pos} (hu : X.A.units + 1 < cLine) (ho : PX X kc Wx o p) (hi : PX X kc Wx i q) (hv : EX X kc Wx value m) (hs : swapsWith value (some (.Subscript o i pos')) pos.line X.env = pure false := by rfl) :
    SX X kc Wx (.Assign [.Subscript o i pos'] value pos) (Z.dput p q m) := by
  obtain ⟨to, o1, o2⟩ := ho
  obtain ⟨ti, i1, i2⟩ := hi
  obtain ⟨tv, v1, v2⟩ := hv
  refine ⟨_, ps_dput hu o1 i1 v1 hs, fun Fz en st G io σ H S => ?_⟩
  refine (v2 Fz en st G io σ H S).toS (u := fun D v H1 => to σ H1 fun x H2 => ti σ H2 fun y H3 => ∃ a H4, x = .ref a ∧ DPut H3 a y v H4 ∧ D.nx σ H4) fun w s1 v G1 io1 H1 e1 l1 p1 S1 r1 => ?_
  refine (o2 Fz en s1 G1 io1 σ H1 S1).toS (u := fun D x H2 => ti σ H2 fun y H3 => ∃ a H4, x = .ref a ∧ DPut H3 a y v H4 ∧ D.nx σ H4) fun h s2 x G2 io2 H2 e2 l2 p2 S2 r2 => ?_
  refine (i2 Fz en s2 G2 io2 σ H2 S2).toS (u := fun D y H3 => ∃ a H4, x = .ref a ∧ DPut H3 a y v H4 ∧ D.nx σ H4) fun k s3 y G3 io3 H3 e3 l3 p3 S3 r3 => ?_
  have tk := view_of S3 r3
  have rv := r1.mono (l2.trans l3) (p2.trans p3)
  cases qd : view en s3 h <;> try exact SAt.no
  rename_i kk kws
  cases kk with
  | false =>
    unfold putW
    dsimp only
    split
    · rename_i w' hw
      split at hw
      · rename_i hf
        cases qk : keyOf (view en s3 k) with
        | none => rw [qk] at hw; cases hw
        | some key =>
          rw [qk] at hw
          cases hw
          cases q3 : wrH h (.dct false (putD kws key w)) en s3 with
          | none => exact SAt.no
          | some s4 =>
            obtain ⟨a, o, rfl, ha, nd, back⟩ := wr_of S3 (HdOk.mono l3 p3 r2) q3
            rw [qd] at nd
            cases nd with
            | dk rl =>
              rename_i kvs
              rw [wk_keyOf qk] at tk
              have ey : y = kV key := by
                rcases tk with tk | ⟨_, _, _, _, tk⟩
                · exact rp_wk tk
                · cases key <;> cases tk
              subst ey
              refine (SAt.wr (back _ (.dk (rl.put (k := key) rv)))).mono' fun D q => ⟨a, _, rfl, DPut.k ha ?_, q⟩
              rw [← rl.length]; exact fit_lt hf
      · cases hw
    · exact SAt.no
  | true =>
    unfold putW
    dsimp only
    split
    · rename_i w' hw
      split at hw
      · rename_i hf
        cases qk : keysOf (view en s3 k) with
        | none => rw [qk] at hw; cases hw
        | some key =>
          rw [qk] at hw
          cases hw
          cases q3 : wrH h (.dct true (putT kws key w)) en s3 with
          | none => exact SAt.no
          | some s4 =>
            obtain ⟨a, o, rfl, ha, nd, back⟩ := wr_of S3 (HdOk.mono l3 p3 r2) q3
            rw [qd] at nd
            cases nd with
            | dt rl =>
              rename_i kvs
              rw [wk_keysOf qk] at tk
              obtain ⟨b, rfl, hb⟩ := tp_keys S3 tk
              refine (SAt.wr (back _ (.dt (rl.put (k := key) rv)))).mono' fun D q => ⟨a, _, rfl, DPut.t ha hb ?_, q⟩
              rw [← rl.length]; exact fit_lt hf
      · cases hw
    · exact SAt.no
theorem fx_dnewK : FX X kc Wx (.Dict [] [] pos) (E.c (.dct false [])) := ⟨_, pe_dnewK, fun Fz en st G io σ H S => At.newF S (.dk .nil)⟩
theorem fx_dnewT : FX X kc Wx (.Dict [] [] pos) (E.c (.dct true [])) := ⟨_, pe_dnewT, fun Fz en st G io σ H S => At.newF S (.dt .nil)⟩
def Z.lput (p q : Pv) (m : Ev) : Sv := fun en st => (m en st).toS en fun w s1 => (p en s1).toS en fun h s2 => (q en s2).toS en fun k s3 => match view en s3 h, view en s3 k with
  | .lst ws, .int i => match ixN ws.length i with
    | some j => wrS (wrH h (.lst (ws.set j w)) en s3)
    | none => .no
  | _, _ => .no
theorem sx_lput {value : Expr} {p q : Pv} {m : Ev} {pos' : Pos} (ho : PX X kc Wx o p) (hi : PX X kc Wx i q) (hv : EX X kc Wx value m) (hsub : PG X (.Subscript o i pos') (gSub (can X.K kc Wx (relP X.K kc) p) (can X.K kc Wx (relP X.K kc) q) rSetL)) (hs : swapsWithSole [.Subscript o i pos'] value pos.line X.env = pure false := by rfl) (hw : swappedStores [.Subscript o i pos'] value X.env = pure none := by rfl)
    (h1 : (assignEach [.Subscript o i pos'] X.env).map (·.2) = [assign (.Subscript o i pos') X.env] := by rfl) :
    SX X kc Wx (.Assign [.Subscript o i pos'] value pos) (Z.lput p q m) := by
  obtain ⟨tv, v1, v2⟩ := hv
  refine ⟨_, ps_asg v1 hsub hs hw h1, fun Fz en st G io σ H S => ?_⟩
  refine (v2 Fz en st G io σ H S).toS (u := fun D v H1 => gSub (can X.K kc Wx (relP X.K kc) p) (can X.K kc Wx (relP X.K kc) q) rSetL v σ H1 D.nx) fun w s1 v G1 io1 H1 e1 l1 p1 S1 r1 => ?_
  refine (of_can Fz en s1 G1 io1 σ H1 S1).toS (u := fun D x H2 => can X.K kc Wx (relP X.K kc) q σ H2 fun y H3 => rSetL x y v H3 fun H4 => D.nx σ H4) fun h s2 x G2 io2 H2 e2 l2 p2 S2 r2 => ?_
  refine (of_can Fz en s2 G2 io2 σ H2 S2).toS (u := fun D y H3 => rSetL x y v H3 fun H4 => D.nx σ H4) fun k s3 y G3 io3 H3 e3 l3 p3 S3 r3 => ?_
  have tk := view_of S3 r3
  cases qd : view en s3 h <;> try exact SAt.no
  cases qk : view en s3 k <;> try exact SAt.no
  rename_i ws i
  rw [qk] at tk
  cases tk.int
  dsimp only
  cases qj : ixN ws.length i with
  | none => exact SAt.no
  | some j =>
    dsimp only
    cases q3 : wrH h (.lst (ws.set j w)) en s3 with
    | none => exact SAt.no
    | some s4 =>
      obtain ⟨a, o, rfl, ha, nd, back⟩ := wr_of S3 (HdOk.mono l3 p3 r2) q3
      rw [qd] at nd
      obtain ⟨vs, rfl, rl⟩ := nd.lstI
      refine (SAt.wr (back _ (.lst (RpL.set (r1.mono (l2.trans l3) (p2.trans p3)) j rl)))).mono' fun D q => ⟨a, vs, i, j, rfl, rfl, ha, ?_, q⟩
      rw [← rl.length]; exact qj
end

/-! ### equality of data -/
mutual
def toD : W → Option PyData
  | .non => some .none
  | .bl b => some (.bool b)
  | .int i => some (.int i)
  | .str s => some (.str s)
  | .lst ws => (toDs ws).map .list
  | .scr ws => (toDs ws).map .list
  | .tup ws => (toDs ws).map .tuple
  | .stp ws => (toDs ws).map .tuple
  | _ => none
def toDs : List W → Option (List PyData)
  | [] => some []
  | w :: ws => match toD w, toDs ws with
    | some d, some ds => some (d :: ds)
    | _, _ => none
end
section
variable {K : PySem.W.Frag} {kc : CT} {io : List Addr} {G H : Hp}
mutual
theorem dp_of (l : Ls G H) : ∀ {w : W} {v : V} {d : PyData}, Rp K kc io G w v → toD w = some d → Dp K H v d
  | _, _, _, .non, e => by unfold toD at e; cases e; exact .non
  | _, _, _, .bl b, e => by unfold toD at e; cases e; exact .bl b
  | _, _, _, .int i, e => by unfold toD at e; cases e; exact .int i
  | _, _, _, .str s, e => by unfold toD at e; cases e; exact .str s
  | _, _, _, .tup h r, e => by
    unfold toD at e
    obtain ⟨ds, e1, rfl⟩ := Option.map_eq_some_iff.mp e
    exact .tup (.inl (.inl (l _ _ h))) (dps_of l r e1)
  | _, _, _, .stp h r, e => by
    unfold toD at e
    obtain ⟨ds, e1, rfl⟩ := Option.map_eq_some_iff.mp e
    exact .tup (sqt_le l.le h) (dps_of l r e1)
  | _, _, _, .lst h r, e => by
    unfold toD at e
    obtain ⟨ds, e1, rfl⟩ := Option.map_eq_some_iff.mp e
    exact .lst (.inl (.inl (l _ _ h))) (dps_of l r e1)
  | _, _, _, .scr h r, e => by
    unfold toD at e
    obtain ⟨ds, e1, rfl⟩ := Option.map_eq_some_iff.mp e
    exact .lst (sql_le l.le h) (dps_of l r e1)
  | _, _, _, .dk h r, e => by unfold toD at e; cases e
  | _, _, _, .dt h r, e => by unfold toD at e; cases e
  | _, _, _, .ins c h r, e => by unfold toD at e; cases e
  | _, _, _, .loc h, e => by unfold toD at e; cases e
  | _, _, _, .cls h, e => by unfold toD at e; cases e
  | _, _, _, .ty n, e => by unfold toD at e; cases e
theorem dps_of (l : Ls G H) : ∀ {ws : List W} {vs : List V} {ds : List PyData}, RpL K kc io G ws vs → toDs ws = some ds → DpAll K H vs ds
  | _, _, _, .nil, e => by unfold toDs at e; cases e; exact .nil
  | _, _, _, @RpL.cons _ _ _ _ w v ws vs h r, e => by
    unfold toDs at e
    cases q : toD w with
    | none => rw [q] at e; cases e
    | some d =>
      cases q2 : toDs ws with
      | none => rw [q, q2] at e; cases e
      | some ds =>
        rw [q, q2] at e
        cases e
        exact .cons (dp_of l h q) (dps_of l r q2)
end
theorem tp_dp {w : W} {v : V} {d : PyData} (l : Ls G H) (t : Tp K kc io G H w v) (e : toD w = some d) : Dp K H v d := by
  rcases t with t | ⟨a, o, rfl, h, nd⟩
  · exact dp_of l t e
  · cases nd with
    | lst r =>
      unfold toD at e
      obtain ⟨ds, e1, rfl⟩ := Option.map_eq_some_iff.mp e
      exact .lst (.inl (.inl h)) (dps_of l r e1)
    | dk r => unfold toD at e; cases e
    | dt r => unfold toD at e; cases e
    | ins c r => unfold toD at e; cases e
end
def eqB (w u : W) : Option Bool := match toD w, toD u with
  | some d, some e => if SeqAt.shaped d && SeqAt.shaped e then some (PyData.eqv d e) else none
  | _, _ => none
def eqW (w u : W) : Option W := (eqB w u).map .bl
def neW (w u : W) : Option W := (eqB w u).map fun b => .bl (!b)
theorem opk_eq {K : PySem.W.Frag} {kc : CT} : OpK K kc (rEqD K) eqW := by
  intro Wx Fz en st G io σ H x y w1 w2 S t1 t2
  unfold eqW eqB
  cases q1 : toD w1 with
  | none => exact At.no
  | some d =>
    cases q2 : toD w2 with
    | none => exact At.no
    | some e =>
      dsimp only
      split
      · rename_i h
        rw [Bool.and_eq_true] at h
        exact (At.pure S (Rp.bl (PyData.eqv d e))).mono fun Q q => ⟨d, e, tp_dp S.gs t1 q1, tp_dp S.gs t2 q2, h.1, h.2, q⟩
      · exact At.no
theorem opk_ne {K : PySem.W.Frag} {kc : CT} : OpK K kc (rNeD K) neW := by
  intro Wx Fz en st G io σ H x y w1 w2 S t1 t2
  unfold neW eqB
  cases q1 : toD w1 with
  | none => exact At.no
  | some d =>
    cases q2 : toD w2 with
    | none => exact At.no
    | some e =>
      dsimp only
      split
      · rename_i h
        rw [Bool.and_eq_true] at h
        exact (At.pure S (Rp.bl (!PyData.eqv d e))).mono fun Q q => ⟨d, e, tp_dp S.gs t1 q1, tp_dp S.gs t2 q2, h.1, h.2, q⟩
      · exact At.no
end MH

/-! Numbers, texts, built-ins. -/
namespace MH
open PySem L2

section
variable {K : PySem.W.Frag} {kc : CT}
def subW : W → W → Option W
  | .int i, .int j => some (.int (i - j))
  | _, _ => none
theorem opk_sub : OpK K kc (rI0 fun i j => .int (i - j)) subW := by
  intro Wx Fz en st G io σ H x y w1 w2 S t1 t2
  unfold subW
  split
  · cases t1.int; cases t2.int
    exact (At.pure S (Rp.int _)).mono fun Q q => ⟨_, _, rfl, rfl, q⟩
  · exact At.no
def mid64 (i : Int) : Bool := decide (-(2 ^ 64) < i ∧ i < 2 ^ 64)
def mulW : W → W → Option W
  | .int i, .int j => if mid64 i || mid64 j then some (.int (i * j)) else none
  | .lst ws, .int k => if decide (-(2 ^ 63) ≤ k ∧ k < 2 ^ 63) && fit (ws.length * k.toNat) then some (.lst (List.replicate k.toNat ws).flatten) else none
  | _, _ => none
def rMulW : R2 := fun x y H Q => (rI CMul fun i j => .int (i * j)) x y H Q ∨ rRep x y H Q
theorem op_mulWW {X : Cx} : OpR X (binaryOp .Mult) rMulW := op_mul.or op_rep
theorem opk_mul : OpK K kc rMulW mulW := by
  intro Wx Fz en st G io σ H x y w1 w2 S t1 t2
  unfold mulW
  split
  · rename_i i j
    cases t1.int; cases t2.int
    split
    · rename_i h
      rw [Bool.or_eq_true] at h
      exact (At.pure S (Rp.int _)).mono fun Q q => .inl ⟨_, _, rfl, rfl, h.elim (fun z => .inl (of_decide_eq_true z)) fun z => .inr (of_decide_eq_true z), q⟩
    · exact At.no
  · rename_i ws k
    obtain ⟨a, vs, rfl, h1, r1⟩ := t1.lst S.gs
    cases t2.int
    split
    · rename_i h
      rw [Bool.and_eq_true] at h
      obtain ⟨h2, h3⟩ := of_decide_eq_true h.1
      exact (At.new S fun p hp => new_lst S (r1.rep k.toNat) hp).mono fun Q q => .inr ⟨a, k, vs, rfl, rfl, h1, h2, h3, by rw [← r1.length]; exact fit_line h.2, q⟩
    · exact At.no
  · exact At.no
def modW : W → W → Option W
  | .int i, .int j => if decide (0 < j) then some (.int (i % j)) else none
  | _, _ => none
theorem opk_mod : OpK K kc (rI (fun _ j => 0 < j) fun i j => .int (i % j)) modW := by
  intro Wx Fz en st G io σ H x y w1 w2 S t1 t2
  unfold modW
  split
  · cases t1.int; cases t2.int
    split
    · rename_i h
      exact (At.pure S (Rp.int _)).mono fun Q q => ⟨_, _, rfl, rfl, of_decide_eq_true h, q⟩
    · exact At.no
  · exact At.no
def fdivW : W → W → Option W
  | .int i, .int j => if decide (0 < j ∧ j < 1073741824) then some (.int (i / j)) else none
  | _, _ => none
theorem opk_fdiv : OpK K kc (rI CDiv fun i j => .int (i / j)) fdivW := by
  intro Wx Fz en st G io σ H x y w1 w2 S t1 t2
  unfold fdivW
  split
  · cases t1.int; cases t2.int
    split
    · rename_i h
      have hh := of_decide_eq_true h
      exact (At.pure S (Rp.int _)).mono fun Q q => ⟨_, _, rfl, rfl, hh, q⟩
    · exact At.no
  · exact At.no
def powW : W → W → Option W
  | .int i, .int j => if decide (0 ≤ j ∧ j ≤ 1000000 ∧ i.natAbs < 2 ^ 64) then some (.int (i ^ j.toNat)) else none
  | _, _ => none
theorem opk_pow : OpK K kc (rI CPow fun i j => .int (i ^ j.toNat)) powW := by
  intro Wx Fz en st G io σ H x y w1 w2 S t1 t2
  unfold powW
  split
  · cases t1.int; cases t2.int
    split
    · rename_i h
      have hh := of_decide_eq_true h
      exact (At.pure S (Rp.int _)).mono fun Q q => ⟨_, _, rfl, rfl, hh, q⟩
    · exact At.no
  · exact At.no
/-! ### order of numbers and of texts -/
abbrev strLt (a b : Str) : Bool := decide (a.cps.toList < b.cps.toList)
def ltW : W → W → Option W
  | .int i, .int j => some (.bl (decide (i < j)))
  | .str a, .str b => some (.bl (strLt a b))
  | _, _ => none
def leW : W → W → Option W
  | .int i, .int j => some (.bl (decide (i ≤ j)))
  | .str a, .str b => some (.bl (!strLt b a))
  | _, _ => none
def gtW : W → W → Option W
  | .int i, .int j => some (.bl (decide (j < i)))
  | .str a, .str b => some (.bl (strLt b a))
  | _, _ => none
def geW : W → W → Option W
  | .int i, .int j => some (.bl (decide (j ≤ i)))
  | .str a, .str b => some (.bl (!strLt a b))
  | _, _ => none
def rOrd (f : Int → Int → Bool) (g : Str → Str → Bool) : R2 := fun x y H Q => (rI0 fun i j => .bl (f i j)) x y H Q ∨ (fun (x y : V) (H : Hp) (Q : VK) => ∃ i j, x = .str i ∧ y = .str j ∧ Q (.bl (g i j)) H) x y H Q
theorem op_ltO {X : Cx} : OpR X (compareOp .Lt) (rOrd (fun i j => decide (i < j)) fun a b => strLt a b) := op_lt.or op_lt_str
theorem op_leO {X : Cx} : OpR X (compareOp .LtE) (rOrd (fun i j => decide (i ≤ j)) fun a b => !strLt b a) := op_le.or op_le_str
theorem op_gtO {X : Cx} : OpR X (compareOp .Gt) (rOrd (fun i j => decide (j < i)) fun a b => strLt b a) := op_gt.or op_gt_str
theorem op_geO {X : Cx} : OpR X (compareOp .GtE) (rOrd (fun i j => decide (j ≤ i)) fun a b => !strLt a b) := op_ge.or op_ge_str
theorem opk_lt : OpK K kc (rOrd (fun i j => decide (i < j)) fun a b => strLt a b) ltW := by
  intro Wx Fz en st G io σ H x y w1 w2 S t1 t2
  unfold ltW
  split
  · cases t1.int; cases t2.int
    exact (At.pure S (Rp.bl _)).mono fun Q q => .inl ⟨_, _, rfl, rfl, q⟩
  · cases t1.str; cases t2.str
    exact (At.pure S (Rp.bl _)).mono fun Q q => .inr ⟨_, _, rfl, rfl, q⟩
  · exact At.no
theorem opk_le : OpK K kc (rOrd (fun i j => decide (i ≤ j)) fun a b => !strLt b a) leW := by
  intro Wx Fz en st G io σ H x y w1 w2 S t1 t2
  unfold leW
  split
  · cases t1.int; cases t2.int
    exact (At.pure S (Rp.bl _)).mono fun Q q => .inl ⟨_, _, rfl, rfl, q⟩
  · cases t1.str; cases t2.str
    exact (At.pure S (Rp.bl _)).mono fun Q q => .inr ⟨_, _, rfl, rfl, q⟩
  · exact At.no
theorem opk_gt : OpK K kc (rOrd (fun i j => decide (j < i)) fun a b => strLt b a) gtW := by
  intro Wx Fz en st G io σ H x y w1 w2 S t1 t2
  unfold gtW
  split
  · cases t1.int; cases t2.int
    exact (At.pure S (Rp.bl _)).mono fun Q q => .inl ⟨_, _, rfl, rfl, q⟩
  · cases t1.str; cases t2.str
    exact (At.pure S (Rp.bl _)).mono fun Q q => .inr ⟨_, _, rfl, rfl, q⟩
  · exact At.no
theorem opk_ge : OpK K kc (rOrd (fun i j => decide (j ≤ i)) fun a b => !strLt a b) geW := by
  intro Wx Fz en st G io σ H x y w1 w2 S t1 t2
  unfold geW
  split
  · cases t1.int; cases t2.int
    exact (At.pure S (Rp.bl _)).mono fun Q q => .inl ⟨_, _, rfl, rfl, q⟩
  · cases t1.str; cases t2.str
    exact (At.pure S (Rp.bl _)).mono fun Q q => .inr ⟨_, _, rfl, rfl, q⟩
  · exact At.no
/-! ### is None -/
def isNon : W → Bool
  | .non => true
  | _ => false
def isnW (w u : W) : Option W := match u with
  | .non => some (.bl (isNon w))
  | _ => none
def notnW (w u : W) : Option W := match u with
  | .non => some (.bl (!isNon w))
  | _ => none
theorem tp_isNon {io : List Addr} {G H : Hp} {w : W} {x : V} (t : Tp K kc io G H w x) : decide (x = .non) = isNon w := by
  rcases t with t | ⟨a, o, rfl, h, nd⟩
  · cases t <;> rfl
  · cases nd <;> rfl
theorem opk_isn : OpK K kc (fun x y H Q => y = .non ∧ Q (.bl (decide (x = .non))) H) isnW := by
  intro Wx Fz en st G io σ H x y w1 w2 S t1 t2
  unfold isnW
  split
  · cases t2.non
    exact (At.pure S (Rp.bl _)).mono fun Q q => ⟨rfl, tp_isNon t1 ▸ q⟩
  · exact At.no
theorem opk_notn : OpK K kc (fun x y H Q => y = .non ∧ Q (.bl (!decide (x = .non))) H) notnW := by
  intro Wx Fz en st G io σ H x y w1 w2 S t1 t2
  unfold notnW
  split
  · cases t2.non
    exact (At.pure S (Rp.bl _)).mono fun Q q => ⟨rfl, tp_isNon t1 ▸ q⟩
  · exact At.no
/-! ### in -/
def oneC (s : Str) : Option Nat := match s.cps.toList with
  | [c] => some c
  | _ => none
theorem oneC_of {s : Str} {c : Nat} (h : oneC s = some c) : s = ⟨#[c]⟩ := by
  unfold oneC at h
  split at h
  · rename_i d e
    cases h
    cases s with
    | mk a =>
      congr 1
      exact Array.toList_inj.mp e
  · cases h
def insW : W → W → Option W
  | .str a, .str z => (oneC a).map fun c => .bl (decide (c ∈ z.cps.toList))
  | w, .lst us => match toD w, toDs us with
    | some d, some ds => if SeqAt.shaped d && SeqAt.shaped (.list ds) then some (.bl (ds.any fun z => PyData.eqv z d)) else none
    | _, _ => none
  | _, _ => none
def nisW : W → W → Option W
  | .str a, .str z => (oneC a).map fun c => .bl (!decide (c ∈ z.cps.toList))
  | w, .lst us => match toD w, toDs us with
    | some d, some ds => if SeqAt.shaped d && SeqAt.shaped (.list ds) then some (.bl (!(ds.any fun z => PyData.eqv z d))) else none
    | _, _ => none
  | _, _ => none
def rIns (K : PySem.W.Frag) : R2 := fun x y H Q => (fun (x y : V) (H : Hp) (Q : VK) => ∃ (c : Nat) (z : Str), x = .str ⟨#[c]⟩ ∧ y = .str z ∧ Q (.bl (decide (c ∈ z.cps.toList))) H) x y H Q ∨ rInD K x y H Q
def rNis (K : PySem.W.Frag) : R2 := fun x y H Q => (fun (x y : V) (H : Hp) (Q : VK) => ∃ (c : Nat) (z : Str), x = .str ⟨#[c]⟩ ∧ y = .str z ∧ Q (.bl (!decide (c ∈ z.cps.toList))) H) x y H Q ∨ rNotInD K x y H Q
theorem op_ins {X : Cx} (hu : X.A.units + 65 < cLine) : OpR X (compareOp .In) (rIns X.K) := op_in_sign.or (op_inD hu)
theorem op_nis {X : Cx} (hu : X.A.units + 65 < cLine) : OpR X (compareOp .NotIn) (rNis X.K) := op_notIn_sign.or (op_notInD hu)
theorem opk_ins : OpK K kc (rIns K) insW := by
  intro Wx Fz en st G io σ H x y w1 w2 S t1 t2
  unfold insW
  split
  · rename_i a z
    cases t1.str; cases t2.str
    cases q : oneC a with
    | none => exact At.no
    | some c =>
      cases oneC_of q
      exact (At.pure S (Rp.bl _)).mono fun Q q => .inl ⟨c, z, rfl, rfl, q⟩
  · rename_i us
    cases q1 : toD w1 with
    | none => exact At.no
    | some d =>
      cases q2 : toDs us with
      | none => exact At.no
      | some ds =>
        dsimp only
        split
        · rename_i h
          rw [Bool.and_eq_true] at h
          have e : toD (.lst us) = some (.list ds) := by unfold toD; rw [q2]; rfl
          exact (At.pure S (Rp.bl _)).mono fun Q q => .inr ⟨d, ds, tp_dp S.gs t1 q1, tp_dp S.gs t2 e, h.1, h.2, q⟩
        · exact At.no
  · exact At.no
theorem opk_nis : OpK K kc (rNis K) nisW := by
  intro Wx Fz en st G io σ H x y w1 w2 S t1 t2
  unfold nisW
  split
  · rename_i a z
    cases t1.str; cases t2.str
    cases q : oneC a with
    | none => exact At.no
    | some c =>
      cases oneC_of q
      exact (At.pure S (Rp.bl _)).mono fun Q q => .inl ⟨c, z, rfl, rfl, q⟩
  · rename_i us
    cases q1 : toD w1 with
    | none => exact At.no
    | some d =>
      cases q2 : toDs us with
      | none => exact At.no
      | some ds =>
        dsimp only
        split
        · rename_i h
          rw [Bool.and_eq_true] at h
          have e : toD (.lst us) = some (.list ds) := by unfold toD; rw [q2]; rfl
          exact (At.pure S (Rp.bl _)).mono fun Q q => .inr ⟨d, ds, tp_dp S.gs t1 q1, tp_dp S.gs t2 e, h.1, h.2, q⟩
        · exact At.no
  · exact At.no
end

/-! ### built-ins of one argument -/
def one (f : W → Option W) : List W → Option W
  | [w] => f w
  | _ => none
def Call1K (K : PySem.W.Frag) (kc : CT) (rel : Rel W V) (r : List V → Hp → VK → Prop) (f : W → Option W) : Prop := ∀ Wx Fz en st G io σ H w v, Sim K kc Fz en st G io σ H → Tp K kc io G H w v → At K kc Wx rel Fz en G io σ (lift (f w) st) (r [v] H)
section
variable {K : PySem.W.Frag} {kc : CT} {rel : Rel W V} {r r' : List V → Hp → VK → Prop} {f : W → Option W}
theorem callk1 (h : Call1K K kc rel r f) : CallK K kc rel r (one f) := by
  intro Wx Fz en st G io σ H hs vs S x
  cases x with
  | nil => exact At.no
  | cons h1 x =>
    cases x with
    | nil => exact h _ _ _ _ _ _ _ _ _ _ S (view_of S h1)
    | cons h2 x => exact At.no
theorem callk_mono (h : CallK K kc rel r (one f)) (m : ∀ xs H Q, r xs H Q → r' xs H Q) : CallK K kc rel r' (one f) := fun Wx Fz en st G io σ H hs vs S x => (h Wx Fz en st G io σ H hs vs S x).mono fun Q q => m _ _ _ q
def lenW : W → Option W
  | .lst ws => some (.int ws.length)
  | .scr ws => some (.int ws.length)
  | .tup ws => some (.int ws.length)
  | .stp ws => some (.int ws.length)
  | .str s => if fit s.length then some (.int s.length) else none
  | .dct false kws => some (.int kws.length)
  | _ => none
def rLenW (K : PySem.W.Frag) : List V → Hp → VK → Prop := fun xs H Q => (∃ x n, xs = [x] ∧ LenV K x H n ∧ Q (.int n) H) ∨ ∃ a kvs, xs = [V.ref a] ∧ Rd H a (.dK kvs) ∧ Q (.int kvs.length) H
theorem call_lenRd {X : Cx} : CallR X (.builtin "len") (fun xs H Q => ∃ a kvs, xs = [V.ref a] ∧ Rd H a (.dK kvs) ∧ Q (.int kvs.length) H) := by
  intro pins s σ H xs us Q I r h
  obtain ⟨a, kvs, rfl, ha, q⟩ := h
  obtain ⟨u, rfl, ru⟩ := vals1 r
  cases ru
  exact d_len I ha fun t s' I' => ⟨.int kvs.length, H, I', ⟨t, rfl⟩, q⟩
theorem call_lenW {X : Cx} : CallR X (.builtin "len") (rLenW X.K) := call_len.or call_lenRd
theorem ck_len : Call1K K kc (relE K kc) (rLenW K) lenW := by
  intro Wx Fz en st G io σ H w v S t
  unfold lenW
  split
  · obtain ⟨a, vs, rfl, h, r⟩ := t.lst S.gs
    exact (At.pure S (Rp.int _)).mono fun Q q => .inl ⟨_, _, rfl, .inl ⟨vs, .inl (.inl h), r.length⟩, q⟩
  · obtain ⟨a, vs, rfl, h, r⟩ := t.scr S.gs
    exact (At.pure S (Rp.int _)).mono fun Q q => .inl ⟨_, _, rfl, .inl ⟨vs, h, r.length⟩, q⟩
  · obtain ⟨a, vs, rfl, h, r⟩ := t.tup S.gs
    exact (At.pure S (Rp.int _)).mono fun Q q => .inl ⟨_, _, rfl, .inr ⟨vs, .inl (.inl h), r.length⟩, q⟩
  · obtain ⟨a, vs, rfl, h, r⟩ := t.stp S.gs
    exact (At.pure S (Rp.int _)).mono fun Q q => .inl ⟨_, _, rfl, .inr ⟨vs, h, r.length⟩, q⟩
  · cases t.str
    split
    · rename_i hf
      exact (At.pure S (Rp.int _)).mono fun Q q => .inl ⟨_, _, rfl, ⟨fit_line hf, rfl⟩, q⟩
    · exact At.no
  · obtain ⟨a, vs, rfl, h, r⟩ := t.dk S.gs
    exact (At.pure S (Rp.int _)).mono fun Q q => .inr ⟨_, _, rfl, h, r.length ▸ q⟩
  · exact At.no
def int1W : W → Option W
  | .int i => some (.int i)
  | .bl b => some (.int (if b then 1 else 0))
  | _ => none
theorem ck_int1 : Call1K K kc (relE K kc) (fun xs H Q => (∃ i, xs = [.int i] ∧ Q (.int i) H) ∨ ∃ k, xs = [.bl k] ∧ Q (.int (if k then 1 else 0)) H) int1W := by
  intro Wx Fz en st G io σ H w v S t
  unfold int1W
  split
  · cases t.int; exact (At.pure S (Rp.int _)).mono fun Q q => .inl ⟨_, rfl, q⟩
  · cases t.bl; exact (At.pure S (Rp.int _)).mono fun Q q => .inr ⟨_, rfl, q⟩
  · exact At.no
/-- list(x) of a list or a tuple: new -/
def seqW : W → Option (List W)
  | .lst ws => some ws
  | .scr ws => some ws
  | .tup ws => some ws
  | .stp ws => some ws
  | _ => none
theorem ck_list : Call1K K kc (relF K kc) (fun xs H Q => ∃ p ys, xs = [.ref p] ∧ (SqL K H p ys ∨ SqT K H p ys) ∧ ∀ l, H l = none → Q (.ref l) (upd H l (.lst ys))) (fun w => (seqW w).map .lst) := by
  intro Wx Fz en st G io σ H w v S t
  dsimp only
  unfold seqW
  cases w <;> try exact At.no
  · obtain ⟨a, vs, rfl, h, r⟩ := t.tup S.gs
    exact (At.newF S (.lst r)).mono fun Q q => ⟨a, vs, rfl, .inr (.inl (.inl h)), q⟩
  · obtain ⟨a, vs, rfl, h, r⟩ := t.lst S.gs
    exact (At.newF S (.lst r)).mono fun Q q => ⟨a, vs, rfl, .inl (.inl (.inl h)), q⟩
  · obtain ⟨a, vs, rfl, h, r⟩ := t.scr S.gs
    exact (At.newF S (.lst r)).mono fun Q q => ⟨a, vs, rfl, .inl h, q⟩
  · obtain ⟨a, vs, rfl, h, r⟩ := t.stp S.gs
    exact (At.newF S (.lst r)).mono fun Q q => ⟨a, vs, rfl, .inr h, q⟩
theorem ck_tuple : Call1K K kc (relE K kc) (fun xs H Q => ∃ p ys, xs = [.ref p] ∧ ((SqL K H p ys ∧ ∀ l, H l = none → Q (.ref l) (upd H l (.tup ys))) ∨ (SqT K H p ys ∧ Q (.ref p) H))) (fun w => match w with | .lst ws => some (.tup ws) | .scr ws => some (.tup ws) | .tup ws => some (.tup ws) | _ => none) := by
  intro Wx Fz en st G io σ H w v S t
  dsimp only
  split
  · obtain ⟨a, vs, rfl, h, r⟩ := t.lst S.gs
    exact (At.new S fun p hp => new_tup S r hp).mono fun Q q => ⟨a, vs, rfl, .inl ⟨.inl (.inl h), q⟩⟩
  · obtain ⟨a, vs, rfl, h, r⟩ := t.scr S.gs
    exact (At.new S fun p hp => new_tup S r hp).mono fun Q q => ⟨a, vs, rfl, .inl ⟨h, q⟩⟩
  · rename_i ws
    obtain ⟨a, vs, rfl, h, r⟩ := t.tup S.gs
    refine (At.pure (a := W.tup ws) (b := V.ref a) S (?_ : relE K kc Fz io G en σ H _ _)).mono fun Q q => ⟨a, vs, rfl, .inr ⟨.inl (.inl h), q⟩⟩
    rcases t with t | ⟨_, _, _, _, t⟩
    · exact t
    · cases t
  · exact At.no
def blsW : List W → Option (List Bool)
  | [] => some []
  | .bl b :: ws => (blsW ws).map (b :: ·)
  | _ => none
theorem blsW_of {io : List Addr} {G : Hp} : ∀ {ws : List W} {vs : List V} {bs : List Bool}, RpL K kc io G ws vs → blsW ws = some bs → vs = bs.map V.bl
  | [], _, _, r, e => by cases r; cases e; rfl
  | w :: ws, _, bs, .cons h r, e => by
    unfold blsW at e
    split at e
    · rename_i e1; cases e1
    · rename_i b ws' e1
      cases e1
      obtain ⟨bs', e2, rfl⟩ := Option.map_eq_some_iff.mp e
      cases h
      rw [List.map_cons, blsW_of r e2]
    · cases e
def allW : W → Option W
  | .lst ws => (blsW ws).map fun bs => .bl (bs.all id)
  | _ => none
def anyW : W → Option W
  | .lst ws => (blsW ws).map fun bs => .bl (bs.any id)
  | _ => none
theorem ck_all : Call1K K kc (relE K kc) (rAll K) allW := by
  intro Wx Fz en st G io σ H w v S t
  unfold allW
  split
  · rename_i ws
    obtain ⟨a, vs, rfl, h, r⟩ := t.lst S.gs
    cases q : blsW ws with
    | none => exact At.no
    | some bs =>
      cases blsW_of r q
      exact (At.pure S (Rp.bl _)).mono fun Q q => ⟨a, bs, rfl, .inl (.inl h), q⟩
  · exact At.no
theorem ck_any : Call1K K kc (relE K kc) (rAny K) anyW := by
  intro Wx Fz en st G io σ H w v S t
  unfold anyW
  split
  · rename_i ws
    obtain ⟨a, vs, rfl, h, r⟩ := t.lst S.gs
    cases q : blsW ws with
    | none => exact At.no
    | some bs =>
      cases blsW_of r q
      exact (At.pure S (Rp.bl _)).mono fun Q q => ⟨a, bs, rfl, .inl (.inl h), q⟩
  · exact At.no
def strsW : List W → Option (List Str)
  | [] => some []
  | .str b :: ws => (strsW ws).map (b :: ·)
  | _ => none
theorem strsW_of {io : List Addr} {G : Hp} : ∀ {ws : List W} {vs : List V} {bs : List Str}, RpL K kc io G ws vs → strsW ws = some bs → vs = bs.map V.str
  | [], _, _, r, e => by cases r; cases e; rfl
  | w :: ws, _, bs, .cons h r, e => by
    unfold strsW at e
    split at e
    · rename_i e1; cases e1
    · rename_i b ws' e1
      cases e1
      obtain ⟨bs', e2, rfl⟩ := Option.map_eq_some_iff.mp e
      cases h
      rw [List.map_cons, strsW_of r e2]
    · cases e
def intsW : List W → Option (List Int)
  | [] => some []
  | .int b :: ws => (intsW ws).map (b :: ·)
  | _ => none
theorem intsW_of {io : List Addr} {G : Hp} : ∀ {ws : List W} {vs : List V} {bs : List Int}, RpL K kc io G ws vs → intsW ws = some bs → vs = bs.map V.int
  | [], _, _, r, e => by cases r; cases e; rfl
  | w :: ws, _, bs, .cons h r, e => by
    unfold intsW at e
    split at e
    · rename_i e1; cases e1
    · rename_i b ws' e1
      cases e1
      obtain ⟨bs', e2, rfl⟩ := Option.map_eq_some_iff.mp e
      cases h
      rw [List.map_cons, intsW_of r e2]
    · cases e
theorem rp_strs {io : List Addr} {G : Hp} : ∀ bs : List Str, RpL K kc io G (bs.map .str) (bs.map V.str)
  | [] => .nil
  | b :: bs => .cons (.str b) (rp_strs bs)
theorem rp_ints {io : List Addr} {G : Hp} : ∀ bs : List Int, RpL K kc io G (bs.map .int) (bs.map V.int)
  | [] => .nil
  | b :: bs => .cons (.int b) (rp_ints bs)
end

/-! ### methods of built-in types by values -/
section
variable {X : Cx} {kc : CT} {Wx : WX} {e o : Expr} {es : List Expr} {pos apos cpos : Pos}
def MtK (K : PySem.W.Frag) (kc : CT) (T : String) (rel : Rel W V) (r : V → List V → Hp → VK → Prop) (f : W → List W → Option W) : Prop := ∀ Wx Fz en st G io σ H w x hs vs, Sim K kc Fz en st G io σ H → Tp K kc io G H w x → HdsOk K kc io G en σ hs vs → At K kc Wx rel Fz en G io σ (lift (f w (hs.map (view en st))) st) (r x vs H)
def isStr : W → Bool
  | .str _ => true
  | _ => false
theorem ty_str {K : PySem.W.Frag} {io : List Addr} {G H : Hp} {w : W} {x : V} (t : Tp K kc io G H w x) (h : isStr w = true) : tyV K "str" x H := by
  cases w <;> try (cases h; done)
  cases t.str
  rfl
/-- s.m(..), s a text -/
def E.ms (f : W → List W → Option W) (p : Pv) (m : Hv) : Ev := fun en st => (p en st).bind fun h s1 => if isStr (view en s1 h) then (m en s1).bind fun hs s2 => lift (f (view en s2 h) (hs.map (view en s2))) s2 else .no
theorem oks_ms {K : PySem.W.Frag} {rel : Rel W V} {r : V → List V → Hp → VK → Prop} {f : W → List W → Option W} {p : Pv} {m : Hv} {to : TE} {t : TA} (hk : MtK K kc "str" rel r f) (h1 : Oks K kc Wx (relP K kc) p to) (h2 : Oks K kc Wx (relH K kc) m t) : Oks K kc Wx rel (E.ms f p m) (tBM K "str" r to t) := by
  intro Fz en st G io σ H S
  refine (h1 Fz en st G io σ H S).bind (u := fun x H1 Q => tyV K "str" x H1 ∧ t σ H1 fun xs H2 => r x xs H2 Q) fun h s1 x G1 io1 H1 e1 l1 p1 S1 r1 => ?_
  by_cases hs : isStr (view en s1 h) = true
  · rw [if_pos hs]
    refine At.mono (t := fun Q => t σ H1 fun xs H2 => r x xs H2 Q) ?_ fun Q q => ⟨ty_str (view_of S1 r1) hs, q⟩
    refine (h2 Fz en s1 G1 io1 σ H1 S1).bind fun hs s2 xs G2 io2 H2 e2 l2 p2 S2 r2 => ?_
    exact hk _ _ _ _ _ _ _ _ _ _ _ _ S2 (view_of S2 (HdOk.mono l2 p2 r1)) r2
  · rw [if_neg hs]; exact At.no
theorem ex_ms {name : Str} {id : String} {r : V → List V → Hp → VK → Prop} {f : W → List W → Option W} {p : Pv} {m : Hv} (pa : PlainAttrs "str") (slot : Slot "str" name id) (hty : typeOf (.builtin id) = pure (.type "method_descriptor")) (hm : MtR X id r) (hk : MtK X.K kc "str" (relE X.K kc) r f) (ho : PX X kc Wx o p) (ha : HX X kc Wx (e :: es) m)
    (hbase : attributeBase o name X.env (eval o X.env) = eval o X.env := by rfl)
    (hfew : ((backTo cpos (starEach (e :: es) X.env)).all (fun x => !x.1) && (backToKw cpos (keywordEach [] X.env)).all (fun x => x.1.isSome)
      && decide ((e :: es).length + ([] : List Keyword).length + (if ([] : List Keyword).isEmpty then 0 else 1) < 30)) = true := by rfl)
    (hline : (apos.endLine == cpos.line) = true := by rfl) (hs : starEach (e :: es) X.env = (false, eval e X.env) :: starEach es X.env := by rfl) (hplain : (backTo cpos (starEach es X.env)).any (·.1) = false := by rfl) :
    EX X kc Wx (.Call (.Attribute o name apos) (e :: es) [] cpos) (E.ms f p m) := by
  obtain ⟨to, o1, o2⟩ := ho
  obtain ⟨t, h1, h2⟩ := ha
  exact ⟨_, pe_bm pa slot hty hm o1 h1 hbase hfew hline hs hplain, oks_ms hk o2 h2⟩
theorem fx_ms {name : Str} {id : String} {r : V → List V → Hp → VK → Prop} {f : W → List W → Option W} {p : Pv} {m : Hv} (pa : PlainAttrs "str") (slot : Slot "str" name id) (hty : typeOf (.builtin id) = pure (.type "method_descriptor")) (hm : MtR X id r) (hk : MtK X.K kc "str" (relF X.K kc) r f) (ho : PX X kc Wx o p) (ha : HX X kc Wx (e :: es) m)
    (hbase : attributeBase o name X.env (eval o X.env) = eval o X.env := by rfl)
    (hfew : ((backTo cpos (starEach (e :: es) X.env)).all (fun x => !x.1) && (backToKw cpos (keywordEach [] X.env)).all (fun x => x.1.isSome)
      && decide ((e :: es).length + ([] : List Keyword).length + (if ([] : List Keyword).isEmpty then 0 else 1) < 30)) = true := by rfl)
    (hline : (apos.endLine == cpos.line) = true := by rfl) (hs : starEach (e :: es) X.env = (false, eval e X.env) :: starEach es X.env := by rfl) (hplain : (backTo cpos (starEach es X.env)).any (·.1) = false := by rfl) :
    FX X kc Wx (.Call (.Attribute o name apos) (e :: es) [] cpos) (E.ms f p m) := by
  obtain ⟨to, o1, o2⟩ := ho
  obtain ⟨t, h1, h2⟩ := ha
  exact ⟨_, pe_bm pa slot hty hm o1 h1 hbase hfew hline hs hplain, oks_ms hk o2 h2⟩
def joinW (w : W) (us : List W) : Option W := match w, us with
  | .str a, [u] => match seqW u with
    | some ws => match strsW ws with
      | some ys => if decide ((ys.map (·.length)).sum + ys.length * a.length ≤ 16777216) then some (.str (Txt.join a ys)) else none
      | none => none
    | none => none
  | _, _ => none
theorem mk_join {K : PySem.W.Frag} : MtK K kc "str" (relE K kc) (fun x xs H Q => ∃ a p, ∃ ys : List Str, x = .str a ∧ xs = [.ref p] ∧ (SqL K H p (ys.map V.str) ∨ SqT K H p (ys.map V.str)) ∧ (ys.map (·.length)).sum + ys.length * a.length ≤ 16777216 ∧ Q (.str (Txt.join a ys)) H) joinW := by
  intro Wx Fz en st G io σ H w x hs vs S t r
  cases w <;> try exact At.no
  rename_i a
  cases t.str
  cases r with
  | nil => exact At.no
  | cons h1 r =>
    cases r with
    | cons h2 r => exact At.no
    | nil =>
      rename_i h v
      show At _ _ _ _ _ _ _ _ _ (lift (joinW (.str a) [view en st h]) st) _
      have tv := view_of S h1
      revert tv
      generalize view en st h = u
      intro tv
      unfold joinW
      dsimp only
      cases q : seqW u with
      | none => exact At.no
      | some ws =>
        dsimp only
        cases q2 : strsW ws with
        | none => exact At.no
        | some ys =>
          dsimp only
          split
          · rename_i hf
            have key : ∃ p, v = .ref p ∧ (SqL K H p (ys.map V.str) ∨ SqT K H p (ys.map V.str)) := by
              unfold seqW at q
              split at q
              · cases q
                obtain ⟨p, us, rfl, hp, rr⟩ := tv.lst S.gs
                exact ⟨p, rfl, .inl (.inl (.inl (strsW_of rr q2 ▸ hp)))⟩
              · cases q
                obtain ⟨p, us, rfl, hp, rr⟩ := tv.scr S.gs
                exact ⟨p, rfl, .inl (strsW_of rr q2 ▸ hp)⟩
              · cases q
                obtain ⟨p, us, rfl, hp, rr⟩ := tv.tup S.gs
                exact ⟨p, rfl, .inr (.inl (.inl (strsW_of rr q2 ▸ hp)))⟩
              · cases q
                obtain ⟨p, us, rfl, hp, rr⟩ := tv.stp S.gs
                exact ⟨p, rfl, .inr (strsW_of rr q2 ▸ hp)⟩
              · cases q
            obtain ⟨p, rfl, hp⟩ := key
            exact (At.pure S (Rp.str _)).mono fun Q q => ⟨a, p, ys, rfl, rfl, hp, of_decide_eq_true hf, q⟩
          · exact At.no
theorem ex_join {p : Pv} {m : Hv} (ho : PX X kc Wx o p) (ha : HX X kc Wx [e] m) (hbase : attributeBase o "join" X.env (eval o X.env) = eval o X.env := by rfl)
    (hfew : ((backTo cpos (starEach [e] X.env)).all (fun x => !x.1) && (backToKw cpos (keywordEach [] X.env)).all (fun x => x.1.isSome)
      && decide (([e] : List Expr).length + ([] : List Keyword).length + (if ([] : List Keyword).isEmpty then 0 else 1) < 30)) = true := by rfl)
    (hline : (apos.endLine == cpos.line) = true := by rfl) (hs : starEach [e] X.env = (false, eval e X.env) :: starEach [] X.env := by rfl) (hplain : (backTo cpos (starEach [] X.env)).any (·.1) = false := by rfl) : EX X kc Wx (.Call (.Attribute o "join" apos) [e] [] cpos) (E.ms joinW p m) :=
  ex_ms PySem.F.plainAttrs_str PySem.F.slot_str_join PySem.F.type_str_join mt_join mk_join ho ha hbase hfew hline hs hplain
end
end MH

/-! Own errors over a base class of one's own: how they are made. -/
namespace MH
open PySem L2
/-- super().__init__(..) -/
def supS (es : List Expr) (p0 p1 p2 p3 p4 : Pos) : Stmt := .Expr (.Call (.Attribute (.Call (.Name "super" p0) [] [] p1) "__init__" p2) es [] p3) p4
/-- self.f = f -/
def selS (f : Str) (p0 p1 p2 p3 : Pos) : Stmt := .Assign [.Attribute (.Name "self" p0) f p1] (.Name f p2) p3
/-- what the written part says of an error's class, at C, of its __init__, at fI -/
structure ErK (P : Program) (K : PySem.W.Frag) (mg : Str → Option Value) (C fI : Addr) (qual : Str) (ag : Arguments) (body : List Stmt) (sc : Scope) (fs : List Str) : Prop where
  cls : ∃ nm q N bs bm sn sub ab col dd k0 k1 k2 k3 k5, K.lookup C = some (excClassObj nm q C N bs bm true sn sub ab col dd k0 k1 k2 k3 k5 "Exception.__new__") ∧ PySem.W.excTail PySem.ESX.exTail bm = true ∧ PySem.W.alongIn K "__init__" bm = some (some (.builtin "Exception.__init__"))
  sa : PySem.W.findIn K (.ref C) "__setattr__" = some (some (.builtin "object.__setattr__"))
  iC : PySem.W.findIn K (.ref C) "__init__" = some (some (.ref fI))
  tI : PySem.W.typeIn K (.ref fI) = some (.type "function")
  kC : PySem.W.keepIn K (.ref C) = true
  exC : PySem.W.subIn K (.ref C) (.type "BaseException") = some true
  tyC : PySem.W.typeIn K (.ref C) = some (.type "type")
  noF : ∀ f, f ∈ fs → PySem.W.takerIn K C f = some none
  opq : PySem.W.nsIn K cStatics "thirdparty.any" = some none
  sup : mg "super" = none
  fn : ∃ (oc : Value) (od : Option Addr) (doc pm : Value) (an : Option Addr) (cda cc : Addr) (ct : Value) (osl : Array (Option Value)) (ccl cl : Value) (cdd cld : Option Addr) (ccs csl : Array (Option Value)) (vs : Array Value) (file : Str) (tf : Tok),
    K.lookup fI = some ⟨oc, od, .func (PySem.W.ksFn "__init__" qual ag body sc .none .none doc pm an (.ref cda) ct cc), osl⟩ ∧ PySem.W.codeIn K (.ref cda) qual = true ∧ K.lookup cc = some ⟨cl, cld, .cell (some (.ref C)), csl⟩ ∧
    K.lookup cda = some ⟨ccl, cdd, .fields vs, ccs⟩ ∧ vs[2]? = some (.str file tf) ∧ ((P.main.file : Str) == file) = true
  top : (P.main.scope.names.lookup ("super" : Str)).isSome = false
  kS : sc.names.lookup ("super" : Str) = some .globalImplicit
  kL : sc.names.lookup ("__class__" : Str) = some .free
  kO : sc.names.lookup ("self" : Str) = some .local
  kF : ∀ f, f ∈ fs → sc.names.lookup f = some .local ∧ (f == ("__debug__" : Str)) = false
  kN : ∀ x, x ∈ sc.names → x.2 ≠ .cell
  kd : sc.kind = .function
  kg : sc.isGenerator = false ∧ sc.isCoroutine = false
  hp : ∃ ar : Arg, (ag.posonlyargs ++ ag.args).head? = some ar ∧ ar.arg = ("self" : Str)
  hb : ∀ (s : Shared) (doc pm : Value) (an : Option Addr) (cda cc x : Addr) (ct : Value) (vs : List Value), vs.length = fs.length → BindsTo s (PySem.W.ksFn "__init__" qual ag body sc .none .none doc pm an (.ref cda) ct cc) ⟨.ref x :: vs, []⟩ (("self", .ref x) :: fs.zip vs)
theorem kept_b {K : PySem.W.Frag} {h h' : Heap} {x : Addr} (X : K.In h) (hx : K.lookup x = none) (k : ∀ b o, b ≠ x → h.get? b = some o → h'.get? b = some o) : K.In h' := fun a o e =>
  k a o (fun z => by rw [z, hx] at e; cases e) (X a o e)

section
open PySem.W PySem.Calls PyProof.Rows
variable {prog : Program} {w : World} {M : Model} {A : Around} {E : Value → Shared → Prop} {s : Shared} {env : Env} {K : PySem.W.Frag} {mg : Str → Option Value} {C fI : Addr} {qual : Str} {ag : Arguments} {body : List Stmt} {sc : Scope} {fs : List Str}
/-- names as arguments -/
def nmE (xs : List (Str × Pos)) : List Expr := xs.map fun x => .Name x.1 x.2
inductive Held (ld : Str → Value → Prop) : List (Str × Pos) → List Value → Prop
  | nil : Held ld [] []
  | cons {f : Str} {p : Pos} {v : Value} {xs : List (Str × Pos)} {vs : List Value} : ld f v → Held ld xs vs → Held ld ((f, p) :: xs) (v :: vs)
theorem plain_nm {pos : Pos} : ∀ {xs : List (Str × Pos)}, (backTo pos (starEach (nmE xs) env)).any (·.1) = false
  | [] => rfl
  | x :: xs => by
    show (false || (backTo pos (starEach (nmE xs) env)).any (·.1)) = false
    rw [plain_nm, Bool.false_or]
theorem spl_nm {pos : Pos} {ld : Str → Value → Prop} (hl : ∀ f v p (R : Value → Shared → Prop), ld f v → R v s → wpAny M A (eval (.Name f p) env) R E s) : ∀ {xs : List (Str × Pos)} {vs : List Value}, Held ld xs vs → ∀ Q : List Value → Shared → Prop, Q vs s →
    wpAny M A (spliced (backTo pos (starEach (nmE xs) env))) Q E s
  | [], _, .nil, Q, h => spliced_nil h
  | (f, p) :: xs, _, .cons (v := v) (vs := vs) hv hr, Q, h => by
    show wpAny M A (spliced ((false, eval (.Name f p) env) :: backTo pos (starEach (nmE xs) env))) Q E s
    exact spliced_cons (hl f v p _ hv (spl_nm hl hr _ h))
/-- the first row of such an __init__ -/
theorem sup_run {prog : Program} {A : Around} {hp : Heap} {g : Array GenState} {d : Drawn} {t : Nat} {os : OsState} {L x t0 cda cc : Addr} {xs : List (Str × Pos)} {vs : List Value} {m mb : Str → Option Value} {p0 p1 p2 p3 p4 : Pos} {bd : List Stmt} {Q : Flow → Shared → Prop}
    (T : ErK prog K mg C fI qual ag body sc fs) (X : K.In hp) (hn : hp.Ns L m) (hG : hp.Ns mainGlobals mg) (hB : hp.Ns builtinsNs mb) (hbs : mb "super" = some (.type "super")) (hx : hp.get? x = some (PySem.HandSPX.excO C t0)) (hms : m "self" = some (.ref x))
    (hcell : ∃ cl cld csl, K.lookup cc = some ⟨cl, cld, .cell (some (.ref C)), csl⟩) (hcode : ∃ ccl cdd vsc ccs file tf, K.lookup cda = some ⟨ccl, cdd, .fields vsc, ccs⟩ ∧ vsc[2]? = some (.str file tf) ∧ ((prog.main.file : Str) == file) = true)
    (hf : ∃ oc od doc pm an ct osl, K.lookup fI = some ⟨oc, od, .func (ksFn "__init__" qual ag body sc .none .none doc pm an (.ref cda) ct cc), osl⟩)
    (hv : Held (fun f v => f ∈ fs ∧ m f = some v) xs vs) (hlen : vs.length ≤ sizeLine)
    (he : ∃ pl, eval (.Call (.Attribute (.Call (.Name "super" p0) [] [] p1) "__init__" p2) (nmE xs) [] p3) (ksEnv qual sc L fI (.ref cda) cc) = (do
      let ov ← attributeBase (.Call (.Name "super" p0) [] [] p1) "__init__" (ksEnv qual sc L fI (.ref cda) cc) (eval (.Call (.Name "super" p0) [] [] p1) (ksEnv qual sc L fI (.ref cda) cc))
      standAt p2.atName
      let (f, first) ← holding [ov] (getMethod ov "__init__" pl)
      callWith p3 f first (backTo p3 (starEach (nmE xs) (ksEnv qual sc L fI (.ref cda) cc))) []))
    (hq : ∀ h' tk t1, (∀ b o, b ≠ x → hp.get? b = some o → h'.get? b = some o) → h'.get? x = some (PySem.HandSPX.excO C t1) → Q .next ⟨h', g, d, tk, os⟩) :
    _root_.PySem.wpAt (model prog w) A (.func bd (ksEnv qual sc L fI (.ref cda) cc)) (exec (supS (nmE xs) p0 p1 p2 p3 p4) (ksEnv qual sc L fI (.ref cda) cc)) Q E ⟨hp, g, d, t, os⟩ := by
  obtain ⟨nm, q, N, bs, bm, sn, sub, ab, col, dd, k0, k1, k2, k3, k5, hC, hbm, hal⟩ := T.cls
  obtain ⟨cl, cld, csl, hcell⟩ := hcell
  obtain ⟨ccl, cdd, vsc, ccs, file, tf, hcode, hvs, hfile⟩ := hcode
  obtain ⟨oc, od, doc, pm, an, ct, osl, hf⟩ := hf
  obtain ⟨ar, har, es⟩ := T.hp
  have hcl : clsIn K C = some { name := nm, bases := bs, mro := .ref C :: bm, ns := N, qualname := q, hasDict := true, slotNames := sn, subclasses := sub, abstract := ab, collection := col, hasDel := false } := by unfold clsIn; rw [hC] <;> rfl
  have mroIs : ∀ b : Value, (Value.ref C :: bm).contains b = true → mroIn K C b = some true := fun b hb => by
    unfold mroIn
    rw [hcl, Option.bind_some]
    rw [if_neg (show ¬ (List.isEmpty (Value.ref C :: bm) = true) from Bool.false_ne_true), hb]
  have tl : ∀ Y : String, bm.contains (.type Y) = PySem.ESX.exTail.contains (.type Y) := fun Y => excTail_contains Y bm hbm
  have hexc : (Value.ref C :: bm).contains (.type "Exception") = true := by rw [List.contains_cons, tl, show PySem.ESX.exTail.contains (.type "Exception") = true by decide +kernel, Bool.or_true]
  have hxC : x ≠ C := fun e => by
    rw [e, X _ _ hC] at hx
    cases hx
  unfold supS
  refine ks_wpAt_Expr_any ?_ (by unfold interactive; simp [T.kd])
  obtain ⟨pl, he⟩ := he
  have hf' := X _ _ hf
  have hcode' := X _ _ hcode
  refine ks_wpAt_MethodCall (pl := pl) ?_ he
  refine ks_wpAt_super_base (env := ksEnv qual sc L fI (.ref cda) cc) T.kS T.kL rfl rfl hf' rfl har rfl hcode' rfl hvs hfile T.top ?_
  refine ks_loadName_global T.kd T.kS (loadGlobal_builtin (env := ksEnv qual sc L fI (.ref cda) cc) hG T.sup hB hbs ⟨rfl, ?_⟩)
  refine wpAny_loadName_free T.kd T.kL rfl ⟨_, X _ _ hcell, rfl⟩ ?_
  rw [es]
  refine wpAny_loadName_local T.kd T.kO hn hms ?_
  refine ks_wpAny_isType_cls (X _ _ hC) rfl ⟨rfl, ?_⟩
  refine ks_wpAny_call_super (X _ _ hC) rfl hx rfl (fun c e => by cases e) (looks_mroIn X (mroIs _ (by rw [List.contains_cons, beq_self_eq_true, Bool.true_or]))) (fun h1 e1 k1 => ?_)
  have X1 : K.In h1 := X.keeps k1
  have I1 : InstAt h1 x (PySem.HandSPX.excO C t0) C none := ⟨k1 _ _ hx, rfl, rfl, trivial⟩
  refine PySem.ESX.getMethod_super e1 (looks_opaque X1 T.opq) (l₀ := .ref C :: bm) ((looks_clsIn X1 hcl).andThen .now) (PySem.ESX.drop_own C bm) X1 hal hxC (by decide) (I1.type.andThen (looks_mroIn X1 (mroIs _ hexc))) ?_
  have k2 : ∀ b o, hp.get? b = some o → (h1.push (PySem.ESX.bw x)).get? b = some o := fun b o e => Heap.get?_push_of_some _ (k1 b o e)
  have X2 : K.In (h1.push (PySem.ESX.bw x)) := X.keeps k2
  have hu : (h1.push (PySem.ESX.bw x)).get? h1.objs.size = some (PySem.ESX.bw x) := Heap.get?_push_at rfl rfl
  have hn2 : (h1.push (PySem.ESX.bw x)).Ns L m := hn.at fun o e => k2 _ _ e
  refine PySem.ESX.callWith_bw (x := x) (plain_nm) ?_
  refine L2.FK.evalArgs_any plain_nm ?_
  refine spl_nm (fun f v p R hv hR => ?_) hv _ ⟨hu, ?_⟩
  · exact wpAny_Name (wpAny_loadName_local T.kd (T.kF f hv.1).1 hn2 hv.2 hR) (T.kF f hv.1).2
  · show wpAny _ _ (call (.ref h1.objs.size) vs) _ _ _
    refine PySem.ESX.call_bw (X2 _ _ hC) (k2 _ _ hx) hu hlen fun h' t1 k3 hx3 => ?_
    exact hq h' _ t1 (fun b o hb e => k3 b o hb (k2 b o e)) hx3

section
open Builtin Builtin.ObjectAttr
variable {prog : Program} {A : Around} {hp : Heap} {g : Array GenState} {d : Drawn} {t : Nat} {os : OsState} {x t1 : Addr} {f : Str} {v : Value}
theorem er_cls (T : ErK prog K mg C fI qual ag body sc fs) : ∃ cd, clsIn K C = some cd ∧ cd.hasDict = true ∧ excOver K C PySem.ESX.exTail = true := by
  obtain ⟨nm, q, N, bs, bm, sn, sub, ab, col, dd, k0, k1, k2, k3, k5, hC, hbm, hal⟩ := T.cls
  have hcl : clsIn K C = some { name := nm, bases := bs, mro := .ref C :: bm, ns := N, qualname := q, hasDict := true, slotNames := sn, subclasses := sub, abstract := ab, collection := col, hasDel := false } := by unfold clsIn; rw [hC] <;> rfl
  refine ⟨_, hcl, rfl, ?_⟩
  unfold excOver
  rw [hcl]
  simp [hbm]
/-- self.f = v, the first one -/
theorem sto_new {Q : Unit → Shared → Prop} (T : ErK prog K mg C fI qual ag body sc fs) (X : K.In hp) (hx : hp.get? x = some (PySem.HandSPX.excO C t1)) (hf : f ∈ fs)
    (hq : ∀ h' tk dx, (∀ b o, b ≠ x → hp.get? b = some o → h'.get? b = some o) → hp.objs.size ≤ dx → dx ≠ x → h'.get? x = some { cls := .ref C, dict := some dx, data := .fields #[.ref t1, .none, .none, .none, .bool false, .none] } →
      h'.Ns1 dx (fun y => if y = f then some v else none) → Q () ⟨h', g, d, tk, os⟩) : wpAny (model prog w) A (setAttr (.ref x) f v) Q E ⟨hp, g, d, t, os⟩ := by
  obtain ⟨cd, hcl, hh, ho⟩ := er_cls T
  refine set_plain X (ox := PySem.HandSPX.excO C t1) (od := none) ⟨hx, rfl, rfl, trivial⟩ T.sa ?_
  refine osa_openX PySem.F.store_Exception X (ox := PySem.HandSPX.excO C t1) (od := none) ⟨hx, rfl, rfl, trivial⟩ ho (T.noF f hf) fun b => ?_
  have hxs : x ≠ hp.objs.size := Nat.ne_of_lt (Heap.lt_size hx)
  have hcls : Looks (model prog w) hp (classData C) cd := looks_clsIn X hcl
  obtain ⟨nm, bs, mro, ns, qn, hd, sn, sb, ab, col, del⟩ := cd
  dsimp only at hh
  subst hh
  show wpAny _ _ (storeInOwnDict _ _ _ _ _ _) _ _ _
  unfold storeInOwnDict ownDictForStores
  repeat (first | with_reducible refine PySem.HandSPX.store_in_new ?_ ?_ | with_reducible refine wpAny_loadPart_at hx ?_ | with_reducible refine hcls.at ?_ | wp_step)
  · exact ⟨_, #[], _, (Heap.get?_update_ne _ _ _ _ hxs.symm).trans (Heap.get?_push_at rfl rfl), rfl, fun e he => absurd he (by simp), fun _ => rfl⟩
  · intro h' tk' hn' hs
    have hx₁ : (hp.push { cls := .type "dict", data := .dict #[] }).get? x = some (PySem.HandSPX.excO C t1) := Heap.get?_push_of_some _ hx
    refine hq h' tk' hp.objs.size (fun b o hb ho => ?_) (Nat.le_refl _) hxs.symm ?_ hn'
    · exact (hs.2 b (Nat.ne_of_lt (Heap.lt_size ho))).trans ((Heap.get?_update_ne _ _ _ _ hb).trans (Heap.get?_push_of_some _ ho))
    · exact (hs.2 x hxs).trans (Heap.get?_update_self _ hx₁ rfl)
/-- self.f = v, a further one -/
theorem sto_old {Q : Unit → Shared → Prop} {dx : Addr} {m0 : Str → Option Value} {nl : List Str} (T : ErK prog K mg C fI qual ag body sc fs) (X : K.In hp) (hx : hp.get? x = some { cls := .ref C, dict := some dx, data := .fields #[.ref t1, .none, .none, .none, .bool false, .none] }) (hf : f ∈ fs)
    (hns : hp.Ns1 dx m0) (hw : Within m0 nl) (hz : nl.length ≤ 1000)
    (hq : ∀ h' tk, (∀ b o, b ≠ dx → hp.get? b = some o → h'.get? b = some o) → h'.Ns1 dx (fun y => if y = f then some v else m0 y) → Q () ⟨h', g, d, tk, os⟩) : wpAny (model prog w) A (setAttr (.ref x) f v) Q E ⟨hp, g, d, t, os⟩ := by
  obtain ⟨cd, hcl, hh, ho⟩ := er_cls T
  obtain ⟨oD, esD, epD, hoD, hdD, _⟩ := hns.count hw
  have I : InstAt hp x { cls := .ref C, dict := some dx, data := .fields #[.ref t1, .none, .none, .none, .bool false, .none] } C (some oD) := ⟨hx, rfl, rfl, hoD⟩
  refine set_plain X I T.sa ?_
  refine osa_openX PySem.F.store_Exception X I ho (T.noF f hf) fun b => ?_
  have hcls : Looks (model prog w) hp (classData C) cd := looks_clsIn X hcl
  obtain ⟨nm, bs, mro, ns, qn, hd, sn, sb, ab, col, del⟩ := cd
  dsimp only at hh
  subst hh
  show wpAny _ _ (storeInOwnDict _ _ _ _ _ _) _ _ _
  unfold storeInOwnDict ownDictForStores
  repeat (first | with_reducible refine PySem.ESX.store_in_old hns hw hz ?_ | with_reducible refine wpAny_loadPart_at hx ?_ | with_reducible refine hcls.at ?_ | wp_step)
  intro h' tk' hn' hs
  exact hq h' tk' (fun b o hb ho => (hs.2 b hb).trans ho) hn'

abbrev SelP := Str × Pos × Pos × Pos × Pos
def selL (ss : List SelP) : List Stmt := ss.map fun x => selS x.1 x.2.1 x.2.2.1 x.2.2.2.1 x.2.2.2.2
theorem within_acc : ∀ acc : List (Str × Value), Within (fun y => acc.lookup y) (acc.map (·.1))
  | [], y, h => absurd rfl h
  | (f, v) :: r, y, h => by
    by_cases e : y = f
    · rw [e]; exact List.mem_cons_self ..
    · have q : (y == f) = false := by simpa using e
      refine List.mem_cons_of_mem _ (within_acc r y ?_)
      show r.lookup y ≠ none
      intro z
      apply h
      show List.lookup y ((f, v) :: r) = none
      rw [List.lookup, q, z]
theorem fun_cons {f : Str} {v : Value} {acc : List (Str × Value)} : (fun y => if y = f then some v else acc.lookup y) = (fun y => ((f, v) :: acc).lookup y) := by
  funext y
  by_cases e : y = f
  · subst e; rw [if_pos rfl]; simp [List.lookup]
  · have q : (y == f) = false := by simpa using e
    rw [if_neg e]
    rw [List.lookup, q]
section
variable {env : Env} {L dx : Addr} {m : Str → Option Value}
theorem sels_old {cda cc : Addr} (T : ErK prog K mg C fI qual ag body sc fs) (hms : m "self" = some (.ref x)) (hnd : K.lookup dx = none) (hLd : L ≠ dx) (hdx : x ≠ dx) : ∀ {ss : List SelP} {vs : List Value} {acc : List (Str × Value)} {hp : Heap} {t : Nat},
    K.In hp → hp.Ns L m → hp.get? x = some { cls := .ref C, dict := some dx, data := .fields #[.ref t1, .none, .none, .none, .bool false, .none] } → hp.Ns1 dx (fun y => acc.lookup y) → acc.length + ss.length ≤ 1000 →
    Held (fun f v => f ∈ fs ∧ m f = some v) (ss.map fun x => (x.1, x.2.1)) vs → ∀ Q : Flow → Shared → Prop,
    (∀ h' tk, (∀ b o, b ≠ dx → hp.get? b = some o → h'.get? b = some o) → h'.Ns1 dx (fun y => (((ss.map (·.1)).zip vs).reverse ++ acc).lookup y) → Q .next ⟨h', g, d, tk, os⟩) →
    wpAny (model prog w) A (execs (selL ss) (ksEnv qual sc L fI (.ref cda) cc)) Q E ⟨hp, g, d, t, os⟩
  | [], _, acc, hp, t, X, hn, hx, hns, hl, .nil, Q, hq => wpAny_execs_nil (hq hp t (fun _ _ _ e => e) hns)
  | (f, p0, p1, p2, p3) :: ss, _, acc, hp, t, X, hn, hx, hns, hl, .cons (v := v) (vs := vs) hv hr, Q, hq => by
    show wpAny _ _ (execs (selS f p0 p1 p2 p3 :: selL ss) _) _ _ _
    refine wpAny_execs_cons (plainObj_wpAny_Assign_Attribute ?_)
    refine wpAny_Name (wpAny_loadName_local T.kd (T.kF f hv.1).1 hn hv.2 ?_) (T.kF f hv.1).2
    refine wpAny_Name (wpAny_loadName_local T.kd T.kO hn hms ?_) (by decide)
    have hl' : acc.length + (ss.length + 1) ≤ 1000 := hl
    refine sto_old T X hx hv.1 hns (within_acc acc) (by rw [List.length_map]; omega) fun h' tk k hns' => ?_
    refine sels_old T hms hnd hLd hdx (ss := ss) (acc := (f, v) :: acc) (kept_b X hnd k) (hn.at fun o e => k L o hLd e) (k _ _ hdx hx) (fun_cons ▸ hns') (by rw [List.length_cons]; omega) hr Q fun h2 tk2 k2 hns2 => ?_
    refine hq h2 tk2 (fun b o hb e => k2 b o hb (k b o hb e)) ?_
    have e : ((((f, p0, p1, p2, p3) :: ss).map (·.1)).zip (v :: vs)).reverse ++ acc = ((ss.map (·.1)).zip vs).reverse ++ ((f, v) :: acc) := by simp
    rw [e]
    exact hns2
/-- what __init__ leaves -/
structure InE (h h' : Heap) (x C : Addr) (d : Option Addr) (fv : List (Str × Value)) : Prop where
  keep : ∀ b o, b ≠ x → h.get? b = some o → h'.get? b = some o
  obj : ∃ t1 : Addr, h'.get? x = some ({ cls := .ref C, dict := d, data := .fields #[.ref t1, .none, .none, .none, .bool false, .none] } : Obj)
  dic : (d = none ∧ fv = []) ∨ ∃ dx, d = some dx ∧ fv ≠ [] ∧ h.objs.size ≤ dx ∧ dx ≠ x ∧ h'.Ns1 dx (fun y => fv.lookup y)
theorem sels_run {cda cc : Addr} (T : ErK prog K mg C fI qual ag body sc fs) (hms : m "self" = some (.ref x)) (hLx : L ≠ x) (hnx : K.lookup x = none) : ∀ {ss : List SelP} {vs : List Value} {hp : Heap} {t : Nat},
    K.In hp → hp.Ns L m → hp.get? x = some (PySem.HandSPX.excO C t1) → ss.length ≤ 1000 →
    Held (fun f v => f ∈ fs ∧ m f = some v) (ss.map fun x => (x.1, x.2.1)) vs → ∀ Q : Flow → Shared → Prop,
    (∀ h' tk dd, InE hp h' x C dd (((ss.map (·.1)).zip vs).reverse) → Q .next ⟨h', g, d, tk, os⟩) →
    wpAny (model prog w) A (execs (selL ss) (ksEnv qual sc L fI (.ref cda) cc)) Q E ⟨hp, g, d, t, os⟩
  | [], _, hp, t, X, hn, hx, hl, .nil, Q, hq => wpAny_execs_nil (hq hp t none ⟨fun _ _ _ e => e, ⟨t1, hx⟩, .inl ⟨rfl, rfl⟩⟩)
  | (f, p0, p1, p2, p3) :: ss, _, hp, t, X, hn, hx, hl, .cons (v := v) (vs := vs) hv hr, Q, hq => by
    show wpAny _ _ (execs (selS f p0 p1 p2 p3 :: selL ss) _) _ _ _
    refine wpAny_execs_cons (plainObj_wpAny_Assign_Attribute ?_)
    refine wpAny_Name (wpAny_loadName_local T.kd (T.kF f hv.1).1 hn hv.2 ?_) (T.kF f hv.1).2
    refine wpAny_Name (wpAny_loadName_local T.kd T.kO hn hms ?_) (by decide)
    refine sto_new T X hx hv.1 fun h' tk dx k dn dne hx' hns' => ?_
    have hnd : K.lookup dx = none := by
      cases e : K.lookup dx with
      | none => rfl
      | some o => exact absurd (Heap.lt_size (X _ _ e)) (Nat.not_lt.mpr dn)
    have hLd : L ≠ dx := fun e => absurd hn.lt (by rw [e]; exact Nat.not_lt.mpr dn)
    have hl' : ss.length + 1 ≤ 1000 := hl
    refine sels_old T hms hnd hLd (Ne.symm dne) (ss := ss) (acc := [(f, v)]) (kept_b X hnx k) (hn.at fun o e => k L o hLx e) hx' ?_ (by rw [List.length_cons, List.length_nil]; omega) hr Q fun h2 tk2 k2 hns2 => ?_
    · have e : (fun y => if y = f then some v else none) = (fun y => ([(f, v)] : List (Str × Value)).lookup y) := fun_cons (acc := [])
      rw [← e]; exact hns'
    · have e : ((((f, p0, p1, p2, p3) :: ss).map (·.1)).zip (v :: vs)).reverse = ((ss.map (·.1)).zip vs).reverse ++ [(f, v)] := by simp
      refine hq h2 tk2 (some dx) ⟨fun b o hb q => ?_, ⟨t1, k2 _ _ (Ne.symm dne) hx'⟩, .inr ⟨dx, rfl, by rw [e]; simp, dn, dne, ?_⟩⟩
      · exact k2 b o (Nat.ne_of_lt (Nat.lt_of_lt_of_le (Heap.lt_size q) dn)) (k b o hb q)
      · rw [e]; exact hns2
end
end
/-- the whole of such an __init__ -/
theorem init_run {prog : Program} {A : Around} {R : Result → Shared → Prop} {s : Shared} {x t0 : Addr} {xs : List (Str × Pos)} {ss : List SelP} {vs : List Value} {p0 p1 p2 p3 p4 : Pos} (T : ErK prog K mg C fI qual ag body sc fs)
    (hbody : body = supS (nmE xs) p0 p1 p2 p3 p4 :: selL ss) (hxs : xs.map (·.1) = fs) (hss : ss.map (·.1) = fs) (hnd : ("self" :: fs : List Str).Nodup) (hz : fs.length ≤ 1000) (hlen : vs.length = fs.length)
    (he : ∀ env : Env, ∃ pl, eval (.Call (.Attribute (.Call (.Name "super" p0) [] [] p1) "__init__" p2) (nmE xs) [] p3) env = (do
      let ov ← attributeBase (.Call (.Name "super" p0) [] [] p1) "__init__" env (eval (.Call (.Name "super" p0) [] [] p1) env)
      standAt p2.atName
      let (f, first) ← holding [ov] (getMethod ov "__init__" pl)
      callWith p3 f first (backTo p3 (starEach (nmE xs) env)) []))
    (X : K.In s.heap) (hlim : s.heap.NoLimit) (hG : s.heap.Ns mainGlobals mg) (hB : ∃ mb, s.heap.Ns builtinsNs mb ∧ mb "super" = some (.type "super")) (hx : s.heap.get? x = some (PySem.HandSPX.excO C t0)) (hnx : K.lookup x = none) (hroom : A.depth < recursionLimit)
    (hq : ∀ h' tk dd, InE s.heap h' x C dd ((fs.zip vs).reverse) → R (.ok (.ret .none)) { s with heap := h', toks := tk }) :
    codeAny (model prog w) A (.call (.ref fI) ⟨.ref x :: vs, []⟩) R s := by
  obtain ⟨oc, od, doc, pm, an, cda, cc, ct, osl, ccl, cl, cdd, cld, ccs, csl, vsc, file, tf, hf, hcd, hcell, hcode, hvs, hfile⟩ := T.fn
  obtain ⟨mb, hB1, hB2⟩ := hB
  have hself : ("self" : Str) ∉ fs := (List.nodup_cons.mp hnd).1
  have hnd' := (List.nodup_cons.mp hnd).2
  have hloc : ∀ b ∈ (("self", .ref x) :: fs.zip vs : List (Str × Value)), sc.names.lookup b.1 = some .local := fun b hb => by
    rcases List.mem_cons.mp hb with rfl | hb
    · exact T.kO
    · exact (T.kF b.1 (List.of_mem_zip (a := b.1) (b := b.2) hb).1).1
  refine ks_codeAny_call_defAt (fd := ksFn "__init__" qual ag body sc .none .none doc pm an (.ref cda) ct cc) (body := body) (binds := ("self", .ref x) :: fs.zip vs) hroom (X _ _ hf) rfl hlim (codeRec_of X hcd) rfl (T.hb s doc pm an cda cc x ct vs hlen) T.kN hloc (fun h₁ hns hk₁ => ?_) T.kg.2 T.kg.1 T.kd
  obtain ⟨hp, g, d, t, os⟩ := s
  have look : ∀ {l : List (Str × Value)} {f : Str} {v : Value}, (f, v) ∈ l → (l.map (·.1)).Nodup → l.lookup f = some v := by
    intro l
    induction l with
    | nil => intro f v h; cases h
    | cons p r ih =>
      intro f v h hn
      obtain ⟨f', v'⟩ := p
      rcases List.mem_cons.mp h with e | h
      · cases e
        simp [List.lookup]
      · have ne : f ≠ f' := fun e => by
          apply (List.nodup_cons.mp hn).1
          show f' ∈ r.map (·.1)
          rw [← e]
          exact List.mem_map.mpr ⟨(f, v), h, rfl⟩
        have q : (f == f') = false := by simpa using ne
        rw [List.lookup, q]
        exact ih h (List.nodup_cons.mp hn).2
  have hmap : (fs.zip vs).map (·.1) = fs := List.map_fst_zip (by omega)
  have hndb : ((((("self" : Str), Value.ref x) :: fs.zip vs).reverse).map (·.1)).Nodup := by
    rw [List.map_reverse, List.map_cons, hmap]
    exact List.pairwise_reverse.mpr (List.Pairwise.imp Ne.symm hnd)
  have hL : ∀ f v, (f, v) ∈ (("self", .ref x) :: fs.zip vs : List (Str × Value)) → (fun y => ((("self" : Str), Value.ref x) :: fs.zip vs).reverse.lookup y) f = some v := fun f v h =>
    look (List.mem_reverse.mpr h) hndb
  have held : ∀ {xs : List (Str × Pos)} {gs : List Str} {us : List Value}, xs.map (·.1) = gs → us.length = gs.length → (∀ f v, (f, v) ∈ gs.zip us → f ∈ fs ∧ (fun y => ((("self" : Str), Value.ref x) :: fs.zip vs).reverse.lookup y) f = some v) →
      Held (fun f v => f ∈ fs ∧ (fun y => ((("self" : Str), Value.ref x) :: fs.zip vs).reverse.lookup y) f = some v) xs us := by
    intro xs
    induction xs with
    | nil => intro gs us e1 e2 _; subst e1; cases us with
      | nil => exact .nil
      | cons _ _ => simp at e2
    | cons p xs ih => intro gs us e1 e2 h; subst e1; cases us with
      | nil => simp at e2
      | cons u us =>
        obtain ⟨f, p⟩ := p
        refine .cons (h f u (by simp)) (ih rfl (by simpa using e2) fun f' v' hm => h f' v' ?_)
        show (f', v') ∈ (f :: xs.map (·.1)).zip (u :: us)
        rw [List.zip_cons_cons]
        exact List.mem_cons_of_mem _ hm
  have hmem : ∀ f v, (f, v) ∈ fs.zip vs → f ∈ fs ∧ (fun y => ((("self" : Str), Value.ref x) :: fs.zip vs).reverse.lookup y) f = some v := fun f v h =>
    ⟨(List.of_mem_zip h).1, hL f v (List.mem_cons_of_mem _ h)⟩
  have hms := hL "self" (.ref x) (List.mem_cons_self ..)
  have X1 : K.In h₁ := X.keeps hk₁
  have hLx : hp.objs.size ≠ x := Nat.ne_of_gt (Heap.lt_size hx)
  subst hbody
  refine ks_wpAt_execs_cons (sup_run T X1 hns (hG.keeps hk₁) (hB1.keeps hk₁) hB2 (hk₁ _ _ hx) hms ⟨_, _, _, hcell⟩ ⟨_, _, _, _, _, _, hcode, hvs, hfile⟩ ⟨_, _, _, _, _, _, _, hf⟩ (held hxs hlen hmem) (by rw [sizeLine_eq, hlen]; omega) (he _) fun h2 tk2 t2 k2 hx2 => ?_)
  refine wpAt_of_wpAny ?_
  refine sels_run T hms hLx hnx (kept_b X1 hnx k2) (hns.at fun o e => k2 _ o hLx e) hx2 (by rw [← List.length_map (f := (·.1)), hss]; exact hz) (held (by rw [List.map_map]; exact hss) hlen hmem) _ fun h3 tk3 dd i => ?_
  rw [hss] at i
  refine hq h3 tk3 dd ⟨fun b o hb e => i.keep b o hb (k2 b o hb (hk₁ b o e)), i.obj, ?_⟩
  rcases i.dic with ⟨e1, e2⟩ | ⟨dx, e1, e0, e2, e3, e4⟩
  · exact .inl ⟨e1, e2⟩
  · refine .inr ⟨dx, e1, e0, Nat.le_trans ?_ e2, e3, e4⟩
    have l1 : hp.objs.size < h₁.objs.size := hns.lt
    obtain ⟨oL, _, _, hL', _⟩ := hns.at fun o e => k2 _ o hLx e
    exact Nat.le_of_lt (Heap.lt_size hL')
end
end MH

/-! Own errors: raised. -/
namespace MH
open PySem L2
/-- an own error's class whose __init__ keeps its arguments under the names fs -/
def ErC (P : Program) (K : PySem.W.Frag) (mg : Str → Option Value) (C : Addr) (fs : List Str) : Prop :=
  ∃ (fI : Addr) (qual : Str) (ag : Arguments) (sc : Scope) (xs : List (Str × Pos)) (ss : List SelP) (p0 p1 p2 p3 p4 : Pos), ErK P K mg C fI qual ag (supS (nmE xs) p0 p1 p2 p3 p4 :: selL ss) sc fs ∧ xs.map (·.1) = fs ∧ ss.map (·.1) = fs ∧ ("self" :: fs : List Str).Nodup ∧ fs.length ≤ 1000 ∧
    ∀ env : Env, ∃ pl, eval (.Call (.Attribute (.Call (.Name "super" p0) [] [] p1) "__init__" p2) (nmE xs) [] p3) env = (do
      let ov ← attributeBase (.Call (.Name "super" p0) [] [] p1) "__init__" env (eval (.Call (.Name "super" p0) [] [] p1) env)
      standAt p2.atName
      let (f, first) ← holding [ov] (getMethod ov "__init__" pl)
      callWith p3 f first (backTo p3 (starEach (nmE xs) env)) [])
/-- a made error -/
structure ErM (h h' : Heap) (e C : Addr) (d : Option Addr) (fv : List (Str × Value)) : Prop where
  keep : ∀ b o, h.get? b = some o → h'.get? b = some o
  new : h.objs.size ≤ e
  obj : ∃ t1 : Addr, h'.get? e = some ({ cls := .ref C, dict := d, data := .fields #[.ref t1, .none, .none, .none, .bool false, .none] } : Obj)
  dic : (d = none ∧ fv = []) ∨ ∃ dx, d = some dx ∧ fv ≠ [] ∧ h.objs.size ≤ dx ∧ dx ≠ e ∧ h'.Ns1 dx (fun y => fv.lookup y)
section
open PySem.W PySem.Calls PyProof.Rows
theorem er_made {prog : Program} {w : World} {A : Around} {R : Result → Shared → Prop} {s : Shared} {K : PySem.W.Frag} {mg : Str → Option Value} {C : Addr} {fs : List Str} {vs : List Value} (T : ErC prog K mg C fs) (hlen : vs.length = fs.length)
    (X : K.In s.heap) (hlim : s.heap.NoLimit) (hG : s.heap.Ns mainGlobals mg) (hB : ∃ mb, s.heap.Ns builtinsNs mb ∧ mb "super" = some (.type "super")) (hroom : A.depth + 1 < recursionLimit)
    (hq : ∀ h' tk e dd, ErM s.heap h' e C dd ((fs.zip vs).reverse) → R (.ok (.ret (.ref e))) { s with heap := h', toks := tk }) :
    codeAny (model prog w) A (.call (.ref C) ⟨vs, []⟩) R s := by
  obtain ⟨fI, qual, ag, sc, xs, ss, p0, p1, p2, p3, p4, T, hxs, hss, hnd, hz, he⟩ := T
  obtain ⟨nm, q, N, bs, bm, sn, sub, ab, col, dd, k0, k1, k2, k3, k5, hC, hbm, hal⟩ := T.cls
  obtain ⟨hp, g, dr, tk, os⟩ := s
  have k : ∀ b o, hp.get? b = some o → ((hp.push (kdv_tup vs)).push (PySem.HandSPX.excO C hp.objs.size)).get? b = some o := fun b o e => Heap.get?_push_of_some _ (Heap.get?_push_of_some _ e)
  have hget : ((hp.push (kdv_tup vs)).push (PySem.HandSPX.excO C hp.objs.size)).get? (hp.objs.size + 1) = some (PySem.HandSPX.excO C hp.objs.size) := by heap_get
  have hnx : K.lookup (hp.objs.size + 1) = none := by
    cases e : K.lookup (hp.objs.size + 1) with
    | none => rfl
    | some o =>
      have z : hp.get? (hp.objs.size + 1) = some o := X _ _ e
      exact absurd (Nat.lt_of_succ_lt (Heap.lt_size z)) (Nat.lt_irrefl _)
  obtain ⟨mb, hB1, hB2⟩ := hB
  refine PySem.HandSPX.call_own PySem.F.excBase_Exception (fun Y => excTail_contains Y bm hbm) (X _ _ hC) (looks_findIn X T.iC) (fun self => bind_fn X self T.tI) (by rw [sizeLine_eq, hlen]; omega) ?_
  refine init_run (s := ⟨(hp.push (kdv_tup vs)).push (PySem.HandSPX.excO C hp.objs.size), g, dr, tk, os⟩) T rfl hxs hss hnd hz hlen he (X.keeps k) (hlim.keeps k) (hG.keeps k) ⟨mb, hB1.keeps k, hB2⟩ hget hnx ?_ fun h' tk' dd' I => ?_
  · show A.depth + 1 < recursionLimit
    exact hroom
  · have old : ∀ b o, hp.get? b = some o → h'.get? b = some o := fun b o e => I.keep b o (Nat.ne_of_lt (Nat.lt_succ_of_lt (Heap.lt_size e))) (k b o e)
    refine ⟨rfl, hq h' tk' (hp.objs.size + 1) dd' ⟨old, Nat.le_succ _, I.obj, ?_⟩⟩
    rcases I.dic with ⟨e1, e2⟩ | ⟨dx, e1, e0, e2, e3, e4⟩
    · exact .inl ⟨e1, e2⟩
    · have z : hp.objs.size + 1 + 1 ≤ dx := by
        have q := e2
        rw [Heap.size_push, Heap.size_push] at q
        exact q
      exact .inr ⟨dx, e1, e0, by show hp.objs.size ≤ dx; omega, e3, e4⟩
end
theorem relO_zip {fs : List Str} {vs : List V} {us : List Value} (r : Vals vs us) (f : Str) : RelO (((fs.zip vs).reverse).lookup f) (((fs.zip us).reverse).lookup f) := by
  have key : ∀ {l : List (Str × V)} {l' : List (Str × Value)}, Paired (fun a b => a.1 = b.1 ∧ RelV a.2 b.2) l l' → RelO (l.lookup f) (l'.lookup f) := by
    intro l l' h
    induction h with
    | nil => exact True.intro
    | @cons a b l l' hab h ih =>
      obtain ⟨f1, v1⟩ := a
      obtain ⟨f2, v2⟩ := b
      obtain ⟨e, rv⟩ := hab
      cases e
      by_cases e : f = f1
      · subst e
        simp only [List.lookup, beq_self_eq_true]
        exact rv
      · have q : (f == f1) = false := by simpa using e
        simp only [List.lookup, q]
        exact ih
  have app : ∀ {l : List (Str × V)} {l' : List (Str × Value)} {m m'}, Paired (fun a b => a.1 = b.1 ∧ RelV a.2 b.2) l l' → Paired (fun a b => a.1 = b.1 ∧ RelV a.2 b.2) m m' → Paired (fun (a : Str × V) (b : Str × Value) => a.1 = b.1 ∧ RelV a.2 b.2) (l ++ m) (l' ++ m') := by
    intro l l' m m' h h2
    induction h with
    | nil => exact h2
    | cons hab h ih => exact .cons hab ih
  refine key ?_
  clear key
  induction r generalizing fs with
  | nil => cases fs <;> exact .nil
  | @cons v u vs us hv hr ih =>
    cases fs with
    | nil => exact .nil
    | cons g fs =>
      rw [List.zip_cons_cons, List.zip_cons_cons, List.reverse_cons, List.reverse_cons]
      exact app (ih (fs := fs)) (.cons ⟨rfl, hv⟩ .nil)
/-- C(e, ..) -/
def tMkE (C : Addr) (fs : List Str) (ta : TA) : L2.St → Hp → XK → Prop := fun σ H Q => ta σ H fun vs H1 => vs.length = fs.length ∧ (fs = [] → Q (.ref C) none H1) ∧ (fs ≠ [] → ∀ d, H1 d = none → Q (.ref C) (some d) (upd H1 d (.xd ((fs.zip vs).reverse))))
section
variable {X : Cx} {C : Addr} {fs : List Str}
theorem er_end {pins : List (Addr × Obj)} {σ : L2.St} {H1 : Hp} {Q : XK} {s1 : Shared} {h' : Heap} {tk' : Nat} {e : Addr} {dd : Option Addr} {vs : List V} {us : List Value} (I1 : Inv X pins σ H1 s1) (M : ErM s1.heap h' e C dd ((fs.zip us).reverse)) (r1 : Vals vs us) (hl : vs.length = fs.length)
    (ex : PySem.W.subIn X.K (.ref C) (.type "BaseException") = some true) (ty : PySem.W.typeIn X.K (.ref C) = some (.type "type"))
    (q0 : fs = [] → Q (.ref C) none H1) (q1 : fs ≠ [] → ∀ d, H1 d = none → Q (.ref C) (some d) (upd H1 d (.xd ((fs.zip vs).reverse)))) : MkP X pins σ Q (.ref e) { s1 with heap := h', toks := tk' } := by
  obtain ⟨hp, g, dr, tk, os⟩ := s1
  obtain ⟨t1, hoe⟩ := M.obj
  obtain ⟨G', g1, g2⟩ := restrict h' fun b => decide (b ≠ e)
  have gk : ∀ b, b ≠ e → G'.get? b = h'.get? b := fun b hb => g1 b (decide_eq_true hb)
  have ge : G'.get? e = none := g2 e (by simp)
  have old : ∀ b o, hp.get? b = some o → G'.get? b = some o := fun b o q => (gk b (Nat.ne_of_lt (Nat.lt_of_lt_of_le (Heap.lt_size q) M.new))).trans (M.keep b o q)
  have keep : ∀ b o, G'.get? b = some o → h'.get? b = some o := fun b o q => by
    by_cases hb : b = e
    · rw [hb, ge] at q; cases q
    · exact (gk b hb).symm.trans q
  rcases M.dic with ⟨e1, e2⟩ | ⟨d, e1, e0, hd, hne, hns⟩
  · have e3 : fs = [] := by
      have r := Paired.length r1
      cases fs with
      | nil => rfl
      | cons f fs =>
        exfalso
        have z := congrArg List.length e2
        simp only [List.length_reverse, List.length_zip, List.length_nil, List.length_cons] at z hl
        omega
    subst e1
    have J : Inv X pins σ H1 ⟨G', g, dr, tk', os⟩ := I1.kept (t' := tk') old
    exact ⟨e, _, _, ⟨G', g, dr, tk', os⟩, _, .ref C, none, rfl, J, keep, ge, hoe, ⟨rfl, rfl⟩, rfl, rfl, I1.hok.fresh M.new, rfl, I1.bare, raises_own ex ty, q0 e3⟩
  · have e3 : fs ≠ [] := fun z => e0 (by rw [z]; rfl)
    subst e1
    have ob : ObjOk X.prog X.w (upd H1 d (.xd ((fs.zip vs).reverse))) G' d (.xd ((fs.zip vs).reverse)) := ⟨_, hns.at (fun o q => (gk d hne).trans q), fun f => relO_zip r1 f⟩
    have J : Inv X pins σ (upd H1 d (.xd ((fs.zip vs).reverse))) ⟨G', g, dr, tk', os⟩ := I1.laid (t' := tk') old hd ob
    refine ⟨e, _, _, ⟨G', g, dr, tk', os⟩, _, .ref C, some d, rfl, J, keep, ge, hoe, ⟨rfl, rfl⟩, rfl, rfl, ?_, rfl, I1.bare, raises_own ex ty, q1 e3 d (I1.hok.fresh hd)⟩
    rw [upd_ne (Ne.symm hne)]
    exact I1.hok.fresh M.new
theorem pmk_er {e : Expr} {es : List Expr} {ta : TA} {x : Str} {p pos : Pos} {k : Nat} (T : ErC X.prog X.K X.mg C fs) (hC : X.mg x = some (.ref C)) (hr : Room k X.A) (ha : PA X (e :: es) ta) (hg : Gl X x := by rfl) (hdb : (x == ("__debug__" : Str)) = false := by decide)
    (he : starEach (e :: es) X.env = (false, eval e X.env) :: starEach es X.env := by rfl) (hpl : (backTo pos (starEach es X.env)).any (·.1) = false := by rfl) :
    PMk X (.Call (.Name x p) (e :: es) [] pos) (tMkE C fs ta) := by
  intro pins s σ H Q I h
  have T' := T
  obtain ⟨_, _, _, _, _, _, _, _, _, _, _, Tk, _⟩ := T'
  refine wpAny_Call_Name_kw (ld_glob I hg hC ?_ hdb)
  refine PySem.W.callWith_K (h₀ := X.base) I.ok.mod.kin Tk.kC (thn (ha.run pos pins s σ H _ I h) fun us s1 hh => ?_) he hpl
  obtain ⟨vs, H1, I1, r1, hl, q0, q1⟩ := hh
  refine ⟨I1.kIn, ?_⟩
  show wpAny _ _ (call (.ref C) us) _ _ _
  have hlim := I1.nolimit
  obtain ⟨mb, b1, b2⟩ := I1.mod.blt
  have hlen : us.length = fs.length := by rw [← Paired.length r1, hl]
  refine wpAny_call (er_made T hlen I1.kIn hlim (I1.mod.glob.keeps I1.bk) ⟨mb, b1.keeps I1.bk, (b2 "super" (by decide)).trans (by kernel_rfl)⟩ (by have := hr.dp; omega) fun h' tk' e' dd M => ?_)
  exact er_end I1 M r1 hl Tk.exC Tk.tyC q0 q1
/-- raise C(e, ..) -/
def Z.raise (c : String) (fs : List Str) (m : Av) : Sv := fun en st => (m en st).toS en fun ws s => if ws.length = fs.length then .ex c ((fs.zip ws).reverse) (en, s) else .no
theorem rpF_zip {K : PySem.W.Frag} {kc : CT} {io : List Addr} {G : Hp} {ws : List W} {vs : List V} (r : RpL K kc io G ws vs) : ∀ fs : List Str, RpF K kc io G ((fs.zip ws).reverse) ((fs.zip vs).reverse) := by
  have app : ∀ {l : List (Str × W)} {l' : List (Str × V)} {m m'}, RpF K kc io G l l' → RpF K kc io G m m' → RpF K kc io G (l ++ m) (l' ++ m') := by
    intro l
    induction l with
    | nil => intro l' m m' h h2; cases h; exact h2
    | cons a l ih => intro l' m m' h h2; cases h with | cons x h => exact .cons x (ih h h2)
  induction ws generalizing vs with
  | nil => intro fs; cases r; cases fs <;> exact .nil
  | cons w ws ih =>
    intro fs
    cases r with
    | cons hw r =>
      cases fs with
      | nil => exact .nil
      | cons f fs =>
        rw [List.zip_cons_cons, List.zip_cons_cons, List.reverse_cons, List.reverse_cons]
        exact app (ih r fs) (.cons hw .nil)
theorem sat_ex {K : PySem.W.Frag} {kc : CT} {Wx : WX} {Fz G : Hp} {io : List Addr} {en : En} {st : Sto} {σ : L2.St} {H : Hp} {c : String} {ws : List W} {vs : List V} {t : Ends → Prop} (S : Sim K kc Fz en st G io σ H) (r : RpL K kc io G ws vs) (hl : ws.length = fs.length) (hc : kc c = some C)
    (h : vs.length = fs.length ∧ (fs = [] → Wx (.ref C) none σ H) ∧ (fs ≠ [] → ∀ d, H d = none → Wx (.ref C) (some d) σ (upd H d (.xd ((fs.zip vs).reverse)))) → ∀ D, t D) :
    SAt K kc Wx Fz G io (.ex c ((fs.zip ws).reverse) (en, st)) t := by
  refine ⟨fun _ _ e => (nomatch e), fun c' fs' s' e hX D => ?_⟩
  cases e
  refine h ⟨by rw [← r.length, hl], fun e => ?_, fun e d hd => ?_⟩ D
  · subst e
    exact hX C none σ G io H hc (Le.refl _) (pre_refl _) S (.inr ⟨rfl, rfl⟩)
  · exact hX C (some d) σ _ io _ hc (upd_le (le_none S.gs hd)) (pre_refl _) (S.alloc hd) (.inl ⟨d, _, rfl, upd_same, (rpF_zip r fs).mono (upd_le (le_none S.gs hd)) (pre_refl _)⟩)
theorem sx_raise {kc : CT} {Wx : WX} {e : Expr} {es : List Expr} {m : Av} {x : Str} {c : String} {p pos pos2 : Pos} {k : Nat} (T : ErC X.prog X.K X.mg C fs) (hC : X.mg x = some (.ref C)) (hc : kc c = some C) (hr : Room k X.A) (hcalm : X.calm = true) (tk : Takes X Wx) (ha : AX X kc Wx (e :: es) m) (hg : Gl X x := by rfl) (hdb : (x == ("__debug__" : Str)) = false := by decide)
    (he : starEach (e :: es) X.env = (false, eval e X.env) :: starEach es X.env := by rfl) (hpl : (backTo pos (starEach es X.env)).any (·.1) = false := by rfl) :
    SX X kc Wx (.Raise (some (.Call (.Name x p) (e :: es) [] pos)) none pos2) (Z.raise c fs m) := by
  obtain ⟨t, h1, h2⟩ := ha
  refine ⟨_, ps_raise hcalm tk (pmk_er T hC hr h1 hg hdb he hpl), fun Fz en st G io σ H S => ?_⟩
  refine (h2 Fz en st G io σ H S).toS (u := fun _ vs H1 => vs.length = fs.length ∧ (fs = [] → Wx (.ref C) none σ H1) ∧ (fs ≠ [] → ∀ d, H1 d = none → Wx (.ref C) (some d) σ (upd H1 d (.xd ((fs.zip vs).reverse))))) fun ws s1 vs G1 io1 H1 e1 l1 p1 S1 r1 => ?_
  by_cases hl : ws.length = fs.length
  · rw [if_pos hl]
    exact sat_ex S1 r1 hl hc fun h _ => h
  · rw [if_neg hl]
    exact SAt.no
end
end MH

/-! Errors caught. -/
namespace MH
open PySem L2
/-- the error that a suite holds: its slot, its place, its class, its dict, its fields -/
structure XI where
  i : Nat
  a : Addr
  c : String
  C : Addr
  d : Option Addr
  fs : List (Str × W)
def XPr (K : PySem.W.Frag) (kc : CT) (x : XI) (G : Hp) (io : List Addr) (en : En) (σ : L2.St) : Prop := XOk K kc io G x.d x.fs ∧ en[x.i]? = some none ∧ σ[x.i]? = some (some (.ref x.a))
section
variable {K : PySem.W.Frag} {kc : CT} {x : XI} {G G' : Hp} {io io' : List Addr} {en : En} {σ : L2.St}
theorem XOk.mono {d : Option Addr} {fs : List (Str × W)} (l : Le G G') (p : io <+: io') (h : XOk K kc io G d fs) : XOk K kc io' G' d fs := by
  rcases h with ⟨a, fv, e1, e2, r⟩ | h
  · exact .inl ⟨a, fv, e1, l.get e2, r.mono l p⟩
  · exact .inr h
theorem XPr.mono (l : Le G G') (p : io <+: io') (h : XPr K kc x G io en σ) : XPr K kc x G' io' en σ := ⟨h.1.mono l p, h.2⟩
end
section
variable (X : Cx) (kc : CT) (Wx : WX) (x : XI)
def OksH {A B : Type} (K : PySem.W.Frag) (rel : Rel A B) (m : En → Sto → R Sto A) (t : L2.St → Hp → (B → Hp → Prop) → Prop) : Prop :=
  ∀ Fz en st G io σ H, Sim K kc Fz en st G io σ H → XPr K kc x G io en σ → At K kc Wx rel Fz en G io σ (m en st) (t σ H)
def EXh (e : Expr) (m : Ev) : Prop := ∃ t, PE X e t ∧ OksH kc Wx x X.K (relE X.K kc) m t
def FXh (e : Expr) (m : Ev) : Prop := ∃ t, PE X e t ∧ OksH kc Wx x X.K (relF X.K kc) m t
def TXh (e : Expr) (m : Tv) : Prop := ∃ t, PT X e t ∧ OksH kc Wx x X.K relT m t
def AXh (es : List Expr) (m : Av) : Prop := ∃ t, PA X es t ∧ OksH kc Wx x X.K (relA X.K kc) m t
def SOksH (K : PySem.W.Frag) (m : Sv) (t : TS) : Prop :=
  ∀ Fz en st G io σ H, Sim K kc Fz en st G io σ H → XPr K kc x G io en σ → SAt K kc Wx Fz G io (m en st) (fun D => t D σ H)
def SXh (s : Stmt) (m : Sv) : Prop := ∃ t, PS X s t ∧ SOksH kc Wx x X.K m t
def SXsh (s : List Stmt) (m : Sv) : Prop := ∃ t, PSs X s t ∧ SOksH kc Wx x X.K m t
end
section
variable {X : Cx} {kc : CT} {Wx : WX} {x : XI} {e a b : Expr} {es : List Expr} {pos : Pos} {s : Stmt}
theorem exh_of {m : Ev} (h : EX X kc Wx e m) : EXh X kc Wx x e m := by
  obtain ⟨t, h1, h2⟩ := h
  exact ⟨t, h1, fun Fz en st G io σ H S _ => h2 Fz en st G io σ H S⟩
theorem sxh_of {m : Sv} (h : SX X kc Wx s m) : SXh X kc Wx x s m := by
  obtain ⟨t, h1, h2⟩ := h
  exact ⟨t, h1, fun Fz en st G io σ H S _ => h2 Fz en st G io σ H S⟩
theorem txh_of {m : Tv} (h : TX X kc Wx e m) : TXh X kc Wx x e m := by
  obtain ⟨t, h1, h2⟩ := h
  exact ⟨t, h1, fun Fz en st G io σ H S _ => h2 Fz en st G io σ H S⟩
theorem FXh.ex {m : Ev} (h : FXh X kc Wx x e m) : EXh X kc Wx x e m := by
  obtain ⟨t, h1, h2⟩ := h
  exact ⟨t, h1, fun Fz en st G io σ H S p => (h2 Fz en st G io σ H S p).frz⟩
theorem axh_nil : AXh X kc Wx x [] A.nil := ⟨_, pa_nil, fun Fz en st G io σ H S _ => At.pure S (rel := relA X.K kc) .nil⟩
theorem axh_cons {m : Ev} {k : Av} (h : EXh X kc Wx x e m) (h' : AXh X kc Wx x es k) (hs : starEach (e :: es) X.env = (false, eval e X.env) :: starEach es X.env := by rfl) : AXh X kc Wx x (e :: es) (A.cons m k) := by
  obtain ⟨t, h1, h2⟩ := h
  obtain ⟨t', h1', h2'⟩ := h'
  refine ⟨_, pa_cons h1 h1' hs, fun Fz en st G io σ H S xp => ?_⟩
  refine (h2 Fz en st G io σ H S xp).bind fun w s1 y G1 io1 H1 e1 l1 p1 S1 r1 => ?_
  refine (h2' Fz en s1 G1 io1 σ H1 S1 (xp.mono l1 p1)).bind fun ws s2 xs G2 io2 H2 e2 l2 p2 S2 r2 => ?_
  exact At.pure S2 (rel := relA X.K kc) (.cons (r1.mono l2 p2) r2)
theorem exh_tup {m : Av} {x1 : Nat} (h : AXh X kc Wx x es m) : EXh X kc Wx x (.Tuple es x1 pos) (E.tup m) := by
  obtain ⟨t, h1, h2⟩ := h
  refine ⟨_, pe_tup h1, fun Fz en st G io σ H S xp => ?_⟩
  refine (h2 Fz en st G io σ H S xp).bind fun ws s1 xs G1 io1 H1 e1 l1 p1 S1 r1 => ?_
  by_cases hf : fit ws.length = true
  · rw [if_pos hf]
    have hl : ws.length = xs.length := RpL.length r1
    exact (At.new S1 fun p hp => new_tup S1 r1 hp).mono fun Q q => ⟨hl ▸ fit_line hf, q⟩
  · rw [if_neg hf]
    exact At.no
theorem fxh_lst {m : Av} (h : AXh X kc Wx x es m) : FXh X kc Wx x (.List es pos) (E.lst m) := by
  obtain ⟨t, h1, h2⟩ := h
  refine ⟨_, pe_lst h1, fun Fz en st G io σ H S xp => ?_⟩
  refine (h2 Fz en st G io σ H S xp).bind fun ws s1 xs G1 io1 H1 e1 l1 p1 S1 r1 => ?_
  by_cases hf : fit ws.length = true
  · rw [if_pos hf]
    have hl : ws.length = xs.length := RpL.length r1
    exact (At.newF S1 (.lst r1)).mono fun Q q => ⟨hl ▸ fit_line hf, q⟩
  · rw [if_neg hf]
    exact At.no
theorem exh_and {m k : Ev} {rest : List Expr} (h : EXh X kc Wx x a m) (h' : EXh X kc Wx x (.BoolOp .And (b :: rest) pos) k) : EXh X kc Wx x (.BoolOp .And (a :: b :: rest) pos) (E.and m k) := by
  obtain ⟨t, h1, h2⟩ := h
  obtain ⟨t', h1', h2'⟩ := h'
  refine ⟨_, pe_and h1 h1', fun Fz en st G io σ H S xp => ?_⟩
  refine (h2 Fz en st G io σ H S xp).bind fun w s1 y G1 io1 H1 e1 l1 p1 S1 r1 => ?_
  split
  · cases r1
    exact (h2' Fz en s1 G1 io1 σ H1 S1 (xp.mono l1 p1)).mono fun Q q => ⟨_, rfl, (by rw [if_pos rfl]; exact q)⟩
  · cases r1
    exact (At.pure S1 (Rp.bl false)).mono fun Q q => ⟨_, rfl, (by rw [if_neg (by decide)]; exact q)⟩
  · exact At.no
theorem exh_one {op : BoolOp} {m : Ev} (h : EXh X kc Wx x a m) : EXh X kc Wx x (.BoolOp op [a] pos) m := by
  obtain ⟨t, h1, h2⟩ := h
  exact ⟨t, pe_one h1, h2⟩
theorem exh_ite {c : Expr} {mc : Tv} {m k : Ev} (hc : TXh X kc Wx x c mc) (h : EXh X kc Wx x a m) (h' : EXh X kc Wx x b k) : EXh X kc Wx x (.IfExp c a b pos) (E.ite mc m k) := by
  obtain ⟨tc, c1, c2⟩ := hc
  obtain ⟨t, h1, h2⟩ := h
  obtain ⟨t', h1', h2'⟩ := h'
  refine ⟨_, pe_ifExp c1 h1 h1', fun Fz en st G io σ H S xp => ?_⟩
  refine (c2 Fz en st G io σ H S xp).bind fun w s1 y G1 io1 H1 e1 l1 p1 S1 r1 => ?_
  cases r1
  cases w with
  | true => exact (h2 Fz en s1 G1 io1 σ H1 S1 (xp.mono l1 p1)).mono fun Q q => (by rw [if_pos rfl]; exact q)
  | false => exact (h2' Fz en s1 G1 io1 σ H1 S1 (xp.mono l1 p1)).mono fun Q q => (by rw [if_neg (by decide)]; exact q)
theorem sxh_set (i : Nat) {n : Str} {m : Ev} {pos' : Pos} (hN : X.N.Nodup) (h : EXh X kc Wx x e m) (hi : X.N[i]? = some n := by rfl) (hx : Loc X.env.scope n := by first | exact Or.inl rfl | exact Or.inr rfl) (hs : swapsWith e (some (.Name n pos')) pos.line X.env = pure false := by rfl) (hf : X.fn n = true ∨ X.env.scope.names.lookup n = some .local := by first | exact .inl rfl | exact .inr rfl | assumption) :
    SXh X kc Wx x (.Assign [.Name n pos'] e pos) (Z.set i m) := by
  obtain ⟨t, h1, h2⟩ := h
  refine ⟨_, ps_set hN hi hx h1 hs hf, fun Fz en st G io σ H S xp => ?_⟩
  refine (h2 Fz en st G io σ H S xp).toS (u := fun D v H1 => gName i v σ H1 D.nx) fun w s1 y G1 io1 H1 e1 l1 p1 S1 r1 => ?_
  exact ⟨fun fl s e D hD => (by cases e; exact hD _ G1 io1 H1 (Le.refl _) (pre_refl _) (Sim.set S1 r1)), fun _ _ _ e => (nomatch e)⟩
theorem sxh_own (i : Nat) {n : Str} {m : Ev} {pos' : Pos} (hN : X.N.Nodup) (h : FXh X kc Wx x e m) (hi : X.N[i]? = some n := by rfl) (hx : Loc X.env.scope n := by first | exact Or.inl rfl | exact Or.inr rfl) (hs : swapsWith e (some (.Name n pos')) pos.line X.env = pure false := by rfl) (hf : X.fn n = true ∨ X.env.scope.names.lookup n = some .local := by first | exact .inl rfl | exact .inr rfl | assumption) :
    SXh X kc Wx x (.Assign [.Name n pos'] e pos) (Z.own i m) := by
  obtain ⟨t, h1, h2⟩ := h
  refine ⟨_, ps_set hN hi hx h1 hs hf, fun Fz en st G io σ H S xp => ?_⟩
  refine (h2 Fz en st G io σ H S xp).toS (u := fun D v H1 => gName i v σ H1 D.nx) fun w s1 y G1 io1 H1 e1 l1 p1 S1 r1 => ?_
  obtain ⟨p, o, rfl, hp, gp, fp, ip, ep, nd⟩ := r1
  exact ⟨fun fl s e D hD => (by cases e; exact hD _ G1 io1 H1 (Le.refl _) (pre_refl _) (S1.setOwn hp gp fp ip ep nd)), fun _ _ _ e => (nomatch e)⟩
theorem sxsh_one {m : Sv} (h : SXh X kc Wx x s m) : SXsh X kc Wx x [s] m := by
  obtain ⟨t, h1, h2⟩ := h
  exact ⟨t, pss_one h1, h2⟩
end
/-- the name of the error, as a place -/
def tSl (i : Nat) : TE := fun σ H Q => ∃ v, σ[i]? = some (some v) ∧ Q v H
/-- e.f -/
def xatt (fs : List (Str × W)) (f : Str) : Ev := fun _ st => match fs.lookup f with
  | some w => .ok w st
  | none => .no
/-- isinstance(e, c), b what comes of it -/
def rIsX (K : PySem.W.Frag) (D a : Addr) (d : Option Addr) : List V → Hp → VK → Prop := fun xs H Q => ∃ (c : V) (cv : Value) (b : Bool), xs = [.ref a, c] ∧ ClsV c cv ∧ PySem.W.kitOne K (.ref D) cv = some b ∧ (d = none ∨ ∃ dd fs, d = some dd ∧ H dd = some (.xd fs)) ∧ Q (.bl b) H
theorem call_isX {X : Cx} {a D : Addr} {d : Option Addr} {oe : Obj} {pn : List (Addr × Obj)} (C : ExcC X.K D) (hz : Zc (.ref D) d oe) (hf : ∃ vs, oe.data = .fields vs) : CallR (X.suite a ((a, oe) :: pn)) (.builtin "isinstance") (rIsX X.K D a d) := by
  intro pins s σ H xs us Q I r h
  obtain ⟨c, cv, b, rfl, hcv, e, hd, q⟩ := h
  cases r with
  | cons rx rr =>
    cases rr with
    | cons rt rr =>
      cases rr
      cases rx
      cases hcv.eq rt
      obtain ⟨hget, _⟩ := I.pin (a, oe) (List.mem_append.mpr (.inl List.mem_cons_self))
      obtain ⟨vs, hv⟩ := hf
      obtain ⟨od, J⟩ : ∃ od, PySem.W.InstAt s.heap a oe D od := by
        obtain ⟨oc, od, oda, osl⟩ := oe
        obtain ⟨h1, h2⟩ := hz
        dsimp only at h1 h2 hv
        subst h1 h2 hv
        rcases hd with rfl | ⟨dd, fs, rfl, ed⟩
        · exact ⟨none, hget, rfl, rfl, trivial⟩
        · obtain ⟨mA, hns, _⟩ : ObjOk X.prog X.w H s.heap dd (.xd fs) := I.hok dd _ ed
          obtain ⟨od, ho, _⟩ := lookIn_ns hns
          exact ⟨some od, hget, rfl, rfl, ho⟩
      have hcl : (PySem.W.clsIn X.K D).isSome = true := by
        obtain ⟨cd, hc, _⟩ := PySem.W.any_some C.hd
        rw [hc]; rfl
      exact PySem.W.kia_one (PySem.W.kitx_exc hcl C.hg C.hk C.hs C.ha C.hn C.ht C.hm) I.kIn J e (fun z => nomatch z) fun tk => ⟨.bl b, H, I.kept (t' := tk) fun _ _ z => z, rfl, q⟩
section
variable {X : Cx} {kc : CT} {Wx : WX} {x : XI} {oe : Obj} {pn : List (Addr × Obj)} {n : Str} {p pos : Pos}
theorem exh_att {f : Str} (T : XfC X.K x.C) (hno : PySem.W.findIn X.K (.ref x.C) f = some none) (hz : Zc (.ref x.C) x.d oe) (hf : ∃ vs, oe.data = .fields vs) (hN : X.N[x.i]? = some n := by rfl) (hvv : Vis X.env.scope n := by first | exact Or.inl rfl | exact Or.inr (Or.inl rfl) | exact Or.inr (Or.inr rfl))
    (hd : (n == ("__debug__" : Str)) = false := by decide) (hcd : (n == ("__classdict__" : Str)) = false := by decide) (hb : attributeBase (.Name n p) f X.env (eval (.Name n p) X.env) = eval (.Name n p) X.env := by rfl) :
    EXh (X.suite x.a ((x.a, oe) :: pn)) kc Wx x (.Attribute (.Name n p) f pos) (xatt x.fs f) := by
  refine ⟨_, pe_xf T hno hz hf (pe_var (X := X.suite x.a ((x.a, oe) :: pn)) hN hvv hd hcd) hb, fun Fz en st G io σ H S xp => ?_⟩
  unfold xatt
  cases e : x.fs.lookup f with
  | none => exact At.no
  | some w =>
    rcases xp.1 with ⟨dd, fv, ed, hdd, r⟩ | ⟨_, ez⟩
    · obtain ⟨v, ev, rv⟩ := r.lookup e
      exact (At.pure S (rel := relE X.K kc) rv).mono fun Q q => ⟨_, xp.2.2, rfl, rfl, dd, fv, v, ed, S.gs _ _ hdd, ev, q⟩
    · rw [ez] at e; cases e
/-- isinstance(e, D) -/
theorem exh_isi {c : Expr} {cw : W} {b : Bool} {p1 p2 : Pos} (C : ExcC X.K x.C) (hz : Zc (.ref x.C) x.d oe) (hf : ∃ vs, oe.data = .fields vs) (hc : EX (X.suite x.a ((x.a, oe) :: pn)) kc Wx c (E.c cw))
    (hk : ∀ v io G, Rp X.K kc io G cw v → ∃ cv, ClsV v cv ∧ PySem.W.kitOne X.K (.ref x.C) cv = some b) (hm : X.mg "isinstance" = none) (hN : X.N[x.i]? = some n := by rfl) (hvv : Vis X.env.scope n := by first | exact Or.inl rfl | exact Or.inr (Or.inl rfl) | exact Or.inr (Or.inr rfl))
    (hd : (n == ("__debug__" : Str)) = false := by decide) (hcd : (n == ("__classdict__" : Str)) = false := by decide) (hg : Gl X "isinstance" := by rfl) (he : starEach [Expr.Name n p, c] X.env = (false, eval (.Name n p) X.env) :: starEach [c] X.env := by rfl) (he2 : starEach [c] X.env = (false, eval c X.env) :: starEach [] X.env := by rfl)
    (hpl : (backTo pos (starEach [c] X.env)).any (·.1) = false := by rfl) :
    EXh (X.suite x.a ((x.a, oe) :: pn)) kc Wx x (.Call (.Name "isinstance" p1) [.Name n p, c] [] pos) (E.c (.bl b)) := by
  obtain ⟨tc, c1, c2⟩ := hc
  refine ⟨_, pe_callB (call_isX (pn := pn) C hz hf) hg hm (by kernel_rfl) (pa_cons (pe_var (X := X.suite x.a ((x.a, oe) :: pn)) hN hvv hd hcd) (pa_cons c1 pa_nil he2) he) (by decide) (by decide) he hpl, fun Fz en st G io σ H S xp => ?_⟩
  have h1 := (c2 Fz en st G io σ H S).1 cw st rfl
  refine ⟨fun a st' e Q hQ => ?_, fun _ _ _ e => (nomatch e)⟩
  cases e
  refine ⟨_, xp.2.2, h1 _ fun v G' io' H' l p S' rv => ?_⟩
  obtain ⟨cv, k1, k2⟩ := hk v io' G' rv
  refine ⟨v, cv, b, rfl, k1, k2, ?_, hQ _ G' io' H' l p S' (.bl b)⟩
  rcases (xp.mono l p).1 with ⟨dd, fv, ed, hdd, r⟩ | ⟨ez, _⟩
  · exact .inr ⟨dd, fv, ed, S'.gs _ _ hdd⟩
  · exact .inl ez
end
end MH

/-! try with several clauses, with names or without. -/
namespace MH
open PySem L2
open PySem.Spec PyProof.Rows
abbrev Cl := Value × Option Nat × (Addr → Value → Option Addr → TS)
def endO (D : Ends) : Option Nat → Ends
  | none => D
  | some i => { nx := fun σ H => D.nx (σ.set i none) H, rt := D.rt, bk := fun σ H => D.bk (σ.set i none) H, ct := fun σ H => D.ct (σ.set i none) H }
def putO (σ : L2.St) (a : Addr) : Option Nat → L2.St
  | none => σ
  | some i => σ.set i (some (.ref a))
def wMix (K : PySem.W.Frag) (Wout : WX) (D : Ends) : List Cl → WX
  | [] => Wout
  | c :: r => fun cls d σ H => ∃ b, PySem.W.exmOne K cls c.1 = some b ∧ (b = true → ∀ a, H a = none → c.2.2 a cls d (endO D c.2.1) (putO σ a c.2.1) H) ∧ (b = false → wMix K Wout D r cls d σ H)
inductive ClOk (X : Cx) : List ExceptHandler → List Cl → Prop
  | nil : ClOk X [] []
  | bare {x : Str} {c : Value} {ts : Addr → Value → Option Addr → TS} {b₀ : Stmt} {su : List Stmt} {np pos' : Pos} {hs : List ExceptHandler} {l : List Cl} (hc : Names X x c)
      (hsu : ∀ (a : Addr) (oe : Obj) (cls : Value) (d : Option Addr) (pn : List (Addr × Obj)), Zc cls d oe → (∃ vs, oe.data = .fields vs) → PSs (X.suite a ((a, oe) :: pn)) (b₀ :: su) (ts a cls d)) (r : ClOk X hs l) :
      ClOk X (.ExceptHandler (some (.Name x np)) none (b₀ :: su) pos' :: hs) ((c, none, ts) :: l)
  | as {x n : Str} {i : Nat} {c : Value} {ts : Addr → Value → Option Addr → TS} {b₀ : Stmt} {su : List Stmt} {np pos' : Pos} {hs : List ExceptHandler} {l : List Cl} (hc : Names X x c) (hi : X.N[i]? = some n) (hln : X.env.kindOf n = some .local)
      (hsu : ∀ (a : Addr) (oe : Obj) (cls : Value) (d : Option Addr) (pn : List (Addr × Obj)), Zc cls d oe → (∃ vs, oe.data = .fields vs) → PSs (X.suite a ((a, oe) :: pn)) (b₀ :: su) (ts a cls d)) (r : ClOk X hs l) :
      ClOk X (.ExceptHandler (some (.Name x np)) (some n) (b₀ :: su) pos' :: hs) ((c, some i, ts) :: l)
section
variable {X : Cx} {body : List Stmt} {h₀ : ExceptHandler} {hds : List ExceptHandler} {l : List Cl} {pos : Pos} {tb : WX → TS} {Wout : WX}
theorem ps_mix (hs : X.stack = X.env :: X.outer) (hf : X.env.frame = some X.env.locals) (hN : X.N.Nodup) (tk : Takes X Wout)
    (hb : ∀ (W : WX) (pn : List (Addr × Obj)) (xe : Value → Shared → Prop), Takes (X.tr pn xe) W → PassesOwn (model X.prog X.w) X.A X.env xe → PSs (X.tr pn xe) body (tb W))
    (hh : ClOk X (h₀ :: hds) l) : PS X (.Try body (h₀ :: hds) [] [] pos) (fun D σ H => tb (wMix X.K Wout D l) D σ H) := by
  refine ⟨fun pins s σ H D I h => ?_⟩
  have ok := I.ok
  have frA : X.A.frames = some (X.env :: X.outer) := by rw [ok.frames, hs]
  let caught : Value → Shared → Prop := fun e s₁ => wpAny (model X.prog X.w) X.A (noteFrame e X.env) (fun _ s₂ => wpAny (model X.prog X.w) X.A (setFlight e none) (fun _ s₃ =>
    wpAny (model X.prog X.w) X.A (handleBy e X.env (h₀ :: hds)) (SP X pins D) X.xe s₃) X.xe s₂) X.xe s₁
  have tkc : Takes (X.tr (X.pn ++ pins) caught) (wMix X.K Wout D l) := by
    intro u s' xx
    obtain ⟨a, B, sI, pins', σ', H', cls, d, rfl, J', nb, up, sky, na, os, ag, w⟩ := xx
    have J : Inv X pins σ' H' sI := J'.ofTry ok
    have sky' : Sky B (X.env :: X.outer) a (Zc cls d) X.env.locals s'.heap := by rw [← hs]; exact sky
    show wpAny (model X.prog X.w) X.A (noteFrame (.ref a) X.env) _ _ _
    refine Sky.land Zc.steady frA hf sky' fun h3 fl3 up3 => ?_
    have J3 : Inv X pins σ' H' { s' with heap := h3 } := J.landed nb fl3.1 (up.trans up3) os ag
    obtain ⟨oe3, vs3, he3, hz3, hd3⟩ := fl3.there
    have nfr : a ∉ frs (X.env :: X.outer) := fun hm => by
      obtain ⟨_, o', e', hnf⟩ := fl3.2.2.1.mem hm
      rw [he3] at e'; cases e'
      exact hnf _ hd3
    have nL : a ≠ X.env.locals := fun z => nfr (List.mem_filterMap.mpr ⟨X.env, List.mem_cons_self, by rw [hf, z]⟩)
    have nF : a ∉ X.fs := fun hm => by
      obtain ⟨e, he, q⟩ := List.mem_filterMap.mp hm
      exact nfr (List.mem_filterMap.mpr ⟨e, List.mem_cons_of_mem _ he, q⟩)
    have S3 := J3.suite he3 hd3 na nL nF
    have LT : PySem.W.Looks (model X.prog X.w) h3 (typeOf (.ref a)) cls := fun A Q E s k q => wpAny_typeOf_ref (k _ _ he3) (by rw [hz3.1]; exact q)
    have test : ∀ {x : Str} {np : Pos} {c : Value} {Q : Value → Shared → Prop} {E : Value → Shared → Prop}, Names X x c → Q c { s' with heap := h3 } → wpAny (model X.prog X.w) (X.A.mark (some (.ref a))) (eval (.Name x np) X.env) Q E { s' with heap := h3 } := fun {x np c Q E} hc q => by
      obtain ⟨hg, hdbg, hm | ⟨hm, hv, hnn⟩⟩ := hc
      · exact ld_glob (X := X.suite a ((a, oe3) :: (X.pn ++ pins))) S3 hg hm q hdbg
      · exact ld_blt (X := X.suite a ((a, oe3) :: (X.pn ++ pins))) S3 hg hm hv q hnn hdbg
    have go : ∀ {hs' : List ExceptHandler} {l' : List Cl}, ClOk X hs' l' → wMix X.K Wout D l' cls d σ' H' → wpAny (model X.prog X.w) X.A (handleBy (.ref a) X.env hs') (SP X pins D) X.xe { s' with heap := h3 } := by
      intro hs' l' hk
      induction hk with
      | nil =>
        intro w
        refine wpAny_handleBy_nil ?_
        obtain ⟨k1, k2, k3, oe, vs, T, oT, ts', he, hz, hd, h1, hr⟩ := id fl3
        unfold PySem.passOn
        refine wpAny_bind (wpAny_field he hd h1 ?_)
        rw [if_neg (show ¬ ((Value.ref T == Value.none) = true) from by simp)]
        have fin : wpAny (model X.prog X.w) X.A (setFlight (.ref a) X.env.frame) (fun _ s4 => wpAny (model X.prog X.w) X.A (throw (.ref a) : Sem Flow) (SP X pins D) X.xe s4) X.xe { s' with heap := h3 } := by
          rw [hf]
          refine HandSPX.setFlight_upZ fl3 fun h4 hh4 up4 => wpAny_throw (tk _ _ ?_)
          exact ⟨a, B, sI, pins, σ', H', cls, d, rfl, J, nb, (up.trans up3).trans up4, .inr (.inr (by rw [hs]; exact hh4)), na, os, ag, w⟩
        first
          | exact wpAny_bind (wpAny_pure (wpAny_bind fin))
          | exact wpAny_bind fin
      | @bare x c ts b₀ su np pos' hs2 l2 hc hsu r ih =>
        intro w
        obtain ⟨b, hb1, hyes, hno⟩ := w
        refine wpAny_handleBy_cons (codeAny_handlers_test ?_) (by intro q; cases q)
        refine test hc ((PySem.W.exm_one (M := model X.prog X.w) (J3.kIn) LT hb1).here ?_)
        cases b with
        | false => exact ih (hno rfl)
        | true =>
          refine codeAny_handlers_suite ?_
          refine HandSPX.lands_againZ fl3 fun h4 fl4 up4 => ?_
          have J4 : Inv X pins σ' H' { s' with heap := h4 } := J.landed nb fl4.1 ((up.trans up3).trans up4) os ag
          obtain ⟨oe4, vs4, he4, hz4, hd4⟩ := fl4.there
          refine wpAny_mono ((hsu a oe4 cls d (X.pn ++ pins) hz4 ⟨_, hd4⟩).run [] _ _ H' _ (J4.suite he4 hd4 na nL nF) (hyes rfl a na)) (fun f s6 hsp => ?_) (fun _ _ z => False.elim z)
          cases f with
          | ret u =>
            obtain ⟨v6, σ6, H6, S6, r6, q6⟩ := hsp
            exact ⟨_, _, _, S6.unsuite ok, r6, q6⟩
          | next => obtain ⟨σ6, H6, S6, q6⟩ := hsp; exact ⟨_, _, S6.unsuite ok, q6⟩
          | brk => obtain ⟨σ6, H6, S6, q6⟩ := hsp; exact ⟨_, _, S6.unsuite ok, q6⟩
          | cont => obtain ⟨σ6, H6, S6, q6⟩ := hsp; exact ⟨_, _, S6.unsuite ok, q6⟩
      | @as x n i c ts b₀ su np pos' hs2 l2 hc hi hln hsu r ih =>
        intro w
        obtain ⟨b, hb1, hyes, hno⟩ := w
        refine wpAny_handleBy_cons (codeAny_handlers_test ?_) (by intro q; cases q)
        refine test hc ((PySem.W.exm_one (M := model X.prog X.w) (J3.kIn) LT hb1).here ?_)
        cases b with
        | false => exact ih (hno rfl)
        | true =>
          refine codeAny_handlers_suite_as ?_
          refine HandSPX.lands_againZ fl3 fun h4 fl4 up4 => ?_
          have J4 : Inv X pins σ' H' { s' with heap := h4 } := J.landed nb fl4.1 ((up.trans up3).trans up4) os ag
          obtain ⟨oe4, vs4, he4, hz4, hd4⟩ := fl4.there
          refine store_ok (X := X.suite a ((a, oe4) :: (X.pn ++ pins))) (v := .ref a) (J4.suite he4 hd4 na nL nF) hN hi (.inl hln) rfl (fun s5 S5 => ?_) (.inr hln)
          refine wpAny_mono ((hsu a oe4 cls d (X.pn ++ pins) hz4 ⟨_, hd4⟩).run [] s5 _ H' _ S5 (hyes rfl a na)) (fun f s6 hsp => ?_) (fun _ _ z => False.elim z)
          have stop : ∀ {σ6 : L2.St} {H6 : Hp} {Q : Shared → Prop}, Inv (X.suite a ((a, oe4) :: (X.pn ++ pins))) [] σ6 H6 s6 → (∀ s7, Inv X pins (σ6.set i none) H6 s7 → Q s7) →
              wpAny (model X.prog X.w) X.A (do bindName X.env n .none; unbindBehindTheSuite X.env n pos') (fun _ s7 => Q s7) X.xe s6 := fun {σ6 H6 Q} S6 hq => gone_ok (S6.unsuite ok) hN hi hln hq
          cases f with
          | ret u =>
            obtain ⟨v6, σ6, H6, S6, r6, q6⟩ := hsp
            exact stop S6 fun s7 J7 => ⟨_, _, _, J7, r6, q6⟩
          | next => obtain ⟨σ6, H6, S6, q6⟩ := hsp; exact stop S6 fun s7 J7 => ⟨_, _, J7, q6⟩
          | brk => obtain ⟨σ6, H6, S6, q6⟩ := hsp; exact stop S6 fun s7 J7 => ⟨_, _, J7, q6⟩
          | cont => obtain ⟨σ6, H6, S6, q6⟩ := hsp; exact stop S6 fun s7 J7 => ⟨_, _, J7, q6⟩
    exact go hh w
  refine wpAny_Try_except ?_
  refine wpAny_mono ((hb (wMix X.K Wout D l) (X.pn ++ pins) caught tkc PassesOwn.looking).run [] s σ H D (I.toTry _) h) (fun f s1 hsp => ?_) (fun e s1 he => he)
  cases f with
  | ret u =>
    obtain ⟨v, σ', H', J', r, q⟩ := hsp
    exact ⟨v, σ', H', J'.ofTry ok, r, q⟩
  | next => obtain ⟨σ', H', J', q⟩ := hsp; exact wpAny_execs_nil ⟨σ', H', J'.ofTry ok, q⟩
  | brk => obtain ⟨σ', H', J', q⟩ := hsp; exact ⟨σ', H', J'.ofTry ok, q⟩
  | cont => obtain ⟨σ', H', J', q⟩ := hsp; exact ⟨σ', H', J'.ofTry ok, q⟩
end
end MH

/-! try, as a function. -/
namespace MH
open PySem L2
/-- a clause: which classes it takes, its name's slot, what it does -/
structure Hn where
  hit : String → Option Bool
  sl : Option Nat
  h : String → List (Str × W) → Sv
def unO (en : En) : Option Nat → En
  | none => en
  | some i => en.set i none
def Z.handle : List Hn → String → List (Str × W) → En → Sto → R (En × Sto) Fl
  | [], c, fs, en, st => .ex c fs (en, st)
  | k :: r, c, fs, en, st => match k.hit c with
    | some true => if (k.sl.all fun i => decide (i < en.length)) then (match k.h c fs (unO en k.sl) st with
      | .ok fl s => .ok fl (unO s.1 k.sl, s.2)
      | _ => .no) else .no
    | some false => Z.handle r c fs en st
    | none => .no
def Z.try (m : Sv) (hs : List Hn) : Sv := fun en st => match m en st with
  | .ex c fs s => Z.handle hs c fs s.1 s.2
  | .ok fl s => .ok fl s
  | .no => .no
def tsOf (K : PySem.W.Frag) (kc : CT) (k : Hn) : Addr → Value → Option Addr → TS := fun a cls d D σ H => ∃ (x : XI) (Fz : Hp) (en : En) (st : Sto) (G : Hp) (io : List Addr), x.a = a ∧ cls = .ref x.C ∧ x.d = d ∧ (∀ i, k.sl = some i → x.i = i ∧ XPr K kc x G io en σ) ∧ kc x.c = some x.C ∧ k.hit x.c = some true ∧
  Sim K kc Fz en st G io σ H ∧ ∃ fl s, k.h x.c x.fs en st = .ok fl s ∧ Post K kc Fz G io fl s D
abbrev WN : WX := fun _ _ _ _ => False
def clOf (K : PySem.W.Frag) (kc : CT) (p : Value × Hn) : Cl := (p.1, p.2.sl, tsOf K kc p.2)
inductive HnOk (X : Cx) (kc : CT) : List ExceptHandler → List (Value × Hn) → Prop
  | nil : HnOk X kc [] []
  | bare {x : Str} {c : Value} {hit : String → Option Bool} {h : String → List (Str × W) → Sv} {b₀ : Stmt} {su : List Stmt} {np pos' : Pos} {hs : List ExceptHandler} {l : List (Value × Hn)} (hc : Names X x c)
      (hh : ∀ n C b, kc n = some C → hit n = some b → PySem.W.exmOne X.K (.ref C) c = some b)
      (hsu : ∀ (x : XI) (oe : Obj) (pn : List (Addr × Obj)), kc x.c = some x.C → hit x.c = some true → Zc (.ref x.C) x.d oe → (∃ vs, oe.data = .fields vs) → SXs (X.suite x.a ((x.a, oe) :: pn)) kc WN (b₀ :: su) (h x.c x.fs)) (r : HnOk X kc hs l) :
      HnOk X kc (.ExceptHandler (some (.Name x np)) none (b₀ :: su) pos' :: hs) ((c, ⟨hit, none, h⟩) :: l)
  | as {x n : Str} {i : Nat} {c : Value} {hit : String → Option Bool} {h : String → List (Str × W) → Sv} {b₀ : Stmt} {su : List Stmt} {np pos' : Pos} {hs : List ExceptHandler} {l : List (Value × Hn)} (hc : Names X x c) (hi : X.N[i]? = some n) (hln : X.env.kindOf n = some .local)
      (hh : ∀ n C b, kc n = some C → hit n = some b → PySem.W.exmOne X.K (.ref C) c = some b)
      (hsu : ∀ (x : XI) (oe : Obj) (pn : List (Addr × Obj)), x.i = i → kc x.c = some x.C → hit x.c = some true → Zc (.ref x.C) x.d oe → (∃ vs, oe.data = .fields vs) → SXsh (X.suite x.a ((x.a, oe) :: pn)) kc WN x (b₀ :: su) (h x.c x.fs)) (r : HnOk X kc hs l) :
      HnOk X kc (.ExceptHandler (some (.Name x np)) (some n) (b₀ :: su) pos' :: hs) ((c, ⟨hit, some i, h⟩) :: l)
section
variable {X : Cx} {kc : CT} {Wx : WX}
theorem HnOk.cl : ∀ {hs : List ExceptHandler} {l : List (Value × Hn)}, HnOk X kc hs l → ClOk X hs (l.map (clOf X.K kc))
  | _, _, .nil => .nil
  | _, _, .bare hc hh hsu r => by
    refine ClOk.bare hc (fun a oe cls d pn hz hf => ⟨fun pins s σ H D I t => ?_⟩) r.cl
    obtain ⟨x, Fz, en, st, G, io, e1, e2, e3, e4, k1, k2, S, fl, s2, e5, p5⟩ := t
    subst e1; subst e2; subst e3
    obtain ⟨t, h1, h2⟩ := hsu x oe pn k1 k2 hz hf
    exact h1.run pins s σ H D I ((h2 Fz en st G io σ H S).1 fl s2 e5 D p5)
  | _, _, .as hc hi hln hh hsu r => by
    refine ClOk.as hc hi hln (fun a oe cls d pn hz hf => ⟨fun pins s σ H D I t => ?_⟩) r.cl
    obtain ⟨x, Fz, en, st, G, io, e1, e2, e3, e4, k1, k2, S, fl, s2, e5, p5⟩ := t
    subst e1; subst e2; subst e3
    obtain ⟨z1, z2⟩ := e4 _ rfl
    obtain ⟨t, h1, h2⟩ := hsu x oe pn z1 k1 k2 hz hf
    exact h1.run pins s σ H D I ((h2 Fz en st G io σ H S z2).1 fl s2 e5 D p5)
theorem HnOk.hit {c : Value} {k : Hn} {l : List (Value × Hn)} {hs : List ExceptHandler} (h : HnOk X kc hs ((c, k) :: l)) : (∀ n C b, kc n = some C → k.hit n = some b → PySem.W.exmOne X.K (.ref C) c = some b) ∧ ∃ hs', HnOk X kc hs' l := by
  cases h with
  | bare hc hh hsu r => exact ⟨hh, _, r⟩
  | as hc hi hln hh hsu r => exact ⟨hh, _, r⟩
theorem handle_at {Fz G : Hp} {io : List Addr} {c : String} {fs : List (Str × W)} {en : En} {st : Sto} : ∀ {l : List (Value × Hn)} {hs : List ExceptHandler}, HnOk X kc hs l →
    (∀ fl s, Z.handle (l.map (·.2)) c fs en st = .ok fl s → ∀ D, Post X.K kc Fz G io fl s D → PostX X.K kc (wMix X.K Wx D (l.map (clOf X.K kc))) Fz G io c fs (en, st)) ∧
    (∀ c' fs' s, Z.handle (l.map (·.2)) c fs en st = .ex c' fs' s → PostX X.K kc Wx Fz G io c' fs' s → ∀ D, PostX X.K kc (wMix X.K Wx D (l.map (clOf X.K kc))) Fz G io c fs (en, st))
  | [], hs, h => ⟨fun fl s e => (by cases e), fun c' fs' s e hX D => (by cases e; exact hX)⟩
  | (cv, k) :: l, hs, h => by
    obtain ⟨hh, hs', r⟩ := h.hit
    obtain ⟨i1, i2⟩ := handle_at (Fz := Fz) (G := G) (io := io) (c := c) (fs := fs) (en := en) (st := st) r
    cases q : k.hit c with
    | none => exact ⟨fun fl s e => (by simp only [List.map, Z.handle, q] at e; cases e), fun c' fs' s e => (by simp only [List.map, Z.handle, q] at e; cases e)⟩
    | some b =>
      cases b with
      | false =>
        refine ⟨fun fl s e D hD => ?_, fun c' fs' s e hX D => ?_⟩
        · simp only [List.map, Z.handle, q] at e
          exact fun C d σ' G' io' H' kC l1 p1 S xo => ⟨false, hh c C false kC q, fun z => (by cases z), fun _ => i1 fl s e D hD C d σ' G' io' H' kC l1 p1 S xo⟩
        · simp only [List.map, Z.handle, q] at e
          exact fun C d σ' G' io' H' kC l1 p1 S xo => ⟨false, hh c C false kC q, fun z => (by cases z), fun _ => i2 c' fs' s e hX D C d σ' G' io' H' kC l1 p1 S xo⟩
      | true =>
        refine ⟨fun fl s e D hD => ?_, fun c' fs' s e hX D => ?_⟩
        · simp only [List.map, Z.handle, q] at e
          split at e
          · rename_i hlt
            split at e
            · rename_i fl2 s2 e2
              cases e
              intro C d σ' G' io' H' kC l1 p1 S xo
              refine ⟨true, hh c C true kC q, fun _ a ha => ?_, fun z => (by cases z)⟩
              obtain ⟨hit, sl, hf⟩ := k
              cases sl with
              | none =>
                exact ⟨⟨0, a, c, C, d, fs⟩, Fz, en, st, G', io', rfl, rfl, rfl, fun i z => (nomatch z), kC, q, S, fl, s2, e2, hD.later l1 p1⟩
              | some i =>
                have hi : i < en.length := by simpa using hlt
                refine ⟨⟨i, a, c, C, d, fs⟩, Fz, en.set i none, st, G', io', rfl, rfl, rfl, fun j z => (by cases z; exact ⟨rfl, xo, by simp [hi], List.getElem?_set_self (by rw [← S.el]; exact hi)⟩), kC, q, S.unset, fl, s2, e2, ?_⟩
                have hD' := hD.later l1 p1
                revert hD'
                cases fl with
                | nx => exact fun hD' σ2 G2 io2 H2 l2 p2 S2 => hD' _ G2 io2 H2 l2 p2 S2.unset
                | bk => exact fun hD' σ2 G2 io2 H2 l2 p2 S2 => hD' _ G2 io2 H2 l2 p2 S2.unset
                | ct => exact fun hD' σ2 G2 io2 H2 l2 p2 S2 => hD' _ G2 io2 H2 l2 p2 S2.unset
                | rt w => exact fun hD' v σ2 G2 io2 H2 l2 p2 S2 => hD' v _ G2 io2 H2 l2 p2 (S2.unset (x := none))
            · cases e
          · cases e
        · simp only [List.map, Z.handle, q] at e
          split at e
          · split at e <;> cases e
          · cases e
theorem sx_try {body : List Stmt} {h₀ : ExceptHandler} {hds : List ExceptHandler} {l : List (Value × Hn)} {pos : Pos} {m : Sv} (hs : X.stack = X.env :: X.outer) (hf : X.env.frame = some X.env.locals) (hN : X.N.Nodup) (tk : Takes X Wx)
    (hb : ∀ (W' : WX) (pn : List (Addr × Obj)) (xe : Value → Shared → Prop), Takes (X.tr pn xe) W' → PassesOwn (model X.prog X.w) X.A X.env xe → SXs (X.tr pn xe) kc W' body m)
    (hh : HnOk X kc (h₀ :: hds) l) : SX X kc Wx (.Try body (h₀ :: hds) [] [] pos) (Z.try m (l.map (·.2))) := by
  refine ⟨_, ps_mix (tb := fun W' => canS X.K kc W' m) hs hf hN tk (fun W' pn xe t1 t2 => (hb W' pn xe t1 t2).ps) hh.cl, fun Fz en st G io σ H S => ?_⟩
  unfold Z.try
  cases q : m en st with
  | no => exact SAt.no
  | ok fl s =>
    exact ⟨fun fl' s' e D hD => (by cases e; exact ⟨Fz, en, st, G, io, S, (by rw [q]; intro z; cases z), fun a b e => (by rw [q] at e; cases e; exact hD), fun _ _ _ e => (by rw [q] at e; cases e)⟩), fun _ _ _ e => (nomatch e)⟩
  | ex c fs s =>
    obtain ⟨h1, h2⟩ := handle_at (Wx := Wx) (Fz := Fz) (G := G) (io := io) (c := c) (fs := fs) (en := s.1) (st := s.2) hh
    exact ⟨fun fl' s' e D hD => ⟨Fz, en, st, G, io, S, (by rw [q]; intro z; cases z), fun a b e => (by rw [q] at e; cases e), fun _ _ _ e' => (by rw [q] at e'; cases e'; exact h1 fl' s' e D hD)⟩,
      fun c' fs' s' e hX D => ⟨Fz, en, st, G, io, S, (by rw [q]; intro z; cases z), fun a b e => (by rw [q] at e; cases e), fun _ _ _ e' => (by rw [q] at e'; cases e'; exact h2 c' fs' s' e hX D)⟩⟩
end
end MH

/-! isinstance. -/
namespace MH
open PySem L2
structure InsK (K : PySem.W.Frag) (C : Addr) : Prop where
  cl : Cls K C
  ha : PySem.W.findIn K (.ref C) "__class__" = some (some (.builtin "object.__class__"))
  hn : PySem.W.specialIn K (.builtin "object.__class__") "__get__" = some (some (.builtin "getset_descriptor.__get__"))
  ht : PySem.W.takesIn K (.builtin "object.__class__") = some true
  hm : PySem.W.mroIn K C (.type "object") = some true
def tyNs : List String := ["int", "str", "bool", "tuple", "list", "dict", "NoneType"]
/-- what the classes il say -/
structure IsiK (K : PySem.W.Frag) (kc : CT) (il : List String) : Prop where
  ins : ∀ c C, c ∈ il → kc c = some C → InsK K C
  it : ∀ c C n, c ∈ il → kc c = some C → n ∈ tyNs → PySem.W.kitOne K (.ref C) (.type n) = some false
  ti : ∀ t c C, t ∈ tyNs → c ∈ il → kc c = some C → PySem.W.kitOne K (.type t) (.ref C) = some false
  ii : ∀ c C c' C', c ∈ il → c' ∈ il → kc c = some C → kc c' = some C' → PySem.W.kitOne K (.ref C) (.ref C') = some (c == c')
def tyN : W → Option String
  | .non => some "NoneType"
  | .bl _ => some "bool"
  | .int _ => some "int"
  | .str _ => some "str"
  | .tup _ => some "tuple"
  | .lst _ => some "list"
  | .dct false _ => some "dict"
  | _ => none
def kbT (a b : String) : Option Bool :=
  if a = b then (if a ∈ tyNs then some true else none) else if a = "bool" ∧ b = "int" then some true else if a ∈ tyNs ∧ b ∈ tyNs then some false else none
theorem kbT_ok {K : PySem.W.Frag} {a b : String} {r : Bool} (h : kbT a b = some r) : PySem.W.kitOne K (.type a) (.type b) = some r := by
  refine kit_ty ?_
  unfold kbT at h
  split at h
  · rename_i e
    subst e
    split at h
    · cases h
      unfold kitB
      rw [if_pos (beq_self_eq_true _)]
    · cases h
  · rename_i ne
    split at h
    · rename_i e
      cases h
      rw [e.1, e.2]
      decide +kernel
    · split at h
      · rename_i n2 e
        cases h
        obtain ⟨ha, hb⟩ := e
        simp only [tyNs, List.mem_cons, List.mem_nil_iff, or_false] at ha hb
        rcases ha with rfl | rfl | rfl | rfl | rfl | rfl | rfl <;> rcases hb with rfl | rfl | rfl | rfl | rfl | rfl | rfl <;> first | exact absurd rfl ne | exact absurd ⟨rfl, rfl⟩ n2 | decide +kernel
      · cases h
def isiW (il : List String) (w c : W) : Option Bool := match c with
  | .ty n => (match w with
    | .ins k _ => if k ∈ il ∧ n ∈ tyNs then some false else none
    | _ => (tyN w).bind fun t => kbT t n)
  | .cls k => if k ∈ il then (match w with
    | .ins k' _ => if k' ∈ il then some (k' == k) else none
    | _ => (tyN w).bind fun t => if t ∈ tyNs then some false else none) else none
  | _ => none
section
variable {K : PySem.W.Frag} {kc : CT} {io : List Addr} {G H : Hp} {w c : W} {v u : V} {il : List String}
theorem ty_base {t : String} (S : Ls G H) (x : Tp K kc io G H w v) (h : tyN w = some t) : TyX K H v (.type t) := by
  unfold tyN at h
  split at h <;> cases h
  · cases x.non; exact .base .non
  · cases x.bl; exact .base (.bl _)
  · cases x.int; exact .base (.int _)
  · cases x.str; exact .base (.str _)
  · obtain ⟨a, vs, rfl, ha, _⟩ := x.tup S; exact .base (.tup ha)
  · obtain ⟨a, vs, rfl, ha, _⟩ := x.lst S; exact .base (.lst ha)
  · obtain ⟨a, vs, rfl, ha, _⟩ := x.dk S
    rcases ha with ha | ⟨o, ha⟩
    · exact .base (.dK ha)
    · exact .fDict ha
theorem ty_ins {k : String} {fs : List (Str × W)} (T : IsiK K kc il) (S : Ls G H) (x : Tp K kc io G H (.ins k fs) v) (hk : k ∈ il) : ∃ C, kc k = some C ∧ TyX K H v (.ref C) := by
  obtain ⟨a, C, dx, fv, rfl, hc, ha, _⟩ := x.ins S
  have I := T.ins k C hk hc
  exact ⟨C, hc, .base (.ins ha I.cl I.ha I.hn I.ht I.hm)⟩
theorem isi_ok {b : Bool} (T : IsiK K kc il) (S : Ls G H) (x : Tp K kc io G H w v) (y : Tp K kc io G H c u) (h : isiW il w c = some b) : ∃ t cv, ClsV u cv ∧ TyX K H v t ∧ PySem.W.kitOne K t cv = some b := by
  have other : ∀ {n : String}, y = y → (∀ k fs, w ≠ .ins k fs) → ((tyN w).bind fun t => kbT t n) = some b → ∃ t, TyX K H v t ∧ PySem.W.kitOne K t (.type n) = some b := by
    intro n _ _ e
    obtain ⟨t, e1, e2⟩ := Option.bind_eq_some_iff.mp e
    exact ⟨_, ty_base S x e1, kbT_ok e2⟩
  have other2 : ∀ {k : String} {C : Addr}, k ∈ il → kc k = some C → ((tyN w).bind fun t => if t ∈ tyNs then some false else none) = some b → ∃ t, TyX K H v t ∧ PySem.W.kitOne K t (.ref C) = some b := by
    intro k C hk hc e
    obtain ⟨t, e1, e2⟩ := Option.bind_eq_some_iff.mp e
    split at e2
    · cases e2
      rename_i ht
      exact ⟨_, ty_base S x e1, T.ti t k C ht hk hc⟩
    · cases e2
  unfold isiW at h
  cases c with
  | ty n =>
    have hu : u = .ty n := by
      rcases y with y | ⟨_, _, _, _, y⟩
      · cases y; rfl
      · cases y
    subst hu
    dsimp only at h
    split at h
    · rename_i k fs
      split at h
      · cases h
        rename_i hk
        obtain ⟨C, hc, tx⟩ := ty_ins T S x hk.1
        exact ⟨_, _, .ty n, tx, T.it k C n hk.1 hc hk.2⟩
      · cases h
    · rename_i ne
      obtain ⟨t, tx, e⟩ := other rfl ne h
      exact ⟨t, _, .ty n, tx, e⟩
  | cls k =>
    obtain ⟨C, hc, rfl⟩ : ∃ C, kc k = some C ∧ u = .ref C := by
      rcases y with y | ⟨_, _, _, _, y⟩
      · cases y with | cls hc => exact ⟨_, hc, rfl⟩
      · cases y
    dsimp only at h
    split at h
    · rename_i hk
      split at h
      · rename_i k' fs
        split at h
        · cases h
          rename_i hk'
          obtain ⟨C', hc', tx⟩ := ty_ins T S x hk'
          exact ⟨_, _, .own C, tx, T.ii k' C' k C hk' hk hc' hc⟩
        · cases h
      · obtain ⟨t, tx, e⟩ := other2 hk hc h
        exact ⟨t, _, .own C, tx, e⟩
    · cases h
  | _ => cases h
def isi2 (il : List String) : List W → Option W
  | [w, c] => (isiW il w c).map W.bl
  | _ => none
theorem ck_isi (T : IsiK K kc il) : CallK K kc (relE K kc) (rIsi K) (isi2 il) := by
  intro Wx Fz en st G io σ H hs vs S r
  match hs, vs, r with
  | [], _, _ => exact At.no
  | [h1], _, _ => exact At.no
  | [h1, h2], vs, r =>
    obtain ⟨v, u, rfl, t1, t2⟩ := hd2 S r
    show At _ _ _ _ _ _ _ _ _ (lift ((isiW il (view en st h1) (view en st h2)).map W.bl) st) _
    cases e : isiW il (view en st h1) (view en st h2) with
    | none => exact At.no
    | some b =>
      obtain ⟨t, cv, k1, k2, k3⟩ := isi_ok T S.gs t1 t2 e
      exact (At.pure S (Rp.bl b)).mono fun Q q => ⟨v, u, t, cv, b, rfl, k1, k2, k3, q⟩
  | h1 :: h2 :: h3 :: hs, _, _ => exact At.no
end
section
variable {X : Cx} {kc : CT} {Wx : WX} {e c : Expr} {il : List String} {m : Hv} {p pos : Pos}
theorem ex_isi (T : IsiK X.K kc il) (hm : X.mg "isinstance" = none) (ha : HX X kc Wx [e, c] m) (hg : Gl X "isinstance" := by rfl) (he : starEach [e, c] X.env = (false, eval e X.env) :: starEach [c] X.env := by rfl) (hpl : (backTo pos (starEach [c] X.env)).any (·.1) = false := by rfl) :
    EX X kc Wx (.Call (.Name "isinstance" p) [e, c] [] pos) (E.call (isi2 il) m) := ex_callB call_isi (ck_isi T) hm (by kernel_rfl) ha hg (by decide) (by decide) he hpl
/-- an own class as a value -/
theorem ex_clsv {x : Str} {k : String} {C : Addr} (hm : X.mg x = some (.ref C)) (hc : kc k = some C) (hg : Gl X x := by rfl) (hd : (x == ("__debug__" : Str)) = false := by decide) : EX X kc Wx (.Name x pos) (E.c (.cls k)) :=
  ex_c (v := .ref C) (pe_glob hg hm rfl hd) fun _ _ => .cls hc
end
end MH

/-! enumerate and zip over lists, tuples, texts. -/
namespace MH
open PySem L2
/-- a value that is walked, its items -/
inductive SrcOk (K : PySem.W.Frag) (H : Hp) : V → List V → Prop
  | lst {a : Addr} {vs : List V} : SqL K H a vs → SrcOk K H (.ref a) vs
  | tup {a : Addr} {vs : List V} : SqT K H a vs → SrcOk K H (.ref a) vs
  | str (x : Str) : SrcOk K H (.str x) (x.cps.toList.map fun c => .str ⟨#[c]⟩)
def strVs (x : Str) : List V := x.cps.toList.map fun c => .str ⟨#[c]⟩
/-- its iterator, at turn i -/
inductive SIt (h : Heap) (it : Addr) (i : Nat) : Bool → Value → Prop
  | lst {a : Addr} : h.IsListIter it a i → SIt h it i false (.ref a)
  | tup {a : Addr} : h.IsTupleIter it a i → SIt h it i true (.ref a)
  | str {x : Str} {t : Tok} (b : Bool) : h.IsStrIter it (strIterType x) x t i → SIt h it i b (.str x t)
theorem SIt.keep {h h' : Heap} {it : Addr} {i : Nat} {b : Bool} {u : Value} (x : SIt h it i b u) (k : ∀ o, h.get? it = some o → h'.get? it = some o) : SIt h' it i b u := by
  cases x with
  | lst x => exact .lst (x.at k)
  | tup x => exact .tup (x.at k)
  | str b x => obtain ⟨o, e, c, d⟩ := x; exact .str b ⟨o, k o e, c, d⟩
theorem SIt.live {h : Heap} {it : Addr} {i : Nat} {b : Bool} {u : Value} (x : SIt h it i b u) : ∃ o, h.get? it = some o ∧ ∀ v, o.data ≠ .cell v := by
  cases x with
  | lst x => obtain ⟨o, e, _, d⟩ := x; exact ⟨o, e, fun v z => by rw [d] at z; cases z⟩
  | tup x => obtain ⟨o, e, _, d⟩ := x; exact ⟨o, e, fun v z => by rw [d] at z; cases z⟩
  | str b x => obtain ⟨o, e, _, d⟩ := x; exact ⟨o, e, fun v z => by rw [d] at z; cases z⟩
theorem vals_getR : ∀ {xs : List V} {us : List Value} {i : Nat} {u : Value}, Vals xs us → us[i]? = some u → ∃ x, xs[i]? = some x ∧ RelV x u
  | _, _, i, u, .nil, e => by simp at e
  | _, _, 0, u, .cons (a := a) r _, e => by
    have e' := Option.some.inj e
    exact ⟨a, rfl, e' ▸ r⟩
  | _, _, i + 1, u, .cons _ t, e => vals_getR (i := i) t (by simpa using e)
/-- which kind -/
inductive SKind (K : PySem.W.Frag) (H : Hp) : Bool → V → List V → Prop
  | lst {a : Addr} {vs : List V} : SqL K H a vs → SKind K H false (.ref a) vs
  | tup {a : Addr} {vs : List V} : SqT K H a vs → SKind K H true (.ref a) vs
  | str (b : Bool) (x : Str) : SKind K H b (.str x) (strVs x)
theorem fp_base {X : Cx} {pins : List (Addr × Obj)} {σ : L2.St} {H : Hp} {s : Shared} {e : Addr} {o : Obj} (I : Inv X pins σ H s) (f : FpOk X pins H e) : X.K.lookup e ≠ some o := fun h => by
  have hb := I.ok.mod.kin e o h
  rcases f.2.2.2.1 with z | z
  · exact I.ok.noex e o hb z
  · exact absurd (Heap.lt_size (I.ok.bs e o hb).1) (Nat.not_lt.mpr z)
theorem fp_lst {X : Cx} {pins : List (Addr × Obj)} {σ : L2.St} {H : Hp} {s : Shared} {e a : Addr} {vs : List V} (I : Inv X pins σ H s) (f : FpOk X pins H e) (q : SqL X.K H a vs) : e ≠ a := fun z => by
  subst z
  rcases q with (q | ⟨o, q⟩) | ⟨o, _, _, q, _⟩
  · rw [f.1] at q; cases q
  · rw [f.1] at q; cases q
  · exact fp_base I f q
theorem fp_tup {X : Cx} {pins : List (Addr × Obj)} {σ : L2.St} {H : Hp} {s : Shared} {e a : Addr} {vs : List V} (I : Inv X pins σ H s) (f : FpOk X pins H e) (q : SqT X.K H a vs) : e ≠ a := fun z => by
  subst z
  rcases q with (q | ⟨o, q⟩) | ⟨o, _, _, q, _⟩
  · rw [f.1] at q; cases q
  · rw [f.1] at q; cases q
  · exact fp_base I f q
theorem src_draws {X : Cx} {pins : List (Addr × Obj)} {σ : L2.St} {H : Hp} {s : Shared} {b : Bool} {x : V} {vs : List V} {u : Value} {it : Addr} {i : Nat} (I : Inv X pins σ H s) (q : SKind X.K H b x vs) (r : RelV x u) (st : SIt s.heap it i b u) (A : Around) (hh : A.handled = none) :
    ∃ (fp : List Addr) (Pv : Nat → Value → Prop) (St : Nat → Heap → Prop), Draws X.prog X.w A it fp vs.length Pv St ∧ it ∈ fp ∧ (∀ e, FpOk X pins H e → e ≠ it → e ∉ fp) ∧ St i s.heap ∧ (∀ j h, St j h → SIt h it j b u) ∧ ∀ j y, Pv j y → ∃ v, vs[j]? = some v ∧ RelV v y := by
  cases q with
  | @lst a vs q =>
    cases r
    cases st with
    | lst st =>
      obtain ⟨its, rv, p, _⟩ := I.list q
      have hne : a ≠ it := fun e => by
        obtain ⟨o, e1, c1, _⟩ := p.isList
        obtain ⟨o', e2, c2, _⟩ := st
        rw [e, e2] at e1
        cases e1
        rw [c1] at c2
        exact absurd (Value.type.inj c2) (by decide)
      refine ⟨_, _, _, (show its.toArray.size = vs.length by simp [rv.length]) ▸ Draws.list (prog := X.prog) (w := X.w) hh it a hne its.toArray, by simp, fun e hc hn hm => ?_, ⟨st, p.isList⟩, fun j h z => .lst z.1, fun j y z => ?_⟩
      · have e' : e = it ∨ e = a := by simpa using hm
        rcases e' with e' | e'
        · exact hn e'
        · exact fp_lst I hc q e'
      · obtain ⟨v, e1, r1⟩ := vals_getR rv (by simpa using z)
        exact ⟨v, e1, r1⟩
  | @tup a vs q =>
    cases r
    cases st with
    | tup st =>
      obtain ⟨its, rv, p, _⟩ := I.tuple q
      have hne : a ≠ it := fun e => by
        obtain ⟨o, e1, c1, _⟩ := p
        obtain ⟨o', e2, c2, _⟩ := st
        rw [e, e2] at e1
        cases e1
        rw [c1] at c2
        exact absurd (Value.type.inj c2) (by decide)
      refine ⟨_, _, _, (show its.toArray.size = vs.length by simp [rv.length]) ▸ Draws.tuple (prog := X.prog) (w := X.w) hh it a hne its.toArray, by simp, fun e hc hn hm => ?_, ⟨st, p⟩, fun j h z => .tup z.1, fun j y z => ?_⟩
      · have e' : e = it ∨ e = a := by simpa using hm
        rcases e' with e' | e'
        · exact hn e'
        · exact fp_tup I hc q e'
      · obtain ⟨v, e1, r1⟩ := vals_getR rv (by simpa using z)
        exact ⟨v, e1, r1⟩
  | str b x =>
    obtain ⟨t, rfl⟩ := r
    cases st with
    | str b st =>
      refine ⟨_, _, _, (show (strVs x).length = x.cps.size by simp [strVs]) ▸ Draws.text hh it x _, by simp, fun e hc hn hm => hn (by simpa using hm), st, fun j h z => .str b z, fun j y z => ?_⟩
      obtain ⟨c, u, e1, rfl⟩ := z
      refine ⟨.str ⟨#[c]⟩, ?_, ⟨u, rfl⟩⟩
      unfold strVs
      rw [List.getElem?_map, Array.getElem?_toList, e1]
      rfl

theorem SKind.le {K : PySem.W.Frag} {G H : Hp} {b : Bool} {x : V} {vs : List V} (l : Le G H) (q : SKind K G b x vs) : SKind K H b x vs := by
  cases q with
  | lst q => exact .lst (sql_le l q)
  | tup q => exact .tup (sqt_le l q)
  | str b x => exact .str b x
/-- enumerate, the numbers from k on -/
def JE (K : PySem.W.Frag) (k : Int) (b : Bool) (x : V) (vs : List V) : It :=
  ⟨fun i H => SKind K H b x vs ∧ i < vs.length, fun i H v H' => ∃ T y, v = .ref T ∧ H T = none ∧ H' = upd H T (.tup [.int (k + (i : Nat)), y]) ∧ vs[i]? = some y, fun i H => SKind K H b x vs ∧ i = vs.length⟩
theorem turn_en {P : Program} {w : World} {K : PySem.W.Frag} {elts : List Expr} {kk : Nat} {tpos : Pos} {k : Int} {b : Bool} {x : V} {vs : List V} {u : Value} {e it : Addr} (ru : RelV x u) :
    Turn P w K (.Tuple elts kk tpos) (JE K k b x vs) [e, it] e (fun i h => (∃ old, IsEnum h e it (k + (i : Nat)) old) ∧ SIt h it i b u ∧ e ≠ it) where
  mem := by simp
  obj := fun i h st c hc => by
    obtain ⟨⟨old, he⟩, hi, _⟩ := st
    have e' : c = e ∨ c = it := by simpa using hc
    rcases e' with z | z
    · rw [z]; exact ⟨_, he, fun v q => nomatch q⟩
    · rw [z]; exact hi.live
  keep := fun i h h' st kp => let ⟨⟨old, he⟩, hi, hne⟩ := st; ⟨⟨old, kp e (by simp) _ he⟩, hi.keep fun o q => kp it (by simp) o q, hne⟩
  item := by
    intro X hP hw hK hc i pins s σ H E I hf st hg
    subst hP hw hK
    obtain ⟨⟨old, he⟩, hit, hne⟩ := st
    obtain ⟨hs, hlt⟩ := hg
    obtain ⟨fp, Pv, St, D, hin, hout, hst, hback, hval⟩ := src_draws I hs ru hit X.A.in1 (I.ok.hd hc)
    have hef : e ∉ fp := hout e (hf e (by simp)) hne
    have hel : e < s.heap.objs.size := Heap.lt_size he
    have hil : it < s.heap.objs.size := by obtain ⟨_, q, _⟩ := hit.live; exact Heap.lt_size q
    refine wpAny_pyNext_enum_itemC D he hst hlt hne hef fun y h' tk hy ho hst' hT hsz hk => ?_
    obtain ⟨v, hv, rv⟩ := hval i y hy
    refine ⟨_, rfl, wpAny_letOwnedTupleGo_enum (s := { s with heap := h', toks := tk + 1 }) ho fun h'' he' sb => ?_⟩
    have hT2 : h''.get? s.heap.objs.size = some { cls := .type "tuple", data := .seq #[.int (k + (i : Nat)) tk, y] } := (sb.2 _ (Nat.ne_of_gt hel)).trans hT
    have new : ObjOk X.prog X.w (upd H s.heap.objs.size (.tup [.int (k + (i : Nat)), v])) h'' s.heap.objs.size (.tup [.int (k + (i : Nat)), v]) :=
      ⟨by show 2 ≤ sizeLine; decide, [.int (k + (i : Nat)) tk, y], .cons ⟨_, rfl⟩ (.cons rv .nil), ⟨_, hT2, rfl, _, rfl⟩⟩
    have I1 : Inv X pins σ (upd H s.heap.objs.size (.tup [.int (k + (i : Nat)), v])) { s with heap := h'', toks := tk + 1 } :=
      I.turnedNew (ch := [e, it]) (fun c ob hb q => (sb.2 c (fun z => hb (by simp [z]))).trans (hk c ob (fun z => hb (by simp [z])) (fun z => hb (by simp [z])) q)) hf (Nat.le_refl _) new
    refine ⟨.ref s.heap.objs.size, _, I1, rfl, ⟨_, v, rfl, I.hok.fresh (Nat.le_refl _), rfl, hv⟩, ⟨⟨y, ?_⟩, (hback _ _ hst').keep fun o q => (sb.2 it (Ne.symm hne)).trans q, hne⟩, fun c hb => ?_⟩
    · have e1 : k + ((i + 1 : Nat) : Int) = k + (i : Int) + 1 := by omega
      rw [e1]; exact he'
    · have hb' : c < s.heap.objs.size := by
        have e' : c = e ∨ c = it := by simpa using hb
        rcases e' with z | z
        · rw [z]; exact hel
        · rw [z]; exact hil
      rw [upd_ne (Nat.ne_of_lt hb')]
      exact (hf c hb).1
  done := by
    intro X hP hw hK hc i pins s σ H E I hf st hg
    subst hP hw hK
    obtain ⟨⟨old, he⟩, hit, hne⟩ := st
    obtain ⟨hs, rfl⟩ := hg
    obtain ⟨fp, Pv, St, D, hin, hout, hst, hback, hval⟩ := src_draws I hs ru hit X.A.in1 (I.ok.hd hc)
    obtain ⟨f0, f1, f2, f3, f4, f5⟩ := hf it (by simp)
    exact wpAny_pyNext_enum_endD D he hst fun h' eb => ⟨rfl, I.turned (t' := s.toks) (fun c o hb q => eb c o hb q) f0 f1 f3 f4 f5⟩
  self := fun A i s Q E st h => let ⟨⟨_, he⟩, _⟩ := st; wpAny_pyIter_enum he h
theorem walk_en {K : PySem.W.Frag} {k : Int} {b : Bool} {x : V} {vs : List V} : Walk (JE K k b x vs) vs.length (fun H => SKind K H b x vs) (YPair (fun i => some (.int (k + (i : Nat)))) (fun i => vs[i]?)) := by
  refine ⟨fun i _ hi q => ⟨q, hi⟩, fun _ q => ⟨q, rfl⟩, fun i H v H' _ q y => ?_⟩
  obtain ⟨T, y, h1, h2, h3, h4⟩ := y
  exact ⟨T, .int (k + (i : Nat)), y, h1, h2, h3, rfl, h4⟩
/-- zip of two -/
def JZ (K : PySem.W.Frag) (b : Bool) (x : V) (vs : List V) (b' : Bool) (x' : V) (vs' : List V) : It :=
  ⟨fun i H => SKind K H b x vs ∧ SKind K H b' x' vs' ∧ i < min vs.length vs'.length, fun i H v H' => ∃ T y y', v = .ref T ∧ H T = none ∧ H' = upd H T (.tup [y, y']) ∧ vs[i]? = some y ∧ vs'[i]? = some y', fun i H => SKind K H b x vs ∧ SKind K H b' x' vs' ∧ i = min vs.length vs'.length⟩
theorem turn_zp {P : Program} {w : World} {K : PySem.W.Frag} {elts : List Expr} {kk : Nat} {tpos : Pos} {b b' : Bool} {x x' : V} {vs vs' : List V} {u u' : Value} {z TI TO i1 i2 : Addr} (ru : RelV x u) (ru' : RelV x' u') (hTz : TI ≠ z) (hOz : TO ≠ z) (hTO : TI ≠ TO) (hT1 : TI ≠ i1) (hT2 : TI ≠ i2) (hz1 : z ≠ i1) (hz2 : z ≠ i2) (hO1 : TO ≠ i1) (hO2 : TO ≠ i2) (h12 : i1 ≠ i2) :
    Turn P w K (.Tuple elts kk tpos) (JZ K b x vs b' x' vs') [z, TI, TO, i1, i2] z (fun i h => IsZip h z TI TO .none ∧ IsTupOf2 h TI (.ref i1) (.ref i2) ∧ (∃ a1 a2, IsTupOf2 h TO a1 a2) ∧ SIt h i1 i b u ∧ SIt h i2 i b' u') where
  mem := by simp
  obj := fun i h st c hc => by
    obtain ⟨hz, hTI, ⟨a1, a2, hTO'⟩, s1, s2⟩ := st
    have e' : c = z ∨ c = TI ∨ c = TO ∨ c = i1 ∨ c = i2 := by simpa using hc
    rcases e' with q | q | q | q | q
    · rw [q]; exact ⟨_, hz, fun v q => nomatch q⟩
    · rw [q]; exact ⟨_, hTI, fun v q => nomatch q⟩
    · rw [q]; exact ⟨_, hTO', fun v q => nomatch q⟩
    · rw [q]; exact s1.live
    · rw [q]; exact s2.live
  keep := fun i h h' st kp => by
    obtain ⟨hz, hTI, ⟨a1, a2, hTO'⟩, s1, s2⟩ := st
    exact ⟨kp z (by simp) _ hz, kp TI (by simp) _ hTI, ⟨a1, a2, kp TO (by simp) _ hTO'⟩, s1.keep fun o q => kp i1 (by simp) o q, s2.keep fun o q => kp i2 (by simp) o q⟩
  item := by
    intro X hP hw hK hc i pins s σ H E I hf st hg
    subst hP hw hK
    obtain ⟨hz, hTI, ⟨a1, a2, hTO'⟩, s1, s2⟩ := st
    obtain ⟨k1, k2, hlt⟩ := hg
    obtain ⟨fp1, P1, St1, D1, in1, out1, st1, back1, val1⟩ := src_draws I k1 ru s1 X.A.in1 (I.ok.hd hc)
    obtain ⟨fp2, P2, St2, D2, in2, out2, st2, back2, val2⟩ := src_draws I k2 ru' s2 X.A.in1 (I.ok.hd hc)
    have S : ZipSep2 z TI TO i1 i2 fp1 fp2 := ⟨hTz, hOz, hTO, hT1, in1, out1 z (hf z (by simp)) hz1, out1 TO (hf TO (by simp)) hO1, hT2, in2, out2 z (hf z (by simp)) hz2, out2 TO (hf TO (by simp)) hO2, out2 i1 (hf i1 (by simp)) h12, out1 i2 (hf i2 (by simp)) (Ne.symm h12)⟩
    refine wpAny_pyNext_zipD2_item S D1 D2 hz hTI hTO' st1 st2 (by omega) (by omega) fun x1 x2 h' tk y1 y2 b1 b2 d1 d2 b5 b6 hk => ?_
    obtain ⟨v1, hv1, rv1⟩ := val1 i x1 y1
    obtain ⟨v2, hv2, rv2⟩ := val2 i x2 y2
    refine ⟨_, rfl, wpAny_letOwnedTupleGo_zip (s := { s with heap := h', toks := tk }) b1 fun h'' hz' sb => ?_⟩
    have zl : z < s.heap.objs.size := Heap.lt_size hz
    have hT2' : h''.get? s.heap.objs.size = some { cls := .type "tuple", data := .seq #[x1, x2] } := (sb.2 _ (Nat.ne_of_gt zl)).trans b5
    have new : ObjOk X.prog X.w (upd H s.heap.objs.size (.tup [v1, v2])) h'' s.heap.objs.size (.tup [v1, v2]) :=
      ⟨by show 2 ≤ sizeLine; decide, [x1, x2], .cons rv1 (.cons rv2 .nil), ⟨_, hT2', rfl, _, rfl⟩⟩
    have all : ∀ c o, c ∉ [z, TI, TO, i1, i2] → s.heap.get? c = some o → h''.get? c = some o := fun c o hb q =>
      (sb.2 c (fun q' => hb (by simp [q']))).trans (hk c o (fun q' => hb (by simp [q'])) (fun q' => hb (by simp [q'])) (fun q' => hb (by simp [q'])) (fun q' => hb (by simp [q'])) q)
    have I1 : Inv X pins σ (upd H s.heap.objs.size (.tup [v1, v2])) { s with heap := h'', toks := tk } := I.turnedNew (ch := [z, TI, TO, i1, i2]) all hf (Nat.le_refl _) new
    refine ⟨.ref s.heap.objs.size, _, I1, rfl, ⟨_, v1, v2, rfl, I.hok.fresh (Nat.le_refl _), rfl, hv1, hv2⟩, ⟨hz', ?_, ⟨_, _, (sb.2 _ hOz).trans b2⟩, (back1 _ _ d1).keep fun o q => (sb.2 i1 (Ne.symm hz1)).trans q, (back2 _ _ d2).keep fun o q => (sb.2 i2 (Ne.symm hz2)).trans q⟩, fun c hb => ?_⟩
    · exact (sb.2 _ hTz).trans (hk _ _ hTz hTO hT1 hT2 hTI)
    · have hlt' : c < s.heap.objs.size := by
        have e' : c = z ∨ c = TI ∨ c = TO ∨ c = i1 ∨ c = i2 := by simpa using hb
        rcases e' with q | q | q | q | q
        · rw [q]; exact zl
        · rw [q]; exact Heap.lt_size hTI
        · rw [q]; exact Heap.lt_size hTO'
        · rw [q]; obtain ⟨_, e1, _⟩ := s1.live; exact Heap.lt_size e1
        · rw [q]; obtain ⟨_, e1, _⟩ := s2.live; exact Heap.lt_size e1
      rw [upd_ne (Nat.ne_of_lt hlt')]
      exact (hf c hb).1
  done := by
    intro X hP hw hK hc i pins s σ H E I hf st hg
    subst hP hw hK
    obtain ⟨hz, hTI, ⟨a1, a2, hTO'⟩, s1, s2⟩ := st
    obtain ⟨k1, k2, hlt⟩ := hg
    obtain ⟨fp1, P1, St1, D1, in1, out1, st1, back1, val1⟩ := src_draws I k1 ru s1 X.A.in1 (I.ok.hd hc)
    obtain ⟨fp2, P2, St2, D2, in2, out2, st2, back2, val2⟩ := src_draws I k2 ru' s2 X.A.in1 (I.ok.hd hc)
    have S : ZipSep2 z TI TO i1 i2 fp1 fp2 := ⟨hTz, hOz, hTO, hT1, in1, out1 z (hf z (by simp)) hz1, out1 TO (hf TO (by simp)) hO1, hT2, in2, out2 z (hf z (by simp)) hz2, out2 TO (hf TO (by simp)) hO2, out2 i1 (hf i1 (by simp)) h12, out1 i2 (hf i2 (by simp)) (Ne.symm h12)⟩
    exact wpAny_pyNext_zipD2_end S D1 D2 hz hTI hTO' st1 st2 (by omega) (by omega) (by omega) fun h' tk hk => ⟨rfl, I.turnedL (t' := tk) (ch := [z, TI, TO, i1, i2]) (fun c o hb q =>
      hk c o (fun q' => hb (by simp [q'])) (fun q' => hb (by simp [q'])) (fun q' => hb (by simp [q'])) (fun q' => hb (by simp [q'])) q) hf⟩
  self := fun A i s Q E st h => wpAny_pyIter_zip st.1 h
theorem walk_zp {K : PySem.W.Frag} {b b' : Bool} {x x' : V} {vs vs' : List V} : Walk (JZ K b x vs b' x' vs') (min vs.length vs'.length) (fun H => SKind K H b x vs ∧ SKind K H b' x' vs') (YPair (fun i => vs[i]?) (fun i => vs'[i]?)) := by
  refine ⟨fun i _ hi q => ⟨q.1, q.2, hi⟩, fun _ q => ⟨q.1, q.2, rfl⟩, fun i H v H' _ q y => ?_⟩
  obtain ⟨T, y, y', h1, h2, h3, h4, h5⟩ := y
  exact ⟨T, y, y', h1, h2, h3, h4, h5⟩
end MH

/-! enumerate and zip, the rules. -/
namespace MH
open PySem L2
open AutoSeq1 (wpAny_loadPart')
theorem meets_en1 {v : Value} {o : Obj} {H : Heap → Prop} (B : Begins v o H) :
    Meets (Builtin.«enumerate.__new__» ⟨[.type "enumerate", v], []⟩) (fun _ R s => H s.heap ∧
      R (.ok (.ret (.ref (s.heap.push o).objs.size))) { s with heap := (s.heap.push o).push { cls := .type "enumerate", data := .fields #[.none, .bool false, .ref s.heap.objs.size, rawInt 0, .none, .none] } }) :=
  .of_wp fun prog w A R s h => by
    obtain ⟨hp, g, d, tk, os⟩ := s; obtain ⟨h1, h⟩ := h
    have hsub := sub_enumerate
    have q1 : ∀ {A' : Around} {E : Value → Shared → Prop} {Q : Value → Shared → Prop}, Q (.ref hp.objs.size) ⟨hp.push o, g, d, tk, os⟩ → wpAny (model prog w) A' (pyIter v) Q E ⟨hp, g, d, tk, os⟩ :=
      fun q => B.iter prog w _ _ ⟨hp, g, d, tk, os⟩ _ h1 q
    wp_walk using q1
    refine wpAny_stack_any fun st => wpAny_pure ?_
    split
    · rename_i c _ _ _ _ _
      cases (c == Value.type "enumerate")
      · wp_walk using q1
        exact ⟨_, rfl, h⟩
      · wp_walk using q1
        exact ⟨_, rfl, h⟩
    · wp_walk using q1
      exact ⟨_, rfl, h⟩
theorem begins_en1 {prog : Program} {w : World} {A : Around} {E : Value → Shared → Prop} {s : Shared} {v : Value} {o : Obj} {H : Heap → Prop} {Q : Value → Shared → Prop} (B : Begins v o H) (h1 : H s.heap)
    (h : ∀ h', IsEnum h' (s.heap.objs.size + 1) s.heap.objs.size 0 .none → h'.get? s.heap.objs.size = some o → h'.objs.size = s.heap.objs.size + 2 →
      (∀ b o, s.heap.get? b = some o → h'.get? b = some o) → Q (.ref (s.heap.objs.size + 1)) { s with heap := h' }) :
    wpAny (model prog w) A (call (.type "enumerate") [v]) Q E s := by
  refine callType_new F.called_enumerate (by decide) (F.typeCall_enumerate_1 _) (F.newCall_enumerate_1 _) (fun obj => F.args_object_init_2 obj _) F.entry_enumerate_new
    (meets_en1 B) ⟨h1, ?_⟩
  have hz : (s.heap.push o).objs.size = s.heap.objs.size + 1 := Heap.size_push ..
  show _ ∧ _
  rw [hz]
  have he : IsEnum ((s.heap.push o).push { cls := .type "enumerate", data := .fields #[.none, .bool false, .ref s.heap.objs.size, rawInt 0, .none, .none] }) (s.heap.objs.size + 1) s.heap.objs.size 0 .none := by
    have := Heap.get?_push_size (s.heap.push o) (o := { cls := .type "enumerate", data := .fields #[.none, .bool false, .ref s.heap.objs.size, rawInt 0, .none, .none] }) rfl
    rw [hz] at this; exact this
  refine ⟨⟨_, he, rfl⟩, h _ he (Heap.get?_push_of_some _ (Heap.get?_push_size _ B.free)) (by rw [Heap.size_push, hz]) fun b o x => Heap.get?_push_of_some _ (Heap.get?_push_of_some _ x)⟩
theorem src_begins {X : Cx} {pins : List (Addr × Obj)} {σ : L2.St} {H : Hp} {s : Shared} {b : Bool} {x : V} {vs : List V} {u : Value} (I : Inv X pins σ H s) (q : SKind X.K H b x vs) (r : RelV x u) :
    ∃ (o : Obj) (Hb : Heap → Prop), Begins u o Hb ∧ Hb s.heap ∧ ∀ h' it, h'.get? it = some o → SIt h' it 0 b u := by
  cases q with
  | @lst a vs q =>
    cases r
    obtain ⟨its, rv, p, _⟩ := I.list q
    exact ⟨_, _, begins_list a its.toArray, p.isList, fun h' it e => .lst ⟨_, e, rfl, rfl⟩⟩
  | @tup a vs q =>
    cases r
    obtain ⟨its, rv, p, _⟩ := I.tuple q
    exact ⟨_, _, begins_tuple a its.toArray, p, fun h' it e => .tup ⟨_, e, rfl, rfl⟩⟩
  | str b x =>
    obtain ⟨t, rfl⟩ := r
    exact ⟨_, _, begins_text x t, True.intro, fun h' it e => .str b ⟨_, e, rfl, rfl⟩⟩
def iEn (K : PySem.W.Frag) (k : Int) (ta : TA) : TI := fun σ H R => ta σ H fun vs H1 => ∃ x b ys, vs = [x] ∧ SKind K H1 b x ys ∧ R (JE K k b x ys) H1
def iZp (K : PySem.W.Frag) (ta : TA) : TI := fun σ H R => ta σ H fun vs H1 => ∃ x b ys x' b' ys', vs = [x, x'] ∧ SKind K H1 b x ys ∧ SKind K H1 b' x' ys' ∧ R (JZ K b x ys b' x' ys') H1
section
variable {X : Cx} {kc : CT} {Wx : WX} {e e2 : Expr} {ta : TA} {p pos tpos : Pos} {elts : List Expr} {kk : Nat}
theorem pi_en (hg : Gl X "enumerate") (hm : X.mg "enumerate" = none) (ha : PA X [e] ta) (hs : starEach [e] X.env = [(false, eval e X.env)] := by rfl) :
    PI X (.Tuple elts kk tpos) (.Call (.Name "enumerate" p) [e] [] pos) (iEn X.K 0 ta) := by
  refine ⟨fun pins s σ H R I h => ?_⟩
  refine PyProof.Rows.Call_ (ld_blt I hg hm PyProof.Rows.boot_enumerate (PyProof.Rows.callWith_type1 (thn (ha.run pos pins s σ H _ I h) fun us s1 ⟨vs, H1, I1, r1, q1⟩ => ?_) hs rfl))
  obtain ⟨x, b, ys, ex, hq, q⟩ := q1
  subst ex
  cases r1 with
  | @cons _ u _ _ r rr =>
    cases rr
    obtain ⟨o, Hb, B, hb, hit⟩ := src_begins I1 hq r
    refine begins_en1 B hb fun h' he ho hsz hk => wpAny_pyIter_enum he ?_
    have I2 : Inv X pins σ H1 { s1 with heap := h' } := I1.kept (t' := s1.toks) hk
    refine ⟨s1.heap.objs.size + 1, [s1.heap.objs.size + 1, s1.heap.objs.size], _, _, H1, rfl, I2, turn_en (e := s1.heap.objs.size + 1) (it := s1.heap.objs.size) r, ⟨⟨.none, he⟩, hit _ _ ho, Nat.succ_ne_self _⟩, fun c hc => ?_, q⟩
    have e' : c = s1.heap.objs.size + 1 ∨ c = s1.heap.objs.size := by simpa using hc
    have hle : s1.heap.objs.size ≤ c := by
      rcases e' with z | z
      · rw [z]; exact Nat.le_add_right _ _
      · rw [z]; exact Nat.le_refl _
    exact I1.fpOk hle (I1.hok.fresh hle)
theorem pi_zp (hg : Gl X "zip") (hm : X.mg "zip" = none) (ha : PA X [e, e2] ta) (hs : starEach [e, e2] X.env = (false, eval e X.env) :: starEach [e2] X.env := by rfl) (hpl : (backTo pos (starEach [e2] X.env)).any (·.1) = false := by rfl) :
    PI X (.Tuple elts kk tpos) (.Call (.Name "zip" p) [e, e2] [] pos) (iZp X.K ta) := by
  refine ⟨fun pins s σ H R I h => ?_⟩
  refine PyProof.Rows.Call_ (ld_blt I hg hm PyProof.Rows.boot_zip (PyProof.Rows.callWith_type1 (thn (ha.run pos pins s σ H _ I h) fun us s1 ⟨vs, H1, I1, r1, q1⟩ => ?_) hs hpl))
  obtain ⟨x, b, ys, x', b', ys', ex, hq, hq', q⟩ := q1
  subst ex
  cases r1 with
  | @cons _ u _ _ r rr =>
    cases rr with
    | @cons _ u' _ _ r' rr =>
      cases rr
      obtain ⟨o, Hb, B, hb, hit⟩ := src_begins I1 hq r
      obtain ⟨o', Hb', B', hb', hit'⟩ := src_begins I1 hq' r'
      refine zip_begins2 B B' hb hb' fun h' hz hT hO h1 h2 hsz hk => wpAny_pyIter_zip hz ?_
      have I2 : Inv X pins σ H1 { s1 with heap := h' } := I1.kept (t' := s1.toks) hk
      refine ⟨s1.heap.objs.size + 4, [s1.heap.objs.size + 4, s1.heap.objs.size + 2, s1.heap.objs.size + 3, s1.heap.objs.size, s1.heap.objs.size + 1], _, _, H1, rfl, I2,
        turn_zp (z := s1.heap.objs.size + 4) (TI := s1.heap.objs.size + 2) (TO := s1.heap.objs.size + 3) (i1 := s1.heap.objs.size) (i2 := s1.heap.objs.size + 1) r r' (by simp) (by simp) (by simp) (by simp) (by simp) (by simp) (by simp) (by simp) (by simp) (by simp), ⟨hz, hT, ⟨_, _, hO⟩, hit _ _ h1, hit' _ _ h2⟩, fun c hc => ?_, q⟩
      have e' : c = s1.heap.objs.size + 4 ∨ c = s1.heap.objs.size + 2 ∨ c = s1.heap.objs.size + 3 ∨ c = s1.heap.objs.size ∨ c = s1.heap.objs.size + 1 := by simpa using hc
      have hle : s1.heap.objs.size ≤ c := by
        rcases e' with z | z | z | z | z
        · rw [z]; exact Nat.le_add_right _ _
        · rw [z]; exact Nat.le_add_right _ _
        · rw [z]; exact Nat.le_add_right _ _
        · rw [z]; exact Nat.le_refl _
        · rw [z]; exact Nat.le_add_right _ _
      exact I1.fpOk hle (I1.hok.fresh hle)
/-! ### by values -/
theorem kind_of {K : PySem.W.Frag} {io : List Addr} {G : Hp} {w : W} {v : V} {ws : List W} (r : Rp K kc io G w v) (h : itemsW w = some ws) : ∃ b vs, SKind K G b v vs ∧ RpL K kc io G ws vs := by
  cases r with
  | lst q rr => cases h; exact ⟨_, _, .lst (.inl (.inl q)), rr⟩
  | tup q rr => cases h; exact ⟨_, _, .tup (.inl (.inl q)), rr⟩
  | scr q rr => cases h; exact ⟨_, _, .lst q, rr⟩
  | stp q rr => cases h; exact ⟨_, _, .tup q, rr⟩
  | str x =>
    cases h
    refine ⟨true, _, .str true x, ?_⟩
    unfold chars strVs
    generalize x.cps.toList = l
    induction l with
    | nil => exact .nil
    | cons c l ih => exact .cons (.str _) ih
  | _ => cases h
theorem gives_en {K : PySem.W.Frag} {io : List Addr} {G : Hp} {k : Int} {b : Bool} {x : V} {vs : List V} {ws : List W} (h : SKind K G b x vs) (r : RpL K kc io G ws vs) : Gives K kc io G (enumW k ws) (JE K k b x vs) := by
  have hl : (enumW k ws).length = vs.length := by simp [enumW, r.length]
  refine ⟨_, _, hl ▸ walk_en, fun H l => h.le l, fun i H v H' hi l ⟨T, x, y, ev, hT, eH, ex, ey⟩ => .inr (.inl ?_)⟩
  obtain ⟨w, ew, rw'⟩ := r.getV ey
  cases ex
  refine ⟨T, _, [.int (k + (i : Nat)), w], ev, hT, eH, ?_, .cons (.int _) (.cons rw' .nil)⟩
  unfold enumW
  rw [List.getElem?_mapIdx, ew]
  rfl
theorem gives_zp {K : PySem.W.Frag} {io : List Addr} {G : Hp} {b b' : Bool} {x x' : V} {vs vs' : List V} {ws us : List W} (h : SKind K G b x vs) (r : RpL K kc io G ws vs) (h' : SKind K G b' x' vs') (r' : RpL K kc io G us vs') : Gives K kc io G (zipW ws us) (JZ K b x vs b' x' vs') := by
  have hl : (zipW ws us).length = min vs.length vs'.length := by simp [zipW, r.length, r'.length]
  exact ⟨_, _, hl ▸ walk_zp, fun H l => ⟨h.le l, h'.le l⟩, fun i H v H' hi l y => (zip_pair rfl (fun i v e => r.getV e) (fun i v e => r'.getV e) i H v H' hi l y).imp id .inl⟩
def I.enum (k : Int) (m : Av) : Iv := fun en st => (m en st).bind fun ws s => match ws with
  | [w] => lift ((itemsW w).map (enumW k)) s
  | _ => .no
def I.zip (m : Av) : Iv := fun en st => (m en st).bind fun ws s => match ws with
  | [w, w'] => lift ((itemsW w).bind fun a => (itemsW w').map (zipW a)) s
  | _ => .no
theorem ix_enum {m : Av} (hm : X.mg "enumerate" = none) (ha : AX X kc Wx [e] m) (hg : Gl X "enumerate" := by rfl) (hs : starEach [e] X.env = [(false, eval e X.env)] := by rfl) :
    IX X kc Wx (.Tuple elts kk tpos) (.Call (.Name "enumerate" p) [e] [] pos) (I.enum 0 m) := by
  obtain ⟨t, h1, h2⟩ := ha
  refine ⟨_, pi_en hg hm h1 hs, fun Fz en st G io σ H S => ?_⟩
  refine (h2 Fz en st G io σ H S).bind (u := fun vs H1 R => ∃ x b ys, vs = [x] ∧ SKind X.K H1 b x ys ∧ R (JE X.K 0 b x ys) H1) fun ws s1 vs G1 io1 H1 e1 l1 p1 S1 r1 => ?_
  cases r1 with
  | nil => exact At.no
  | @cons w v ws vs hw r1 =>
    cases r1 with
    | cons _ _ => exact At.no
    | nil =>
      dsimp only
      cases q : itemsW w with
      | none => exact At.no
      | some us =>
        obtain ⟨b, ys, k1, r⟩ := kind_of hw q
        exact (At.pure (a := enumW 0 us) (b := JE X.K 0 b v ys) S1 (gives_en k1 r)).mono fun R q => ⟨v, b, ys, rfl, k1.le S1.gs.le, q⟩
theorem ix_zip {m : Av} (hm : X.mg "zip" = none) (ha : AX X kc Wx [e, e2] m) (hg : Gl X "zip" := by rfl) (hs : starEach [e, e2] X.env = (false, eval e X.env) :: starEach [e2] X.env := by rfl) (hpl : (backTo pos (starEach [e2] X.env)).any (·.1) = false := by rfl) :
    IX X kc Wx (.Tuple elts kk tpos) (.Call (.Name "zip" p) [e, e2] [] pos) (I.zip m) := by
  obtain ⟨t, h1, h2⟩ := ha
  refine ⟨_, pi_zp hg hm h1 hs hpl, fun Fz en st G io σ H S => ?_⟩
  refine (h2 Fz en st G io σ H S).bind (u := fun vs H1 R => ∃ x b ys x' b' ys', vs = [x, x'] ∧ SKind X.K H1 b x ys ∧ SKind X.K H1 b' x' ys' ∧ R (JZ X.K b x ys b' x' ys') H1) fun ws s1 vs G1 io1 H1 e1 l1 p1 S1 r1 => ?_
  cases r1 with
  | nil => exact At.no
  | @cons w v ws vs hw r1 =>
    cases r1 with
    | nil => exact At.no
    | @cons w' v' ws vs hw' r1 =>
      cases r1 with
      | cons _ _ => exact At.no
      | nil =>
        dsimp only
        cases q : itemsW w with
        | none => exact At.no
        | some us =>
          cases q' : itemsW w' with
          | none => exact At.no
          | some us' =>
            obtain ⟨b, ys, k1, r⟩ := kind_of hw q
            obtain ⟨b', ys', k1', r'⟩ := kind_of hw' q'
            exact (At.pure (a := zipW us us') (b := JZ X.K b v ys b' v' ys') S1 (gives_zp k1 r k1' r')).mono fun R q => ⟨v, b, ys, v', b', ys', rfl, k1.le S1.gs.le, k1'.le S1.gs.le, q⟩
end
end MH

/-! Attributes set; keywords; methods; instances made. -/
namespace MH
open PySem L2
def putFW (f : Str) (v : W) : List (Str × W) → List (Str × W)
  | [] => [(f, v)]
  | (g, x) :: r => if g = f then (g, v) :: r else (g, x) :: putFW f v r
section
variable {K : PySem.W.Frag} {kc : CT} {io : List Addr} {G : Hp}
theorem RpF.put {f : Str} {w : W} {v : V} (r : Rp K kc io G w v) : ∀ {fs : List (Str × W)} {fv : List (Str × V)}, RpF K kc io G fs fv → RpF K kc io G (putFW f w fs) (putF f v fv)
  | _, _, .nil => .cons r .nil
  | _, _, .cons (x := x) hr h => by
    unfold putFW putF
    split
    · exact .cons r h
    · exact .cons hr (RpF.put r h)
theorem RpF.length : ∀ {fs : List (Str × W)} {fv : List (Str × V)}, RpF K kc io G fs fv → fs.length = fv.length
  | _, _, .nil => rfl
  | _, _, .cons _ h => by simp [RpF.length h]
end
def Z.sattr (pl : List String) (f : Str) (p : Pv) (m : Ev) : Sv := fun en st => (m en st).toS en fun w s1 => (p en s1).toS en fun h s2 => match view en s2 h with
  | .ins c fs => if c ∈ pl ∧ fs.length < 1000 then wrS (wrH h (.ins c (putFW f w fs)) en s2) else .no
  | _ => .no
section
variable {X : Cx} {kc : CT} {Wx : WX} {o e value : Expr} {es : List Expr} {pos pos' : Pos}
theorem sx_sattr {pl : List String} {f : Str} {p : Pv} {m : Ev} (ho : PX X kc Wx o p) (hv : EX X kc Wx value m) (hc : PlainC X kc pl f) (hs : swapsWith value (some (.Attribute o f pos')) pos.line X.env = pure false := by rfl) :
    SX X kc Wx (.Assign [.Attribute o f pos'] value pos) (Z.sattr pl f p m) := by
  obtain ⟨to, o1, o2⟩ := ho
  obtain ⟨tv, v1, v2⟩ := hv
  refine ⟨_, ps_fld o1 v1 hs, fun Fz en st G io σ H S => ?_⟩
  refine (v2 Fz en st G io σ H S).toS (u := fun D y H1 => to σ H1 fun x H2 => ∃ a C dx fs, x = .ref a ∧ H2 a = some (.ins C dx fs) ∧ Cls X.K C ∧ NoAttr X.K C f ∧ fs.length < 1000 ∧ D.nx σ (upd H2 a (.ins C dx (putF f y fs)))) fun w s1 v G1 io1 H1 e1 l1 p1 S1 r1 => ?_
  refine (o2 Fz en s1 G1 io1 σ H1 S1).toS (u := fun D x H2 => ∃ a C dx fs, x = .ref a ∧ H2 a = some (.ins C dx fs) ∧ Cls X.K C ∧ NoAttr X.K C f ∧ fs.length < 1000 ∧ D.nx σ (upd H2 a (.ins C dx (putF f v fs)))) fun h s2 x G2 io2 H2 e2 l2 p2 S2 r2 => ?_
  cases q : view en s2 h <;> try exact SAt.no
  rename_i c fs
  dsimp only
  split
  · rename_i hcl
    cases q2 : wrH h (.ins c (putFW f w fs)) en s2 with
    | none => exact SAt.no
    | some s3 =>
      obtain ⟨a, ob, rfl, ha, nd, back⟩ := wr_of S2 r2 q2
      rw [q] at nd
      cases nd with
      | @ins _ _ C dx fv kC rf =>
        obtain ⟨c1, c2⟩ := hc c hcl.1 C kC
        refine (SAt.wr (back _ (.ins kC (rf.put (f := f) (r1.mono l2 p2))))).mono' fun D q => ⟨a, C, dx, fv, rfl, ha, c1, c2, ?_, q⟩
        rw [← rf.length]; exact hcl.2
  · exact SAt.no
/-! ### keywords -/
def kwOrd {α : Type} (ps ks : List Str) (us ws : List α) : List α := us ++ (ps.drop us.length).filterMap fun p => (ks.zip ws).lookup p
theorem zip_lookup {K : PySem.W.Frag} {io : List Addr} {G : Hp} {p : Str} : ∀ {ks : List Str} {zs : List W} {vs : List V}, RpL K kc io G zs vs → (∀ w, (ks.zip zs).lookup p = some w → ∃ v, (ks.zip vs).lookup p = some v ∧ Rp K kc io G w v) ∧ ((ks.zip zs).lookup p = none → (ks.zip vs).lookup p = none)
  | [], _, _, _ => ⟨fun _ e => (nomatch e), fun _ => rfl⟩
  | k :: ks, _, _, .nil => ⟨fun _ e => (nomatch e), fun _ => rfl⟩
  | k :: ks, _, _, .cons (w := w) (v := v) h r => by
    by_cases e : p = k
    · subst e
      simp only [List.zip_cons_cons, List.lookup, beq_self_eq_true]
      exact ⟨fun u hu => ⟨v, rfl, by cases hu; exact h⟩, fun hu => (nomatch hu)⟩
    · have q : (p == k) = false := by simpa using e
      simp only [List.zip_cons_cons, List.lookup, q]
      exact zip_lookup r
theorem rpL_kw {K : PySem.W.Frag} {io : List Addr} {G : Hp} {ps ks : List Str} {ws zs : List W} {vs us : List V} (r : RpL K kc io G ws vs) (r2 : RpL K kc io G zs us) : RpL K kc io G (kwOrd ps ks ws zs) (kwOrd ps ks vs us) := by
  unfold kwOrd
  refine r.append ?_
  rw [r.length]
  generalize ps.drop vs.length = qs
  induction qs with
  | nil => exact .nil
  | cons p qs ih =>
    obtain ⟨h1, h2⟩ := zip_lookup (p := p) (ks := ks) r2
    cases e : (ks.zip zs).lookup p with
    | none =>
      rw [List.filterMap_cons, List.filterMap_cons, e, h2 e]
      exact ih
    | some w =>
      obtain ⟨v, e1, rv⟩ := h1 w e
      rw [List.filterMap_cons, List.filterMap_cons, e, e1]
      exact .cons rv ih
theorem vals_kw {ps ks : List Str} {vs zs : List V} {us ws : List Value} (r : Vals vs us) (r2 : Vals zs ws) : Vals (kwOrd ps ks vs zs) (kwOrd ps ks us ws) := by
  unfold kwOrd
  refine r.append ?_
  rw [r.length]
  generalize ps.drop us.length = qs
  have key : ∀ {ks : List Str} {zs : List V} {ws : List Value} {p : Str}, Vals zs ws → RelO ((ks.zip zs).lookup p) ((ks.zip ws).lookup p) := by
    intro ks
    induction ks with
    | nil => intro zs ws p _; exact True.intro
    | cons k ks ih =>
      intro zs ws p r
      cases r with
      | nil => exact True.intro
      | @cons a b _ _ h r =>
        by_cases e : p = k
        · subst e
          simp only [List.zip_cons_cons, List.lookup, beq_self_eq_true]
          exact h
        · have q : (p == k) = false := by simpa using e
          simp only [List.zip_cons_cons, List.lookup, q]
          exact ih r
  induction qs with
  | nil => exact .nil
  | cons p qs ih =>
    have h := key (p := p) (ks := ks) r2
    rw [List.filterMap_cons, List.filterMap_cons]
    revert h
    cases (ks.zip zs).lookup p with
    | none => cases (ks.zip ws).lookup p with
      | none => exact fun _ => ih
      | some u => exact fun z => z.elim
    | some v => cases (ks.zip ws).lookup p with
      | none => exact fun z => z.elim
      | some u => exact fun z => .cons z ih
def KX (X : Cx) (kc : CT) (Wx : WX) (kws : List Keyword) (m : Av) : Prop := ∃ t, PK X kws t ∧ Oks X.K kc Wx (relA X.K kc) m t
theorem kx_nil : KX X kc Wx [] A.nil := ⟨_, pk_nil, fun Fz en st G io σ H S => At.pure S (rel := relA X.K kc) .nil⟩
theorem kx_cons {m : Ev} {k : Av} {nm : Option Str} {kpos : Pos} {kws : List Keyword} (h : EX X kc Wx e m) (h' : KX X kc Wx kws k) : KX X kc Wx (⟨nm, e, kpos⟩ :: kws) (A.cons m k) := by
  obtain ⟨t, h1, h2⟩ := h
  obtain ⟨t', h1', h2'⟩ := h'
  refine ⟨_, pk_cons h1 h1', fun Fz en st G io σ H S => ?_⟩
  refine (h2 Fz en st G io σ H S).bind fun w s1 x G1 io1 H1 e1 l1 p1 S1 r1 => ?_
  refine (h2' Fz en s1 G1 io1 σ H1 S1).bind fun ws s2 xs G2 io2 H2 e2 l2 p2 S2 r2 => ?_
  exact At.pure S2 (rel := relA X.K kc) (.cons (r1.mono l2 p2) r2)
/-- how keywords are bound -/
def KwB (fd : FuncData) (ps ks : List Str) (n : Nat) : Prop := ∀ (s : Shared) (us ws : List Value), us.length = n → ws.length = ks.length → BindsTo s fd ⟨us, ks.zip ws⟩ (ps.zip (kwOrd ps ks us ws))
def tCallKS (sp : Sp) (ps ks : List Str) (E : L2.St → XK) (tk : TA) : TE := fun σ H Q => tk σ H fun zs H2 => zs.length = ks.length ∧ sp (kwOrd ps ks [] zs) H2 Q (E σ)
theorem pe_callKS {CX : CXT} {k : Nat} {f : Addr} {fd : FuncData} {ps ks : List Str} {sp : Sp} {E : L2.St → XK} {x : Str} {p : Pos} {kws : List Keyword} {tk : TA} (F : FnG X.prog X.w X.K X.mg X.base CX k f fd ps sp) (hr : Room k X.A) (gd : X.A.guards = some []) (hg : Gl X x) (hm : X.mg x = some (.ref f)) (hk : PySem.W.keepIn X.K (.ref f) = true) (hb : KwB fd ps ks 0) (hx : ∀ σ, PassesAt CX X σ (E σ)) (hkw : PK X kws tk)
    (hall : (backToKw pos (keywordEach kws X.env)).all (·.1.isSome) = true := by rfl) (hks : (backToKw pos (keywordEach kws X.env)).filterMap (·.1) = ks := by rfl) (hdb : (x == ("__debug__" : Str)) = false := by decide)
    (hpl : ((backTo pos (starEach [] X.env)).any (·.1) || (backToKw pos (keywordEach kws X.env)).any (·.1.isNone)) = false := by rfl) :
    PE X (.Call (.Name x p) [] kws pos) (tCallKS sp ps ks E tk) := by
  refine ⟨fun pins s σ H Q I h => ?_⟩
  refine wpAny_Call_Name_kw (ld_glob I hg hm ?_ hdb)
  refine PySem.W.callWith_KW0 (h₀ := X.base) I.ok.mod.kin hk hall ?_ hpl
  refine thn (hkw.run pos pins s σ H _ I h) fun ws s2 ⟨zs, H2, I2, rz, l2, q2⟩ => ⟨I2.kIn, ?_⟩
  rw [hks]
  exact run_any (args := ⟨[], ks.zip ws⟩) F hr gd (hb s2 [] ws rfl (by rw [← rz.length, l2])) (hx σ) I2 (vals_kw .nil rz) q2
/-- f(k = v, ..) -/
def E.fnK (n : Nat) (ps ks : List Str) (f : Fv) (m : Av) : Ev := fun en st => (m en st).bind fun zs s => if zs.length = ks.length ∧ (kwOrd ps ks [] zs).length = n then f (kwOrd ps ks [] zs) s else .no
theorem ex_fnK {k n : Nat} {g : Addr} {fd : FuncData} {ps ks : List Str} {f : Fv} {x : Str} {p : Pos} {kws : List Keyword} {m : Av} (F : FnG X.prog X.w X.K X.mg X.base (L2.CX X.prog X.w) k g fd ps (spF X.K kc n f)) (hr : Room k X.A) (gd : X.A.guards = some []) (hm : X.mg x = some (.ref g)) (hk : PySem.W.keepIn X.K (.ref g) = true) (hb : KwB fd ps ks 0) (tk : Takes X Wx)
    (ha : KX X kc Wx kws m) (hg : Gl X x := by rfl) (hall : (backToKw pos (keywordEach kws X.env)).all (·.1.isSome) = true := by rfl) (hks : (backToKw pos (keywordEach kws X.env)).filterMap (·.1) = ks := by rfl) (hdb : (x == ("__debug__" : Str)) = false := by decide)
    (hpl : ((backTo pos (starEach [] X.env)).any (·.1) || (backToKw pos (keywordEach kws X.env)).any (·.1.isNone)) = false := by rfl) :
    EX X kc Wx (.Call (.Name x p) [] kws pos) (E.fnK n ps ks f m) := by
  obtain ⟨t, h1, h2⟩ := ha
  refine ⟨_, pe_callKS F hr gd hg hm hk hb (fun σ => passAt tk σ) h1 hall hks hdb hpl, fun Fz en st G io σ H S => ?_⟩
  refine (h2 Fz en st G io σ H S).bind (u := fun zs H2 Q => zs.length = ks.length ∧ spF X.K kc n f (kwOrd ps ks [] zs) H2 Q (WE Wx σ)) fun zs s1 vs G1 io1 H1 e1 l1 p1 S1 r1 => ?_
  split
  · rename_i hl
    exact (at_fn S1 (rpL_kw (ps := ps) (ks := ks) .nil r1) hl.2).mono fun Q q => ⟨by rw [← r1.length]; exact hl.1, q⟩
  · exact At.no
end
end MH

/-! Instances made in a store of their own. -/
namespace MH
open PySem L2
/-- reads alike whatever the store -/
def LF (w : W) : Prop := ∀ (K : PySem.W.Frag) (kc : CT) (io io' : List Addr) (G : Hp) (v : V), Rp K kc io G w v → Rp K kc io' G w v
def LFs (ws : List W) : Prop := ∀ w ∈ ws, LF w
/-- an object whose parts read alike whatever the store -/
def LFo (w : W) : Prop := ∀ (K : PySem.W.Frag) (kc : CT) (io io' : List Addr) (G : Hp) (o : HO), Nd K kc io G w o → Nd K kc io' G w o
theorem lf_non : LF .non := fun _ _ _ _ _ _ r => by cases r; exact .non
theorem lf_bl (b : Bool) : LF (.bl b) := fun _ _ _ _ _ _ r => by cases r; exact .bl b
theorem lf_int (i : Int) : LF (.int i) := fun _ _ _ _ _ _ r => by cases r; exact .int i
theorem lf_str (s : Str) : LF (.str s) := fun _ _ _ _ _ _ r => by cases r; exact .str s
theorem lf_cls (c : String) : LF (.cls c) := fun _ _ _ _ _ _ r => by cases r with | cls h => exact .cls h
theorem lf_ty (c : String) : LF (.ty c) := fun _ _ _ _ _ _ r => by cases r; exact .ty c
theorem lfs_rp {K : PySem.W.Frag} {kc : CT} {io io' : List Addr} {G : Hp} : ∀ {ws : List W} {vs : List V}, LFs ws → RpL K kc io G ws vs → RpL K kc io' G ws vs
  | [], _, _, .nil => .nil
  | w :: ws, _, h, .cons r rr => .cons (h w (List.mem_cons_self ..) _ _ _ _ _ _ r) (lfs_rp (fun u hu => h u (List.mem_cons_of_mem _ hu)) rr)
theorem lf_tup {ws : List W} (h : LFs ws) : LF (.tup ws) := fun _ _ _ _ _ _ r => by cases r with | tup e rr => exact .tup e (lfs_rp h rr)
theorem lf_stp {ws : List W} (h : LFs ws) : LF (.stp ws) := fun _ _ _ _ _ _ r => by cases r with | stp e rr => exact .stp e (lfs_rp h rr)
theorem lf_lst {ws : List W} (h : LFs ws) : LF (.lst ws) := fun _ _ _ _ _ _ r => by cases r with | lst e rr => exact .lst e (lfs_rp h rr)
theorem lfD {K : PySem.W.Frag} {kc : CT} {io io' : List Addr} {G : Hp} : ∀ {ws : List (W × W)} {vs : List (Key × V)}, (∀ p ∈ ws, LF p.2) → RpD K kc io G ws vs → RpD K kc io' G ws vs
  | [], _, _, .nil => .nil
  | _ :: ws, _, h, .cons r rr => .cons (h _ (List.mem_cons_self ..) _ _ _ _ _ _ r) (lfD (fun u hu => h u (List.mem_cons_of_mem _ hu)) rr)
theorem lfT {K : PySem.W.Frag} {kc : CT} {io io' : List Addr} {G : Hp} : ∀ {ws : List (W × W)} {vs : List (List Key × V)}, (∀ p ∈ ws, LF p.2) → RpT K kc io G ws vs → RpT K kc io' G ws vs
  | [], _, _, .nil => .nil
  | _ :: ws, _, h, .cons r rr => .cons (h _ (List.mem_cons_self ..) _ _ _ _ _ _ r) (lfT (fun u hu => h u (List.mem_cons_of_mem _ hu)) rr)
theorem lfF {K : PySem.W.Frag} {kc : CT} {io io' : List Addr} {G : Hp} : ∀ {ws : List (Str × W)} {vs : List (Str × V)}, (∀ p ∈ ws, LF p.2) → RpF K kc io G ws vs → RpF K kc io' G ws vs
  | [], _, _, .nil => .nil
  | _ :: ws, _, h, .cons r rr => .cons (h _ (List.mem_cons_self ..) _ _ _ _ _ _ r) (lfF (fun u hu => h u (List.mem_cons_of_mem _ hu)) rr)
theorem lf_dct {k : Bool} {ws : List (W × W)} (h : ∀ p ∈ ws, LF p.2) : LF (.dct k ws) := fun _ _ _ _ _ _ r => by
  cases r with
  | dk e rr => exact .dk e (lfD h rr)
  | dt e rr => exact .dt e (lfT h rr)
theorem lf_ins {c : String} {fs : List (Str × W)} (h : ∀ p ∈ fs, LF p.2) : LF (.ins c fs) := fun _ _ _ _ _ _ r => by cases r with | ins k e rr => exact .ins k e (lfF h rr)
theorem lfo_dct {k : Bool} {ws : List (W × W)} (h : ∀ p ∈ ws, LF p.2) : LFo (.dct k ws) := fun _ _ _ _ _ _ r => by
  cases r with
  | dk rr => exact .dk (lfD h rr)
  | dt rr => exact .dt (lfT h rr)
theorem lfo_lst {ws : List W} (h : LFs ws) : LFo (.lst ws) := fun _ _ _ _ _ _ r => by cases r with | lst rr => exact .lst (lfs_rp h rr)
/-- what a field becomes when the store is given up -/
def rsv (st : Sto) : W → W
  | .loc m => st.getD m .non
  | w => w
def FOk (st : Sto) (w : W) : Prop := (∃ m u, w = .loc m ∧ st[m]? = some u ∧ LFo u) ∨ LF w
def rsvF (st : Sto) (fs : List (Str × W)) : List (Str × W) := fs.map fun p => (p.1, rsv st p.2)
section
variable {K : PySem.W.Frag} {kc : CT} {Fz : Hp} {en : En} {st : Sto} {G : Hp} {io : List Addr} {σ : L2.St} {H : Hp}
theorem Sim.iso (S : Sim K kc Fz en st G io σ H) : ∃ Fz', Sim K kc Fz' [] [] G [] [] H ∧ ∀ G' H', Le G G' → Sim K kc Fz' [] [] G' [] [] H' → Sim K kc Fz en st G' io σ H' := by
  classical
  let P : Addr → Prop := fun a => (∃ (i : Nat) (w : W), en[i]? = some (some (true, w)) ∧ σ[i]? = some (some (V.ref a))) ∨ a ∈ io
  have key : ∀ a, P a → G a = none ∧ Fz a = none ∧ ∃ o, H a = some o := by
    rintro a (⟨i, w, e1, e2⟩ | hm)
    · obtain ⟨b, o, q1, q2, q3, q4, q5, _⟩ := S.ow i w e1
      rw [e2] at q1; cases q1
      exact ⟨q2, q3, o, q5⟩
    · exact S.io_h hm
  refine ⟨fun a => if P a then H a else Fz a, ?_, ?_⟩
  · refine { gs := S.gs, fs := fun a o e => ?_, fg := fun a o e => ?_, ft := fun a o e => (by
        try dsimp only at e
        split at e
        · rename_i h
          rcases h with ⟨i, w, e1, e2⟩ | hm
          · obtain ⟨b, o', q1, _, _, _, q5, nd⟩ := S.ow i w e1; rw [e2] at q1; cases q1; rw [q5] at e; cases e; exact nd.nt
          · obtain ⟨n, w, e1, e2⟩ := S.io_some hm
            obtain ⟨_, _, o', q5, nd⟩ := S.ce n w a e2 e1
            rw [q5] at e; cases e; exact nd.nt
        · exact S.ft a o e), il := rfl, ind := List.nodup_nil, ce := fun n w a e1 e2 => by simp at e1, sl := fun i w e => by simp at e, ow := fun i w e => by simp at e, inj := fun i j a w w' e => by simp at e, el := rfl }
    · try dsimp only at e
      split at e
      · exact e
      · exact S.fs a o e
    · try dsimp only at e
      split at e
      · rename_i h; exact (key a h).1
      · exact S.fg a o e
  · intro G' H' g T
    have own : ∀ {a : Addr} {o : HO}, P a → H a = some o → H' a = some o ∧ G' a = none := fun {a o} p e => by
      have hf : (if P a then H a else Fz a) = some o := by rw [if_pos p]; exact e
      exact ⟨T.fs a o hf, T.fg a o hf⟩
    refine { gs := T.gs, fs := fun a o e => ?_, fg := fun a o e => ?_, ft := S.ft, il := S.il, ind := S.ind, ce := fun n w a e1 e2 => ?_, sl := fun i w e => ?_, ow := fun i w e => ?_, inj := S.inj, el := S.el }
    · refine T.fs a o ?_
      rw [if_neg fun h => by rw [(key a h).2.1] at e; cases e]
      exact e
    · refine T.fg a o ?_
      rw [if_neg fun h => by rw [(key a h).2.1] at e; cases e]
      exact e
    · obtain ⟨h1, h2, o, h3, h4⟩ := S.ce n w a e1 e2
      obtain ⟨q1, q2⟩ := own (.inr (List.mem_of_getElem? e2)) h3
      exact ⟨q2, h2, o, q1, h4.mono g (pre_refl _)⟩
    · obtain ⟨v, e1, r⟩ := S.sl i w e
      exact ⟨v, e1, r.mono g (pre_refl _)⟩
    · obtain ⟨a, o, e1, e2, e3, e4, e5, e6⟩ := S.ow i w e
      obtain ⟨q1, q2⟩ := own (.inl ⟨i, w, e, e1⟩) e5
      exact ⟨a, o, e1, q2, e3, e4, q1, e6.mono g (pre_refl _)⟩
/-- all cells of the store are frozen -/
theorem Sim.giveUp (S : Sim K kc Fz [] st G io [] H) : ∃ G', Le G G' ∧ Sim K kc Fz [] [] G' [] [] H ∧ ∀ (n : Nat) (w : W) (a : Addr), st[n]? = some w → io[n]? = some a → ∃ o, G' a = some o ∧ Nd K kc io G w o := by
  classical
  refine ⟨fun a => if a ∈ io then H a else G a, fun a o e => .inl ?_, ?_, fun n w a e1 e2 => ?_⟩
  · try dsimp only
    rw [if_neg fun h => by rw [(S.io_h h).1] at e; cases e]
    exact e
  · refine { gs := fun a o e => ?_, fs := S.fs, fg := fun a o e => ?_, ft := S.ft, il := rfl, ind := List.nodup_nil, ce := fun n w a e1 e2 => by simp at e1, sl := fun i w e => by simp at e, ow := fun i w e => by simp at e, inj := fun i j a w w' e => by simp at e, el := rfl }
    · try dsimp only at e
      split at e
      · exact e
      · exact S.gs a o e
    · try dsimp only
      rw [if_neg fun h => by rw [(S.io_h h).2.1] at e; cases e]
      exact S.fg a o e
  · obtain ⟨h1, h2, o, h3, h4⟩ := S.ce n w a e1 e2
    refine ⟨o, ?_, h4⟩
    try dsimp only
    rw [if_pos (List.mem_of_getElem? e2)]
    exact h3
theorem rsv_ok {G' : Hp} {io' : List Addr} {w : W} {v : V} (il : io.length = st.length) (l : Le G G') (hc : ∀ (n : Nat) (w : W) (a : Addr), st[n]? = some w → io[n]? = some a → ∃ o, G' a = some o ∧ Nd K kc io G w o) (h : FOk st w) (r : Rp K kc io G w v) : Rp K kc io' G' (rsv st w) v := by
  rcases h with ⟨m, u, rfl, hu, lo⟩ | h
  · cases r with
    | loc e =>
      obtain ⟨o, g, nd⟩ := hc m u _ hu e
      have eu : rsv st (.loc m) = u := by
        show st.getD m .non = u
        rw [List.getD_eq_getElem?_getD, hu]
        rfl
      rw [eu]
      exact ((lo _ _ _ io' _ _ nd).mono l (pre_refl _)).rp g
  · by_cases hl : ∃ m, w = .loc m
    · obtain ⟨m, rfl⟩ := hl
      cases h _ _ _ [] _ _ r with
      | loc e => simp at e
    · have ew : rsv st w = w := by
        cases w <;> first | rfl | exact absurd ⟨_, rfl⟩ hl
      rw [ew]
      exact (h _ _ _ io' _ _ r).mono l (pre_refl _)
theorem rsvF_ok {G' : Hp} {io' : List Addr} (il : io.length = st.length) (l : Le G G') (hc : ∀ (n : Nat) (w : W) (a : Addr), st[n]? = some w → io[n]? = some a → ∃ o, G' a = some o ∧ Nd K kc io G w o) : ∀ {fs : List (Str × W)} {fv : List (Str × V)}, (∀ p ∈ fs, FOk st p.2) → RpF K kc io G fs fv → RpF K kc io' G' (rsvF st fs) fv
  | [], _, _, .nil => .nil
  | _ :: fs, _, h, .cons r rr => .cons (rsv_ok il l hc (h _ (List.mem_cons_self ..)) r) (rsvF_ok il l hc (fun p hp => h p (List.mem_cons_of_mem _ hp)) rr)
end
open Classical in
/-- C(..): __init__ runs in a store of its own; then the instance stands for ever -/
noncomputable def E.mkW (c : String) (f : Fv) (ws : List W) (s : Sto) : R Sto W := if LFs ws then match f (.loc 0 :: ws) [.ins c []] with
    | .ok .non st' => (match st'[0]? with
      | some (W.ins c' fs) => if c' = c ∧ ∀ p ∈ fs, FOk st' p.2 then .ok (.ins c (rsvF st' fs)) s else .no
      | _ => .no)
    | .ex c' fs' st' => if ∀ p ∈ fs', LF p.2 then .ex c' fs' s else .no
    | _ => .no else .no
noncomputable def E.make (c : String) (f : Fv) (m : Av) : Ev := fun en st => (m en st).bind fun ws s => E.mkW c f ws s
section
variable {X : Cx} {kc : CT} {Wx : WX} {e : Expr} {es : List Expr} {p pos : Pos} {C : Addr}
theorem at_make {n : Nat} {c : String} {f : Fv} {Fz : Hp} {en : En} {st : Sto} {G : Hp} {io : List Addr} {σ : L2.St} {H : Hp} {ws : List W} {vs : List V} (hc : kc c = some C) (S : Sim X.K kc Fz en st G io σ H) (r : RpL X.K kc io G ws vs) (hl : ws.length + 1 = n) :
    At X.K kc Wx (relE X.K kc) Fz en G io σ (E.mkW c f ws st) (fun Q => ∀ x dx, H x = none → H dx = none → dx ≠ x →
      spF X.K kc n f (.ref x :: vs) (upd (upd H dx (.own x)) x (.ins C dx [])) (fun v H2 => v = .non ∧ Q (.ref x) H2) (WE Wx σ)) := by
  refine At.some fun hno => ?_
  unfold E.mkW at hno ⊢
  split at hno
  · rename_i hlf
    rw [if_pos hlf]
    obtain ⟨Fz', S', back⟩ := S.iso
    have begin_ : ∀ x dx, H x = none → H dx = none → dx ≠ x → Sim X.K kc Fz' [] [.ins c []] G [x] [] (upd (upd H dx (.own x)) x (.ins C dx [])) := fun x dx hx hd hne => by
      have S1 := (S'.allocF (o := .own x) hd).allocF (p := x) (o := .ins C dx []) (by rw [upd_ne (Ne.symm hne)]; exact hx)
      have := S1.newCell (w := .ins c []) (p := x) upd_same (le_none S.gs hx) (le_none S'.fs hx) (by simp) (fun i w e => by simp at e) (.ins hc .nil)
      exact this
    have args : ∀ x, RpL X.K kc [x] G (.loc 0 :: ws) (.ref x :: vs) := fun x => .cons (.loc rfl) (lfs_rp hlf r)
    have hlen : (W.loc 0 :: ws).length = n := hl
    cases q : f (.loc 0 :: ws) [.ins c []] with
    | no => rw [q] at hno; exact (hno rfl).elim
    | ex c' fs' st' =>
      rw [q] at hno
      dsimp only at hno ⊢
      split at hno
      · rename_i hf
        rw [if_pos hf]
        refine ⟨fun a s e => (nomatch e), fun c2 fs2 s2 e Q hQ x dx hx hd hne => ?_⟩
        cases e
        refine ⟨Fz', G, [x], _, _, begin_ x dx hx hd hne, args x, hlen, (fun z => by rw [q] at z; cases z), (fun w st2 e => by rw [q] at e; cases e), fun c3 fs3 st3 e C' d G' io' H' kC l1 p1 T xo => ?_⟩
        rw [q] at e
        cases e
        obtain ⟨G2, l2, T2, _⟩ := T.giveUp
        refine hQ C' d G2 io H' kC (l1.trans l2) (pre_refl _) (back G2 H' (l1.trans l2) T2) ?_
        rcases xo with ⟨a, fv, e1, e2, rf⟩ | xo
        · exact .inl ⟨a, fv, e1, l2.get e2, (lfF hf rf).mono l2 (pre_refl _)⟩
        · exact .inr xo
      · exact (hno rfl).elim
    | ok w st' =>
      rw [q] at hno
      cases w <;> try exact (hno rfl).elim
      dsimp only at hno ⊢
      cases q0 : st'[0]? with
      | none => rw [q0] at hno; exact (hno rfl).elim
      | some u =>
        rw [q0] at hno
        cases u <;> try exact (hno rfl).elim
        rename_i c' fs
        dsimp only at hno ⊢
        split at hno
        · rename_i hf
          rw [if_pos hf]
          obtain ⟨rfl, hf⟩ := hf
          refine ⟨fun a s e Q hQ x dx hx hd hne => ?_, fun c2 fs2 s2 e => (nomatch e)⟩
          cases e
          refine ⟨Fz', G, [x], _, _, begin_ x dx hx hd hne, args x, hlen, (fun z => by rw [q] at z; cases z), fun w st2 e v G' io' H' l1 p1 T rv => ?_, fun c3 fs3 st3 e => by rw [q] at e; cases e⟩
          rw [q] at e
          cases e
          cases rv
          refine ⟨rfl, ?_⟩
          obtain ⟨G2, l2, T2, cells⟩ := T.giveUp
          have hio : io'[0]? = some x := pre_get p1 rfl
          obtain ⟨o, g2, nd⟩ := cells 0 _ x q0 hio
          cases nd with
          | @ins _ _ C' dx' fv kC rf =>
            rw [hc] at kC
            cases kC
            exact hQ (.ref x) G2 io H' (l1.trans l2) (pre_refl _) (back G2 H' (l1.trans l2) T2) (.ins hc g2 (rsvF_ok T.il l2 cells hf rf))
        · exact (hno rfl).elim
  · exact (hno rfl).elim
end
end MH

/-! Classes called; methods called. -/
namespace MH
open PySem L2
theorem gd_under {A : Around} {C : Addr} {us : List Value} {kw : List (Str × Value)} (h : A.guards = some []) : (A.under (.builtin "type.__call__" ⟨.ref C :: us, kw⟩)).guards = some [] := by
  have e : (Code.builtin "type.__call__" ⟨.ref C :: us, kw⟩).guards = [] := rfl
  simp [Around.under, h, e, pushGuards]
section
variable {X : Cx} {CX : CXT} {k : Nat} {f C : Addr} {fd : FuncData} {ps ks : List Str} {sp : Sp} {E : L2.St → XK} {x m : Str} {p pos apos : Pos} {e o : Expr} {es : List Expr} {kws : List Keyword} {t tk : TA} {ta : TE}
def tMakeA (C : Addr) (sp : Sp) (E : L2.St → XK) (t : TA) : TE := fun σ H Q => t σ H fun vs H1 => ∀ x dx, H1 x = none → H1 dx = none → dx ≠ x →
  sp (.ref x :: vs) (upd (upd H1 dx (.own x)) x (.ins C dx [])) (fun v H2 => v = .non ∧ Q (.ref x) H2) (E σ)
theorem run_makeA {pins : List (Addr × Obj)} {σ : L2.St} {H : Hp} {s : Shared} {Q : VK} {args : Args} {us : List Value} {vs : List V} (M : Mk X.K C f) (F : FnG X.prog X.w X.K X.mg X.base CX k f fd ps sp) (hr : Room (k + 1) X.A) (gd : X.A.guards = some [])
    (hb : ∀ (s : Shared) (x : Addr), BindsTo s fd ⟨.ref x :: args.pos, args.kw⟩ (ps.zip (Value.ref x :: us))) (hx : PassesAt CX X σ (E σ)) (I : Inv X pins σ H s) (r : Vals vs us)
    (h : ∀ x dx, H x = none → H dx = none → dx ≠ x → sp (.ref x :: vs) (upd (upd H dx (.own x)) x (.ins C dx [])) (fun v H2 => v = .non ∧ Q (.ref x) H2) (E σ)) :
    wpAny (model X.prog X.w) X.A (call (.ref C) args.pos args.kw) (EP X pins σ Q) X.xe s := by
  have hq := h (s.heap.objs.size + 1) s.heap.objs.size (I.hok.fresh (Nat.le_succ _)) (I.hok.fresh (Nat.le_refl _)) (Nat.ne_of_lt (Nat.lt_succ_self _))
  have I2 := Inv.made (C := C) I
  have r2 : Vals (V.ref (s.heap.objs.size + 1) :: vs) (Value.ref (s.heap.objs.size + 1) :: us) := .cons rfl r
  refine wpAny_call (make_map (f := f) I.kIn M.makes M.init (beq_iff_eq.mp M.fn) (codeAny_mono (F.run _ X.stack _ _ ⟨Value.ref (s.heap.objs.size + 1) :: args.pos, args.kw⟩ (Value.ref (s.heap.objs.size + 1) :: us) _ _ (E σ) (hr.make C args.pos args.kw) (gd_under gd)
    (I2.env0.make C args.pos args.kw) (hb _ _) r2 hq) fun r s' hq' => ?_))
  cases r with
  | error e => exact hx pins _ _ e s' I2 hq'
  | ok fl =>
    cases fl with
    | ret u =>
      obtain ⟨v, H', I3, rv, ev, q3⟩ := I2.after hq'
      subst ev
      exact ⟨rv, ⟨V.ref (s.heap.objs.size + 1), H', I3, rfl, q3⟩⟩
    | next => exact False.elim hq'
    | brk => exact False.elim hq'
    | cont => exact False.elim hq'
theorem pe_makeA (M : Mk X.K C f) (F : FnG X.prog X.w X.K X.mg X.base CX k f fd ps sp) (hr : Room (k + 1) X.A) (gd : X.A.guards = some []) (hg : Gl X x) (hm : X.mg x = some (.ref C)) (hb : ∀ (s : Shared) (us : List Value), us.length = ps.length → BindsTo s fd ⟨us, []⟩ (ps.zip us)) (hx : ∀ σ, PassesAt CX X σ (E σ))
    (ha : PA X (e :: es) t) (hdb : (x == ("__debug__" : Str)) = false := by decide) (he : starEach (e :: es) X.env = (false, eval e X.env) :: starEach es X.env := by rfl) (hpl : (backTo pos (starEach es X.env)).any (·.1) = false := by rfl) :
    PE X (.Call (.Name x p) (e :: es) [] pos) (tMakeA C sp E t) := by
  refine ⟨fun pins s σ H Q I h => ?_⟩
  refine wpAny_Call_Name_kw (ld_glob I hg hm ?_ hdb)
  refine PySem.W.callWith_K (h₀ := X.base) I.ok.mod.kin M.kp (thn (ha.run pos pins s σ H _ I h) fun us s1 ⟨vs, H1, I1, r, q⟩ => ⟨I1.kIn, ?_⟩) he hpl
  have hl : us.length + 1 = ps.length := by
    have := F.len _ _ _ _ (q (s1.heap.objs.size + 1) s1.heap.objs.size (I1.hok.fresh (Nat.le_succ _)) (I1.hok.fresh (Nat.le_refl _)) (Nat.ne_of_lt (Nat.lt_succ_self _)))
    rw [← r.length]; exact this
  exact run_makeA (args := ⟨us, []⟩) M F hr gd (fun s x => hb s (.ref x :: us) hl) (hx σ) I1 r q
def tMakeAK (C : Addr) (sp : Sp) (ps ks : List Str) (E : L2.St → XK) (t : TA) : TE := fun σ H Q => t σ H fun zs H1 => zs.length = ks.length ∧ ∀ x dx, H1 x = none → H1 dx = none → dx ≠ x →
  sp (.ref x :: kwOrd (ps.drop 1) ks [] zs) (upd (upd H1 dx (.own x)) x (.ins C dx [])) (fun v H2 => v = .non ∧ Q (.ref x) H2) (E σ)
theorem kwOrd_self {α : Type} {p : Str} {ps ks : List Str} {u : α} {ws : List α} : kwOrd (p :: ps) ks [u] ws = u :: kwOrd ps ks [] ws := rfl
theorem pe_makeAK {q : Str} (M : Mk X.K C f) (F : FnG X.prog X.w X.K X.mg X.base CX k f fd (q :: ps) sp) (hr : Room (k + 1) X.A) (gd : X.A.guards = some []) (hg : Gl X x) (hm : X.mg x = some (.ref C)) (hb : KwB fd (q :: ps) ks 1) (hx : ∀ σ, PassesAt CX X σ (E σ)) (hkw : PK X kws tk)
    (hall : (backToKw pos (keywordEach kws X.env)).all (·.1.isSome) = true := by rfl) (hks : (backToKw pos (keywordEach kws X.env)).filterMap (·.1) = ks := by rfl) (hdb : (x == ("__debug__" : Str)) = false := by decide)
    (hpl : ((backTo pos (starEach [] X.env)).any (·.1) || (backToKw pos (keywordEach kws X.env)).any (·.1.isNone)) = false := by rfl) :
    PE X (.Call (.Name x p) [] kws pos) (tMakeAK C sp (q :: ps) ks E tk) := by
  refine ⟨fun pins s σ H Q I h => ?_⟩
  refine wpAny_Call_Name_kw (ld_glob I hg hm ?_ hdb)
  refine PySem.W.callWith_KW0 (h₀ := X.base) I.ok.mod.kin M.kp hall ?_ hpl
  refine thn (hkw.run pos pins s σ H _ I h) fun ws s2 ⟨zs, H2, I2, rz, l2, q2⟩ => ⟨I2.kIn, ?_⟩
  rw [hks]
  exact run_makeA (args := ⟨[], ks.zip ws⟩) (us := kwOrd ps ks [] ws) M F hr gd (fun s x => hb s [.ref x] ws rfl (by rw [← rz.length, l2])) (hx σ) I2 (vals_kw (ps := ps) (ks := ks) .nil rz) q2
def tMethA (C : Addr) (m : Str) (sp : Sp) (E : L2.St → XK) (ta : TE) (t : TA) : TE := fun σ H Q => ta σ H fun x H1 => ∃ a dx fs, x = .ref a ∧ H1 a = some (.ins C dx fs) ∧ fs.lookup m = none ∧
  t σ H1 fun vs H2 => sp (x :: vs) H2 Q (E σ)
theorem pe_methA {pl : Sem Bool} (he : PE X o ta) (c : Cls X.K C) (hm : Meth X.K C m f) (F : FnG X.prog X.w X.K X.mg X.base CX k f fd ps sp) (hr : Room k X.A) (gd : X.A.guards = some []) (hb : ∀ (s : Shared) (us : List Value), us.length = ps.length → BindsTo s fd ⟨us, []⟩ (ps.zip us)) (hx : ∀ σ, PassesAt CX X σ (E σ)) (ha : PA X (e :: es) t)
    (hst : starEach (e :: es) X.env = (false, eval e X.env) :: starEach es X.env := by rfl) (hpl : (backTo pos (starEach es X.env)).any (·.1) = false := by rfl)
    (ht : eval (.Call (.Attribute o m apos) (e :: es) [] pos) X.env = (do
      let ov ← eval o X.env
      standAt apos.atName
      let (f, first) ← holding [ov] (getMethod ov m pl)
      callWith pos f first (backTo pos (starEach (e :: es) X.env)) (backToKw pos (keywordEach [] X.env))) := by rfl) :
    PE X (.Call (.Attribute o m apos) (e :: es) [] pos) (tMethA C m sp E ta t) := by
  refine ⟨fun pins s σ H Q I h => ?_⟩
  refine PySem.W.methodCall_KW (pl := pl) (thn (he.run pins s σ H _ I h) fun u s1 ⟨x, H1, I1, rx, a, dx, fs, ex, ea, l, q⟩ => ?_) ht
  subst ex
  obtain rfl : u = Value.ref a := rx
  refine getmeth_ok I1 ea c hm l ?_
  refine PySem.W.callWith_K (first := [.ref a]) (h₀ := X.base) I.ok.mod.kin hm.kp (thn (ha.run pos pins s1 σ H1 _ I1 q) fun us s2 ⟨vs, H2, I2, r, q2⟩ => ⟨I2.kIn, ?_⟩) hst hpl
  have r2 : Vals (V.ref a :: vs) (Value.ref a :: us) := .cons rfl r
  exact run_any (args := ⟨.ref a :: us, []⟩) F hr gd (hb s2 (.ref a :: us) (by rw [← r2.length]; exact F.len _ _ _ _ q2)) (hx σ) I2 r2 q2
end
section
variable {X : Cx} {kc : CT} {Wx : WX} {e o : Expr} {es : List Expr} {kws : List Keyword} {p pos apos : Pos} {C g : Addr} {fd : FuncData} {ps ks : List Str} {f : Fv} {k n : Nat} {x : Str} {m : Av}
theorem ex_make {c : String} (M : Mk X.K C g) (F : FnG X.prog X.w X.K X.mg X.base (L2.CX X.prog X.w) k g fd ps (spF X.K kc n f)) (hr : Room (k + 1) X.A) (gd : X.A.guards = some []) (hm : X.mg x = some (.ref C)) (hc : kc c = some C) (hb : PosB fd ps) (tk : Takes X Wx)
    (hlen : ∀ en st ws s, m en st = .ok ws s → ws.length + 1 = n) (ha : AX X kc Wx (e :: es) m) (hg : Gl X x := by rfl) (hdb : (x == ("__debug__" : Str)) = false := by decide) (he : starEach (e :: es) X.env = (false, eval e X.env) :: starEach es X.env := by rfl) (hpl : (backTo pos (starEach es X.env)).any (·.1) = false := by rfl) :
    EX X kc Wx (.Call (.Name x p) (e :: es) [] pos) (E.make c f m) := by
  obtain ⟨t, h1, h2⟩ := ha
  refine ⟨_, pe_makeA M F hr gd hg hm hb (fun σ => passAt tk σ) h1 hdb he hpl, fun Fz en st G io σ H S => ?_⟩
  refine (h2 Fz en st G io σ H S).bind (u := fun vs H1 Q => ∀ x dx, H1 x = none → H1 dx = none → dx ≠ x → spF X.K kc n f (.ref x :: vs) (upd (upd H1 dx (.own x)) x (.ins C dx [])) (fun v H2 => v = V.non ∧ Q (V.ref x) H2) (WE Wx σ)) fun ws s1 vs G1 io1 H1 e1 l1 p1 S1 r1 => ?_
  exact at_make hc S1 r1 (hlen _ _ _ _ e1)
noncomputable def E.makeK (c : String) (n : Nat) (ps ks : List Str) (f : Fv) (m : Av) : Ev := fun en st => (m en st).bind fun zs s => if zs.length = ks.length ∧ (kwOrd ps ks [] zs).length + 1 = n then E.mkW c f (kwOrd ps ks [] zs) s else .no
theorem ex_makeK {c : String} {q : Str} (M : Mk X.K C g) (F : FnG X.prog X.w X.K X.mg X.base (L2.CX X.prog X.w) k g fd (q :: ps) (spF X.K kc n f)) (hr : Room (k + 1) X.A) (gd : X.A.guards = some []) (hm : X.mg x = some (.ref C)) (hc : kc c = some C) (hb : KwB fd (q :: ps) ks 1) (tk : Takes X Wx)
    (ha : KX X kc Wx kws m) (hg : Gl X x := by rfl) (hall : (backToKw pos (keywordEach kws X.env)).all (·.1.isSome) = true := by rfl) (hks : (backToKw pos (keywordEach kws X.env)).filterMap (·.1) = ks := by rfl) (hdb : (x == ("__debug__" : Str)) = false := by decide)
    (hpl : ((backTo pos (starEach [] X.env)).any (·.1) || (backToKw pos (keywordEach kws X.env)).any (·.1.isNone)) = false := by rfl) :
    EX X kc Wx (.Call (.Name x p) [] kws pos) (E.makeK c n ps ks f m) := by
  obtain ⟨t, h1, h2⟩ := ha
  refine ⟨_, pe_makeAK M F hr gd hg hm hb (fun σ => passAt tk σ) h1 hall hks hdb hpl, fun Fz en st G io σ H S => ?_⟩
  refine (h2 Fz en st G io σ H S).bind (u := fun zs H1 Q => zs.length = ks.length ∧ ∀ x dx, H1 x = none → H1 dx = none → dx ≠ x → spF X.K kc n f (.ref x :: kwOrd ((q :: ps).drop 1) ks [] zs) (upd (upd H1 dx (.own x)) x (.ins C dx [])) (fun v H2 => v = V.non ∧ Q (V.ref x) H2) (WE Wx σ)) fun zs s1 vs G1 io1 H1 e1 l1 p1 S1 r1 => ?_
  split
  · rename_i hl
    exact (at_make hc S1 (rpL_kw (ps := ps) (ks := ks) .nil r1) hl.2).mono fun Q q => ⟨by rw [← r1.length]; exact hl.1, q⟩
  · exact At.no
/-- o.m(e, ..), o an instance of c that never changes -/
def E.meth (c : String) (m : Str) (n : Nat) (f : Fv) (p : Pv) (k : Av) : Ev := fun en st => (p en st).bind fun h s => match h with
  | .fz (.ins c' fs) => if c' = c ∧ fs.lookup m = none then (k en s).bind fun ws s' => if ws.length + 1 = n then f (.ins c' fs :: ws) s' else .no else .no
  | _ => .no
theorem ex_meth {c : String} {ka : Av} {pv : Pv} {mn : Str} {pl : Sem Bool} (hcl : ∀ C', kc c = some C' → C' = C) (cl : Cls X.K C) (hm : Meth X.K C mn g) (F : FnG X.prog X.w X.K X.mg X.base (L2.CX X.prog X.w) k g fd ps (spF X.K kc n f)) (hr : Room k X.A) (gd : X.A.guards = some []) (hb : PosB fd ps) (tk : Takes X Wx)
    (ho : PX X kc Wx o pv) (ha : AX X kc Wx (e :: es) ka) (hst : starEach (e :: es) X.env = (false, eval e X.env) :: starEach es X.env := by rfl) (hpl : (backTo pos (starEach es X.env)).any (·.1) = false := by rfl)
    (ht : eval (.Call (.Attribute o mn apos) (e :: es) [] pos) X.env = (do
      let ov ← eval o X.env
      standAt apos.atName
      let (f, first) ← holding [ov] (getMethod ov mn pl)
      callWith pos f first (backTo pos (starEach (e :: es) X.env)) (backToKw pos (keywordEach [] X.env))) := by rfl) :
    EX X kc Wx (.Call (.Attribute o mn apos) (e :: es) [] pos) (E.meth c mn n f pv ka) := by
  obtain ⟨to, o1, o2⟩ := ho
  obtain ⟨t, h1, h2⟩ := ha
  refine ⟨_, pe_methA (pl := pl) o1 cl hm F hr gd hb (fun σ => passAt tk σ) h1 hst hpl ht, fun Fz en st G io σ H S => ?_⟩
  refine (o2 Fz en st G io σ H S).bind (u := fun x H1 Q => ∃ a dx fs, x = V.ref a ∧ H1 a = some (.ins C dx fs) ∧ fs.lookup mn = none ∧ t σ H1 fun vs H2 => spF X.K kc n f (x :: vs) H2 Q (WE Wx σ)) fun h s1 x G1 io1 H1 e1 l1 p1 S1 r1 => ?_
  split
  · rename_i c' fs
    split
    · rename_i hcc
      obtain ⟨rfl, hno⟩ := hcc
      cases r1 with
      | @ins _ _ C' a dx fv kC ga rf =>
        cases hcl C' kC
        have key : At X.K kc Wx (relE X.K kc) Fz en G1 io1 σ ((ka en s1).bind fun ws s' => if ws.length + 1 = n then f (.ins c' fs :: ws) s' else .no) (fun Q => t σ H1 fun vs H2 => spF X.K kc n f (.ref a :: vs) H2 Q (WE Wx σ)) := by
          refine (h2 Fz en s1 G1 io1 σ H1 S1).bind (u := fun vs H2 Q => spF X.K kc n f (V.ref a :: vs) H2 Q (WE Wx σ)) fun ws s2 vs G2 io2 H2 e2 l2 p2 S2 r2 => ?_
          split
          · rename_i hl
            exact at_fn S2 (.cons (.ins kC (l2.get ga) (rf.mono l2 p2)) r2) hl
          · exact At.no
        exact key.mono fun Q q => ⟨a, dx, fv, rfl, S1.gs _ _ ga, rf.lookup_none hno, q⟩
    · exact At.no
  · exact At.no
end
end MH

/-! Order of data, sorted. -/
namespace MH
open PySem L2
open PySem.W (alike alikeAll dataLt dataLe AllAlike Sortable EachIs)
def dOf (w : W) : PyData := (toD w).getD .none
/-- two data of one shape, neither None -/
def rLtD (K : PySem.W.Frag) : R2 := fun x y H Q => ∃ d d', Dp K H x d ∧ Dp K H y d' ∧ alike d d' = true ∧ d ≠ .none ∧ d.depth ≤ 60 ∧ Q (.bl (dataLt d d')) H
theorem op_ltData {X : Cx} (hu : X.A.units + 64 < cLine) : OpR X (compareOp .Lt) (rLtD X.K) := by
  intro pins s σ H x y v u Q I rx ry h
  obtain ⟨d, d', hd, hd', ha, hn, hz, q⟩ := h
  obtain ⟨as, ra⟩ := Dp.reads I d x v hd rx
  obtain ⟨bs, rb⟩ := Dp.reads I d' y u hd' ry
  have hm : X.A.units + min d.depth d'.depth < cLine := by
    have := Nat.min_le_left d.depth d'.depth
    omega
  exact PySem.W.rcLt_alike d d' X.A s v u as bs ra rb ha hn hm X.prog X.w _ _ ⟨.bl (dataLt d d'), H, I, rfl, q⟩
/-- the same, the greater one asked of -/
def ltD (w1 w2 : W) : Option W := match toD w1, toD w2 with
  | some d, some d' => if alike d d' = true ∧ d.depth ≤ 60 then (match d with
    | .none => none
    | _ => some (.bl (dataLt d d'))) else none
  | _, _ => none
theorem opk_ltD {K : PySem.W.Frag} {kc : CT} : OpK K kc (rLtD K) ltD := by
  intro Wx Fz en st G io σ H x y w1 w2 S t1 t2
  unfold ltD
  cases q1 : toD w1 with
  | none => exact At.no
  | some d =>
    cases q2 : toD w2 with
    | none => exact At.no
    | some d' =>
      dsimp only
      split
      · rename_i h
        have key : d ≠ .none → At K kc Wx (relE K kc) Fz en G io σ (lift (some (.bl (dataLt d d'))) st) (fun Q => rLtD K x y H Q) := fun hn =>
          (At.pure S (Rp.bl (dataLt d d'))).mono fun Q q => ⟨d, d', tp_dp S.gs t1 q1, tp_dp S.gs t2 q2, h.1, hn, h.2, q⟩
        cases d <;> first | exact At.no | exact key (by intro z; cases z)
      · exact At.no
/-! ### sorted -/
/-- the items by their order -/
def leD (a b : W) : Bool := !dataLt (dOf b) (dOf a)
def SortOk (ws : List W) : Prop := (∀ w ∈ ws, (toD w).isSome = true ∧ (dOf w).depth ≤ 60) ∧ AllAlike (ws.map dOf) ∧ Sortable (ws.map dOf) ∧ ws.length ≤ 100000
open Classical in
noncomputable def sortW (ws : List W) : Option (List W) := if SortOk ws then some (ws.mergeSort leD) else none
abbrev SB := V × W
theorem rpl_pairs {K : PySem.W.Frag} {kc : CT} {io : List Addr} {G : Hp} : ∀ {ws : List W} {vs : List V}, RpL K kc io G ws vs → ∃ bs : List SB, bs.map (·.1) = vs ∧ bs.map (·.2) = ws ∧ ∀ b ∈ bs, Rp K kc io G b.2 b.1
  | [], _, .nil => ⟨[], rfl, rfl, fun _ h => by cases h⟩
  | w :: ws, v :: vs, .cons h r => by
    obtain ⟨bs, e1, e2, e3⟩ := rpl_pairs r
    refine ⟨(v, w) :: bs, by simp [e1], by simp [e2], fun b hb => ?_⟩
    rcases List.mem_cons.mp hb with rfl | hb
    · exact h
    · exact e3 b hb
theorem rpl_of_pairs {K : PySem.W.Frag} {kc : CT} {io : List Addr} {G : Hp} : ∀ {bs : List SB}, (∀ b ∈ bs, Rp K kc io G b.2 b.1) → RpL K kc io G (bs.map (·.2)) (bs.map (·.1))
  | [], _ => .nil
  | b :: bs, h => .cons (h b (List.mem_cons_self ..)) (rpl_of_pairs fun c hc => h c (List.mem_cons_of_mem _ hc))
theorem vals_of_each {us : List Value} {bs : List SB} (h : EachIs (fun u b => RelV b.1 u) us bs) : Vals (bs.map (·.1)) us := by
  induction h with
  | nil => exact .nil
  | cons h _ ih => exact .cons h ih
theorem each_of_vals : ∀ {bs : List SB} {us : List Value}, Vals (bs.map (·.1)) us → EachIs (fun u b => RelV b.1 u) us bs
  | [], _, .nil => .nil
  | b :: bs, _, .cons h r => .cons h (each_of_vals r)
theorem map_sort {bs : List SB} : (bs.mergeSort (dataLe false fun b => dOf b.2)).map (·.2) = (bs.map (·.2)).mergeSort leD := by
  rw [PySem.W.dataLe_eq]
  exact List.map_mergeSort (f := fun b : SB => b.2) (r := fun a b : SB => !dataLt (dOf b.2) (dOf a.2)) (s := leD) (fun a _ b _ => rfl)
end MH

/-! sorted, the rules. -/
namespace MH
open PySem L2
open PySem.W (alike alikeAll dataLt dataLe AllAlike Sortable EachIs)
abbrev VB := V × PyData
/-- what a new sorted list of these is -/
def SortC (K : PySem.W.Frag) (vs : List V) (H : Hp) (Q : VK) : Prop := ∃ bs : List VB, bs.map (·.1) = vs ∧ (∀ b ∈ bs, Dp K H b.1 b.2 ∧ b.2.depth ≤ 60) ∧ AllAlike (bs.map (·.2)) ∧ Sortable (bs.map (·.2)) ∧ bs.length ≤ sizeLine ∧
  ∀ p, H p = none → Q (.ref p) (upd H p (.lst ((bs.mergeSort (dataLe false (·.2))).map (·.1))))
theorem each_vals {bs : List VB} {us : List Value} (h : Vals (bs.map (·.1)) us) : EachIs (fun u b => RelV b.1 u) us bs := by
  induction bs generalizing us with
  | nil => cases h; exact .nil
  | cons b bs ih => cases h with | cons h r => exact .cons h (ih r)
theorem vals_each {bs : List VB} {us : List Value} (h : EachIs (fun u (b : VB) => RelV b.1 u) us bs) : Vals (bs.map (·.1)) us := by
  induction h with
  | nil => exact .nil
  | cons h _ ih => exact .cons h ih
theorem each_and {P Q : Value → VB → Prop} {us : List Value} {bs : List VB} (h : EachIs P us bs) (k : ∀ u b, b ∈ bs → P u b → Q u b) : EachIs Q us bs := by
  induction h with
  | nil => exact .nil
  | cons h _ ih => exact .cons (k _ _ (List.mem_cons_self ..) h) (ih fun u b hb => k u b (List.mem_cons_of_mem _ hb))
section
variable {X : Cx} {pins : List (Addr × Obj)} {σ : L2.St} {H : Hp} {s : Shared} {Q : VK}
theorem sort_tail {us : List Value} {vs : List V} {E : Value → Shared → Prop} (hu : X.A.units + 80 < cLine) (I : Inv X pins σ H s) (r : Vals vs us) (h : SortC X.K vs H Q) :
    wpAny (model X.prog X.w) X.A.in1 (call (.builtin "list.sort") [.ref s.heap.objs.size]) (fun _ s' => EP X pins σ Q (.ref s.heap.objs.size) s') E { s with heap := s.heap.push (PyProof.Rows.seqObj "list" us.toArray 0) } := by
  obtain ⟨bs, rfl, hd, hal, hk, hL, q⟩ := h
  have e1 := each_vals r
  have ho : (s.heap.push (PyProof.Rows.seqObj "list" us.toArray 0)).get? s.heap.objs.size = some (PyProof.Rows.seqObj "list" us.toArray 0) := Heap.get?_push_size _ rfl
  have er : EachIs (fun u (b : VB) => ∃ as, Reads (s.heap.push (PyProof.Rows.seqObj "list" us.toArray 0)) u b.2 as ∧ s.heap.objs.size ∉ as) us bs := each_and e1 fun u b hb rv => by
    obtain ⟨as, ra⟩ := Dp.reads I b.2 b.1 u (hd b hb).1 rv
    refine ⟨as, PyProof.Rows.Reads.keeps (fun _ _ e => Heap.get?_push_of_some _ e) ra, fun hm => ?_⟩
    obtain ⟨o, e⟩ := PyProof.On.reads_mem_get ra _ hm
    exact absurd (Heap.lt_size e) (Nat.lt_irrefl _)
  refine PySem.W.list_sort_data (enc := fun b : VB => b.2) ho e1 er hal hk hL (fun b hb => ?_) fun out hout hsort => ?_
  · have := (hd b hb).2
    show X.A.units + 1 + 1 + b.2.depth < cLine
    omega
  · obtain ⟨c, hc⟩ := PyProof.Rows.sortedHeap_at (vs := us) (out := out.toArray) ho
    have hv := vals_each hsort
    have hlen : ((bs.mergeSort (dataLe false (·.2))).map (·.1)).length ≤ sizeLine := by rw [List.length_map, List.length_mergeSort]; exact hL
    refine ⟨.ref s.heap.objs.size, _, I.laid (t' := s.toks) (a := s.heap.objs.size) (o := .lst ((bs.mergeSort (dataLe false (·.2))).map (·.1))) (fun b u e => ?_) (Nat.le_refl _) ⟨hlen, out, c, hv, hc⟩, rfl, q _ (I.hok.fresh (Nat.le_refl _))⟩
    have hb := Heap.lt_size e
    rw [PyProof.Rows.sortedHeap_old (Nat.ne_of_lt hb) (by rw [PyProof.Rows.size_push']; exact Nat.lt_succ_of_lt hb)]
    exact Heap.get?_push_of_some _ e
theorem keys_at : ∀ {kvs : List (List Key × V)} {xs' : List (List Key × Addr × Value)}, Paired (fun (p : List Key × V) (q : List Key × Addr × Value) => p.1 = q.1 ∧ H q.2.1 = some (.tup (p.1.map kV)) ∧ RelV p.2 q.2.2) kvs xs' →
    Paired (fun (p : List Key × V) (b : Addr) => H b = some (.tup (p.1.map kV))) kvs (xs'.map (·.2.1))
  | _, _, .nil => .nil
  | _, _, .cons p r => .cons p.2.1 (keys_at r)
/-- sorted(d), d a dict whose keys are tuples: bs where they stand -/
def rSortDT (K : PySem.W.Frag) : List V → Hp → VK → Prop := fun xs H Q => ∃ (a : Addr) (kvs : List (List Key × V)), xs = [.ref a] ∧ Rd H a (.dT kvs) ∧ ∀ bs : List Addr, Paired (fun (p : List Key × V) (b : Addr) => H b = some (.tup (p.1.map kV))) kvs bs → SortC K (bs.map V.ref) H Q
theorem call_sortDT (hc : X.calm = true) (hu : X.A.units + 80 < cLine) : CallR X (.builtin "sorted") (rSortDT X.K) := by
  intro pins s σ H xs us Q I r h
  obtain ⟨a, kvs, rfl, ha, h⟩ := h
  obtain rfl := Vals.ref1 r
  obtain ⟨hz, hd, xs', rel, o, es, ep, ho, hx, hdat, hes, hn⟩ := (show ObjOk X.prog X.w H s.heap a (.dT kvs) from ha.ok I.hok)
  have raw : s.heap.DictRaw a es ep := ⟨o, ho, hx, hdat⟩
  have hsz : es.size = xs'.length := by rw [← Array.length_toList, hes, List.length_map]
  have hl : kvs.length = xs'.length := Paired.length rel
  refine Calls.call_function_entry PyProof.Rows.kind_sorted PyProof.Rows.plain_sorted PyProof.Rows.entry_sorted (PyProof.Rows.args_sorted1 _) ?_
  unfold Builtin.«sorted»
  refine wpAny_bind (m := checkCount "sorted" 1 1 _) (wpAny_pure ?_)
  refine wpAny_bind (PySem.W.kdu_collect (A := X.A.in1) (KdlSrc.rawDict (es := es) (ep := ep) hd) (I.ok.hd hc) raw (by rw [hsz, ← hl]; exact hz) fun h' tk acc hk hacc => ?_)
  have hal : acc.toList.length = kvs.length := by rw [Array.length_toList, hacc.1, hsz, hl]
  have I1 : Inv X pins σ H { s with heap := h', toks := tk } := I.kept hk
  have hvals : Vals ((xs'.map (·.2.1)).map V.ref) acc.toList := by
    have hi : ∀ (j : Nat) (v : Value), acc.toList[j]? = some v → ∃ x, xs'[j]? = some x ∧ v = Value.ref x.2.1 := fun j v e => by
      obtain ⟨hj, ev⟩ := hacc.2 j v (by rw [← Array.getElem?_toList]; exact e)
      have e2 : es.toList[j]? = some es[j] := by rw [Array.getElem?_toList]; simp [hj]
      rw [hes, List.getElem?_map] at e2
      cases q : xs'[j]? with
      | none => rw [q] at e2; cases e2
      | some x =>
        rw [q] at e2
        have e3 := Option.some.inj e2
        refine ⟨x, rfl, ?_⟩
        rw [ev, ← e3]
        rfl
    have e : acc.toList = xs'.map fun x => Value.ref x.2.1 := by
      apply List.ext_getElem?
      intro j
      rw [List.getElem?_map]
      cases q : acc.toList[j]? with
      | none =>
        have : xs'.length ≤ j := by rw [← hl, ← hal]; exact List.getElem?_eq_none_iff.mp q
        rw [List.getElem?_eq_none this]; rfl
      | some v =>
        obtain ⟨x, e1, e2⟩ := hi j v q
        rw [e1, e2]; rfl
    rw [e]
    clear e hi hacc rel hes hn hsz hl hal
    induction xs' with
    | nil => exact .nil
    | cons x xs' ih => exact .cons rfl ih
  have hq := h (xs'.map (·.2.1)) (keys_at rel)
  refine wpAny_bind (wpAny_newList ?_ (by rw [hal]; exact hz))
  refine wpAny_bind (wpAny_holding (wpAny_mono (sort_tail hu I1 hvals hq) (fun _ s' x => ?_) fun _ _ e => e))
  exact wpAny_pure ⟨_, rfl, x⟩
/-- sorted(xs), xs a list -/
def rSortL (K : PySem.W.Frag) : List V → Hp → VK → Prop := fun xs H Q => ∃ (a : Addr) (vs : List V), xs = [.ref a] ∧ SqL K H a vs ∧ SortC K vs H Q
theorem call_sortL (hu : X.A.units + 80 < cLine) : CallR X (.builtin "sorted") (rSortL X.K) := by
  intro pins s σ H xs us Q I r h
  obtain ⟨a, vs, rfl, ha, h⟩ := h
  obtain rfl := Vals.ref1 r
  obtain ⟨its, rv, p, hz⟩ := I.list ha
  have hz' : its.length ≤ sizeLine := by rw [← rv.length]; exact hz
  refine Calls.call_function_entry PyProof.Rows.kind_sorted PyProof.Rows.plain_sorted PyProof.Rows.entry_sorted (PyProof.Rows.args_sorted1 _) ?_
  unfold Builtin.«sorted»
  refine wpAny_bind (m := checkCount "sorted" 1 1 _) (wpAny_pure ?_)
  refine wpAny_bind (PyProof.Rows.collect_list p.isList ?_ hz')
  have I1 : Inv X pins σ H { s with heap := (s.heap.push (PyProof.Rows.seqObj "list" #[] 0)).update s.heap.objs.size (Obj.mapSeq (· ++ its.toArray)) } := I.kept (t' := s.toks) fun b u e => by
    rw [Heap.get?_update_ne _ _ _ _ (Nat.ne_of_lt (Heap.lt_size e))]
    exact Heap.get?_push_of_some _ e
  refine wpAny_bind (wpAny_newList ?_ hz')
  refine wpAny_bind (wpAny_holding (wpAny_mono (sort_tail hu I1 rv h) (fun _ s' x => ?_) fun _ _ e => e))
  exact wpAny_pure ⟨_, rfl, x⟩
end

/-! ### by values -/
section
variable {K : PySem.W.Frag} {kc : CT} {Wx : WX} {Fz : Hp} {en : En} {st : Sto} {G G1 : Hp} {io : List Addr} {σ : L2.St} {H : Hp}
theorem Sim.keysG : ∀ {kws : List (W × W)} {kvs : List (List Key × V)} {bs : List Addr} {G : Hp}, Sim K kc Fz en st G io σ H → RpT K kc io G kws kvs → Paired (fun (p : List Key × V) (b : Addr) => H b = some (.tup (p.1.map kV))) kvs bs →
    ∃ G', Le G G' ∧ Sim K kc Fz en st G' io σ H ∧ RpL K kc io G' (kws.map (·.1)) (bs.map V.ref)
  | [], _, _, G, S, .nil, .nil => ⟨G, Le.refl _, S, .nil⟩
  | (_, w) :: kws, _, _, G, S, .cons (k := k) r rr, .cons (b := b) h hr => by
    obtain ⟨G1, l1, S1, e1⟩ := S.tupG h
    obtain ⟨G2, l2, S2, r2⟩ := Sim.keysG S1 (rr.mono l1 (pre_refl _)) hr
    refine ⟨G2, l1.trans l2, S2, .cons (.tup (l2.get e1) ?_) r2⟩
    clear e1 h
    induction k with
    | nil => exact .nil
    | cons x k ih =>
      refine .cons ?_ ih
      cases x with
      | inl i => exact .int i
      | inr y => exact .str y
theorem At.from' {A B : Type} {rel : Rel A B} {r : R Sto A} {t : (B → Hp → Prop) → Prop} (l : Le G G1) (h : At K kc Wx rel Fz en G1 io σ r t) : At K kc Wx rel Fz en G io σ r t :=
  ⟨fun a s e Q hQ => h.1 a s e Q fun b G' io' H' l' => hQ b G' io' H' (l.trans l'), fun c fs s e Q hQ => h.2 c fs s e Q fun C d G' io' H' k l' => hQ C d G' io' H' k (l.trans l')⟩
theorem sortC_of {ws us : List W} {vs : List V} (S : Sim K kc Fz en st G io σ H) (r : RpL K kc io G ws vs) (h : sortW ws = some us) : At K kc Wx (relF K kc) Fz en G io σ (.ok (.lst us) st) (fun Q => SortC K vs H Q) := by
  unfold sortW at h
  split at h
  · rename_i hok
    cases h
    obtain ⟨h1, h2, h3, h4⟩ := hok
    obtain ⟨ps, rfl, rfl, hp⟩ := rpl_pairs r
    have hmem : ∀ b, b ∈ ps.mergeSort (dataLe false fun b => dOf b.2) → b ∈ ps := fun b hb => (List.mergeSort_perm ps _).mem_iff.mp hb
    have r2 : RpL K kc io G ((ps.map (·.2)).mergeSort leD) ((ps.mergeSort (dataLe false fun b => dOf b.2)).map (·.1)) := by
      rw [← map_sort]
      exact rpl_of_pairs fun b hb => hp b (hmem b hb)
    have e1 : ((ps.map fun p : SB => ((p.1, dOf p.2) : VB)).mergeSort (dataLe false (·.2))).map (·.1) = (ps.mergeSort (dataLe false fun b => dOf b.2)).map (·.1) := by
      have e := List.map_mergeSort (f := fun p : SB => ((p.1, dOf p.2) : VB)) (r := dataLe false fun b : SB => dOf b.2) (s := dataLe false (fun b : VB => b.2)) (l := ps) (fun a _ b _ => rfl)
      rw [← e, List.map_map]
      rfl
    refine (At.newF S (.lst r2)).mono fun Q q => ⟨ps.map fun p => (p.1, dOf p.2), by rw [List.map_map]; rfl, fun b hb => ?_, by rw [List.map_map]; rw [List.map_map] at h2; exact h2, by rw [List.map_map]; rw [List.map_map] at h3; exact h3, ?_, fun p hn => by rw [e1]; exact q p hn⟩
    · obtain ⟨p, hp1, rfl⟩ := List.mem_map.mp hb
      obtain ⟨s1, s2⟩ := h1 p.2 (List.mem_map.mpr ⟨p, hp1, rfl⟩)
      obtain ⟨d, hd⟩ := Option.isSome_iff_exists.mp s1
      refine ⟨?_, s2⟩
      have e : dOf p.2 = d := by unfold dOf; rw [hd]; rfl
      show Dp K H p.1 (dOf p.2)
      rw [e]
      exact dp_of S.gs (hp p hp1) hd
    · rw [List.length_map] at h4 ⊢
      rw [sizeLine_eq]
      omega
  · cases h
def sortArgW : W → Option (List W)
  | .lst ws => some ws
  | .scr ws => some ws
  | .dct true kws => some (kws.map (·.1))
  | _ => none
noncomputable def sortedW (w : W) : Option W := (sortArgW w).bind fun ws => (sortW ws).map W.lst
theorem ck_sorted : Call1K K kc (relF K kc) (fun xs H Q => rSortL K xs H Q ∨ rSortDT K xs H Q) sortedW := by
  intro Wx Fz en st G io σ H w v S t
  unfold sortedW
  cases w <;> try exact At.no
  · rename_i ws
    obtain ⟨a, vs, rfl, ha, r⟩ := t.lst S.gs
    show At _ _ _ _ _ _ _ _ _ (lift ((sortW ws).map W.lst) st) _
    cases q : sortW ws with
    | none => exact At.no
    | some us => exact (sortC_of S r q).mono fun Q h => .inl ⟨a, vs, rfl, .inl (.inl ha), h⟩
  · rename_i ws
    obtain ⟨a, vs, rfl, ha, r⟩ := t.scr S.gs
    show At _ _ _ _ _ _ _ _ _ (lift ((sortW ws).map W.lst) st) _
    cases q : sortW ws with
    | none => exact At.no
    | some us => exact (sortC_of S r q).mono fun Q h => .inl ⟨a, vs, rfl, ha, h⟩
  · rename_i k kws
    cases k with
    | false => exact At.no
    | true =>
      obtain ⟨a, kvs, rfl, ha, r⟩ := t.dt S.gs
      show At _ _ _ _ _ _ _ _ _ (lift ((sortW (kws.map (·.1))).map W.lst) st) _
      cases q : sortW (kws.map (·.1)) with
      | none => exact At.no
      | some us =>
        refine ⟨fun x s e Q hQ => ?_, fun _ _ _ e => (nomatch e)⟩
        refine .inr ⟨a, kvs, rfl, ha, fun bs hb => ?_⟩
        obtain ⟨G', l, S', r'⟩ := Sim.keysG S r hb
        exact (At.from' l (sortC_of (Wx := Wx) S' r' q)).1 x s e Q hQ
end
section
variable {X : Cx} {kc : CT} {Wx : WX} {e : Expr} {m : Hv} {p pos : Pos}
theorem fx_sorted (hc : X.calm = true) (hu : X.A.units + 80 < cLine) (hm : X.mg "sorted" = none) (ha : HX X kc Wx [e] m) (hg : Gl X "sorted" := by rfl) (he : starEach [e] X.env = (false, eval e X.env) :: starEach [] X.env := by rfl) :
    FX X kc Wx (.Call (.Name "sorted" p) [e] [] pos) (E.call (one sortedW) m) := fx_callB ((call_sortL hu).or (call_sortDT hc hu)) (callk1 ck_sorted) hm (by kernel_rfl) ha hg (by decide) (by decide) he rfl
end
end MH

/-! repr. -/
namespace MH
open PySem L2
mutual
def toR : W → Option PyData
  | .non => some .none
  | .bl b => some (.bool b)
  | .int i => some (.int i)
  | .str s => some (.str s)
  | .lst ws => (toRs ws).map .list
  | .scr ws => (toRs ws).map .list
  | .tup ws => (toRs ws).map .tuple
  | .stp ws => (toRs ws).map .tuple
  | .dct _ [] => some (.dict [])
  | _ => none
def toRs : List W → Option (List PyData)
  | [] => some []
  | w :: ws => match toR w, toRs ws with
    | some d, some ds => some (d :: ds)
    | _, _ => none
end
/-- what is shown of a value in the heap h -/
def Shw (P : Program) (w : World) (h : Heap) (u : Value) (d : PyData) : Prop := (∃ as, Reads h u d as) ∧ (d.showable = true → d.shown.length ≤ sizeLine → ∃ bs, ReadAtMost h d.depth bs ∧ ReprK P w bs h d.depth u d.shown)
def ShwAll (P : Program) (w : World) (h : Heap) (us : List Value) (ds : List PyData) : Prop := (∃ as, ReadsAll h us ds as) ∧ (PyData.showableAll ds = true → (∀ t ∈ PyData.shownAll ds, t.length ≤ sizeLine) → ∃ bs, ReadAtMost h (PyData.depthAll ds) bs ∧ ReprAllK P w bs h (PyData.depthAll ds) us (PyData.shownAll ds))
section
variable {P : Program} {w : World} {h : Heap}
theorem shw_list {a : Addr} {o : Obj} {vs : Array Value} {n : Nat} {xs : List PyData} (h1 : h.get? a = some o) (h2 : o.cls = .type "list") (h3 : o.data = .seq vs n) (h4 : ShwAll P w h vs.toList xs) : Shw P w h (.ref a) (.list xs) := by
  obtain ⟨⟨as, r4⟩, k4⟩ := h4
  have r : Reads h (.ref a) (.list xs) _ := .list h1 h2 h3 r4
  refine ⟨⟨_, r⟩, fun hs hz => ?_⟩
  have hz' : (listText (PyData.shownAll xs)).length ≤ sizeLine := by simpa only [PyData.shown] using hz
  obtain ⟨bs, hb, hk⟩ := k4 (by simpa [PyData.showable] using hs) (fun t ht => Nat.le_trans (listText_mem_le ht) hz')
  have hna : a ∉ bs := not_mem_of_deeper r (by simp only [PyData.depth]; omega) hb
  refine ⟨a :: bs, ReadAtMost.cons r (by simp only [PyData.depth]; omega) hb, ?_⟩
  simp only [PyData.depth, PyData.shown]
  obtain ⟨l⟩ := vs
  cases l with
  | nil =>
    have h4' : ReadsAll h [] xs _ := r4
    cases h4'
    simp only [PyData.shownAll, listText_nil]
    exact ReprK.listEmpty h1 h2 h3
  | cons x l => exact ReprK.list h1 h2 h3 hna (by simpa using hk.length_eq) (fun i y e => hk.item i y (by simpa using e))
theorem shw_tuple {a : Addr} {o : Obj} {vs : Array Value} {n : Nat} {xs : List PyData} (h1 : h.get? a = some o) (h2 : o.cls = .type "tuple") (h3 : o.data = .seq vs n) (h4 : ShwAll P w h vs.toList xs) : Shw P w h (.ref a) (.tuple xs) := by
  obtain ⟨⟨as, r4⟩, k4⟩ := h4
  have r : Reads h (.ref a) (.tuple xs) _ := .tuple h1 h2 h3 r4
  refine ⟨⟨_, r⟩, fun hs hz => ?_⟩
  have hz' : (tupleText (PyData.shownAll xs)).length ≤ sizeLine := by simpa only [PyData.shown] using hz
  obtain ⟨bs, hb, hk⟩ := k4 (by simpa [PyData.showable] using hs) (fun t ht => Nat.le_trans (tupleText_mem_le ht) hz')
  have hna : a ∉ bs := not_mem_of_deeper r (by simp only [PyData.depth]; omega) hb
  refine ⟨a :: bs, ReadAtMost.cons r (by simp only [PyData.depth]; omega) hb, ?_⟩
  simp only [PyData.depth, PyData.shown]
  exact ReprK.tuple h1 h2 h3 hna hk
theorem shw_dict0 {a : Addr} {o : Obj} {n : Nat} (h1 : h.get? a = some o) (h2 : o.cls = .type "dict") (h3 : o.data = .dict #[] n) (hs : (a == sysModules) = false) : Shw P w h (.ref a) (.dict []) := by
  have r : Reads h (.ref a) (.dict []) _ := .dict (kvs := []) h1 h2 h3 .nil .nil
  refine ⟨⟨_, r⟩, fun _ _ => ⟨[a], ReadAtMost.cons r (Nat.le_refl _) (fun _ hm => by cases hm), ?_⟩⟩
  simp only [PyData.depth, PyData.shown, PyData.shownKv]
  exact ReprK.dict h1 h2 h3 hs (by simp) .nil
theorem shw_nil : ShwAll P w h [] [] := ⟨⟨_, .nil⟩, fun _ _ => ⟨[], (fun _ h => nomatch h), by simp only [PyData.shownAll]; exact .nil⟩⟩
theorem shw_cons {u : Value} {d : PyData} {us : List Value} {ds : List PyData} (h1 : Shw P w h u d) (h2 : ShwAll P w h us ds) : ShwAll P w h (u :: us) (d :: ds) := by
  obtain ⟨⟨as, r1⟩, k1⟩ := h1
  obtain ⟨⟨bs, r2⟩, k2⟩ := h2
  refine ⟨⟨_, .cons r1 r2⟩, fun hs hz => ?_⟩
  have hs' : d.showable = true ∧ PyData.showableAll ds = true := by simpa [PyData.showableAll] using hs
  obtain ⟨b1, hb1, m1⟩ := k1 hs'.1 (hz _ (by simp only [PyData.shownAll]; exact List.mem_cons_self ..))
  obtain ⟨b2, hb2, m2⟩ := k2 hs'.2 (fun t ht => hz t (by simp only [PyData.shownAll]; exact List.mem_cons_of_mem _ ht))
  refine ⟨b1 ++ b2, fun b hm => ?_, ?_⟩
  · simp only [PyData.depthAll]
    rcases List.mem_append.mp hm with hm | hm
    · obtain ⟨d', as', r', hd'⟩ := hb1 b hm
      exact ⟨d', as', r', Nat.le_trans hd' (Nat.le_max_left _ _)⟩
    · obtain ⟨d', as', r', hd'⟩ := hb2 b hm
      exact ⟨d', as', r', Nat.le_trans hd' (Nat.le_max_right _ _)⟩
  · simp only [PyData.depthAll, PyData.shownAll]
    exact .cons ((m1.more fun b hb => List.mem_append_left _ hb).level_le (Nat.le_max_left _ _)) (m2.more_le (fun b hb => List.mem_append_right _ hb) (Nat.le_max_right _ _))
end
/-! a value in the heap, as data -/
mutual
inductive Dr (K : PySem.W.Frag) (H : Hp) : V → PyData → Prop
  | non : Dr K H .non .none
  | bl (b : Bool) : Dr K H (.bl b) (.bool b)
  | int (i : Int) : Dr K H (.int i) (.int i)
  | str (x : Str) : Dr K H (.str x) (.str x)
  | dK {a : Addr} : Rd H a (.dK []) → Dr K H (.ref a) (.dict [])
  | dT {a : Addr} : Rd H a (.dT []) → Dr K H (.ref a) (.dict [])
  | lst {a : Addr} {xs : List V} {ds : List PyData} : SqL K H a xs → DrAll K H xs ds → Dr K H (.ref a) (.list ds)
  | tup {a : Addr} {xs : List V} {ds : List PyData} : SqT K H a xs → DrAll K H xs ds → Dr K H (.ref a) (.tuple ds)
inductive DrAll (K : PySem.W.Frag) (H : Hp) : List V → List PyData → Prop
  | nil : DrAll K H [] []
  | cons {v : V} {d : PyData} {vs : List V} {ds : List PyData} : Dr K H v d → DrAll K H vs ds → DrAll K H (v :: vs) (d :: ds)
end
section
variable {kc : CT} {K : PySem.W.Frag} {io : List Addr} {G H : Hp}
mutual
theorem dr_of (l : Ls G H) : ∀ {w : W} {v : V} {d : PyData}, Rp K kc io G w v → toR w = some d → Dr K H v d
  | _, _, _, .non, e => by unfold toR at e; cases e; exact .non
  | _, _, _, .bl b, e => by unfold toR at e; cases e; exact .bl b
  | _, _, _, .int i, e => by unfold toR at e; cases e; exact .int i
  | _, _, _, .str s, e => by unfold toR at e; cases e; exact .str s
  | _, _, _, .tup h r, e => by
    unfold toR at e
    obtain ⟨ds, e1, rfl⟩ := Option.map_eq_some_iff.mp e
    exact .tup (.inl (.inl (l _ _ h))) (drs_of l r e1)
  | _, _, _, .stp h r, e => by
    unfold toR at e
    obtain ⟨ds, e1, rfl⟩ := Option.map_eq_some_iff.mp e
    exact .tup (sqt_le l.le h) (drs_of l r e1)
  | _, _, _, .lst h r, e => by
    unfold toR at e
    obtain ⟨ds, e1, rfl⟩ := Option.map_eq_some_iff.mp e
    exact .lst (.inl (.inl (l _ _ h))) (drs_of l r e1)
  | _, _, _, .scr h r, e => by
    unfold toR at e
    obtain ⟨ds, e1, rfl⟩ := Option.map_eq_some_iff.mp e
    exact .lst (sql_le l.le h) (drs_of l r e1)
  | _, _, _, .dk h r, e => by
    cases r with
    | nil => unfold toR at e; cases e; exact .dK (l.le.rd h)
    | cons _ _ => unfold toR at e; cases e
  | _, _, _, .dt h r, e => by
    cases r with
    | nil => unfold toR at e; cases e; exact .dT (l.le.rd h)
    | cons _ _ => unfold toR at e; cases e
  | _, _, _, .ins c h r, e => by unfold toR at e; cases e
  | _, _, _, .loc h, e => by unfold toR at e; cases e
  | _, _, _, .cls h, e => by unfold toR at e; cases e
  | _, _, _, .ty n, e => by unfold toR at e; cases e
theorem drs_of (l : Ls G H) : ∀ {ws : List W} {vs : List V} {ds : List PyData}, RpL K kc io G ws vs → toRs ws = some ds → DrAll K H vs ds
  | _, _, _, .nil, e => by unfold toRs at e; cases e; exact .nil
  | _, _, _, @RpL.cons _ _ _ _ w v ws vs h r, e => by
    unfold toRs at e
    cases q : toR w with
    | none => rw [q] at e; cases e
    | some d =>
      cases q2 : toRs ws with
      | none => rw [q, q2] at e; cases e
      | some ds =>
        rw [q, q2] at e
        cases e
        exact .cons (dr_of l h q) (drs_of l r q2)
end
theorem tp_dr {w : W} {v : V} {d : PyData} (l : Ls G H) (t : Tp K kc io G H w v) (e : toR w = some d) : Dr K H v d := by
  rcases t with t | ⟨a, o, rfl, ha, nd⟩
  · exact dr_of l t e
  · cases nd with
    | lst r =>
      unfold toR at e
      obtain ⟨ds, e1, rfl⟩ := Option.map_eq_some_iff.mp e
      exact .lst (.inl (.inl ha)) (drs_of l r e1)
    | dk r =>
      cases r with
      | nil => unfold toR at e; cases e; exact .dK (.inl ha)
      | cons _ _ => unfold toR at e; cases e
    | dt r =>
      cases r with
      | nil => unfold toR at e; cases e; exact .dT (.inl ha)
      | cons _ _ => unfold toR at e; cases e
    | ins _ _ => unfold toR at e; cases e
end
section
variable {X : Cx} {pins : List (Addr × Obj)} {σ : L2.St} {H : Hp} {s : Shared}
theorem dict0_at {a : Addr} (I : Inv X pins σ H s) (h : Rd H a (.dK []) ∨ Rd H a (.dT [])) : ∃ o n, s.heap.get? a = some o ∧ o.cls = .type "dict" ∧ o.data = .dict #[] n ∧ (a == sysModules) = false := by
  rcases h with h | h
  · obtain ⟨_, hs, vs, rel, dd⟩ := (show ObjOk X.prog X.w H s.heap a (.dK []) from h.ok I.hok)
    cases rel
    obtain ⟨es, ep, ⟨o, ho, hx, hd⟩, hsz, _⟩ := Heap.DictOf.raw dd
    have : es = #[] := Array.eq_empty_of_size_eq_zero hsz
    subst this
    exact ⟨o, ep, ho, hx.1, hd, hs⟩
  · obtain ⟨_, hs, xs, rel, o, es, ep, ho, hx, hd, hes, _⟩ := (show ObjOk X.prog X.w H s.heap a (.dT []) from h.ok I.hok)
    cases rel
    have : es = #[] := by
      apply Array.eq_empty_of_size_eq_zero
      rw [← Array.length_toList, hes]; rfl
    subst this
    exact ⟨o, ep, ho, hx.1, hd, hs⟩
mutual
theorem Dr.shw (I : Inv X pins σ H s) : ∀ (d : PyData) (v : V) (u : Value), Dr X.K H v d → RelV v u → Shw X.prog X.w s.heap u d
  | .none, _, _, h, r => by
    cases h; cases r
    exact ⟨⟨_, .none⟩, fun _ _ => ⟨[], (fun _ h => nomatch h), by simp only [PyData.shown]; exact .of_is ReprIs.none _ _ _⟩⟩
  | .bool b, _, _, h, r => by
    cases h; cases r
    exact ⟨⟨_, .bool b⟩, fun _ _ => ⟨[], (fun _ h => nomatch h), by simp only [PyData.shown]; exact .of_is (ReprIs.bool b) _ _ _⟩⟩
  | .int i, _, _, h, r => by
    cases h; obtain ⟨t, rfl⟩ := r
    exact ⟨⟨_, .int i t⟩, fun hs _ => ⟨[], (fun _ h => nomatch h), by simp only [PyData.shown]; exact .of_is (ReprIs.int t (by simpa [PyData.showable] using hs)) _ _ _⟩⟩
  | .str x, _, _, h, r => by
    cases h; obtain ⟨t, rfl⟩ := r
    exact ⟨⟨_, .str x t⟩, fun _ hz => ⟨[], (fun _ h => nomatch h), by simp only [PyData.shown]; exact .of_is (ReprIs.str x t (by simpa only [PyData.shown] using hz)) _ _ _⟩⟩
  | .list ds, _, _, h, r => by
    cases h with
    | lst hs ha =>
      cases r
      obtain ⟨its, rv, ⟨o, n, ho, hc, _, hd⟩, _⟩ := I.list hs
      exact shw_list ho hc hd (DrAll.shw I ds _ its ha rv)
  | .tuple ds, _, _, h, r => by
    cases h with
    | tup hs ha =>
      cases r
      obtain ⟨its, rv, ⟨o, ho, hc, n, hd⟩, _⟩ := I.tuple hs
      exact shw_tuple ho hc hd (DrAll.shw I ds _ its ha rv)
  | .dict [], _, _, h, r => by
    cases h with
    | dK e =>
      cases r
      obtain ⟨o, n, h1, h2, h3, h4⟩ := dict0_at I (.inl e)
      exact shw_dict0 h1 h2 h3 h4
    | dT e =>
      cases r
      obtain ⟨o, n, h1, h2, h3, h4⟩ := dict0_at I (.inr e)
      exact shw_dict0 h1 h2 h3 h4
  | .dict (_ :: _), _, _, h, _ => by cases h
theorem DrAll.shw (I : Inv X pins σ H s) : ∀ (ds : List PyData) (vs : List V) (us : List Value), DrAll X.K H vs ds → Vals vs us → ShwAll X.prog X.w s.heap us ds
  | [], _, _, h, r => by cases h; cases r; exact shw_nil
  | d :: ds, _, _, h, r => by
    cases h with
    | cons h1 h2 =>
      cases r with
      | cons r1 r2 => exact shw_cons (Dr.shw I d _ _ h1 r1) (DrAll.shw I ds _ _ h2 r2)
end
/-- repr(x) -/
def rReprD (K : PySem.W.Frag) : List V → Hp → VK → Prop := fun xs H Q => ∃ x d, xs = [x] ∧ Dr K H x d ∧ d.showable = true ∧ d.shown.length ≤ sizeLine ∧ d.depth ≤ 60 ∧ Q (.str d.shown) H
theorem call_reprD (hg : X.A.guards = some []) (hu : X.A.units + 64 < cLine) : CallR X (.builtin "repr") (rReprD X.K) := by
  intro pins s σ H xs us Q I r h
  obtain ⟨x, d, rfl, hd, hs, hz, hdep, q⟩ := h
  obtain ⟨u, rfl, ru⟩ := vals1 r
  have fin : ∀ (h' : Heap) (t tk : Tok), (∀ b o, s.heap.get? b = some o → h'.get? b = some o) → EP X pins σ Q (.str d.shown t) { s with heap := h', toks := tk } := fun h' t tk k => ⟨.str d.shown, H, I.kept (t' := tk) k, ⟨t, rfl⟩, q⟩
  cases hd with
  | non => cases ru; exact PySem.P.repr_of_none ⟨.str "None", H, I.tok _, ⟨_, rfl⟩, by simpa only [PyData.shown] using q⟩
  | bl b => cases ru; exact PySem.P.repr_of_bool ⟨.str (if b then "True" else "False"), H, I.tok _, ⟨_, rfl⟩, by simpa only [PyData.shown] using q⟩
  | int i => obtain ⟨t, rfl⟩ := ru; exact PySem.P.repr_of_int (by simpa [PyData.showable] using hs) ⟨.str (toString i), H, I.tok _, ⟨_, rfl⟩, by simpa only [PyData.shown] using q⟩
  | str x => obtain ⟨t, rfl⟩ := ru; exact PySem.P.repr_of_str ⟨.str (reprText x), H, I.tok _, ⟨_, rfl⟩, by simpa only [PyData.shown] using q⟩ (by simpa only [PyData.shown] using hz)
  | dK e =>
    cases ru
    obtain ⟨o, n, h1, h2, h3, h4⟩ := dict0_at I (.inl e)
    exact call_repr_slot (by omega) ⟨o, h1, h2⟩ F.slot_dict_repr (call_dict_reprK (as := []) (d := 0) (ps := []) h1 h2 h3 h4 (by simp) .nil hg (fun b _ => Clear.nil b) (by show X.A.units + 1 + (0 + 1) < cLine; omega) (fun _ _ e => e) (fun h' t tk k => ⟨_, _, rfl, fin h' t tk k⟩) (by simpa only [PyData.shown, PyData.shownKv] using hz))
  | dT e =>
    cases ru
    obtain ⟨o, n, h1, h2, h3, h4⟩ := dict0_at I (.inr e)
    exact call_repr_slot (by omega) ⟨o, h1, h2⟩ F.slot_dict_repr (call_dict_reprK (as := []) (d := 0) (ps := []) h1 h2 h3 h4 (by simp) .nil hg (fun b _ => Clear.nil b) (by show X.A.units + 1 + (0 + 1) < cLine; omega) (fun _ _ e => e) (fun h' t tk k => ⟨_, _, rfl, fin h' t tk k⟩) (by simpa only [PyData.shown, PyData.shownKv] using hz))
  | @lst a xs ds hq ha =>
    cases ru
    obtain ⟨its, rv, ⟨o, n, ho, hc, _, hda⟩, _⟩ := I.list hq
    obtain ⟨⟨as, r4⟩, k4⟩ := DrAll.shw I ds _ its ha rv
    have r : Reads s.heap (.ref a) (.list ds) _ := .list ho hc hda r4
    have hz' : (listText (PyData.shownAll ds)).length ≤ sizeLine := by simpa only [PyData.shown] using hz
    obtain ⟨bs, hb, hk⟩ := k4 (by simpa [PyData.showable] using hs) (fun t ht => Nat.le_trans (listText_mem_le ht) hz')
    have hna : a ∉ bs := not_mem_of_deeper r (by simp only [PyData.depth]; omega) hb
    simp only [PyData.depth] at hdep
    simp only [PyData.shown] at fin
    refine call_repr_slot (by omega) ⟨o, ho, hc⟩ F.slot_list_repr.toG ?_
    cases its with
    | nil =>
      have h4' : ReadsAll s.heap [] ds _ := r4
      cases h4'
      simp only [PyData.shownAll, listText_nil] at fin
      exact call_list_repr_empty ⟨o, ho, hc⟩ ho hda ⟨_, _, rfl, fin _ _ _ fun _ _ e => e⟩
    | cons x l =>
      exact call_list_reprK ho hc hda hna (by simpa using hk.length_eq) (fun i y e => hk.item i y (by simpa using e)) hg (fun b _ => Clear.nil b) (by show X.A.units + 1 + (PyData.depthAll ds + 1) < cLine; omega) (fun _ _ e => e) (fun h' t tk k => ⟨_, _, rfl, fin h' t tk k⟩) hz'
  | @tup a xs ds hq ha =>
    cases ru
    obtain ⟨its, rv, ⟨o, ho, hc, n, hda⟩, _⟩ := I.tuple hq
    obtain ⟨⟨as, r4⟩, k4⟩ := DrAll.shw I ds _ its ha rv
    have r : Reads s.heap (.ref a) (.tuple ds) _ := .tuple ho hc hda r4
    have hz' : (tupleText (PyData.shownAll ds)).length ≤ sizeLine := by simpa only [PyData.shown] using hz
    obtain ⟨bs, hb, hk⟩ := k4 (by simpa [PyData.showable] using hs) (fun t ht => Nat.le_trans (tupleText_mem_le ht) hz')
    have hna : a ∉ bs := not_mem_of_deeper r (by simp only [PyData.depth]; omega) hb
    simp only [PyData.depth] at hdep
    simp only [PyData.shown] at fin
    exact call_repr_slot (by omega) ⟨o, ho, hc⟩ F.slot_tuple_repr (call_tuple_reprK ho hc hda hna hk hg (fun b _ => Clear.nil b) (by show X.A.units + 1 + (PyData.depthAll ds + 1) < cLine; omega) (fun _ _ e => e) (fun h' t tk k => ⟨_, _, rfl, fin h' t tk k⟩) hz')
end
def reprW (w : W) : Option W := match toR w with
  | some d => if d.showable = true ∧ d.shown.length ≤ 16777216 ∧ d.depth ≤ 60 then some (.str d.shown) else none
  | none => none
theorem ck_repr {K : PySem.W.Frag} {kc : CT} : Call1K K kc (relE K kc) (rReprD K) reprW := by
  intro Wx Fz en st G io σ H w v S t
  unfold reprW
  cases q : toR w with
  | none => exact At.no
  | some d =>
    dsimp only
    split
    · rename_i h
      exact (At.pure S (Rp.str _)).mono fun Q hq => ⟨v, d, rfl, tp_dr S.gs t q, h.1, by rw [sizeLine_eq]; exact h.2.1, h.2.2, hq⟩
    · exact At.no
section
variable {X : Cx} {kc : CT} {Wx : WX} {e : Expr} {m : Hv} {p pos : Pos}
theorem ex_repr (gd : X.A.guards = some []) (hu : X.A.units + 80 < cLine) (hm : X.mg "repr" = none) (ha : HX X kc Wx [e] m) (hg : Gl X "repr" := by rfl) (he : starEach [e] X.env = (false, eval e X.env) :: starEach [] X.env := by rfl) :
    EX X kc Wx (.Call (.Name "repr" p) [e] [] pos) (E.call (one reprW) m) := ex_callB (call_reprD gd (by omega)) (callk1 ck_repr) hm (by kernel_rfl) ha hg (by decide) (by decide) he rfl
end
end MH

/-! Own ==, names set side by side, dict displays. -/
namespace MH
open PySem L2
/-! ### own == -/
section
variable {X : Cx}
/-- x == y where x's class has its own ==; it leaves no error -/
def rOwn (K : PySem.W.Frag) (C : Addr) (sp : Sp) : R2 := fun x y H Q => ∃ a dx fs t, x = .ref a ∧ H a = some (.ins C dx fs) ∧ TyX K H y t ∧ PySem.W.notFirst K C t = true ∧ sp [x, y] H (fun v H' => ∃ b, v = .bl b ∧ Q (.bl b) H') (fun _ _ _ => False)
theorem op_own {k : Nat} {C f : Addr} {fd : FuncData} {ps : List Str} {sp : Sp} (F : FnG X.prog X.w X.K X.mg X.base (L2.CX X.prog X.w) k f fd ps sp) (hs : PySem.W.findIn X.K (.ref C) "__eq__" = some (some (.ref f))) (hf : PySem.W.isFn X.K (.ref f) = true) (hb : PosB fd ps) (hr : Room k X.A) (gd : X.A.guards = some []) :
    OpR X (compareOp .Eq) (rOwn X.K C sp) := by
  intro pins s σ H x y u v Q I rx ry h
  obtain ⟨a, dx, fs, t, rfl, ha, ty, hn, hsp⟩ := h
  cases rx
  obtain ⟨mA, J, _⟩ := ins_get I.hok ha
  obtain ⟨od, J, _⟩ := J.look
  obtain ⟨Pk, Z, pk, _⟩ := kit_of I ry ty
  obtain ⟨m, hF⟩ := I.fr
  show wpAny (model X.prog X.w) X.A (richCompare .Eq (.ref a) v) (EP X pins σ Q) X.xe s
  refine PySem.W.cmp_K (op := .Eq) (tb := t) (by have := hr.un; omega) hF I.ok.mod.kin J (Z.ty _ _ I.kIn pk) hn hs hf ?_
  have r2 : Vals [V.ref a, y] [Value.ref a, v] := .cons rfl (.cons ry .nil)
  refine wpAny_mono (run_any (args := ⟨[.ref a, v], []⟩) (E := fun _ _ _ _ => False) F hr gd (hb s [.ref a, v] (by rw [← r2.length]; exact F.len _ _ _ _ hsp)) (passAt (W := fun _ _ _ _ => False) takes_none5 σ) I r2 hsp) (fun w s' q => ?_) fun _ _ e => e
  obtain ⟨z, H', I', rz, b, rfl, q⟩ := q
  cases rz
  exact ⟨.bl b, H', I', rfl, q⟩
end
theorem notFirst_of {K : PySem.W.Frag} {C : Addr} {t : Value} (h : PySem.W.kitOne K t (.ref C) = some false) : PySem.W.notFirst K C t = true := by
  unfold PySem.W.notFirst
  unfold PySem.W.kitOne at h
  split at h
  · cases h
  · unfold PySem.W.kitCls at h
    dsimp only at h
    split at h
    · rw [h]
      simp
    · cases h
noncomputable section
open Classical in
def ownEqW (il : List String) (c : String) (f : Fv) (w1 w2 : W) : Option W := match w1 with
  | .ins c' fs => if c' = c ∧ c ∈ il ∧ LF (.ins c' fs) ∧ LF w2 ∧ ((isiW il w2 (.cls c)).isSome = true) then (match f [.ins c' fs, w2] [] with
    | .ok (.bl b) _ => some (.bl b)
    | _ => none) else none
  | _ => none
end
theorem at_own {K : PySem.W.Frag} {kc : CT} {Wx : WX} {il : List String} {c : String} {C : Addr} {f : Fv} {Fz : Hp} {en : En} {st : Sto} {G : Hp} {io : List Addr} {σ : L2.St} {H : Hp} {x y : V} {w1 w2 : W} (T : IsiK K kc il) (hc : kc c = some C) (S : Sim K kc Fz en st G io σ H) (r1 : Rp K kc io G w1 x) (r2 : Rp K kc io G w2 y) :
    At K kc Wx (relE K kc) Fz en G io σ (lift (ownEqW il c f w1 w2) st) (fun Q => rOwn K C (spF K kc 2 f) x y H Q) := by
  have t1 : Tp K kc io G H w1 x := .inl r1
  have t2 : Tp K kc io G H w2 y := .inl r2
  unfold ownEqW
  split
  · rename_i c' fs
    split
    · rename_i h
      obtain ⟨rfl, hil, l1, l2, hi⟩ := h
      split
      · rename_i b st' e
        obtain ⟨a, C', dx, fv, rfl, hc', ha, rf⟩ := t1.ins S.gs
        rw [hc] at hc'
        cases hc'
        obtain ⟨bb, hbb⟩ := Option.isSome_iff_exists.mp hi
        have ty : ∃ t, TyX K H y t ∧ PySem.W.notFirst K C t = true := by
          unfold isiW at hbb
          dsimp only at hbb
          rw [if_pos hil] at hbb
          split at hbb
          · rename_i k' fs'
            split at hbb
            · rename_i hk'
              obtain ⟨C2, hc2, tx⟩ := ty_ins T S.gs t2 hk'
              refine ⟨_, tx, ?_⟩
              by_cases e : k' = c'
              · subst e
                rw [hc] at hc2
                cases hc2
                unfold PySem.W.notFirst
                simp
              · refine notFirst_of ?_
                rw [T.ii k' C2 c' C hk' hil hc2 hc]
                simp [e]
            · cases hbb
          · obtain ⟨t, e1, e2⟩ := Option.bind_eq_some_iff.mp hbb
            split at e2
            · rename_i ht
              exact ⟨_, ty_base S.gs t2 e1, notFirst_of (T.ti t c' C ht hil hc)⟩
            · cases e2
        obtain ⟨t, tx, nf⟩ := ty
        obtain ⟨Fz', S', back⟩ := S.iso
        show At K kc Wx (relE K kc) Fz en G io σ (.ok (.bl b) st) (fun Q => rOwn K C (spF K kc 2 f) (.ref a) y H Q)
        refine ⟨fun a' s e' Q hQ => ?_, fun _ _ _ e => (nomatch e)⟩
        cases e'
        refine ⟨a, dx, fv, t, rfl, ha, tx, nf, Fz', G, [], [], [.ins c' fs, w2], S', .cons (l1 _ _ _ _ _ _ r1) (.cons (l2 _ _ _ _ _ _ r2) .nil), rfl, (by rw [e]; intro z; cases z), fun w s2 e2 v G' io' H' lg p T2 rv => ?_, fun c2 fs2 s2 e2 => (by rw [e] at e2; cases e2)⟩
        rw [e] at e2
        cases e2
        cases rv
        obtain ⟨G2, lg2, T3, _⟩ := T2.giveUp
        exact ⟨b, rfl, hQ (.bl b) G2 io H' (lg.trans lg2) (pre_refl _) (back G2 H' (lg.trans lg2) T3) (.bl b)⟩
      · exact At.no
    · exact At.no
  · exact At.no

def E.own (f : W → W → Option W) (m k : Ev) : Ev := fun en st => (m en st).bind fun w1 s => (k en s).bind fun w2 s2 => lift (f w1 w2) s2
section
variable {X : Cx} {kc : CT} {Wx : WX} {a b : Expr} {pos : Pos}
theorem ex_own {il : List String} {c : String} {C g : Addr} {fd : FuncData} {ps : List Str} {k : Nat} {f : Fv} {m1 m2 : Ev} (T : IsiK X.K kc il) (hc : kc c = some C) (F : FnG X.prog X.w X.K X.mg X.base (L2.CX X.prog X.w) k g fd ps (spF X.K kc 2 f)) (hs : PySem.W.findIn X.K (.ref C) "__eq__" = some (some (.ref g))) (hf : PySem.W.isFn X.K (.ref g) = true) (hb : PosB fd ps) (hr : Room k X.A) (gd : X.A.guards = some []) (hm : behindInMarks .Eq b = false)
    (ha : EX X kc Wx a m1) (hb' : EX X kc Wx b m2) : EX X kc Wx (.Compare a [.Eq] [b] pos) (E.own (ownEqW il c f) m1 m2) := by
  obtain ⟨t1, a1, a2⟩ := ha
  obtain ⟨t2, b1, b2⟩ := hb'
  refine ⟨_, pe_cmpR (op_own F hs hf hb hr gd) a1 b1 hm, fun Fz en st G io σ H S => ?_⟩
  refine (a2 Fz en st G io σ H S).bind (u := fun x H1 Q => t2 σ H1 fun y H2 => rOwn X.K C (spF X.K kc 2 f) x y H2 Q) fun w1 s1 x G1 io1 H1 e1 l1 p1 S1 r1 => ?_
  refine (b2 Fz en s1 G1 io1 σ H1 S1).bind (u := fun y H2 Q => rOwn X.K C (spF X.K kc 2 f) x y H2 Q) fun w2 s2 y G2 io2 H2 e2 l2 p2 S2 r2 => ?_
  exact at_own T hc S2 (r1.mono l2 p2) r2
end
end MH

/-! Names set side by side; parts told apart; dict displays; texts repeated; min. -/
namespace MH
open PySem L2
section
variable {X : Cx} {kc : CT} {Wx : WX} {a b c e : Expr} {pos px py pz pt pt2 : Pos} {x y z : Str} {kt k2 : Nat}
/-- a, b = x, y -/
def Z.par (i j : Nat) (m k : Ev) : Sv := fun en st => (m en st).toS en fun w1 s1 => (k en s1).toS en fun w2 s2 => .ok .nx ((en.set i (some (false, w1))).set j (some (false, w2)), s2)
theorem sx_par (i j : Nat) {m k : Ev} (hc : X.calm = true) (hN : X.N.Nodup) (ha : EX X kc Wx a m) (hb : EX X kc Wx b k) (hi : X.N[i]? = some x := by rfl) (hj : X.N[j]? = some y := by rfl) (hij : i ≠ j := by decide) (hx : X.env.scope.names.lookup x = some .local := by rfl) (hy : X.env.scope.names.lookup y = some .local := by rfl)
    (h1 : starEach [a, b] X.env = (false, eval a X.env) :: starEach [b] X.env := by rfl) (h2 : starEach [b] X.env = (false, eval b X.env) :: starEach [] X.env := by rfl)
    (hw : swappedStores [.Tuple [.Name x px, .Name y py] kt pt] (.Tuple [a, b] k2 pt2) X.env = pure (some [x, y]) := by rfl) (hs : swapsWithSole [.Tuple [.Name x px, .Name y py] kt pt] (.Tuple [a, b] k2 pt2) pos.line X.env = pure false := by rfl) :
    SX X kc Wx (.Assign [.Tuple [.Name x px, .Name y py] kt pt] (.Tuple [a, b] k2 pt2) pos) (Z.par i j m k) := by
  obtain ⟨ta, a1, a2⟩ := ha
  obtain ⟨tb, b1, b2⟩ := hb
  refine ⟨_, ps_par hc hN hi hj hij hx hy (pa_cons a1 (pa_cons b1 pa_nil h2) h1) hw hs, fun Fz en st G io σ H S => ?_⟩
  refine (a2 Fz en st G io σ H S).toS (u := fun D v H1 => tb σ H1 fun w H2 => ∃ v' w', [v, w] = [v', w'] ∧ D.nx ((σ.set i (some v')).set j (some w')) H2) fun w1 s1 v G1 io1 H1 e1 l1 p1 S1 r1 => ?_
  refine (b2 Fz en s1 G1 io1 σ H1 S1).toS (u := fun D w H2 => ∃ v' w', [v, w] = [v', w'] ∧ D.nx ((σ.set i (some v')).set j (some w')) H2) fun w2 s2 w G2 io2 H2 e2 l2 p2 S2 r2 => ?_
  exact ⟨fun fl s e D hD => (by cases e; exact ⟨v, w, rfl, hD _ G2 io2 H2 (Le.refl _) (pre_refl _) ((S2.set (r1.mono l2 p2)).set r2)⟩), fun _ _ _ e => (nomatch e)⟩
/-- the second one the slot's own -/
def Z.parO (i j : Nat) (m k : Ev) : Sv := fun en st => (m en st).toS en fun w1 s1 => (k en s1).toS en fun w2 s2 => .ok .nx ((en.set j (some (true, w2))).set i (some (false, w1)), s2)
theorem sx_parO (i j : Nat) {m k : Ev} (hc : X.calm = true) (hN : X.N.Nodup) (ha : EX X kc Wx a m) (hb : FX X kc Wx b k) (hi : X.N[i]? = some x := by rfl) (hj : X.N[j]? = some y := by rfl) (hij : i ≠ j := by decide) (hx : X.env.scope.names.lookup x = some .local := by rfl) (hy : X.env.scope.names.lookup y = some .local := by rfl)
    (h1 : starEach [a, b] X.env = (false, eval a X.env) :: starEach [b] X.env := by rfl) (h2 : starEach [b] X.env = (false, eval b X.env) :: starEach [] X.env := by rfl)
    (hw : swappedStores [.Tuple [.Name x px, .Name y py] kt pt] (.Tuple [a, b] k2 pt2) X.env = pure (some [x, y]) := by rfl) (hs : swapsWithSole [.Tuple [.Name x px, .Name y py] kt pt] (.Tuple [a, b] k2 pt2) pos.line X.env = pure false := by rfl) :
    SX X kc Wx (.Assign [.Tuple [.Name x px, .Name y py] kt pt] (.Tuple [a, b] k2 pt2) pos) (Z.parO i j m k) := by
  obtain ⟨ta, a1, a2⟩ := ha
  obtain ⟨tb, b1, b2⟩ := hb
  refine ⟨_, ps_par hc hN hi hj hij hx hy (pa_cons a1 (pa_cons b1 pa_nil h2) h1) hw hs, fun Fz en st G io σ H S => ?_⟩
  refine (a2 Fz en st G io σ H S).toS (u := fun D v H1 => tb σ H1 fun w H2 => ∃ v' w', [v, w] = [v', w'] ∧ D.nx ((σ.set i (some v')).set j (some w')) H2) fun w1 s1 v G1 io1 H1 e1 l1 p1 S1 r1 => ?_
  refine (b2 Fz en s1 G1 io1 σ H1 S1).toS (u := fun D w H2 => ∃ v' w', [v, w] = [v', w'] ∧ D.nx ((σ.set i (some v')).set j (some w')) H2) fun w2 s2 w G2 io2 H2 e2 l2 p2 S2 r2 => ?_
  obtain ⟨p, o, rfl, hp, gp, fp, ip, ep, nd⟩ := r2
  refine ⟨fun fl s e D hD => ?_, fun _ _ _ e => (nomatch e)⟩
  cases e
  refine ⟨v, .ref p, rfl, hD _ G2 io2 H2 (Le.refl _) (pre_refl _) ?_⟩
  rw [List.set_comm _ _ hij]
  exact (S2.setOwn (i := j) hp gp fp ip ep nd).set (r1.mono l2 p2)
/-- a, b, c = x, y, z -/
def Z.par3 (i j l : Nat) (m k n : Ev) : Sv := fun en st => (m en st).toS en fun w1 s1 => (k en s1).toS en fun w2 s2 => (n en s2).toS en fun w3 s3 => .ok .nx (((en.set i (some (false, w1))).set j (some (false, w2))).set l (some (false, w3)), s3)
theorem sx_par3 (i j l : Nat) {m k n : Ev} (hc : X.calm = true) (hN : X.N.Nodup) (ha : EX X kc Wx a m) (hb : EX X kc Wx b k) (hcc : EX X kc Wx c n) (hi : X.N[i]? = some x := by rfl) (hj : X.N[j]? = some y := by rfl) (hl : X.N[l]? = some z := by rfl) (hij : i ≠ j := by decide) (hil : i ≠ l := by decide) (hjl : j ≠ l := by decide) (hx : X.env.scope.names.lookup x = some .local := by rfl) (hy : X.env.scope.names.lookup y = some .local := by rfl) (hz : X.env.scope.names.lookup z = some .local := by rfl)
    (h1 : starEach [a, b, c] X.env = (false, eval a X.env) :: starEach [b, c] X.env := by rfl) (h2 : starEach [b, c] X.env = (false, eval b X.env) :: starEach [c] X.env := by rfl) (h3 : starEach [c] X.env = (false, eval c X.env) :: starEach [] X.env := by rfl)
    (hw : swappedStores [.Tuple [.Name x px, .Name y py, .Name z pz] kt pt] (.Tuple [a, b, c] k2 pt2) X.env = pure (some [x, y, z]) := by rfl) (hs : swapsWithSole [.Tuple [.Name x px, .Name y py, .Name z pz] kt pt] (.Tuple [a, b, c] k2 pt2) pos.line X.env = pure false := by rfl) :
    SX X kc Wx (.Assign [.Tuple [.Name x px, .Name y py, .Name z pz] kt pt] (.Tuple [a, b, c] k2 pt2) pos) (Z.par3 i j l m k n) := by
  obtain ⟨ta, a1, a2⟩ := ha
  obtain ⟨tb, b1, b2⟩ := hb
  obtain ⟨tc, c1, c2⟩ := hcc
  refine ⟨_, ps_par3 hc hN hi hj hl hij hil hjl hx hy hz (pa_cons a1 (pa_cons b1 (pa_cons c1 pa_nil h3) h2) h1) hw hs, fun Fz en st G io σ H S => ?_⟩
  refine (a2 Fz en st G io σ H S).toS (u := fun D v H1 => tb σ H1 fun w H2 => tc σ H2 fun q H3 => ∃ v' w' q', [v, w, q] = [v', w', q'] ∧ D.nx (((σ.set i (some v')).set j (some w')).set l (some q')) H3) fun w1 s1 v G1 io1 H1 e1 l1 p1 S1 r1 => ?_
  refine (b2 Fz en s1 G1 io1 σ H1 S1).toS (u := fun D w H2 => tc σ H2 fun q H3 => ∃ v' w' q', [v, w, q] = [v', w', q'] ∧ D.nx (((σ.set i (some v')).set j (some w')).set l (some q')) H3) fun w2 s2 w G2 io2 H2 e2 l2 p2 S2 r2 => ?_
  refine (c2 Fz en s2 G2 io2 σ H2 S2).toS (u := fun D q H3 => ∃ v' w' q', [v, w, q] = [v', w', q'] ∧ D.nx (((σ.set i (some v')).set j (some w')).set l (some q')) H3) fun w3 s3 q G3 io3 H3 e3 l3 p3 S3 r3 => ?_
  exact ⟨fun fl s e D hD => (by cases e; exact ⟨v, w, q, rfl, hD _ G3 io3 H3 (Le.refl _) (pre_refl _) (((S3.set (r1.mono (l2.trans l3) (p2.trans p3))).set (r2.mono l3 p3)).set r3)⟩), fun _ _ _ e => (nomatch e)⟩
/-- target = e, the target a tuple of names -/
def Z.asg (bd : Bd) (m : Ev) : Sv := fun en st => (m en st).toS en fun w s => match bd w en with
  | some en' => .ok .nx (en', s)
  | none => .no
theorem sx_asg {tg : Expr} {ns : List Nat} {bd : Bd} {m : Ev} (h : EX X kc Wx e m) (hg : GX X kc tg ns bd) (hs : swapsWithSole [tg] e pos.line X.env = pure false := by rfl) (hw : swappedStores [tg] e X.env = pure none := by rfl) (h1 : (assignEach [tg] X.env).map (·.2) = [assign tg X.env] := by rfl) : SX X kc Wx (.Assign [tg] e pos) (Z.asg bd m) := by
  obtain ⟨t, e1, e2⟩ := h
  obtain ⟨⟨g, g1, g2⟩, g3⟩ := hg
  refine ⟨_, ps_asg e1 g1 hs hw h1, fun Fz en st G io σ H S => ?_⟩
  refine (e2 Fz en st G io σ H S).toS (u := fun D v H1 => g v σ H1 D.nx) fun w s1 v G1 io1 H1 e1 l1 p1 S1 r1 => ?_
  cases q : bd w en with
  | none => exact SAt.no
  | some en' => exact ⟨fun fl s e D hD => (by cases e; exact g2 Fz en s1 G1 io1 σ H1 w v en' S1 r1 q _ fun σ' S' _ => hD σ' G1 io1 H1 (Le.refl _) (pre_refl _) S'), fun _ _ _ e => (nomatch e)⟩
end
/-! ### dict displays -/
abbrev Qv := En → Sto → R Sto (List (W × W))
def relQ (K : PySem.W.Frag) (kc : CT) : Rel (List (W × W)) (List (V × V)) := fun _ io G _ _ _ ws vs => Paired (fun (p : W × W) (q : V × V) => Rp K kc io G p.1 q.1 ∧ Rp K kc io G p.2 q.2) ws vs
def QX (X : Cx) (kc : CT) (Wx : WX) (pos : Pos) (keys : List (Option Expr)) (values : List Expr) (m : Qv) : Prop := ∃ trs, PPs X pos keys values trs ∧ Oks X.K kc Wx (relQ X.K kc) m (tPairs trs)
def Q.nil : Qv := fun _ st => .ok [] st
def Q.cons (a b : Ev) (m : Qv) : Qv := fun en st => (a en st).bind fun x s => (b en s).bind fun y s1 => (m en s1).bind fun ps s2 => .ok ((x, y) :: ps) s2
section
variable {X : Cx} {kc : CT} {Wx : WX} {k v : Expr} {ks : List (Option Expr)} {vs : List Expr} {pos : Pos}
theorem qx_nil : QX X kc Wx pos [] [] Q.nil := ⟨[], pps_nil, fun Fz en st G io σ H S => At.pure S (rel := relQ X.K kc) .nil⟩
theorem relQ_mono {K : PySem.W.Frag} {io io' : List Addr} {G G' : Hp} (l : Le G G') (p : io <+: io') {ws : List (W × W)} {vs : List (V × V)} (h : Paired (fun (p : W × W) (q : V × V) => Rp K kc io G p.1 q.1 ∧ Rp K kc io G p.2 q.2) ws vs) : Paired (fun (p : W × W) (q : V × V) => Rp K kc io' G' p.1 q.1 ∧ Rp K kc io' G' p.2 q.2) ws vs := by
  induction h with
  | nil => exact .nil
  | cons h _ ih => exact .cons ⟨h.1.mono l p, h.2.mono l p⟩ ih
theorem qx_cons {a b : Ev} {m : Qv} (hk : EX X kc Wx k a) (hv : EX X kc Wx v b) (hr : QX X kc Wx pos ks vs m) : QX X kc Wx pos (some k :: ks) (v :: vs) (Q.cons a b m) := by
  obtain ⟨tk, k1, k2⟩ := hk
  obtain ⟨tv, v1, v2⟩ := hv
  obtain ⟨trs, r1, r2⟩ := hr
  refine ⟨(tk, tv) :: trs, pps_cons k1 v1 r1, fun Fz en st G io σ H S => ?_⟩
  refine (k2 Fz en st G io σ H S).bind (u := fun x H1 Q => tv σ H1 fun y H2 => tPairs trs σ H2 fun ps H3 => Q ((x, y) :: ps) H3) fun x s1 xv G1 io1 H1 e1 l1 p1 S1 q1 => ?_
  refine (v2 Fz en s1 G1 io1 σ H1 S1).bind (u := fun y H2 Q => tPairs trs σ H2 fun ps H3 => Q ((xv, y) :: ps) H3) fun y s2 yv G2 io2 H2 e2 l2 p2 S2 q2 => ?_
  refine (r2 Fz en s2 G2 io2 σ H2 S2).bind (u := fun ps H3 Q => Q ((xv, yv) :: ps) H3) fun ps s3 pv G3 io3 H3 e3 l3 p3 S3 q3 => ?_
  exact At.pure S3 (rel := relQ X.K kc) (.cons ⟨q1.mono (l2.trans l3) (p2.trans p3), q2.mono l3 p3⟩ q3)
def keysW : List (W × W) → Option (List (Key × W))
  | [] => some []
  | (k, w) :: r => match keyOf k, keysW r with
    | some k', some r' => some ((k', w) :: r')
    | _, _ => none
def mergeW (kws : List (W × W)) (more : List (Key × W)) : List (W × W) := more.foldl (fun acc p => putD acc p.1 p.2) kws
def E.dict (m : Qv) : Ev := fun en st => (m en st).bind fun ps s => match keysW ps with
  | some kws => if kws.length ≤ 15 then .ok (.dct false (mergeW [] kws)) s else .no
  | none => .no
theorem keysW_of {K : PySem.W.Frag} {io : List Addr} {G : Hp} : ∀ {ps : List (W × W)} {vs : List (V × V)} {kws : List (Key × W)}, Paired (fun (p : W × W) (q : V × V) => Rp K kc io G p.1 q.1 ∧ Rp K kc io G p.2 q.2) ps vs → keysW ps = some kws → ∃ kvs : List (Key × V), vs = kvs.map (fun kv => (kV kv.1, kv.2)) ∧ Paired (fun (p : Key × W) (q : Key × V) => p.1 = q.1 ∧ Rp K kc io G p.2 q.2) kws kvs
  | [], _, _, .nil, e => by cases e; exact ⟨[], rfl, .nil⟩
  | (k, w) :: ps, _, kws, .cons (b := q) h r, e => by
    unfold keysW at e
    cases e1 : keyOf k with
    | none => rw [e1] at e; cases e
    | some k' =>
      cases e2 : keysW ps with
      | none => rw [e1, e2] at e; cases e
      | some r' =>
        rw [e1, e2] at e
        cases e
        obtain ⟨kvs, rfl, h2⟩ := keysW_of r e2
        obtain ⟨q1, q2⟩ := q
        have hk : q1 = kV k' := by
          have := h.1
          rw [wk_keyOf e1] at this
          exact rp_wk this
        subst hk
        exact ⟨(k', q2) :: kvs, rfl, .cons ⟨rfl, h.2⟩ h2⟩
theorem merge_of {K : PySem.W.Frag} {io : List Addr} {G : Hp} {more : List (Key × W)} {mv : List (Key × V)} (h : Paired (fun (p : Key × W) (q : Key × V) => p.1 = q.1 ∧ Rp K kc io G p.2 q.2) more mv) : ∀ {kws : List (W × W)} {kvs : List (Key × V)}, RpD K kc io G kws kvs → RpD K kc io G (mergeW kws more) (mergeK kvs mv) := by
  induction h with
  | nil => intro kws kvs r; exact r
  | @cons p q ps qs h _ ih =>
    intro kws kvs r
    obtain ⟨k, w⟩ := p
    obtain ⟨k', v⟩ := q
    obtain ⟨e, hr⟩ := h
    cases e
    exact ih (r.put (k := k) hr)
theorem fx_dict {m : Qv} (h : QX X kc Wx pos ks vs m) (hall : ks.all (·.isSome) = true := by rfl) (hl : ks.length = vs.length := by rfl) (h0 : ks ≠ [] := by intro z; cases z) (h15 : ks.length ≤ 15 := by decide) : FX X kc Wx (.Dict ks vs pos) (E.dict m) := by
  obtain ⟨trs, h1, h2⟩ := h
  refine ⟨_, pe_disp h1 hall hl h0 h15, fun Fz en st G io σ H S => ?_⟩
  unfold E.dict
  refine ⟨fun w s' e Q hQ p hp => ?_, fun c fs s' e Q hQ p hp => ?_⟩
  · have S0 : Sim X.K kc (upd Fz p (.dK [])) en st G io σ (upd H p (.dK [])) := Sim.hold (fun _ z => nomatch z) S hp
    have fp := le_none S.fs hp
    cases q : m en st with
    | no => rw [q] at e; cases e
    | ex c fs s => rw [q] at e; cases e
    | ok ps s =>
      rw [q] at e
      have e : (match keysW ps with
        | some kws => if kws.length ≤ 15 then R.ok (W.dct false (mergeW [] kws)) s else R.no
        | none => R.no) = R.ok w s' := e
      cases q2 : keysW ps with
      | none => rw [q2] at e; cases e
      | some kws =>
        rw [q2] at e
        dsimp only at e
        split at e
        · rename_i hlen
          cases e
          refine (h2 _ en st G io σ _ S0).1 ps _ q _ fun pv G' io' H' l pr S' r => ?_
          obtain ⟨S1, hD, gD, iD, oD⟩ := S'.held fp
          obtain ⟨kvs, rfl, hk⟩ := keysW_of r q2
          refine ⟨hD, kvs, rfl, by rw [← Paired.length hk]; exact hlen, ?_⟩
          have S2 := S'.reheld (o' := .dK (mergeK [] kvs)) (fun _ z => nomatch z) fp
          obtain ⟨S3, hD3, gD3, iD3, oD3⟩ := S2.held fp
          exact hQ _ G' io' _ l pr S3 ⟨p, _, rfl, hD3, gD3, fp, iD3, oD3, .dk (merge_of hk .nil)⟩
        · cases e
  · have S0 : Sim X.K kc (upd Fz p (.dK [])) en st G io σ (upd H p (.dK [])) := Sim.hold (fun _ z => nomatch z) S hp
    have fp := le_none S.fs hp
    cases q : m en st with
    | no => rw [q] at e; cases e
    | ex c' fs' s =>
      rw [q] at e
      cases e
      exact (h2 _ en st G io σ _ S0).2 _ _ _ q _ fun C d G' io' H' kC l pr S' xo => hQ C d G' io' H' kC l pr (S'.held fp).1 xo
    | ok ps s =>
      rw [q] at e
      have e : (match keysW ps with
        | some kws => if kws.length ≤ 15 then R.ok (W.dct false (mergeW [] kws)) s else R.no
        | none => R.no) = R.ex c fs s' := e
      cases q2 : keysW ps with
      | none => rw [q2] at e; cases e
      | some kws => rw [q2] at e; dsimp only at e; split at e <;> cases e
end
end MH

/-! Texts repeated; the least of ints. -/
namespace MH
open PySem L2
section
variable {X : Cx} {kc : CT} {K : PySem.W.Frag}
def rMulS : R2 := fun x y H Q => ∃ s k, x = .str s ∧ y = .int k ∧ MulOk s k ∧ Q (.str (Txt.mul s k)) H
theorem op_mulS : OpR X (binaryOp .Mult) rMulS := by
  intro pins s σ H x y v u Q I rx ry h
  obtain ⟨z, k, rfl, rfl, hk, q⟩ := h
  obtain ⟨t, rfl⟩ := rx
  obtain ⟨t', rfl⟩ := ry
  exact SB.mul hk fun t' k => ⟨.str _, H, I.tok _, ⟨_, rfl⟩, q⟩
def mulS : W → W → Option W
  | .str s, .int k => if decide (0 ≤ k ∧ k ≤ 100000) && fit (s.length * k.toNat) then some (.str (Txt.mul s k)) else none
  | w, u => mulW w u
theorem op_mulSS {X : Cx} : OpR X (binaryOp .Mult) (fun x y H Q => rMulS x y H Q ∨ rMulW x y H Q) := op_mulS.or op_mulWW
theorem mulOk_of {s : Str} {k : Int} (h0 : 0 ≤ k) (h1 : k ≤ 100000) (h2 : fit (s.length * k.toNat) = true) : MulOk s k := by
  have h3 : s.length * k.toNat ≤ 100000 := of_decide_eq_true h2
  refine ⟨?_, fun h4 h5 => ?_, fun h4 h5 => ?_⟩
  · rw [Bool.or_eq_false_iff]
    exact ⟨decide_eq_false (by omega), decide_eq_false (by omega)⟩
  · have hk : 0 < k := by omega
    have : (s.length : Int) * k ≤ 100000 := by
      have e : ((s.length * k.toNat : Nat) : Int) = (s.length : Int) * k := by rw [Int.natCast_mul, Int.toNat_of_nonneg h0]
      omega
    intro z
    have : (2 ^ 63 - 1 : Int) / k * k ≤ 2 ^ 63 - 1 := Int.ediv_mul_le _ (by omega)
    have h6 : (2 ^ 63 - 1 : Int) / k ≥ 0 := Int.ediv_nonneg (by decide) h0
    have h7 : (2 ^ 63 - 1 : Int) < ((2 ^ 63 - 1 : Int) / k + 1) * k := Int.lt_ediv_add_one_mul_self _ hk
    have h8 : ((2 ^ 63 - 1 : Int) / k + 1) * k ≤ (s.length : Int) * k := Int.mul_le_mul_of_nonneg_right (by omega) h0
    omega
  · unfold Builtin.Str.tooLong
    have : (100000 : Nat) ≤ sizeLine := by decide
    simp only [gt_iff_lt, decide_eq_false_iff_not, Nat.not_lt]
    omega
theorem opk_mulS : OpK K kc (fun x y H Q => rMulS x y H Q ∨ rMulW x y H Q) mulS := by
  intro Wx Fz en st G io σ H x y w1 w2 S t1 t2
  unfold mulS
  split
  · rename_i z k
    cases t1.str; cases t2.int
    split
    · rename_i h
      rw [Bool.and_eq_true] at h
      obtain ⟨h1, h2⟩ := of_decide_eq_true h.1
      exact (At.pure S (Rp.str _)).mono fun Q q => .inl ⟨z, k, rfl, rfl, mulOk_of h1 h2 h.2, q⟩
    · exact At.no
  · exact (opk_mul Wx Fz en st G io σ H x y w1 w2 S t1 t2).mono fun Q q => .inr q
def minW : W → Option W
  | .lst ws => match intsW ws with
    | some (i :: is) => some (.int (is.foldl min i))
    | _ => none
  | _ => none
def maxW : W → Option W
  | .lst ws => match intsW ws with
    | some (i :: is) => some (.int (is.foldl max i))
    | _ => none
  | _ => none
theorem min_is (is : List Int) : ∀ (i : Int), is.foldl min i ∈ i :: is ∧ ∀ y, y ∈ i :: is → is.foldl min i ≤ y := by
  induction is with
  | nil => intro i; exact ⟨List.mem_cons_self, fun y h => by rcases List.mem_singleton.mp h with rfl; exact Int.le_refl _⟩
  | cons a is ih =>
    intro i
    obtain ⟨h1, h2⟩ := ih (min i a)
    rw [List.foldl_cons]
    refine ⟨?_, fun y h => ?_⟩
    · rcases List.mem_cons.mp h1 with h | h
      · rw [h]
        rcases Int.le_total i a with z | z
        · rw [Int.min_eq_left z]; exact List.mem_cons_self
        · rw [Int.min_eq_right z]; exact List.mem_cons_of_mem _ List.mem_cons_self
      · exact List.mem_cons_of_mem _ (List.mem_cons_of_mem _ h)
    · have h3 := h2 (min i a) List.mem_cons_self
      rcases List.mem_cons.mp h with rfl | h
      · omega
      · rcases List.mem_cons.mp h with rfl | h
        · omega
        · exact h2 y (List.mem_cons_of_mem _ h)
theorem max_is (is : List Int) : ∀ (i : Int), is.foldl max i ∈ i :: is ∧ ∀ y, y ∈ i :: is → y ≤ is.foldl max i := by
  induction is with
  | nil => intro i; exact ⟨List.mem_cons_self, fun y h => by rcases List.mem_singleton.mp h with rfl; exact Int.le_refl _⟩
  | cons a is ih =>
    intro i
    obtain ⟨h1, h2⟩ := ih (max i a)
    rw [List.foldl_cons]
    refine ⟨?_, fun y h => ?_⟩
    · rcases List.mem_cons.mp h1 with h | h
      · rw [h]
        rcases Int.le_total i a with z | z
        · rw [Int.max_eq_right z]; exact List.mem_cons_of_mem _ List.mem_cons_self
        · rw [Int.max_eq_left z]; exact List.mem_cons_self
      · exact List.mem_cons_of_mem _ (List.mem_cons_of_mem _ h)
    · have h3 := h2 (max i a) List.mem_cons_self
      rcases List.mem_cons.mp h with rfl | h
      · omega
      · rcases List.mem_cons.mp h with rfl | h
        · omega
        · exact h2 y (List.mem_cons_of_mem _ h)
theorem ck_min : Call1K K kc (relE K kc) (rMin K) minW := by
  intro Wx Fz en st G io σ H x w S t
  unfold minW
  split
  · rename_i ws
    split
    · rename_i i is e
      obtain ⟨a, vs, rfl, h1, r1⟩ := t.lst S.gs
      have := intsW_of r1 e
      subst this
      refine (At.pure S (Rp.int _)).mono fun Q q => ⟨a, i :: is, rfl, .inl (.inl h1), Nat.succ_pos _, fun m h2 h3 => ?_⟩
      have h4 := min_is is i
      have : m = is.foldl min i := by
        have a1 := h3 _ h4.1
        have a2 := h4.2 m h2
        omega
      rw [this]; exact q
    · exact At.no
  · exact At.no
theorem ck_max : Call1K K kc (relE K kc) (rMax K) maxW := by
  intro Wx Fz en st G io σ H x w S t
  unfold maxW
  split
  · rename_i ws
    split
    · rename_i i is e
      obtain ⟨a, vs, rfl, h1, r1⟩ := t.lst S.gs
      have := intsW_of r1 e
      subst this
      refine (At.pure S (Rp.int _)).mono fun Q q => ⟨a, i :: is, rfl, .inl (.inl h1), Nat.succ_pos _, fun m h2 h3 => ?_⟩
      have h4 := max_is is i
      have : m = is.foldl max i := by
        have a1 := h3 _ h4.1
        have a2 := h4.2 m h2
        omega
      rw [this]; exact q
    · exact At.no
  · exact At.no
end
end MH

/-! The law's own call: the guards of the outermost call are none. -/
namespace MH
open PySem L2 PySem.Spec PyProof.Rows
section
variable {P : Program} {w : World} {K : PySem.W.Frag} {mg mb : Str → Option Value}
/-- what is told of the heap H at the law's call: the script at most -/
structure Told (K : PySem.W.Frag) (s : Shared) (H : Hp) (a : Addr) : Prop where
  sole : ∀ b, H b ≠ none → b = a
  free : H a ≠ none → K.lookup a = none
  only : Only H
theorem told_none {s : Shared} {a : Addr} : Told K s (fun _ => none) a := ⟨fun _ z => (z rfl).elim, fun z => (z rfl).elim, fun _ => .inl rfl⟩
theorem env_told {s : Shared} {H : Hp} {a : Addr} {xs : Array Value} {ep : Nat} (T : Told K s H a) (hok : HOk P w H s.heap) (KX : K.In s.heap) (hns : s.heap.Ns mainGlobals mg) (hb : s.heap.Ns builtinsNs mb) (hbb : ∀ x : Str, x ≠ "__name__" → mb x = bootBuiltins x) (hlim : s.heap.NoLimit) (hg : s.gens = #[]) {o : Obj} (ha : s.heap.get? a = some o) (hd : o.data = .seq xs ep) :
    K.In (hidT s.heap H) ∧ (hidT s.heap H).Ns mainGlobals mg ∧ Env0 P w K mg (hidT s.heap H) callerA [] s H := by
  have ns : ∀ {b : Addr} {m : Str → Option Value}, s.heap.Ns b m → (hidT s.heap H).Ns b m := by
    rintro b m ⟨o', es, ep', e, d, r⟩
    refine ⟨o', es, ep', hidT_get e ?_, d, r⟩
    by_cases q : H b = none
    · exact q
    · have := T.sole b q
      subst this
      rw [ha] at e
      cases e
      rw [hd] at d
      cases d
  have kin : K.In (hidT s.heap H) := by
    intro b o' e
    refine hidT_get (KX b o' e) ?_
    by_cases q : H b = none
    · exact q
    · have := T.sole b q
      subst this
      rw [T.free q] at e
      cases e
  obtain ⟨mc, l1, l2⟩ := hlim
  refine ⟨kin, ns hns, rfl, ⟨kin, ns hns, ⟨mb, ns hb, hbb⟩, ⟨mc, ns l1, l2⟩⟩, fun b o e => of_hidT e, Nat.le_of_eq (hidT_size _ _), trivial, ?_, hok, .of_eq hg⟩
  intro b hb
  cases hb
theorem end_told {s s' : Shared} {H : Hp} {r : Result} {CX : CXT} (hO : Only H) (hok : HOk P w H s.heap) (hCX : ∀ e s', CX [] H s (fun _ _ _ => False) e s' → False) (h : CR CX [] P w H s (fun v _ => v = .bl true) (fun _ _ _ => False) r s') :
    r = .ok (.ret (.bool true)) ∧ OldK s.heap s'.heap ∧ s'.os = s.os ∧ AllBare s'.gens := by
  match r, h with
  | .error e, h => exact (hCX e s' h).elim
  | .ok .next, h => exact h.elim
  | .ok .brk, h => exact h.elim
  | .ok .cont, h => exact h.elim
  | .ok (.ret u), ⟨v, H', os, bare, un, hok', r', q⟩ =>
    have q' : v = .bl true := q
    subst q'
    have ru : u = Value.bool true := r'
    subst ru
    refine ⟨rfl, ?_, os, bare⟩
    refine OldK.of_keep fun b o e => ?_
    rcases hO b with q | ⟨ob, xs, q⟩
    · refine un.keep b o e q ?_ ?_
      · intro z; cases z
      · simp
    · have a1 := (hok b _ q).1
      have a2 := (hok' b _ (un.frzs b ob _ q)).1
      rw [e] at a1
      cases a1
      exact a2
theorem lawG {CX : CXT} {k : Nat} {fa a : Addr} {fd : FuncData} {x : Str} {sp : Sp} {s : Shared} {vs : List Value} {ns : List Int}
    (KX : K.In s.heap) (hns : s.heap.Ns mainGlobals mg) (hb : s.heap.Ns builtinsNs mb) (hbb : ∀ x : Str, x ≠ "__name__" → mb x = bootBuiltins x) (hlim : s.heap.NoLimit) (hg : s.gens = #[])
    (ha : s.heap.get? a = some { cls := .type "list", data := .seq vs.toArray }) (hi : IntsAre vs ns) (hl : ns.length ≤ sizeLine) (hr : Room k callerA)
    (F : ∀ base : Heap, K.In base → base.Ns mainGlobals mg → FnG P w K mg base CX k fa fd [x] sp) (hbind : ∀ (s : Shared) (u : Value), BindsTo s fd ⟨[u], []⟩ [(x, u)])
    (hsp : ∀ H : Hp, Only H → SqL K H a (ns.map V.int) → sp [.ref a] H (fun v _ => v = .bl true) fun _ _ _ => False)
    (hCX : ∀ H e s', CX [] H s (fun _ _ _ => False) e s' → False) :
    codeAny (model P w) callerA (.call (.ref fa) ⟨[.ref a], []⟩) (fun r s' => r = .ok (.ret (.bool true)) ∧ OldK s.heap s'.heap ∧ s'.os = s.os ∧ AllBare s'.gens) s := by
  have go : ∀ H : Hp, Told K s H a → SqL K H a (ns.map V.int) → HOk P w H s.heap → codeAny (model P w) callerA (.call (.ref fa) ⟨[.ref a], []⟩) (fun r s' => r = .ok (.ret (.bool true)) ∧ OldK s.heap s'.heap ∧ s'.os = s.os ∧ AllBare s'.gens) s := by
    intro H T hS hok
    obtain ⟨k1, k2, e0⟩ := env_told T hok KX hns hb hbb hlim hg ha rfl
    exact codeAny_mono ((F _ k1 k2).run callerA [] s H ⟨[.ref a], []⟩ [.ref a] [.ref a] _ _ hr rfl e0 (hbind s (.ref a)) (.cons rfl .nil) (hsp H T.only hS)) fun r s' h => end_told T.only hok (hCX H) h
  have lenV := hi.length
  have rv := vals_ints hi
  by_cases hk : K.lookup a = none
  · have hne : ∀ {b : Addr}, b ≠ a → upd (fun _ => none) a (.frz { cls := .type "list", data := .seq vs.toArray } (.lst (ns.map V.int))) b = none := fun hb => by rw [upd_ne hb]
    refine go (upd (fun _ => none) a (.frz { cls := .type "list", data := .seq vs.toArray } (.lst (ns.map V.int)))) ⟨fun b z => ?_, fun _ => hk, fun b => ?_⟩ (.inl (.inr ⟨_, upd_same⟩)) fun b u z => ?_
    · exact Classical.byContradiction fun q => z (hne q)
    · by_cases q : b = a
      · subst q; exact .inr ⟨_, _, upd_same⟩
      · exact .inl (hne q)
    · by_cases q : b = a
      · subst q
        rw [upd_same] at z
        cases z
        exact ⟨ha, by rw [List.length_map]; exact hl, vs, _, rv, ha⟩
      · rw [hne q] at z; cases z
  · obtain ⟨o, hk⟩ := Option.ne_none_iff_exists'.mp hk
    have e := KX a o hk
    rw [ha] at e
    cases e
    exact go _ told_none (.inr ⟨_, vs.toArray, _, hk, rfl, rfl, rfl, by rw [List.size_toArray, lenV]; exact hl, by simpa using rv⟩) fun b u z => nomatch z
end
theorem walkG {l : PySem.W.OpenLaw} {n k : Nat} {q : Program} {loose : List Str} {XP : (Str → Option Value) → Heap → Prop} {YP : World → Heap → Prop} {d : DefRec} {K : Params → PySem.W.Frag} {CX : World → CXT} {sp : World → Sp} {x : Str}
    (hn : l.most = some n) (hn2 : n ≤ sizeLine) (hdf : d.params.defaults = []) (hr : Room k callerA)
    (hY : ∀ (w : World) (h : Heap), YP w h → (K w.params).In h)
    (F : ∀ (w : World) (mg : Str → Option Value) (fa : Addr) (h : Heap), (K w.params).In h → h.Ns mainGlobals mg → mg d.name = some (.ref fa) →
      ∃ fd : FuncData, (∀ (s : Shared) (u : Value), BindsTo s fd ⟨[u], []⟩ [(x, u)]) ∧
        ∀ base : Heap, (K w.params).In base → base.Ns mainGlobals mg → FnG l.prog w (K w.params) mg base (CX w) k fa fd [x] (sp w))
    (hsp : ∀ (w : World) (H : Hp) (a : Addr) (ns : List Int), ns.length ≤ n → Only H → SqL (K w.params) H a (ns.map V.int) → sp w [.ref a] H (fun v _ => v = .bl true) fun _ _ _ => False)
    (hCX : ∀ (w : World) (H : Hp) (s : Shared) (e : Value) (s' : Shared), CX w [] H s (fun _ _ _ => False) e s' → False) :
    PySem.W.WalkO q loose XP YP l.row.toRowW d [] (fun f vs => PySem.call f vs) := by
  refine Att.attach_call hn hdf fun w s₀ s₁ mg mb fa o pm cd doc a vs ns G Y ho hd hcd hmg hobj hints hlen hg => ?_
  obtain ⟨fd, hb, hF⟩ := F w mg fa s₁.heap (hY w _ Y) G.T.g hmg
  refine lawG (hY w _ Y) G.T.g G.T.b G.T.builtins G.T.nolimit hg hobj hints (Nat.le_trans hlen hn2) hr hF hb ?_ fun H e s' => hCX w H s₁ e s'
  exact fun H hO hS => hsp w H a ns hlen hO hS
theorem room_caller {k : Nat} (h : k ≤ 200 := by decide) : Room k callerA := by
  refine ⟨rfl, ?_, ?_⟩
  · show 1 + claimMargin + 3 * k + 5 < recursionLimit
    have h1 : 1 + claimMargin + 3 * 200 + 5 < recursionLimit := by decide
    omega
  · show 4 + 16 * k + 200 < cLine
    have h1 : 4 + 16 * 200 + 200 < cLine := by decide
    omega
/-- the law's own promise from its function -/
theorem spF_law {K : PySem.W.Frag} {kc : CT} {f : Fv} {H : Hp} {a : Addr} {ns : List Int} (hO : Only H) (hS : SqL K H a (ns.map V.int)) (hf : ∃ st, f [.scr (ns.map .int)] [] = .ok (.bl true) st) : spF K kc 1 f [.ref a] H (fun v _ => v = .bl true) fun _ _ _ => False := by
  obtain ⟨st, hf⟩ := hf
  refine ⟨fun _ => none, H, [], [], [.scr (ns.map .int)], ⟨Ls.refl _, fun _ _ z => (nomatch z), fun _ _ z => (nomatch z), fun _ _ z => (nomatch z), rfl, List.nodup_nil, fun n w a e => by simp at e, fun i w e => by simp at e, fun i w e => by simp at e, fun i j a w w' e => by simp at e, rfl⟩, .cons (.scr hS (rp_ints ns)) .nil, rfl, (by rw [hf]; intro z; cases z), ?_, ?_⟩
  · intro w st' e v G' io' H' _ _ _ r
    rw [hf] at e
    cases e
    cases r
    rfl
  · intro c fs st' e
    rw [hf] at e
    cases e
end MH

/-! What a printed proof needs: bundles of facts, lengths, small rules. -/
namespace MH
open PySem L2
/-- a def of the module -/
structure DF (K : PySem.W.Frag) (mg : Str → Option Value) (x : Str) (st : Stmt) (ps : List Str) (f : Addr) (fd : FuncData) : Prop where
  F : Fun K x x st f fd
  m : mg x = some (.ref f)
  b : PosB fd ps
/-- a method -/
structure DM (K : PySem.W.Frag) (x qual : Str) (st : Stmt) (ps : List Str) (f : Addr) (fd : FuncData) : Prop where
  F : Fun K x qual st f fd
  b : PosB fd ps
def ALen (m : Av) (n : Nat) : Prop := ∀ en st ws s, m en st = .ok ws s → ws.length = n
theorem al_nil : ALen A.nil 0 := fun en st ws s e => by cases e; rfl
theorem al_cons {m : Ev} {k : Av} {n : Nat} (h : ALen k n) : ALen (A.cons m k) (n + 1) := fun en st ws s e => by
  unfold A.cons at e
  cases q : m en st with
  | no => rw [q] at e; cases e
  | ex c fs s1 => rw [q] at e; cases e
  | ok w s1 =>
    rw [q] at e
    have e : ((k en s1).bind fun ws s' => R.ok (w :: ws) s') = .ok ws s := e
    cases q2 : k en s1 with
    | no => rw [q2] at e; cases e
    | ex c fs s2 => rw [q2] at e; cases e
    | ok us s2 =>
      rw [q2] at e
      cases e
      rw [List.length_cons, h _ _ _ _ q2]
theorem al_mk {m : Av} {n : Nat} (h : ALen m n) : ∀ en st ws s, m en st = .ok ws s → ws.length + 1 = n + 1 := fun en st ws s e => by rw [h en st ws s e]
theorem hu1 {k : Nat} {A : Around} (hr : Room k A) : A.units + 1 < cLine := by have := hr.un; omega
theorem hu80 {k : Nat} {A : Around} (hr : Room k A) : A.units + 80 < cLine := by have := hr.un; omega
/-- targets that are a tuple of n names -/
theorem bt_nil : ∀ (ws : List W) (en en' : En), Bd.nil ws en = some en' → ws.length = 0 := fun ws en en' e => by
  cases ws with
  | nil => rfl
  | cons w ws => cases e
theorem bt_cons {b : Bd} {k : List W → En → Option En} {n : Nat} (h : ∀ ws en en', k ws en = some en' → ws.length = n) : ∀ ws en en', Bd.cons b k ws en = some en' → ws.length = n + 1 := fun ws en en' e => by
  cases ws with
  | nil => cases e
  | cons w ws =>
    have e : (b w en).bind (fun en1 => k ws en1) = some en' := e
    obtain ⟨en1, _, e2⟩ := Option.bind_eq_some_iff.mp e
    rw [List.length_cons, h ws en1 en' e2]
/-- the addresses of classes by their names -/
def kcT (l : List (String × Addr)) : CT := fun c => l.lookup c
def negW : W → Option W
  | .int i => some (.int (-i))
  | _ => none
def E.map (f : W → Option W) (m : Ev) : Ev := fun en st => (m en st).bind fun w s => lift (f w) s
theorem ex_neg {X : Cx} {kc : CT} {Wx : WX} {e : Expr} {pos : Pos} {m : Ev} (h : EX X kc Wx e m) : EX X kc Wx (.UnaryOp .USub e pos) (E.map negW m) := by
  obtain ⟨t, h1, h2⟩ := h
  refine ⟨_, pe_un un_neg h1, fun Fz en st G io σ H S => ?_⟩
  refine (h2 Fz en st G io σ H S).bind (u := fun x H1 Q => (rU fun i => .int (-i)) x H1 Q) fun w s1 x G1 io1 H1 e1 l1 p1 S1 r1 => ?_
  unfold negW
  split
  · cases r1
    exact (At.pure S1 (Rp.int _)).mono fun Q q => ⟨_, rfl, q⟩
  · exact At.no
def tupleW : W → Option W := fun w => match w with | .lst ws => some (.tup ws) | .scr ws => some (.tup ws) | .tup ws => some (.tup ws) | _ => none
theorem op_eqW {X : Cx} {k : Nat} (hr : Room k X.A) : OpR X (compareOp .Eq) (rEqD X.K) := op_eqD (by have := hr.un; omega)
theorem op_neW {X : Cx} {k : Nat} (hr : Room k X.A) : OpR X (compareOp .NotEq) (rNeD X.K) := op_neD (by have := hr.un; omega)
theorem op_insW {X : Cx} {k : Nat} (hr : Room k X.A) : OpR X (compareOp .In) (rIns X.K) := op_ins (by have := hr.un; omega)
theorem op_nisW {X : Cx} {k : Nat} (hr : Room k X.A) : OpR X (compareOp .NotIn) (rNis X.K) := op_nis (by have := hr.un; omega)
theorem op_ltDW {X : Cx} {k : Nat} (hr : Room k X.A) : OpR X (compareOp .Lt) (rLtD X.K) := op_ltData (by have := hr.un; omega)
theorem pl_one {X : Cx} {kc : CT} {c : String} {C : Addr} {f : Str} (h : Cls X.K C) (n : NoAttr X.K C f) (u : ∀ C', kc c = some C' → C' = C) : PlainC X kc [c] f := fun c' hc C' e => by
  cases List.mem_singleton.mp hc
  cases u C' e
  exact ⟨h, n⟩
section
variable {X : Cx} {kc : CT} {Wx : WX} {a b : Expr} {pos : Pos}
theorem tx_own {il : List String} {c : String} {C g : Addr} {fd : FuncData} {ps : List Str} {k : Nat} {f : Fv} {m1 m2 : Ev} (T : IsiK X.K kc il) (hc : kc c = some C) (F : FnG X.prog X.w X.K X.mg X.base (L2.CX X.prog X.w) k g fd ps (spF X.K kc 2 f)) (hs : PySem.W.findIn X.K (.ref C) "__eq__" = some (some (.ref g))) (hf : PySem.W.isFn X.K (.ref g) = true) (hb : PosB fd ps) (hr : Room k X.A) (gd : X.A.guards = some []) (hm : behindInMarks .Eq b = false)
    (ha : EX X kc Wx a m1) (hb' : EX X kc Wx b m2) : TX X kc Wx (.Compare a [.Eq] [b] pos) (MH.T.val (E.own (ownEqW il c f) m1 m2)) := by
  obtain ⟨t1, a1, a2⟩ := ha
  obtain ⟨t2, b1, b2⟩ := hb'
  refine ⟨_, pt_cmpR (op_own F hs hf hb hr gd) a1 b1 hm, oks_test fun Fz en st G io σ H S => ?_⟩
  refine (a2 Fz en st G io σ H S).bind (u := fun x H1 Q => t2 σ H1 fun y H2 => rOwn X.K C (spF X.K kc 2 f) x y H2 Q) fun w1 s1 x G1 io1 H1 e1 l1 p1 S1 r1 => ?_
  refine (b2 Fz en s1 G1 io1 σ H1 S1).bind (u := fun y H2 Q => rOwn X.K C (spF X.K kc 2 f) x y H2 Q) fun w2 s2 y G2 io2 H2 e2 l2 p2 S2 r2 => ?_
  exact at_own T hc S2 (r1.mono l2 p2) r2
end
theorem sx_tryL {X : Cx} {kc : CT} {Wx : WX} {body : List Stmt} {h₀ : ExceptHandler} {hds : List ExceptHandler} {l : List (Value × Hn)} {ks : List Hn} {pos : Pos} {m : Sv} (hs : X.stack = X.env :: X.outer) (hf : X.env.frame = some X.env.locals) (hN : X.N.Nodup) (tk : Takes X Wx)
    (hb : ∀ (W' : WX) (pn : List (Addr × Obj)) (xe : Value → Shared → Prop), Takes (X.tr pn xe) W' → PassesOwn (model X.prog X.w) X.A X.env xe → SXs (X.tr pn xe) kc W' body m)
    (hh : HnOk X kc (h₀ :: hds) l) (hl : l.map (·.2) = ks := by rfl) : SX X kc Wx (.Try body (h₀ :: hds) [] [] pos) (Z.try m ks) := hl ▸ sx_try hs hf hN tk hb hh
theorem FnG.weak {P : Program} {w : World} {K : PySem.W.Frag} {mg : Str → Option Value} {base : Heap} {CX : CXT} {k : Nat} {f : Addr} {fd : FuncData} {ps : List Str} {sp sp' : Sp} (F : FnG P w K mg base CX k f fd ps sp) (h : ∀ vs H Q E, sp' vs H Q E → sp vs H Q E) : FnG P w K mg base CX k f fd ps sp' :=
  ⟨fun vs H Q E z => F.len vs H Q E (h vs H Q E z), fun A outer s H args us vs Q E hr gd e0 hb r z => F.run A outer s H args us vs Q E hr gd e0 hb r (h vs H Q E z)⟩
/-- the law's promise, whatever the classes' addresses -/
def spL (K : PySem.W.Frag) (f : Fv) : Sp := fun vs H Q E => ∀ kc : CT, spF K kc 1 f vs H Q E
theorem kcT_mem {l : List (String × Addr)} {c : String} {C : Addr} (h : kcT l c = some C) : (c, C) ∈ l := by
  unfold kcT at h
  induction l with
  | nil => cases h
  | cons p r ih =>
    obtain ⟨d, D⟩ := p
    rw [List.lookup_cons] at h
    split at h
    · rename_i e
      cases h
      cases (beq_iff_eq.mp e)
      exact List.mem_cons_self
    · exact List.mem_cons_of_mem _ (ih h)
theorem cx_none {P : Program} {w : World} {outer : List Env} {H : Hp} {s s' : Shared} {e : Value} (h : L2.CX P w outer H s (fun _ _ _ => False) e s') : False := by
  obtain ⟨_, _, _, _, _, _, _, _, _, _, _, _, h⟩ := h
  exact h
theorem walkL {l : PySem.W.OpenLaw} {n k : Nat} {q : Program} {loose : List Str} {XP : (Str → Option Value) → Heap → Prop} {YP : World → Heap → Prop} {d : DefRec} {K : Params → PySem.W.Frag} {f : Fv} {x : Str}
    (hn : l.most = some n) (hn2 : n ≤ sizeLine) (hdf : d.params.defaults = []) (hr : Room k PySem.callerA)
    (hY : ∀ (w : World) (h : Heap), YP w h → (K w.params).In h)
    (F : ∀ (w : World) (mg : Str → Option Value) (fa : Addr) (h : Heap), (K w.params).In h → h.Ns mainGlobals mg → mg d.name = some (.ref fa) →
      ∃ fd : FuncData, (∀ (s : Shared) (u : Value), BindsTo s fd ⟨[u], []⟩ [(x, u)]) ∧
        ∀ base : Heap, (K w.params).In base → base.Ns mainGlobals mg → FnG l.prog w (K w.params) mg base (L2.CX l.prog w) k fa fd [x] (spL (K w.params) f))
    (hsp : ∀ (ns : List Int), ns.length ≤ n → ∃ st, f [.scr (ns.map .int)] [] = .ok (.bl true) st) :
    PySem.W.WalkO q loose XP YP l.row.toRowW d [] (fun f vs => PySem.call f vs) :=
  walkG (K := K) (CX := fun w => L2.CX l.prog w) (sp := fun w => spL (K w.params) f) hn hn2 hdf hr hY F (fun w H a ns hl hO hS kc => spF_law hO hS (hsp ns hl)) fun w H s e s' h => cx_none h
section
variable {K : PySem.W.Frag}
theorem kit_cls {t : Value} {C : Addr} {b : Bool} (i : PySem.W.isClsIn K C = true) (ty : PySem.W.typeIn K (.ref C) = some (.type "type")) (s : PySem.W.subIn K t (.ref C) = some b) (h : b = true ∨ (t == .ref C) = false) : PySem.W.kitOne K t (.ref C) = some b := by
  have i' : (PySem.W.clsIn K C).isSome = true := i
  unfold PySem.W.kitOne
  split
  · rename_i e
    rcases h with rfl | h
    · rfl
    · rw [h] at e; cases e
  · unfold PySem.W.kitCls
    dsimp only
    rw [i', ty]
    exact s
theorem kit_ty {C : Addr} {T : String} {b : Bool} (m : PySem.W.kitMeta T = true) (s : PySem.W.subIn K (.ref C) (.type T) = some b) : PySem.W.kitOne K (.ref C) (.type T) = some b := by
  unfold PySem.W.kitOne
  rw [if_neg (by intro z; cases (eq_of_beq z))]
  unfold PySem.W.kitCls
  dsimp only
  rw [m]
  exact s
theorem kit_ne {C D : Addr} (h1 : PySem.W.subIn K (.ref C) (.ref C) = some true) (h2 : PySem.W.subIn K (.ref C) (.ref D) = some false) : (Value.ref C == Value.ref D) = false := by
  cases e : (Value.ref C == Value.ref D) with
  | false => rfl
  | true =>
    have := eq_of_beq e
    cases this
    rw [h1] at h2
    cases h2
theorem ty_ne {n : String} {D : Addr} : (Value.type n == Value.ref D) = false := by
  cases e : (Value.type n == Value.ref D) with
  | false => rfl
  | true => cases (eq_of_beq e)
theorem exm_cls {r n : Addr} {b : Bool} (eb : PySem.W.subIn K (.ref n) (.type "BaseException") = some true) (i : PySem.W.isClsIn K n = true) (ty : PySem.W.typeIn K (.ref n) = some (.type "type")) (s : PySem.W.subIn K (.ref r) (.ref n) = some b) : PySem.W.exmOne K (.ref r) (.ref n) = some b := by
  have i' : (PySem.W.clsIn K n).isSome = true := i
  unfold PySem.W.exmOne
  rw [eb]
  unfold PySem.W.kitCls
  dsimp only
  rw [i', ty]
  exact s
end
end MH

/-! Reckoning with the functions: rewriting rules. -/
namespace MH
open PySem L2
section
variable {S A B : Type}
@[simp] theorem R.bind_okS {a : A} {s : S} {f : A → S → R S B} : (R.ok a s).bind f = f a s := rfl
@[simp] theorem R.bind_exS {c : String} {fs : List (Str × W)} {s : S} {f : A → S → R S B} : (R.ex c fs s : R S A).bind f = .ex c fs s := rfl
@[simp] theorem R.toS_okS {en : En} {a : A} {s : Sto} {k : A → Sto → R (En × Sto) Fl} : (R.ok a s).toS en k = k a s := rfl
@[simp] theorem R.toS_exS {en : En} {c : String} {fs : List (Str × W)} {s : Sto} {k : A → Sto → R (En × Sto) Fl} : (R.ex c fs s : R Sto A).toS en k = .ex c fs (en, s) := rfl
@[simp] theorem R.seq_nxS {s : En × Sto} {k : Sv} : (R.ok Fl.nx s).seq k = k s.1 s.2 := rfl
@[simp] theorem R.seq_rtS {s : En × Sto} {w : W} {k : Sv} : (R.ok (Fl.rt w) s).seq k = .ok (.rt w) s := rfl
@[simp] theorem R.seq_bkS {s : En × Sto} {k : Sv} : (R.ok Fl.bk s).seq k = .ok .bk s := rfl
@[simp] theorem R.seq_ctS {s : En × Sto} {k : Sv} : (R.ok Fl.ct s).seq k = .ok .ct s := rfl
@[simp] theorem R.seq_exS {c : String} {fs : List (Str × W)} {s : En × Sto} {k : Sv} : (R.ex c fs s).seq k = .ex c fs s := rfl
@[simp] theorem lift_someS {w : A} {st : Sto} : lift (some w) st = .ok w st := rfl
@[simp] theorem view_fzS {en : En} {st : Sto} {w : W} : view en st (.fz w) = deref st w := rfl
end
theorem toNat_inj : ∀ {a b : List Char}, a.map Char.toNat = b.map Char.toNat → a = b
  | [], [], _ => rfl
  | [], _ :: _, h => by cases h
  | _ :: _, [], h => by cases h
  | x :: a, y :: b, h => by
    rw [List.map_cons, List.map_cons] at h
    obtain ⟨h1, h2⟩ := List.cons.inj h
    rw [toNat_inj h2, Char.toNat_inj.mp h1]
@[simp] theorem ofString_iff {a b : String} : (Str.ofString a = Str.ofString b) ↔ a = b := by
  constructor
  · intro h
    rw [Str.ofString_eq_toList, Str.ofString_eq_toList] at h
    have h := Str.mk.inj h
    exact String.toList_inj.mp (toNat_inj (Array.mk.inj h))
  · rintro rfl; rfl
@[simp] theorem lookD_nilS {k : Key} : lookD [] k = none := rfl
@[simp] theorem lookD_strS {a b : Str} {v : W} {r : List (W × W)} : lookD ((.str a, v) :: r) (.inr b) = if a = b then some v else lookD r (.inr b) := by
  unfold lookD
  rw [List.find?_cons]
  by_cases h : a = b
  · subst h; simp [keyOf]
  · simp [keyOf, h]
@[simp] theorem lookT_nilS {k : List Key} : lookT [] k = none := rfl
@[simp] theorem lookT_consS {ks : List Key} {k : List Key} {v : W} {w : W} {r : List (W × W)} (h : keysOf w = some ks) : lookT ((w, v) :: r) k = if ks = k then some v else lookT r k := by
  unfold lookT
  rw [List.find?_cons]
  by_cases e : ks = k
  · subst e; simp [h]
  · simp [h, e]
@[simp] theorem forZ_nilS {bd : Bd} {b : Sv} {en : En} {st : Sto} : forZ bd b [] en st = .ok .nx (en, st) := rfl
theorem forZ_cons {bd : Bd} {b : Sv} {w : W} {ws : List W} {en en1 : En} {st : Sto} {s : En × Sto} (h1 : bd w en = some en1) (h2 : b en1 st = .ok .nx s) : forZ bd b (w :: ws) en st = forZ bd b ws s.1 s.2 := by
  rw [forZ, h1]
  dsimp only
  rw [h2]
theorem forZ_ret {bd : Bd} {b : Sv} {w : W} {ws : List W} {en en1 : En} {st : Sto} {s : En × Sto} {u : W} (h1 : bd w en = some en1) (h2 : b en1 st = .ok (.rt u) s) : forZ bd b (w :: ws) en st = .ok (.rt u) s := by
  rw [forZ, h1]
  dsimp only
  rw [h2]
theorem forZ_exS {bd : Bd} {b : Sv} {w : W} {ws : List W} {en en1 : En} {st : Sto} {s : En × Sto} {c : String} {fs : List (Str × W)} (h1 : bd w en = some en1) (h2 : b en1 st = .ex c fs s) : forZ bd b (w :: ws) en st = .ex c fs s := by
  rw [forZ, h1]
  dsimp only
  rw [h2]
@[simp] theorem lcZ_nilS {ns : List Nat} {bd : Bd} {t : Tv} {m : Ev} {en : En} {acc : List W} {st : Sto} : lcZ ns bd t m en [] acc st = .ok acc st := rfl
theorem lcZ_cons {ns : List Nat} {bd : Bd} {t : Tv} {m : Ev} {en en1 : En} {acc : List W} {st s s' : Sto} {w x : W} {ws : List W} (h1 : bd w (wipeE en ns) = some en1) (h2 : t en1 st = .ok true s) (h3 : m en1 s = .ok x s') (h4 : acc.length ≤ 100000) : lcZ ns bd t m en (w :: ws) acc st = lcZ ns bd t m en ws (acc ++ [x]) s' := by
  rw [lcZ, h1]
  dsimp only
  rw [h2]
  dsimp only
  rw [h3]
  dsimp only
  exact if_pos (decide_eq_true h4)
theorem lcZ_skip {ns : List Nat} {bd : Bd} {t : Tv} {m : Ev} {en en1 : En} {acc : List W} {st s : Sto} {w : W} {ws : List W} (h1 : bd w (wipeE en ns) = some en1) (h2 : t en1 st = .ok false s) : lcZ ns bd t m en (w :: ws) acc st = lcZ ns bd t m en ws acc s := by
  rw [lcZ, h1]
  dsimp only
  rw [h2]
/-- a comprehension of pure items -/
theorem lcZ_map {ns : List Nat} {bd : Bd} {m : Ev} {en : En} {st : Sto} {f : W → W} : ∀ {ws acc : List W}, (∀ w ∈ ws, ∃ en1, bd w (wipeE en ns) = some en1 ∧ m en1 st = .ok (f w) st) → acc.length + ws.length ≤ 100000 → lcZ ns bd T.yes m en ws acc st = .ok (acc ++ ws.map f) st
  | [], acc, _, _ => by rw [List.map_nil, List.append_nil]; rfl
  | w :: ws, acc, h, hl => by
    obtain ⟨en1, h1, h2⟩ := h w List.mem_cons_self
    rw [List.length_cons] at hl
    rw [lcZ_cons h1 rfl h2 (by omega), lcZ_map (fun w hw => h w (List.mem_cons_of_mem _ hw)) (by rw [List.length_append, List.length_singleton]; omega), List.map_cons, List.append_assoc, List.singleton_append]
end MH

/-! List items stored, starred parts, op=, chains. -/
namespace MH
open PySem L2
section
variable {X : Cx} {kc : CT} {Wx : WX} {e o i : Expr} {es : List Expr} {pos p_ : Pos}
theorem PX.pe {m : Pv} (h : PX X kc Wx e m) : PE X e (can X.K kc Wx (relP X.K kc) m) := by
  obtain ⟨t, h1, h2⟩ := h
  exact ⟨fun pins s σ H Q I c => h1.run pins s σ H Q I (can_of h2 c)⟩
theorem sx_lputX {value : Expr} {p q : Pv} {m : Ev} {pos' : Pos} (ho : PX X kc Wx o p) (hi : PX X kc Wx i q) (hv : EX X kc Wx value m) (hs : swapsWithSole [.Subscript o i pos'] value pos.line X.env = pure false := by rfl) (hw : swappedStores [.Subscript o i pos'] value X.env = pure none := by rfl)
    (h1 : (assignEach [.Subscript o i pos'] X.env).map (·.2) = [assign (.Subscript o i pos') X.env] := by rfl)
    (ha : ∀ v, assign (.Subscript o i pos') X.env v = (do
      let ov ← holding [v] (eval o X.env)
      let iv ← holding [v, ov] (eval i X.env)
      standAt pos'
      holding [v, ov, iv] (setItem ov iv v)
      release [v, ov, iv] []) := by intro _; rfl) : SX X kc Wx (.Assign [.Subscript o i pos'] value pos) (Z.lput p q m) :=
  sx_lput ho hi hv (pg_sub ho.pe hi.pe set_list ha) hs hw h1
/-! ### *e -/
theorem vals_of : ∀ {xs : List V} {us : List Value}, us.length = xs.length → (∀ (j : Nat) (v : V) (u : Value), xs[j]? = some v → us[j]? = some u → RelV v u) → Vals xs us
  | [], [], _, _ => .nil
  | [], _ :: _, h, _ => by simp at h
  | _ :: _, [], h, _ => by simp at h
  | x :: xs, u :: us, h, k => .cons (k 0 x u rfl rfl) (vals_of (by simpa using h) fun j v u hv hu => k (j + 1) v u (by simpa using hv) (by simpa using hu))
theorem star_str {pins : List (Addr × Obj)} {σ : L2.St} {H : Hp} {s : Shared} {z : Str} {t : Tok} {E : Value → Shared → Prop} {Q : List Value → Shared → Prop} (hh : X.A.handled = none) (I : Inv X pins σ H s) (hz : z.length ≤ sizeLine) (hQ : ∀ us s', Inv X pins σ H s' → Vals (strVs z) us → Q us s') : PySem.W.StarOf (model X.prog X.w) X.A E (.str z t) Q s := by
  have cl : wpAny (model X.prog X.w) X.A (collect (.str z t)) Q E s := by
    refine wpAny_collect_str hh z t (fun s' acc hk h1 h2 h3 it => ?_) hz
    refine hQ _ _ ?_ ?_
    · have := I.kept (h' := s'.heap) (t' := s'.toks) hk
      obtain ⟨hp, g, d, tk, os⟩ := s'
      simp only at h1 h2 h3
      subst h1; subst h2; subst h3
      exact this
    · obtain ⟨hsz, hit⟩ := it
      refine vals_of ?_ ?_
      · simp [strVs, hsz]
      intro j v u hv hu
      rw [Array.getElem?_toList] at hu
      obtain ⟨c, w, hc, rfl⟩ := hit j u hu
      unfold strVs at hv
      rw [List.getElem?_map] at hv
      have : z.cps.toList[j]? = some c := by rw [Array.getElem?_toList]; exact hc
      rw [this] at hv
      cases hv
      exact ⟨w, rfl⟩
  unfold PySem.W.StarOf notIterableAtAll
  exact wpAny_bind (wpAny_specialOf (T := "str") (v := .str z t) rfl PySem.F.slot_str_iter.lookup (wpAny_pure ⟨rfl, cl⟩))
def tStarW (K : PySem.W.Frag) (te : TE) (t : TA) : TA := fun σ H Q => te σ H fun x H1 => (∃ p xs, x = V.ref p ∧ (SqT K H1 p xs ∨ SqL K H1 p xs) ∧ t σ H1 fun ys H2 => Q (xs ++ ys) H2) ∨ ∃ z, x = .str z ∧ z.length ≤ sizeLine ∧ t σ H1 fun ys H2 => Q (strVs z ++ ys) H2
theorem pa_starW {te : TE} {t : TA} (hc : X.calm = true) (he : PE X e te) (hr : PA X es t) (hs : starEach (.Starred e p_ :: es) X.env = (true, eval e X.env) :: starEach es X.env := by rfl) : PA X (.Starred e p_ :: es) (tStarW X.K te t) := by
  refine ⟨fun pos pins s σ H Q I h => ?_⟩
  refine PySem.W.items_star (thn (he.run pins s σ H _ I h) fun v s1 ⟨y, H1, I1, ry, hh⟩ => ?_) hs
  rcases hh with ⟨a, xs, ey, hx, q⟩ | ⟨z, ey, hz, q⟩
  · subst ey
    obtain rfl : v = Value.ref a := ry
    refine StX.star_any I1 hx fun us s2 I2 rv => ?_
    exact thn (hr.run pos pins s2 σ H1 _ I2 q) fun ws s3 ⟨vs, H3, I3, r3, q3⟩ => ⟨xs ++ vs, H3, I3, rv.append r3, q3⟩
  · subst ey
    obtain ⟨t', rfl⟩ := ry
    refine star_str (I1.ok.hd hc) I1 hz fun us s2 I2 rv => ?_
    exact thn (hr.run pos pins s2 σ H1 _ I2 q) fun ws s3 ⟨vs, H3, I3, r3, q3⟩ => ⟨strVs z ++ vs, H3, I3, rv.append r3, q3⟩
def starO : W → Option (List W)
  | .lst ws => some ws
  | .scr ws => some ws
  | .tup ws => some ws
  | .stp ws => some ws
  | .str z => if fit z.length then some (chars z) else none
  | _ => none
def A.star (m : Pv) (k : Av) : Av := fun en st => (m en st).bind fun h s => (lift (starO (view en s h)) s).bind fun ws s1 => (k en s1).bind fun us s2 => .ok (ws ++ us) s2
theorem rpL_chars {K : PySem.W.Frag} {io : List Addr} {G : Hp} (z : Str) : RpL K kc io G (chars z) (strVs z) := by
  unfold chars strVs
  induction z.cps.toList with
  | nil => exact .nil
  | cons c cs ih => exact .cons (.str _) ih
theorem ax_star {m : Pv} {k : Av} (hc : X.calm = true) (h : PX X kc Wx e m) (h' : AX X kc Wx es k) (hs : starEach (.Starred e p_ :: es) X.env = (true, eval e X.env) :: starEach es X.env := by rfl) : AX X kc Wx (.Starred e p_ :: es) (A.star m k) := by
  obtain ⟨t, h1, h2⟩ := h
  obtain ⟨t', h1', h2'⟩ := h'
  refine ⟨_, pa_starW hc h1 h1' hs, fun Fz en st G io σ H S => ?_⟩
  refine (h2 Fz en st G io σ H S).bind (u := fun x H1 Q => (∃ p xs, x = V.ref p ∧ (SqT X.K H1 p xs ∨ SqL X.K H1 p xs) ∧ t' σ H1 fun ys H2 => Q (xs ++ ys) H2) ∨ ∃ z, x = .str z ∧ z.length ≤ sizeLine ∧ t' σ H1 fun ys H2 => Q (strVs z ++ ys) H2) fun hd s1 x G1 io1 H1 e1 l1 p1 S1 r1 => ?_
  have tk := view_of S1 r1
  have fin : ∀ (ws : List W) (xs : List V), RpL X.K kc io1 G1 ws xs → At X.K kc Wx (relA X.K kc) Fz en G1 io1 σ ((lift (some ws) s1).bind fun ws s1 => (k en s1).bind fun us s2 => .ok (ws ++ us) s2) (fun Q => t' σ H1 fun ys H2 => Q (xs ++ ys) H2) := fun ws xs r => by
    show At X.K kc Wx (relA X.K kc) Fz en G1 io1 σ ((k en s1).bind fun us s2 => .ok (ws ++ us) s2) _
    refine (h2' Fz en s1 G1 io1 σ H1 S1).bind (u := fun ys H2 Q => Q (xs ++ ys) H2) fun us s2 ys G2 io2 H2 e2 l2 p2 S2 r2 => ?_
    exact At.pure S2 (rel := relA X.K kc) ((r.mono l2 p2).append r2)
  generalize view en s1 hd = w at tk
  unfold starO
  split
  · obtain ⟨a, xs, rfl, ha, r⟩ := tk.lst S1.gs
    exact (fin _ _ r).mono fun Q z => .inl ⟨a, xs, rfl, .inr (.inl (.inl ha)), z⟩
  · obtain ⟨a, xs, rfl, ha, r⟩ := tk.scr S1.gs
    exact (fin _ _ r).mono fun Q z => .inl ⟨a, xs, rfl, .inr ha, z⟩
  · obtain ⟨a, xs, rfl, ha, r⟩ := tk.tup S1.gs
    exact (fin _ _ r).mono fun Q z => .inl ⟨a, xs, rfl, .inl (.inl (.inl ha)), z⟩
  · obtain ⟨a, xs, rfl, ha, r⟩ := tk.stp S1.gs
    exact (fin _ _ r).mono fun Q z => .inl ⟨a, xs, rfl, .inl ha, z⟩
  · rename_i z
    cases tk.str
    split
    · rename_i hf
      exact (fin _ _ (rpL_chars z)).mono fun Q q => .inr ⟨z, rfl, fit_line hf, q⟩
    · exact At.no
  · exact At.no
end
end MH

namespace MH
open PySem L2
section
variable {X : Cx} {kc : CT} {Wx : WX} {a b c e o : Expr} {es : List Expr} {pos p_ : Pos}
/-! ### name op= e -/
def addA : W → W → Option W
  | .int i, .int j => some (.int (i + j))
  | .str x, .str y => if fit (x.length + y.length) then some (.str (x ++ y)) else none
  | _, _ => none
def Z.aug (i : Nat) (f : W → W → Option W) (m : Ev) : Sv := fun en st => match en[i]? with
  | some (some (false, w0)) => (m en st).toS en fun w s => match f w0 w with
    | some u => .ok .nx (en.set i (some (false, u)), s)
    | none => .no
  | _ => .no
def IpK (K : PySem.W.Frag) (kc : CT) (r : TIp) (f : W → W → Option W) : Prop := ∀ io G H w1 w2 x y u, Rp K kc io G w1 x → Rp K kc io G w2 y → f w1 w2 = some u → ∃ v, Rp K kc io G u v ∧ ∀ Q : VK, Q v H → r x y H Q
theorem ip_addA : PIp X .Add (fun x y H Q => ipI (fun i j => i + j) x y H Q ∨ rAddS x y H Q) := by
  intro pins s σ H x y v u Q I r1 r2 h
  rcases h with h | h
  · exact ip_add pins s σ H x y v u Q I r1 r2 h
  · exact in_addS pins s σ H x y v u Q I r1 r2 h
theorem ipk_add {K : PySem.W.Frag} : IpK K kc (fun x y H Q => ipI (fun i j => i + j) x y H Q ∨ rAddS x y H Q) addA := by
  intro io G H w1 w2 x y u r1 r2 e
  unfold addA at e
  split at e
  · cases e; cases r1; cases r2
    exact ⟨_, .int _, fun Q q => .inl ⟨_, _, rfl, rfl, q⟩⟩
  · split at e
    · rename_i hf
      cases e; cases r1; cases r2
      exact ⟨_, .str _, fun Q q => .inr ⟨_, _, rfl, rfl, fit_line hf, q⟩⟩
    · cases e
  · cases e
theorem ipk_sub {K : PySem.W.Frag} : IpK K kc (ipI fun i j => i - j) subW := by
  intro io G H w1 w2 x y u r1 r2 e
  unfold subW at e
  split at e
  · cases e; cases r1; cases r2
    exact ⟨_, .int _, fun Q q => ⟨_, _, rfl, rfl, q⟩⟩
  · cases e
theorem sx_aug (i : Nat) {x : Str} {m : Ev} {pos' : Pos} {op : Operator} {r : TIp} {f : W → W → Option W} (hN : X.N.Nodup) (hp : PIp X op r) (hk : IpK X.K kc r f) (h : EX X kc Wx e m) (hi : X.N[i]? = some x := by rfl) (hx : Loc X.env.scope x := by first | exact Or.inl rfl | exact Or.inr rfl) (hf : X.fn x = true ∨ X.env.scope.names.lookup x = some .local := by first | exact .inl rfl | exact .inr rfl | assumption) :
    SX X kc Wx (.AugAssign (.Name x pos') op e pos) (Z.aug i f m) := by
  obtain ⟨t, h1, h2⟩ := h
  refine ⟨_, ps_aug hN hi hx h1 hp hf, fun Fz en st G io σ H S => ?_⟩
  unfold Z.aug
  split
  · rename_i w0 he
    obtain ⟨v0, es0, r0⟩ := S.sl i w0 he
    have key := (h2 Fz en st G io σ H S).toS (k := fun w s => match f w0 w with
      | some u => .ok .nx (en.set i (some (false, u)), s)
      | none => .no) (u := fun D y H1 => r v0 y H1 fun z H2 => D.nx (σ.set i (some z)) H2) (fun w s1 y G1 io1 H1 e1 l1 p1 S1 r1 => by
      cases q : f w0 w with
      | none => exact SAt.no
      | some u =>
        obtain ⟨v, rv, hv⟩ := hk io1 G1 H1 w0 w v0 y u (r0.mono l1 p1) r1 q
        exact ⟨fun fl s e D hD => (by cases e; exact hv _ (hD _ G1 io1 H1 (Le.refl _) (pre_refl _) (Sim.set S1 rv))), fun _ _ _ e => (nomatch e)⟩)
    exact ⟨fun fl s e D hD => ⟨v0, es0, key.1 fl s e D hD⟩, fun c' fs s e hX D => ⟨v0, es0, key.2 c' fs s e hX D⟩⟩
  · exact SAt.no
/-! ### a < b < c -/
def E.chain (f g : W → W → Option W) (p q r : Pv) : Ev := fun en st => (p en st).bind fun h1 s1 => (q en s1).bind fun h2 s2 => (lift (f (view en s2 h1) (view en s2 h2)) s2).bind fun w s3 => match w with
  | .bl true => (r en s3).bind fun h3 s4 => lift (g (view en s4 h2) (view en s4 h3)) s4
  | .bl false => .ok (.bl false) s3
  | _ => .no
theorem ex_chain {op op' : CmpOp} {r r' : R2} {f g : W → W → Option W} {ma mb mc : Pv} (ho : OpR X (compareOp op) r) (hk : OpK X.K kc r f) (ho' : OpR X (compareOp op') r') (hk' : OpK X.K kc r' g) (ha : PX X kc Wx a ma) (hb : PX X kc Wx b mb) (hc : PX X kc Wx c mc)
    (hm : lastMarks [op, op'] [b, c] = false := by with_unfolding_all rfl) : EX X kc Wx (.Compare a [op, op'] [b, c] pos) (E.chain f g ma mb mc) := by
  obtain ⟨ta, a1, a2⟩ := ha
  obtain ⟨tb, b1, b2⟩ := hb
  obtain ⟨tc, c1, c2⟩ := hc
  refine ⟨_, pe_chain ho ho' a1 b1 c1 hm, fun Fz en st G io σ H S => ?_⟩
  refine (a2 Fz en st G io σ H S).bind (u := fun x H1 Q => tb σ H1 fun y H2 => r x y H2 fun z H3 => ∃ k, z = .bl k ∧ (if k = true then tc σ H3 fun w' H4 => r' y w' H4 Q else Q (.bl false) H3)) fun h1 s1 x G1 io1 H1 e1 l1 p1 S1 r1 => ?_
  refine (b2 Fz en s1 G1 io1 σ H1 S1).bind (u := fun y H2 Q => r x y H2 fun z H3 => ∃ k, z = .bl k ∧ (if k = true then tc σ H3 fun w' H4 => r' y w' H4 Q else Q (.bl false) H3)) fun h2 s2 y G2 io2 H2 e2 l2 p2 S2 r2 => ?_
  refine (hk Wx Fz en s2 G2 io2 σ H2 x y _ _ S2 (view_of S2 (HdOk.mono l2 p2 r1)) (view_of S2 r2)).bind (u := fun z H3 Q => ∃ k, z = .bl k ∧ (if k = true then tc σ H3 fun w' H4 => r' y w' H4 Q else Q (.bl false) H3)) fun w s3 z G3 io3 H3 e3 l3 p3 S3 r3 => ?_
  split
  · cases r3
    have key : At X.K kc Wx (relE X.K kc) Fz en G3 io3 σ ((mc en s3).bind fun h3 s4 => lift (g (view en s4 h2) (view en s4 h3)) s4) (fun Q => tc σ H3 fun w' H4 => r' y w' H4 Q) := by
      refine (c2 Fz en s3 G3 io3 σ H3 S3).bind (u := fun w' H4 Q => r' y w' H4 Q) fun h3 s4 w' G4 io4 H4 e4 l4 p4 S4 r4 => ?_
      exact hk' Wx Fz en s4 G4 io4 σ H4 y w' _ _ S4 (view_of S4 (HdOk.mono (l3.trans l4) (p3.trans p4) r2)) (view_of S4 r4)
    exact key.mono fun Q q => ⟨_, rfl, (by rw [if_pos rfl]; exact q)⟩
  · cases r3
    exact (At.pure S3 (Rp.bl false)).mono fun Q q => ⟨_, rfl, (by rw [if_neg (by decide)]; exact q)⟩
  · exact At.no
end
end MH

/-! Walks over dicts; functions whose own cells are dropped. -/
namespace MH
open PySem L2
/-! ### a dict is locked for good -/
section
variable {K : PySem.W.Frag} {kc : CT} {Fz : Hp} {en : En} {st : Sto} {G : Hp} {io : List Addr} {σ : St} {H : Hp}
theorem lock_le {d : Addr} {od : Obj} {u : HO} (h : G d = some u) (hu : isD u = true) : Le G (upd G d (.frz od u)) := fun a o e => by
  by_cases ha : a = d
  · subst ha
    rw [h] at e; cases e
    exact .inr ⟨hu, od, upd_same⟩
  · exact .inl (by rw [upd_ne ha]; exact e)
theorem Sim.lock {d : Addr} {od : Obj} {u : HO} (S : Sim K kc Fz en st G io σ H) (h : G d = some u) (hu : isD u = true) : Sim K kc Fz en st (upd G d (.frz od u)) io σ (upd H d (.frz od u)) := by
  have l : Le G (upd G d (.frz od u)) := lock_le h hu
  have ne : ∀ a, G a = none → a ≠ d := fun a e z => by subst z; rw [h] at e; cases e
  refine { gs := upd_both S.gs, fs := fun a o e => ?_, fg := fun a o e => ?_, ft := S.ft, il := S.il, ind := S.ind, ce := fun n w a e1 e2 => ?_, sl := fun i w e => ?_, ow := fun i w e => ?_, inj := S.inj, el := S.el }
  · have := ne a (S.fg a o e)
    rw [upd_ne this]; exact S.fs a o e
  · have := ne a (S.fg a o e)
    rw [upd_ne this]; exact S.fg a o e
  · obtain ⟨h1, h2, o, h3, h4⟩ := S.ce n w a e1 e2
    have := ne a h1
    exact ⟨by rw [upd_ne this]; exact h1, h2, o, by rw [upd_ne this]; exact h3, h4.mono l (pre_refl _)⟩
  · obtain ⟨v, e1, r⟩ := S.sl i w e
    exact ⟨v, e1, r.mono l (pre_refl _)⟩
  · obtain ⟨a, o, e1, e2, e3, e4, e5, e6⟩ := S.ow i w e
    have := ne a e2
    exact ⟨a, o, e1, by rw [upd_ne this]; exact e2, e3, e4, by rw [upd_ne this]; exact e5, e6.mono l (pre_refl _)⟩
end
def tLk (t : TE) : TE := fun σ H Q => t σ H fun x H1 => ∃ d u, x = .ref d ∧ ((∃ od, H1 d = some (.frz od u)) ∧ Q x H1 ∨ H1 d = some u ∧ Mut (some u) ∧ ∀ od, Q x (upd H1 d (.frz od u)))
section
variable {X : Cx} {kc : CT} {Wx : WX} {e tg : Expr}
theorem pe_lk {t : TE} (h : PE X e t) : PE X e (tLk t) := by
  refine ⟨fun pins s σ H Q I c => ?_⟩
  refine thn (h.run pins s σ H _ I c) fun u s1 ⟨x, H1, I1, rx, d, o, ex, q⟩ => ?_
  rcases q with ⟨_, q⟩ | ⟨hd, mu, q⟩
  · exact ⟨x, H1, I1, rx, q⟩
  · obtain ⟨od, I2⟩ := I1.lock hd mu
    exact ⟨x, _, I2, rx, q od⟩
def keysItems : W → Option (List W)
  | .dct _ kws => some (kws.map (·.1))
  | _ => none
def I.keys (m : Ev) : Iv := fun en st => (m en st).bind fun w s => lift (keysItems w) s
theorem rpD_get {K : PySem.W.Frag} {io : List Addr} {G : Hp} : ∀ {kws : List (W × W)} {kvs : List (Key × V)} {i : Nat} {k : Key} {v : V}, RpD K kc io G kws kvs → kvs[i]? = some (k, v) → (kws.map (·.1))[i]? = some (wk k)
  | _, _, _, _, _, .nil, e => by simp at e
  | _, _, 0, _, _, .cons _ _, e => by simp at e; obtain ⟨rfl, rfl⟩ := e; rfl
  | _, _, i + 1, _, _, .cons _ r, e => by
    have := rpD_get (i := i) r (by simpa using e)
    simpa using this
theorem rpT_get {K : PySem.W.Frag} {io : List Addr} {G : Hp} : ∀ {kws : List (W × W)} {kvs : List (List Key × V)} {i : Nat} {k : List Key} {v : V}, RpT K kc io G kws kvs → kvs[i]? = some (k, v) → (kws.map (·.1))[i]? = some (.tup (k.map wk))
  | _, _, _, _, _, .nil, e => by simp at e
  | _, _, 0, _, _, .cons _ _, e => by simp at e; obtain ⟨rfl, rfl⟩ := e; rfl
  | _, _, i + 1, _, _, .cons _ r, e => by
    have := rpT_get (i := i) r (by simpa using e)
    simpa using this
theorem rp_key {K : PySem.W.Frag} {io : List Addr} {G : Hp} : ∀ k : Key, Rp K kc io G (wk k) (kV k)
  | .inl i => .int i
  | .inr s => .str s
theorem rpL_keys {K : PySem.W.Frag} {io : List Addr} {G : Hp} : ∀ k : List Key, RpL K kc io G (k.map wk) (k.map kV)
  | [] => .nil
  | k :: ks => .cons (rp_key k) (rpL_keys ks)
theorem gives_keys {K : PySem.W.Frag} {io : List Addr} {G : Hp} {d : Addr} {od : Obj} {kws : List (W × W)} {kvs : List (Key × V)} (h : G d = some (.frz od (.dK kvs))) (r : RpD K kc io G kws kvs) : Gives K kc io G (kws.map (·.1)) (Itk d od kvs) := by
  have hl : (kws.map (·.1)).length = kvs.length := by rw [List.length_map]; exact r.length
  refine ⟨_, _, hl ▸ walk_keys, fun H l => l.get h, fun i H v H' hi l ⟨e, k, u, ek, ev⟩ => .inl ⟨e, wk k, rpD_get r ek, ?_⟩⟩
  rw [ev]; exact rp_key k
theorem gives_keysT {K : PySem.W.Frag} {io : List Addr} {G : Hp} {d : Addr} {od : Obj} {kws : List (W × W)} {kvs : List (List Key × V)} (h : G d = some (.frz od (.dT kvs))) (r : RpT K kc io G kws kvs) : Gives K kc io G (kws.map (·.1)) (Itkt d od kvs) := by
  have hl : (kws.map (·.1)).length = kvs.length := by rw [List.length_map]; exact r.length
  refine ⟨_, _, hl ▸ walk_keysT, fun H l => l.get h, fun i H v H' hi l ⟨e, k, u, q, ek, ev, hq⟩ => .inr (.inr ⟨q, k.map kV, k.map wk, ev, hq, e, rpT_get r ek, rpL_keys k⟩)⟩
theorem ix_keys {m : Ev} (h : EX X kc Wx e m) : IX X kc Wx tg e (I.keys m) := by
  obtain ⟨t, h1, h2⟩ := h
  refine ⟨_, pi_keys (pe_lk h1), fun Fz en st G io σ H S => ?_⟩
  refine (h2 Fz en st G io σ H S).bind (rel' := relI X.K kc) (u := fun x H1 R => ∃ d u, x = .ref d ∧ ((∃ od, H1 d = some (.frz od u)) ∧ (fun x H1 => ∃ d o, x = .ref d ∧ ((∃ kvs, H1 d = some (.frz o (.dK kvs)) ∧ R (Itk d o kvs) H1) ∨ ∃ kvs, H1 d = some (.frz o (.dT kvs)) ∧ R (Itkt d o kvs) H1)) x H1 ∨
    H1 d = some u ∧ Mut (some u) ∧ ∀ od, (fun x H1 => ∃ d o, x = .ref d ∧ ((∃ kvs, H1 d = some (.frz o (.dK kvs)) ∧ R (Itk d o kvs) H1) ∨ ∃ kvs, H1 d = some (.frz o (.dT kvs)) ∧ R (Itkt d o kvs) H1)) x (upd H1 d (.frz od u)))) fun w s1 x G1 io1 H1 e1 l1 p1 S1 r1 => ?_
  unfold keysItems
  split
  · rename_i k kws
    refine ⟨fun items s' ei R hR => ?_, fun _ _ _ e => (nomatch e)⟩
    cases ei
    cases r1 with
    | @dk _ d kvs hd r =>
      rcases hd with hd | ⟨od, hd⟩
      · refine ⟨d, .dK kvs, rfl, .inr ⟨S1.gs _ _ hd, trivial, fun od => ⟨d, od, rfl, .inl ⟨kvs, upd_same, ?_⟩⟩⟩⟩
        exact hR _ _ io1 _ (lock_le hd rfl) (pre_refl _) (S1.lock hd rfl) (gives_keys upd_same (r.mono (lock_le hd rfl) (pre_refl _)))
      · exact ⟨d, .dK kvs, rfl, .inl ⟨⟨od, S1.gs _ _ hd⟩, d, od, rfl, .inl ⟨kvs, S1.gs _ _ hd, hR _ G1 io1 H1 (Le.refl _) (pre_refl _) S1 (gives_keys hd r)⟩⟩⟩
    | @dt _ d kvs hd r =>
      rcases hd with hd | ⟨od, hd⟩
      · refine ⟨d, .dT kvs, rfl, .inr ⟨S1.gs _ _ hd, trivial, fun od => ⟨d, od, rfl, .inr ⟨kvs, upd_same, ?_⟩⟩⟩⟩
        exact hR _ _ io1 _ (lock_le hd rfl) (pre_refl _) (S1.lock hd rfl) (gives_keysT upd_same (r.mono (lock_le hd rfl) (pre_refl _)))
      · exact ⟨d, .dT kvs, rfl, .inl ⟨⟨od, S1.gs _ _ hd⟩, d, od, rfl, .inr ⟨kvs, S1.gs _ _ hd, hR _ G1 io1 H1 (Le.refl _) (pre_refl _) S1 (gives_keysT hd r)⟩⟩⟩
  · exact At.no
end
end MH

/-! Functions whose own cells are dropped at their end. -/
namespace MH
open PySem L2
/-! ### values whose places lie below n -/
mutual
def lb (n : Nat) : W → Bool
  | .loc m => decide (m < n)
  | .tup ws => lbL n ws
  | .stp ws => lbL n ws
  | .lst ws => lbL n ws
  | .scr ws => lbL n ws
  | .dct _ kws => lbD n kws
  | .ins _ fs => lbF n fs
  | _ => true
def lbL (n : Nat) : List W → Bool
  | [] => true
  | w :: ws => lb n w && lbL n ws
def lbF (n : Nat) : List (Str × W) → Bool
  | [] => true
  | p :: ws => lb n p.2 && lbF n ws
def lbD (n : Nat) : List (W × W) → Bool
  | [] => true
  | p :: ws => lb n p.2 && lbD n ws
end
section
variable {K : PySem.W.Frag} {kc : CT} {io io' : List Addr} {G : Hp}
theorem pre_back {m n : Nat} {a : Addr} (p : io <+: io') (hl : io.length = n) (hm : m < n) (h : io'[m]? = some a) : io[m]? = some a := by
  obtain ⟨t, rfl⟩ := p
  rwa [List.getElem?_append_left (by omega)] at h
mutual
theorem lb_rp {n : Nat} (p : io <+: io') (hl : io.length = n) : ∀ {w : W} {v : V}, lb n w = true → Rp K kc io' G w v → Rp K kc io G w v
  | _, _, _, .non => .non
  | _, _, _, .bl b => .bl b
  | _, _, _, .int i => .int i
  | _, _, _, .str s => .str s
  | _, _, n, .tup h r => .tup h (lb_rpL p hl (by simpa [lb] using n) r)
  | _, _, n, .stp h r => .stp h (lb_rpL p hl (by simpa [lb] using n) r)
  | _, _, n, .lst h r => .lst h (lb_rpL p hl (by simpa [lb] using n) r)
  | _, _, n, .scr h r => .scr h (lb_rpL p hl (by simpa [lb] using n) r)
  | _, _, n, .dk h r => .dk h (lb_rpD p hl (by simpa [lb] using n) r)
  | _, _, n, .dt h r => .dt h (lb_rpT p hl (by simpa [lb] using n) r)
  | _, _, n, .ins c h r => .ins c h (lb_rpF p hl (by simpa [lb] using n) r)
  | _, _, q, .loc h => .loc (pre_back p hl (by simpa [lb] using q) h)
  | _, _, _, .cls h => .cls h
  | _, _, _, .ty n => .ty n
theorem lb_rpL {n : Nat} (p : io <+: io') (hl : io.length = n) : ∀ {w : List W} {v : List V}, lbL n w = true → RpL K kc io' G w v → RpL K kc io G w v
  | _, _, _, .nil => .nil
  | _, _, n, .cons h r => .cons (lb_rp p hl (by simp [lbL] at n; exact n.1) h) (lb_rpL p hl (by simp [lbL] at n; exact n.2) r)
theorem lb_rpF {n : Nat} (p : io <+: io') (hl : io.length = n) : ∀ {w : List (Str × W)} {v : List (Str × V)}, lbF n w = true → RpF K kc io' G w v → RpF K kc io G w v
  | _, _, _, .nil => .nil
  | _, _, n, .cons h r => .cons (lb_rp p hl (by simp [lbF] at n; exact n.1) h) (lb_rpF p hl (by simp [lbF] at n; exact n.2) r)
theorem lb_rpD {n : Nat} (p : io <+: io') (hl : io.length = n) : ∀ {w : List (W × W)} {v : List (Key × V)}, lbD n w = true → RpD K kc io' G w v → RpD K kc io G w v
  | _, _, _, .nil => .nil
  | _, _, n, .cons h r => .cons (lb_rp p hl (by simp [lbD] at n; exact n.1) h) (lb_rpD p hl (by simp [lbD] at n; exact n.2) r)
theorem lb_rpT {n : Nat} (p : io <+: io') (hl : io.length = n) : ∀ {w : List (W × W)} {v : List (List Key × V)}, lbD n w = true → RpT K kc io' G w v → RpT K kc io G w v
  | _, _, _, .nil => .nil
  | _, _, n, .cons h r => .cons (lb_rp p hl (by simp [lbD] at n; exact n.1) h) (lb_rpT p hl (by simp [lbD] at n; exact n.2) r)
end
mutual
theorem rp_lb : ∀ {w : W} {v : V}, Rp K kc io G w v → lb io.length w = true
  | _, _, .non => rfl
  | _, _, .bl b => rfl
  | _, _, .int i => rfl
  | _, _, .str s => rfl
  | _, _, .tup h r => by simpa [lb] using rpL_lb r
  | _, _, .stp h r => by simpa [lb] using rpL_lb r
  | _, _, .lst h r => by simpa [lb] using rpL_lb r
  | _, _, .scr h r => by simpa [lb] using rpL_lb r
  | _, _, .dk h r => by simpa [lb] using rpD_lb r
  | _, _, .dt h r => by simpa [lb] using rpT_lb r
  | _, _, .ins c h r => by simpa [lb] using rpF_lb r
  | _, _, .loc h => by simpa [lb] using (List.getElem?_eq_some_iff.mp h).1
  | _, _, .cls h => rfl
  | _, _, .ty n => rfl
theorem rpL_lb : ∀ {w : List W} {v : List V}, RpL K kc io G w v → lbL io.length w = true
  | _, _, .nil => rfl
  | _, _, .cons h r => by simp [lbL, rp_lb h, rpL_lb r]
theorem rpF_lb : ∀ {w : List (Str × W)} {v : List (Str × V)}, RpF K kc io G w v → lbF io.length w = true
  | _, _, .nil => rfl
  | _, _, .cons h r => by simp [lbF, rp_lb h, rpF_lb r]
theorem rpD_lb : ∀ {w : List (W × W)} {v : List (Key × V)}, RpD K kc io G w v → lbD io.length w = true
  | _, _, .nil => rfl
  | _, _, .cons h r => by simp [lbD, rp_lb h, rpD_lb r]
theorem rpT_lb : ∀ {w : List (W × W)} {v : List (List Key × V)}, RpT K kc io G w v → lbD io.length w = true
  | _, _, .nil => rfl
  | _, _, .cons h r => by simp [lbD, rp_lb h, rpT_lb r]
end
theorem nd_lb {w : W} {o : HO} (h : Nd K kc io G w o) : lb io.length w = true := by
  cases h with
  | lst r => simpa [lb] using rpL_lb r
  | dk r => simpa [lb] using rpD_lb r
  | dt r => simpa [lb] using rpT_lb r
  | ins c r => simpa [lb] using rpF_lb r
theorem lb_nd {n : Nat} {w : W} {o : HO} (p : io <+: io') (hl : io.length = n) (b : lb n w = true) (h : Nd K kc io' G w o) : Nd K kc io G w o := by
  cases h with
  | lst r => exact .lst (lb_rpL p hl (by simpa [lb] using b) r)
  | dk r => exact .dk (lb_rpD p hl (by simpa [lb] using b) r)
  | dt r => exact .dt (lb_rpT p hl (by simpa [lb] using b) r)
  | ins c r => exact .ins c (lb_rpF p hl (by simpa [lb] using b) r)
end
/-- the first cells are as they were, or know nothing of the later ones -/
def Kept (st s : Sto) : Prop := ∀ (i : Nat) (c : W), i < st.length → s[i]? = some c → st[i]? = some c ∨ lb st.length c = true
open Classical in
/-- the cells that were laid are dropped -/
noncomputable def bodyT (n : Nat) (b : Sv) : Fv := fun ws st => match body n b ws st with
  | .ok w s => if lb st.length w = true ∧ Kept st s then .ok w (s.take st.length) else .no
  | .ex c fs s => if lbF st.length fs = true ∧ Kept st s then .ex c fs (s.take st.length) else .no
  | .no => .no
section
variable {K : PySem.W.Frag} {kc : CT} {Fz : Hp} {en : En} {st st' : Sto} {G G' : Hp} {io io' : List Addr} {σ : St} {H H' : Hp}
theorem Sim.dropCells (S : Sim K kc Fz [] st G io [] H) (p : io <+: io') (T : Sim K kc Fz [] st' G' io' [] H') (k : Kept st st') (lg : st.length ≤ st'.length) : Sim K kc Fz [] (st'.take st.length) G' io [] H' := by
  have il := S.il
  refine { gs := T.gs, fs := T.fs, fg := T.fg, ft := T.ft, il := by rw [List.length_take, il]; omega, ind := ?_, ce := fun n w a e1 e2 => ?_, sl := fun i w e => by simp at e, ow := fun i w e => by simp at e, inj := fun i j a w w' e => by simp at e, el := rfl }
  · exact List.Nodup.sublist p.sublist T.ind
  · have hn : n < st.length := by
      have := (List.getElem?_eq_some_iff.mp e1).1
      rw [List.length_take] at this; omega
    rw [List.getElem?_take_of_lt hn] at e1
    obtain ⟨h1, h2, o, h3, h4⟩ := T.ce n w a e1 (pre_get p e2)
    refine ⟨h1, h2, o, h3, ?_⟩
    rcases k n w hn e1 with e0 | e0
    · obtain ⟨_, _, o0, _, nd⟩ := S.ce n w a e0 e2
      have := nd_lb nd
      exact lb_nd p rfl this h4
    · exact lb_nd p il e0 h4
open Classical in
theorem spF_T {n N : Nat} {b : Sv} {vs : List V} {H : Hp} {Q : VK} {E : XK} (h : spF K kc n (bodyT N b) vs H Q E) : spF K kc n (body N b) vs H Q E := by
  obtain ⟨Fz, G, io, st, ws, S, r, hn, hno, hok, hex⟩ := h
  have hb : body N b ws st ≠ .no := fun z => hno (by unfold bodyT; rw [z])
  refine ⟨Fz, G, io, st, ws, S, r, hn, hb, fun w st' e v G' io' H' l p T rp => ?_, fun c fs st' e C d G' io' H' kC l p T xo => ?_⟩
  · have e2 : bodyT N b ws st = if lb st.length w = true ∧ Kept st st' then .ok w (st'.take st.length) else .no := by unfold bodyT; rw [e]
    by_cases hc : lb st.length w = true ∧ Kept st st'
    · rw [if_pos hc] at e2
      have lg : st.length ≤ st'.length := by rw [← S.il, ← T.il]; exact p.length_le
      exact hok w _ e2 v G' io H' l (pre_refl _) (S.dropCells p T hc.2 lg) (lb_rp p S.il hc.1 rp)
    · rw [if_neg hc] at e2
      exact (hno e2).elim
  · have e2 : bodyT N b ws st = if lbF st.length fs = true ∧ Kept st st' then .ex c fs (st'.take st.length) else .no := by unfold bodyT; rw [e]
    by_cases hc : lbF st.length fs = true ∧ Kept st st'
    · rw [if_pos hc] at e2
      have lg : st.length ≤ st'.length := by rw [← S.il, ← T.il]; exact p.length_le
      refine hex c fs _ e2 C d G' io H' kC l (pre_refl _) (S.dropCells p T hc.2 lg) ?_
      rcases xo with ⟨a, fv, e1, e3, rf⟩ | xo
      · exact .inl ⟨a, fv, e1, e3, lb_rpF p S.il hc.1 rf⟩
      · exact .inr xo
    · rw [if_neg hc] at e2
      exact (hno e2).elim
theorem FnG.dropT {P : Program} {w : World} {mg : Str → Option Value} {base : Heap} {CX : CXT} {k : Nat} {f : Addr} {fd : FuncData} {ps : List Str} {n N : Nat} {b : Sv} (F : FnG P w K mg base CX k f fd ps (spF K kc n (body N b))) : FnG P w K mg base CX k f fd ps (spF K kc n (bodyT N b)) :=
  F.weak fun vs H Q E z => spF_T z
end
end MH

/-! x[::-1] of a text. -/
namespace MH
open PySem L2 PySem.Spec PyProof.Rows
section
variable {X : Cx} {kc : CT} {Wx : WX} {e : Expr} {pos : Pos}
def revT (z : Str) : Str := ⟨z.cps.toList.reverse.toArray⟩
theorem revT_len {z : Str} : (revT z).length = z.length := by simp [revT, Str.length]
theorem revT_eq (z : Str) (u : Tok) : Txt.sliceBy z none none (-1, u) = revT z := by
  have h := step_rev_list z u
  have e : (Txt.sliceBy z none none (-1, u)).cps.toList = z.cps.toList.reverse := by
    rw [h]
    apply List.ext_getElem
    · simp [Str.length]
    · intro i h1 h2
      simp only [List.getElem_map, List.getElem_range, List.getElem_reverse]
      have hi : z.length - 1 - i < z.cps.size := by
        simp [Str.length] at h1 ⊢; omega
      rw [Array.getD_eq_getD_getElem?, Array.getElem?_eq_getElem hi]
      simp [Str.length]
  cases q : Txt.sliceBy z none none (-1, u) with
  | mk a =>
    rw [q] at e
    simp [revT, ← e]
def tRevS (te : TE) : TE := fun σ H Q => te σ H fun x H1 => ∃ z, x = .str z ∧ z.length ≤ sizeLine ∧ Q (.str (revT z)) H1
theorem pe_revS {te : TE} {k : Nat} {p1 p2 p3 : Pos} (he : PE X e te) : PE X (.Subscript e (.Slice none none (some (.UnaryOp .USub (.Constant (.int 1) k p1) p2)) p3) pos) (tRevS te) := by
  refine ⟨fun pins s σ H Q I h => ?_⟩
  refine Subscript_ (thn (he.run pins s σ H _ I h) fun v s1 ⟨x, H1, I1, r1, q1⟩ => ?_)
  obtain ⟨z, ex, hz, q⟩ := q1
  subst ex
  obtain ⟨t, rfl⟩ := r1
  have hst : PO X (some (.UnaryOp .USub (.Constant (.int 1) k p1) p2)) (tPart (tUn (rU fun i => .int (-i)) (tC (.int 1)))) := po_some (pe_un un_neg pe_int)
  refine wpAny_Slice (thn (po_none.run pins s1 σ H1 (fun o H2 => o = none ∧ H2 = H1) I1 ⟨rfl, rfl⟩) fun vl s2 ⟨l, H2, I2, pl, el, e2⟩ => ?_)
  subst el e2
  refine thn (po_none.run pins s2 σ H2 (fun o H3 => o = none ∧ H3 = H2) I2 ⟨rfl, rfl⟩) fun vu s3 ⟨u, H3, I3, pu, eu, e3⟩ => ?_
  subst eu e3
  refine thn (hst.run pins s3 σ H3 (fun o H4 => o = some (-1) ∧ H4 = H3) I3 ⟨1, rfl, -1, rfl, rfl, rfl⟩) fun vs s4 ⟨o, H4, I4, ps, eo, e4⟩ => ?_
  subst eo e4
  have I5 : Inv X pins σ H4 { s4 with heap := s4.heap.push { cls := .type "slice", data := .fields #[vl, vu, vs] } } := I4.kept (t' := s4.toks) fun b ob q => Heap.get?_push_of_some _ q
  obtain ⟨l, rfl, hl⟩ := IsPart.raw pl
  obtain ⟨u, rfl, hu⟩ := IsPart.raw pu
  obtain ⟨w, rfl, hw⟩ := IsPart.raw ps
  have el : l = none := by cases l with | none => rfl | some _ => cases hl
  have eu : u = none := by cases u with | none => rfl | some _ => cases hu
  subst el eu
  obtain ⟨j, tw⟩ : ∃ tw, w = some (-1, tw) := by
    cases w with
    | none => cases hw
    | some p => obtain ⟨a, b⟩ := p; cases hw; exact ⟨b, rfl⟩
  subst tw
  show wpAny (model X.prog X.w) X.A (subscriptTail e (.Slice none none (some (.UnaryOp .USub (.Constant (.int 1) k p1) p2)) p3) (.str z t) (.ref s4.heap.objs.size)) (EP X pins σ Q) X.xe _
  refine tail_any (ops := [.str z t, .ref s4.heap.objs.size]) (typeIs_str _ _ _) (PySem.F.slot_str_getitem.lookup) ?_ (by with_unfolding_all rfl)
  refine wpAny_getItem_str_slice (l := none) (u := none) (st := some (-1, j)) ?_ rfl ?_
  · exact Heap.IsSliceOf.new _ _ _ _
  · have h2 := revT_eq z j
    unfold Txt.sliceBy at h2
    have c : ¬ ((((some ((-1 : Int), j)).map (·.1)).getD 1 == 1 && (slicePicked z none none (some (-1, j))).length == z.length) = true) := by
      intro w
      rw [Bool.and_eq_true] at w
      exact absurd w.1 (show ¬ (((-1 : Int) == 1) = true) by decide)
    rw [if_neg c] at h2
    unfold sliceMade
    rw [if_neg c]
    show Made.post (Made.str _) _ _
    rw [h2]
    exact ⟨by rw [revT_len]; exact hz, .str _, H4, I5.tok _, ⟨_, rfl⟩, q⟩
def revS : W → Option W
  | .str z => if fit z.length then some (.str (revT z)) else none
  | _ => none
theorem ex_revS {p : Pv} {k : Nat} {p1 p2 p3 : Pos} (h : PX X kc Wx e p) : EX X kc Wx (.Subscript e (.Slice none none (some (.UnaryOp .USub (.Constant (.int 1) k p1) p2)) p3) pos) (E.un revS p) := by
  obtain ⟨t, h1, h2⟩ := h
  refine ⟨_, pe_revS h1, fun Fz en st G io σ H S => ?_⟩
  refine (h2 Fz en st G io σ H S).bind (u := fun (x : V) (H1 : Hp) (Q : V → Hp → Prop) => ∃ z, x = .str z ∧ z.length ≤ sizeLine ∧ Q (.str (revT z)) H1) fun w s1 x G1 io1 H1 e1 q1 p1 S1 r1 => ?_
  have t := view_of S1 r1
  revert t
  generalize view en s1 w = u
  intro t
  unfold revS
  split
  · cases t.str
    split
    · rename_i hf
      exact (At.pure S1 (Rp.str _)).mono fun Q q => ⟨_, rfl, fit_line hf, q⟩
    · exact At.no
  · exact At.no
end
end MH

/-! Comprehensions over a list that changes elsewhere. -/
namespace MH
open PySem L2
open Classical in
noncomputable def lcV (h : Hd) (items : List W) (ns : List Nat) (bd : Bd) (t : Tv) (m : Ev) (en : En) : List W → List W → Sto → R Sto (List W)
  | [], acc, st => .ok acc st
  | w :: ws, acc, st => match bd w (wipeE en ns) with
    | none => .no
    | some en1 => match t en1 st with
      | .ok true s => match m en1 s with
        | .ok x s' => if fit acc.length = true ∧ view en s' h = .lst items then lcV h items ns bd t m en ws (acc ++ [x]) s' else .no
        | _ => .no
      | .ok false s => if view en s h = .lst items then lcV h items ns bd t m en ws acc s else .no
      | _ => .no
noncomputable def lcVs (h : Hd) (w : W) (ns : List Nat) (bd : Bd) (t : Tv) (m : Ev) (en : En) (s : Sto) : R Sto (List W) := match w with
  | .lst items => lcV h items ns bd t m en items [] s
  | _ => .no
noncomputable def E.lcV (p : Pv) (ns : List Nat) (bd : Bd) (t : Tv) (m : Ev) : Ev := fun en st => if ns.any (fun n => ownS (en.getD n none)) then .no else (p en st).bind fun h s => (lcVs h (view en s h) ns bd t m en s).bind fun xs s' => .ok (.lst xs) s'
theorem lcV_ex {h : Hd} {items : List W} {ns : List Nat} {bd : Bd} {t : Tv} {m : Ev} {en : En} : ∀ (ws acc : List W) (st : Sto) (c : String) (fs : List (Str × W)) (s : Sto), lcV h items ns bd t m en ws acc st ≠ .ex c fs s
  | [], acc, st, c, fs, s => by unfold lcV; intro z; cases z
  | w :: ws, acc, st, c, fs, s => by
    unfold lcV
    intro z
    split at z
    · cases z
    · split at z
      · split at z
        · split at z
          · exact lcV_ex _ _ _ _ _ _ z
          · cases z
        · cases z
      · split at z
        · exact lcV_ex _ _ _ _ _ _ z
        · cases z
      · cases z
theorem walk_live {K : PySem.W.Frag} {a : Addr} {n : Nat} : Walk (Itl K a) n (fun H => ∃ vs, vs.length = n ∧ SqL K H a vs) (fun i H x H' => H' = H ∧ ∀ xs, SqL K H a xs → xs[i]? = some x) := by
  refine ⟨fun i H hi ⟨vs, hl, q⟩ => ?_, fun H ⟨vs, hl, q⟩ => ?_, fun i H x H' hi ⟨vs, hl, q⟩ y => y⟩
  · subst hl; exact (walk_list (K := K) (a := a) (xs := vs)).1 i H hi q
  · subst hl; exact (walk_list (K := K) (a := a) (xs := vs)).2 H q
theorem oks_lcV {K : PySem.W.Frag} {kc : CT} {Wx : WX} {tl : TE} {g : TG} {tt : TT} {te : TE} {p : Pv} {ns ns' : List Nat} {bd : Bd} {t : Tv} {m : Ev} (hi : Oks K kc Wx (relP K kc) p tl)
    (hg : ∀ Fz en st G io σ H w v en', Sim K kc Fz en st G io σ H → Rp K kc io G w v → bd w en = some en' → ∀ Q : St → Hp → Prop, (∀ σ', Sim K kc Fz en' st G io σ' H → (∀ vs : List Nat, (∀ n ∈ ns', n ∈ vs) → wipe σ' vs = wipe σ vs) → Q σ' H) → g v σ H Q)
    (hs : ∀ n ∈ ns', n ∈ ns) (hbd : ∀ w en en', bd w en = some en' → ∀ i : Nat, i ∉ ns' → en'[i]? = en[i]?) (ht : Oks K kc WF relT t tt) (he : Oks K kc WF (relE K kc) m te) : Oks K kc Wx (relF K kc) (E.lcV p ns bd t m) (tLc (iList K tl) g tt te ns) := by
  classical
  intro Fz en st G io σ H S
  unfold E.lcV
  by_cases hno : (ns.any fun n => ownS (en.getD n none)) = true
  · rw [if_pos hno]; exact At.no
  rw [if_neg hno]
  refine (hi Fz en st G io σ H S).bind (u := fun (x : V) (H1 : Hp) (Q : V → Hp → Prop) => ∃ a, x = .ref a ∧ (∃ xs, SqL K H1 a xs) ∧ ∀ D, H1 D = none → ∃ W : Nat → Nat → Hp → Prop, (∃ m, W 0 m (upd H1 D (.lst []))) ∧ ∀ i m H, W i m H →
    ((Itl K a).stop i H ∧ Q (V.ref D) H) ∨ ((Itl K a).go i H ∧ ∃ Nx : Hp → Prop, (∀ H', Nx H' → ∃ m', m' < m ∧ W (i + 1) m' H') ∧ ∀ x H', (Itl K a).yld i H x H' → g x (wipe σ ns) H' fun σ2 H2 => wipe σ2 ns = wipe σ ns ∧ tt σ2 H2 fun b H3 =>
      if b = true then te σ2 H3 fun y H4 => ∃ acc, H4 D = some (.lst acc) ∧ acc.length < sizeLine ∧ Nx (upd H4 D (.lst (acc ++ [y]))) else Nx H3)) fun hd s1 xv G1 io1 H1 e1 l1 p1 S1 r1 => ?_
  have tv := view_of S1 r1
  unfold lcVs
  split
  case h_2 => exact At.no
  rename_i items hv
  rw [hv] at tv
  obtain ⟨a, vs0, rfl, ha0, rl0⟩ := tv.lst S1.gs
  refine ⟨fun ax st2 ea Q hQ => ⟨a, rfl, ⟨vs0, .inl (.inl ha0)⟩, fun D hD => ?_⟩, fun c fs st' ea => ?_⟩
  · obtain ⟨xs, s2, e2, e3⟩ := R.bind_ok ea
    injection e3 with e4 e5
    subst e4
    rw [e5] at e2
    have fD := le_none S1.fs hD
    have cur : ∀ {st' G' io' F H'}, Le G1 G' → io1 <+: io' → Sim K kc F en st' G' io' σ H' → view en st' hd = .lst items → ∃ vs, H' a = some (.lst vs) ∧ RpL K kc io' G' items vs := fun {st' G' io' F H'} l p S' hv' => by
      have tv := view_of S' (HdOk.mono l p r1)
      rw [hv'] at tv
      obtain ⟨a', vs, ea, hva, rl⟩ := tv.lst S'.gs
      cases ea
      exact ⟨vs, hva, rl⟩
    refine lc_it (n := items.length) walk_live (tt := tt) (te := te) (fun i H => ∃ st' G' io' acc av, Le G1 G' ∧ io1 <+: io' ∧ Sim K kc (upd Fz D (.lst av)) en st' G' io' σ H ∧ RpL K kc io' G' acc av ∧ view en st' hd = .lst items ∧ lcV hd items ns bd t m en (items.drop i) acc st' = .ok xs st2)
      ⟨s1, G1, io1, [], [], Le.refl _, pre_refl _, Sim.hold (fun _ z => nomatch z) S1 hD, .nil, hv, by rw [List.drop_zero]; exact e2⟩ (fun i H _ ⟨_, _, _, _, _, l, p, S', _, hv', _⟩ => by
        obtain ⟨vs, hva, rl⟩ := cur l p S' hv'
        exact ⟨vs, rl.length.symm, .inl (.inl hva)⟩) ?_ ?_
    · rintro i x H2 H3 hi ⟨st', G', io', acc, av, l, p, S', ra, hv', e'⟩ y
      obtain ⟨w, G3, ew, l3, S3, rw3⟩ : ∃ w G3, items[i]? = some w ∧ Le G' G3 ∧ Sim K kc (upd Fz D (.lst av)) en st' G3 io' σ H3 ∧ Rp K kc io' G3 w x := by
        obtain ⟨rfl, yx⟩ := y
        obtain ⟨vs, hva, rl⟩ := cur l p S' hv'
        obtain ⟨w, ew, rw1⟩ := rl.getV (yx vs (.inl (.inl hva)))
        exact ⟨w, G', ew, Le.refl _, S', rw1⟩
      have ed : items.drop i = w :: items.drop (i + 1) := by
        obtain ⟨h1, h2⟩ := List.getElem?_eq_some_iff.mp ew
        rw [← h2]
        exact (List.getElem_cons_drop h1).symm
      rw [ed] at e'
      unfold lcV at e'
      revert e'
      cases q : bd w (wipeE en ns) with
      | none => intro e'; cases e'
      | some en1 =>
        intro e'
        refine hg _ _ _ _ _ _ _ w x en1 (S3.wipe ns) rw3 q _ fun σ4 S4 hw => ⟨?_, ?_⟩
        · rw [hw ns hs]
          exact wipe_idem
        · revert e'
          dsimp only
          obtain ⟨t1, t2⟩ := ht _ _ _ _ _ _ _ S4
          cases q1 : t en1 st' with
          | no => intro e'; cases e'
          | ex c fs s => intro e'; cases e'
          | ok b s =>
            intro e'
            refine t1 b s q1 _ fun b' G5 io5 H5 l5 p5 S5 eb => ?_
            cases eb
            have back : ∀ {st6 G6 io6 H6}, Le G3 G6 → io' <+: io6 → Sim K kc (upd Fz D (.lst av)) en1 st6 G6 io6 σ4 H6 → Sim K kc (upd Fz D (.lst av)) en st6 G6 io6 σ H6 := fun {st6 G6 io6 H6} l6 p6 S6 =>
              { gs := S6.gs, fs := S6.fs, fg := S6.fg, ft := S6.ft, il := S6.il, ind := S6.ind, ce := S6.ce, inj := S3.inj, el := S3.el
                sl := fun i w e => by
                  obtain ⟨v, e1, r⟩ := S3.sl i w e
                  exact ⟨v, e1, r.mono l6 p6⟩
                ow := fun i w e => by
                  have hi : i ∉ ns := fun hm => hno (List.any_eq_true.mpr ⟨i, hm, by rw [List.getD_eq_getElem?_getD, e]; rfl⟩)
                  have e1 : en1[i]? = some (some (true, w)) := by
                    rw [hbd _ _ _ q i fun z => hi (hs i z), wipeE_out hi]
                    exact e
                  have e2 : σ4[i]? = σ[i]? := by
                    have z := hw ns hs
                    rw [wipe_idem] at z
                    rw [← wipe_out (σ := σ4) hi, z, wipe_out hi]
                  obtain ⟨a, o, q1, q2⟩ := S6.ow i w e1
                  exact ⟨a, o, e2 ▸ q1, q2⟩ }
            cases b with
            | false =>
              rw [if_neg (by decide)]
              have e' : (if view en s hd = .lst items then lcV hd items ns bd t m en (items.drop (i + 1)) acc s else .no) = R.ok xs st2 := e'
              by_cases hf : view en s hd = .lst items
              · rw [if_pos hf] at e'
                exact ⟨s, G5, io5, acc, av, (l.trans l3).trans l5, p.trans p5, back l5 p5 S5, ra.mono (l3.trans l5) p5, hf, e'⟩
              · rw [if_neg hf] at e'; cases e'
            | true =>
              rw [if_pos rfl]
              revert e'
              dsimp only
              obtain ⟨m1, m2⟩ := he _ _ _ _ _ _ _ S5
              cases q2 : m en1 s with
              | no => intro e'; cases e'
              | ex c fs s => intro e'; cases e'
              | ok y s' =>
                intro e'
                refine m1 y s' q2 _ fun yv G6 io6 H6 l6 p6 S6 ry => ?_
                have S7 := back (l5.trans l6) (p5.trans p6) S6
                obtain ⟨_, hD6, _⟩ := S7.held fD
                have e' : (if fit acc.length = true ∧ view en s' hd = .lst items then lcV hd items ns bd t m en (items.drop (i + 1)) (acc ++ [y]) s' else .no) = R.ok xs st2 := e'
                by_cases hf : fit acc.length = true ∧ view en s' hd = .lst items
                · rw [if_pos hf] at e'
                  have hl : acc.length = av.length := ra.length
                  refine ⟨av, hD6, hl ▸ fit_lt hf.1, s', G6, io6, acc ++ [y], av ++ [yv], ((l.trans l3).trans l5).trans l6, (p.trans p5).trans p6, Sim.reheld (fun _ z => nomatch z) S7 fD, (ra.mono ((l3.trans l5).trans l6) (p5.trans p6)).append (.cons ry .nil), hf.2, e'⟩
                · rw [if_neg hf] at e'; cases e'
    · rintro H2 ⟨st', G', io', acc, av, l, p, S', ra, hv', e'⟩
      rw [List.drop_length] at e'
      cases e'
      obtain ⟨S2, hD2, gD2, iD2, oD2⟩ := S'.held fD
      exact hQ _ G' io' H2 l p S2 ⟨D, _, rfl, hD2, gD2, fD, iD2, oD2, .lst ra⟩
  · exfalso
    revert ea
    cases q : lcV hd items ns bd t m en items [] s1 with
    | ok a s => intro ea; cases ea
    | no => intro ea; cases ea
    | ex c fs s => exact fun _ => lcV_ex _ _ _ _ _ _ q
section
variable {X : Cx} {kc : CT} {Wx : WX} {tg it elt : Expr} {ifs : List Expr} {scope : Scope} {own : List (Str × Nat)} {pos : Pos}
theorem fx_lcV0 {p : Pv} {ns : List Nat} {bd : Bd} {m : Ev} (hc : X.calm = true) (hN : X.N.Nodup) (hi : PX X kc Wx it p) (ok : BlkOk X.N X.env.scope scope own) (hsub : ∀ n ∈ ns, n ∈ own.map (·.2))
    (hg : ∀ (s : Shared) (H : Hp) (C : Addr) (cl : List (Str × Addr)) (fp : List Addr), GX (X.blk s H scope (compEnvC scope cl C X.env) fp) kc tg ns bd)
    (he : ∀ (s : Shared) (H : Hp) (C : Addr) (cl : List (Str × Addr)) (fp : List Addr), EX (X.blk s H scope (compEnvC scope cl C X.env) fp) kc WF elt m) (hs : ∀ x, foldedSetIterable it X.env x = pure x := by intro _; rfl) :
    FX X kc Wx (.ListComp elt [⟨tg, it, [], 0⟩] scope pos) (E.lcV p (own.map (·.2)) bd T.yes m) := by
  obtain ⟨tl, i1, i2⟩ := hi
  refine ⟨_, pe_lc (g := canG X.K kc ns bd) (te := can X.K kc WF (relE X.K kc) m) hc hN (pi_list i1) ok (fun s H C cl fp => (hg s H C cl fp).pg) (fun s H C cl fp => pts_nil) (fun s H C cl fp => (he s H C cl fp).pe) hs, ?_⟩
  exact oks_lcV i2 (fun Fz en st G io σ H w v en' S r e Q hQ => ⟨Fz, en, st, G, io, w, en', S, r, e, hQ⟩) hsub (hg X.s_0 X.H_0 0 [] []).2 oks_yes of_can
theorem fx_lcV1 {p : Pv} {ns : List Nat} {bd : Bd} {t : Tv} {m : Ev} {c : Expr} (hc : X.calm = true) (hN : X.N.Nodup) (hi : PX X kc Wx it p) (ok : BlkOk X.N X.env.scope scope own) (hsub : ∀ n ∈ ns, n ∈ own.map (·.2))
    (hg : ∀ (s : Shared) (H : Hp) (C : Addr) (cl : List (Str × Addr)) (fp : List Addr), GX (X.blk s H scope (compEnvC scope cl C X.env) fp) kc tg ns bd)
    (ht : ∀ (s : Shared) (H : Hp) (C : Addr) (cl : List (Str × Addr)) (fp : List Addr), TX (X.blk s H scope (compEnvC scope cl C X.env) fp) kc WF c t)
    (he : ∀ (s : Shared) (H : Hp) (C : Addr) (cl : List (Str × Addr)) (fp : List Addr), EX (X.blk s H scope (compEnvC scope cl C X.env) fp) kc WF elt m) (hs : ∀ x, foldedSetIterable it X.env x = pure x := by intro _; rfl) :
    FX X kc Wx (.ListComp elt [⟨tg, it, [c], 0⟩] scope pos) (E.lcV p (own.map (·.2)) bd t m) := by
  obtain ⟨tl, i1, i2⟩ := hi
  refine ⟨_, pe_lc (g := canG X.K kc ns bd) (te := can X.K kc WF (relE X.K kc) m) hc hN (pi_list i1) ok (fun s H C cl fp => (hg s H C cl fp).pg) (fun s H C cl fp => pts_one (t := can X.K kc WF relT t) (ht s H C cl fp).pt) (fun s H C cl fp => (he s H C cl fp).pe) hs, ?_⟩
  exact oks_lcV i2 (fun Fz en st G io σ H w v en' S r e Q hQ => ⟨Fz, en, st, G, io, w, en', S, r, e, hQ⟩) hsub (hg X.s_0 X.H_0 0 [] []).2 of_can of_can
end
end MH

/-! The place of a text in a text. -/
namespace MH
open PySem L2 PyProof
def indexW (w : W) (us : List W) : Option W := match us with
  | [u] => match w, u with
    | .str a, .str b => match Builtin.Str.occurrences a b 0 a.length 1 with
      | i :: _ => some (.int (i : Nat))
      | [] => none
    | _, _ => none
  | _ => none
theorem mk_sindex {kc : CT} {K : PySem.W.Frag} : MtK K kc "str" (relE K kc) (fun x xs H Q => ∃ a b i rest, x = .str a ∧ xs = [.str b] ∧ Builtin.Str.occurrences a b 0 a.length 1 = i :: rest ∧ Q (.int (i : Nat)) H) indexW := by
  intro Wx Fz en st G io σ H w x hs vs S t r
  cases r with
  | nil => exact At.no
  | cons h1 r =>
    cases r with
    | cons h2 r => exact At.no
    | nil =>
      rename_i h v
      show At _ _ _ _ _ _ _ _ _ (lift (indexW w [view en st h]) st) _
      have tv := view_of S h1
      revert tv
      generalize view en st h = u
      intro tv
      cases w <;> try exact At.no
      rename_i a
      cases t.str
      cases u <;> try exact At.no
      rename_i b
      cases tv.str
      unfold indexW
      dsimp only
      cases q : Builtin.Str.occurrences a b 0 a.length 1 with
      | nil => exact At.no
      | cons i rest => exact (At.pure S (Rp.int _)).mono fun Q hq => ⟨a, b, i, rest, rfl, rfl, q, hq⟩
section
variable {kc : CT} {X : Cx} {Wx : WX} {o e : Expr} {apos cpos : Pos}
theorem ex_sindex {p : Pv} {m : Hv} (ho : PX X kc Wx o p) (ha : HX X kc Wx [e] m) (hbase : attributeBase o "index" X.env (eval o X.env) = eval o X.env := by rfl)
    (hfew : ((backTo cpos (starEach [e] X.env)).all (fun x => !x.1) && (backToKw cpos (keywordEach [] X.env)).all (fun x => x.1.isSome)
      && decide (([e] : List Expr).length + ([] : List Keyword).length + (if ([] : List Keyword).isEmpty then 0 else 1) < 30)) = true := by rfl)
    (hline : (apos.endLine == cpos.line) = true := by rfl) (hs : starEach [e] X.env = (false, eval e X.env) :: starEach [] X.env := by rfl) (hplain : (backTo cpos (starEach [] X.env)).any (·.1) = false := by rfl) : EX X kc Wx (.Call (.Attribute o "index" apos) [e] [] cpos) (E.ms indexW p m) :=
  ex_ms PySem.F.plainAttrs_str PySem.F.slot_str_index PySem.F.type_str_index mt_sindex mk_sindex ho ha hbase hfew hline hs hplain
end
end MH

/-! Methods called by keywords. -/
namespace MH
open PySem L2 PyProof
section
variable {X : Cx} {CX : CXT} {k : Nat} {C f : Addr} {fd : FuncData} {m : Str} {ps ks : List Str} {sp : Sp} {E : L2.St → XK} {o : Expr} {kws : List Keyword} {ta : TE} {tk : TA} {apos pos : Pos}
def tMethAK (C : Addr) (m : Str) (sp : Sp) (ps ks : List Str) (E : L2.St → XK) (ta : TE) (tk : TA) : TE := fun σ H Q => ta σ H fun x H1 => ∃ a dx fs, x = .ref a ∧ H1 a = some (.ins C dx fs) ∧ fs.lookup m = none ∧
  tk σ H1 fun zs H2 => zs.length = ks.length ∧ sp (kwOrd ps ks [x] zs) H2 Q (E σ)
theorem pe_methAK {pl : Sem Bool} (he : PE X o ta) (c : Cls X.K C) (hm : Meth X.K C m f) (F : FnG X.prog X.w X.K X.mg X.base CX k f fd ps sp) (hr : Room k X.A) (gd : X.A.guards = some []) (hb : KwB fd ps ks 1) (hx : ∀ σ, PassesAt CX X σ (E σ)) (hkw : PK X kws tk)
    (hall : (backToKw pos (keywordEach kws X.env)).all (·.1.isSome) = true := by rfl) (hks : (backToKw pos (keywordEach kws X.env)).filterMap (·.1) = ks := by rfl)
    (hpl : ((backTo pos (starEach [] X.env)).any (·.1) || (backToKw pos (keywordEach kws X.env)).any (·.1.isNone)) = false := by rfl)
    (ht : eval (.Call (.Attribute o m apos) [] kws pos) X.env = (do
      let ov ← eval o X.env
      standAt apos.atName
      let (f, first) ← holding [ov] (getMethod ov m pl)
      callWith pos f first (backTo pos (starEach [] X.env)) (backToKw pos (keywordEach kws X.env))) := by rfl) :
    PE X (.Call (.Attribute o m apos) [] kws pos) (tMethAK C m sp ps ks E ta tk) := by
  refine ⟨fun pins s σ H Q I h => ?_⟩
  refine PySem.W.methodCall_KW (pl := pl) (thn (he.run pins s σ H _ I h) fun u s1 ⟨x, H1, I1, rx, a, dx, fs, ex, ea, l, q⟩ => ?_) ht
  subst ex
  obtain rfl : u = Value.ref a := rx
  refine getmeth_ok I1 ea c hm l ?_
  refine PySem.W.callWith_KW0 (first := [.ref a]) (h₀ := X.base) I.ok.mod.kin hm.kp hall ?_ hpl
  refine thn (hkw.run pos pins s1 σ H1 _ I1 q) fun ws s2 ⟨zs, H2, I2, rz, l2, q2⟩ => ⟨I2.kIn, ?_⟩
  rw [hks]
  exact run_any (args := ⟨[.ref a], ks.zip ws⟩) F hr gd (hb s2 [.ref a] ws rfl (by rw [← rz.length, l2])) (hx σ) I2 (vals_kw (vs := [V.ref a]) (.cons (show RelV (V.ref a) (Value.ref a) from rfl) .nil) rz) q2
end
section
variable {X : Cx} {kc : CT} {Wx : WX} {o : Expr} {kws : List Keyword} {pos apos : Pos} {C g : Addr} {fd : FuncData} {ps ks : List Str} {f : Fv} {k n : Nat}
def E.methK (c : String) (m : Str) (n : Nat) (ps ks : List Str) (f : Fv) (p : Pv) (k : Av) : Ev := fun en st => (p en st).bind fun h s => match h with
  | .fz (.ins c' fs) => if c' = c ∧ fs.lookup m = none then (k en s).bind fun zs s' => if zs.length = ks.length ∧ (kwOrd ps ks [.ins c' fs] zs).length = n then f (kwOrd ps ks [.ins c' fs] zs) s' else .no else .no
  | _ => .no
theorem ex_methK {c : String} {ka : Av} {pv : Pv} {mn : Str} {pl : Sem Bool} (hcl : ∀ C', kc c = some C' → C' = C) (cl : Cls X.K C) (hm : Meth X.K C mn g) (F : FnG X.prog X.w X.K X.mg X.base (L2.CX X.prog X.w) k g fd ps (spF X.K kc n f)) (hr : Room k X.A) (gd : X.A.guards = some []) (hb : KwB fd ps ks 1) (tk : Takes X Wx)
    (ho : PX X kc Wx o pv) (ha : KX X kc Wx kws ka) (hall : (backToKw pos (keywordEach kws X.env)).all (·.1.isSome) = true := by rfl) (hks : (backToKw pos (keywordEach kws X.env)).filterMap (·.1) = ks := by rfl)
    (hpl : ((backTo pos (starEach [] X.env)).any (·.1) || (backToKw pos (keywordEach kws X.env)).any (·.1.isNone)) = false := by rfl)
    (ht : eval (.Call (.Attribute o mn apos) [] kws pos) X.env = (do
      let ov ← eval o X.env
      standAt apos.atName
      let (f, first) ← holding [ov] (getMethod ov mn pl)
      callWith pos f first (backTo pos (starEach [] X.env)) (backToKw pos (keywordEach kws X.env))) := by rfl) :
    EX X kc Wx (.Call (.Attribute o mn apos) [] kws pos) (E.methK c mn n ps ks f pv ka) := by
  obtain ⟨to, o1, o2⟩ := ho
  obtain ⟨t, h1, h2⟩ := ha
  refine ⟨_, pe_methAK (pl := pl) o1 cl hm F hr gd hb (fun σ => passAt tk σ) h1 hall hks hpl ht, fun Fz en st G io σ H S => ?_⟩
  refine (o2 Fz en st G io σ H S).bind (u := fun x H1 Q => ∃ a dx fs, x = V.ref a ∧ H1 a = some (.ins C dx fs) ∧ fs.lookup mn = none ∧ t σ H1 fun zs H2 => zs.length = ks.length ∧ spF X.K kc n f (kwOrd ps ks [x] zs) H2 Q (WE Wx σ)) fun h s1 x G1 io1 H1 e1 l1 p1 S1 r1 => ?_
  split
  · rename_i c' fs
    split
    · rename_i hcc
      obtain ⟨rfl, hno⟩ := hcc
      cases r1 with
      | @ins _ _ C' a dx fv kC ga rf =>
        cases hcl C' kC
        have key : At X.K kc Wx (relE X.K kc) Fz en G1 io1 σ ((ka en s1).bind fun zs s' => if zs.length = ks.length ∧ (kwOrd ps ks [.ins c' fs] zs).length = n then f (kwOrd ps ks [.ins c' fs] zs) s' else .no) (fun Q => t σ H1 fun zs H2 => zs.length = ks.length ∧ spF X.K kc n f (kwOrd ps ks [V.ref a] zs) H2 Q (WE Wx σ)) := by
          refine (h2 Fz en s1 G1 io1 σ H1 S1).bind (u := fun zs H2 Q => zs.length = ks.length ∧ spF X.K kc n f (kwOrd ps ks [V.ref a] zs) H2 Q (WE Wx σ)) fun zs s2 vs G2 io2 H2 e2 l2 p2 S2 r2 => ?_
          split
          · rename_i hl
            exact (at_fn S2 (rpL_kw (ps := ps) (ks := ks) (.cons (.ins kC (l2.get ga) (rf.mono l2 p2)) .nil) r2) hl.2).mono fun Q q => ⟨by rw [← r2.length]; exact hl.1, q⟩
          · exact At.no
        exact key.mono fun Q q => ⟨a, dx, fv, rfl, S1.gs _ _ ga, rf.lookup_none hno, q⟩
    · exact At.no
  · exact At.no
end
end MH

/-! What is wanted of a result: rules to reckon with, from the front. What is done with a result is hidden in an instance, so that simp does not look into it. -/
namespace MH
open PySem L2
class CoE (A : Type) where
  run : A → Sto → Prop
class CoX where
  run : String → List (Str × W) → Sto → Prop
class CoS where
  run : Fl → En → Sto → Prop
class CoY where
  run : String → List (Str × W) → En → Sto → Prop
class CoP where
  run : Unit → Prop
class CoB where
  run : En → Prop
class CoL where
  run : List W → Prop
def CoE.go {A : Type} [q : CoE A] (a : A) (s : Sto) : Prop := q.run a s
def CoX.go [q : CoX] (c : String) (fs : List (Str × W)) (s : Sto) : Prop := q.run c fs s
def CoS.go [q : CoS] (f : Fl) (e : En) (s : Sto) : Prop := q.run f e s
def CoY.go [q : CoY] (c : String) (fs : List (Str × W)) (e : En) (s : Sto) : Prop := q.run c fs e s
def CoP.go [q : CoP] : Prop := q.run ()
def CoB.go [q : CoB] (e : En) : Prop := q.run e
def CoL.go [q : CoL] (e : List W) : Prop := q.run e
def wpE {A : Type} (r : R Sto A) [q : CoE A] [x : CoX] : Prop := match r with
  | .ok a s => q.run a s
  | .ex c fs s => x.run c fs s
  | .no => False
def wpS (r : R (En × Sto) Fl) [q : CoS] [x : CoY] : Prop := match r with
  | .ok f s => q.run f s.1 s.2
  | .ex c fs s => x.run c fs s.1 s.2
  | .no => False
def iteP (b : Bool) [p : CoP] [q : CoP] : Prop := match b with
  | true => p.run ()
  | false => q.run ()
def nxtK (f : Fl) [p : CoP] [q : CoP] : Prop := match f with
  | .nx => p.run ()
  | _ => q.run ()
def finK (f : Fl) (s : Sto) [q : CoE W] : Prop := match f with
  | .nx => q.run .non s
  | .rt w => q.run w s
  | _ => False
def lopK (f : Fl) (e : En) (s : Sto) [p : CoP] [q : CoS] : Prop := match f with
  | .nx => p.run ()
  | .ct => p.run ()
  | .bk => q.run .nx e s
  | .rt w => q.run (.rt w) e s
def bdP (o : Option En) [k : CoB] : Prop := match o with
  | some e => k.run e
  | none => False
def lstK (w : W) [k : CoL] : Prop := match w with
  | .lst ws => k.run ws
  | _ => False
def hitK (o : Option Bool) [p : CoP] [q : CoP] : Prop := match o with
  | some true => p.run ()
  | some false => q.run ()
  | none => False
def noX : CoX := ⟨fun _ _ _ => False⟩
abbrev wpQ {A : Type} (r : R Sto A) (Q : A → Sto → Prop) : Prop := wpE r (q := ⟨Q⟩) (x := noX)
abbrev wpQX {A : Type} (r : R Sto A) (Q : A → Sto → Prop) (X : String → List (Str × W) → Sto → Prop) : Prop := wpE r (q := ⟨Q⟩) (x := ⟨X⟩)
abbrev wpSQ (r : R (En × Sto) Fl) (Q : Fl → En → Sto → Prop) (x : CoY) : Prop := wpS r (q := ⟨Q⟩) (x := x)
section
variable {A B : Type} {q : CoE A} {x : CoX} {qs : CoS} {xs : CoY} {en : En} {st : Sto}
theorem goE {f : A → Sto → Prop} {a : A} {s : Sto} : @CoE.go A ⟨f⟩ a s = f a s := (rfl)
theorem goX {f : String → List (Str × W) → Sto → Prop} {c : String} {fs : List (Str × W)} {s : Sto} : @CoX.go ⟨f⟩ c fs s = f c fs s := (rfl)
theorem goN {c : String} {fs : List (Str × W)} {s : Sto} : @CoX.go noX c fs s = False := (rfl)
theorem goS {f : Fl → En → Sto → Prop} {a : Fl} {e : En} {s : Sto} : @CoS.go ⟨f⟩ a e s = f a e s := (rfl)
theorem goY {f : String → List (Str × W) → En → Sto → Prop} {c : String} {fs : List (Str × W)} {e : En} {s : Sto} : @CoY.go ⟨f⟩ c fs e s = f c fs e s := (rfl)
theorem goP {f : Unit → Prop} : @CoP.go ⟨f⟩ = f () := (rfl)
theorem goB {f : En → Prop} {e : En} : @CoB.go ⟨f⟩ e = f e := (rfl)
theorem goL {f : List W → Prop} {e : List W} : @CoL.go ⟨f⟩ e = f e := (rfl)
theorem wE_ok {a : A} {s : Sto} : wpE (.ok a s) (q := q) (x := x) = q.go a s := (rfl)
theorem wE_ex {c : String} {fs : List (Str × W)} {s : Sto} : wpE (.ex c fs s : R Sto A) (q := q) (x := x) = x.go c fs s := (rfl)
theorem wE_no : wpE (.no : R Sto A) (q := q) (x := x) = False := (rfl)
theorem wS_ok {f : Fl} {s : En × Sto} : wpS (.ok f s) (q := qs) (x := xs) = qs.go f s.1 s.2 := (rfl)
theorem wS_ex {c : String} {fs : List (Str × W)} {s : En × Sto} : wpS (.ex c fs s) (q := qs) (x := xs) = xs.go c fs s.1 s.2 := (rfl)
theorem wS_no : wpS .no (q := qs) (x := xs) = False := (rfl)
theorem iP_t {p k : CoP} : @iteP true p k = p.go := (rfl)
theorem iP_f {p k : CoP} : @iteP false p k = k.go := (rfl)
theorem nK_nx {p k : CoP} : @nxtK .nx p k = p.go := (rfl)
theorem nK_rt {p k : CoP} {w : W} : @nxtK (.rt w) p k = k.go := (rfl)
theorem nK_bk {p k : CoP} : @nxtK .bk p k = k.go := (rfl)
theorem nK_ct {p k : CoP} : @nxtK .ct p k = k.go := (rfl)
theorem fK_nx {s : Sto} {k : CoE W} : @finK .nx s k = k.go .non s := (rfl)
theorem fK_rt {s : Sto} {w : W} {k : CoE W} : @finK (.rt w) s k = k.go w s := (rfl)
theorem lK_nx {e : En} {s : Sto} {p : CoP} {k : CoS} : @lopK .nx e s p k = p.go := (rfl)
theorem lK_ct {e : En} {s : Sto} {p : CoP} {k : CoS} : @lopK .ct e s p k = p.go := (rfl)
theorem lK_bk {e : En} {s : Sto} {p : CoP} {k : CoS} : @lopK .bk e s p k = k.go .nx e s := (rfl)
theorem lK_rt {e : En} {s : Sto} {w : W} {p : CoP} {k : CoS} : @lopK (.rt w) e s p k = k.go (.rt w) e s := (rfl)
theorem bP_some {e : En} {k : CoB} : @bdP (some e) k = k.go e := (rfl)
theorem bP_none {k : CoB} : @bdP none k = False := (rfl)
theorem lsK_l {ws : List W} {k : CoL} : @lstK (.lst ws) k = k.go ws := (rfl)
theorem hK_t {p k : CoP} : @hitK (some true) p k = p.go := (rfl)
theorem hK_f {p k : CoP} : @hitK (some false) p k = k.go := (rfl)
theorem iP_not {b : Bool} {p k : CoP} : @iteP (!b) p k = @iteP b k p := by cases b <;> rfl
theorem iteP_of {b : Bool} {p k : CoP} (h1 : b = true → p.go) (h2 : b = false → k.go) : @iteP b p k := by
  cases b
  · exact h2 rfl
  · exact h1 rfl
theorem iteP_if {b : Bool} {p k : CoP} : @iteP b p k = if b = true then p.go else k.go := by cases b <;> rfl
theorem iteP_dec {c : Prop} [Decidable c] {p k : CoP} : @iteP (decide c) p k = if c then p.go else k.go := by by_cases h : c <;> simp [h, iteP, CoP.go]
theorem wE_ite {c : Prop} [Decidable c] {a b : R Sto A} : wpE (if c then a else b) (q := q) (x := x) = if c then wpE a (q := q) (x := x) else wpE b (q := q) (x := x) := by split <;> rfl
theorem wE_iteN {c : Prop} [Decidable c] {a : R Sto A} : wpE (if c then a else .no) (q := q) (x := x) = (c ∧ wpE a (q := q) (x := x)) := by by_cases h : c <;> simp [h, wpE]
theorem wS_iteN {c : Prop} [Decidable c] {a : R (En × Sto) Fl} : wpS (if c then a else .no) (q := qs) (x := xs) = (c ∧ wpS a (q := qs) (x := xs)) := by by_cases h : c <;> simp [h, wpS]
theorem liftIte {c : Prop} [Decidable c] {a b : Option A} {st : Sto} : lift (if c then a else b) st = if c then lift a st else lift b st := by split <;> rfl
theorem liftNone {st : Sto} : lift (none : Option A) st = .no := (rfl)
theorem bndE {r : R Sto B} {f : B → Sto → R Sto A} {P : B → Sto → Prop} (h : ∀ a s, wpE (f a s) (q := q) (x := x) = P a s) : wpE (r.bind f) (q := q) (x := x) = wpE r (q := ⟨P⟩) (x := x) := by
  cases r with
  | ok a s => exact h a s
  | _ => rfl
theorem bndS {r : R Sto B} {k : B → Sto → R (En × Sto) Fl} {P : B → Sto → Prop} (h : ∀ a s, wpS (k a s) (q := qs) (x := xs) = P a s) : wpS (r.toS en k) (q := qs) (x := xs) = wpE r (q := ⟨P⟩) (x := ⟨fun c fs s => xs.go c fs en s⟩) := by
  cases r with
  | ok a s => exact h a s
  | _ => rfl
theorem ifN {c : Prop} [Decidable c] {a : R Sto A} {P : Prop} (h : wpE a (q := q) (x := x) = P) : wpE (if c then a else .no) (q := q) (x := x) = (c ∧ P) := by rw [wE_iteN, h]
theorem ifNS {c : Prop} [Decidable c] {a : R (En × Sto) Fl} {P : Prop} (h : wpS a (q := qs) (x := xs) = P) : wpS (if c then a else .no) (q := qs) (x := xs) = (c ∧ P) := by by_cases z : c <;> simp [z, wpS, ← h]
/-! ### texts of functions -/
theorem w_body {n : Nat} {b : Sv} {ws : List W} {q : CoE W} : wpE (body n b ws st) (q := q) (x := x) = wpS (b (ws.map (fun w => some (false, w)) ++ List.replicate (n - ws.length) none) st) (q := ⟨fun fl _ s => finK fl s (q := q)⟩) (x := ⟨fun c fs _ s => x.go c fs s⟩) := by
  unfold body
  cases b (ws.map (fun w => some (false, w)) ++ List.replicate (n - ws.length) none) st with
  | ok fl s => cases fl <;> rfl
  | _ => rfl
section
variable {q : CoE W}
theorem w_bin {f : W → W → Option W} {p k : Pv} : wpE (E.bin f p k en st) (q := q) (x := x) = wpE (p en st) (q := ⟨fun h1 s1 => wpE (k en s1) (q := ⟨fun h2 s2 => wpE (lift (f (view en s2 h1) (view en s2 h2)) s2) (q := q) (x := x)⟩) (x := x)⟩) (x := x) :=
  bndE fun _ _ => bndE fun _ _ => rfl
theorem w_tup {m : Av} : wpE (E.tup m en st) (q := q) (x := x) = wpE (m en st) (q := ⟨fun ws s => fit ws.length = true ∧ q.go (.tup ws) s⟩) (x := x) := bndE fun _ _ => ifN rfl
theorem w_lst {m : Av} : wpE (E.lst m en st) (q := q) (x := x) = wpE (m en st) (q := ⟨fun ws s => fit ws.length = true ∧ q.go (.lst ws) s⟩) (x := x) := bndE fun _ _ => ifN rfl
theorem w_eite {c : Tv} {m k : Ev} : wpE (E.ite c m k en st) (q := q) (x := x) = wpE (c en st) (q := ⟨fun b s => iteP b (p := ⟨fun _ => wpE (m en s) (q := q) (x := x)⟩) (q := ⟨fun _ => wpE (k en s) (q := q) (x := x)⟩)⟩) (x := x) := bndE fun b _ => by cases b <;> rfl
theorem w_call {f : List W → Option W} {m : Hv} : wpE (E.call f m en st) (q := q) (x := x) = wpE (m en st) (q := ⟨fun hs s => wpE (lift (f (hs.map (view en s))) s) (q := q) (x := x)⟩) (x := x) := bndE fun _ _ => rfl
theorem w_fn {f : Fv} {m : Av} : wpE (E.fn f m en st) (q := q) (x := x) = wpE (m en st) (q := ⟨fun ws s => wpE (f ws s) (q := q) (x := x)⟩) (x := x) := bndE fun _ _ => rfl
theorem w_fnK {n : Nat} {ps ks : List Str} {f : Fv} {m : Av} : wpE (E.fnK n ps ks f m en st) (q := q) (x := x) = wpE (m en st) (q := ⟨fun zs s => (zs.length = ks.length ∧ (kwOrd ps ks [] zs).length = n) ∧ wpE (f (kwOrd ps ks [] zs) s) (q := q) (x := x)⟩) (x := x) := bndE fun _ _ => ifN rfl
theorem w_slice {p : Pv} {lo hi : Ov} : wpE (E.slice p lo hi en st) (q := q) (x := x) = wpE (p en st) (q := ⟨fun h s => wpE (lo en s) (q := ⟨fun l s' => wpE (hi en s') (q := ⟨fun u s'' => wpE (lift (sliceW l u (view en s'' h)) s'') (q := q) (x := x)⟩) (x := x)⟩) (x := x)⟩) (x := x) :=
  bndE fun _ _ => bndE fun _ _ => bndE fun _ _ => rfl
theorem w_un {f : W → Option W} {p : Pv} : wpE (E.un f p en st) (q := q) (x := x) = wpE (p en st) (q := ⟨fun h s => wpE (lift (f (view en s h)) s) (q := q) (x := x)⟩) (x := x) := bndE fun _ _ => rfl
theorem w_dix {p k : Pv} : wpE (E.dix p k en st) (q := q) (x := x) = wpE (p en st) (q := ⟨fun h1 s1 => wpE (k en s1) (q := ⟨fun h2 s2 => wpE (lift ((getW (view en s2 h1) (view en s2 h2)).bind id) s2) (q := q) (x := x)⟩) (x := x)⟩) (x := x) :=
  bndE fun _ _ => bndE fun _ _ => rfl
theorem w_get1 {p k : Pv} : wpE (E.get1 p k en st) (q := q) (x := x) = wpE (p en st) (q := ⟨fun h1 s1 => isDct (view en s1 h1) = true ∧ wpE (k en s1) (q := ⟨fun h2 s2 => wpE (lift ((getW (view en s2 h1) (view en s2 h2)).map fun o => o.getD .non) s2) (q := q) (x := x)⟩) (x := x)⟩) (x := x) :=
  bndE fun _ _ => ifN (bndE fun _ _ => rfl)
theorem w_get2 {p k : Pv} {m : Ev} : wpE (E.get2 p k m en st) (q := q) (x := x) = wpE (p en st) (q := ⟨fun h1 s1 => isDct (view en s1 h1) = true ∧ wpE (k en s1) (q := ⟨fun h2 s2 => wpE (m en s2) (q := ⟨fun w s3 => wpE (lift ((getW (view en s3 h1) (view en s3 h2)).map fun o => o.getD w) s3) (q := q) (x := x)⟩) (x := x)⟩) (x := x)⟩) (x := x) :=
  bndE fun _ _ => ifN (bndE fun _ _ => bndE fun _ _ => rfl)
theorem w_din {p k : Pv} : wpE (E.din p k en st) (q := q) (x := x) = wpE (p en st) (q := ⟨fun h1 s1 => wpE (k en s1) (q := ⟨fun h2 s2 => wpE (lift ((getW (view en s2 h2) (view en s2 h1)).map fun o => .bl o.isSome) s2) (q := q) (x := x)⟩) (x := x)⟩) (x := x) :=
  bndE fun _ _ => bndE fun _ _ => rfl
theorem w_dni {p k : Pv} : wpE (E.dni p k en st) (q := q) (x := x) = wpE (p en st) (q := ⟨fun h1 s1 => wpE (k en s1) (q := ⟨fun h2 s2 => wpE (lift ((getW (view en s2 h2) (view en s2 h1)).map fun o => .bl (!o.isSome)) s2) (q := q) (x := x)⟩) (x := x)⟩) (x := x) :=
  bndE fun _ _ => bndE fun _ _ => rfl
theorem w_loc {m : Ev} : wpE (E.loc m en st) (q := q) (x := x) = wpE (m en st) (q := ⟨fun w s => q.go (.loc s.length) (s ++ [w])⟩) (x := x) := bndE fun _ _ => rfl
def popR (w : W) (s : Sto) : R Sto W := match w with
  | .loc n => match s.getD n .non with
    | .lst ws => match ws[ws.length - 1]? with
      | some u => .ok u (s.set n (.lst ws.dropLast))
      | none => .no
    | _ => .no
  | _ => .no
theorem w_pop {m : Ev} : wpE (E.pop m en st) (q := q) (x := x) = wpE (m en st) (q := ⟨fun w s => wpE (popR w s) (q := q) (x := x)⟩) (x := x) := bndE fun _ _ => rfl
theorem w_ms {f : W → List W → Option W} {p : Pv} {m : Hv} : wpE (E.ms f p m en st) (q := q) (x := x) = wpE (p en st) (q := ⟨fun h s1 => isStr (view en s1 h) = true ∧ wpE (m en s1) (q := ⟨fun hs s2 => wpE (lift (f (view en s2 h) (hs.map (view en s2))) s2) (q := q) (x := x)⟩) (x := x)⟩) (x := x) :=
  bndE fun _ _ => ifN (bndE fun _ _ => rfl)
class CoI where
  run : String → List (Str × W) → Prop
def CoI.go [q : CoI] (c : String) (fs : List (Str × W)) : Prop := q.run c fs
def insK (h : Hd) [k : CoI] : Prop := match h with
  | .fz (.ins c fs) => k.run c fs
  | _ => False
theorem goI {f : String → List (Str × W) → Prop} {c : String} {fs : List (Str × W)} : @CoI.go ⟨f⟩ c fs = f c fs := (rfl)
theorem inK {c : String} {fs : List (Str × W)} {k : CoI} : @insK (.fz (.ins c fs)) k = k.go c fs := (rfl)
theorem w_meth {c : String} {mn : Str} {n : Nat} {f : Fv} {p : Pv} {k : Av} : wpE (E.meth c mn n f p k en st) (q := q) (x := x) = wpE (p en st) (q := ⟨fun h s => insK h (k := ⟨fun c' fs => (c' = c ∧ fs.lookup mn = none) ∧ wpE (k en s) (q := ⟨fun ws s' => ws.length + 1 = n ∧ wpE (f (.ins c' fs :: ws) s') (q := q) (x := x)⟩) (x := x)⟩)⟩) (x := x) := by
  refine bndE fun h s => ?_
  cases h with
  | sl i => rfl
  | fz w =>
    cases w <;> first | rfl | (exact ifN (bndE fun _ _ => ifN rfl))
theorem w_own {f : W → W → Option W} {m k : Ev} : wpE (E.own f m k en st) (q := q) (x := x) = wpE (m en st) (q := ⟨fun w1 s => wpE (k en s) (q := ⟨fun w2 s2 => wpE (lift (f w1 w2) s2) (q := q) (x := x)⟩) (x := x)⟩) (x := x) := bndE fun _ _ => bndE fun _ _ => rfl
theorem w_map {f : W → Option W} {m : Ev} : wpE (E.map f m en st) (q := q) (x := x) = wpE (m en st) (q := ⟨fun w s => wpE (lift (f w) s) (q := q) (x := x)⟩) (x := x) := bndE fun _ _ => rfl
def dictR (ps : List (W × W)) (s : Sto) : R Sto W := match keysW ps with
  | some kws => if kws.length ≤ 15 then .ok (.dct false (mergeW [] kws)) s else .no
  | none => .no
theorem w_dict {m : Qv} : wpE (E.dict m en st) (q := q) (x := x) = wpE (m en st) (q := ⟨fun ps s => wpE (dictR ps s) (q := q) (x := x)⟩) (x := x) := bndE fun _ _ => rfl
theorem w_make {c : String} {f : Fv} {m : Av} : wpE (E.make c f m en st) (q := q) (x := x) = wpE (m en st) (q := ⟨fun ws s => wpE (E.mkW c f ws s) (q := q) (x := x)⟩) (x := x) := bndE fun _ _ => rfl
theorem w_makeK {c : String} {n : Nat} {ps ks : List Str} {f : Fv} {m : Av} : wpE (E.makeK c n ps ks f m en st) (q := q) (x := x) = wpE (m en st) (q := ⟨fun zs s => (zs.length = ks.length ∧ (kwOrd ps ks [] zs).length + 1 = n) ∧ wpE (E.mkW c f (kwOrd ps ks [] zs) s) (q := q) (x := x)⟩) (x := x) := bndE fun _ _ => ifN rfl
theorem w_lc {mi : Iv} {ns : List Nat} {bd : Bd} {t : Tv} {m : Ev} : wpE (E.lc mi ns bd t m en st) (q := q) (x := x) = (ns.any (fun n => ownS (en.getD n none)) = false ∧ wpE (mi en st) (q := ⟨fun items s => wpE (lcZ ns bd t m en items [] s) (q := ⟨fun xs s' => q.go (.lst xs) s'⟩) (x := x)⟩) (x := x)) := by
  unfold E.lc
  cases h : ns.any (fun n => ownS (en.getD n none)) with
  | true => simp [wpE]
  | false =>
    rw [if_neg (by decide)]
    rw [eq_true (rfl : false = false), true_and]
    exact bndE fun _ _ => bndE fun _ _ => rfl
theorem w_lcnil {ns : List Nat} {bd : Bd} {t : Tv} {m : Ev} {acc : List W} {q : CoE (List W)} : wpE (lcZ ns bd t m en [] acc st) (q := q) (x := x) = q.go acc st := (rfl)
theorem w_lccons {ns : List Nat} {bd : Bd} {t : Tv} {m : Ev} {w : W} {ws acc : List W} {q : CoE (List W)} : wpE (lcZ ns bd t m en (w :: ws) acc st) (q := q) (x := x) =
    bdP (bd w (wipeE en ns)) (k := ⟨fun en1 => wpE (t en1 st) (q := ⟨fun b s => iteP b (p := ⟨fun _ => wpE (m en1 s) (q := ⟨fun y s' => fit acc.length = true ∧ wpE (lcZ ns bd t m en ws (acc ++ [y]) s') (q := q) (x := x)⟩) (x := ⟨fun _ _ _ => False⟩)⟩) (q := ⟨fun _ => wpE (lcZ ns bd t m en ws acc s) (q := q) (x := x)⟩)⟩) (x := ⟨fun _ _ _ => False⟩)⟩) := by
  rw [lcZ]
  cases bd w (wipeE en ns) with
  | none => rfl
  | some en1 =>
    show wpE _ (q := q) (x := x) = wpE (t en1 st) (q := ⟨_⟩) (x := ⟨_⟩)
    dsimp only
    cases t en1 st with
    | no => rfl
    | ex c fs s => rfl
    | ok b s =>
      cases b with
      | false => rfl
      | true =>
        show wpE _ (q := q) (x := x) = wpE (m en1 s) (q := ⟨_⟩) (x := ⟨_⟩)
        dsimp only
        cases m en1 s with
        | no => rfl
        | ex c fs s => rfl
        | ok y s' => exact ifN rfl
theorem w_eand {m k : Ev} : wpE (E.and m k en st) (q := q) (x := x) = wpE (m en st) (q := ⟨fun w s => wpE (lift (blW w) s) (q := ⟨fun b s => iteP b (p := ⟨fun _ => wpE (k en s) (q := q) (x := x)⟩) (q := ⟨fun _ => q.go (.bl false) s⟩)⟩) (x := x)⟩) (x := x) := by
  refine bndE fun w s => ?_
  cases w with
  | bl b => cases b <;> rfl
  | _ => rfl
theorem w_eor {m k : Ev} : wpE (E.or m k en st) (q := q) (x := x) = wpE (m en st) (q := ⟨fun w s => wpE (lift (blW w) s) (q := ⟨fun b s => iteP b (p := ⟨fun _ => q.go (.bl true) s⟩) (q := ⟨fun _ => wpE (k en s) (q := q) (x := x)⟩)⟩) (x := x)⟩) (x := x) := by
  refine bndE fun w s => ?_
  cases w with
  | bl b => cases b <;> rfl
  | _ => rfl
theorem w_enot {m : Ev} : wpE (E.not m en st) (q := q) (x := x) = wpE (m en st) (q := ⟨fun w s => wpE (lift (blW w) s) (q := ⟨fun b s => q.go (.bl (!b)) s⟩) (x := x)⟩) (x := x) := by
  refine bndE fun w s => ?_
  cases w <;> rfl
end
section
theorem w_pk {m : Ev} {q : CoE Hd} : wpE (Ev.pk m en st) (q := q) (x := x) = wpE (m en st) (q := ⟨fun w s => q.go (.fz w) s⟩) (x := x) := bndE fun _ _ => rfl
theorem w_acons {m : Ev} {k : Av} {q : CoE (List W)} : wpE (MH.A.cons m k en st) (q := q) (x := x) = wpE (m en st) (q := ⟨fun w s => wpE (k en s) (q := ⟨fun ws s' => q.go (w :: ws) s'⟩) (x := x)⟩) (x := x) := bndE fun _ _ => bndE fun _ _ => rfl
theorem w_hcons {m : Pv} {k : Hv} {q : CoE (List Hd)} : wpE (Hs.cons m k en st) (q := q) (x := x) = wpE (m en st) (q := ⟨fun w s => wpE (k en s) (q := ⟨fun ws s' => q.go (w :: ws) s'⟩) (x := x)⟩) (x := x) := bndE fun _ _ => bndE fun _ _ => rfl
theorem w_qcons {a b : Ev} {k : Qv} {q : CoE (List (W × W))} : wpE (Q.cons a b k en st) (q := q) (x := x) = wpE (a en st) (q := ⟨fun w s => wpE (b en s) (q := ⟨fun u s1 => wpE (k en s1) (q := ⟨fun ps s' => q.go ((w, u) :: ps) s'⟩) (x := x)⟩) (x := x)⟩) (x := x) := bndE fun _ _ => bndE fun _ _ => bndE fun _ _ => rfl
theorem w_tval {m : Ev} {q : CoE Bool} : wpE (MH.T.val m en st) (q := q) (x := x) = wpE (m en st) (q := ⟨fun w s => wpE (lift (blW w) s) (q := q) (x := x)⟩) (x := x) := bndE fun _ _ => rfl
theorem w_tnot {m : Tv} {q : CoE Bool} : wpE (MH.T.not m en st) (q := q) (x := x) = wpE (m en st) (q := ⟨fun b s => q.go (!b) s⟩) (x := x) := bndE fun _ _ => rfl
theorem w_tand {m k : Tv} {q : CoE Bool} : wpE (MH.T.and m k en st) (q := q) (x := x) = wpE (m en st) (q := ⟨fun b s => iteP b (p := ⟨fun _ => wpE (k en s) (q := q) (x := x)⟩) (q := ⟨fun _ => q.go false s⟩)⟩) (x := x) := bndE fun b _ => by cases b <;> rfl
theorem w_tor {m k : Tv} {q : CoE Bool} : wpE (MH.T.or m k en st) (q := q) (x := x) = wpE (m en st) (q := ⟨fun b s => iteP b (p := ⟨fun _ => q.go true s⟩) (q := ⟨fun _ => wpE (k en s) (q := q) (x := x)⟩)⟩) (x := x) := bndE fun b _ => by cases b <;> rfl
theorem w_oat {m : Ev} {q : CoE (Option Int)} : wpE (O.at m en st) (q := q) (x := x) = wpE (m en st) (q := ⟨fun w s => wpE (lift (intW w) s) (q := q) (x := x)⟩) (x := x) := bndE fun _ _ => rfl
theorem w_iof {m : Ev} {q : CoE (List W)} : wpE (I.of m en st) (q := q) (x := x) = wpE (m en st) (q := ⟨fun w s => wpE (lift (itemsW w) s) (q := q) (x := x)⟩) (x := x) := bndE fun _ _ => rfl
theorem w_irange {m : Hv} {q : CoE (List W)} : wpE (I.range m en st) (q := q) (x := x) = wpE (m en st) (q := ⟨fun hs s => wpE (lift (rangeOf (hs.map (view en s))) s) (q := q) (x := x)⟩) (x := x) := bndE fun _ _ => rfl
def enumO (k : Int) : List W → Option (List W)
  | [w] => (itemsW w).map (enumW k)
  | _ => none
def zipO : List W → Option (List W)
  | [w, w'] => (itemsW w).bind fun a => (itemsW w').map (zipW a)
  | _ => none
theorem w_ienum {k : Int} {m : Av} {q : CoE (List W)} : wpE (I.enum k m en st) (q := q) (x := x) = wpE (m en st) (q := ⟨fun ws s => wpE (lift (enumO k ws) s) (q := q) (x := x)⟩) (x := x) := by
  refine bndE fun ws s => ?_
  rcases ws with _ | ⟨a, _ | ⟨b, r⟩⟩ <;> rfl
theorem w_izip {m : Av} {q : CoE (List W)} : wpE (I.zip m en st) (q := q) (x := x) = wpE (m en st) (q := ⟨fun ws s => wpE (lift (zipO ws) s) (q := q) (x := x)⟩) (x := x) := by
  refine bndE fun ws s => ?_
  rcases ws with _ | ⟨a, _ | ⟨b, _ | ⟨c, r⟩⟩⟩ <;> rfl
end
/-! ### statements -/
section
variable {q : CoS} {x : CoY}
abbrev xE (x : CoY) (en : En) : CoX := ⟨fun c fs s => x.go c fs en s⟩
theorem w_cons {m k : Sv} : wpS (Z.cons m k en st) (q := q) (x := x) = wpS (m en st) (q := ⟨fun fl e s => nxtK fl (p := ⟨fun _ => wpS (k e s) (q := q) (x := x)⟩) (q := ⟨fun _ => q.go fl e s⟩)⟩) (x := x) := by
  unfold Z.cons
  cases m en st with
  | ok fl s => cases fl <;> rfl
  | _ => rfl
theorem w_ret {m : Ev} : wpS (Z.ret m en st) (q := q) (x := x) = wpE (m en st) (q := ⟨fun w s => q.go (.rt w) en s⟩) (x := ⟨fun c fs s => x.go c fs en s⟩) := bndS fun _ _ => rfl
theorem w_set {i : Nat} {m : Ev} : wpS (Z.set i m en st) (q := q) (x := x) = wpE (m en st) (q := ⟨fun w s => q.go .nx (en.set i (some (false, w))) s⟩) (x := ⟨fun c fs s => x.go c fs en s⟩) := bndS fun _ _ => rfl
theorem w_zown {i : Nat} {m : Ev} : wpS (Z.own i m en st) (q := q) (x := x) = wpE (m en st) (q := ⟨fun w s => q.go .nx (en.set i (some (true, w))) s⟩) (x := ⟨fun c fs s => x.go c fs en s⟩) := bndS fun _ _ => rfl
theorem w_expr {m : Ev} : wpS (Z.expr m en st) (q := q) (x := x) = wpE (m en st) (q := ⟨fun w s => q.go .nx en s⟩) (x := ⟨fun c fs s => x.go c fs en s⟩) := bndS fun _ _ => rfl
theorem w_zite {c : Tv} {m k : Sv} : wpS (Z.ite c m k en st) (q := q) (x := x) = wpE (c en st) (q := ⟨fun b s => iteP b (p := ⟨fun _ => wpS (m en s) (q := q) (x := x)⟩) (q := ⟨fun _ => wpS (k en s) (q := q) (x := x)⟩)⟩) (x := ⟨fun c fs s => x.go c fs en s⟩) := bndS fun b _ => by cases b <;> rfl
theorem w_app {p : Pv} {m : Ev} : wpS (Z.app p m en st) (q := q) (x := x) = wpE (p en st) (q := ⟨fun h s1 => isLst (view en s1 h) = true ∧ wpE (m en s1) (q := ⟨fun w s2 => lstK (view en s2 h) (k := ⟨fun ws => fit ws.length = true ∧ wpS (wrS (wrH h (.lst (ws ++ [w])) en s2)) (q := q) (x := x)⟩)⟩) (x := ⟨fun c fs s => x.go c fs en s⟩)⟩) (x := ⟨fun c fs s => x.go c fs en s⟩) := by
  refine bndS fun h s => ifNS (bndS fun w s2 => ?_)
  cases view en s2 h <;> first | rfl | exact ifNS rfl
theorem w_ext {p k : Pv} : wpS (Z.ext p k en st) (q := q) (x := x) = wpE (p en st) (q := ⟨fun h s1 => isLst (view en s1 h) = true ∧ wpE (k en s1) (q := ⟨fun h2 s2 => lstK (view en s2 h) (k := ⟨fun ws => lstK (view en s2 h2) (k := ⟨fun us => fit (ws.length + us.length) = true ∧ wpS (wrS (wrH h (.lst (ws ++ us)) en s2)) (q := q) (x := x)⟩)⟩)⟩) (x := ⟨fun c fs s => x.go c fs en s⟩)⟩) (x := ⟨fun c fs s => x.go c fs en s⟩) := by
  refine bndS fun h s => ifNS (bndS fun h2 s2 => ?_)
  cases view en s2 h <;> first | rfl | (cases view en s2 h2 <;> first | rfl | exact ifNS rfl)
def dputR (o : Option W) (h : Hd) (en : En) (s : Sto) : R (En × Sto) Fl := match o with
  | some w' => wrS (wrH h w' en s)
  | none => .no
theorem dpR {w : W} {h : Hd} {s : Sto} : dputR (some w) h en s = wrS (wrH h w en s) := (rfl)
theorem w_dput {p k : Pv} {m : Ev} : wpS (Z.dput p k m en st) (q := q) (x := x) = wpE (m en st) (q := ⟨fun w s1 => wpE (p en s1) (q := ⟨fun h s2 => wpE (k en s2) (q := ⟨fun k s3 => wpS (dputR (putW (view en s3 h) (view en s3 k) w) h en s3) (q := q) (x := x)⟩) (x := ⟨fun c fs s => x.go c fs en s⟩)⟩) (x := ⟨fun c fs s => x.go c fs en s⟩)⟩) (x := ⟨fun c fs s => x.go c fs en s⟩) :=
  bndS fun _ _ => bndS fun _ _ => bndS fun _ _ => rfl
def sattrR (pl : List String) (f : Str) (w : W) (v : W) (h : Hd) (en : En) (s2 : Sto) : R (En × Sto) Fl := match v with
  | .ins c fs => if c ∈ pl ∧ fs.length < 1000 then wrS (wrH h (.ins c (putFW f w fs)) en s2) else .no
  | _ => .no
theorem w_sattr {pl : List String} {f : Str} {p : Pv} {m : Ev} : wpS (Z.sattr pl f p m en st) (q := q) (x := x) = wpE (m en st) (q := ⟨fun w s1 => wpE (p en s1) (q := ⟨fun h s2 => wpS (sattrR pl f w (view en s2 h) h en s2) (q := q) (x := x)⟩) (x := ⟨fun c fs s => x.go c fs en s⟩)⟩) (x := ⟨fun c fs s => x.go c fs en s⟩) :=
  bndS fun _ _ => bndS fun _ _ => rfl
theorem w_raise {c : String} {fs : List Str} {m : Av} : wpS (Z.raise c fs m en st) (q := q) (x := x) = wpE (m en st) (q := ⟨fun ws s => ws.length = fs.length ∧ x.go c ((fs.zip ws).reverse) en s⟩) (x := ⟨fun c fs s => x.go c fs en s⟩) := bndS fun _ _ => ifNS rfl
theorem w_par {i j : Nat} {m k : Ev} : wpS (Z.par i j m k en st) (q := q) (x := x) = wpE (m en st) (q := ⟨fun w1 s1 => wpE (k en s1) (q := ⟨fun w2 s2 => q.go .nx ((en.set i (some (false, w1))).set j (some (false, w2))) s2⟩) (x := ⟨fun c fs s => x.go c fs en s⟩)⟩) (x := ⟨fun c fs s => x.go c fs en s⟩) :=
  bndS fun _ _ => bndS fun _ _ => rfl
theorem w_parO {i j : Nat} {m k : Ev} : wpS (Z.parO i j m k en st) (q := q) (x := x) = wpE (m en st) (q := ⟨fun w1 s1 => wpE (k en s1) (q := ⟨fun w2 s2 => q.go .nx ((en.set j (some (true, w2))).set i (some (false, w1))) s2⟩) (x := ⟨fun c fs s => x.go c fs en s⟩)⟩) (x := ⟨fun c fs s => x.go c fs en s⟩) :=
  bndS fun _ _ => bndS fun _ _ => rfl
theorem w_par3 {i j l : Nat} {m k n : Ev} : wpS (Z.par3 i j l m k n en st) (q := q) (x := x) = wpE (m en st) (q := ⟨fun w1 s1 => wpE (k en s1) (q := ⟨fun w2 s2 => wpE (n en s2) (q := ⟨fun w3 s3 => q.go .nx (((en.set i (some (false, w1))).set j (some (false, w2))).set l (some (false, w3))) s3⟩) (x := ⟨fun c fs s => x.go c fs en s⟩)⟩) (x := ⟨fun c fs s => x.go c fs en s⟩)⟩) (x := ⟨fun c fs s => x.go c fs en s⟩) :=
  bndS fun _ _ => bndS fun _ _ => bndS fun _ _ => rfl
theorem w_asg {bd : Bd} {m : Ev} : wpS (Z.asg bd m en st) (q := q) (x := x) = wpE (m en st) (q := ⟨fun w s => bdP (bd w en) (k := ⟨fun e => q.go .nx e s⟩)⟩) (x := ⟨fun c fs s => x.go c fs en s⟩) := by
  refine bndS fun w s => ?_
  cases bd w en <;> rfl
theorem w_for {m : Iv} {bd : Bd} {b : Sv} : wpS (Z.for m bd b en st) (q := q) (x := x) = wpE (m en st) (q := ⟨fun items s => wpS (forZ bd b items en s) (q := q) (x := x)⟩) (x := ⟨fun c fs s => x.go c fs en s⟩) := bndS fun _ _ => rfl
theorem w_fnil {bd : Bd} {b : Sv} : wpS (forZ bd b [] en st) (q := q) (x := x) = q.go .nx en st := (rfl)
theorem w_fcons {bd : Bd} {b : Sv} {w : W} {ws : List W} : wpS (forZ bd b (w :: ws) en st) (q := q) (x := x) = bdP (bd w en) (k := ⟨fun e => wpS (b e st) (q := ⟨fun fl e s => lopK fl e s (p := ⟨fun _ => wpS (forZ bd b ws e s) (q := q) (x := x)⟩) (q := q)⟩) (x := x)⟩) := by
  rw [forZ]
  cases bd w en with
  | none => rfl
  | some en1 =>
    show _ = wpS (b en1 st) (q := ⟨_⟩) (x := x)
    dsimp only
    cases b en1 st with
    | ok fl s => cases fl <;> rfl
    | _ => rfl
theorem w_try {m : Sv} {hs : List Hn} : wpS (Z.try m hs en st) (q := q) (x := x) = wpS (m en st) (q := q) (x := ⟨fun c fs e s => wpS (Z.handle hs c fs e s) (q := q) (x := x)⟩) := by
  unfold Z.try
  cases m en st <;> rfl
theorem w_hnil {c : String} {fs : List (Str × W)} : wpS (Z.handle [] c fs en st) (q := q) (x := x) = x.go c fs en st := (rfl)
theorem w_hncons {k : Hn} {r : List Hn} {c : String} {fs : List (Str × W)} : wpS (Z.handle (k :: r) c fs en st) (q := q) (x := x) =
    hitK (k.hit c) (p := ⟨fun _ => (k.sl.all fun i => decide (i < en.length)) = true ∧ wpS (k.h c fs (unO en k.sl) st) (q := ⟨fun fl e s => q.go fl (unO e k.sl) s⟩) (x := ⟨fun _ _ _ _ => False⟩)⟩) (q := ⟨fun _ => wpS (Z.handle r c fs en st) (q := q) (x := x)⟩) := by
  rw [Z.handle]
  cases k.hit c with
  | none => rfl
  | some b =>
    cases b with
    | false => rfl
    | true =>
      refine ifNS ?_
      cases k.h c fs (unO en k.sl) st <;> rfl
end
theorem ok_of {r : R Sto A} {a : A} {s : Sto} (h : wpQ r (fun b t => b = a ∧ t = s)) : r = .ok a s := by
  cases r with
  | ok b t => obtain ⟨rfl, rfl⟩ := h; rfl
  | ex c fs t => cases h
  | no => cases h
theorem ex_of {r : R Sto A} {c : String} {fs : List (Str × W)} {s : Sto} (h : wpQX r (fun _ _ => False) (fun c' fs' t => c' = c ∧ fs' = fs ∧ t = s)) : r = .ex c fs s := by
  cases r with
  | ok b t => cases h
  | ex c fs t => obtain ⟨rfl, rfl, rfl⟩ := h; rfl
  | no => cases h
theorem some_of {r : R Sto A} {Q : A → Sto → Prop} (h : wpQ r Q) : ∃ a s, r = .ok a s ∧ Q a s := by
  cases r with
  | ok b t => exact ⟨b, t, rfl, h⟩
  | ex c fs t => cases h
  | no => cases h
theorem of_some {r : R Sto A} {Q : A → Sto → Prop} {a : A} {s : Sto} (h : r = .ok a s) (h2 : Q a s) : wpQ r Q := by rw [h]; exact h2
/-- a call by what is known of it -/
theorem wp_call {r : R Sto A} {Q : A → Sto → Prop} (h : wpQ r Q) (hq : ∀ a s, Q a s → q.go a s) : wpE r (q := q) (x := x) := by
  cases r with
  | ok b t => exact hq _ _ h
  | ex c fs t => cases h
  | no => cases h
theorem wp_stmt {r : R (En × Sto) Fl} {Q : Fl → En → Sto → Prop} (h : wpSQ r Q xs) (hq : ∀ f e s, Q f e s → qs.go f e s) : wpS r (q := qs) (x := xs) := by
  cases r with
  | ok b t => exact hq _ _ _ h
  | ex c fs t => exact h
  | no => exact h
end
section
variable {st : Sto}
theorem pvar_f {i : Nat} {en : En} : P.var i en st = (match en[i]? with
  | some (some (false, w)) => .ok (.fz w) st
  | some (some (true, _)) => .ok (.sl i) st
  | _ => .no) := (rfl)
theorem var_f {i : Nat} {en : En} : E.var i en st = (match en[i]? with
  | some (some (false, w)) => .ok w st
  | _ => .no) := (rfl)
theorem c_f {w : W} {en : En} : E.c w en st = .ok w st := (rfl)
theorem anil_f {en : En} : MH.A.nil en st = .ok [] st := (rfl)
theorem hnil_f {en : En} : Hs.nil en st = .ok [] st := (rfl)
theorem qnil_f {en : En} : Q.nil en st = .ok [] st := (rfl)
theorem ono_f {en : En} : O.no en st = .ok none st := (rfl)
theorem yes_f {en : En} : MH.T.yes en st = .ok true st := (rfl)
theorem znil_f {en : En} : Z.nil en st = .ok .nx (en, st) := (rfl)
theorem zretN_f {en : En} : Z.retN en st = .ok (.rt .non) (en, st) := (rfl)
theorem zbrk_f {en : En} : Z.brk en st = .ok .bk (en, st) := (rfl)
theorem zcont_f {en : En} : Z.cont en st = .ok .ct (en, st) := (rfl)
theorem zfrz_f {i : Nat} {m : Sv} {en : En} : Z.frz i m en st = (match en[i]? with
  | some (some (true, w)) => m (en.set i (some (false, w))) st
  | _ => m en st) := (rfl)
theorem bname_f {i : Nat} {w : W} {en : En} : Bd.name i w en = some (en.set i (some (false, w))) := (rfl)
theorem btup_f {k : List W → En → Option En} {ws : List W} {en : En} : Bd.tup k (.tup ws) en = k ws en := (rfl)
theorem bcons_f {b : Bd} {k : List W → En → Option En} {w : W} {ws : List W} {en : En} : Bd.cons b k (w :: ws) en = (b w en).bind fun en1 => k ws en1 := (rfl)
theorem bnil_f {en : En} : Bd.nil [] en = some en := (rfl)
theorem wrS_f {s : En × Sto} : wrS (some s) = .ok .nx s := (rfl)
theorem wrH_s {i : Nat} {w : W} {en : En} : wrH (.sl i) w en st = some (en.set i (some (true, w)), st) := (rfl)
theorem wrH_l {n : Nat} {w : W} {en : En} : wrH (.fz (.loc n)) w en st = some (en, st.set n w) := (rfl)
theorem lift_s {A : Type} {w : A} : lift (some w) st = .ok w st := (rfl)
theorem view_s {i : Nat} {en : En} : view en st (.sl i) = (match en[i]? with
  | some (some (_, w)) => w
  | _ => .non) := (rfl)
theorem wipe_n {en : En} : wipeE en [] = en := (rfl)
theorem wipe_c {en : En} {v : Nat} {vs : List Nat} : wipeE en (v :: vs) = (wipeE en vs).set v none := (rfl)
theorem own_f {w : W} : ownS (some (false, w)) = false := (rfl)
theorem own_n : ownS none = false := (rfl)
theorem unO_n {en : En} : unO en none = en := (rfl)
theorem unO_s {en : En} {i : Nat} : unO en (some i) = en.set i none := (rfl)
theorem dr_str {s : Str} : deref st (.str s) = .str s := (rfl)
theorem dr_int {s : Int} : deref st (.int s) = .int s := (rfl)
theorem dr_bl {s : Bool} : deref st (.bl s) = .bl s := (rfl)
theorem dr_non : deref st .non = .non := (rfl)
theorem dr_lst {s : List W} : deref st (.lst s) = .lst s := (rfl)
theorem dr_scr {s : List W} : deref st (.scr s) = .scr s := (rfl)
theorem dr_tup {s : List W} : deref st (.tup s) = .tup s := (rfl)
theorem dr_stp {s : List W} : deref st (.stp s) = .stp s := (rfl)
theorem dr_dct {k : Bool} {s : List (W × W)} : deref st (.dct k s) = .dct k s := (rfl)
theorem dr_ins {k : String} {s : List (Str × W)} : deref st (.ins k s) = .ins k s := (rfl)
theorem dr_cls {k : String} : deref st (.cls k) = .cls k := (rfl)
theorem dr_ty {k : String} : deref st (.ty k) = .ty k := (rfl)
theorem dr_loc {n : Nat} : deref st (.loc n) = st.getD n .non := (rfl)
theorem isN_str {s : Str} : isNon (.str s) = false := (rfl)
theorem isN_int {s : Int} : isNon (.int s) = false := (rfl)
theorem isN_bl {s : Bool} : isNon (.bl s) = false := (rfl)
theorem isN_non : isNon .non = true := (rfl)
theorem isN_lst {s : List W} : isNon (.lst s) = false := (rfl)
theorem isN_tup {s : List W} : isNon (.tup s) = false := (rfl)
theorem isN_dct {k : Bool} {s : List (W × W)} : isNon (.dct k s) = false := (rfl)
theorem isN_ins {k : String} {s : List (Str × W)} : isNon (.ins k s) = false := (rfl)
theorem sqb {a b : String} : (Str.ofString a == Str.ofString b) = decide (a = b) := by
  rw [Bool.eq_iff_iff]
  simp
end
/-! ### values without places of the store -/
mutual
def nl : W → Bool
  | .loc _ => false
  | .tup ws => nlL ws
  | .stp ws => nlL ws
  | .lst ws => nlL ws
  | .scr ws => nlL ws
  | .dct _ kws => nlD kws
  | .ins _ fs => nlF fs
  | _ => true
def nlL : List W → Bool
  | [] => true
  | w :: ws => nl w && nlL ws
def nlF : List (Str × W) → Bool
  | [] => true
  | p :: ws => nl p.2 && nlF ws
def nlD : List (W × W) → Bool
  | [] => true
  | p :: ws => nl p.2 && nlD ws
end
section
variable {K : PySem.W.Frag} {kc : CT} {io io' : List Addr} {G : Hp}
mutual
theorem nl_rp : ∀ {w : W} {v : V}, nl w = true → Rp K kc io G w v → Rp K kc io' G w v
  | _, _, _, .non => .non
  | _, _, _, .bl b => .bl b
  | _, _, _, .int i => .int i
  | _, _, _, .str s => .str s
  | _, _, n, .tup h r => .tup h (nl_rpL (by simpa [nl] using n) r)
  | _, _, n, .stp h r => .stp h (nl_rpL (by simpa [nl] using n) r)
  | _, _, n, .lst h r => .lst h (nl_rpL (by simpa [nl] using n) r)
  | _, _, n, .scr h r => .scr h (nl_rpL (by simpa [nl] using n) r)
  | _, _, n, .dk h r => .dk h (nl_rpD (by simpa [nl] using n) r)
  | _, _, n, .dt h r => .dt h (nl_rpT (by simpa [nl] using n) r)
  | _, _, n, .ins c h r => .ins c h (nl_rpF (by simpa [nl] using n) r)
  | _, _, n, .loc h => (by simp [nl] at n)
  | _, _, _, .cls h => .cls h
  | _, _, _, .ty n => .ty n
theorem nl_rpL : ∀ {w : List W} {v : List V}, nlL w = true → RpL K kc io G w v → RpL K kc io' G w v
  | _, _, _, .nil => .nil
  | _, _, n, .cons h r => .cons (nl_rp (by simp [nlL] at n; exact n.1) h) (nl_rpL (by simp [nlL] at n; exact n.2) r)
theorem nl_rpF : ∀ {w : List (Str × W)} {v : List (Str × V)}, nlF w = true → RpF K kc io G w v → RpF K kc io' G w v
  | _, _, _, .nil => .nil
  | _, _, n, .cons h r => .cons (nl_rp (by simp [nlF] at n; exact n.1) h) (nl_rpF (by simp [nlF] at n; exact n.2) r)
theorem nl_rpD : ∀ {w : List (W × W)} {v : List (Key × V)}, nlD w = true → RpD K kc io G w v → RpD K kc io' G w v
  | _, _, _, .nil => .nil
  | _, _, n, .cons h r => .cons (nl_rp (by simp [nlD] at n; exact n.1) h) (nl_rpD (by simp [nlD] at n; exact n.2) r)
theorem nl_rpT : ∀ {w : List (W × W)} {v : List (List Key × V)}, nlD w = true → RpT K kc io G w v → RpT K kc io' G w v
  | _, _, _, .nil => .nil
  | _, _, n, .cons h r => .cons (nl_rp (by simp [nlD] at n; exact n.1) h) (nl_rpT (by simp [nlD] at n; exact n.2) r)
end
end
theorem LF_of {w : W} (h : nl w = true) : LF w := fun _ _ _ _ _ _ r => nl_rp h r
theorem LFs_of {ws : List W} (h : nlL ws = true) : LFs ws := by
  induction ws with
  | nil => intro w hw; cases hw
  | cons a ws ih =>
    simp [nlL] at h
    intro w hw
    rcases List.mem_cons.mp hw with rfl | hw
    · exact LF_of h.1
    · exact ih h.2 w hw
theorem LFo_dct {k : Bool} {kws : List (W × W)} (h : nlD kws = true) : LFo (.dct k kws) := by
  intro K kc io io' G o r
  cases r with
  | dk r => exact .dk (nl_rpD h r)
  | dt r => exact .dt (nl_rpT h r)
theorem LFo_lst {ws : List W} (h : nlL ws = true) : LFo (.lst ws) := by
  intro K kc io io' G o r
  cases r with
  | lst r => exact .lst (nl_rpL h r)
theorem nl_deref {w : W} {st : Sto} (h : nl w = true) : deref st w = w := by cases w <;> simp_all [nl, deref]
theorem nlL_iff {ws : List W} : nlL ws = true ↔ ∀ w ∈ ws, nl w = true := by
  induction ws with
  | nil => simp [nlL]
  | cons a ws ih => simp [nlL, ih]
theorem nlL_map {α : Type} {f : α → W} {xs : List α} (h : ∀ x ∈ xs, nl (f x) = true) : nlL (xs.map f) = true := by
  rw [nlL_iff]; intro w hw
  obtain ⟨x, hx, rfl⟩ := List.mem_map.mp hw
  exact h x hx
/-! ### loops -/
theorem wp_for {bd : Bd} {b : Sv} {items : List W} {x : CoY} (I : List W → En → Sto → Prop) {en : En} {st : Sto} (h0 : I items en st)
    (step : ∀ w ws en st, w ∈ items → I (w :: ws) en st → ∃ en1, bd w en = some en1 ∧ wpSQ (b en1 st) (fun fl e s => (fl = .nx ∨ fl = .ct) ∧ I ws e s) x) :
    wpSQ (forZ bd b items en st) (fun fl e s => fl = .nx ∧ I [] e s) x := by
  suffices ∀ ws : List W, (∀ w ∈ ws, w ∈ items) → ∀ en st, I ws en st → wpSQ (forZ bd b ws en st) (fun fl e s => fl = .nx ∧ I [] e s) x from this items (fun _ h => h) en st h0
  intro ws
  induction ws with
  | nil => intro _ en st h; exact ⟨rfl, h⟩
  | cons w ws ih =>
    intro hm en st h
    obtain ⟨en1, e1, h1⟩ := step w ws en st (hm w List.mem_cons_self) h
    rw [wpSQ, w_fcons, e1]
    refine wp_stmt h1 ?_
    rintro a e s ⟨ha, hi⟩
    rcases ha with rfl | rfl
    · exact ih (fun w hw => hm w (List.mem_cons_of_mem _ hw)) e s hi
    · exact ih (fun w hw => hm w (List.mem_cons_of_mem _ hw)) e s hi
/-- a comprehension whose items are drawn -/
theorem wp_lc {ns : List Nat} {bd : Bd} {m : Ev} {en : En} {items : List W} (I : List W → List W → Sto → Prop) {st : Sto} (hl : items.length ≤ 100000) (h0 : I items [] st)
    (step : ∀ w ws acc st, w ∈ items → acc.length + ws.length < items.length → I (w :: ws) acc st → ∃ en1, bd w (wipeE en ns) = some en1 ∧ wpQ (m en1 st) (fun x s => I ws (acc ++ [x]) s)) :
    wpQ (lcZ ns bd T.yes m en items [] st) (fun xs s => xs.length = items.length ∧ I [] xs s) := by
  suffices ∀ (ws acc : List W), (∀ w ∈ ws, w ∈ items) → acc.length + ws.length = items.length → ∀ st, I ws acc st → wpQ (lcZ ns bd T.yes m en ws acc st) (fun xs s => xs.length = items.length ∧ I [] xs s) from this items [] (fun _ h => h) (by simp) st h0
  intro ws
  induction ws with
  | nil => intro acc _ h st hi; exact ⟨by simpa using h, hi⟩
  | cons w ws ih =>
    intro acc hm hn st hi
    rw [List.length_cons] at hn
    obtain ⟨en1, e1, h1⟩ := step w ws acc st (hm w List.mem_cons_self) (by omega) hi
    obtain ⟨x, s, e2, h2⟩ := some_of h1
    rw [lcZ_cons e1 rfl e2 (by omega)]
    exact ih _ (fun w hw => hm w (List.mem_cons_of_mem _ hw)) (by simp; omega) s h2
theorem fit_of {n : Nat} (h : n ≤ 100000) : fit n = true := decide_eq_true h
theorem fit_iff {n : Nat} : (fit n = true) = (n ≤ 100000) := by simp [fit]
theorem str_len {s : String} : (Str.ofString s).length = s.length := by
  rw [Str.ofString_eq_toList]
  show (s.toList.map Char.toNat).toArray.size = _
  simp only [List.size_toArray, List.length_map]
  first | rfl | exact String.length_toList | exact String.length_toList.symm
theorem isiS {il : List String} {s : Str} : isiW il (.str s) (.ty "str") = some true := (rfl)
end MH

/-! Texts as rows of signs; equal values; texts of values. -/
namespace MH
open PySem L2
def sl (cs : List Nat) : Str := ⟨cs.toArray⟩
abbrev one1 (c : Nat) : W := .str (sl [c])
theorem sl_len {cs : List Nat} : (sl cs).length = cs.length := by simp [sl, Str.length]
theorem sl_list {cs : List Nat} : (sl cs).cps.toList = cs := (rfl)
theorem sl_app {a b : List Nat} : sl a ++ sl b = sl (a ++ b) := by
  show (⟨a.toArray ++ b.toArray⟩ : Str) = _
  simp [sl]
theorem sl_inj {a b : List Nat} : sl a = sl b ↔ a = b := by simp [sl]
theorem sl_of (s : Str) : s = sl s.cps.toList := by cases s; simp [sl]
theorem ofS (s : String) : Str.ofString s = sl (s.toList.map Char.toNat) := Str.ofString_eq_toList s
theorem sl_cut {a : List Nat} {lo hi : Option Int} : cutS (sl a) lo hi = sl (cutL a lo hi) := by
  unfold cutS cutL
  rw [sl_list, sl_len]
  rfl
theorem cut_last {α : Type} {a : List α} : cutL a (some (-1)) none = a.drop (a.length - 1) := by
  unfold cutL
  have e : HT.sIx a.length 0 (some (-1)) = a.length - 1 := by
    unfold HT.sIx
    dsimp only
    rw [if_pos (by decide)]; omega
  rw [e, HT.sIx_none]
  rw [List.take_of_length_le (by simp)]
theorem cut_init {α : Type} {a : List α} : cutL a none (some (-1)) = a.dropLast := by
  unfold cutL
  have e : HT.sIx a.length a.length (some (-1)) = a.length - 1 := by
    unfold HT.sIx
    dsimp only
    rw [if_pos (by decide)]; omega
  rw [e, HT.sIx_none, List.drop_zero, Nat.sub_zero, List.dropLast_eq_take]
theorem cut_from {α : Type} {a : List α} {k : Nat} : cutL a (some (k : Int)) none = a.drop k := by
  unfold cutL
  rw [HT.sIx_nat, HT.sIx_none]
  by_cases h : k ≤ a.length
  · rw [Nat.min_eq_left h, List.take_of_length_le (by simp)]
  · rw [Nat.min_eq_right (by omega), Nat.sub_self, List.take_zero, List.drop_of_length_le (by omega)]
theorem cut_to {α : Type} {a : List α} {k : Nat} : cutL a none (some (k : Int)) = a.take k := by
  unfold cutL
  rw [HT.sIx_nat, HT.sIx_none, List.drop_zero, Nat.sub_zero]
  by_cases h : k ≤ a.length
  · rw [Nat.min_eq_left h]
  · rw [Nat.min_eq_right (by omega), List.take_length, List.take_of_length_le (by omega)]
theorem items_sl {cs : List Nat} : itemsW (.str (sl cs)) = some (cs.map one1) := (rfl)
theorem it_lst {ws : List W} : itemsW (.lst ws) = some ws := (rfl)
theorem it_scr {ws : List W} : itemsW (.scr ws) = some ws := (rfl)
theorem it_tup {ws : List W} : itemsW (.tup ws) = some ws := (rfl)
theorem it_stp {ws : List W} : itemsW (.stp ws) = some ws := (rfl)
theorem strLt_sl {a b : List Nat} : strLt (sl a) (sl b) = decide (a < b) := (rfl)
theorem oneC_sl {c : Nat} : oneC (sl [c]) = some c := (rfl)
theorem ins_sl {c : Nat} {l : List Nat} : insW (one1 c) (.str (sl l)) = some (.bl (decide (c ∈ l))) := (rfl)
theorem nis_sl {c : Nat} {l : List Nat} : nisW (one1 c) (.str (sl l)) = some (.bl (!decide (c ∈ l))) := (rfl)
theorem keys1 {a : W} : keysOf (.tup [a]) = (keyOf a).bind fun x => some [x] := by
  show List.mapM keyOf [a] = _
  simp [List.mapM_cons]
theorem keys2 {a b : W} : keysOf (.tup [a, b]) = (keyOf a).bind fun x => (keyOf b).bind fun y => some [x, y] := by
  show List.mapM keyOf [a, b] = _
  cases h1 : keyOf a <;> cases h2 : keyOf b <;> simp [List.mapM_cons, h1, h2]
theorem keys3 {a b c : W} : keysOf (.tup [a, b, c]) = (keyOf a).bind fun x => (keyOf b).bind fun y => (keyOf c).bind fun z => some [x, y, z] := by
  show List.mapM keyOf [a, b, c] = _
  cases h1 : keyOf a <;> cases h2 : keyOf b <;> cases h3 : keyOf c <;> simp [List.mapM_cons, h1, h2, h3]
/-! ### equal values -/
mutual
def dk : W → Bool
  | .non => true
  | .bl _ => true
  | .int _ => true
  | .str s => PyData.strOk s
  | .lst ws => dkL ws
  | .scr ws => dkL ws
  | .tup ws => dkL ws
  | .stp ws => dkL ws
  | _ => false
def dkL : List W → Bool
  | [] => true
  | w :: ws => dk w && dkL ws
end
mutual
def dpt : W → Nat
  | .lst ws => dptL ws + 1
  | .scr ws => dptL ws + 1
  | .tup ws => dptL ws + 1
  | .stp ws => dptL ws + 1
  | _ => 0
def dptL : List W → Nat
  | [] => 0
  | w :: ws => max (dpt w) (dptL ws)
end
mutual
theorem toD_dk : ∀ {w : W}, dk w = true → ∃ d, toD w = some d ∧ d.canLay0 = true ∧ d.depth = dpt w
  | .non, _ => ⟨_, by simp [toD]; rfl, rfl, rfl⟩
  | .bl b, _ => ⟨_, by simp [toD]; rfl, rfl, rfl⟩
  | .int i, _ => ⟨_, by simp [toD]; rfl, rfl, rfl⟩
  | .str s, h => ⟨.str s, by simp [toD], (by simpa [dk, PyData.canLay0] using h), rfl⟩
  | .lst ws, h => by
    obtain ⟨ds, e, h1, h2⟩ := toDs_dk (ws := ws) (by simpa [dk] using h)
    exact ⟨.list ds, by simp [toD, e], by simpa [PyData.canLay0] using h1, by simp [PyData.depth, dpt, h2]⟩
  | .scr ws, h => by
    obtain ⟨ds, e, h1, h2⟩ := toDs_dk (ws := ws) (by simpa [dk] using h)
    exact ⟨.list ds, by simp [toD, e], by simpa [PyData.canLay0] using h1, by simp [PyData.depth, dpt, h2]⟩
  | .tup ws, h => by
    obtain ⟨ds, e, h1, h2⟩ := toDs_dk (ws := ws) (by simpa [dk] using h)
    exact ⟨.tuple ds, by simp [toD, e], by simpa [PyData.canLay0] using h1, by simp [PyData.depth, dpt, h2]⟩
  | .stp ws, h => by
    obtain ⟨ds, e, h1, h2⟩ := toDs_dk (ws := ws) (by simpa [dk] using h)
    exact ⟨.tuple ds, by simp [toD, e], by simpa [PyData.canLay0] using h1, by simp [PyData.depth, dpt, h2]⟩
  | .dct _ _, h => by simp [dk] at h
  | .ins _ _, h => by simp [dk] at h
  | .loc _, h => by simp [dk] at h
  | .cls _, h => by simp [dk] at h
  | .ty _, h => by simp [dk] at h
theorem toDs_dk : ∀ {ws : List W}, dkL ws = true → ∃ ds, toDs ws = some ds ∧ PyData.canLayAll0 ds = true ∧ PyData.depthAll ds = dptL ws
  | [], _ => ⟨[], by simp [toDs], rfl, rfl⟩
  | w :: ws, h => by
    simp [dkL] at h
    obtain ⟨d, e, h1, h2⟩ := toD_dk h.1
    obtain ⟨ds, e', h1', h2'⟩ := toDs_dk h.2
    exact ⟨d :: ds, by simp [toDs, e, e'], by simp [PyData.canLayAll0, h1, h1'], by simp [PyData.depthAll, dptL, h2, h2']⟩
end
def datD (w : W) : PyData := (toD w).getD .none
/-- how two plain values compare -/
def eqvW (w u : W) : Bool := PyData.eqv (datD w) (datD u)
theorem eqB_of {w u : W} (hw : dk w = true) (hu : dk u = true) (dw : dpt w ≤ 64) (du : dpt u ≤ 64) : eqB w u = some (eqvW w u) := by
  obtain ⟨d, e, h1, h2⟩ := toD_dk hw
  obtain ⟨d', e', h1', h2'⟩ := toD_dk hu
  unfold eqB eqvW datD
  rw [e, e']
  dsimp only
  have s1 : SeqAt.shaped d = true := by unfold SeqAt.shaped; rw [h1, h2]; simp [dw]
  have s2 : SeqAt.shaped d' = true := by unfold SeqAt.shaped; rw [h1', h2']; simp [du]
  rw [s1, s2]
  rfl
theorem eqW_of {w u : W} (hw : dk w = true) (hu : dk u = true) (dw : dpt w ≤ 64) (du : dpt u ≤ 64) : eqW w u = some (.bl (eqvW w u)) := by rw [eqW, eqB_of hw hu dw du]; rfl
theorem neW_of {w u : W} (hw : dk w = true) (hu : dk u = true) (dw : dpt w ≤ 64) (du : dpt u ≤ 64) : neW w u = some (.bl (!eqvW w u)) := by rw [neW, eqB_of hw hu dw du]; rfl
theorem eqvW_refl {w : W} (h : dk w = true) : eqvW w w = true := by
  obtain ⟨d, e, h1, h2⟩ := toD_dk h
  unfold eqvW datD
  rw [e]
  exact SeqAt.eqv_refl d h1
theorem eqW_same {w : W} (hw : dk w = true) (dw : dpt w ≤ 64) : eqW w w = some (.bl true) := by rw [eqW_of hw hw dw dw, eqvW_refl hw]
theorem neW_same {w : W} (hw : dk w = true) (dw : dpt w ≤ 64) : neW w w = some (.bl false) := by rw [neW_of hw hw dw dw, eqvW_refl hw]; rfl
theorem eqv_str {a b : Str} : eqvW (.str a) (.str b) = decide (a = b) := by
  simp only [eqvW, datD, toD, Option.getD_some, PyData.eqv]
  by_cases h : a = b <;> simp [h]
theorem eqv_int {a b : Int} : eqvW (.int a) (.int b) = decide (a = b) := by
  simp only [eqvW, datD, toD, Option.getD_some, PyData.eqv]
  by_cases h : a = b <;> simp [h]
theorem eqW_int {a b : Int} : eqW (.int a) (.int b) = some (.bl (decide (a = b))) := by rw [eqW_of rfl rfl (Nat.zero_le _) (Nat.zero_le _), eqv_int]
theorem neW_int {a b : Int} : neW (.int a) (.int b) = some (.bl (!decide (a = b))) := by rw [neW_of rfl rfl (Nat.zero_le _) (Nat.zero_le _), eqv_int]
theorem eqW_str {a b : Str} (ha : PyData.strOk a = true) (hb : PyData.strOk b = true) : eqW (.str a) (.str b) = some (.bl (decide (a = b))) := by rw [eqW_of (by simpa [dk] using ha) (by simpa [dk] using hb) (Nat.zero_le _) (Nat.zero_le _), eqv_str]
theorem neW_str {a b : Str} (ha : PyData.strOk a = true) (hb : PyData.strOk b = true) : neW (.str a) (.str b) = some (.bl (!decide (a = b))) := by rw [neW_of (by simpa [dk] using ha) (by simpa [dk] using hb) (Nat.zero_le _) (Nat.zero_le _), eqv_str]
/-- signs that a text may have -/
def okc (cs : List Nat) : Bool := cs.all fun c => decide (c < 0x110000)
theorem strOk_sl {cs : List Nat} : PyData.strOk (sl cs) = okc cs := by simp [PyData.strOk, sl, okc]
theorem okc_iff {cs : List Nat} : okc cs = true ↔ ∀ c ∈ cs, c < 0x110000 := by simp [okc]
theorem okc_app {a b : List Nat} : okc (a ++ b) = (okc a && okc b) := by simp [okc]
theorem okc_sub {a b : List Nat} (h : okc b = true) (s : ∀ c ∈ a, c ∈ b) : okc a = true := okc_iff.mpr fun c hc => okc_iff.mp h c (s c hc)
theorem dk_sl {cs : List Nat} : dk (.str (sl cs)) = okc cs := by simp [dk, strOk_sl]
theorem eqW_sl {a b : List Nat} (ha : okc a = true) (hb : okc b = true) : eqW (.str (sl a)) (.str (sl b)) = some (.bl (decide (a = b))) := by
  rw [eqW_str (by rw [strOk_sl]; exact ha) (by rw [strOk_sl]; exact hb)]
  simp only [sl_inj]
theorem neW_sl {a b : List Nat} (ha : okc a = true) (hb : okc b = true) : neW (.str (sl a)) (.str (sl b)) = some (.bl (!decide (a = b))) := by
  rw [neW_str (by rw [strOk_sl]; exact ha) (by rw [strOk_sl]; exact hb)]
  simp only [sl_inj]
theorem okc_nil : okc [] = true := by simp [okc]
theorem eqW_nil {a : List Nat} (ha : okc a = true) : eqW (.str (sl a)) (.str (sl [])) = some (.bl (decide (a = []))) := eqW_sl ha rfl
theorem neW_nil {a : List Nat} (ha : okc a = true) : neW (.str (sl a)) (.str (sl [])) = some (.bl (!decide (a = []))) := neW_sl ha rfl
/-! ### texts of values -/
mutual
def rk : W → Bool
  | .non => true
  | .bl _ => true
  | .int i => decide (i.natAbs < 10 ^ 500)
  | .str s => PyData.strOk s
  | .lst ws => rkL ws
  | .scr ws => rkL ws
  | .tup ws => rkL ws
  | .stp ws => rkL ws
  | .dct _ [] => true
  | _ => false
def rkL : List W → Bool
  | [] => true
  | w :: ws => rk w && rkL ws
end
mutual
def rl : W → Nat
  | .str s => 10 * s.length + 2
  | .lst ws => rlL ws + 3
  | .scr ws => rlL ws + 3
  | .tup ws => rlL ws + 3
  | .stp ws => rlL ws + 3
  | .int _ => 502
  | _ => 5
def rlL : List W → Nat
  | [] => 0
  | w :: ws => rl w + 2 + rlL ws
end
mutual
def rd : W → Nat
  | .lst ws => rdL ws + 1
  | .scr ws => rdL ws + 1
  | .tup ws => rdL ws + 1
  | .stp ws => rdL ws + 1
  | .dct _ _ => 1
  | _ => 0
def rdL : List W → Nat
  | [] => 0
  | w :: ws => max (rd w) (rdL ws)
end
theorem int_text {i : Int} (h : i.natAbs < 10 ^ 500) : ((toString i : String) : Str).length ≤ 502 := by
  have nat : ∀ n : Nat, n < 10 ^ 500 → (Nat.repr n).length ≤ 500 := fun n hn => by
    have := PySem.toDigits_len_pow (b := 10) (k := 500) (n := n) (by decide) (by decide) hn
    unfold Nat.repr
    rw [String.length_ofList]
    exact this
  rw [str_len]
  cases i with
  | ofNat n =>
    have := nat n h
    show (Nat.repr n).length ≤ 502
    omega
  | negSucc n =>
    have := nat (n + 1) h
    show ("-" ++ Nat.repr (n + 1)).length ≤ 502
    rw [String.length_append]
    have e : "-".length = 1 := rfl
    omega
theorem join_len (ts : List Str) : (Str.join ", " ts).length ≤ (ts.map fun t => t.length + 2).sum := by
  have p : ∀ ts : List Str, piled ts = (ts.map fun t => t.length + 2).sum := by
    intro ts
    induction ts with
    | nil => rfl
    | cons t ts ih => rw [piled_cons, ih, List.map_cons, List.sum_cons]
  by_cases h : ts = []
  · subst h; exact Nat.zero_le _
  · have := join_length_add ts h
    rw [p] at this
    omega
mutual
theorem toR_rk : ∀ {w : W}, rk w = true → ∃ d, toR w = some d ∧ d.showable = true ∧ d.shown.length ≤ rl w ∧ d.depth = rd w
  | .non, _ => ⟨.none, by simp [toR], rfl, by decide +kernel, rfl⟩
  | .bl b, _ => ⟨.bool b, by simp [toR], rfl, by cases b <;> decide +kernel, rfl⟩
  | .int i, h => by
    have h : i.natAbs < 10 ^ 500 := by simpa [rk] using h
    refine ⟨.int i, by simp [toR], ?_, by rw [PyData.shown_int]; exact int_text h, rfl⟩
    simp only [PyData.showable, decide_eq_true_eq]
    by_cases z : i.natAbs = 0
    · rw [z]; decide
    · rw [Nat.log2_lt z]
      exact Nat.lt_of_lt_of_le h (Nat.le_of_ble_eq_true (by decide +kernel))
  | .str s, h => by
    refine ⟨.str s, by simp [toR], by simp [PyData.showable], ?_, rfl⟩
    rw [PyData.shown_str, rl]
    refine StrLaws.reprText_len s fun c hc => ?_
    have h : PyData.strOk s = true := by simpa [rk] using h
    have := okc_iff.mp (by rw [← strOk_sl, ← sl_of]; exact h : okc s.cps.toList = true) c hc
    omega
  | .lst ws, h => by
    obtain ⟨ds, e, h1, h2, h3⟩ := toRs_rk (ws := ws) (by simpa [rk] using h)
    refine ⟨.list ds, by simp [toR, e], by simpa [PyData.showable] using h1, ?_, by simp [PyData.depth, rd, h3]⟩
    rw [PyData.shown_list, rl, strLen_append, strLen_append]
    have := join_len (PyData.shownAll ds)
    have e1 : (("[" : String) : Str).length = 1 := rfl
    have e2 : (("]" : String) : Str).length = 1 := rfl
    omega
  | .scr ws, h => by
    obtain ⟨ds, e, h1, h2, h3⟩ := toRs_rk (ws := ws) (by simpa [rk] using h)
    refine ⟨.list ds, by simp [toR, e], by simpa [PyData.showable] using h1, ?_, by simp [PyData.depth, rd, h3]⟩
    rw [PyData.shown_list, rl, strLen_append, strLen_append]
    have := join_len (PyData.shownAll ds)
    have e1 : (("[" : String) : Str).length = 1 := rfl
    have e2 : (("]" : String) : Str).length = 1 := rfl
    omega
  | .tup ws, h => by
    obtain ⟨ds, e, h1, h2, h3⟩ := toRs_rk (ws := ws) (by simpa [rk] using h)
    refine ⟨.tuple ds, by simp [toR, e], by simpa [PyData.showable] using h1, ?_, by simp [PyData.depth, rd, h3]⟩
    rw [PyData.shown_tuple, rl, strLen_append, strLen_append]
    have := join_len (PyData.shownAll ds)
    have e1 : (("(" : String) : Str).length = 1 := rfl
    have e2 : (((if ds.length == 1 then ",)" else ")" : String)) : Str).length ≤ 2 := by split <;> decide +kernel
    omega
  | .stp ws, h => by
    obtain ⟨ds, e, h1, h2, h3⟩ := toRs_rk (ws := ws) (by simpa [rk] using h)
    refine ⟨.tuple ds, by simp [toR, e], by simpa [PyData.showable] using h1, ?_, by simp [PyData.depth, rd, h3]⟩
    rw [PyData.shown_tuple, rl, strLen_append, strLen_append]
    have := join_len (PyData.shownAll ds)
    have e1 : (("(" : String) : Str).length = 1 := rfl
    have e2 : (((if ds.length == 1 then ",)" else ")" : String)) : Str).length ≤ 2 := by split <;> decide +kernel
    omega
  | .dct _ [], h => ⟨.dict [], by simp [toR], by simp [PyData.showable, PyData.showableKv], (show (PyData.dict []).shown.length ≤ 5 by decide +kernel), rfl⟩
  | .dct _ (_ :: _), h => by simp [rk] at h
  | .ins _ _, h => by simp [rk] at h
  | .loc _, h => by simp [rk] at h
  | .cls _, h => by simp [rk] at h
  | .ty _, h => by simp [rk] at h
theorem toRs_rk : ∀ {ws : List W}, rkL ws = true → ∃ ds, toRs ws = some ds ∧ PyData.showableAll ds = true ∧ ((PyData.shownAll ds).map fun t => t.length + 2).sum ≤ rlL ws ∧ PyData.depthAll ds = rdL ws
  | [], _ => ⟨[], by simp [toRs], rfl, by simp [PyData.shownAll], rfl⟩
  | w :: ws, h => by
    simp [rkL] at h
    obtain ⟨d, e, h1, h2, h3⟩ := toR_rk h.1
    obtain ⟨ds, e', h1', h2', h3'⟩ := toRs_rk h.2
    refine ⟨d :: ds, by simp [toRs, e, e'], by simp [PyData.showableAll, h1, h1'], ?_, by simp [PyData.depthAll, rdL, h3, h3']⟩
    rw [PyData.shownAll_cons, List.map_cons, List.sum_cons, rlL]
    omega
end
def rtx (w : W) : Str := ((toR w).getD .none).shown
theorem reprW_of {w : W} (h : rk w = true) (hl : rl w ≤ 16777216) (hd : rd w ≤ 60) : reprW w = some (.str (rtx w)) := by
  obtain ⟨d, e, h1, h2, h3⟩ := toR_rk h
  unfold reprW rtx
  rw [e]
  dsimp only
  rw [if_pos ⟨h1, by omega, by omega⟩]
  rfl
theorem okc_chars (l : List Char) : okc (l.map Char.toNat) = true := by
  rw [okc_iff]
  intro c hc
  obtain ⟨d, _, rfl⟩ := List.mem_map.mp hc
  have := d.valid
  have e : d.toNat = d.val.toNat := rfl
  rw [e]
  rcases this with h | ⟨_, h⟩
  · exact Nat.lt_trans h (by decide)
  · exact h
theorem strOk_of (s : String) : PyData.strOk (Str.ofString s) = true := by rw [ofS, strOk_sl, okc_chars]
theorem strOk_okc {s : Str} : PyData.strOk s = okc s.cps.toList := by rw [← strOk_sl, ← sl_of]
theorem strOk_app {a b : Str} : PyData.strOk (a ++ b) = (PyData.strOk a && PyData.strOk b) := by
  rw [sl_of a, sl_of b, sl_app, strOk_sl, strOk_sl, strOk_sl, okc_app]
theorem strOk_join {sep : Str} (hs : PyData.strOk sep = true) : ∀ {ts : List Str}, (∀ t ∈ ts, PyData.strOk t = true) → PyData.strOk (Str.join sep ts) = true
  | [], _ => strOk_of ""
  | [t], h => h t List.mem_cons_self
  | t :: u :: ts, h => by
    show PyData.strOk (t ++ sep ++ Str.join sep (u :: ts)) = true
    rw [strOk_app, strOk_app, hs, h t List.mem_cons_self, strOk_join hs (fun t ht => h t (List.mem_cons_of_mem _ ht))]
    rfl
theorem reprChar_ok {q c : Nat} (hc : c < 0x110000) : ∀ d ∈ Builtin.Str.reprChar q c, d < 0x110000 := by
  have hx : ∀ w : Nat, ∀ d ∈ List.replicate (w - ((Nat.toDigits 16 c).map Char.toNat).length) 48 ++ (Nat.toDigits 16 c).map Char.toNat, d < 0x110000 := by
    intro w d hd
    rcases List.mem_append.mp hd with h | h
    · rw [(List.mem_replicate.mp h).2]; decide
    · exact okc_iff.mp (okc_chars _) d h
  intro d hd
  unfold Builtin.Str.reprChar at hd
  dsimp only at hd
  split at hd
  · simp only [List.mem_cons, List.not_mem_nil, or_false] at hd; omega
  split at hd
  · simp only [List.mem_cons, List.not_mem_nil, or_false] at hd; omega
  split at hd
  · simp only [List.mem_cons, List.not_mem_nil, or_false] at hd; omega
  split at hd
  · simp only [List.mem_cons, List.not_mem_nil, or_false] at hd; omega
  split at hd
  · simp only [List.mem_cons, List.not_mem_nil, or_false] at hd; omega
  split at hd
  · rcases List.mem_append.mp hd with h | h
    · simp only [List.mem_cons, List.not_mem_nil, or_false] at h; omega
    · exact hx _ d h
  split at hd
  · rcases List.mem_append.mp hd with h | h
    · simp only [List.mem_cons, List.not_mem_nil, or_false] at h; omega
    · exact hx _ d h
  · rcases List.mem_append.mp hd with h | h
    · simp only [List.mem_cons, List.not_mem_nil, or_false] at h; omega
    · exact hx _ d h
theorem strOk_repr {x : Str} (h : PyData.strOk x = true) : PyData.strOk (reprText x) = true := by
  rw [strOk_okc, okc_iff] at h
  have q : reprQuote x < 0x110000 := by unfold reprQuote; split <;> decide
  have fold : ∀ (l : List Nat) (acc : Array Nat), (∀ c ∈ l, c < 0x110000) → (∀ c ∈ acc.toList, c < 0x110000) → ∀ c ∈ (l.foldl (fun out c => out ++ (Builtin.Str.reprChar (reprQuote x) c).toArray) acc).toList, c < 0x110000 := by
    intro l
    induction l with
    | nil => intro acc _ h; exact h
    | cons a l ih =>
      intro acc h1 h2
      rw [List.foldl_cons]
      refine ih _ (fun c hc => h1 c (List.mem_cons_of_mem _ hc)) ?_
      intro c hc
      rw [Array.toList_append, List.mem_append] at hc
      rcases hc with hc | hc
      · exact h2 c hc
      · exact reprChar_ok (h1 a List.mem_cons_self) c hc
  rw [strOk_okc, okc_iff]
  unfold reprText
  intro c hc
  rw [Array.toList_push, List.mem_append] at hc
  rcases hc with hc | hc
  · rw [← Array.foldl_toList] at hc
    exact fold x.cps.toList _ h (by simpa using q) c hc
  · rw [List.mem_singleton.mp hc]; exact q
mutual
theorem shown_ok : ∀ {w : W} {d : PyData}, rk w = true → toR w = some d → PyData.strOk d.shown = true
  | .non, d, _, e => by simp [toR] at e; subst e; exact strOk_of "None"
  | .bl b, d, _, e => by simp [toR] at e; subst e; rw [PyData.shown_bool]; split <;> exact strOk_of _
  | .int i, d, _, e => by simp [toR] at e; subst e; rw [PyData.shown_int]; exact strOk_of _
  | .str s, d, h, e => by simp [toR] at e; subst e; rw [PyData.shown_str]; exact strOk_repr (by simpa [rk] using h)
  | .lst ws, d, h, e => by
    simp only [toR, Option.map_eq_some_iff] at e
    obtain ⟨ds, e, rfl⟩ := e
    rw [PyData.shown_list, strOk_app, strOk_app, strOk_of, strOk_of, strOk_join (strOk_of _) (shownAll_ok (by simpa [rk] using h) e)]
    rfl
  | .scr ws, d, h, e => by
    simp only [toR, Option.map_eq_some_iff] at e
    obtain ⟨ds, e, rfl⟩ := e
    rw [PyData.shown_list, strOk_app, strOk_app, strOk_of, strOk_of, strOk_join (strOk_of _) (shownAll_ok (by simpa [rk] using h) e)]
    rfl
  | .tup ws, d, h, e => by
    simp only [toR, Option.map_eq_some_iff] at e
    obtain ⟨ds, e, rfl⟩ := e
    rw [PyData.shown_tuple, strOk_app, strOk_app, strOk_of, strOk_of, strOk_join (strOk_of _) (shownAll_ok (by simpa [rk] using h) e)]
    rfl
  | .stp ws, d, h, e => by
    simp only [toR, Option.map_eq_some_iff] at e
    obtain ⟨ds, e, rfl⟩ := e
    rw [PyData.shown_tuple, strOk_app, strOk_app, strOk_of, strOk_of, strOk_join (strOk_of _) (shownAll_ok (by simpa [rk] using h) e)]
    rfl
  | .dct _ [], d, _, e => by simp [toR] at e; subst e; decide +kernel
  | .dct _ (_ :: _), d, h, e => by simp [rk] at h
  | .ins _ _, d, h, e => by simp [rk] at h
  | .loc _, d, h, e => by simp [rk] at h
  | .cls _, d, h, e => by simp [rk] at h
  | .ty _, d, h, e => by simp [rk] at h
theorem shownAll_ok : ∀ {ws : List W} {ds : List PyData}, rkL ws = true → toRs ws = some ds → ∀ t ∈ PyData.shownAll ds, PyData.strOk t = true
  | [], ds, _, e => by simp [toRs] at e; subst e; simp [PyData.shownAll]
  | w :: ws, ds, h, e => by
    simp only [rkL, Bool.and_eq_true] at h
    cases e1 : toR w with
    | none => rw [toRs, e1] at e; cases e
    | some d =>
      cases e2 : toRs ws with
      | none => rw [toRs, e1, e2] at e; cases e
      | some ds' =>
        rw [toRs, e1, e2] at e
        cases e
        intro t ht
        rw [PyData.shownAll_cons] at ht
        rcases List.mem_cons.mp ht with rfl | ht
        · exact shown_ok h.1 e1
        · exact shownAll_ok h.2 e2 t ht
end
theorem rtx_ok {w : W} (h : rk w = true) : PyData.strOk (rtx w) = true := by
  obtain ⟨d, e, _⟩ := toR_rk h
  unfold rtx
  rw [e]
  exact shown_ok h e
theorem ne_repr {w : W} (h : rk w = true) : neW (.str (rtx w)) (.str (rtx w)) = some (.bl false) := neW_same (by simpa [dk] using rtx_ok h) (Nat.zero_le _)
theorem toDs_ints : ∀ ns : List Int, toDs (ns.map .int) = some (ns.map PyData.int)
  | [] => rfl
  | n :: ns => by
    rw [List.map_cons, toDs, toDs_ints ns]
    rfl
theorem lay_ints : ∀ ns : List Int, PyData.canLayAll0 (ns.map PyData.int) = true ∧ PyData.depthAll (ns.map PyData.int) = 0
  | [] => ⟨rfl, rfl⟩
  | n :: ns => by
    obtain ⟨h1, h2⟩ := lay_ints ns
    constructor
    · rw [List.map_cons, PyData.canLayAll0, h1]; rfl
    · rw [List.map_cons, PyData.depthAll, h2]; rfl
theorem shaped_ints (ns : List Int) : SeqAt.shaped (.list (ns.map PyData.int)) = true := by
  obtain ⟨h1, h2⟩ := lay_ints ns
  unfold SeqAt.shaped
  rw [PyData.canLay0, h1, PyData.depth, h2]
  rfl
theorem ne_ints {ns : List Int} (h : ns ≠ []) : neW (.lst (ns.map .int)) (.lst []) = some (.bl true) := by
  have e1 : toD (.lst (ns.map .int)) = some (.list (ns.map PyData.int)) := by rw [toD, toDs_ints]; rfl
  have e2 : toD (.lst []) = some (.list []) := rfl
  have e3 : PyData.eqv (.list (ns.map PyData.int)) (.list []) = false := by
    cases ns with
    | nil => exact (h rfl).elim
    | cons n ns => rfl
  unfold neW eqB
  rw [e1, e2]
  dsimp only
  rw [shaped_ints, show SeqAt.shaped (.list []) = true from rfl, e3]
  rfl
end MH

/-! Order of values; sorted. -/
namespace MH
open PySem L2 PySem.W
def lexA (xs ys : List PyData) : Bool := PyProof.Rows.lexLt PyProof.Rows.itemOrd (keyToksAll xs) (keyToksAll ys)
theorem lexA_nn : lexA [] [] = false := by unfold lexA; simp only [keyToksAll]; rw [lex_one]; rfl
theorem lexA_nc {y : PyData} {ys : List PyData} : lexA [] (y :: ys) = true := by
  unfold lexA
  rw [toks_all_cons]
  simp only [keyToksAll]
  rw [lex_atom (by simp) [] _, lex_one]
  rfl
theorem lexA_cn {y : PyData} {ys : List PyData} : lexA (y :: ys) [] = false := by
  unfold lexA
  rw [toks_all_cons]
  simp only [keyToksAll]
  rw [lex_atom (by simp) _ [], lex_one]
  rfl
theorem lexA_cc {x y : PyData} {xs ys : List PyData} (h : alike x y = true) : lexA (x :: xs) (y :: ys) = if PyData.eqv x y = true then lexA xs ys else dataLt x y := by
  unfold lexA
  cases e : PyData.eqv x y with
  | true => rw [dataLt_all_yes h e]; rfl
  | false => rw [dataLt_all_no h e]; rfl
theorem lt_tup {xs ys : List PyData} : dataLt (.tuple xs) (.tuple ys) = lexA xs ys := dataLt_tuple xs ys
theorem eqv_ss {a b : List Nat} : PyData.eqv (.str (sl a)) (.str (sl b)) = decide (a = b) := by
  simp only [PyData.eqv]
  by_cases h : a = b
  · subst h; simp
  · rw [decide_eq_false h]
    exact beq_eq_false_iff_ne.mpr fun z => h (sl_inj.mp z)
theorem lt_ss {a b : List Nat} : dataLt (.str (sl a)) (.str (sl b)) = decide (a < b) := dataLt_str _ _
theorem ltD_ss {a b c d : List Nat} : ltD (.tup [.str (sl a), .str (sl b)]) (.tup [.str (sl c), .str (sl d)]) = some (.bl (if a = c then decide (b < d) else decide (a < c))) := by
  have e1 : toD (.tup [.str (sl a), .str (sl b)]) = some (.tuple [.str (sl a), .str (sl b)]) := rfl
  have e2 : toD (.tup [.str (sl c), .str (sl d)]) = some (.tuple [.str (sl c), .str (sl d)]) := rfl
  unfold ltD
  rw [e1, e2]
  dsimp only
  rw [if_pos ⟨rfl, (show (1 : Nat) ≤ 60 by decide)⟩, lt_tup, lexA_cc rfl, lexA_cc rfl, lexA_nn, eqv_ss, eqv_ss, lt_ss, lt_ss]
  by_cases h : a = c
  · subst h
    by_cases h2 : b = d
    · subst h2; simp
    · simp [h2]
  · simp [h]
theorem ltD_is {i j : Int} {b d : List Nat} : ltD (.tup [.int i, .str (sl b)]) (.tup [.int j, .str (sl d)]) = some (.bl (if i = j then decide (b < d) else decide (i < j))) := by
  have e1 : toD (.tup [.int i, .str (sl b)]) = some (.tuple [.int i, .str (sl b)]) := rfl
  have e2 : toD (.tup [.int j, .str (sl d)]) = some (.tuple [.int j, .str (sl d)]) := rfl
  unfold ltD
  rw [e1, e2]
  dsimp only
  rw [if_pos ⟨rfl, (show (1 : Nat) ≤ 60 by decide)⟩, lt_tup, lexA_cc rfl, lexA_cc rfl, lexA_nn, eqv_ss, lt_ss, dataLt_int]
  have e3 : PyData.eqv (.int i) (.int j) = decide (i = j) := by
    simp only [PyData.eqv]
    by_cases h : i = j <;> simp [h]
  rw [e3]
  by_cases h : i = j
  · subst h
    by_cases h2 : b = d
    · subst h2; simp
    · simp [h2]
  · simp [h]
theorem lt_one {a b : Nat} : (([a] : List Nat) < [b]) ↔ a < b := by
  constructor
  · intro h
    cases h with
    | rel h => exact h
    | cons h => cases h
  · exact List.Lex.rel
theorem cut_1 {α : Type} {a : List α} : cutL a (some 1) none = a.drop 1 := cut_from (k := 1)
theorem cut_t1 {α : Type} {a : List α} : cutL a none (some 1) = a.take 1 := cut_to (k := 1)
theorem cut_t2 {α : Type} {a : List α} : cutL a none (some 2) = a.take 2 := cut_to (k := 2)
theorem zipW_map {α β : Type} {f : α → W} {g : β → W} : ∀ {a : List α} {b : List β}, zipW (a.map f) (b.map g) = (a.zip b).map fun p => .tup [f p.1, g p.2]
  | [], _ => by simp [zipW]
  | _ :: _, [] => by simp [zipW]
  | x :: a, y :: b => by
    have := zipW_map (f := f) (g := g) (a := a) (b := b)
    simp only [zipW, List.map_cons, List.zipWith_cons_cons, List.zip_cons_cons] at this ⊢
    rw [this]
theorem at0 {α : Type} {a : α} {l : List α} : atI (a :: l) 0 = some a := by
  unfold atI ixN
  rw [if_pos (by decide), if_pos (by simp)]
  rfl
theorem at1 {α : Type} {a b : α} {l : List α} : atI (a :: b :: l) 1 = some b := by
  unfold atI ixN
  rw [if_pos (by decide), if_pos (by simp; omega)]
  rfl
theorem at2 {α : Type} {a b c : α} {l : List α} : atI (a :: b :: c :: l) 2 = some c := by
  unfold atI ixN
  rw [if_pos (by decide), if_pos (by simp; omega)]
  rfl
theorem at3 {α : Type} {a b c d : α} {l : List α} : atI (a :: b :: c :: d :: l) 3 = some d := by
  unfold atI ixN
  rw [if_pos (by decide), if_pos (by simp; omega)]
  rfl
theorem atI_nat {α : Type} {l : List α} {n : Nat} : atI l (n : Int) = l[n]? := by
  unfold atI ixN
  rw [if_pos (by omega)]
  by_cases h : n < l.length
  · rw [if_pos (by omega)]; simp
  · rw [if_neg (by omega)]; simp; omega
theorem atI_of {α : Type} {xs : List α} {r : Int} (h0 : 0 ≤ r) (h1 : r < xs.length) : ∃ x, atI xs r = some x ∧ x ∈ xs ∧ xs[r.toNat]? = some x := by
  have hn : r.toNat < xs.length := by omega
  refine ⟨xs[r.toNat], ?_, List.getElem_mem hn, by simp [hn]⟩
  have := atI_nat (l := xs) (n := r.toNat)
  rw [Int.toNat_of_nonneg h0] at this
  rw [this]
  simp [hn]
theorem enumW_nil {k : Int} : enumW k [] = [] := rfl
theorem enumW_cons {k : Int} {w : W} {ws : List W} : enumW k (w :: ws) = .tup [.int k, w] :: enumW (k + 1) ws := by
  simp only [enumW, List.mapIdx_cons, Int.natCast_zero, Int.add_zero, List.cons.injEq, true_and]
  apply List.mapIdx_eq_mapIdx_iff.mpr
  intro i hi
  simp only [W.tup.injEq, List.cons.injEq, W.int.injEq, and_true]
  omega
theorem putT_fresh {kws : List (W × W)} {k : List Key} {w : W} (h : ∀ p ∈ kws, keysOf p.1 ≠ some k) : putT kws k w = kws ++ [(.tup (k.map wk), w)] := by
  unfold putT
  rw [if_neg]
  simp only [List.any_eq_true, decide_eq_true_eq, not_exists, not_and]
  exact h
/-! ### operators by kinds -/
theorem add_ii {i j : Int} : addW (.int i) (.int j) = some (.int (i + j)) := (rfl)
theorem add_ss {a b : Str} : addW (.str a) (.str b) = if fit (a.length + b.length) = true then some (.str (a ++ b)) else none := (rfl)
theorem add_tt {a b : List W} : addW (.tup a) (.tup b) = if fit (a.length + b.length) = true then some (.tup (a ++ b)) else none := (rfl)
theorem add_ll {a b : List W} : addW (.lst a) (.lst b) = if fit (a.length + b.length) = true then some (.lst (a ++ b)) else none := (rfl)
theorem sub_ii {i j : Int} : subW (.int i) (.int j) = some (.int (i - j)) := (rfl)
theorem mul_ii {i j : Int} : mulS (.int i) (.int j) = if (mid64 i || mid64 j) = true then some (.int (i * j)) else none := (rfl)
theorem mul_si {s : Str} {k : Int} : mulS (.str s) (.int k) = if (decide (0 ≤ k ∧ k ≤ 100000) && fit (s.length * k.toNat)) = true then some (.str (Txt.mul s k)) else none := (rfl)
theorem mul_li {ws : List W} {k : Int} : mulS (.lst ws) (.int k) = if (decide (-(2 ^ 63) ≤ k ∧ k < 2 ^ 63) && fit (ws.length * k.toNat)) = true then some (.lst (List.replicate k.toNat ws).flatten) else none := (rfl)
theorem mod_ii {i j : Int} : modW (.int i) (.int j) = if decide (0 < j) = true then some (.int (i % j)) else none := (rfl)
theorem fdiv_ii {i j : Int} : fdivW (.int i) (.int j) = if decide (0 < j ∧ j < 1073741824) = true then some (.int (i / j)) else none := (rfl)
theorem lt_ii {i j : Int} : ltW (.int i) (.int j) = some (.bl (decide (i < j))) := (rfl)
theorem lt_sl {a b : List Nat} : ltW (.str (sl a)) (.str (sl b)) = some (.bl (decide (a < b))) := (rfl)
theorem le_ii {i j : Int} : leW (.int i) (.int j) = some (.bl (decide (i ≤ j))) := (rfl)
theorem le_sl {a b : List Nat} : leW (.str (sl a)) (.str (sl b)) = some (.bl (!decide (b < a))) := (rfl)
theorem gt_ii {i j : Int} : gtW (.int i) (.int j) = some (.bl (decide (j < i))) := (rfl)
theorem gt_sl {a b : List Nat} : gtW (.str (sl a)) (.str (sl b)) = some (.bl (decide (b < a))) := (rfl)
theorem ge_ii {i j : Int} : geW (.int i) (.int j) = some (.bl (decide (j ≤ i))) := (rfl)
theorem ge_sl {a b : List Nat} : geW (.str (sl a)) (.str (sl b)) = some (.bl (!decide (a < b))) := (rfl)
theorem isn_n {w : W} : isnW w .non = some (.bl (isNon w)) := (rfl)
theorem notn_n {w : W} : notnW w .non = some (.bl (!isNon w)) := (rfl)
theorem len_l {ws : List W} : lenW (.lst ws) = some (.int ws.length) := (rfl)
theorem len_c {ws : List W} : lenW (.scr ws) = some (.int ws.length) := (rfl)
theorem len_t {ws : List W} : lenW (.tup ws) = some (.int ws.length) := (rfl)
theorem len_s {s : Str} : lenW (.str s) = if fit s.length = true then some (.int s.length) else none := (rfl)
theorem len_d {kws : List (W × W)} : lenW (.dct false kws) = some (.int kws.length) := (rfl)
theorem int1_i {i : Int} : int1W (.int i) = some (.int i) := (rfl)
theorem slc_l {lo hi : Option Int} {ws : List W} : sliceW lo hi (.lst ws) = some (.lst (cutL ws lo hi)) := (rfl)
theorem slc_c {lo hi : Option Int} {ws : List W} : sliceW lo hi (.scr ws) = some (.lst (cutL ws lo hi)) := (rfl)
theorem slc_t {lo hi : Option Int} {ws : List W} : sliceW lo hi (.tup ws) = some (.tup (cutL ws lo hi)) := (rfl)
theorem slc_s {lo hi : Option Int} {s : Str} : sliceW lo hi (.str s) = if fit s.length = true then some (.str (cutS s lo hi)) else none := (rfl)
theorem rev_l {ws : List W} : revW (.lst ws) = some (.lst ws.reverse) := (rfl)
theorem rev_c {ws : List W} : revW (.scr ws) = some (.lst ws.reverse) := (rfl)
theorem isS_s {s : Str} : isStr (.str s) = true := (rfl)
theorem isL_l {s : List W} : isLst (.lst s) = true := (rfl)
theorem isD_d {k : Bool} {s : List (W × W)} : isDct (.dct k s) = true := (rfl)
theorem neg_i {i : Int} : negW (.int i) = some (.int (-i)) := (rfl)
theorem tpl_l {ws : List W} : tupleW (.lst ws) = some (.tup ws) := (rfl)
theorem tpl_c {ws : List W} : tupleW (.scr ws) = some (.tup ws) := (rfl)
theorem tpl_t {ws : List W} : tupleW (.tup ws) = some (.tup ws) := (rfl)
theorem seq_l {ws : List W} : seqW (.lst ws) = some ws := (rfl)
theorem seq_c {ws : List W} : seqW (.scr ws) = some ws := (rfl)
theorem seq_t {ws : List W} : seqW (.tup ws) = some ws := (rfl)
theorem bl_b {b : Bool} : blW (.bl b) = some b := (rfl)
theorem int_i {i : Int} : intW (.int i) = some (some i) := (rfl)
theorem ix_l {ws : List W} {i : Int} : ixW (.lst ws) (.int i) = atI ws i := (rfl)
theorem ix_c {ws : List W} {i : Int} : ixW (.scr ws) (.int i) = atI ws i := (rfl)
theorem ix_t {ws : List W} {i : Int} : ixW (.tup ws) (.int i) = atI ws i := (rfl)
theorem ix_s {a : List Nat} {i : Int} : ixW (.str (sl a)) (.int i) = if fit a.length = true then (atI a i).map one1 else none := by
  show (if fit (sl a).length = true then _ else none) = _
  rw [sl_len]
  rfl
theorem wk_s {s : Str} : wk (.inr s) = .str s := (rfl)
theorem wk_i {i : Int} : wk (.inl i) = .int i := (rfl)
theorem key_i {i : Int} : keyOf (.int i) = some (.inl i) := (rfl)
theorem key_s {s : Str} : keyOf (.str s) = some (.inr s) := (rfl)
theorem get_f {kws : List (W × W)} {k : W} : getW (.dct false kws) k = (keyOf k).map fun k => lookD kws k := (rfl)
theorem get_t {kws : List (W × W)} {k : W} : getW (.dct true kws) k = (keysOf k).map fun k => lookT kws k := (rfl)
theorem put_f {kws : List (W × W)} {k v : W} : putW (.dct false kws) k v = if fit kws.length = true then (keyOf k).map fun k => .dct false (putD kws k v) else none := (rfl)
theorem put_t {kws : List (W × W)} {k v : W} : putW (.dct true kws) k v = if fit kws.length = true then (keysOf k).map fun k => .dct true (putT kws k v) else none := (rfl)
theorem view_f {en : En} {st : Sto} {w : W} : view en st (.fz w) = deref st w := (rfl)
theorem one_1 {f : W → Option W} {w : W} : one f [w] = f w := (rfl)
theorem isi_2 {il : List String} {w c : W} : isi2 il [w, c] = (isiW il w c).map W.bl := (rfl)
theorem enumO_1 {k : Int} {w : W} : enumO k [w] = (itemsW w).map (enumW k) := (rfl)
theorem zipO_2 {a b : W} : zipO [a, b] = (itemsW a).bind fun a => (itemsW b).map (zipW a) := (rfl)
theorem sortW_asc {ws : List W} (hd : ∀ w ∈ ws, (toD w).isSome = true ∧ (dOf w).depth ≤ 60) (ha : AllAlike (ws.map dOf)) (hs : Sortable (ws.map dOf)) (hl : ws.length ≤ 100000) (asc : ws.Pairwise fun a b => dataLt (dOf b) (dOf a) = false) : sortW ws = some ws := by
  unfold sortW
  rw [if_pos ⟨hd, ha, hs, hl⟩, List.mergeSort_of_pairwise]
  exact asc.imp fun h => by simp [leD, h]
theorem strsW_one : ∀ cs : List Nat, strsW (cs.map one1) = some (cs.map fun c => sl [c])
  | [] => rfl
  | c :: cs => by
    rw [List.map_cons, strsW, strsW_one cs]
    rfl
theorem join_one (cs : List Nat) : Txt.join (sl []) (cs.map fun c => sl [c]) = sl cs := by
  have glue : ∀ (cs acc : List Nat), (cs.map fun c => sl [c]).foldl (fun a p => a ++ (#[] : Array Nat) ++ p.cps) acc.toArray = (acc ++ cs).toArray := by
    intro cs
    induction cs with
    | nil => intro acc; simp
    | cons c cs ih =>
      intro acc
      rw [List.map_cons, List.foldl_cons]
      have : acc.toArray ++ (#[] : Array Nat) ++ (sl [c]).cps = (acc ++ [c]).toArray := by simp [sl]
      rw [this, ih]
      simp
  unfold Txt.join Builtin.Str.glued
  have e : (sl []).cps = #[] := rfl
  rw [e]
  cases cs with
  | nil => rfl
  | cons c cs =>
    have h := glue cs [c]
    simp only [List.map_cons, List.drop_succ_cons, List.drop_zero, List.headD_cons]
    rw [show (sl [c]).cps = [c].toArray from rfl, h]
    rfl
theorem sum_one : ∀ cs : List Nat, ((cs.map fun c => sl [c]).map (·.length)).sum = cs.length
  | [] => rfl
  | c :: cs => by
    rw [List.map_cons, List.map_cons, List.sum_cons, sum_one cs, List.length_cons, sl_len]
    simp
    omega
theorem joinW_one {cs : List Nat} (h : cs.length ≤ 100000) : joinW (.str (sl [])) [.lst (cs.map one1)] = some (.str (sl cs)) := by
  unfold joinW seqW
  simp only [strsW_one]
  rw [if_pos, join_one]
  rw [sl_len, sum_one, List.length_map]
  exact decide_eq_true (by simp; omega)
theorem range_1 {j : Int} (h : small62 j = true) : rangeOf [.int j] = some (rangeW 0 1 j.toNat) := by
  show (if small62 j = true then _ else none) = _
  rw [if_pos h]
end MH

/-! More rules to reckon with from the front. -/
namespace MH
open PySem L2
class CoW where
  run : W → Prop
def CoW.go [q : CoW] (w : W) : Prop := q.run w
def slK (o : Option Slt) [k : CoW] : Prop := match o with
  | some (some (false, w)) => k.run w
  | _ => False
theorem goW {f : W → Prop} {w : W} : @CoW.go ⟨f⟩ w = f w := (rfl)
theorem slK_f {w : W} {k : CoW} : @slK (some (some (false, w))) k = k.go w := (rfl)
section
variable {en : En} {st : Sto} {x : CoX} {q : CoE W} {qs : CoS} {xs : CoY}
open Classical in
theorem w_bodyT {n : Nat} {b : Sv} {ws : List W} : wpE (bodyT n b ws st) (q := q) (x := x) = wpE (body n b ws st) (q := ⟨fun w s => (lb st.length w = true ∧ Kept st s) ∧ q.go w (s.take st.length)⟩) (x := ⟨fun c fs s => (lbF st.length fs = true ∧ Kept st s) ∧ x.go c fs (s.take st.length)⟩) := by
  unfold bodyT
  cases body n b ws st with
  | ok w s => exact ifN rfl
  | ex c fs s => exact ifN rfl
  | no => rfl
theorem kept_app {r : Sto} : Kept st (st ++ r) = True := by
  rw [eq_iff_iff]
  refine ⟨fun _ => trivial, fun _ i c hi e => .inl ?_⟩
  rwa [List.getElem?_append_left hi] at e
theorem kept_self : Kept st st = True := by
  rw [eq_iff_iff]
  exact ⟨fun _ => trivial, fun _ i c hi e => .inl e⟩
theorem take_app {r : Sto} : (st ++ r).take st.length = st := by simp
theorem gapp {l : Sto} {k : Nat} {d : W} : (st ++ l).getD (st.length + k) d = l.getD k d := by
  simp [List.getD_eq_getElem?_getD, List.getElem?_append_right]
theorem gapp0 {l : Sto} {d : W} : (st ++ l).getD st.length d = l.getD 0 d := gapp (k := 0)
theorem sapp {l : Sto} {k : Nat} {w : W} : (st ++ l).set (st.length + k) w = st ++ l.set k w := by
  rw [List.set_append_right _ _ (by omega)]
  congr 2; omega
theorem sapp0 {l : Sto} {w : W} : (st ++ l).set st.length w = st ++ l.set 0 w := sapp (k := 0)
theorem w_star {m : Pv} {k : Av} {q : CoE (List W)} : wpE (MH.A.star m k en st) (q := q) (x := x) = wpE (m en st) (q := ⟨fun h s => wpE (lift (starO (view en s h)) s) (q := ⟨fun ws s1 => wpE (k en s1) (q := ⟨fun us s2 => q.go (ws ++ us) s2⟩) (x := x)⟩) (x := x)⟩) (x := x) := bndE fun _ _ => bndE fun _ _ => bndE fun _ _ => rfl
theorem star_s {a : List Nat} : starO (.str (sl a)) = if fit a.length = true then some (a.map one1) else none := by
  show (if fit (sl a).length = true then _ else none) = _
  rw [sl_len]; rfl
theorem star_l {ws : List W} : starO (.lst ws) = some ws := (rfl)
theorem star_t {ws : List W} : starO (.tup ws) = some ws := (rfl)
def augR (o : Option W) (i : Nat) (en : En) (s : Sto) : R (En × Sto) Fl := match o with
  | some u => .ok .nx (en.set i (some (false, u)), s)
  | none => .no
theorem augR_s {u : W} {i : Nat} {s : Sto} : augR (some u) i en s = .ok .nx (en.set i (some (false, u)), s) := (rfl)
theorem w_aug {i : Nat} {f : W → W → Option W} {m : Ev} : wpS (Z.aug i f m en st) (q := qs) (x := xs) = slK en[i]? (k := ⟨fun w0 => wpE (m en st) (q := ⟨fun w s => wpS (augR (f w0 w) i en s) (q := qs) (x := xs)⟩) (x := ⟨fun c fs s => xs.go c fs en s⟩)⟩) := by
  unfold Z.aug slK
  rcases en[i]? with _ | _ | ⟨_ | _, w0⟩ <;> try rfl
  refine bndS fun w s => ?_
  cases f w0 w <;> rfl
theorem aug_ii {i j : Int} : addA (.int i) (.int j) = some (.int (i + j)) := (rfl)
theorem aug_ss {a b : List Nat} : addA (.str (sl a)) (.str (sl b)) = if fit (a.length + b.length) = true then some (.str (sl (a ++ b))) else none := by
  show (if fit ((sl a).length + (sl b).length) = true then some (W.str (sl a ++ sl b)) else none) = _
  rw [sl_len, sl_len, sl_app]
theorem w_chain {f g : W → W → Option W} {p k r : Pv} : wpE (E.chain f g p k r en st) (q := q) (x := x) = wpE (p en st) (q := ⟨fun h1 s1 => wpE (k en s1) (q := ⟨fun h2 s2 => wpE (lift (f (view en s2 h1) (view en s2 h2)) s2) (q := ⟨fun w s3 => wpE (lift (blW w) s3) (q := ⟨fun b s =>
    iteP b (p := ⟨fun _ => wpE (r en s) (q := ⟨fun h3 s4 => wpE (lift (g (view en s4 h2) (view en s4 h3)) s4) (q := q) (x := x)⟩) (x := x)⟩) (q := ⟨fun _ => q.go (.bl false) s⟩)⟩) (x := x)⟩) (x := x)⟩) (x := x)⟩) (x := x) := by
  refine bndE fun _ _ => bndE fun h2 _ => bndE fun w s => ?_
  cases w with
  | bl b =>
    cases b with
    | true => exact bndE fun _ _ => rfl
    | false => rfl
  | _ => rfl
def lputR (v kk w : W) (h : Hd) (en : En) (s : Sto) : R (En × Sto) Fl := match v, kk with
  | .lst ws, .int i => match ixN ws.length i with
    | some j => wrS (wrH h (.lst (ws.set j w)) en s)
    | none => .no
  | _, _ => .no
theorem w_lput {p k : Pv} {m : Ev} : wpS (Z.lput p k m en st) (q := qs) (x := xs) = wpE (m en st) (q := ⟨fun w s1 => wpE (p en s1) (q := ⟨fun h s2 => wpE (k en s2) (q := ⟨fun kk s3 => wpS (lputR (view en s3 h) (view en s3 kk) w h en s3) (q := qs) (x := xs)⟩) (x := ⟨fun c fs s => xs.go c fs en s⟩)⟩) (x := ⟨fun c fs s => xs.go c fs en s⟩)⟩) (x := ⟨fun c fs s => xs.go c fs en s⟩) :=
  bndS fun _ _ => bndS fun _ _ => bndS fun _ _ => rfl
theorem lput_last {us : List W} {u w : W} {h : Hd} {s : Sto} : lputR (.lst (us ++ [u])) (.int (-1)) w h en s = wrS (wrH h (.lst (us ++ [w])) en s) := by
  have e : ixN (us ++ [u]).length (-1) = some us.length := by
    unfold ixN
    rw [if_neg (by decide), if_pos (by simp; omega)]
    simp; omega
  show (match ixN (us ++ [u]).length (-1) with
    | some j => wrS (wrH h (.lst ((us ++ [u]).set j w)) en s)
    | none => .no) = _
  rw [e]
  simp
theorem lput_at {ws : List W} {n : Nat} {w : W} {h : Hd} {s : Sto} (hn : n < ws.length) : lputR (.lst ws) (.int n) w h en s = wrS (wrH h (.lst (ws.set n w)) en s) := by
  have e : ixN ws.length (n : Int) = some n := by
    unfold ixN
    rw [if_pos (by omega), if_pos (by omega)]
    simp
  show (match ixN ws.length (n : Int) with
    | some j => wrS (wrH h (.lst (ws.set j w)) en s)
    | none => .no) = _
  rw [e]
theorem atm1 {α : Type} {us : List α} {u : α} : atI (us ++ [u]) (-1) = some u := by
  unfold atI ixN
  rw [if_neg (by decide), if_pos (by simp; omega)]
  have : (((us ++ [u]).length : Int) + -1).toNat = us.length := by simp; omega
  show ((us ++ [u])[(-1 + ((us ++ [u]).length : Int)).toNat]?) = some u
  rw [Int.add_comm, this]
  simp
def popL (w : W) (n : Nat) (s : Sto) : R Sto W := match w with
  | .lst ws => match ws[ws.length - 1]? with
    | some u => .ok u (s.set n (.lst ws.dropLast))
    | none => .no
  | _ => .no
theorem popR_l {n : Nat} {s : Sto} : popR (.loc n) s = popL (s.getD n .non) n s := (rfl)
theorem popL_s {us : List W} {u : W} {n : Nat} {s : Sto} : popL (.lst (us ++ [u])) n s = .ok u (s.set n (.lst us)) := by
  unfold popL
  simp
theorem w_keys {m : Ev} {q : CoE (List W)} : wpE (I.keys m en st) (q := q) (x := x) = wpE (m en st) (q := ⟨fun w s => wpE (lift (keysItems w) s) (q := q) (x := x)⟩) (x := x) := bndE fun _ _ => rfl
theorem keysI {k : Bool} {kws : List (W × W)} : keysItems (.dct k kws) = some (kws.map (·.1)) := (rfl)
theorem w_lcV {p : Pv} {ns : List Nat} {bd : Bd} {t : Tv} {m : Ev} : wpE (E.lcV p ns bd t m en st) (q := q) (x := x) = (ns.any (fun n => ownS (en.getD n none)) = false ∧ wpE (p en st) (q := ⟨fun h s => wpE (lcVs h (view en s h) ns bd t m en s) (q := ⟨fun xs s' => q.go (.lst xs) s'⟩) (x := x)⟩) (x := x)) := by
  unfold E.lcV
  cases h : ns.any (fun n => ownS (en.getD n none)) with
  | true => simp [wpE]
  | false =>
    rw [if_neg (by decide)]
    rw [eq_true (rfl : false = false), true_and]
    exact bndE fun _ _ => bndE fun _ _ => rfl
theorem lcVs_l {h : Hd} {items : List W} {ns : List Nat} {bd : Bd} {t : Tv} {m : Ev} {s : Sto} : lcVs h (.lst items) ns bd t m en s = lcV h items ns bd t m en items [] s := (rfl)
theorem lcV_pure {α : Type} {h : Hd} {ns : List Nat} {bd : Bd} {m : Ev} {g f : α → W} {cs : List α} (hv : view en st h = .lst (cs.map g)) (hh : ∀ c ∈ cs, ∃ en1, bd (g c) (wipeE en ns) = some en1 ∧ wpQ (m en1 st) (fun w s => w = f c ∧ s = st)) (hl : cs.length ≤ 100000) : lcV h (cs.map g) ns bd MH.T.yes m en (cs.map g) [] st = .ok (cs.map f) st := by
  have : ∀ (ds : List α) (acc : List W), (∀ c ∈ ds, c ∈ cs) → acc.length + ds.length ≤ 100000 → lcV h (cs.map g) ns bd MH.T.yes m en (ds.map g) acc st = .ok (acc ++ ds.map f) st := by
    intro ds
    induction ds with
    | nil => intro acc _ _; rw [List.map_nil, List.map_nil, List.append_nil]; rfl
    | cons d ds ih =>
      intro acc hm hn
      obtain ⟨en1, e1, e2⟩ := hh d (hm d List.mem_cons_self)
      rw [List.length_cons] at hn
      rw [List.map_cons, lcV, e1]
      dsimp only
      rw [show MH.T.yes en1 st = .ok true st from rfl]
      dsimp only
      rw [ok_of e2]
      dsimp only
      rw [if_pos ⟨fit_of (by omega), hv⟩, ih _ (fun c hc => hm c (List.mem_cons_of_mem _ hc)) (by simp; omega), List.map_cons, List.append_assoc, List.singleton_append]
  simpa using this cs [] (fun _ h => h) (by simpa using hl)
/-! ### while -/
theorem wp_while {c : Tv} {b : Sv} (I : Nat → En → Sto → Prop) (Q : En → Sto → Prop)
    (step : ∀ k en st, I k en st → wpE (c en st) (q := ⟨fun t s => if t = true then wpSQ (b en s) (fun fl e s' => (fl = .nx ∨ fl = .ct) ∧ ∃ k', k' < k ∧ I k' e s') xs else Q en s⟩) (x := ⟨fun cc fs s => xs.run cc fs en s⟩)) :
    ∀ (k : Nat) (en : En) (st : Sto), I k en st → wpSQ (Z.while c b en st) (fun fl e s => fl = .nx ∧ Q e s) xs := by
  have main : ∀ (k : Nat) (en : En) (st : Sto), I k en st → ∃ n, whileN c b n en st ≠ .no ∧ wpSQ (whileN c b n en st) (fun fl e s => fl = .nx ∧ Q e s) xs := by
    intro k
    induction k using Nat.strongRecOn with
    | ind k ih =>
      intro en st h
      have hs := step k en st h
      cases qc : c en st with
      | no => rw [qc] at hs; cases hs
      | ex cc fs s =>
        rw [qc] at hs
        refine ⟨1, ?_, ?_⟩
        · rw [whileN, qc]; intro z; cases z
        · rw [wpSQ, whileN, qc]; exact hs
      | ok t s =>
        rw [qc] at hs
        have hs : if t = true then wpSQ (b en s) (fun fl e s' => (fl = .nx ∨ fl = .ct) ∧ ∃ k', k' < k ∧ I k' e s') xs else Q en s := hs
        cases t with
        | false =>
          refine ⟨1, ?_, ?_⟩
          · rw [whileN, qc]; intro z; cases z
          · rw [wpSQ, whileN, qc]; exact ⟨rfl, hs⟩
        | true =>
          have hs : wpSQ (b en s) (fun fl e s' => (fl = .nx ∨ fl = .ct) ∧ ∃ k', k' < k ∧ I k' e s') xs := hs
          cases qb : b en s with
          | no => rw [qb] at hs; cases hs
          | ex cc fs s' =>
            rw [qb] at hs
            have e : whileN c b 1 en st = .ex cc fs s' := by
              rw [whileN, qc]
              show (if true = true then (match b en s with
                | .ok .nx s => whileN c b 0 s.1 s.2
                | .ok .ct s => whileN c b 0 s.1 s.2
                | .ok .bk s => .ok .nx s
                | .ok (.rt w) s => .ok (.rt w) s
                | .ex c fs s => .ex c fs s
                | .no => .no) else (.ok .nx (en, s) : R (En × Sto) Fl)) = _
              rw [if_pos rfl, qb]
            refine ⟨1, ?_, ?_⟩
            · rw [e]; intro z; cases z
            · rw [wpSQ, e]; exact hs
          | ok fl s' =>
            rw [qb] at hs
            obtain ⟨hfl, k', hk, hI⟩ := hs
            obtain ⟨n, hn, hw⟩ := ih k' hk s'.1 s'.2 hI
            have e : whileN c b (n + 1) en st = whileN c b n s'.1 s'.2 := by
              rw [whileN, qc]
              show (if true = true then (match b en s with
                | .ok .nx s => whileN c b n s.1 s.2
                | .ok .ct s => whileN c b n s.1 s.2
                | .ok .bk s => .ok .nx s
                | .ok (.rt w) s => .ok (.rt w) s
                | .ex c fs s => .ex c fs s
                | .no => .no) else (.ok .nx (en, s) : R (En × Sto) Fl)) = _
              rw [if_pos rfl, qb]
              rcases hfl with rfl | rfl <;> rfl
            refine ⟨n + 1, ?_, ?_⟩
            · rw [e]; exact hn
            · rw [wpSQ, e]; exact hw
  intro k en st h
  obtain ⟨n, hn, hw⟩ := main k en st h
  have ex : ∃ n, whileN c b n en st ≠ .no := ⟨n, hn⟩
  have e : Z.while c b en st = whileN c b (Classical.choose ex) en st := by
    unfold Z.while
    rw [dif_pos ex]
  have hc := Classical.choose_spec ex
  have e2 : whileN c b (Classical.choose ex) en st = whileN c b n en st := by
    rcases Nat.le_total n (Classical.choose ex) with h | h
    · exact whileN_more c b _ _ en st h hn
    · exact (whileN_more c b _ _ en st h hc).symm
  rw [wpSQ, e, e2]
  exact hw
end
theorem revS_sl {a : List Nat} : revS (.str (sl a)) = if fit a.length = true then some (.str (sl a.reverse)) else none := by
  show (if fit (sl a).length = true then _ else none) = _
  rw [sl_len]; rfl
theorem neL_nil {ws : List W} (h : dk (.lst ws) = true) (hd : dpt (.lst ws) ≤ 64) : neW (.lst ws) (.lst []) = some (.bl (!ws.isEmpty)) := by
  rw [neW_of h (by simp [dk, dkL]) hd (by simp [dpt, dptL])]
  congr 2
  cases ws with
  | nil => simp [eqvW, datD, toD, toDs, PyData.eqv, PyData.eqvAll]
  | cons w ws =>
    simp only [dk] at h
    obtain ⟨ds, e, _, _⟩ := toDs_dk h
    cases ds with
    | nil =>
      rw [toDs] at e
      cases e1 : toD w <;> cases e2 : toDs ws <;> simp [e1, e2] at e
    | cons d ds =>
      have e1 : toD (.lst (w :: ws)) = some (.list (d :: ds)) := by rw [toD, e]; rfl
      unfold eqvW datD
      rw [e1]
      rfl
theorem eqL_nil {ws : List W} (h : dk (.lst ws) = true) (hd : dpt (.lst ws) ≤ 64) : eqW (.lst ws) (.lst []) = some (.bl ws.isEmpty) := by
  have := neL_nil h hd
  unfold neW at this
  unfold eqW
  cases e : eqB (.lst ws) (.lst []) with
  | none => rw [e] at this; cases this
  | some b =>
    rw [e] at this
    simp at this
    simp [this]
mutual
theorem lb_nl {n : Nat} : ∀ {w : W}, nl w = true → lb n w = true
  | .non, _ => rfl
  | .bl _, _ => rfl
  | .int _, _ => rfl
  | .str _, _ => rfl
  | .tup ws, h => by simpa [lb] using lbL_nl (by simpa [nl] using h)
  | .stp ws, h => by simpa [lb] using lbL_nl (by simpa [nl] using h)
  | .lst ws, h => by simpa [lb] using lbL_nl (by simpa [nl] using h)
  | .scr ws, h => by simpa [lb] using lbL_nl (by simpa [nl] using h)
  | .dct _ ws, h => by simpa [lb] using lbD_nl (by simpa [nl] using h)
  | .ins _ ws, h => by simpa [lb] using lbF_nl (by simpa [nl] using h)
  | .loc _, h => by simp [nl] at h
  | .cls _, _ => rfl
  | .ty _, _ => rfl
theorem lbL_nl {n : Nat} : ∀ {ws : List W}, nlL ws = true → lbL n ws = true
  | [], _ => rfl
  | w :: ws, h => by simp [nlL] at h; simp [lbL, lb_nl h.1, lbL_nl h.2]
theorem lbF_nl {n : Nat} : ∀ {ws : List (Str × W)}, nlF ws = true → lbF n ws = true
  | [], _ => rfl
  | p :: ws, h => by simp [nlF] at h; simp [lbF, lb_nl h.1, lbF_nl h.2]
theorem lbD_nl {n : Nat} : ∀ {ws : List (W × W)}, nlD ws = true → lbD n ws = true
  | [], _ => rfl
  | p :: ws, h => by simp [nlD] at h; simp [lbD, lb_nl h.1, lbD_nl h.2]
end
end MH

/-! More rules: methods by keywords, places in texts. -/
namespace MH
open PySem L2
section
variable {en : En} {st : Sto} {x : CoX} {q : CoE W} {qs : CoS} {xs : CoY}
theorem w_methK {c : String} {mn : Str} {n : Nat} {ps ks : List Str} {f : Fv} {p : Pv} {k : Av} : wpE (E.methK c mn n ps ks f p k en st) (q := q) (x := x) = wpE (p en st) (q := ⟨fun h s => insK h (k := ⟨fun c' fs => (c' = c ∧ fs.lookup mn = none) ∧ wpE (k en s) (q := ⟨fun zs s' => (zs.length = ks.length ∧ (kwOrd ps ks [.ins c' fs] zs).length = n) ∧ wpE (f (kwOrd ps ks [.ins c' fs] zs) s') (q := q) (x := x)⟩) (x := x)⟩)⟩) (x := x) := by
  refine bndE fun h s => ?_
  cases h with
  | sl i => rfl
  | fz w =>
    cases w <;> first | rfl | (exact ifN (bndE fun _ _ => ifN rfl))
end
def ixOf (L : List Nat) (c : Nat) : Nat := (Builtin.Str.occurrences (sl L) (sl [c]) 0 (sl L).length 1).headD 0
theorem sx_of {L : List Nat} {c : Nat} (h : c ∈ L) : indexW (.str (sl L)) [.str (sl [c])] = some (.int (ixOf L c)) ∧ ixOf L c < L.length := by
  have f := PySem.StrLaws.found_one (sl L) c
  have e : (sl [c] : Str) = ⟨#[c]⟩ := rfl
  have sp := PySem.StrLaws.occ_spec (sl L) (sl [c]) 0 (sl L).length 1
  unfold indexW ixOf
  dsimp only
  cases q : Builtin.Str.occurrences (sl L) (sl [c]) 0 (sl L).length 1 with
  | nil =>
    rw [← e, q] at f
    have : c ∈ (sl L).cps.toList := by simpa [sl] using h
    simp [this] at f
  | cons i rest =>
    refine ⟨rfl, ?_⟩
    have := (sp i (by rw [q]; exact List.mem_cons_self)).1
    rw [sl_len, sl_len] at this
    simp at this
    show i < L.length
    omega
theorem sub_aug {i j : Int} : subW (.int i) (.int j) = some (.int (i - j)) := (rfl)
end MH

namespace Toy
open PySem L2 MH
def top (i : Nat) : Stmt := PySem.Challenge.pw_millhands_k08_what_readers_make.main.body.getD i (.Pass ⟨0, 0, 0, 0⟩)
abbrev s_is_web : Stmt := top 14
abbrev s_Reader_way_of : Stmt := inClass (top 32) 5
abbrev s_Reader_made : Stmt := inClass (top 32) 6
abbrev s_Reader_read_of : Stmt := inClass (top 32) 7
abbrev s_is_integer : Stmt := top 8
abbrev s_are_numbers : Stmt := top 30
abbrev s_is_reader_node : Stmt := top 31
abbrev s_is_letters : Stmt := top 9
abbrev s_Reader_init : Stmt := inClass (top 32) 0
abbrev s__law_heard : Stmt := top 40
abbrev s__law_draw : Stmt := top 35
abbrev s__law_pick : Stmt := top 36
abbrev s__law_made : Stmt := top 39
abbrev s__law_word : Stmt := top 37
abbrev s__law_web_right : Stmt := top 41
abbrev s__law_nodes : Stmt := top 38
abbrev s__law_deck : Stmt := top 34
abbrev s_law : Stmt := top 42
abbrev IL : List String := ["Reader"]
def hit_BadWeb : String → Option Bool := fun n => if n ∈ (["BadReader", "BadWeb"] : List String) then some (decide (n ∈ (["BadWeb"] : List String))) else none
/-- is_web -/
noncomputable def e_is_web_0 : Ev :=
  (E.bin insW (P.var 2) (P.var 0))
theorem x_e_is_web_0 {en : En} {st : Sto} : e_is_web_0 en st = (E.bin insW (P.var 2) (P.var 0)) en st := (rfl)
noncomputable def f_is_web : Fv := body 3
  (Z.ret (E.and (E.call (isi2 IL) (Hs.cons (P.var 1) (Hs.cons (Ev.pk (E.c (.ty "str"))) Hs.nil))) (E.call (one allW) (Hs.cons (Ev.pk (E.lc (I.of (E.var 1)) [2] (Bd.name 2) T.yes e_is_web_0)) Hs.nil))))
/-- Reader_way_of -/
noncomputable def u_Reader_way_of_0 : Tv :=
  (T.and (T.val (E.bin eqW (Ev.pk (E.bin ixW (P.var 2) (Ev.pk (E.c (.int 0))))) (Ev.pk (E.c (.str "reads"))))) (T.val (E.bin gtW (P.var 3) (Ev.pk (E.c (.int 0))))))
theorem x_u_Reader_way_of_0 {en : En} {st : Sto} : u_Reader_way_of_0 en st = (T.and (T.val (E.bin eqW (Ev.pk (E.bin ixW (P.var 2) (Ev.pk (E.c (.int 0))))) (Ev.pk (E.c (.str "reads"))))) (T.val (E.bin gtW (P.var 3) (Ev.pk (E.c (.int 0)))))) en st := (rfl)
noncomputable def b_Reader_way_of_0 : Sv :=
  (Z.cons (Z.aug 3 subW (E.c (.int 1)))
  (Z.set 2 (E.bin ixW (Ev.pk (E.un (attrW ["Reader"] "nodes") (P.var 0))) (Ev.pk (E.bin ixW (P.var 2) (Ev.pk (E.bin addW (Ev.pk (E.c (.int 2))) (Ev.pk (E.ms indexW (Ev.pk (E.un (attrW ["Reader"] "letters") (P.var 0))) (Hs.cons (Ev.pk (E.bin ixW (P.var 1) (P.var 3))) Hs.nil))))))))))
theorem x_b_Reader_way_of_0 {en : En} {st : Sto} : b_Reader_way_of_0 en st = (Z.cons (Z.aug 3 subW (E.c (.int 1)))
  (Z.set 2 (E.bin ixW (Ev.pk (E.un (attrW ["Reader"] "nodes") (P.var 0))) (Ev.pk (E.bin ixW (P.var 2) (Ev.pk (E.bin addW (Ev.pk (E.c (.int 2))) (Ev.pk (E.ms indexW (Ev.pk (E.un (attrW ["Reader"] "letters") (P.var 0))) (Hs.cons (Ev.pk (E.bin ixW (P.var 1) (P.var 3))) Hs.nil)))))))))) en st := (rfl)
noncomputable def f_Reader_way_of : Fv := body 4
  (Z.cons (Z.ite (T.not (T.val (E.fn f_is_web (A.cons (E.un (attrW ["Reader"] "letters") (P.var 0)) (A.cons (E.var 1) A.nil))))) (Z.raise "BadWeb" ["thing"] (A.cons (E.var 1) A.nil)) Z.nil)
  (Z.cons (Z.par 2 3 (E.bin ixW (Ev.pk (E.un (attrW ["Reader"] "nodes") (P.var 0))) (Ev.pk (E.c (.int 0)))) (E.call (one lenW) (Hs.cons (P.var 1) Hs.nil)))
  (Z.cons (Z.while u_Reader_way_of_0 b_Reader_way_of_0)
  (Z.ret (E.tup (A.cons (E.bin subW (Ev.pk (E.call (one lenW) (Hs.cons (P.var 1) Hs.nil))) (P.var 3)) (A.cons (E.var 2) A.nil)))))))
/-- Reader_made -/
noncomputable def i_Reader_made_0 : Ev :=
  (E.ite (T.val (E.bin eqW (Ev.pk (E.bin ixW (P.var 3) (Ev.pk (E.c (.int 0))))) (Ev.pk (E.c (.str "reads"))))) (E.bin ixW (P.var 3) (Ev.pk (E.c (.int 1)))) (E.bin addW (Ev.pk (E.slice (P.var 1) O.no (O.at (E.bin subW (Ev.pk (E.call (one lenW) (Hs.cons (P.var 1) Hs.nil))) (P.var 2))))) (Ev.pk (E.bin ixW (P.var 3) (Ev.pk (E.c (.int 1)))))))
theorem x_i_Reader_made_0 {en : En} {st : Sto} : i_Reader_made_0 en st = (E.ite (T.val (E.bin eqW (Ev.pk (E.bin ixW (P.var 3) (Ev.pk (E.c (.int 0))))) (Ev.pk (E.c (.str "reads"))))) (E.bin ixW (P.var 3) (Ev.pk (E.c (.int 1)))) (E.bin addW (Ev.pk (E.slice (P.var 1) O.no (O.at (E.bin subW (Ev.pk (E.call (one lenW) (Hs.cons (P.var 1) Hs.nil))) (P.var 2))))) (Ev.pk (E.bin ixW (P.var 3) (Ev.pk (E.c (.int 1))))))) en st := (rfl)
noncomputable def f_Reader_made : Fv := body 4
  (Z.cons (Z.asg (Bd.tup (Bd.cons (Bd.name 2) (Bd.cons (Bd.name 3) Bd.nil))) (E.meth "Reader" "way_of" 2 f_Reader_way_of (P.var 0) (A.cons (E.var 1) A.nil)))
  (Z.cons (Z.ite (T.val (E.bin eqW (Ev.pk (E.bin ixW (P.var 3) (Ev.pk (E.c (.int 0))))) (Ev.pk (E.c (.str "none"))))) (Z.ret (E.c .non)) Z.nil)
  (Z.ret i_Reader_made_0)))
/-- Reader_read_of -/
noncomputable def f_Reader_read_of : Fv := body 2
  (Z.ret (E.bin ixW (Ev.pk (E.meth "Reader" "way_of" 2 f_Reader_way_of (P.var 0) (A.cons (E.var 1) A.nil))) (Ev.pk (E.c (.int 0)))))
/-- is_integer -/
noncomputable def f_is_integer : Fv := body 1
  (Z.ret (E.and (E.call (isi2 IL) (Hs.cons (P.var 0) (Hs.cons (Ev.pk (E.c (.ty "int"))) Hs.nil))) (E.not (E.call (isi2 IL) (Hs.cons (P.var 0) (Hs.cons (Ev.pk (E.c (.ty "bool"))) Hs.nil))))))
/-- are_numbers -/
noncomputable def e_are_numbers_0 : Ev :=
  (E.and (E.fn f_is_integer (A.cons (E.var 3) A.nil)) (E.chain leW ltW (Ev.pk (E.c (.int 0))) (P.var 3) (P.var 2)))
theorem x_e_are_numbers_0 {en : En} {st : Sto} : e_are_numbers_0 en st = (E.and (E.fn f_is_integer (A.cons (E.var 3) A.nil)) (E.chain leW ltW (Ev.pk (E.c (.int 0))) (P.var 3) (P.var 2))) en st := (rfl)
noncomputable def f_are_numbers : Fv := body 4
  (Z.ret (E.and (E.bin eqW (Ev.pk (E.call (one lenW) (Hs.cons (P.var 0) Hs.nil))) (P.var 1)) (E.call (one allW) (Hs.cons (Ev.pk (E.lc (I.of (E.var 0)) [3] (Bd.name 3) T.yes e_are_numbers_0)) Hs.nil))))
/-- is_reader_node -/
noncomputable def f_is_reader_node : Fv := body 3
  (Z.cons (Z.ite (T.or (T.not (T.val (E.call (isi2 IL) (Hs.cons (P.var 2) (Hs.cons (Ev.pk (E.c (.ty "tuple"))) Hs.nil))))) (T.or (T.val (E.bin eqW (P.var 2) (Ev.pk (E.tup A.nil)))) (T.not (T.val (E.call (isi2 IL) (Hs.cons (Ev.pk (E.bin ixW (P.var 2) (Ev.pk (E.c (.int 0))))) (Hs.cons (Ev.pk (E.c (.ty "str"))) Hs.nil))))))) (Z.ret (E.c (.bl false))) Z.nil)
  (Z.cons (Z.ite (T.val (E.bin eqW (Ev.pk (E.bin ixW (P.var 2) (Ev.pk (E.c (.int 0))))) (Ev.pk (E.c (.str "stops"))))) (Z.ret (E.and (E.bin eqW (Ev.pk (E.call (one lenW) (Hs.cons (P.var 2) Hs.nil))) (Ev.pk (E.c (.int 2)))) (E.fn f_is_web (A.cons (E.var 0) (A.cons (E.bin ixW (P.var 2) (Ev.pk (E.c (.int 1)))) A.nil))))) Z.nil)
  (Z.cons (Z.ite (T.val (E.bin neW (Ev.pk (E.bin ixW (P.var 2) (Ev.pk (E.c (.int 0))))) (Ev.pk (E.c (.str "reads"))))) (Z.ret (E.bin eqW (P.var 2) (Ev.pk (E.tup (A.cons (E.c (.str "none")) A.nil))))) Z.nil)
  (Z.cons (Z.ite (T.or (T.val (E.bin ltW (Ev.pk (E.call (one lenW) (Hs.cons (P.var 2) Hs.nil))) (Ev.pk (E.c (.int 2))))) (T.not (T.or (T.val (E.bin isnW (Ev.pk (E.bin ixW (P.var 2) (Ev.pk (E.c (.int 1))))) (Ev.pk (E.c .non)))) (T.val (E.fn f_is_web (A.cons (E.var 0) (A.cons (E.bin ixW (P.var 2) (Ev.pk (E.c (.int 1)))) A.nil))))))) (Z.ret (E.c (.bl false))) Z.nil)
  (Z.ret (E.fn f_are_numbers (A.cons (E.slice (P.var 2) (O.at (E.c (.int 2))) O.no) (A.cons (E.call (one lenW) (Hs.cons (P.var 0) Hs.nil)) (A.cons (E.var 1) A.nil)))))))))
/-- is_letters -/
noncomputable def e_is_letters_0 : Ev :=
  (E.bin ltW (P.var 2) (P.var 3))
theorem x_e_is_letters_0 {en : En} {st : Sto} : e_is_letters_0 en st = (E.bin ltW (P.var 2) (P.var 3)) en st := (rfl)
noncomputable def e_is_letters_1 : Ev :=
  (E.bin insW (P.var 1) (Ev.pk (E.c (.str "abcdefghijklmnopqrstuvwxyz"))))
theorem x_e_is_letters_1 {en : En} {st : Sto} : e_is_letters_1 en st = (E.bin insW (P.var 1) (Ev.pk (E.c (.str "abcdefghijklmnopqrstuvwxyz")))) en st := (rfl)
noncomputable def f_is_letters : Fv := body 4
  (Z.cons (Z.ite (T.or (T.not (T.val (E.call (isi2 IL) (Hs.cons (P.var 0) (Hs.cons (Ev.pk (E.c (.ty "str"))) Hs.nil))))) (T.val (E.bin eqW (P.var 0) (Ev.pk (E.c (.str "")))))) (Z.ret (E.c (.bl false))) Z.nil)
  (Z.ret (E.and (E.call (one allW) (Hs.cons (Ev.pk (E.lc (I.of (E.var 0)) [1] (Bd.name 1) T.yes e_is_letters_1)) Hs.nil)) (E.call (one allW) (Hs.cons (Ev.pk (E.lc (I.zip (A.cons (E.var 0) (A.cons (E.slice (P.var 0) (O.at (E.c (.int 1))) O.no) A.nil))) [2, 3] (Bd.tup (Bd.cons (Bd.name 2) (Bd.cons (Bd.name 3) Bd.nil))) T.yes e_is_letters_0)) Hs.nil)))))
/-- Reader_init -/
noncomputable def b_Reader_init_0 : Sv :=
  (Z.ite (T.not (T.val (E.fn f_is_reader_node (A.cons (E.var 1) (A.cons (E.call (one lenW) (Hs.cons (P.var 2) Hs.nil)) (A.cons (E.var 4) A.nil)))))) (Z.raise "BadReader" ["part"] (A.cons (E.var 3) A.nil)) Z.nil)
theorem x_b_Reader_init_0 {en : En} {st : Sto} : b_Reader_init_0 en st = (Z.ite (T.not (T.val (E.fn f_is_reader_node (A.cons (E.var 1) (A.cons (E.call (one lenW) (Hs.cons (P.var 2) Hs.nil)) (A.cons (E.var 4) A.nil)))))) (Z.raise "BadReader" ["part"] (A.cons (E.var 3) A.nil)) Z.nil) en st := (rfl)
noncomputable def f_Reader_init : Fv := body 5
  (Z.cons (Z.ite (T.not (T.val (E.fn f_is_letters (A.cons (E.var 1) A.nil)))) (Z.raise "BadReader" ["part"] (A.cons (E.c (.str "letters")) A.nil)) Z.nil)
  (Z.cons (Z.ite (T.or (T.not (T.val (E.call (isi2 IL) (Hs.cons (P.var 2) (Hs.cons (Ev.pk (E.c (.ty "tuple"))) Hs.nil))))) (T.val (E.bin eqW (P.var 2) (Ev.pk (E.tup A.nil))))) (Z.raise "BadReader" ["part"] (A.cons (E.c (.str "nodes")) A.nil)) Z.nil)
  (Z.cons (Z.for (I.enum 0 (A.cons (E.var 2) A.nil)) (Bd.tup (Bd.cons (Bd.name 3) (Bd.cons (Bd.name 4) Bd.nil))) b_Reader_init_0)
  (Z.cons (Z.sattr ["Reader"] "letters" (P.var 0) (E.var 1))
  (Z.sattr ["Reader"] "nodes" (P.var 0) (E.var 2))))))
/-- _law_heard -/
noncomputable def i__law_heard_0 : Ev :=
  (E.ite (T.val (E.bin eqW (P.var 0) (Ev.pk (E.c (.int 0))))) (E.meth "Reader" "made" 2 f_Reader_made (P.var 1) (A.cons (E.var 2) A.nil)) (E.methK "Reader" "made" 2 ["self", "web"] ["web"] f_Reader_made (P.var 1) (A.cons (E.var 2) A.nil)))
theorem x_i__law_heard_0 {en : En} {st : Sto} : i__law_heard_0 en st = (E.ite (T.val (E.bin eqW (P.var 0) (Ev.pk (E.c (.int 0))))) (E.meth "Reader" "made" 2 f_Reader_made (P.var 1) (A.cons (E.var 2) A.nil)) (E.methK "Reader" "made" 2 ["self", "web"] ["web"] f_Reader_made (P.var 1) (A.cons (E.var 2) A.nil))) en st := (rfl)
noncomputable def i__law_heard_1 : Ev :=
  (E.ite (T.val (E.bin eqW (P.var 0) (Ev.pk (E.c (.int 2))))) (E.meth "Reader" "read_of" 2 f_Reader_read_of (P.var 1) (A.cons (E.var 2) A.nil)) (E.methK "Reader" "read_of" 2 ["self", "web"] ["web"] f_Reader_read_of (P.var 1) (A.cons (E.var 2) A.nil)))
theorem x_i__law_heard_1 {en : En} {st : Sto} : i__law_heard_1 en st = (E.ite (T.val (E.bin eqW (P.var 0) (Ev.pk (E.c (.int 2))))) (E.meth "Reader" "read_of" 2 f_Reader_read_of (P.var 1) (A.cons (E.var 2) A.nil)) (E.methK "Reader" "read_of" 2 ["self", "web"] ["web"] f_Reader_read_of (P.var 1) (A.cons (E.var 2) A.nil))) en st := (rfl)
noncomputable def f__law_heard : Fv := body 5
  (Z.cons (Z.set 3 (E.c .non))
  (Z.cons (Z.try (Z.ite (T.val (E.bin ltW (P.var 0) (Ev.pk (E.c (.int 2))))) (Z.set 3 i__law_heard_0) (Z.set 3 i__law_heard_1)) [⟨hit_BadWeb, some 4, fun c fs => (Z.set 3 (E.lst (A.cons (E.c (.str "bad")) (A.cons (xatt fs "thing") (A.cons (E.c (.bl true)) A.nil)))))⟩])
  (Z.ret (E.call (one reprW) (Hs.cons (P.var 3) Hs.nil)))))
/-- _law_draw -/
noncomputable def z__law_draw_0 : Sv :=
  (Z.ite (T.val (E.bin neW (Ev.pk (E.dix (P.var 0) (Ev.pk (E.c (.str "cells"))))) (Ev.pk (E.lst A.nil)))) (Z.cons (Z.set 3 (E.pop (E.dix (P.var 0) (Ev.pk (E.c (.str "cells"))))))
  (Z.cons (Z.ite (T.val (E.bin geW (P.var 3) (Ev.pk (E.bin powW (Ev.pk (E.c (.int 10))) (Ev.pk (E.c (.int 18))))))) (Z.cons (Z.app (Ev.pk (E.dix (P.var 0) (Ev.pk (E.c (.str "cells"))))) (E.bin fdivW (P.var 3) (P.var 1)))
  (Z.ret (E.bin modW (Ev.pk (E.call (one int1W) (Hs.cons (P.var 3) Hs.nil))) (P.var 1)))) Z.nil)
  (Z.set 2 (E.bin addW (P.var 2) (Ev.pk (E.bin modW (Ev.pk (E.call (one int1W) (Hs.cons (P.var 3) Hs.nil))) (Ev.pk (E.c (.int 2147483563))))))))) Z.nil)
theorem x_z__law_draw_0 {en : En} {st : Sto} : z__law_draw_0 en st = (Z.ite (T.val (E.bin neW (Ev.pk (E.dix (P.var 0) (Ev.pk (E.c (.str "cells"))))) (Ev.pk (E.lst A.nil)))) (Z.cons (Z.set 3 (E.pop (E.dix (P.var 0) (Ev.pk (E.c (.str "cells"))))))
  (Z.cons (Z.ite (T.val (E.bin geW (P.var 3) (Ev.pk (E.bin powW (Ev.pk (E.c (.int 10))) (Ev.pk (E.c (.int 18))))))) (Z.cons (Z.app (Ev.pk (E.dix (P.var 0) (Ev.pk (E.c (.str "cells"))))) (E.bin fdivW (P.var 3) (P.var 1)))
  (Z.ret (E.bin modW (Ev.pk (E.call (one int1W) (Hs.cons (P.var 3) Hs.nil))) (P.var 1)))) Z.nil)
  (Z.set 2 (E.bin addW (P.var 2) (Ev.pk (E.bin modW (Ev.pk (E.call (one int1W) (Hs.cons (P.var 3) Hs.nil))) (Ev.pk (E.c (.int 2147483563))))))))) Z.nil) en st := (rfl)
noncomputable def f__law_draw : Fv := body 4
  (Z.cons (Z.dput (P.var 0) (Ev.pk (E.c (.str "turn"))) (E.bin addW (Ev.pk (E.dix (P.var 0) (Ev.pk (E.c (.str "turn"))))) (Ev.pk (E.c (.int 1)))))
  (Z.cons (Z.set 2 (E.bin addW (Ev.pk (E.dix (P.var 0) (Ev.pk (E.c (.str "mixed"))))) (Ev.pk (E.bin mulS (Ev.pk (E.bin mulS (Ev.pk (E.c (.int 61719))) (Ev.pk (E.dix (P.var 0) (Ev.pk (E.c (.str "turn"))))))) (Ev.pk (E.dix (P.var 0) (Ev.pk (E.c (.str "turn")))))))))
  (Z.cons z__law_draw_0
  (Z.cons (Z.set 2 (E.bin modW (Ev.pk (E.call (one int1W) (Hs.cons (Ev.pk (E.bin addW (Ev.pk (E.bin mulS (Ev.pk (E.bin modW (P.var 2) (Ev.pk (E.c (.int 2147483549))))) (Ev.pk (E.c (.int 40692))))) (Ev.pk (E.dix (P.var 0) (Ev.pk (E.c (.str "turn"))))))) Hs.nil))) (Ev.pk (E.c (.int 2147483647)))))
  (Z.cons (Z.set 2 (E.bin modW (Ev.pk (E.call (one int1W) (Hs.cons (Ev.pk (E.bin addW (Ev.pk (E.bin addW (Ev.pk (E.bin mulS (P.var 2) (P.var 2))) (Ev.pk (E.bin mulS (Ev.pk (E.c (.int 69621))) (Ev.pk (E.dix (P.var 0) (Ev.pk (E.c (.str "turn"))))))))) (Ev.pk (E.c (.int 89))))) Hs.nil))) (Ev.pk (E.c (.int 2147483579)))))
  (Z.ret (E.bin modW (Ev.pk (E.bin fdivW (Ev.pk (E.bin modW (Ev.pk (E.call (one int1W) (Hs.cons (Ev.pk (E.bin mulS (P.var 2) (Ev.pk (E.c (.int 39373))))) Hs.nil))) (Ev.pk (E.c (.int 2147483629))))) (Ev.pk (E.c (.int 64))))) (P.var 1))))))))
/-- _law_pick -/
noncomputable def f__law_pick : Fv := body 2
  (Z.ret (E.bin ixW (P.var 1) (Ev.pk (E.fn f__law_draw (A.cons (E.var 0) (A.cons (E.call (one lenW) (Hs.cons (P.var 1) Hs.nil)) A.nil))))))
/-- _law_made -/
noncomputable def i__law_made_0 : Ev :=
  (E.ite (T.val (E.bin eqW (Ev.pk (E.bin ixW (Ev.pk (E.bin ixW (P.var 1) (P.var 3))) (Ev.pk (E.c (.int 0))))) (Ev.pk (E.c (.str "stops"))))) (E.bin addW (Ev.pk (E.slice (P.var 2) O.no (O.at (E.bin subW (Ev.pk (E.call (one lenW) (Hs.cons (P.var 2) Hs.nil))) (P.var 4))))) (Ev.pk (E.bin ixW (Ev.pk (E.bin ixW (P.var 1) (P.var 3))) (Ev.pk (E.c (.int 1)))))) (E.c .non))
theorem x_i__law_made_0 {en : En} {st : Sto} : i__law_made_0 en st = (E.ite (T.val (E.bin eqW (Ev.pk (E.bin ixW (Ev.pk (E.bin ixW (P.var 1) (P.var 3))) (Ev.pk (E.c (.int 0))))) (Ev.pk (E.c (.str "stops"))))) (E.bin addW (Ev.pk (E.slice (P.var 2) O.no (O.at (E.bin subW (Ev.pk (E.call (one lenW) (Hs.cons (P.var 2) Hs.nil))) (P.var 4))))) (Ev.pk (E.bin ixW (Ev.pk (E.bin ixW (P.var 1) (P.var 3))) (Ev.pk (E.c (.int 1)))))) (E.c .non)) en st := (rfl)
noncomputable def u__law_made_0 : Tv :=
  (T.and (T.val (E.bin eqW (Ev.pk (E.bin ixW (Ev.pk (E.bin ixW (P.var 1) (P.var 3))) (Ev.pk (E.c (.int 0))))) (Ev.pk (E.c (.str "reads"))))) (T.val (E.bin ltW (P.var 4) (Ev.pk (E.call (one lenW) (Hs.cons (P.var 2) Hs.nil))))))
theorem x_u__law_made_0 {en : En} {st : Sto} : u__law_made_0 en st = (T.and (T.val (E.bin eqW (Ev.pk (E.bin ixW (Ev.pk (E.bin ixW (P.var 1) (P.var 3))) (Ev.pk (E.c (.int 0))))) (Ev.pk (E.c (.str "reads"))))) (T.val (E.bin ltW (P.var 4) (Ev.pk (E.call (one lenW) (Hs.cons (P.var 2) Hs.nil)))))) en st := (rfl)
noncomputable def b__law_made_0 : Sv :=
  (Z.par 3 4 (E.bin ixW (Ev.pk (E.bin ixW (P.var 1) (P.var 3))) (Ev.pk (E.bin addW (Ev.pk (E.c (.int 2))) (Ev.pk (E.ms indexW (P.var 0) (Hs.cons (Ev.pk (E.bin ixW (P.var 2) (Ev.pk (E.bin subW (Ev.pk (E.bin subW (Ev.pk (E.call (one lenW) (Hs.cons (P.var 2) Hs.nil))) (Ev.pk (E.c (.int 1))))) (P.var 4))))) Hs.nil)))))) (E.bin addW (P.var 4) (Ev.pk (E.c (.int 1)))))
theorem x_b__law_made_0 {en : En} {st : Sto} : b__law_made_0 en st = (Z.par 3 4 (E.bin ixW (Ev.pk (E.bin ixW (P.var 1) (P.var 3))) (Ev.pk (E.bin addW (Ev.pk (E.c (.int 2))) (Ev.pk (E.ms indexW (P.var 0) (Hs.cons (Ev.pk (E.bin ixW (P.var 2) (Ev.pk (E.bin subW (Ev.pk (E.bin subW (Ev.pk (E.call (one lenW) (Hs.cons (P.var 2) Hs.nil))) (Ev.pk (E.c (.int 1))))) (P.var 4))))) Hs.nil)))))) (E.bin addW (P.var 4) (Ev.pk (E.c (.int 1))))) en st := (rfl)
noncomputable def f__law_made : Fv := body 5
  (Z.cons (Z.asg (Bd.tup (Bd.cons (Bd.name 3) (Bd.cons (Bd.name 4) Bd.nil))) (E.tup (A.cons (E.c (.int 0)) (A.cons (E.c (.int 0)) A.nil))))
  (Z.cons (Z.while u__law_made_0 b__law_made_0)
  (Z.cons (Z.ite (T.val (E.bin eqW (Ev.pk (E.bin ixW (Ev.pk (E.bin ixW (P.var 1) (P.var 3))) (Ev.pk (E.c (.int 0))))) (Ev.pk (E.c (.str "reads"))))) (Z.ret (E.tup (A.cons (E.bin ixW (Ev.pk (E.bin ixW (P.var 1) (P.var 3))) (Ev.pk (E.c (.int 1)))) (A.cons (E.var 4) A.nil)))) Z.nil)
  (Z.ret (E.tup (A.cons i__law_made_0 (A.cons (E.var 4) A.nil)))))))
/-- _law_word -/
noncomputable def e__law_word_0 : Ev :=
  (E.fn f__law_pick (A.cons (E.var 0) (A.cons (E.var 1) A.nil)))
theorem x_e__law_word_0 {en : En} {st : Sto} : e__law_word_0 en st = (E.fn f__law_pick (A.cons (E.var 0) (A.cons (E.var 1) A.nil))) en st := (rfl)
noncomputable def f__law_word : Fv := body 4
  (Z.ret (E.ms joinW (Ev.pk (E.c (.str ""))) (Hs.cons (Ev.pk (E.lc (I.range (Hs.cons (Ev.pk (E.fn f__law_draw (A.cons (E.var 0) (A.cons (E.bin addW (P.var 2) (Ev.pk (E.c (.int 1)))) A.nil)))) Hs.nil)) [3] (Bd.name 3) T.yes e__law_word_0)) Hs.nil)))
/-- _law_web_right -/
noncomputable def e__law_web_right_0 : Ev :=
  (E.fn f__law_heard (A.cons (E.var 7) (A.cons (E.var 3) (A.cons (E.var 4) A.nil))))
theorem x_e__law_web_right_0 {en : En} {st : Sto} : e__law_web_right_0 en st = (E.fn f__law_heard (A.cons (E.var 7) (A.cons (E.var 3) (A.cons (E.var 4) A.nil)))) en st := (rfl)
noncomputable def f__law_web_right : Fv := body 11
  (Z.cons (Z.asg (Bd.tup (Bd.cons (Bd.name 5) (Bd.cons (Bd.name 6) Bd.nil))) (E.fn f__law_made (A.cons (E.var 1) (A.cons (E.var 2) (A.cons (E.var 4) A.nil)))))
  (Z.cons (Z.ite (T.val (E.bin neW (Ev.pk (E.lc (I.range (Hs.cons (Ev.pk (E.c (.int 4))) Hs.nil)) [7] (Bd.name 7) T.yes e__law_web_right_0)) (Ev.pk (E.bin addW (Ev.pk (E.bin mulS (Ev.pk (E.lst (A.cons (E.call (one reprW) (Hs.cons (P.var 5) Hs.nil)) A.nil))) (Ev.pk (E.c (.int 2))))) (Ev.pk (E.bin mulS (Ev.pk (E.lst (A.cons (E.call (one reprW) (Hs.cons (P.var 6) Hs.nil)) A.nil))) (Ev.pk (E.c (.int 2))))))))) (Z.ret (E.c (.bl false))) Z.nil)
  (Z.cons (Z.par3 8 9 10 (E.fn f__law_word (A.cons (E.var 0) (A.cons (E.var 1) (A.cons (E.c (.int 3)) A.nil)))) (E.slice (P.var 4) (O.at (E.bin subW (Ev.pk (E.call (one lenW) (Hs.cons (P.var 4) Hs.nil))) (P.var 6))) O.no) (E.slice (P.var 4) O.no (O.at (E.bin subW (Ev.pk (E.call (one lenW) (Hs.cons (P.var 4) Hs.nil))) (P.var 6)))))
  (Z.cons (Z.ite (T.val (E.bin neW (Ev.pk (E.call (one reprW) (Hs.cons (Ev.pk (E.lst (A.cons (E.meth "Reader" "made" 2 f_Reader_made (P.var 3) (A.cons (E.bin addW (P.var 8) (P.var 9)) A.nil)) (A.cons (E.meth "Reader" "read_of" 2 f_Reader_read_of (P.var 3) (A.cons (E.bin addW (P.var 8) (P.var 9)) A.nil)) A.nil)))) Hs.nil))) (Ev.pk (E.call (one reprW) (Hs.cons (Ev.pk (E.call (one fun w => (seqW w).map .lst) (Hs.cons (Ev.pk (E.fn f__law_made (A.cons (E.var 1) (A.cons (E.var 2) (A.cons (E.bin addW (P.var 8) (P.var 9)) A.nil))))) Hs.nil))) Hs.nil))))) (Z.ret (E.c (.bl false))) Z.nil)
  (Z.ret (E.or (E.bin eqW (P.var 10) (Ev.pk (E.c (.str "")))) (E.or (E.bin isnW (P.var 5) (Ev.pk (E.c .non))) (E.bin eqW (Ev.pk (E.meth "Reader" "made" 2 f_Reader_made (P.var 3) (A.cons (E.bin addW (P.var 8) (P.var 9)) A.nil))) (Ev.pk (E.bin addW (P.var 8) (Ev.pk (E.slice (P.var 5) (O.at (E.call (one lenW) (Hs.cons (P.var 10) Hs.nil))) O.no))))))))))))
/-- _law_nodes -/
noncomputable def i__law_nodes_0 : Ev :=
  (E.ite (T.val (E.bin eqW (P.var 6) (Ev.pk (E.c (.int 0))))) (E.tup (A.cons (E.c (.str "none")) A.nil)) (E.tup (A.cons (E.c (.str "stops")) (A.cons (E.fn f__law_word (A.cons (E.var 0) (A.cons (E.var 1) (A.cons (E.c (.int 3)) A.nil)))) A.nil))))
theorem x_i__law_nodes_0 {en : En} {st : Sto} : i__law_nodes_0 en st = (E.ite (T.val (E.bin eqW (P.var 6) (Ev.pk (E.c (.int 0))))) (E.tup (A.cons (E.c (.str "none")) A.nil)) (E.tup (A.cons (E.c (.str "stops")) (A.cons (E.fn f__law_word (A.cons (E.var 0) (A.cons (E.var 1) (A.cons (E.c (.int 3)) A.nil)))) A.nil)))) en st := (rfl)
noncomputable def e__law_nodes_0 : Ev :=
  (E.fn f__law_draw (A.cons (E.var 0) (A.cons (E.var 3) A.nil)))
theorem x_e__law_nodes_0 {en : En} {st : Sto} : e__law_nodes_0 en st = (E.fn f__law_draw (A.cons (E.var 0) (A.cons (E.var 3) A.nil))) en st := (rfl)
noncomputable def b__law_nodes_0 : Sv :=
  (Z.cons (Z.set 6 (E.fn f__law_draw (A.cons (E.var 0) (A.cons (E.c (.int 7)) A.nil))))
  (Z.ite (T.or (T.val (E.bin eqW (P.var 6) (Ev.pk (E.c (.int 0))))) (T.and (T.val (E.bin gtW (P.var 6) (Ev.pk (E.c (.int 1))))) (T.and (T.val (E.bin ltW (P.var 6) (Ev.pk (E.c (.int 4))))) (T.val (E.bin gtW (P.var 5) (Ev.pk (E.c (.int 0)))))))) (Z.app (P.var 4) i__law_nodes_0) (Z.cons (Z.set 7 (E.fn f__law_pick (A.cons (E.var 0) (A.cons (E.lst (A.cons (E.c .non) (A.cons (E.c (.str "")) (A.cons (E.fn f__law_word (A.cons (E.var 0) (A.cons (E.var 1) (A.cons (E.c (.int 3)) A.nil)))) A.nil)))) A.nil))))
  (Z.app (P.var 4) (E.bin addW (Ev.pk (E.tup (A.cons (E.c (.str "reads")) (A.cons (E.var 7) A.nil)))) (Ev.pk (E.call (one tupleW) (Hs.cons (Ev.pk (E.lc (I.of (E.var 1)) [8] (Bd.name 8) T.yes e__law_nodes_0)) Hs.nil))))))))
theorem x_b__law_nodes_0 {en : En} {st : Sto} : b__law_nodes_0 en st = (Z.cons (Z.set 6 (E.fn f__law_draw (A.cons (E.var 0) (A.cons (E.c (.int 7)) A.nil))))
  (Z.ite (T.or (T.val (E.bin eqW (P.var 6) (Ev.pk (E.c (.int 0))))) (T.and (T.val (E.bin gtW (P.var 6) (Ev.pk (E.c (.int 1))))) (T.and (T.val (E.bin ltW (P.var 6) (Ev.pk (E.c (.int 4))))) (T.val (E.bin gtW (P.var 5) (Ev.pk (E.c (.int 0)))))))) (Z.app (P.var 4) i__law_nodes_0) (Z.cons (Z.set 7 (E.fn f__law_pick (A.cons (E.var 0) (A.cons (E.lst (A.cons (E.c .non) (A.cons (E.c (.str "")) (A.cons (E.fn f__law_word (A.cons (E.var 0) (A.cons (E.var 1) (A.cons (E.c (.int 3)) A.nil)))) A.nil)))) A.nil))))
  (Z.app (P.var 4) (E.bin addW (Ev.pk (E.tup (A.cons (E.c (.str "reads")) (A.cons (E.var 7) A.nil)))) (Ev.pk (E.call (one tupleW) (Hs.cons (Ev.pk (E.lc (I.of (E.var 1)) [8] (Bd.name 8) T.yes e__law_nodes_0)) Hs.nil)))))))) en st := (rfl)
noncomputable def f__law_nodes : Fv := bodyT 9
  (Z.cons (Z.asg (Bd.tup (Bd.cons (Bd.name 3) (Bd.cons (Bd.name 4) Bd.nil))) (E.tup (A.cons (E.bin addW (Ev.pk (E.c (.int 1))) (Ev.pk (E.fn f__law_draw (A.cons (E.var 0) (A.cons (E.var 2) A.nil))))) (A.cons (E.loc (E.lst A.nil)) A.nil))))
  (Z.cons (Z.for (I.range (Hs.cons (P.var 3) Hs.nil)) (Bd.name 5) b__law_nodes_0)
  (Z.ret (E.call (one tupleW) (Hs.cons (P.var 4) Hs.nil)))))
/-- _law_deck -/
noncomputable def b__law_deck_0 : Sv :=
  (Z.set 2 (E.bin modW (Ev.pk (E.call (one int1W) (Hs.cons (Ev.pk (E.bin addW (Ev.pk (E.bin addW (Ev.pk (E.bin mulS (P.var 2) (Ev.pk (E.c (.int 48271))))) (Ev.pk (E.bin modW (Ev.pk (E.call (one int1W) (Hs.cons (P.var 3) Hs.nil))) (Ev.pk (E.c (.int 2147483587))))))) (Ev.pk (E.c (.int 89))))) Hs.nil))) (Ev.pk (E.c (.int 2147483629)))))
theorem x_b__law_deck_0 {en : En} {st : Sto} : b__law_deck_0 en st = (Z.set 2 (E.bin modW (Ev.pk (E.call (one int1W) (Hs.cons (Ev.pk (E.bin addW (Ev.pk (E.bin addW (Ev.pk (E.bin mulS (P.var 2) (Ev.pk (E.c (.int 48271))))) (Ev.pk (E.bin modW (Ev.pk (E.call (one int1W) (Hs.cons (P.var 3) Hs.nil))) (Ev.pk (E.c (.int 2147483587))))))) (Ev.pk (E.c (.int 89))))) Hs.nil))) (Ev.pk (E.c (.int 2147483629))))) en st := (rfl)
noncomputable def f__law_deck : Fv := body 4
  (Z.cons (Z.par 1 2 (E.call (one fun w => (seqW w).map .lst) (Hs.cons (Ev.pk (E.slice (P.var 0) O.no (O.at (E.c (.int 63))))) Hs.nil)) (E.c (.int 1087108)))
  (Z.cons (Z.for (I.of (E.var 1)) (Bd.name 3) b__law_deck_0)
  (Z.ret (E.loc (E.dict (Q.cons (E.c (.str "cells")) (E.loc (E.un revW (P.var 1))) (Q.cons (E.c (.str "mixed")) (E.var 2) (Q.cons (E.c (.str "turn")) (E.c (.int 0)) Q.nil))))))))
/-- law -/
noncomputable def e_law_0 : Ev :=
  (E.fn f__law_heard (A.cons (E.var 9) (A.cons (E.var 5) (A.cons (E.var 7) A.nil))))
theorem x_e_law_0 {en : En} {st : Sto} : e_law_0 en st = (E.fn f__law_heard (A.cons (E.var 9) (A.cons (E.var 5) (A.cons (E.var 7) A.nil)))) en st := (rfl)
noncomputable def b_law_0 : Sv :=
  (Z.ite (T.not (T.val (E.fn f__law_web_right (A.cons (E.var 1) (A.cons (E.var 3) (A.cons (E.var 4) (A.cons (E.var 5) (A.cons (E.fn f__law_word (A.cons (E.var 1) (A.cons (E.var 3) (A.cons (E.c (.int 8)) A.nil)))) A.nil)))))))) (Z.ret (E.c (.bl false))) Z.nil)
theorem x_b_law_0 {en : En} {st : Sto} : b_law_0 en st = (Z.ite (T.not (T.val (E.fn f__law_web_right (A.cons (E.var 1) (A.cons (E.var 3) (A.cons (E.var 4) (A.cons (E.var 5) (A.cons (E.fn f__law_word (A.cons (E.var 1) (A.cons (E.var 3) (A.cons (E.c (.int 8)) A.nil)))) A.nil)))))))) (Z.ret (E.c (.bl false))) Z.nil) en st := (rfl)
noncomputable def b_law_1 : Sv :=
  (Z.cons (Z.set 3 (E.fn f__law_pick (A.cons (E.var 1) (A.cons (E.lst (A.cons (E.c (.str "ab")) (A.cons (E.c (.str "ab")) (A.cons (E.c (.str "am")) (A.cons (E.c (.str "abx")) A.nil))))) A.nil))))
  (Z.cons (Z.set 4 (E.fn f__law_nodes (A.cons (E.var 1) (A.cons (E.var 3) (A.cons (E.c (.int 6)) A.nil)))))
  (Z.cons (Z.set 5 (E.make "Reader" f_Reader_init (A.cons (E.var 3) (A.cons (E.var 4) A.nil))))
  (Z.cons (Z.for (I.range (Hs.cons (Ev.pk (E.c (.int 8))) Hs.nil)) (Bd.name 6) b_law_0)
  (Z.cons (Z.set 7 (E.fn f__law_pick (A.cons (E.var 1) (A.cons (E.lst (A.cons (E.c .non) (A.cons (E.c (.int 0)) (A.cons (E.c (.bl true)) (A.cons (E.c (.str "A")) (A.cons (E.c (.str "aq")) (A.cons (E.tup (A.cons (E.c (.str "a")) A.nil)) (A.cons (E.lst (A.cons (E.c (.str "a")) A.nil)) (A.cons (E.c (.dct false [])) (A.cons (E.c (.str "-")) (A.cons (E.c (.str "a ")) (A.cons (E.bin powW (Ev.pk (E.c (.int 10))) (Ev.pk (E.c (.int 39)))) (A.cons (E.c (.str "a\n")) A.nil))))))))))))) A.nil))))
  (Z.cons (Z.set 8 (E.call (one reprW) (Hs.cons (Ev.pk (E.lst (A.cons (E.c (.str "bad")) (A.cons (E.var 7) (A.cons (E.c (.bl true)) A.nil))))) Hs.nil)))
  (Z.ite (T.or (T.val (E.bin neW (Ev.pk (E.lc (I.range (Hs.cons (Ev.pk (E.c (.int 4))) Hs.nil)) [9] (Bd.name 9) T.yes e_law_0)) (Ev.pk (E.bin mulS (Ev.pk (E.lst (A.cons (E.var 8) A.nil))) (Ev.pk (E.c (.int 4))))))) (T.val (E.bin neW (Ev.pk (E.call (one reprW) (Hs.cons (Ev.pk (E.un (attrW ["Reader"] "nodes") (P.var 5))) Hs.nil))) (Ev.pk (E.call (one reprW) (Hs.cons (P.var 4) Hs.nil)))))) (Z.ret (E.c (.bl false))) Z.nil)))))))
theorem x_b_law_1 {en : En} {st : Sto} : b_law_1 en st = (Z.cons (Z.set 3 (E.fn f__law_pick (A.cons (E.var 1) (A.cons (E.lst (A.cons (E.c (.str "ab")) (A.cons (E.c (.str "ab")) (A.cons (E.c (.str "am")) (A.cons (E.c (.str "abx")) A.nil))))) A.nil))))
  (Z.cons (Z.set 4 (E.fn f__law_nodes (A.cons (E.var 1) (A.cons (E.var 3) (A.cons (E.c (.int 6)) A.nil)))))
  (Z.cons (Z.set 5 (E.make "Reader" f_Reader_init (A.cons (E.var 3) (A.cons (E.var 4) A.nil))))
  (Z.cons (Z.for (I.range (Hs.cons (Ev.pk (E.c (.int 8))) Hs.nil)) (Bd.name 6) b_law_0)
  (Z.cons (Z.set 7 (E.fn f__law_pick (A.cons (E.var 1) (A.cons (E.lst (A.cons (E.c .non) (A.cons (E.c (.int 0)) (A.cons (E.c (.bl true)) (A.cons (E.c (.str "A")) (A.cons (E.c (.str "aq")) (A.cons (E.tup (A.cons (E.c (.str "a")) A.nil)) (A.cons (E.lst (A.cons (E.c (.str "a")) A.nil)) (A.cons (E.c (.dct false [])) (A.cons (E.c (.str "-")) (A.cons (E.c (.str "a ")) (A.cons (E.bin powW (Ev.pk (E.c (.int 10))) (Ev.pk (E.c (.int 39)))) (A.cons (E.c (.str "a\n")) A.nil))))))))))))) A.nil))))
  (Z.cons (Z.set 8 (E.call (one reprW) (Hs.cons (Ev.pk (E.lst (A.cons (E.c (.str "bad")) (A.cons (E.var 7) (A.cons (E.c (.bl true)) A.nil))))) Hs.nil)))
  (Z.ite (T.or (T.val (E.bin neW (Ev.pk (E.lc (I.range (Hs.cons (Ev.pk (E.c (.int 4))) Hs.nil)) [9] (Bd.name 9) T.yes e_law_0)) (Ev.pk (E.bin mulS (Ev.pk (E.lst (A.cons (E.var 8) A.nil))) (Ev.pk (E.c (.int 4))))))) (T.val (E.bin neW (Ev.pk (E.call (one reprW) (Hs.cons (Ev.pk (E.un (attrW ["Reader"] "nodes") (P.var 5))) Hs.nil))) (Ev.pk (E.call (one reprW) (Hs.cons (P.var 4) Hs.nil)))))) (Z.ret (E.c (.bl false))) Z.nil))))))) en st := (rfl)
noncomputable def f_law : Fv := body 11
  (Z.cons (Z.set 1 (E.fn f__law_deck (A.cons (E.var 0) A.nil)))
  (Z.cons (Z.for (I.range (Hs.cons (Ev.pk (E.c (.int 4))) Hs.nil)) (Bd.name 2) b_law_1)
  (Z.cons (Z.set 10 (E.make "Reader" f_Reader_init (A.cons (E.c (.str "ab")) (A.cons (E.tup (A.cons (E.tup (A.cons (E.c (.str "reads")) (A.cons (E.c (.str "b")) (A.cons (E.c (.int 1)) (A.cons (E.c (.int 0)) A.nil))))) (A.cons (E.tup (A.cons (E.c (.str "reads")) (A.cons (E.c (.str "a")) (A.cons (E.c (.int 0)) (A.cons (E.c (.int 1)) A.nil))))) A.nil))) A.nil))))
  (Z.ret (E.bin eqW (Ev.pk (E.lst (A.cons (E.meth "Reader" "made" 2 f_Reader_made (P.var 10) (A.cons (E.bin mulS (Ev.pk (E.c (.str "a"))) (Ev.pk (E.c (.int 59)))) A.nil)) (A.cons (E.meth "Reader" "read_of" 2 f_Reader_read_of (P.var 10) (A.cons (E.bin mulS (Ev.pk (E.c (.str "ab"))) (Ev.pk (E.c (.int 30)))) A.nil)) (A.cons (E.meth "Reader" "made" 2 f_Reader_made (P.var 10) (A.cons (E.bin mulS (Ev.pk (E.c (.str "b"))) (Ev.pk (E.c (.int 60)))) A.nil)) A.nil))))) (Ev.pk (E.lst (A.cons (E.c (.str "a")) (A.cons (E.c (.int 60)) (A.cons (E.c (.str "b")) A.nil))))))))))
end Toy
namespace Toy
open PySem L2 MH
local macro_rules
  | `(tactic| wp_walk) => `(tactic| wp_walk using dr_str)
local macro_rules
  | `(tactic| wp_walk using $ts,*) => `(tactic| simp only [$[$ts:term],*, ↓w_methK, sub_aug, ↓w_body, ↓w_bodyT, kept_app, kept_self, take_app, gapp, gapp0, sapp, sapp0, ↓w_star, star_s, star_l, star_t, ↓w_aug, slK_f, goW, augR_s, aug_ii, aug_ss, ↓w_chain, ↓w_lput, lput_last, atm1, popR_l, popL_s, ↓w_keys, keysI, ↓w_lcV, lcVs_l, revS_sl, List.append_assoc, lb, lbL, lbF, lbD, ↓w_bin, ↓w_tup, ↓w_lst, ↓w_eite, ↓w_call, ↓w_fn, ↓w_fnK, ↓w_slice, ↓w_un, ↓w_dix, ↓w_get1, ↓w_get2, ↓w_din, ↓w_dni, ↓w_loc, ↓w_ms, ↓w_pop, ↓w_meth, ↓w_own, ↓w_map, ↓w_dict, ↓w_make, ↓w_makeK, ↓w_lc, ↓w_eand, ↓w_eor, ↓w_enot,
      ↓w_pk, ↓w_acons, ↓w_hcons, ↓w_qcons, ↓w_tval, ↓w_tnot, ↓w_tand, ↓w_tor, ↓w_oat, ↓w_iof, ↓w_irange, ↓w_ienum, ↓w_izip, ↓w_cons, ↓w_ret, ↓w_set, ↓w_zown, ↓w_expr, ↓w_zite, ↓w_app, ↓w_ext, ↓w_dput, ↓w_sattr, ↓w_raise, ↓w_par, ↓w_parO, ↓w_par3, ↓w_asg, ↓w_for, ↓w_fcons, ↓w_fnil, ↓w_lccons, ↓w_lcnil, ↓w_try, ↓w_hnil, ↓w_hncons,
      goE, goX, goN, goS, goY, ↓goP, goB, goL, goI, wE_ok, wE_ex, wE_no, wS_ok, wS_ex, wS_no, iP_t, iP_f, iP_not, nK_nx, nK_rt, nK_bk, nK_ct, fK_nx, fK_rt, lK_nx, lK_ct, lK_bk, lK_rt, bP_some, bP_none, lsK_l, hK_t, hK_f, inK, wE_iteN, wS_iteN, liftIte, liftNone, lift_s, dpR,
      var_f, c_f, pvar_f, anil_f, hnil_f, qnil_f, ono_f, yes_f, xatt, znil_f, zretN_f, zbrk_f, zcont_f, zfrz_f, bname_f, btup_f, bcons_f, bnil_f, wrS_f, wrH_s, wrH_l, one_1, view_f, view_s, dr_str, dr_int, dr_bl, dr_non, dr_lst, dr_scr, dr_tup, dr_stp, dr_dct, dr_ins, dr_cls, dr_ty, dr_loc, isN_str, isN_int, isN_bl, isN_non, isN_lst, isN_tup, isN_dct, isN_ins,
      add_ii, add_ss, add_tt, add_ll, sub_ii, mul_ii, mul_si, mul_li, mod_ii, fdiv_ii, lt_ii, lt_sl, le_ii, le_sl, gt_ii, gt_sl, ge_ii, ge_sl, isn_n, notn_n, len_l, len_c, len_t, len_s, len_d, int1_i, slc_l, slc_c, slc_t, slc_s, rev_l, rev_c, isS_s, isL_l, isD_d, items_sl, it_lst, it_scr, it_tup, it_stp, enumO_1, zipO_2, neg_i, tpl_l, tpl_c, tpl_t, seq_l, seq_c, seq_t, bl_b, int_i, ix_l, ix_c, ix_t, ix_s, eqW_int, neW_int, ins_sl, nis_sl, isi_2, isiS, wk_s, wk_i, Option.some.injEq, Sum.inr.injEq, Sum.inl.injEq, reduceCtorEq, List.foldl_cons, List.foldl_nil, key_i, key_s, get_f, get_t, put_f, put_t, keys1, keys2, keys3,
      sl_len, sl_app, sl_cut, cut_last, cut_init, cut_1, cut_t1, cut_t2, zipW_map, lt_one, List.take_succ_cons, List.take_zero, List.take_nil, List.drop_succ_cons, List.drop_zero, strLt_sl, fit_iff, wipe_n, wipe_c, unO_n, unO_s, own_f, own_n,
      List.map_cons, List.map_nil, List.length_cons, List.length_nil, List.length_map, List.length_append, List.replicate, List.cons_append, List.nil_append, List.append_nil, List.getElem?_cons_zero, List.getElem?_cons_succ, List.getElem?_nil, List.set_cons_zero, List.set_cons_succ, List.getD_cons_zero, List.getD_cons_succ, List.any_cons, List.any_nil, List.all_cons, List.all_nil, List.zip_cons_cons, List.zip_nil_right, List.zip_nil_left, List.reverse_cons, List.reverse_nil,
      Option.map_some, Option.map_none, Option.bind_some, Option.bind_none, Option.bind_fun_some, Option.getD_some, Option.getD_none, Option.isSome_some, Option.isSome_none, Option.all_some, Option.all_none, id, if_true, if_false, ite_true, ite_false, reduceIte, true_and, and_true, Bool.not_true, Bool.not_false, Bool.or_self, Bool.and_self, Bool.or_false, Bool.false_or, Bool.or_true, Bool.true_or, Bool.and_true, Bool.true_and, Bool.and_false, Bool.false_and, decide_true, decide_false, Bool.false_eq_true, decide_eq_true_eq, Bool.not_eq_true', Nat.reduceAdd, Nat.reduceLeDiff, Nat.reduceLT, Nat.reduceSub, Nat.reduceMul, Nat.reduceEqDiff, Int.reduceLE, Int.reduceLT, Int.reduceNeg, Int.reduceEq, Int.reduceAdd, Int.reduceSub, Int.reduceMul, Int.reduceToNat, Nat.reduceBEq, String.reduceEq, decide_not, Nat.zero_add, Int.natCast_zero, Int.natCast_one, Int.cast_ofNat_Int, eqW_nil, neW_nil, okc_nil, kwOrd, List.filterMap_cons, List.filterMap_nil, List.lookup_cons, List.lookup_nil, sqb, ofString_iff, at0, at1, at2, at3])
/-! ### texts, webs, letters -/
def webOk (l s : List Nat) : Bool := s.all fun c => decide (c ∈ l)
theorem blsW_map {α : Type} (f : α → Bool) : ∀ cs : List α, blsW (cs.map fun c => .bl (f c)) = some (cs.map f)
  | [] => rfl
  | c :: cs => by rw [List.map_cons, blsW, blsW_map f cs]; rfl
theorem allW_map {α : Type} (f : α → Bool) (cs : List α) : allW (.lst (cs.map fun c => .bl (f c))) = some (.bl (cs.all f)) := by
  show Option.map (fun bs => W.bl (bs.all id)) (blsW _) = _
  rw [blsW_map]
  simp [List.all_map, Function.comp_def]
/-- a comprehension over signs, each item a pure value -/
theorem lc_pure {α : Type} {ns : List Nat} {bd : Bd} {m : Ev} {en : En} {st : Sto} {g f : α → W} {cs : List α} (h : ∀ c ∈ cs, ∃ en1, bd (g c) (wipeE en ns) = some en1 ∧ wpQ (m en1 st) (fun w s => w = f c ∧ s = st)) (hl : cs.length ≤ 100000) : lcZ ns bd T.yes m en (cs.map g) [] st = .ok (cs.map f) st := by
  have : ∀ (ds : List α) (acc : List W), (∀ c ∈ ds, c ∈ cs) → acc.length + ds.length ≤ 100000 → lcZ ns bd T.yes m en (ds.map g) acc st = .ok (acc ++ ds.map f) st := by
    intro ds
    induction ds with
    | nil => intro acc _ _; rw [List.map_nil, List.map_nil, List.append_nil]; rfl
    | cons d ds ih =>
      intro acc hm hn
      obtain ⟨en1, e1, e2⟩ := h d (hm d List.mem_cons_self)
      rw [List.length_cons] at hn
      rw [List.map_cons, lcZ_cons e1 rfl (ok_of e2) (by omega), ih _ (fun c hc => hm c (List.mem_cons_of_mem _ hc)) (by simp; omega), List.map_cons, List.append_assoc, List.singleton_append]
  simpa using this cs [] (fun _ h => h) (by simpa using hl)
theorem is_web_str {l s : List Nat} {st : Sto} (hl : s.length ≤ 100000) : f_is_web [.str (sl l), .str (sl s)] st = .ok (.bl (webOk l s)) st := by
  refine ok_of ?_
  have lc : lcZ [2] (Bd.name 2) T.yes e_is_web_0 [some (false, .str (sl l)), some (false, .str (sl s)), none] (s.map one1) [] st = .ok (s.map fun c => .bl (decide (c ∈ l))) st := by
    refine lc_pure (fun c _ => ⟨_, rfl, ?_⟩) hl
    unfold e_is_web_0
    wp_walk
  unfold f_is_web
  wp_walk using lc, allW_map, webOk
theorem is_web_no {l : Str} {w : W} {st : Sto} (h : isiW IL (deref st w) (.ty "str") = some false) : f_is_web [.str l, w] st = .ok (.bl false) st := by
  refine ok_of ?_
  unfold f_is_web
  wp_walk using h
def abc : List Nat := (List.range 26).map (· + 97)
theorem abc_lit : Str.ofString "abcdefghijklmnopqrstuvwxyz" = sl abc := by rw [ofS]; rfl
theorem nil_lit : Str.ofString "" = sl [] := by rw [ofS]; rfl
def lettersOk (s : List Nat) : Bool := !decide (s = []) && (s.all (fun c => decide (c ∈ abc)) && (s.zip (s.drop 1)).all fun p => decide (p.1 < p.2))
theorem is_letters_str {s : List Nat} {st : Sto} (hl : s.length ≤ 1000) (ho : okc s = true) : f_is_letters [.str (sl s)] st = .ok (.bl (lettersOk s)) st := by
  refine ok_of ?_
  have lc1 : lcZ [1] (Bd.name 1) T.yes e_is_letters_1 [some (false, .str (sl s)), none, none, none] (s.map one1) [] st = .ok (s.map fun c => .bl (decide (c ∈ abc))) st := by
    refine lc_pure (fun c _ => ⟨_, rfl, ?_⟩) (by omega)
    unfold e_is_letters_1
    wp_walk using abc_lit
  have lc0 : lcZ [2, 3] (Bd.tup (Bd.cons (Bd.name 2) (Bd.cons (Bd.name 3) Bd.nil))) T.yes e_is_letters_0 [some (false, .str (sl s)), none, none, none] ((s.zip (s.drop 1)).map fun p => .tup [one1 p.1, one1 p.2]) [] st = .ok ((s.zip (s.drop 1)).map fun p => .bl (decide (p.1 < p.2))) st := by
    refine lc_pure (fun c _ => ⟨_, rfl, ?_⟩) (by rw [List.length_zip]; omega)
    unfold e_is_letters_0
    wp_walk
  have hl2 : s.length ≤ 100000 := by omega
  unfold f_is_letters lettersOk
  by_cases h : s = []
  · subst h
    wp_walk using nil_lit
  · by_cases h2 : (s.all fun c => decide (c ∈ abc)) = true
    · wp_walk using nil_lit, ho, h, lc1, lc0, allW_map, h2, hl2
    · have h2 := eq_false_of_ne_true h2
      wp_walk using nil_lit, ho, h, lc1, lc0, allW_map, h2, hl2
structure Lt (L : List Nat) : Prop where
  asc : L.Pairwise (· < ·)
  ne : L ≠ []
  az : ∀ c ∈ L, 97 ≤ c ∧ c ≤ 122
theorem Lt.okc {L : List Nat} (h : Lt L) : okc L = true := okc_iff.mpr fun c hc => by have := (h.az c hc).2; omega
theorem Lt.letters {L : List Nat} (h : Lt L) : lettersOk L = true := by
  unfold lettersOk
  have e1 : (L.all fun c => decide (c ∈ abc)) = true := by
    rw [List.all_eq_true]
    intro c hc
    have := h.az c hc
    simp only [abc, decide_eq_true_eq, List.mem_map, List.mem_range]
    exact ⟨c - 97, by omega, by omega⟩
  have e2 : ((L.zip (L.drop 1)).all fun p => decide (p.1 < p.2)) = true := by
    have := h.asc
    generalize L = l at this
    clear e1
    induction l with
    | nil => rfl
    | cons a l ih =>
      cases l with
      | nil => rfl
      | cons b l =>
        rw [List.pairwise_cons] at this
        have ih := ih this.2
        simp only [List.drop_succ_cons, List.drop_zero, List.zip_cons_cons, List.all_cons] at ih ⊢
        rw [ih, decide_eq_true (this.1 b List.mem_cons_self)]
        rfl
  rw [e1, e2, decide_eq_false h.ne]
  rfl
theorem webOk_mem {L s : List Nat} (h : webOk L s = true) : ∀ c ∈ s, c ∈ L := fun c hc => by simpa using List.all_eq_true.mp h c hc
theorem webOk_of {L s : List Nat} (h : ∀ c ∈ s, c ∈ L) : webOk L s = true := by simpa [webOk] using h
theorem okc_let {L s : List Nat} (hL : Lt L) (hs : webOk L s = true) : okc s = true := okc_sub hL.okc (webOk_mem hs)
abbrev strW (s : List Nat) : W := .str (sl s)
theorem eqW_lit {a b : String} : eqW (.str (Str.ofString a)) (.str (Str.ofString b)) = some (.bl (decide (a = b))) := by
  rw [eqW_str (strOk_of _) (strOk_of _)]
  simp [ofString_iff]
theorem neW_lit {a b : String} : neW (.str (Str.ofString a)) (.str (Str.ofString b)) = some (.bl (!decide (a = b))) := by
  rw [neW_str (strOk_of _) (strOk_of _)]
  simp [ofString_iff]
theorem eqT_nil {w : W} {ws : List W} (h : dk (.tup (w :: ws)) = true) (hd : dpt (.tup (w :: ws)) ≤ 64) : eqW (.tup (w :: ws)) (.tup []) = some (.bl false) := by
  rw [eqW_of h (by simp [dk, dkL]) hd (by simp [dpt, dptL])]
  simp only [dk] at h
  obtain ⟨ds, e, _, _⟩ := toDs_dk h
  cases ds with
  | nil =>
    rw [toDs] at e
    cases e1 : toD w <;> cases e2 : toDs ws <;> simp [e1, e2] at e
  | cons d ds =>
    have e1 : toD (.tup (w :: ws)) = some (.tuple (d :: ds)) := by rw [toD, e]; rfl
    unfold eqvW datD
    rw [e1]
    rfl
/-! ### values that can be shown -/
theorem rkL_iff {ws : List W} : rkL ws = true ↔ ∀ w ∈ ws, rk w = true := by
  induction ws with
  | nil => simp [rkL]
  | cons w ws ih => simp [rkL, ih]
theorem rlL_le {n : Nat} : ∀ {ws : List W}, (∀ w ∈ ws, rl w ≤ n) → rlL ws ≤ (n + 2) * ws.length
  | [], _ => by simp [rlL]
  | w :: ws, h => by
    have h1 := h w List.mem_cons_self
    have h2 := rlL_le (ws := ws) fun w hw => h w (List.mem_cons_of_mem _ hw)
    rw [rlL, List.length_cons, Nat.mul_succ]
    omega
theorem rdL_le {n : Nat} : ∀ {ws : List W}, (∀ w ∈ ws, rd w ≤ n) → rdL ws ≤ n
  | [], _ => by simp [rdL]
  | w :: ws, h => by
    have h1 := h w List.mem_cons_self
    have h2 := rdL_le (ws := ws) fun w hw => h w (List.mem_cons_of_mem _ hw)
    rw [rdL]
    omega
/-- a value that can be shown -/
structure Sh (n m : Nat) (w : W) : Prop where
  k : rk w = true
  l : rl w ≤ n
  d : rd w ≤ m
theorem Sh.tup {n m k : Nat} {ws : List W} (h : ∀ w ∈ ws, Sh n m w) (hl : ws.length ≤ k) : Sh ((n + 2) * k + 3) (m + 1) (.tup ws) := by
  refine ⟨?_, ?_, ?_⟩
  · simp only [rk]; exact rkL_iff.mpr fun w hw => (h w hw).k
  · have h1 := rlL_le fun w hw => (h w hw).l
    have h2 := Nat.mul_le_mul_left (n + 2) hl
    simp only [rl]; omega
  · have := rdL_le fun w hw => (h w hw).d
    simp only [rd]; omega
theorem Sh.mono {n m n' m' : Nat} {w : W} (h : Sh n m w) (hn : n ≤ n') (hm : m ≤ m') : Sh n' m' w := ⟨h.k, Nat.le_trans h.l hn, Nat.le_trans h.d hm⟩
theorem sh_lit {s : String} (h : s.length ≤ 10) : Sh 102 0 (.str s) := ⟨by simp [rk, strOk_of], by simp [rl, str_len]; omega, by simp [rd]⟩
theorem sh_int {i : Nat} (h : i ≤ 5000) : Sh 502 0 (.int i) := ⟨by simp only [rk]; exact decide_eq_true (Nat.lt_of_le_of_lt (show (i : Int).natAbs ≤ 5000 by omega) (by decide)), by simp [rl], by simp [rd]⟩
theorem lc_filter {ns : List Nat} {bd : Bd} {m : Ev} {t : Tv} {en : En} {st : Sto} {α : Type} {g f : α → W} {p : α → Bool} {cs : List α}
    (h : ∀ c ∈ cs, ∃ en1, bd (g c) (wipeE en ns) = some en1 ∧ t en1 st = .ok (p c) st ∧ (p c = true → m en1 st = .ok (f c) st)) (hl : cs.length ≤ 100000) : lcZ ns bd t m en (cs.map g) [] st = .ok ((cs.filter p).map f) st := by
  have : ∀ (ds : List α) (acc : List W), (∀ c ∈ ds, c ∈ cs) → acc.length + ds.length ≤ 100000 → lcZ ns bd t m en (ds.map g) acc st = .ok (acc ++ (ds.filter p).map f) st := by
    intro ds
    induction ds with
    | nil => intro acc _ _; simp [lcZ]
    | cons d ds ih =>
      intro acc hm hn
      obtain ⟨en1, e1, e2, e3⟩ := h d (hm d List.mem_cons_self)
      rw [List.length_cons] at hn
      rw [List.map_cons]
      cases hp : p d with
      | true =>
        rw [lcZ_cons e1 (by rw [e2, hp]) (e3 hp) (by omega), ih _ (fun c hc => hm c (List.mem_cons_of_mem _ hc)) (by simp; omega), List.filter_cons_of_pos hp, List.map_cons, List.append_assoc, List.singleton_append]
      | false =>
        rw [lcZ_skip e1 (by rw [e2, hp]), ih _ (fun c hc => hm c (List.mem_cons_of_mem _ hc)) (by omega), List.filter_cons_of_neg (by rw [hp]; decide)]
  simpa using this cs [] (fun _ h => h) (by simpa using hl)
theorem okT {m : Tv} {en : En} {st : Sto} {b : Bool} (h : wpQ (m en st) (fun c t => c = b ∧ t = st)) : m en st = .ok b st := ok_of h
theorem foldl_app (l : List (Array Nat)) : ∀ acc : Array Nat, (l.foldl (· ++ ·) acc).toList = acc.toList ++ (l.map Array.toList).flatten := by
  induction l with
  | nil => intro acc; simp
  | cons a l ih => intro acc; rw [List.foldl_cons, ih]; simp
theorem mul_sl {a : List Nat} {k : Nat} : Txt.mul (sl a) (k : Int) = sl (List.replicate k a).flatten := by
  unfold Txt.mul
  rcases k with _ | _ | k
  · rw [if_pos (by omega)]; rfl
  · rw [if_neg (by omega), if_pos (by simp)]; simp
  · rw [if_neg (by omega)]
    by_cases h : a = []
    · subst h
      rw [if_pos (by simp [sl_len])]
      simp
    · rw [if_neg (by simp [sl_len, h]; omega)]
      have := foldl_app (List.replicate ((k + 1 + 1 : Nat) : Int).toNat (sl a).cps) #[]
      rw [sl_of ⟨_⟩, this, Int.toNat_natCast]
      simp [List.map_replicate, sl]
end Toy

namespace Toy
open PySem L2 MH
local macro_rules
  | `(tactic| wp_walk) => `(tactic| wp_walk using dr_str)
local macro_rules
  | `(tactic| wp_walk using $ts,*) => `(tactic| simp only [$[$ts:term],*, ↓w_methK, sub_aug, ↓w_body, ↓w_bodyT, kept_app, kept_self, take_app, gapp, gapp0, sapp, sapp0, ↓w_star, star_s, star_l, star_t, ↓w_aug, slK_f, goW, augR_s, aug_ii, aug_ss, ↓w_chain, ↓w_lput, lput_last, atm1, popR_l, popL_s, ↓w_keys, keysI, ↓w_lcV, lcVs_l, revS_sl, List.append_assoc, lb, lbL, lbF, lbD, ↓w_bin, ↓w_tup, ↓w_lst, ↓w_eite, ↓w_call, ↓w_fn, ↓w_fnK, ↓w_slice, ↓w_un, ↓w_dix, ↓w_get1, ↓w_get2, ↓w_din, ↓w_dni, ↓w_loc, ↓w_ms, ↓w_pop, ↓w_meth, ↓w_own, ↓w_map, ↓w_dict, ↓w_make, ↓w_makeK, ↓w_lc, ↓w_eand, ↓w_eor, ↓w_enot,
      ↓w_pk, ↓w_acons, ↓w_hcons, ↓w_qcons, ↓w_tval, ↓w_tnot, ↓w_tand, ↓w_tor, ↓w_oat, ↓w_iof, ↓w_irange, ↓w_ienum, ↓w_izip, ↓w_cons, ↓w_ret, ↓w_set, ↓w_zown, ↓w_expr, ↓w_zite, ↓w_app, ↓w_ext, ↓w_dput, ↓w_sattr, ↓w_raise, ↓w_par, ↓w_parO, ↓w_par3, ↓w_asg, ↓w_for, ↓w_fcons, ↓w_fnil, ↓w_lccons, ↓w_lcnil, ↓w_try, ↓w_hnil, ↓w_hncons,
      goE, goX, goN, goS, goY, ↓goP, goB, goL, goI, wE_ok, wE_ex, wE_no, wS_ok, wS_ex, wS_no, iP_t, iP_f, iP_not, nK_nx, nK_rt, nK_bk, nK_ct, fK_nx, fK_rt, lK_nx, lK_ct, lK_bk, lK_rt, bP_some, bP_none, lsK_l, hK_t, hK_f, inK, wE_iteN, wS_iteN, liftIte, liftNone, lift_s, dpR,
      var_f, c_f, pvar_f, anil_f, hnil_f, qnil_f, ono_f, yes_f, xatt, znil_f, zretN_f, zbrk_f, zcont_f, zfrz_f, bname_f, btup_f, bcons_f, bnil_f, wrS_f, wrH_s, wrH_l, one_1, view_f, view_s, dr_str, dr_int, dr_bl, dr_non, dr_lst, dr_scr, dr_tup, dr_stp, dr_dct, dr_ins, dr_cls, dr_ty, dr_loc, isN_str, isN_int, isN_bl, isN_non, isN_lst, isN_tup, isN_dct, isN_ins,
      add_ii, add_ss, add_tt, add_ll, sub_ii, mul_ii, mul_si, mul_li, mod_ii, fdiv_ii, lt_ii, lt_sl, le_ii, le_sl, gt_ii, gt_sl, ge_ii, ge_sl, isn_n, notn_n, len_l, len_c, len_t, len_s, len_d, int1_i, slc_l, slc_c, slc_t, slc_s, rev_l, rev_c, isS_s, isL_l, isD_d, items_sl, it_lst, it_scr, it_tup, it_stp, enumO_1, zipO_2, neg_i, tpl_l, tpl_c, tpl_t, seq_l, seq_c, seq_t, bl_b, int_i, ix_l, ix_c, ix_t, ix_s, eqW_int, neW_int, ins_sl, nis_sl, isi_2, isiS, wk_s, wk_i, Option.some.injEq, Sum.inr.injEq, Sum.inl.injEq, reduceCtorEq, List.foldl_cons, List.foldl_nil, key_i, key_s, get_f, get_t, put_f, put_t, keys1, keys2, keys3,
      sl_len, sl_app, sl_cut, cut_last, cut_init, cut_1, cut_t1, cut_t2, zipW_map, lt_one, List.take_succ_cons, List.take_zero, List.take_nil, List.drop_succ_cons, List.drop_zero, strLt_sl, fit_iff, wipe_n, wipe_c, unO_n, unO_s, own_f, own_n,
      List.map_cons, List.map_nil, List.length_cons, List.length_nil, List.length_map, List.length_append, List.replicate, List.cons_append, List.nil_append, List.append_nil, List.getElem?_cons_zero, List.getElem?_cons_succ, List.getElem?_nil, List.set_cons_zero, List.set_cons_succ, List.getD_cons_zero, List.getD_cons_succ, List.any_cons, List.any_nil, List.all_cons, List.all_nil, List.zip_cons_cons, List.zip_nil_right, List.zip_nil_left, List.reverse_cons, List.reverse_nil,
      Option.map_some, Option.map_none, Option.bind_some, Option.bind_none, Option.bind_fun_some, Option.getD_some, Option.getD_none, Option.isSome_some, Option.isSome_none, Option.all_some, Option.all_none, id, if_true, if_false, ite_true, ite_false, reduceIte, true_and, and_true, Bool.not_true, Bool.not_false, Bool.or_self, Bool.and_self, Bool.or_false, Bool.false_or, Bool.or_true, Bool.true_or, Bool.and_true, Bool.true_and, Bool.and_false, Bool.false_and, decide_true, decide_false, Bool.false_eq_true, decide_eq_true_eq, Bool.not_eq_true', Nat.reduceAdd, Nat.reduceLeDiff, Nat.reduceLT, Nat.reduceSub, Nat.reduceMul, Nat.reduceEqDiff, Int.reduceLE, Int.reduceLT, Int.reduceNeg, Int.reduceEq, Int.reduceAdd, Int.reduceSub, Int.reduceMul, Int.reduceToNat, Nat.reduceBEq, String.reduceEq, decide_not, Nat.zero_add, Int.natCast_zero, Int.natCast_one, Int.cast_ofNat_Int, eqW_nil, neW_nil, okc_nil, kwOrd, List.filterMap_cons, List.filterMap_nil, List.lookup_cons, List.lookup_nil, sqb, ofString_iff, at0, at1, at2, at3])
/-! ### the deck -/
structure Dk where
  cells : List Int
  mixed : Int
  turn : Int
def dkW (m t : Int) : W := .dct false [(.str "cells", .loc 0), (.str "mixed", .int m), (.str "turn", .int t)]
def Dk.st (d : Dk) (J : Sto) : Sto := .lst (d.cells.map .int) :: dkW d.mixed d.turn :: J
def Dok (J : Sto) (T : Int) (st : Sto) : Prop := ∃ d : Dk, st = d.st J ∧ 0 ≤ d.turn ∧ d.turn ≤ T ∧ d.cells.length ≤ 63
theorem Dok.mono {J : Sto} {T T' : Int} {st : Sto} (h : Dok J T st) (hT : T ≤ T') : Dok J T' st := by
  obtain ⟨d, h1, h2, h3, h4⟩ := h
  exact ⟨d, h1, h2, by omega, h4⟩
theorem dk_put {m t u : Int} : putW (dkW m t) (.str "turn") (.int u) = some (dkW m u) := by simp [dkW, putW, putD, keyOf, fit]
theorem dk_turn {m t : Int} : getW (dkW m t) (.str "turn") = some (some (.int t)) := by simp [dkW, getW, keyOf]
theorem dk_mixed {m t : Int} : getW (dkW m t) (.str "mixed") = some (some (.int m)) := by simp [dkW, getW, keyOf]
theorem dk_cells {m t : Int} : getW (dkW m t) (.str "cells") = some (some (.loc 0)) := by simp [dkW, getW, keyOf]
theorem m64 {i : Int} (h0 : 0 ≤ i) (h1 : i < 2 ^ 41) : mid64 i = true := decide_eq_true (by omega)
theorem draw_sp {J : Sto} {T b : Int} {st : Sto} (hD : Dok J T st) (hT : T < 2 ^ 40) (hb : 0 < b) (hb2 : b < 1000) : wpQ (f__law_draw [.loc 1, .int b] st) fun w st' => ∃ r, w = .int r ∧ 0 ≤ r ∧ r < b ∧ Dok J (T + 1) st' := by
  obtain ⟨⟨cells, m, t⟩, rfl, t0, t1, hl⟩ := hD
  dsimp only at t0 t1 hl
  have m0 : mid64 61719 = true := m64 (by decide) (by decide)
  have m1 : mid64 40692 = true := m64 (by decide) (by decide)
  have m2 : mid64 69621 = true := m64 (by decide) (by decide)
  have m3 : mid64 39373 = true := m64 (by decide) (by decide)
  have m4 : mid64 (t + 1) = true := m64 (by omega) (by omega)
  have m5 : ∀ i : Int, mid64 (i % 2147483647) = true := fun i => m64 (Int.emod_nonneg _ (by decide)) (Int.lt_trans (Int.emod_lt_of_pos _ (by decide)) (by decide))
  have pw : powW (.int 10) (.int 18) = some (.int 1000000000000000000) := by rfl
  have fin : ∀ (i : Int) (cs : List Int), cs.length ≤ 63 → ∃ r, W.int (i % b) = .int r ∧ 0 ≤ r ∧ r < b ∧ Dok J (T + 1) (.lst (cs.map .int) :: dkW m (t + 1) :: J) := fun i cs h => ⟨_, rfl, Int.emod_nonneg _ (by omega), Int.emod_lt_of_pos _ hb, ⟨cs, m, t + 1⟩, rfl, by dsimp only; omega, by dsimp only; omega, h⟩
  have dd : ∀ m t : Int, ∀ st : Sto, deref st (dkW m t) = dkW m t := fun _ _ _ => rfl
  have hb3 : 0 < b ∧ b < 1073741824 := ⟨hb, by omega⟩
  unfold f__law_draw Dk.st
  rcases List.eq_nil_or_concat cells with rfl | ⟨cs, x, rfl⟩
  · have ne : neW (.lst []) (.lst []) = some (.bl false) := rfl
    wp_walk using z__law_draw_0, dk_turn, dk_mixed, dk_cells, dk_put, m0, m1, m2, m3, m4, m5, ne, pw, dd, hb
    exact fin _ [] hl
  · rw [List.concat_eq_append] at hl ⊢
    have ne := ne_ints (ns := cs ++ [x]) (by simp)
    simp only [List.length_append, List.length_singleton] at hl
    have hl2 : cs.length ≤ 100000 := by omega
    have sn : (cs ++ [x]).map W.int = cs.map .int ++ [.int x] := by simp
    rw [sn] at ne ⊢
    by_cases hx : 1000000000000000000 ≤ x
    · wp_walk using z__law_draw_0, dk_turn, dk_mixed, dk_cells, dk_put, m0, m1, m2, m3, m4, m5, ne, pw, dd, hb, hb3, hl2, hx
      have := fin x (cs ++ [x / b]) (by simp; omega)
      rwa [List.map_append] at this
    · wp_walk using z__law_draw_0, dk_turn, dk_mixed, dk_cells, dk_put, m0, m1, m2, m3, m4, m5, ne, pw, dd, hb, hb3, hl2, hx
      exact fin _ cs (by omega)
theorem pick_lst {J : Sto} {T : Int} {st : Sto} {ws : List W} (hD : Dok J T st) (hT : T < 2 ^ 40) (hb : 0 < ws.length) (hb2 : ws.length < 1000) : wpQ (f__law_pick [.loc 1, .lst ws] st) fun w st' => w ∈ ws ∧ Dok J (T + 1) st' := by
  unfold f__law_pick
  wp_walk
  refine wp_call (draw_sp hD hT (b := (ws.length : Int)) (by omega) (by omega)) ?_
  rintro _ st' ⟨r, rfl, h0, h1, hD'⟩
  obtain ⟨w, e, hm, _⟩ := atI_of h0 h1
  wp_walk using e
  exact ⟨hm, hD'⟩
theorem pick_str {J : Sto} {T : Int} {st : Sto} {cs : List Nat} (hD : Dok J T st) (hT : T < 2 ^ 40) (hb : 0 < cs.length) (hb2 : cs.length < 1000) : wpQ (f__law_pick [.loc 1, .str (sl cs)] st) fun w st' => (∃ c ∈ cs, w = one1 c) ∧ Dok J (T + 1) st' := by
  have hb3 : cs.length ≤ 100000 := by omega
  unfold f__law_pick
  wp_walk using hb3
  refine wp_call (draw_sp hD hT (b := (cs.length : Int)) (by omega) (by omega)) ?_
  rintro _ st' ⟨r, rfl, h0, h1, hD'⟩
  obtain ⟨w, e, hm, _⟩ := atI_of h0 h1
  wp_walk using e, hb3
  exact ⟨⟨w, hm, rfl⟩, hD'⟩
/-- a comprehension of picks out of a text -/
theorem lc_picks {J : Sto} {ns : List Nat} {bd : Bd} {m : Ev} {en : En} {L : List Nat} {T : Int} {st : Sto} {items : List W} (hD : Dok J T st) (hT : T + items.length < 2 ^ 40) (hl : items.length ≤ 100000)
    (hm : ∀ w ∈ items, ∃ en1, bd w (wipeE en ns) = some en1 ∧ ∀ (T : Int) (st : Sto), Dok J T st → T < 2 ^ 40 → wpQ (m en1 st) (fun w st' => (∃ c ∈ L, w = one1 c) ∧ Dok J (T + 1) st')) :
    wpQ (lcZ ns bd MH.T.yes m en items [] st) fun xs st' => ∃ cs : List Nat, xs = cs.map one1 ∧ cs.length = items.length ∧ (∀ c ∈ cs, c ∈ L) ∧ Dok J (T + items.length) st' := by
  have := wp_lc (ns := ns) (bd := bd) (m := m) (en := en) (items := items) (st := st) (fun ws acc s => ∃ cs : List Nat, acc = cs.map one1 ∧ (∀ c ∈ cs, c ∈ L) ∧ Dok J (T + cs.length) s) hl ⟨[], rfl, fun c h => absurd h List.not_mem_nil, by simpa using hD⟩ (by
    rintro w ws acc s hw hlen ⟨cs, rfl, hc, hd⟩
    obtain ⟨en1, e1, h1⟩ := hm w hw
    rw [List.length_map] at hlen
    refine ⟨en1, e1, wp_call (h1 _ s hd (by omega)) ?_⟩
    rintro _ s' ⟨⟨c, hcL, rfl⟩, hd'⟩
    refine ⟨cs ++ [c], by simp, ?_, hd'.mono (by simp; omega)⟩
    intro d hdm
    rcases List.mem_append.mp hdm with h | h
    · exact hc d h
    · rw [List.mem_singleton.mp h]; exact hcL)
  refine wp_call this ?_
  rintro _ s ⟨hlen, cs, rfl, hc, hd⟩
  rw [List.length_map] at hlen
  exact ⟨cs, rfl, hlen, hc, hlen ▸ hd⟩
end Toy

namespace Toy
open PySem L2 MH
local macro_rules
  | `(tactic| wp_walk) => `(tactic| wp_walk using dr_str)
local macro_rules
  | `(tactic| wp_walk using $ts,*) => `(tactic| simp only [$[$ts:term],*, ↓w_methK, sub_aug, ↓w_body, ↓w_bodyT, kept_app, kept_self, take_app, gapp, gapp0, sapp, sapp0, ↓w_star, star_s, star_l, star_t, ↓w_aug, slK_f, goW, augR_s, aug_ii, aug_ss, ↓w_chain, ↓w_lput, lput_last, atm1, popR_l, popL_s, ↓w_keys, keysI, ↓w_lcV, lcVs_l, revS_sl, List.append_assoc, lb, lbL, lbF, lbD, ↓w_bin, ↓w_tup, ↓w_lst, ↓w_eite, ↓w_call, ↓w_fn, ↓w_fnK, ↓w_slice, ↓w_un, ↓w_dix, ↓w_get1, ↓w_get2, ↓w_din, ↓w_dni, ↓w_loc, ↓w_ms, ↓w_pop, ↓w_meth, ↓w_own, ↓w_map, ↓w_dict, ↓w_make, ↓w_makeK, ↓w_lc, ↓w_eand, ↓w_eor, ↓w_enot,
      ↓w_pk, ↓w_acons, ↓w_hcons, ↓w_qcons, ↓w_tval, ↓w_tnot, ↓w_tand, ↓w_tor, ↓w_oat, ↓w_iof, ↓w_irange, ↓w_ienum, ↓w_izip, ↓w_cons, ↓w_ret, ↓w_set, ↓w_zown, ↓w_expr, ↓w_zite, ↓w_app, ↓w_ext, ↓w_dput, ↓w_sattr, ↓w_raise, ↓w_par, ↓w_parO, ↓w_par3, ↓w_asg, ↓w_for, ↓w_fcons, ↓w_fnil, ↓w_lccons, ↓w_lcnil, ↓w_try, ↓w_hnil, ↓w_hncons,
      goE, goX, goN, goS, goY, ↓goP, goB, goL, goI, wE_ok, wE_ex, wE_no, wS_ok, wS_ex, wS_no, iP_t, iP_f, iP_not, nK_nx, nK_rt, nK_bk, nK_ct, fK_nx, fK_rt, lK_nx, lK_ct, lK_bk, lK_rt, bP_some, bP_none, lsK_l, hK_t, hK_f, inK, wE_iteN, wS_iteN, liftIte, liftNone, lift_s, dpR,
      var_f, c_f, pvar_f, anil_f, hnil_f, qnil_f, ono_f, yes_f, xatt, znil_f, zretN_f, zbrk_f, zcont_f, zfrz_f, bname_f, btup_f, bcons_f, bnil_f, wrS_f, wrH_s, wrH_l, one_1, view_f, view_s, dr_str, dr_int, dr_bl, dr_non, dr_lst, dr_scr, dr_tup, dr_stp, dr_dct, dr_ins, dr_cls, dr_ty, dr_loc, isN_str, isN_int, isN_bl, isN_non, isN_lst, isN_tup, isN_dct, isN_ins,
      add_ii, add_ss, add_tt, add_ll, sub_ii, mul_ii, mul_si, mul_li, mod_ii, fdiv_ii, lt_ii, lt_sl, le_ii, le_sl, gt_ii, gt_sl, ge_ii, ge_sl, isn_n, notn_n, len_l, len_c, len_t, len_s, len_d, int1_i, slc_l, slc_c, slc_t, slc_s, rev_l, rev_c, isS_s, isL_l, isD_d, items_sl, it_lst, it_scr, it_tup, it_stp, enumO_1, zipO_2, neg_i, tpl_l, tpl_c, tpl_t, seq_l, seq_c, seq_t, bl_b, int_i, ix_l, ix_c, ix_t, ix_s, eqW_int, neW_int, ins_sl, nis_sl, isi_2, isiS, wk_s, wk_i, Option.some.injEq, Sum.inr.injEq, Sum.inl.injEq, reduceCtorEq, List.foldl_cons, List.foldl_nil, key_i, key_s, get_f, get_t, put_f, put_t, keys1, keys2, keys3,
      sl_len, sl_app, sl_cut, cut_last, cut_init, cut_1, cut_t1, cut_t2, zipW_map, lt_one, List.take_succ_cons, List.take_zero, List.take_nil, List.drop_succ_cons, List.drop_zero, strLt_sl, fit_iff, wipe_n, wipe_c, unO_n, unO_s, own_f, own_n,
      List.map_cons, List.map_nil, List.length_cons, List.length_nil, List.length_map, List.length_append, List.replicate, List.cons_append, List.nil_append, List.append_nil, List.getElem?_cons_zero, List.getElem?_cons_succ, List.getElem?_nil, List.set_cons_zero, List.set_cons_succ, List.getD_cons_zero, List.getD_cons_succ, List.any_cons, List.any_nil, List.all_cons, List.all_nil, List.zip_cons_cons, List.zip_nil_right, List.zip_nil_left, List.reverse_cons, List.reverse_nil,
      Option.map_some, Option.map_none, Option.bind_some, Option.bind_none, Option.bind_fun_some, Option.getD_some, Option.getD_none, Option.isSome_some, Option.isSome_none, Option.all_some, Option.all_none, id, if_true, if_false, ite_true, ite_false, reduceIte, true_and, and_true, Bool.not_true, Bool.not_false, Bool.or_self, Bool.and_self, Bool.or_false, Bool.false_or, Bool.or_true, Bool.true_or, Bool.and_true, Bool.true_and, Bool.and_false, Bool.false_and, decide_true, decide_false, Bool.false_eq_true, decide_eq_true_eq, Bool.not_eq_true', Nat.reduceAdd, Nat.reduceLeDiff, Nat.reduceLT, Nat.reduceSub, Nat.reduceMul, Nat.reduceEqDiff, Int.reduceLE, Int.reduceLT, Int.reduceNeg, Int.reduceEq, Int.reduceAdd, Int.reduceSub, Int.reduceMul, Int.reduceToNat, Nat.reduceBEq, String.reduceEq, decide_not, Nat.zero_add, Int.natCast_zero, Int.natCast_one, Int.cast_ofNat_Int, eqW_nil, neW_nil, okc_nil, kwOrd, List.filterMap_cons, List.filterMap_nil, List.lookup_cons, List.lookup_nil, sqb, ofString_iff, at0, at1, at2, at3])
/-! ### readers -/
inductive Nd where
  | none
  | stops (s : List Nat)
  | reads (b : Option (List Nat)) (to : List Nat)
def bareW : Option (List Nat) → W
  | .none => .non
  | .some s => strW s
def natW (i : Nat) : W := .int (i : Nat)
def Nd.w : Nd → W
  | .none => .tup [.str "none"]
  | .stops s => .tup [.str "stops", strW s]
  | .reads b to => .tup (.str "reads" :: bareW b :: to.map natW)
structure Rd where
  L : List Nat
  ns : List Nd
def Rd.nw (R : Rd) : List W := R.ns.map Nd.w
def Rd.fs (R : Rd) : List (Str × W) := [("letters", .str (sl R.L)), ("nodes", .tup R.nw)]
abbrev Rd.w (R : Rd) : W := .ins "Reader" R.fs
def NdOk (L : List Nat) (n : Nat) : Nd → Prop
  | .none => True
  | .stops s => webOk L s = true ∧ s.length ≤ 10
  | .reads b to => (∀ s, b = some s → webOk L s = true ∧ s.length ≤ 10) ∧ to.length = L.length ∧ ∀ i ∈ to, i < n
structure Rd.Ok (R : Rd) : Prop where
  lt : Lt R.L
  len : R.L.length ≤ 26
  ne : R.ns ≠ []
  few : R.ns.length ≤ 50
  nd : ∀ d ∈ R.ns, NdOk R.L R.ns.length d
theorem rd_le {R : Rd} : attrW ["Reader"] "letters" R.w = some (.str (sl R.L)) := by simp [attrW, Rd.fs, List.lookup]
theorem rd_no {R : Rd} : attrW ["Reader"] "nodes" R.w = some (.tup R.nw) := by simp [attrW, Rd.fs, List.lookup, sqb]
theorem nl_bare {b : Option (List Nat)} : nl (bareW b) = true := by cases b <;> rfl
theorem nl_nd {d : Nd} : nl d.w = true := by
  cases d with
  | none => rfl
  | stops s => rfl
  | reads b to => simp [Nd.w, nl, nlL, nl_bare, nlL_map (f := natW) fun i _ => rfl]
theorem nl_nw {R : Rd} : nlL R.nw = true := nlL_map fun d _ => nl_nd
theorem nl_rd {R : Rd} : nl R.w = true := by simp [nl, nlF, Rd.fs, nl_nw]
theorem dk_nat {to : List Nat} : dkL (to.map natW) = true ∧ dptL (to.map natW) = 0 := by
  induction to with
  | nil => exact ⟨rfl, rfl⟩
  | cons a to ih => simp [natW, dkL, dk, dptL, dpt, ih.1, ih.2]
theorem dk_nd {L : List Nat} {n : Nat} {d : Nd} (hL : Lt L) (h : NdOk L n d) : dk d.w = true ∧ dpt d.w ≤ 1 := by
  cases d with
  | none => exact ⟨by simp [Nd.w, dk, dkL, strOk_of], by simp [Nd.w, dpt, dptL]⟩
  | stops s => exact ⟨by simp [Nd.w, dk, dkL, strOk_of, strOk_sl, okc_let hL h.1], by simp [Nd.w, dpt, dptL]⟩
  | reads b to =>
    have h1 : dk (bareW b) = true ∧ dpt (bareW b) = 0 := by
      cases b with
      | none => exact ⟨rfl, rfl⟩
      | some s => exact ⟨by simp [bareW, dk, strOk_sl, okc_let hL (h.1 s rfl).1], rfl⟩
    exact ⟨by simp [Nd.w, dk, dkL, strOk_of, h1.1, dk_nat.1], by simp [Nd.w, dpt, dptL, h1.2, dk_nat.2]⟩
theorem isint_spec {i : Int} {st : Sto} : f_is_integer [.int i] st = .ok (.bl true) st := by
  have h1 : isiW IL (.int i) (.ty "int") = some true := rfl
  have h2 : isiW IL (.int i) (.ty "bool") = some false := rfl
  refine ok_of ?_
  unfold f_is_integer
  wp_walk using h1, h2
theorem nums_spec {to : List Nat} {m n : Nat} {st : Sto} (h : ∀ i ∈ to, i < n) (hl : to.length = m) (hm : m ≤ 1000) : f_are_numbers [.tup (to.map natW), .int m, .int n] st = .ok (.bl true) st := by
  refine ok_of ?_
  have lc : lcZ [3] (Bd.name 3) T.yes e_are_numbers_0 [some (false, .tup (to.map natW)), some (false, .int m), some (false, .int n), none] (to.map natW) [] st = .ok (to.map fun _ => .bl true) st := by
    refine lc_pure (fun c hc => ⟨_, rfl, ?_⟩) (by omega)
    have h0 : (0 : Int) ≤ (c : Int) := by omega
    have h1 : (c : Int) < (n : Int) := by have := h c hc; omega
    unfold e_are_numbers_0
    wp_walk using natW, isint_spec, h0, h1
  have al : allW (.lst (to.map fun _ => W.bl true)) = some (.bl true) := by
    rw [allW_map (fun _ : Nat => true) to]
    simp
  unfold f_are_numbers
  wp_walk using lc, hl, al
theorem node_spec {L : List Nat} {n : Nat} {d : Nd} {st : Sto} (hL : Lt L) (hl : L.length ≤ 26) (hn : n ≤ 50) (h : NdOk L n d) : f_is_reader_node [.str (sl L), .int n, d.w] st = .ok (.bl true) st := by
  have it : ∀ ws : List W, isiW IL (.tup ws) (.ty "tuple") = some true := fun ws => rfl
  have is : ∀ s : Str, isiW IL (.str s) (.ty "str") = some true := fun s => rfl
  have hl2 : L.length ≤ 100000 := by omega
  obtain ⟨d1, d2⟩ := dk_nd hL h
  refine ok_of ?_
  unfold f_is_reader_node
  cases d with
  | none =>
    have e0 := eqT_nil d1 (Nat.le_trans d2 (by decide))
    have e1 := eqW_same d1 (Nat.le_trans d2 (by decide))
    unfold Nd.w at e0 e1 ⊢
    wp_walk using it, is, e0, e1, eqW_lit, neW_lit
  | stops s =>
    have e0 := eqT_nil d1 (Nat.le_trans d2 (by decide))
    have e2 := is_web_str (l := L) (s := s) (st := st) (by have := h.2; omega)
    rw [h.1] at e2
    unfold Nd.w at e0 ⊢
    wp_walk using it, is, e0, e2, eqW_lit, neW_lit
  | reads b to =>
    have e0 := eqT_nil d1 (Nat.le_trans d2 (by decide))
    obtain ⟨hb, ht, hi⟩ := h
    have e3 := nums_spec (to := to) (m := L.length) (n := n) (st := st) hi ht (by omega)
    have c2 : cutL (W.str "reads" :: bareW b :: to.map natW) (some 2) none = to.map natW := cut_from (k := 2)
    have l2 : ¬ (((to.length + 1 + 1 : Nat) : Int) < 2) := by omega
    cases b with
    | none =>
      simp only [bareW] at e0 c2
      unfold Nd.w
      wp_walk using it, is, e0, e3, eqW_lit, neW_lit, c2, l2, bareW, hl2
    | some s =>
      have e2 := is_web_str (l := L) (s := s) (st := st) (by have := (hb s rfl).2; omega)
      rw [(hb s rfl).1] at e2
      simp only [bareW] at e0 c2
      unfold Nd.w
      wp_walk using it, is, e0, e2, e3, eqW_lit, neW_lit, c2, l2, bareW, hl2
end Toy

namespace Toy
open PySem L2 MH
local macro_rules
  | `(tactic| wp_walk) => `(tactic| wp_walk using dr_str)
local macro_rules
  | `(tactic| wp_walk using $ts,*) => `(tactic| simp only [$[$ts:term],*, ↓w_methK, sub_aug, ↓w_body, ↓w_bodyT, kept_app, kept_self, take_app, gapp, gapp0, sapp, sapp0, ↓w_star, star_s, star_l, star_t, ↓w_aug, slK_f, goW, augR_s, aug_ii, aug_ss, ↓w_chain, ↓w_lput, lput_last, atm1, popR_l, popL_s, ↓w_keys, keysI, ↓w_lcV, lcVs_l, revS_sl, List.append_assoc, lb, lbL, lbF, lbD, ↓w_bin, ↓w_tup, ↓w_lst, ↓w_eite, ↓w_call, ↓w_fn, ↓w_fnK, ↓w_slice, ↓w_un, ↓w_dix, ↓w_get1, ↓w_get2, ↓w_din, ↓w_dni, ↓w_loc, ↓w_ms, ↓w_pop, ↓w_meth, ↓w_own, ↓w_map, ↓w_dict, ↓w_make, ↓w_makeK, ↓w_lc, ↓w_eand, ↓w_eor, ↓w_enot,
      ↓w_pk, ↓w_acons, ↓w_hcons, ↓w_qcons, ↓w_tval, ↓w_tnot, ↓w_tand, ↓w_tor, ↓w_oat, ↓w_iof, ↓w_irange, ↓w_ienum, ↓w_izip, ↓w_cons, ↓w_ret, ↓w_set, ↓w_zown, ↓w_expr, ↓w_zite, ↓w_app, ↓w_ext, ↓w_dput, ↓w_sattr, ↓w_raise, ↓w_par, ↓w_parO, ↓w_par3, ↓w_asg, ↓w_for, ↓w_fcons, ↓w_fnil, ↓w_lccons, ↓w_lcnil, ↓w_try, ↓w_hnil, ↓w_hncons,
      goE, goX, goN, goS, goY, ↓goP, goB, goL, goI, wE_ok, wE_ex, wE_no, wS_ok, wS_ex, wS_no, iP_t, iP_f, iP_not, nK_nx, nK_rt, nK_bk, nK_ct, fK_nx, fK_rt, lK_nx, lK_ct, lK_bk, lK_rt, bP_some, bP_none, lsK_l, hK_t, hK_f, inK, wE_iteN, wS_iteN, liftIte, liftNone, lift_s, dpR,
      var_f, c_f, pvar_f, anil_f, hnil_f, qnil_f, ono_f, yes_f, xatt, znil_f, zretN_f, zbrk_f, zcont_f, zfrz_f, bname_f, btup_f, bcons_f, bnil_f, wrS_f, wrH_s, wrH_l, one_1, view_f, view_s, dr_str, dr_int, dr_bl, dr_non, dr_lst, dr_scr, dr_tup, dr_stp, dr_dct, dr_ins, dr_cls, dr_ty, dr_loc, isN_str, isN_int, isN_bl, isN_non, isN_lst, isN_tup, isN_dct, isN_ins,
      add_ii, add_ss, add_tt, add_ll, sub_ii, mul_ii, mul_si, mul_li, mod_ii, fdiv_ii, lt_ii, lt_sl, le_ii, le_sl, gt_ii, gt_sl, ge_ii, ge_sl, isn_n, notn_n, len_l, len_c, len_t, len_s, len_d, int1_i, slc_l, slc_c, slc_t, slc_s, rev_l, rev_c, isS_s, isL_l, isD_d, items_sl, it_lst, it_scr, it_tup, it_stp, enumO_1, zipO_2, neg_i, tpl_l, tpl_c, tpl_t, seq_l, seq_c, seq_t, bl_b, int_i, ix_l, ix_c, ix_t, ix_s, eqW_int, neW_int, ins_sl, nis_sl, isi_2, isiS, wk_s, wk_i, Option.some.injEq, Sum.inr.injEq, Sum.inl.injEq, reduceCtorEq, List.foldl_cons, List.foldl_nil, key_i, key_s, get_f, get_t, put_f, put_t, keys1, keys2, keys3,
      sl_len, sl_app, sl_cut, cut_last, cut_init, cut_1, cut_t1, cut_t2, zipW_map, lt_one, List.take_succ_cons, List.take_zero, List.take_nil, List.drop_succ_cons, List.drop_zero, strLt_sl, fit_iff, wipe_n, wipe_c, unO_n, unO_s, own_f, own_n,
      List.map_cons, List.map_nil, List.length_cons, List.length_nil, List.length_map, List.length_append, List.replicate, List.cons_append, List.nil_append, List.append_nil, List.getElem?_cons_zero, List.getElem?_cons_succ, List.getElem?_nil, List.set_cons_zero, List.set_cons_succ, List.getD_cons_zero, List.getD_cons_succ, List.any_cons, List.any_nil, List.all_cons, List.all_nil, List.zip_cons_cons, List.zip_nil_right, List.zip_nil_left, List.reverse_cons, List.reverse_nil,
      Option.map_some, Option.map_none, Option.bind_some, Option.bind_none, Option.bind_fun_some, Option.getD_some, Option.getD_none, Option.isSome_some, Option.isSome_none, Option.all_some, Option.all_none, id, if_true, if_false, ite_true, ite_false, reduceIte, true_and, and_true, Bool.not_true, Bool.not_false, Bool.or_self, Bool.and_self, Bool.or_false, Bool.false_or, Bool.or_true, Bool.true_or, Bool.and_true, Bool.true_and, Bool.and_false, Bool.false_and, decide_true, decide_false, Bool.false_eq_true, decide_eq_true_eq, Bool.not_eq_true', Nat.reduceAdd, Nat.reduceLeDiff, Nat.reduceLT, Nat.reduceSub, Nat.reduceMul, Nat.reduceEqDiff, Int.reduceLE, Int.reduceLT, Int.reduceNeg, Int.reduceEq, Int.reduceAdd, Int.reduceSub, Int.reduceMul, Int.reduceToNat, Nat.reduceBEq, String.reduceEq, decide_not, Nat.zero_add, Int.natCast_zero, Int.natCast_one, Int.cast_ofNat_Int, eqW_nil, neW_nil, okc_nil, kwOrd, List.filterMap_cons, List.filterMap_nil, List.lookup_cons, List.lookup_nil, sqb, ofString_iff, at0, at1, at2, at3])
theorem init_loop {R : Rd} (hR : R.Ok) {st : Sto} {a : Slt} {x : CoY} : ∀ (ds : List Nd) (k : Int) (y z : Slt), (∀ d ∈ ds, NdOk R.L R.ns.length d) →
    wpSQ (forZ (Bd.tup (Bd.cons (Bd.name 3) (Bd.cons (Bd.name 4) Bd.nil))) b_Reader_init_0 (enumW k (ds.map Nd.w)) [a, some (false, .str (sl R.L)), some (false, .tup R.nw), y, z] st) (fun fl e s => fl = .nx ∧ s = st ∧ ∃ y z, e = [a, some (false, .str (sl R.L)), some (false, .tup R.nw), y, z]) x
  | [], k, y, z, _ => ⟨rfl, rfl, y, z, rfl⟩
  | d :: ds, k, y, z, h => by
    have e := node_spec (st := st) hR.lt hR.len hR.few (h d List.mem_cons_self)
    have ih := init_loop hR (st := st) (a := a) (x := x) ds (k + 1) (some (false, .int k)) (some (false, d.w)) fun d hd => h d (List.mem_cons_of_mem _ hd)
    have ln : R.nw.length = R.ns.length := by simp [Rd.nw]
    rw [List.map_cons, enumW_cons, wpSQ, w_fcons]
    wp_walk using x_b_Reader_init_0, ln, e
    exact ih
theorem nw_cons {R : Rd} (hR : R.Ok) : eqW (.tup R.nw) (.tup []) = some (.bl false) := by
  have key : ∀ ds : List Nd, (∀ d ∈ ds, NdOk R.L R.ns.length d) → dkL (ds.map Nd.w) = true ∧ dptL (ds.map Nd.w) ≤ 2 := by
    intro ds
    induction ds with
    | nil => intro _; exact ⟨rfl, Nat.zero_le _⟩
    | cons d ds ih =>
      intro h
      obtain ⟨h1, h2⟩ := ih fun d hd => h d (List.mem_cons_of_mem _ hd)
      obtain ⟨h3, h4⟩ := dk_nd hR.lt (h d List.mem_cons_self)
      refine ⟨by simp [dkL, h1, h3], ?_⟩
      simp only [List.map_cons, dptL]; omega
  obtain ⟨h1, h2⟩ := key R.ns hR.nd
  unfold Rd.nw
  cases q : R.ns with
  | nil => exact absurd q hR.ne
  | cons d ds =>
    rw [q] at h1 h2
    exact eqT_nil (by simpa [dk] using h1) (by simp only [dpt, List.map_cons] at h2 ⊢; omega)
theorem init_spec {R : Rd} (hR : R.Ok) : f_Reader_init [.loc 0, .str (sl R.L), .tup R.nw] [.ins "Reader" []] = .ok .non [R.w] := by
  refine ok_of ?_
  have hl := hR.len
  have l1 := is_letters_str (s := R.L) (st := [.ins "Reader" []]) (by omega) hR.lt.okc
  rw [hR.lt.letters] at l1
  have it : ∀ ws : List W, isiW IL (.tup ws) (.ty "tuple") = some true := fun ws => rfl
  have mem : ("Reader" ∈ (["Reader"] : List String)) := by simp
  unfold f_Reader_init
  wp_walk using l1, it, nw_cons hR
  refine wp_stmt (init_loop hR R.ns 0 _ _ hR.nd) ?_
  rintro fl e s ⟨rfl, rfl, y, z, rfl⟩
  wp_walk using sattrR, mem, putFW
  rfl
theorem mk_spec {R : Rd} (hR : R.Ok) {st : Sto} : E.mkW "Reader" f_Reader_init [.str (sl R.L), .tup R.nw] st = .ok R.w st := by
  unfold E.mkW
  rw [if_pos (LFs_of (by simp [nlL, nl, nl_nw])), init_spec hR]
  dsimp only [List.getElem?_cons_zero]
  rw [if_pos]
  · rfl
  · refine ⟨rfl, ?_⟩
    intro p hp
    simp only [Rd.fs, List.mem_cons, List.not_mem_nil, or_false] at hp
    rcases hp with rfl | rfl
    · exact .inr (LF_of rfl)
    · exact .inr (LF_of (by simp [nl, nl_nw]))
/-! ### the walk from the end -/
def Rd.go (R : Rd) : Nat → List Nat → Nat × Nat
  | k, [] => (k, 0)
  | k, c :: cs => match R.ns[k]? with
    | some (.reads _ to) => ((R.go (to.getD (ixOf R.L c) 0) cs).1, (R.go (to.getD (ixOf R.L c) 0) cs).2 + 1)
    | _ => (k, 0)
theorem go_le {R : Rd} : ∀ (cs : List Nat) (k : Nat), (R.go k cs).2 ≤ cs.length
  | [], k => Nat.le_refl _
  | c :: cs, k => by
    rw [Rd.go]
    split
    · have := go_le (R := R) cs (‹List Nat›.getD (ixOf R.L c) 0)
      simp only [List.length_cons]; omega
    · exact Nat.zero_le _
theorem go_stop {R : Rd} : ∀ (cs : List Nat) (k : Nat), (R.go k cs).2 < cs.length → (∀ b to, R.ns[(R.go k cs).1]? ≠ some (.reads b to)) ∧ ∀ ds, R.go k (cs.take (R.go k cs).2 ++ ds) = R.go k cs
  | [], k, h => by simp [Rd.go] at h
  | c :: cs, k, h => by
    cases q : R.ns[k]? with
    | none =>
      have e : R.go k (c :: cs) = (k, 0) := by rw [Rd.go, q]
      rw [e]
      refine ⟨fun b to z => (by rw [q] at z; cases z), fun ds => ?_⟩
      cases ds with
      | nil => rfl
      | cons d ds => simp [Rd.go, q]
    | some n =>
      cases n with
      | reads b to =>
        have e : R.go k (c :: cs) = ((R.go (to.getD (ixOf R.L c) 0) cs).1, (R.go (to.getD (ixOf R.L c) 0) cs).2 + 1) := by rw [Rd.go, q]
        rw [e] at h ⊢
        rw [List.length_cons] at h
        obtain ⟨h1, h2⟩ := go_stop (R := R) cs (to.getD (ixOf R.L c) 0) (by dsimp only at h; omega)
        refine ⟨h1, fun ds => ?_⟩
        dsimp only
        rw [List.take_succ_cons, List.cons_append, Rd.go, q]
        dsimp only
        rw [h2]
      | none =>
        have e : R.go k (c :: cs) = (k, 0) := by rw [Rd.go, q]
        rw [e]
        refine ⟨fun b to z => (by rw [q] at z; cases z), fun ds => ?_⟩
        cases ds with
        | nil => rfl
        | cons d ds => simp [Rd.go, q]
      | stops s =>
        have e : R.go k (c :: cs) = (k, 0) := by rw [Rd.go, q]
        rw [e]
        refine ⟨fun b to z => (by rw [q] at z; cases z), fun ds => ?_⟩
        cases ds with
        | nil => rfl
        | cons d ds => simp [Rd.go, q]
theorem go_ok {R : Rd} (hR : R.Ok) : ∀ (cs : List Nat) (k : Nat), k < R.ns.length → (∀ c ∈ cs, c ∈ R.L) → (R.go k cs).1 < R.ns.length
  | [], k, h, _ => h
  | c :: cs, k, h, hc => by
    rw [Rd.go]
    split
    · rename_i b to q
      have hm := List.mem_of_getElem? q
      have ok := hR.nd _ hm
      have hx := (sx_of (hc c List.mem_cons_self)).2
      have hlt : ixOf R.L c < to.length := by rw [ok.2.1]; exact hx
      refine go_ok hR cs _ ?_ fun d hd => hc d (List.mem_cons_of_mem _ hd)
      rw [List.getD_eq_getElem?_getD, List.getElem?_eq_getElem hlt, Option.getD_some]
      exact ok.2.2 _ (List.getElem_mem hlt)
    · exact h
end Toy

namespace Toy
open PySem L2 MH
local macro_rules
  | `(tactic| wp_walk) => `(tactic| wp_walk using dr_str)
local macro_rules
  | `(tactic| wp_walk using $ts,*) => `(tactic| simp only [$[$ts:term],*, ↓w_methK, sub_aug, ↓w_body, ↓w_bodyT, kept_app, kept_self, take_app, gapp, gapp0, sapp, sapp0, ↓w_star, star_s, star_l, star_t, ↓w_aug, slK_f, goW, augR_s, aug_ii, aug_ss, ↓w_chain, ↓w_lput, lput_last, atm1, popR_l, popL_s, ↓w_keys, keysI, ↓w_lcV, lcVs_l, revS_sl, List.append_assoc, lb, lbL, lbF, lbD, ↓w_bin, ↓w_tup, ↓w_lst, ↓w_eite, ↓w_call, ↓w_fn, ↓w_fnK, ↓w_slice, ↓w_un, ↓w_dix, ↓w_get1, ↓w_get2, ↓w_din, ↓w_dni, ↓w_loc, ↓w_ms, ↓w_pop, ↓w_meth, ↓w_own, ↓w_map, ↓w_dict, ↓w_make, ↓w_makeK, ↓w_lc, ↓w_eand, ↓w_eor, ↓w_enot,
      ↓w_pk, ↓w_acons, ↓w_hcons, ↓w_qcons, ↓w_tval, ↓w_tnot, ↓w_tand, ↓w_tor, ↓w_oat, ↓w_iof, ↓w_irange, ↓w_ienum, ↓w_izip, ↓w_cons, ↓w_ret, ↓w_set, ↓w_zown, ↓w_expr, ↓w_zite, ↓w_app, ↓w_ext, ↓w_dput, ↓w_sattr, ↓w_raise, ↓w_par, ↓w_parO, ↓w_par3, ↓w_asg, ↓w_for, ↓w_fcons, ↓w_fnil, ↓w_lccons, ↓w_lcnil, ↓w_try, ↓w_hnil, ↓w_hncons,
      goE, goX, goN, goS, goY, ↓goP, goB, goL, goI, wE_ok, wE_ex, wE_no, wS_ok, wS_ex, wS_no, iP_t, iP_f, iP_not, nK_nx, nK_rt, nK_bk, nK_ct, fK_nx, fK_rt, lK_nx, lK_ct, lK_bk, lK_rt, bP_some, bP_none, lsK_l, hK_t, hK_f, inK, wE_iteN, wS_iteN, liftIte, liftNone, lift_s, dpR,
      var_f, c_f, pvar_f, anil_f, hnil_f, qnil_f, ono_f, yes_f, xatt, znil_f, zretN_f, zbrk_f, zcont_f, zfrz_f, bname_f, btup_f, bcons_f, bnil_f, wrS_f, wrH_s, wrH_l, one_1, view_f, view_s, dr_str, dr_int, dr_bl, dr_non, dr_lst, dr_scr, dr_tup, dr_stp, dr_dct, dr_ins, dr_cls, dr_ty, dr_loc, isN_str, isN_int, isN_bl, isN_non, isN_lst, isN_tup, isN_dct, isN_ins,
      add_ii, add_ss, add_tt, add_ll, sub_ii, mul_ii, mul_si, mul_li, mod_ii, fdiv_ii, lt_ii, lt_sl, le_ii, le_sl, gt_ii, gt_sl, ge_ii, ge_sl, isn_n, notn_n, len_l, len_c, len_t, len_s, len_d, int1_i, slc_l, slc_c, slc_t, slc_s, rev_l, rev_c, isS_s, isL_l, isD_d, items_sl, it_lst, it_scr, it_tup, it_stp, enumO_1, zipO_2, neg_i, tpl_l, tpl_c, tpl_t, seq_l, seq_c, seq_t, bl_b, int_i, ix_l, ix_c, ix_t, ix_s, eqW_int, neW_int, ins_sl, nis_sl, isi_2, isiS, wk_s, wk_i, Option.some.injEq, Sum.inr.injEq, Sum.inl.injEq, reduceCtorEq, List.foldl_cons, List.foldl_nil, key_i, key_s, get_f, get_t, put_f, put_t, keys1, keys2, keys3,
      sl_len, sl_app, sl_cut, cut_last, cut_init, cut_1, cut_t1, cut_t2, zipW_map, lt_one, List.take_succ_cons, List.take_zero, List.take_nil, List.drop_succ_cons, List.drop_zero, strLt_sl, fit_iff, wipe_n, wipe_c, unO_n, unO_s, own_f, own_n,
      List.map_cons, List.map_nil, List.length_cons, List.length_nil, List.length_map, List.length_append, List.replicate, List.cons_append, List.nil_append, List.append_nil, List.getElem?_cons_zero, List.getElem?_cons_succ, List.getElem?_nil, List.set_cons_zero, List.set_cons_succ, List.getD_cons_zero, List.getD_cons_succ, List.any_cons, List.any_nil, List.all_cons, List.all_nil, List.zip_cons_cons, List.zip_nil_right, List.zip_nil_left, List.reverse_cons, List.reverse_nil,
      Option.map_some, Option.map_none, Option.bind_some, Option.bind_none, Option.bind_fun_some, Option.getD_some, Option.getD_none, Option.isSome_some, Option.isSome_none, Option.all_some, Option.all_none, id, if_true, if_false, ite_true, ite_false, reduceIte, true_and, and_true, Bool.not_true, Bool.not_false, Bool.or_self, Bool.and_self, Bool.or_false, Bool.false_or, Bool.or_true, Bool.true_or, Bool.and_true, Bool.true_and, Bool.and_false, Bool.false_and, decide_true, decide_false, Bool.false_eq_true, decide_eq_true_eq, Bool.not_eq_true', Nat.reduceAdd, Nat.reduceLeDiff, Nat.reduceLT, Nat.reduceSub, Nat.reduceMul, Nat.reduceEqDiff, Int.reduceLE, Int.reduceLT, Int.reduceNeg, Int.reduceEq, Int.reduceAdd, Int.reduceSub, Int.reduceMul, Int.reduceToNat, Nat.reduceBEq, String.reduceEq, decide_not, Nat.zero_add, Int.natCast_zero, Int.natCast_one, Int.cast_ofNat_Int, eqW_nil, neW_nil, okc_nil, kwOrd, List.filterMap_cons, List.filterMap_nil, List.lookup_cons, List.lookup_nil, sqb, ofString_iff, at0, at1, at2, at3])
theorem at_to {to : List Nat} {i : Nat} {a b : W} (h : i < to.length) : atI (a :: b :: to.map natW) (2 + (i : Int)) = some (natW (to.getD i 0)) := by
  have := MH.atI_nat (l := a :: b :: to.map natW) (n := i + 2)
  rw [show ((i + 2 : Nat) : Int) = 2 + (i : Int) by omega] at this
  rw [this]
  simp [List.getElem?_eq_getElem h]
theorem at_nd {R : Rd} {k : Nat} {d : Nd} (h : R.ns[k]? = some d) : atI R.nw (k : Int) = some d.w := by
  rw [MH.atI_nat]
  simp [Rd.nw, h]
theorem take_snoc {web : List Nat} {p : Nat} (h : p < web.length) : ∃ c, web[p]? = some c ∧ web.take (p + 1) = web.take p ++ [c] := by
  refine ⟨web[p], by simp [h], ?_⟩
  rw [List.take_succ]
  simp [h]
/-- one step of the walk -/
theorem go_step {R : Rd} (hR : R.Ok) {web : List Nat} (hw : ∀ c ∈ web, c ∈ R.L) {p k : Nat} (hp : p < web.length) {b : Option (List Nat)} {to : List Nat} (hk : R.ns[k]? = some (.reads b to)) :
    ∃ c k' d, web[p]? = some c ∧ c ∈ R.L ∧ ixOf R.L c < to.length ∧ to.getD (ixOf R.L c) 0 = k' ∧ R.ns[k']? = some d ∧ R.go k (web.take (p + 1)).reverse = ((R.go k' (web.take p).reverse).1, (R.go k' (web.take p).reverse).2 + 1) := by
  obtain ⟨c, h1, h2⟩ := take_snoc hp
  have hc := hw c (List.mem_of_getElem? h1)
  have hx := (sx_of hc).2
  have ok := hR.nd _ (List.mem_of_getElem? hk)
  have hlt : ixOf R.L c < to.length := by rw [ok.2.1]; exact hx
  have hk' : to.getD (ixOf R.L c) 0 < R.ns.length := by
    rw [List.getD_eq_getElem?_getD, List.getElem?_eq_getElem hlt, Option.getD_some]
    exact ok.2.2 _ (List.getElem_mem hlt)
  refine ⟨c, _, R.ns[to.getD (ixOf R.L c) 0], h1, hc, hlt, rfl, by rw [List.getElem?_eq_getElem hk'], ?_⟩
  rw [h2, List.reverse_append, List.reverse_singleton, List.singleton_append, Rd.go, hk]
def wayW (R : Rd) (web : List Nat) : W := .tup [.int ((R.go 0 web.reverse).2 : Nat), (R.ns.getD (R.go 0 web.reverse).1 .none).w]
theorem way_of_spec {R : Rd} (hR : R.Ok) {web : List Nat} {st : Sto} (hl : web.length ≤ 5000) (ow : webOk R.L web = true) : f_Reader_way_of [R.w, strW web] st = .ok (wayW R web) st := by
  have e1 := is_web_str (l := R.L) (s := web) (st := st) (by omega)
  rw [ow] at e1
  have fw : web.length ≤ 100000 := by omega
  have hw := webOk_mem ow
  have h0 : 0 < R.ns.length := List.length_pos_iff.mpr hR.ne
  obtain ⟨d0, hd0⟩ : ∃ d0, R.ns[0]? = some d0 := ⟨R.ns[0], by simp⟩
  have a0 : atI R.nw 0 = some d0.w := at_nd (k := 0) hd0
  refine ok_of ?_
  unfold f_Reader_way_of
  wp_walk using rd_le, rd_no, e1, a0, fw
  refine wp_stmt (wp_while (I := fun m en s => s = st ∧ ∃ k p d, m = p ∧ p ≤ web.length ∧ R.ns[k]? = some d ∧ en = [some (false, R.w), some (false, strW web), some (false, d.w), some (false, .int (p : Nat))] ∧ (R.go 0 web.reverse).1 = (R.go k (web.take p).reverse).1 ∧ (R.go 0 web.reverse).2 = web.length - p + (R.go k (web.take p).reverse).2)
    (Q := fun en s => s = st ∧ ∃ p, en = [some (false, R.w), some (false, strW web), some (false, (R.ns.getD (R.go 0 web.reverse).1 .none).w), some (false, .int (p : Nat))] ∧ p ≤ web.length ∧ (R.go 0 web.reverse).2 = web.length - p) ?_ web.length _ st ⟨rfl, 0, web.length, d0, rfl, Nat.le_refl _, hd0, rfl, by simp, by simp⟩) ?_
  · rintro m en s ⟨rfl, k, p, d, rfl, hp, hk, rfl, g1, g2⟩
    have fin : ∀ d : Nd, R.ns[k]? = some d → R.go k (web.take m).reverse = (k, 0) → ∃ p : Nat, [some (false, R.w), some (false, strW web), some (false, d.w), some (false, W.int (m : Nat))] = [some (false, R.w), some (false, strW web), some (false, (R.ns.getD (R.go 0 web.reverse).1 .none).w), some (false, .int (p : Nat))] ∧ p ≤ web.length ∧ (R.go 0 web.reverse).2 = web.length - p := fun d hd e => by
      refine ⟨m, ?_, hp, ?_⟩
      · rw [g1, e, List.getD_eq_getElem?_getD, hd]; rfl
      · rw [g2, e]; rfl
    have cd : (∃ b to, d = .reads b to) ∨ R.go k (web.take m).reverse = (k, 0) ∧ (d.w = .tup [.str "none"] ∨ ∃ t, d.w = .tup [.str "stops", strW t]) := by
      cases d with
      | none => exact .inr ⟨by cases (web.take m).reverse <;> simp [Rd.go, hk], .inl rfl⟩
      | stops t => exact .inr ⟨by cases (web.take m).reverse <;> simp [Rd.go, hk], .inr ⟨t, rfl⟩⟩
      | reads b to => exact .inl ⟨b, to, rfl⟩
    rcases cd with ⟨b, to, rfl⟩ | ⟨eg, ew⟩
    · have ew : (Nd.reads b to).w = .tup (.str "reads" :: bareW b :: to.map natW) := rfl
      cases m with
      | zero =>
        have := fin _ hk rfl
        rw [ew] at this ⊢
        wp_walk using x_u_Reader_way_of_0, eqW_lit
        exact this
      | succ p =>
        obtain ⟨c, k', d, h1, h2, h3, rfl, h5, h6⟩ := go_step hR hw hp hk
        have hpos : (0 : Int) < ((p + 1 : Nat) : Int) := by omega
        have hsub : ((p + 1 : Nat) : Int) - 1 = (p : Int) := by omega
        have hat : atI web (p : Int) = some c := by rw [MH.atI_nat, h1]
        have hix := (sx_of h2).1
        have hto := at_to (a := .str "reads") (b := bareW b) h3
        have hnd := at_nd h5
        unfold natW at hto
        rw [ew]
        unfold natW
        wp_walk using x_u_Reader_way_of_0, eqW_lit, hpos
        rw [wpSQ]
        wp_walk using x_b_Reader_way_of_0, hsub, rd_le, rd_no, hat, hix, hto, hnd, fw
        refine ⟨.inl trivial, p, by omega, _, p, d, rfl, by omega, h5, rfl, ?_, ?_⟩
        · rw [g1, h6]
        · rw [g2, h6]; dsimp only; omega
    · have fn := fin d hk eg
      rcases ew with ew | ⟨t, ew⟩
      · rw [ew] at fn ⊢
        wp_walk using x_u_Reader_way_of_0, eqW_lit
        exact fn
      · rw [ew] at fn ⊢
        wp_walk using x_u_Reader_way_of_0, eqW_lit
        exact fn
  · rintro fl e s ⟨rfl, rfl, p, rfl, hp, g⟩
    have hc : (web.length : Int) - (p : Int) = ((R.go 0 web.reverse).2 : Nat) := by omega
    wp_walk using fw, hc, wayW
end Toy

namespace Toy
open PySem L2 MH
local macro_rules
  | `(tactic| wp_walk) => `(tactic| wp_walk using dr_str)
local macro_rules
  | `(tactic| wp_walk using $ts,*) => `(tactic| simp only [$[$ts:term],*, ↓w_methK, sub_aug, ↓w_body, ↓w_bodyT, kept_app, kept_self, take_app, gapp, gapp0, sapp, sapp0, ↓w_star, star_s, star_l, star_t, ↓w_aug, slK_f, goW, augR_s, aug_ii, aug_ss, ↓w_chain, ↓w_lput, lput_last, atm1, popR_l, popL_s, ↓w_keys, keysI, ↓w_lcV, lcVs_l, revS_sl, List.append_assoc, lb, lbL, lbF, lbD, ↓w_bin, ↓w_tup, ↓w_lst, ↓w_eite, ↓w_call, ↓w_fn, ↓w_fnK, ↓w_slice, ↓w_un, ↓w_dix, ↓w_get1, ↓w_get2, ↓w_din, ↓w_dni, ↓w_loc, ↓w_ms, ↓w_pop, ↓w_meth, ↓w_own, ↓w_map, ↓w_dict, ↓w_make, ↓w_makeK, ↓w_lc, ↓w_eand, ↓w_eor, ↓w_enot,
      ↓w_pk, ↓w_acons, ↓w_hcons, ↓w_qcons, ↓w_tval, ↓w_tnot, ↓w_tand, ↓w_tor, ↓w_oat, ↓w_iof, ↓w_irange, ↓w_ienum, ↓w_izip, ↓w_cons, ↓w_ret, ↓w_set, ↓w_zown, ↓w_expr, ↓w_zite, ↓w_app, ↓w_ext, ↓w_dput, ↓w_sattr, ↓w_raise, ↓w_par, ↓w_parO, ↓w_par3, ↓w_asg, ↓w_for, ↓w_fcons, ↓w_fnil, ↓w_lccons, ↓w_lcnil, ↓w_try, ↓w_hnil, ↓w_hncons,
      goE, goX, goN, goS, goY, ↓goP, goB, goL, goI, wE_ok, wE_ex, wE_no, wS_ok, wS_ex, wS_no, iP_t, iP_f, iP_not, nK_nx, nK_rt, nK_bk, nK_ct, fK_nx, fK_rt, lK_nx, lK_ct, lK_bk, lK_rt, bP_some, bP_none, lsK_l, hK_t, hK_f, inK, wE_iteN, wS_iteN, liftIte, liftNone, lift_s, dpR,
      var_f, c_f, pvar_f, anil_f, hnil_f, qnil_f, ono_f, yes_f, xatt, znil_f, zretN_f, zbrk_f, zcont_f, zfrz_f, bname_f, btup_f, bcons_f, bnil_f, wrS_f, wrH_s, wrH_l, one_1, view_f, view_s, dr_str, dr_int, dr_bl, dr_non, dr_lst, dr_scr, dr_tup, dr_stp, dr_dct, dr_ins, dr_cls, dr_ty, dr_loc, isN_str, isN_int, isN_bl, isN_non, isN_lst, isN_tup, isN_dct, isN_ins,
      add_ii, add_ss, add_tt, add_ll, sub_ii, mul_ii, mul_si, mul_li, mod_ii, fdiv_ii, lt_ii, lt_sl, le_ii, le_sl, gt_ii, gt_sl, ge_ii, ge_sl, isn_n, notn_n, len_l, len_c, len_t, len_s, len_d, int1_i, slc_l, slc_c, slc_t, slc_s, rev_l, rev_c, isS_s, isL_l, isD_d, items_sl, it_lst, it_scr, it_tup, it_stp, enumO_1, zipO_2, neg_i, tpl_l, tpl_c, tpl_t, seq_l, seq_c, seq_t, bl_b, int_i, ix_l, ix_c, ix_t, ix_s, eqW_int, neW_int, ins_sl, nis_sl, isi_2, isiS, wk_s, wk_i, Option.some.injEq, Sum.inr.injEq, Sum.inl.injEq, reduceCtorEq, List.foldl_cons, List.foldl_nil, key_i, key_s, get_f, get_t, put_f, put_t, keys1, keys2, keys3,
      sl_len, sl_app, sl_cut, cut_last, cut_init, cut_1, cut_t1, cut_t2, zipW_map, lt_one, List.take_succ_cons, List.take_zero, List.take_nil, List.drop_succ_cons, List.drop_zero, strLt_sl, fit_iff, wipe_n, wipe_c, unO_n, unO_s, own_f, own_n,
      List.map_cons, List.map_nil, List.length_cons, List.length_nil, List.length_map, List.length_append, List.replicate, List.cons_append, List.nil_append, List.append_nil, List.getElem?_cons_zero, List.getElem?_cons_succ, List.getElem?_nil, List.set_cons_zero, List.set_cons_succ, List.getD_cons_zero, List.getD_cons_succ, List.any_cons, List.any_nil, List.all_cons, List.all_nil, List.zip_cons_cons, List.zip_nil_right, List.zip_nil_left, List.reverse_cons, List.reverse_nil,
      Option.map_some, Option.map_none, Option.bind_some, Option.bind_none, Option.bind_fun_some, Option.getD_some, Option.getD_none, Option.isSome_some, Option.isSome_none, Option.all_some, Option.all_none, id, if_true, if_false, ite_true, ite_false, reduceIte, true_and, and_true, Bool.not_true, Bool.not_false, Bool.or_self, Bool.and_self, Bool.or_false, Bool.false_or, Bool.or_true, Bool.true_or, Bool.and_true, Bool.true_and, Bool.and_false, Bool.false_and, decide_true, decide_false, Bool.false_eq_true, decide_eq_true_eq, Bool.not_eq_true', Nat.reduceAdd, Nat.reduceLeDiff, Nat.reduceLT, Nat.reduceSub, Nat.reduceMul, Nat.reduceEqDiff, Int.reduceLE, Int.reduceLT, Int.reduceNeg, Int.reduceEq, Int.reduceAdd, Int.reduceSub, Int.reduceMul, Int.reduceToNat, Nat.reduceBEq, String.reduceEq, decide_not, Nat.zero_add, Int.natCast_zero, Int.natCast_one, Int.cast_ofNat_Int, eqW_nil, neW_nil, okc_nil, kwOrd, List.filterMap_cons, List.filterMap_nil, List.lookup_cons, List.lookup_nil, sqb, ofString_iff, at0, at1, at2, at3])
def Rd.many (R : Rd) (web : List Nat) : Nat := (R.go 0 web.reverse).2
def Rd.end (R : Rd) (web : List Nat) : Nd := R.ns.getD (R.go 0 web.reverse).1 .none
def madeW (R : Rd) (web : List Nat) : W := match R.end web with
  | .none => .non
  | .stops s => strW (web.take (web.length - R.many web) ++ s)
  | .reads b _ => bareW b
theorem many_le {R : Rd} {web : List Nat} : R.many web ≤ web.length := by
  have := go_le (R := R) web.reverse 0
  rw [List.length_reverse] at this
  exact this
theorem end_ok {R : Rd} (hR : R.Ok) {web : List Nat} (ow : webOk R.L web = true) : NdOk R.L R.ns.length (R.end web) := by
  have h := go_ok hR web.reverse 0 (List.length_pos_iff.mpr hR.ne) fun c hc => webOk_mem ow c (by simpa using hc)
  unfold Rd.end
  rw [List.getD_eq_getElem?_getD, List.getElem?_eq_getElem h, Option.getD_some]
  exact hR.nd _ (List.getElem_mem h)
theorem way_eq {R : Rd} {web : List Nat} : wayW R web = .tup [.int (R.many web : Nat), (R.end web).w] := rfl
theorem rd_at {R : Rd} {m : String} (h : (m == "letters" || m == "nodes") = false := by decide) : R.fs.lookup (Str.ofString m) = none := by
  simp only [Bool.or_eq_false_iff, beq_eq_false_iff_ne] at h
  simp [Rd.fs, List.lookup, sqb, h]
theorem rd_w {R : Rd} : R.fs.lookup (Str.ofString "way_of") = none := rd_at
theorem rd_m {R : Rd} : R.fs.lookup (Str.ofString "made") = none := rd_at
theorem rd_r {R : Rd} : R.fs.lookup (Str.ofString "read_of") = none := rd_at
theorem made_spec {R : Rd} (hR : R.Ok) {web : List Nat} {st : Sto} (hl : web.length ≤ 5000) (ow : webOk R.L web = true) : f_Reader_made [R.w, strW web] st = .ok (madeW R web) st := by
  have e := way_of_spec hR (st := st) hl ow
  have ok := end_ok hR ow
  have ml := many_le (R := R) (web := web)
  have fw : web.length ≤ 100000 := by omega
  have hs : (web.length : Int) - (R.many web : Nat) = ((web.length - R.many web : Nat) : Int) := by omega
  rw [way_eq] at e
  unfold madeW
  refine ok_of ?_
  unfold f_Reader_made
  generalize R.many web = M at *
  cases q : R.end web with
  | none =>
    rw [q] at e
    have ew : Nd.none.w = .tup [.str "none"] := rfl
    rw [ew] at e
    wp_walk using rd_w, e, eqW_lit, neW_lit
  | stops s =>
    rw [q] at e ok
    have ew : (Nd.stops s).w = .tup [.str "stops", strW s] := rfl
    rw [ew] at e
    have ff : (web.take (web.length - M)).length + s.length ≤ 100000 := by have := ok.2; rw [List.length_take]; omega
    wp_walk using rd_w, e, eqW_lit, neW_lit, x_i_Reader_made_0, fw, hs, cut_to (a := web) (k := web.length - M), ff
  | reads b to =>
    rw [q] at e
    have ew : (Nd.reads b to).w = .tup (.str "reads" :: bareW b :: to.map natW) := rfl
    rw [ew] at e
    wp_walk using rd_w, e, eqW_lit, neW_lit, x_i_Reader_made_0
theorem read_of_spec {R : Rd} (hR : R.Ok) {web : List Nat} {st : Sto} (hl : web.length ≤ 5000) (ow : webOk R.L web = true) : f_Reader_read_of [R.w, strW web] st = .ok (.int (R.many web : Nat)) st := by
  have e := way_of_spec hR (st := st) hl ow
  rw [way_eq] at e
  refine ok_of ?_
  unfold f_Reader_read_of
  wp_walk using rd_w, e
theorem hitW : hit_BadWeb "BadWeb" = some true := by decide
theorem way_bad {R : Rd} {w : W} {st : Sto} (h : ∀ st, f_is_web [.str (sl R.L), w] st = .ok (.bl false) st) : f_Reader_way_of [R.w, w] st = .ex "BadWeb" [("thing", w)] st := by
  have e := h st
  refine ex_of ?_
  unfold f_Reader_way_of
  wp_walk using rd_le, e
theorem made_bad {R : Rd} {w : W} {st : Sto} (h : ∀ st, f_is_web [.str (sl R.L), w] st = .ok (.bl false) st) : f_Reader_made [R.w, w] st = .ex "BadWeb" [("thing", w)] st := by
  have e := way_bad (st := st) h
  refine ex_of ?_
  unfold f_Reader_made
  wp_walk using rd_w, e
theorem read_bad {R : Rd} {w : W} {st : Sto} (h : ∀ st, f_is_web [.str (sl R.L), w] st = .ok (.bl false) st) : f_Reader_read_of [R.w, w] st = .ex "BadWeb" [("thing", w)] st := by
  have e := way_bad (st := st) h
  refine ex_of ?_
  unfold f_Reader_read_of
  wp_walk using rd_w, e
def saidW (R : Rd) (web : List Nat) (way : Int) : W := if way < 2 then madeW R web else .int (R.many web : Nat)
theorem sh_said {R : Rd} (hR : R.Ok) {web : List Nat} {way : Int} (hl : web.length ≤ 500) (ow : webOk R.L web = true) : Sh 10000 12 (saidW R web way) := by
  unfold saidW madeW
  have ok := end_ok hR ow
  have ml := many_le (R := R) (web := web)
  split
  · generalize R.end web = d at *
    cases d with
    | none => exact ⟨rfl, by simp [rl], by simp [rd]⟩
    | stops s =>
      refine ⟨?_, ?_, by simp [rd]⟩
      · simp only [rk, strOk_sl]
        rw [okc_app, okc_let hR.lt ok.1, okc_let hR.lt (webOk_of fun c hc => webOk_mem ow c (List.mem_of_mem_take hc))]
        rfl
      · have := ok.2
        simp only [rl, sl_len, List.length_append, List.length_take]; omega
    | reads b to =>
      cases b with
      | none => exact ⟨rfl, by simp [bareW, rl], by simp [bareW, rd]⟩
      | some s =>
        obtain ⟨h1, h2⟩ := ok.1 s rfl
        refine ⟨?_, ?_, by simp [bareW, rd]⟩
        · simp only [bareW, rk, strOk_sl]; exact okc_let hR.lt h1
        · simp only [bareW, rl, sl_len]; omega
  · exact (sh_int (i := R.many web) (by omega)).mono (by decide) (by decide)
theorem repr_sh {w : W} (h : Sh 10000 12 w) : reprW w = some (.str (rtx w)) := reprW_of h.k (Nat.le_trans h.l (by decide)) (Nat.le_trans h.d (by decide))
theorem dr_made {R : Rd} {web : List Nat} {st : Sto} : deref st (madeW R web) = madeW R web := by
  unfold madeW
  cases R.end web with
  | none => rfl
  | stops s => rfl
  | reads b to => cases b <;> rfl
theorem heard_ok {R : Rd} (hR : R.Ok) {web : List Nat} {st : Sto} {way : Int} (hl : web.length ≤ 500) (ow : webOk R.L web = true) (hw : way = 0 ∨ way = 1 ∨ way = 2 ∨ way = 3) : f__law_heard [.int way, R.w, strW web] st = .ok (.str (rtx (saidW R web way))) st := by
  have e1 := made_spec hR (st := st) (by omega) ow
  have e2 := read_of_spec hR (st := st) (by omega) ow
  have r1 := repr_sh (sh_said hR (way := 0) hl ow)
  have r2 := repr_sh (sh_said hR (way := 2) hl ow)
  have s0 : saidW R web 0 = madeW R web := rfl
  have s1 : saidW R web 1 = madeW R web := rfl
  have s2 : saidW R web 2 = .int (R.many web : Nat) := rfl
  have s3 : saidW R web 3 = .int (R.many web : Nat) := rfl
  rw [s0] at r1
  rw [s2] at r2
  refine ok_of ?_
  unfold f__law_heard
  rcases hw with rfl | rfl | rfl | rfl
  · wp_walk using dr_made, rd_m, rd_r, e1, e2, x_i__law_heard_0, x_i__law_heard_1, s0, s1, s2, s3, r1, r2
  · wp_walk using dr_made, rd_m, rd_r, e1, e2, x_i__law_heard_0, x_i__law_heard_1, s0, s1, s2, s3, r1, r2
  · wp_walk using dr_made, rd_m, rd_r, e1, e2, x_i__law_heard_0, x_i__law_heard_1, s0, s1, s2, s3, r1, r2
  · wp_walk using dr_made, rd_m, rd_r, e1, e2, x_i__law_heard_0, x_i__law_heard_1, s0, s1, s2, s3, r1, r2
def badL (w : W) : W := .lst [.str "bad", w, .bl true]
theorem heard_bad {R : Rd} {w : W} {st : Sto} {way : Int} (h : ∀ st, f_is_web [.str (sl R.L), w] st = .ok (.bl false) st) (hs : Sh 10000 12 (badL w)) (hw : way = 0 ∨ way = 1 ∨ way = 2 ∨ way = 3) : f__law_heard [.int way, R.w, w] st = .ok (.str (rtx (badL w))) st := by
  have e1 := made_bad (st := st) h
  have e2 := read_bad (st := st) h
  have r1 := repr_sh hs
  unfold badL at r1 ⊢
  refine ok_of ?_
  unfold f__law_heard
  rcases hw with rfl | rfl | rfl | rfl <;> wp_walk using rd_m, rd_r, e1, e2, x_i__law_heard_0, x_i__law_heard_1, hitW, r1
end Toy

namespace Toy
open PySem L2 MH
local macro_rules
  | `(tactic| wp_walk) => `(tactic| wp_walk using dr_str)
local macro_rules
  | `(tactic| wp_walk using $ts,*) => `(tactic| simp only [$[$ts:term],*, ↓w_methK, sub_aug, ↓w_body, ↓w_bodyT, kept_app, kept_self, take_app, gapp, gapp0, sapp, sapp0, ↓w_star, star_s, star_l, star_t, ↓w_aug, slK_f, goW, augR_s, aug_ii, aug_ss, ↓w_chain, ↓w_lput, lput_last, atm1, popR_l, popL_s, ↓w_keys, keysI, ↓w_lcV, lcVs_l, revS_sl, List.append_assoc, lb, lbL, lbF, lbD, ↓w_bin, ↓w_tup, ↓w_lst, ↓w_eite, ↓w_call, ↓w_fn, ↓w_fnK, ↓w_slice, ↓w_un, ↓w_dix, ↓w_get1, ↓w_get2, ↓w_din, ↓w_dni, ↓w_loc, ↓w_ms, ↓w_pop, ↓w_meth, ↓w_own, ↓w_map, ↓w_dict, ↓w_make, ↓w_makeK, ↓w_lc, ↓w_eand, ↓w_eor, ↓w_enot,
      ↓w_pk, ↓w_acons, ↓w_hcons, ↓w_qcons, ↓w_tval, ↓w_tnot, ↓w_tand, ↓w_tor, ↓w_oat, ↓w_iof, ↓w_irange, ↓w_ienum, ↓w_izip, ↓w_cons, ↓w_ret, ↓w_set, ↓w_zown, ↓w_expr, ↓w_zite, ↓w_app, ↓w_ext, ↓w_dput, ↓w_sattr, ↓w_raise, ↓w_par, ↓w_parO, ↓w_par3, ↓w_asg, ↓w_for, ↓w_fcons, ↓w_fnil, ↓w_lccons, ↓w_lcnil, ↓w_try, ↓w_hnil, ↓w_hncons,
      goE, goX, goN, goS, goY, ↓goP, goB, goL, goI, wE_ok, wE_ex, wE_no, wS_ok, wS_ex, wS_no, iP_t, iP_f, iP_not, nK_nx, nK_rt, nK_bk, nK_ct, fK_nx, fK_rt, lK_nx, lK_ct, lK_bk, lK_rt, bP_some, bP_none, lsK_l, hK_t, hK_f, inK, wE_iteN, wS_iteN, liftIte, liftNone, lift_s, dpR,
      var_f, c_f, pvar_f, anil_f, hnil_f, qnil_f, ono_f, yes_f, xatt, znil_f, zretN_f, zbrk_f, zcont_f, zfrz_f, bname_f, btup_f, bcons_f, bnil_f, wrS_f, wrH_s, wrH_l, one_1, view_f, view_s, dr_str, dr_int, dr_bl, dr_non, dr_lst, dr_scr, dr_tup, dr_stp, dr_dct, dr_ins, dr_cls, dr_ty, dr_loc, isN_str, isN_int, isN_bl, isN_non, isN_lst, isN_tup, isN_dct, isN_ins,
      add_ii, add_ss, add_tt, add_ll, sub_ii, mul_ii, mul_si, mul_li, mod_ii, fdiv_ii, lt_ii, lt_sl, le_ii, le_sl, gt_ii, gt_sl, ge_ii, ge_sl, isn_n, notn_n, len_l, len_c, len_t, len_s, len_d, int1_i, slc_l, slc_c, slc_t, slc_s, rev_l, rev_c, isS_s, isL_l, isD_d, items_sl, it_lst, it_scr, it_tup, it_stp, enumO_1, zipO_2, neg_i, tpl_l, tpl_c, tpl_t, seq_l, seq_c, seq_t, bl_b, int_i, ix_l, ix_c, ix_t, ix_s, eqW_int, neW_int, ins_sl, nis_sl, isi_2, isiS, wk_s, wk_i, Option.some.injEq, Sum.inr.injEq, Sum.inl.injEq, reduceCtorEq, List.foldl_cons, List.foldl_nil, key_i, key_s, get_f, get_t, put_f, put_t, keys1, keys2, keys3,
      sl_len, sl_app, sl_cut, cut_last, cut_init, cut_1, cut_t1, cut_t2, zipW_map, lt_one, List.take_succ_cons, List.take_zero, List.take_nil, List.drop_succ_cons, List.drop_zero, strLt_sl, fit_iff, wipe_n, wipe_c, unO_n, unO_s, own_f, own_n,
      List.map_cons, List.map_nil, List.length_cons, List.length_nil, List.length_map, List.length_append, List.replicate, List.cons_append, List.nil_append, List.append_nil, List.getElem?_cons_zero, List.getElem?_cons_succ, List.getElem?_nil, List.set_cons_zero, List.set_cons_succ, List.getD_cons_zero, List.getD_cons_succ, List.any_cons, List.any_nil, List.all_cons, List.all_nil, List.zip_cons_cons, List.zip_nil_right, List.zip_nil_left, List.reverse_cons, List.reverse_nil,
      Option.map_some, Option.map_none, Option.bind_some, Option.bind_none, Option.bind_fun_some, Option.getD_some, Option.getD_none, Option.isSome_some, Option.isSome_none, Option.all_some, Option.all_none, id, if_true, if_false, ite_true, ite_false, reduceIte, true_and, and_true, Bool.not_true, Bool.not_false, Bool.or_self, Bool.and_self, Bool.or_false, Bool.false_or, Bool.or_true, Bool.true_or, Bool.and_true, Bool.true_and, Bool.and_false, Bool.false_and, decide_true, decide_false, Bool.false_eq_true, decide_eq_true_eq, Bool.not_eq_true', Nat.reduceAdd, Nat.reduceLeDiff, Nat.reduceLT, Nat.reduceSub, Nat.reduceMul, Nat.reduceEqDiff, Int.reduceLE, Int.reduceLT, Int.reduceNeg, Int.reduceEq, Int.reduceAdd, Int.reduceSub, Int.reduceMul, Int.reduceToNat, Nat.reduceBEq, String.reduceEq, decide_not, Nat.zero_add, Int.natCast_zero, Int.natCast_one, Int.cast_ofNat_Int, eqW_nil, neW_nil, okc_nil, kwOrd, List.filterMap_cons, List.filterMap_nil, List.lookup_cons, List.lookup_nil, sqb, ofString_iff, at0, at1, at2, at3])
def lmEn (R : Rd) (web : List Nat) (k m : Nat) : En := [some (false, .str (sl R.L)), some (false, .tup R.nw), some (false, strW web), some (false, .int (k : Nat)), some (false, .int (m : Nat))]
theorem lmade_spec {R : Rd} (hR : R.Ok) {web : List Nat} {st : Sto} (hl : web.length ≤ 5000) (ow : webOk R.L web = true) : f__law_made [.str (sl R.L), .tup R.nw, strW web] st = .ok (.tup [madeW R web, .int (R.many web : Nat)]) st := by
  have fw : web.length ≤ 100000 := by omega
  have hw := webOk_mem ow
  have h0 : 0 < R.ns.length := List.length_pos_iff.mpr hR.ne
  obtain ⟨d0, hd0⟩ : ∃ d0, R.ns[0]? = some d0 := ⟨R.ns[0], by simp⟩
  refine ok_of ?_
  unfold f__law_made
  wp_walk
  refine wp_stmt (wp_while (I := fun p en s => s = st ∧ ∃ k m d, p + m = web.length ∧ R.ns[k]? = some d ∧ en = lmEn R web k m ∧ (R.go 0 web.reverse).1 = (R.go k (web.take p).reverse).1 ∧ (R.go 0 web.reverse).2 = m + (R.go k (web.take p).reverse).2)
    (Q := fun en s => s = st ∧ ∃ k m d, R.ns[k]? = some d ∧ en = lmEn R web k m ∧ (R.go 0 web.reverse).1 = k ∧ (R.go 0 web.reverse).2 = m) ?_ web.length _ st ⟨rfl, 0, 0, d0, by simp, hd0, rfl, by simp, by simp⟩) ?_
  · rintro p en s ⟨rfl, k, m, d, hp, hk, rfl, g1, g2⟩
    have hat := at_nd hk
    have cd : (∃ b to, d = .reads b to) ∨ R.go k (web.take p).reverse = (k, 0) ∧ (d.w = .tup [.str "none"] ∨ ∃ t, d.w = .tup [.str "stops", strW t]) := by
      cases d with
      | none => exact .inr ⟨by cases (web.take p).reverse <;> simp [Rd.go, hk], .inl rfl⟩
      | stops t => exact .inr ⟨by cases (web.take p).reverse <;> simp [Rd.go, hk], .inr ⟨t, rfl⟩⟩
      | reads b to => exact .inl ⟨b, to, rfl⟩
    have fin : R.go k (web.take p).reverse = (k, 0) → ∃ k' m' : Nat, ∃ d, R.ns[k']? = some d ∧ lmEn R web k m = lmEn R web k' m' ∧ (R.go 0 web.reverse).1 = k' ∧ (R.go 0 web.reverse).2 = m' := fun e => ⟨k, m, d, hk, rfl, by rw [g1, e], by rw [g2, e]; rfl⟩
    unfold lmEn at fin ⊢
    rcases cd with ⟨b, to, rfl⟩ | ⟨eg, ew⟩
    · have ew : (Nd.reads b to).w = .tup (.str "reads" :: bareW b :: to.map natW) := rfl
      rw [ew] at hat
      cases p with
      | zero =>
        have hlt : ¬ ((m : Int) < (web.length : Int)) := by omega
        have := fin rfl
        wp_walk using x_u__law_made_0, eqW_lit, hat, fw, hlt
        exact this
      | succ p =>
        obtain ⟨c, k', d, h1, h2, h3, rfl, h5, h6⟩ := go_step hR hw (p := p) (by omega) hk
        have hlt : ((m : Int) < (web.length : Int)) := by omega
        have hsub : (web.length : Int) - 1 - (m : Int) = (p : Int) := by omega
        have ha : atI web (p : Int) = some c := by rw [MH.atI_nat, h1]
        have hix := (sx_of h2).1
        have hto := at_to (a := .str "reads") (b := bareW b) h3
        unfold natW at hto hat
        wp_walk using x_u__law_made_0, eqW_lit, hat, fw, hlt
        rw [wpSQ]
        wp_walk using x_b__law_made_0, hsub, hat, ha, hix, hto, fw
        refine ⟨.inl trivial, p, by omega, _, m + 1, d, by omega, h5, rfl, ?_, ?_⟩
        · rw [g1, h6]
        · rw [g2, h6]; dsimp only; omega
    · have fn := fin eg
      rcases ew with ew | ⟨t, ew⟩
      · rw [ew] at hat
        wp_walk using x_u__law_made_0, eqW_lit, hat
        exact fn
      · rw [ew] at hat
        wp_walk using x_u__law_made_0, eqW_lit, hat
        exact fn
  · rintro fl e s ⟨rfl, rfl, k, m, d, hk, rfl, g1, g2⟩
    have hat := at_nd hk
    have hm : R.many web = m := g2
    have he : R.end web = d := by
      unfold Rd.end
      rw [g1, List.getD_eq_getElem?_getD, hk]; rfl
    have ml := many_le (R := R) (web := web)
    have ok := end_ok hR ow
    have hs : (web.length : Int) - (m : Int) = ((web.length - m : Nat) : Int) := by omega
    unfold lmEn madeW
    rw [he] at ok ⊢
    rw [hm]
    cases d with
    | none =>
      have ew : Nd.none.w = .tup [.str "none"] := rfl
      rw [ew] at hat
      wp_walk using eqW_lit, hat, x_i__law_made_0
    | stops t =>
      have ew : (Nd.stops t).w = .tup [.str "stops", strW t] := rfl
      rw [ew] at hat
      have ff : (web.take (web.length - m)).length + t.length ≤ 100000 := by have := ok.2; rw [List.length_take]; omega
      wp_walk using eqW_lit, hat, x_i__law_made_0, fw, hs, cut_to (a := web) (k := web.length - m), ff
    | reads b to =>
      have ew : (Nd.reads b to).w = .tup (.str "reads" :: bareW b :: to.map natW) := rfl
      rw [ew] at hat
      wp_walk using eqW_lit, hat
/-- what is cut off is read alike under another base -/
theorem go_base {R : Rd} {web base : List Nat} (h : R.many web < web.length) : R.go 0 (base ++ web.drop (web.length - R.many web)).reverse = R.go 0 web.reverse := by
  have := (go_stop (R := R) web.reverse 0 (by rw [List.length_reverse]; exact h)).2 base.reverse
  rw [← this]
  congr 1
  rw [List.reverse_append, List.take_reverse]
  rfl
theorem end_base {R : Rd} {web base : List Nat} (h : R.many web < web.length) : R.end (base ++ web.drop (web.length - R.many web)) = R.end web ∧ R.many (base ++ web.drop (web.length - R.many web)) = R.many web ∧ (∀ b to, R.end web ≠ .reads b to) := by
  have e := go_base (base := base) h
  refine ⟨by unfold Rd.end; rw [e], by unfold Rd.many at e ⊢; rw [e], fun b to z => ?_⟩
  have h1 := (go_stop (R := R) web.reverse 0 (by rw [List.length_reverse]; exact h)).1 b to
  unfold Rd.end at z
  rw [List.getD_eq_getElem?_getD] at z
  cases q : R.ns[(R.go 0 web.reverse).1]? with
  | none => rw [q] at z; cases z
  | some d => rw [q] at z; cases z; exact h1 q
end Toy

namespace Toy
open PySem L2 MH
local macro_rules
  | `(tactic| wp_walk) => `(tactic| wp_walk using dr_str)
local macro_rules
  | `(tactic| wp_walk using $ts,*) => `(tactic| simp only [$[$ts:term],*, ↓w_methK, sub_aug, ↓w_body, ↓w_bodyT, kept_app, kept_self, take_app, gapp, gapp0, sapp, sapp0, ↓w_star, star_s, star_l, star_t, ↓w_aug, slK_f, goW, augR_s, aug_ii, aug_ss, ↓w_chain, ↓w_lput, lput_last, atm1, popR_l, popL_s, ↓w_keys, keysI, ↓w_lcV, lcVs_l, revS_sl, List.append_assoc, lb, lbL, lbF, lbD, ↓w_bin, ↓w_tup, ↓w_lst, ↓w_eite, ↓w_call, ↓w_fn, ↓w_fnK, ↓w_slice, ↓w_un, ↓w_dix, ↓w_get1, ↓w_get2, ↓w_din, ↓w_dni, ↓w_loc, ↓w_ms, ↓w_pop, ↓w_meth, ↓w_own, ↓w_map, ↓w_dict, ↓w_make, ↓w_makeK, ↓w_lc, ↓w_eand, ↓w_eor, ↓w_enot,
      ↓w_pk, ↓w_acons, ↓w_hcons, ↓w_qcons, ↓w_tval, ↓w_tnot, ↓w_tand, ↓w_tor, ↓w_oat, ↓w_iof, ↓w_irange, ↓w_ienum, ↓w_izip, ↓w_cons, ↓w_ret, ↓w_set, ↓w_zown, ↓w_expr, ↓w_zite, ↓w_app, ↓w_ext, ↓w_dput, ↓w_sattr, ↓w_raise, ↓w_par, ↓w_parO, ↓w_par3, ↓w_asg, ↓w_for, ↓w_fcons, ↓w_fnil, ↓w_lccons, ↓w_lcnil, ↓w_try, ↓w_hnil, ↓w_hncons,
      goE, goX, goN, goS, goY, ↓goP, goB, goL, goI, wE_ok, wE_ex, wE_no, wS_ok, wS_ex, wS_no, iP_t, iP_f, iP_not, nK_nx, nK_rt, nK_bk, nK_ct, fK_nx, fK_rt, lK_nx, lK_ct, lK_bk, lK_rt, bP_some, bP_none, lsK_l, hK_t, hK_f, inK, wE_iteN, wS_iteN, liftIte, liftNone, lift_s, dpR,
      var_f, c_f, pvar_f, anil_f, hnil_f, qnil_f, ono_f, yes_f, xatt, znil_f, zretN_f, zbrk_f, zcont_f, zfrz_f, bname_f, btup_f, bcons_f, bnil_f, wrS_f, wrH_s, wrH_l, one_1, view_f, view_s, dr_str, dr_int, dr_bl, dr_non, dr_lst, dr_scr, dr_tup, dr_stp, dr_dct, dr_ins, dr_cls, dr_ty, dr_loc, isN_str, isN_int, isN_bl, isN_non, isN_lst, isN_tup, isN_dct, isN_ins,
      add_ii, add_ss, add_tt, add_ll, sub_ii, mul_ii, mul_si, mul_li, mod_ii, fdiv_ii, lt_ii, lt_sl, le_ii, le_sl, gt_ii, gt_sl, ge_ii, ge_sl, isn_n, notn_n, len_l, len_c, len_t, len_s, len_d, int1_i, slc_l, slc_c, slc_t, slc_s, rev_l, rev_c, isS_s, isL_l, isD_d, items_sl, it_lst, it_scr, it_tup, it_stp, enumO_1, zipO_2, neg_i, tpl_l, tpl_c, tpl_t, seq_l, seq_c, seq_t, bl_b, int_i, ix_l, ix_c, ix_t, ix_s, eqW_int, neW_int, ins_sl, nis_sl, isi_2, isiS, wk_s, wk_i, Option.some.injEq, Sum.inr.injEq, Sum.inl.injEq, reduceCtorEq, List.foldl_cons, List.foldl_nil, key_i, key_s, get_f, get_t, put_f, put_t, keys1, keys2, keys3,
      sl_len, sl_app, sl_cut, cut_last, cut_init, cut_1, cut_t1, cut_t2, zipW_map, lt_one, List.take_succ_cons, List.take_zero, List.take_nil, List.drop_succ_cons, List.drop_zero, strLt_sl, fit_iff, wipe_n, wipe_c, unO_n, unO_s, own_f, own_n,
      List.map_cons, List.map_nil, List.length_cons, List.length_nil, List.length_map, List.length_append, List.replicate, List.cons_append, List.nil_append, List.append_nil, List.getElem?_cons_zero, List.getElem?_cons_succ, List.getElem?_nil, List.set_cons_zero, List.set_cons_succ, List.getD_cons_zero, List.getD_cons_succ, List.any_cons, List.any_nil, List.all_cons, List.all_nil, List.zip_cons_cons, List.zip_nil_right, List.zip_nil_left, List.reverse_cons, List.reverse_nil,
      Option.map_some, Option.map_none, Option.bind_some, Option.bind_none, Option.bind_fun_some, Option.getD_some, Option.getD_none, Option.isSome_some, Option.isSome_none, Option.all_some, Option.all_none, id, if_true, if_false, ite_true, ite_false, reduceIte, true_and, and_true, Bool.not_true, Bool.not_false, Bool.or_self, Bool.and_self, Bool.or_false, Bool.false_or, Bool.or_true, Bool.true_or, Bool.and_true, Bool.true_and, Bool.and_false, Bool.false_and, decide_true, decide_false, Bool.false_eq_true, decide_eq_true_eq, Bool.not_eq_true', Nat.reduceAdd, Nat.reduceLeDiff, Nat.reduceLT, Nat.reduceSub, Nat.reduceMul, Nat.reduceEqDiff, Int.reduceLE, Int.reduceLT, Int.reduceNeg, Int.reduceEq, Int.reduceAdd, Int.reduceSub, Int.reduceMul, Int.reduceToNat, Nat.reduceBEq, String.reduceEq, decide_not, Nat.zero_add, Int.natCast_zero, Int.natCast_one, Int.cast_ofNat_Int, eqW_nil, neW_nil, okc_nil, kwOrd, List.filterMap_cons, List.filterMap_nil, List.lookup_cons, List.lookup_nil, sqb, ofString_iff, at0, at1, at2, at3])
theorem word_sp {J : Sto} {L : List Nat} (hL : Lt L) (h26 : L.length ≤ 26) {T k : Int} {st : Sto} (hD : Dok J T st) (hT : T < 2 ^ 39) (k0 : 0 ≤ k) (k1 : k < 900) : wpQ (f__law_word [.loc 1, .str (sl L), .int k] st) fun w st' => ∃ s, w = .str (sl s) ∧ webOk L s = true ∧ (s.length : Int) ≤ k ∧ Dok J (T + k + 1) st' := by
  have hn : 0 < L.length := List.length_pos_iff.mpr hL.ne
  unfold f__law_word
  wp_walk
  refine wp_call (draw_sp hD (by omega) (b := k + 1) (by omega) (by omega)) ?_
  rintro _ s1 ⟨r, rfl, r0, r1, hD1⟩
  wp_walk using nil_lit, range_1 (decide_eq_true (by omega) : small62 r = true)
  refine wp_call (lc_picks (L := L) hD1 (by rw [rangeW_len]; omega) (by rw [rangeW_len]; omega) ?_) ?_
  · intro w _
    refine ⟨_, rfl, fun T st hD hT => ?_⟩
    wp_walk using x_e__law_word_0
    exact pick_str hD hT hn (by omega)
  · rintro _ s2 ⟨cs, rfl, hlen, hc, hD2⟩
    rw [rangeW_len] at hlen hD2
    wp_walk using nil_lit, joinW_one (cs := cs) (by omega)
    exact ⟨cs, rfl, webOk_of hc, by omega, hD2.mono (by omega)⟩
theorem lc_draws {J : Sto} {n : Nat} (n0 : 0 < n) (n1 : n ≤ 50) {T : Int} {st : Sto} {items : List W} {a1 a2 a4 a5 a6 a7 : Slt} (hD : Dok J T st) (hT : T + items.length < 2 ^ 40) (hl : items.length ≤ 100000) :
    wpQ (lcZ [8] (Bd.name 8) MH.T.yes e__law_nodes_0 [some (false, .loc 1), a1, a2, some (false, .int n), a4, a5, a6, a7, none] items [] st) fun xs st' => ∃ to : List Nat, xs = to.map natW ∧ to.length = items.length ∧ (∀ i ∈ to, i < n) ∧ Dok J (T + items.length) st' := by
  have := wp_lc (ns := [8]) (bd := Bd.name 8) (m := e__law_nodes_0) (en := [some (false, .loc 1), a1, a2, some (false, .int n), a4, a5, a6, a7, none]) (items := items) (st := st) (fun ws acc s => ∃ to : List Nat, acc = to.map natW ∧ (∀ i ∈ to, i < n) ∧ Dok J (T + to.length) s) hl ⟨[], rfl, fun c h => absurd h List.not_mem_nil, by simpa using hD⟩ (by
    rintro w ws acc s hw hlen ⟨to, rfl, hc, hd⟩
    rw [List.length_map] at hlen
    refine ⟨_, rfl, ?_⟩
    wp_walk using x_e__law_nodes_0
    refine wp_call (draw_sp hd (by omega) (b := (n : Int)) (by omega) (by omega)) ?_
    rintro _ s' ⟨r, rfl, r0, r1, hd'⟩
    obtain ⟨i, rfl⟩ : ∃ i : Nat, r = i := ⟨r.toNat, by omega⟩
    refine ⟨to ++ [i], by simp [natW], ?_, hd'.mono (by simp; omega)⟩
    intro j hj
    rcases List.mem_append.mp hj with h | h
    · exact hc j h
    · rw [List.mem_singleton.mp h]; omega)
  refine wp_call this ?_
  rintro _ s ⟨hlen, to, rfl, hc, hd⟩
  rw [List.length_map] at hlen
  exact ⟨to, rfl, hlen, hc, hlen ▸ hd⟩
theorem bare_of {L t : List Nat} {w : W} (ot : webOk L t = true) (lt : t.length ≤ 10) (hw : w ∈ [W.non, strW [], strW t]) : ∃ b, w = bareW b ∧ ∀ s, b = some s → webOk L s = true ∧ s.length ≤ 10 := by
  simp only [List.mem_cons, List.not_mem_nil, or_false] at hw
  rcases hw with rfl | rfl | rfl
  · exact ⟨none, rfl, fun s h => by cases h⟩
  · exact ⟨some [], rfl, fun s h => by cases h; exact ⟨rfl, by simp⟩⟩
  · exact ⟨some t, rfl, fun s h => by cases h; exact ⟨ot, lt⟩⟩
def nEn (L : List Nat) (top : Int) (n : Nat) (a5 a6 a7 : Slt) : En := [some (false, .loc 1), some (false, .str (sl L)), some (false, .int top), some (false, .int n), some (false, .loc 2), a5, a6, a7, none]
theorem nodes_body {L : List Nat} (hL : Lt L) (h26 : L.length ≤ 26) {top : Int} {n : Nat} (n0 : 0 < n) (n1 : n ≤ 50) {k : Int} {ds : List Nd} (hds : ∀ d ∈ ds, NdOk L n d) (hl : ds.length ≤ 50) {T : Int} {st : Sto} (hD : Dok [.lst (ds.map Nd.w)] T st) (hT : T < 2 ^ 38) {a6 a7 : Slt} {x : CoY} :
    wpSQ (b__law_nodes_0 (nEn L top n (some (false, .int k)) a6 a7) st) (fun fl e s => fl = .nx ∧ ∃ a6 a7 d, e = nEn L top n (some (false, .int k)) a6 a7 ∧ NdOk L n d ∧ Dok [.lst ((ds ++ [d]).map Nd.w)] (T + 40) s) x := by
  have fl : ds.length ≤ 100000 := by omega
  have fL : L.length ≤ 100000 := by omega
  have fin : ∀ (T' : Int) (s : Sto) (d : Nd) (w : W), Dok [.lst (ds.map Nd.w)] T' s → T' ≤ T + 40 → d.w = w → ∃ c0 c1, s = c0 :: c1 :: [.lst (ds.map Nd.w)] ∧ Dok [.lst ((ds ++ [d]).map Nd.w)] (T + 40) (c0 :: c1 :: [.lst (ds.map Nd.w ++ [w])]) := by
    rintro T' s d w ⟨dk, rfl, h1, h2, h3⟩ hle rfl
    exact ⟨_, _, rfl, dk, by simp [Dk.st], h1, by omega, h3⟩
  have gd2 : ∀ (T' : Int) (s : Sto), Dok [.lst (ds.map Nd.w)] T' s → s.getD 2 .non = .lst (ds.map Nd.w) := by
    rintro T' s ⟨dk, rfl, _⟩
    rfl
  have il : ∀ ws : List W, isLst (.lst ws) = true := fun _ => rfl
  unfold nEn
  wp_walk using x_b__law_nodes_0
  refine wp_call (draw_sp hD (by omega) (b := 7) (by omega) (by omega)) ?_
  rintro _ s1 ⟨r, rfl, r0, r1, hD1⟩
  by_cases g0 : r = 0
  · obtain ⟨c0, c1, rfl, hD2⟩ := fin _ s1 .none _ hD1 (by omega) rfl
    wp_walk using g0, x_i__law_nodes_0, fl
    exact ⟨_, _, .none, rfl, trivial, hD2⟩
  · by_cases g1 : 1 < r
    · by_cases g2 : r < 4
      · by_cases g3 : 0 < k
        · have gd := gd2 _ _ hD1
          wp_walk using g0, g1, g2, g3, x_i__law_nodes_0, gd, il
          refine wp_call (word_sp hL h26 hD1 (by omega) (k := 3) (by omega) (by omega)) ?_
          rintro _ s2 ⟨t, rfl, ot, lt, hD2⟩
          obtain ⟨c0, c1, rfl, hD3⟩ := fin _ s2 (.stops t) _ hD2 (by omega) rfl
          wp_walk using fl
          exact ⟨_, _, .stops t, rfl, ⟨ot, by omega⟩, hD3⟩
        · have g3 : ¬ 0 < k := g3
          wp_walk using g0, g1, g2, g3
          refine wp_call (word_sp hL h26 hD1 (by omega) (k := 3) (by omega) (by omega)) ?_
          rintro _ s2 ⟨t, rfl, ot, lt, hD2⟩
          wp_walk using nil_lit
          refine wp_call (pick_lst (ws := [.non, strW [], strW t]) hD2 (by omega) (by simp) (by simp)) ?_
          rintro w s3 ⟨hw, hD3⟩
          obtain ⟨b, rfl, hb⟩ := bare_of ot (by omega) hw
          have gd := gd2 _ _ hD3
          wp_walk using gd, il, fL
          refine wp_call (lc_draws n0 n1 hD3 (by simp; omega) (by simp; omega)) ?_
          rintro _ s4 ⟨to, rfl, hlen, hto, hD4⟩
          rw [List.length_map] at hlen hD4
          obtain ⟨c0, c1, rfl, hD5⟩ := fin _ s4 (.reads b to) _ hD4 (by omega) rfl
          have f2 : 2 + to.length ≤ 100000 := by omega
          have f3 : to.length ≤ 99998 := by omega
          wp_walk using fl, f2, f3
          exact ⟨_, _, .reads b to, rfl, ⟨hb, hlen, hto⟩, hD5⟩
      · have g2 : ¬ r < 4 := g2
        wp_walk using g0, g1, g2
        refine wp_call (word_sp hL h26 hD1 (by omega) (k := 3) (by omega) (by omega)) ?_
        rintro _ s2 ⟨t, rfl, ot, lt, hD2⟩
        wp_walk using nil_lit
        refine wp_call (pick_lst (ws := [.non, strW [], strW t]) hD2 (by omega) (by simp) (by simp)) ?_
        rintro w s3 ⟨hw, hD3⟩
        obtain ⟨b, rfl, hb⟩ := bare_of ot (by omega) hw
        have gd := gd2 _ _ hD3
        wp_walk using gd, il, fL
        refine wp_call (lc_draws n0 n1 hD3 (by simp; omega) (by simp; omega)) ?_
        rintro _ s4 ⟨to, rfl, hlen, hto, hD4⟩
        rw [List.length_map] at hlen hD4
        obtain ⟨c0, c1, rfl, hD5⟩ := fin _ s4 (.reads b to) _ hD4 (by omega) rfl
        have f2 : 2 + to.length ≤ 100000 := by omega
        have f3 : to.length ≤ 99998 := by omega
        wp_walk using fl, f2, f3
        exact ⟨_, _, .reads b to, rfl, ⟨hb, hlen, hto⟩, hD5⟩
    · have g1 : ¬ 1 < r := g1
      wp_walk using g0, g1
      refine wp_call (word_sp hL h26 hD1 (by omega) (k := 3) (by omega) (by omega)) ?_
      rintro _ s2 ⟨t, rfl, ot, lt, hD2⟩
      wp_walk using nil_lit
      refine wp_call (pick_lst (ws := [.non, strW [], strW t]) hD2 (by omega) (by simp) (by simp)) ?_
      rintro w s3 ⟨hw, hD3⟩
      obtain ⟨b, rfl, hb⟩ := bare_of ot (by omega) hw
      have gd := gd2 _ _ hD3
      wp_walk using gd, il, fL
      refine wp_call (lc_draws n0 n1 hD3 (by simp; omega) (by simp; omega)) ?_
      rintro _ s4 ⟨to, rfl, hlen, hto, hD4⟩
      rw [List.length_map] at hlen hD4
      obtain ⟨c0, c1, rfl, hD5⟩ := fin _ s4 (.reads b to) _ hD4 (by omega) rfl
      have f2 : 2 + to.length ≤ 100000 := by omega
      have f3 : to.length ≤ 99998 := by omega
      wp_walk using fl, f2, f3
      exact ⟨_, _, .reads b to, rfl, ⟨hb, hlen, hto⟩, hD5⟩
end Toy

namespace Toy
open PySem L2 MH
local macro_rules
  | `(tactic| wp_walk) => `(tactic| wp_walk using dr_str)
local macro_rules
  | `(tactic| wp_walk using $ts,*) => `(tactic| simp only [$[$ts:term],*, ↓w_methK, sub_aug, ↓w_body, ↓w_bodyT, kept_app, kept_self, take_app, gapp, gapp0, sapp, sapp0, ↓w_star, star_s, star_l, star_t, ↓w_aug, slK_f, goW, augR_s, aug_ii, aug_ss, ↓w_chain, ↓w_lput, lput_last, atm1, popR_l, popL_s, ↓w_keys, keysI, ↓w_lcV, lcVs_l, revS_sl, List.append_assoc, lb, lbL, lbF, lbD, ↓w_bin, ↓w_tup, ↓w_lst, ↓w_eite, ↓w_call, ↓w_fn, ↓w_fnK, ↓w_slice, ↓w_un, ↓w_dix, ↓w_get1, ↓w_get2, ↓w_din, ↓w_dni, ↓w_loc, ↓w_ms, ↓w_pop, ↓w_meth, ↓w_own, ↓w_map, ↓w_dict, ↓w_make, ↓w_makeK, ↓w_lc, ↓w_eand, ↓w_eor, ↓w_enot,
      ↓w_pk, ↓w_acons, ↓w_hcons, ↓w_qcons, ↓w_tval, ↓w_tnot, ↓w_tand, ↓w_tor, ↓w_oat, ↓w_iof, ↓w_irange, ↓w_ienum, ↓w_izip, ↓w_cons, ↓w_ret, ↓w_set, ↓w_zown, ↓w_expr, ↓w_zite, ↓w_app, ↓w_ext, ↓w_dput, ↓w_sattr, ↓w_raise, ↓w_par, ↓w_parO, ↓w_par3, ↓w_asg, ↓w_for, ↓w_fcons, ↓w_fnil, ↓w_lccons, ↓w_lcnil, ↓w_try, ↓w_hnil, ↓w_hncons,
      goE, goX, goN, goS, goY, ↓goP, goB, goL, goI, wE_ok, wE_ex, wE_no, wS_ok, wS_ex, wS_no, iP_t, iP_f, iP_not, nK_nx, nK_rt, nK_bk, nK_ct, fK_nx, fK_rt, lK_nx, lK_ct, lK_bk, lK_rt, bP_some, bP_none, lsK_l, hK_t, hK_f, inK, wE_iteN, wS_iteN, liftIte, liftNone, lift_s, dpR,
      var_f, c_f, pvar_f, anil_f, hnil_f, qnil_f, ono_f, yes_f, xatt, znil_f, zretN_f, zbrk_f, zcont_f, zfrz_f, bname_f, btup_f, bcons_f, bnil_f, wrS_f, wrH_s, wrH_l, one_1, view_f, view_s, dr_str, dr_int, dr_bl, dr_non, dr_lst, dr_scr, dr_tup, dr_stp, dr_dct, dr_ins, dr_cls, dr_ty, dr_loc, isN_str, isN_int, isN_bl, isN_non, isN_lst, isN_tup, isN_dct, isN_ins,
      add_ii, add_ss, add_tt, add_ll, sub_ii, mul_ii, mul_si, mul_li, mod_ii, fdiv_ii, lt_ii, lt_sl, le_ii, le_sl, gt_ii, gt_sl, ge_ii, ge_sl, isn_n, notn_n, len_l, len_c, len_t, len_s, len_d, int1_i, slc_l, slc_c, slc_t, slc_s, rev_l, rev_c, isS_s, isL_l, isD_d, items_sl, it_lst, it_scr, it_tup, it_stp, enumO_1, zipO_2, neg_i, tpl_l, tpl_c, tpl_t, seq_l, seq_c, seq_t, bl_b, int_i, ix_l, ix_c, ix_t, ix_s, eqW_int, neW_int, ins_sl, nis_sl, isi_2, isiS, wk_s, wk_i, Option.some.injEq, Sum.inr.injEq, Sum.inl.injEq, reduceCtorEq, List.foldl_cons, List.foldl_nil, key_i, key_s, get_f, get_t, put_f, put_t, keys1, keys2, keys3,
      sl_len, sl_app, sl_cut, cut_last, cut_init, cut_1, cut_t1, cut_t2, zipW_map, lt_one, List.take_succ_cons, List.take_zero, List.take_nil, List.drop_succ_cons, List.drop_zero, strLt_sl, fit_iff, wipe_n, wipe_c, unO_n, unO_s, own_f, own_n,
      List.map_cons, List.map_nil, List.length_cons, List.length_nil, List.length_map, List.length_append, List.replicate, List.cons_append, List.nil_append, List.append_nil, List.getElem?_cons_zero, List.getElem?_cons_succ, List.getElem?_nil, List.set_cons_zero, List.set_cons_succ, List.getD_cons_zero, List.getD_cons_succ, List.any_cons, List.any_nil, List.all_cons, List.all_nil, List.zip_cons_cons, List.zip_nil_right, List.zip_nil_left, List.reverse_cons, List.reverse_nil,
      Option.map_some, Option.map_none, Option.bind_some, Option.bind_none, Option.bind_fun_some, Option.getD_some, Option.getD_none, Option.isSome_some, Option.isSome_none, Option.all_some, Option.all_none, id, if_true, if_false, ite_true, ite_false, reduceIte, true_and, and_true, Bool.not_true, Bool.not_false, Bool.or_self, Bool.and_self, Bool.or_false, Bool.false_or, Bool.or_true, Bool.true_or, Bool.and_true, Bool.true_and, Bool.and_false, Bool.false_and, decide_true, decide_false, Bool.false_eq_true, decide_eq_true_eq, Bool.not_eq_true', Nat.reduceAdd, Nat.reduceLeDiff, Nat.reduceLT, Nat.reduceSub, Nat.reduceMul, Nat.reduceEqDiff, Int.reduceLE, Int.reduceLT, Int.reduceNeg, Int.reduceEq, Int.reduceAdd, Int.reduceSub, Int.reduceMul, Int.reduceToNat, Nat.reduceBEq, String.reduceEq, decide_not, Nat.zero_add, Int.natCast_zero, Int.natCast_one, Int.cast_ofNat_Int, eqW_nil, neW_nil, okc_nil, kwOrd, List.filterMap_cons, List.filterMap_nil, List.lookup_cons, List.lookup_nil, sqb, ofString_iff, at0, at1, at2, at3])
theorem nodes_loop {L : List Nat} (hL : Lt L) (h26 : L.length ≤ 26) {top : Int} {n : Nat} (n0 : 0 < n) (n1 : n ≤ 50) {x : CoY} : ∀ (is : List Int) (ds : List Nd) (T : Int) (st : Sto) (a5 a6 a7 : Slt), (∀ d ∈ ds, NdOk L n d) → ds.length + is.length ≤ 50 → Dok [.lst (ds.map Nd.w)] T st → T + 40 * is.length < 2 ^ 37 →
    wpSQ (forZ (Bd.name 5) b__law_nodes_0 (is.map .int) (nEn L top n a5 a6 a7) st) (fun fl e s => fl = .nx ∧ ∃ (a5 a6 a7 : Slt) (ds' : List Nd), e = nEn L top n a5 a6 a7 ∧ (∀ d ∈ ds', NdOk L n d) ∧ ds'.length = ds.length + is.length ∧ Dok [.lst (ds'.map Nd.w)] (T + 40 * is.length) s) x
  | [], ds, T, st, a5, a6, a7, hds, hl, hD, hT => ⟨rfl, a5, a6, a7, ds, rfl, hds, by simp, by simpa using hD⟩
  | i :: is, ds, T, st, a5, a6, a7, hds, hl, hD, hT => by
    rw [List.length_cons] at hl hT
    have hb := nodes_body hL h26 (top := top) n0 n1 (k := i) hds (by omega) hD (by omega) (a6 := a6) (a7 := a7) (x := x)
    rw [List.map_cons, wpSQ, w_fcons]
    unfold nEn at hb ⊢
    wp_walk
    refine wp_stmt hb ?_
    rintro fl e s ⟨rfl, b6, b7, d, rfl, hd, hD'⟩
    wp_walk
    have ih := nodes_loop hL h26 (top := top) n0 n1 (x := x) is (ds ++ [d]) (T + 40) s (some (false, .int i)) b6 b7 (fun e he => by
      rcases List.mem_append.mp he with h | h
      · exact hds e h
      · rw [List.mem_singleton.mp h]; exact hd) (by simp; omega) hD' (by omega)
    unfold nEn at ih
    refine wp_stmt ih ?_
    rintro fl e s ⟨rfl, c5, c6, c7, ds', rfl, h1, h2, h3⟩
    exact ⟨rfl, c5, c6, c7, ds', rfl, h1, by rw [h2]; simp; omega, h3.mono (by rw [List.length_cons]; omega)⟩
theorem nodes_sp {L : List Nat} (hL : Lt L) (h26 : L.length ≤ 26) {T : Int} {st : Sto} (hD : Dok [] T st) (hT : T < 2 ^ 36) : wpQ (f__law_nodes [.loc 1, .str (sl L), .int 6] st) fun w st' => ∃ R : Rd, R.Ok ∧ R.L = L ∧ w = .tup R.nw ∧ Dok [] (T + 300) st' := by
  have l2 : st.length = 2 := by obtain ⟨d, rfl, _⟩ := hD; rfl
  unfold f__law_nodes
  wp_walk
  refine wp_call (draw_sp hD (by omega) (b := 6) (by omega) (by omega)) ?_
  rintro _ s1 ⟨r, rfl, r0, r1, hD1⟩
  obtain ⟨n, hn⟩ : ∃ n : Nat, 1 + r = n := ⟨(1 + r).toNat, by omega⟩
  have l3 : s1.length = 2 := by obtain ⟨d, rfl, _⟩ := hD1; rfl
  have rg : rangeOf [.int (n : Int)] = some (((List.range n).map Int.ofNat).map .int) := by
    rw [range_1 (decide_eq_true (by omega) : small62 (n : Int) = true)]
    unfold rangeW
    rw [Int.toNat_natCast, List.map_map]
    congr 1
    refine List.map_congr_left fun i _ => ?_
    show W.int _ = W.int _
    rw [W.int.injEq, show Int.ofNat i = (i : Int) from rfl]; omega
  wp_walk using hn, l3, rg
  have hD2 : Dok [.lst (([] : List Nd).map Nd.w)] (T + 1) (s1 ++ [.lst []]) := by
    obtain ⟨d, rfl, h1, h2, h3⟩ := hD1
    exact ⟨d, rfl, h1, h2, h3⟩
  have lp := fun x => nodes_loop (x := x) hL h26 (top := 6) (n := n) (by omega) (by omega) ((List.range n).map Int.ofNat) [] (T + 1) (s1 ++ [.lst []]) none none none (fun d hd => absurd hd List.not_mem_nil) (by simp; omega) hD2 (by simp; omega)
  unfold nEn at lp
  refine wp_stmt (lp _) ?_
  rintro fl e s ⟨rfl, c5, c6, c7, ds, rfl, h1, h2, h3⟩
  simp only [List.length_nil, List.length_map, List.length_range, Nat.zero_add] at h2 h3
  obtain ⟨d, rfl, d1, d2, d3⟩ := h3
  unfold Dk.st
  have hk : ∀ w : List W, lbL 2 (ds.map Nd.w) = true := fun _ => lbL_nl (nlL_map fun d _ => nl_nd)
  have kp : Kept st (.lst (d.cells.map .int) :: dkW d.mixed d.turn :: [.lst (ds.map Nd.w)]) := by
    intro i c hi hc
    rw [l2] at hi
    right
    rw [l2]
    match i, hi with
    | 0, _ => cases hc; simp only [lb]; exact lbL_nl (nlL_map fun _ _ => rfl)
    | 1, _ => cases hc; simp [dkW, lb, lbD]
  wp_walk using l2, hk [], kp
  refine ⟨⟨L, ds⟩, ⟨hL, h26, ?_, ?_, ?_⟩, rfl, rfl, d, rfl, d1, ?_, d3⟩
  · intro z
    have : ds.length = 0 := by rw [show ds = [] from z]; rfl
    omega
  · show ds.length ≤ 50; omega
  · intro e he
    show NdOk L ds.length e
    rw [h2]; exact h1 e he
  · omega
theorem list4 {A : W} {f : Int → W} : ([0, 1, 2, 3] : List Int).map f = [f 0, f 1, f 2, f 3] := rfl
theorem rtx_dk {w : W} (h : rk w = true) : dk (.str (rtx w)) = true := by simpa [dk] using rtx_ok h
theorem web_right_sp {R : Rd} (hR : R.Ok) {web : List Nat} (hl : web.length ≤ 100) (ow : webOk R.L web = true) {T : Int} {st : Sto} (hD : Dok [] T st) (hT : T < 2 ^ 38) : wpQ (f__law_web_right [.loc 1, .str (sl R.L), .tup R.nw, R.w, strW web] st) fun w s => w = .bl true ∧ Dok [] (T + 10) s := by
  have e := lmade_spec hR (st := st) (by omega) ow
  have ml := many_le (R := R) (web := web)
  have fw : web.length ≤ 100000 := by omega
  have r4 : rangeOf [.int 4] = some (rangeW 0 1 4) := range_1 (by decide)
  have r4' : rangeW 0 1 4 = ([0, 1, 2, 3] : List Int).map .int := rfl
  have sM := sh_said hR (way := 0) (by omega) ow
  have sN := sh_said hR (way := 2) (by omega) ow
  have s0 : saidW R web 0 = madeW R web := rfl
  have s1 : saidW R web 1 = madeW R web := rfl
  have s2 : saidW R web 2 = .int (R.many web : Nat) := rfl
  have s3 : saidW R web 3 = .int (R.many web : Nat) := rfl
  have lc : ∀ a b, lcZ [7] (Bd.name 7) MH.T.yes e__law_web_right_0 [a, some (false, .str (sl R.L)), some (false, .tup R.nw), some (false, R.w), some (false, strW web), b, some (false, .int (R.many web : Nat)), none, none, none, none] [.int 0, .int 1, .int 2, .int 3] [] st = .ok [.str (rtx (madeW R web)), .str (rtx (madeW R web)), .str (rtx (.int (R.many web : Nat))), .str (rtx (.int (R.many web : Nat)))] st := fun a b => by
    have := lc_pure (ns := [7]) (bd := Bd.name 7) (m := e__law_web_right_0) (st := st) (g := W.int) (f := fun i => .str (rtx (saidW R web i))) (cs := ([0, 1, 2, 3] : List Int)) (en := [a, some (false, .str (sl R.L)), some (false, .tup R.nw), some (false, R.w), some (false, strW web), b, some (false, .int (R.many web : Nat)), none, none, none, none]) (fun c hc => ⟨_, rfl, by
      have hh := heard_ok hR (st := st) (way := c) (by omega) ow (by simpa using hc)
      wp_walk using x_e__law_web_right_0, hh⟩) (by simp)
    exact this
  rw [s0] at sM
  rw [s2] at sN
  have q1 := repr_sh sM
  have q2 := repr_sh sN
  have m1 : mulS (.lst [.str (rtx (madeW R web))]) (.int 2) = some (.lst [.str (rtx (madeW R web)), .str (rtx (madeW R web))]) := rfl
  have m2 : mulS (.lst [.str (rtx (.int (R.many web : Nat)))]) (.int 2) = some (.lst [.str (rtx (.int (R.many web : Nat))), .str (rtx (.int (R.many web : Nat)))]) := rfl
  have n1 := neW_same (w := .lst [.str (rtx (madeW R web)), .str (rtx (madeW R web)), .str (rtx (.int (R.many web : Nat))), .str (rtx (.int (R.many web : Nat)))]) (by simp [dk, dkL, rtx_ok sM.k, rtx_ok sN.k]) (by simp [dpt, dptL])
  have hs : (web.length : Int) - (R.many web : Nat) = ((web.length - R.many web : Nat) : Int) := by omega
  have dm := fun (web : List Nat) (st : Sto) => dr_made (R := R) (web := web) (st := st)
  unfold f__law_web_right
  wp_walk using e, r4
  rw [r4']
  wp_walk using lc, q1, q2, m1, m2, n1, dm
  refine wp_call (word_sp hR.lt hR.len hD (by omega) (k := 3) (by omega) (by omega)) ?_
  rintro _ s1 ⟨base, rfl, ob, lb, hD1⟩
  wp_walk using fw, hs, cut_to (a := web) (k := web.length - R.many web), cut_from (a := web) (k := web.length - R.many web)
  have oc : webOk R.L (base ++ web.drop (web.length - R.many web)) = true := webOk_of fun c hc => (List.mem_append.mp hc).elim (webOk_mem ob c) fun h => webOk_mem ow c (List.mem_of_mem_drop h)
  have lc2 : (base ++ web.drop (web.length - R.many web)).length ≤ 200 := by rw [List.length_append, List.length_drop]; omega
  have f2 : base.length + (web.drop (web.length - R.many web)).length ≤ 100000 := by rw [List.length_append] at lc2; omega
  have fl : (web.take (web.length - R.many web)).length ≤ 100000 := by rw [List.length_take]; omega
  have e1 := made_spec hR (st := s1) (web := base ++ web.drop (web.length - R.many web)) (by omega) oc
  have e2 := read_of_spec hR (st := s1) (web := base ++ web.drop (web.length - R.many web)) (by omega) oc
  have e3 := lmade_spec hR (st := s1) (web := base ++ web.drop (web.length - R.many web)) (by omega) oc
  have sL : Sh 30000 13 (.lst [madeW R (base ++ web.drop (web.length - R.many web)), .int (R.many (base ++ web.drop (web.length - R.many web)) : Nat)]) := by
    have a1 := sh_said hR (way := 0) (web := base ++ web.drop (web.length - R.many web)) (by omega) oc
    have a2 := sh_said hR (way := 2) (web := base ++ web.drop (web.length - R.many web)) (by omega) oc
    have := Sh.tup (n := 10000) (m := 12) (k := 2) (ws := [madeW R (base ++ web.drop (web.length - R.many web)), .int (R.many (base ++ web.drop (web.length - R.many web)) : Nat)]) (by
      intro w hw
      simp only [List.mem_cons, List.not_mem_nil, or_false] at hw
      rcases hw with rfl | rfl
      · exact a1
      · exact a2) (by simp)
    exact ⟨by simpa [rk] using this.k, by have := this.l; simp only [rl] at this ⊢; omega, by have := this.d; simp only [rd] at this ⊢; omega⟩
  have q3 := reprW_of sL.k (Nat.le_trans sL.l (by decide)) (Nat.le_trans sL.d (by decide))
  have n3 := ne_repr sL.k
  wp_walk using f2, rd_m, rd_r, e1, e2, e3, q3, n3
  have ok := end_ok hR ow
  by_cases hm : R.many web = web.length
  · have t0 : web.take (web.length - R.many web) = [] := by rw [hm]; simp
    wp_walk using t0, nil_lit
    exact hD1.mono (by omega)
  · have hlt : R.many web < web.length := by omega
    obtain ⟨he, hmm, hnr⟩ := end_base (base := base) hlt
    have tne : ¬ web.take (web.length - R.many web) = [] := by
      intro z
      have := congrArg List.length z
      rw [List.length_take] at this
      simp at this
      omega
    have tok : okc (web.take (web.length - R.many web)) = true := okc_let hR.lt (webOk_of fun c hc => webOk_mem ow c (List.mem_of_mem_take hc))
    cases q : R.end web with
    | reads b to => exact absurd q (hnr b to)
    | none =>
      have mz : madeW R web = .non := by unfold madeW; rw [q]
      wp_walk using tne, tok, nil_lit, mz
      exact hD1.mono (by omega)
    | stops s =>
      rw [q] at ok
      have hb : (base ++ web.drop (web.length - R.many web)).take ((base ++ web.drop (web.length - R.many web)).length - R.many web) = base := by
        rw [List.length_append, List.length_drop, show base.length + (web.length - (web.length - R.many web)) - R.many web = base.length by omega]
        simp
      have mz : madeW R web = strW (web.take (web.length - R.many web) ++ s) := by unfold madeW; rw [q]
      have mz2 : madeW R (base ++ web.drop (web.length - R.many web)) = strW (base ++ s) := by unfold madeW; rw [he, q, hmm]; dsimp only; rw [hb]
      have fr : (web.take (web.length - R.many web)).length + s.length ≤ 100000 := by have := ok.2; rw [List.length_take]; omega
      generalize web.take (web.length - R.many web) = rest at *
      have fb : base.length + s.length ≤ 100000 := by have := ok.2; omega
      have fl : rest.length ≤ 100000 := fl
      have dl : (rest ++ s).drop rest.length = s := by simp
      have qe := eqW_same (w := strW (base ++ s)) (by rw [dk_sl]; rw [okc_app, okc_let hR.lt ob, okc_let hR.lt ok.1]; rfl) (by simp [dpt])
      wp_walk using tne, tok, nil_lit, mz, rd_m, e1, mz2, fl, f2, fr, fb, cut_from (a := rest ++ s) (k := rest.length), dl, qe
      exact hD1.mono (by omega)
end Toy

namespace Toy
open PySem L2 MH
local macro_rules
  | `(tactic| wp_walk) => `(tactic| wp_walk using dr_str)
local macro_rules
  | `(tactic| wp_walk using $ts,*) => `(tactic| simp only [$[$ts:term],*, ↓w_methK, sub_aug, ↓w_body, ↓w_bodyT, kept_app, kept_self, take_app, gapp, gapp0, sapp, sapp0, ↓w_star, star_s, star_l, star_t, ↓w_aug, slK_f, goW, augR_s, aug_ii, aug_ss, ↓w_chain, ↓w_lput, lput_last, atm1, popR_l, popL_s, ↓w_keys, keysI, ↓w_lcV, lcVs_l, revS_sl, List.append_assoc, lb, lbL, lbF, lbD, ↓w_bin, ↓w_tup, ↓w_lst, ↓w_eite, ↓w_call, ↓w_fn, ↓w_fnK, ↓w_slice, ↓w_un, ↓w_dix, ↓w_get1, ↓w_get2, ↓w_din, ↓w_dni, ↓w_loc, ↓w_ms, ↓w_pop, ↓w_meth, ↓w_own, ↓w_map, ↓w_dict, ↓w_make, ↓w_makeK, ↓w_lc, ↓w_eand, ↓w_eor, ↓w_enot,
      ↓w_pk, ↓w_acons, ↓w_hcons, ↓w_qcons, ↓w_tval, ↓w_tnot, ↓w_tand, ↓w_tor, ↓w_oat, ↓w_iof, ↓w_irange, ↓w_ienum, ↓w_izip, ↓w_cons, ↓w_ret, ↓w_set, ↓w_zown, ↓w_expr, ↓w_zite, ↓w_app, ↓w_ext, ↓w_dput, ↓w_sattr, ↓w_raise, ↓w_par, ↓w_parO, ↓w_par3, ↓w_asg, ↓w_for, ↓w_fcons, ↓w_fnil, ↓w_lccons, ↓w_lcnil, ↓w_try, ↓w_hnil, ↓w_hncons,
      goE, goX, goN, goS, goY, ↓goP, goB, goL, goI, wE_ok, wE_ex, wE_no, wS_ok, wS_ex, wS_no, iP_t, iP_f, iP_not, nK_nx, nK_rt, nK_bk, nK_ct, fK_nx, fK_rt, lK_nx, lK_ct, lK_bk, lK_rt, bP_some, bP_none, lsK_l, hK_t, hK_f, inK, wE_iteN, wS_iteN, liftIte, liftNone, lift_s, dpR,
      var_f, c_f, pvar_f, anil_f, hnil_f, qnil_f, ono_f, yes_f, xatt, znil_f, zretN_f, zbrk_f, zcont_f, zfrz_f, bname_f, btup_f, bcons_f, bnil_f, wrS_f, wrH_s, wrH_l, one_1, view_f, view_s, dr_str, dr_int, dr_bl, dr_non, dr_lst, dr_scr, dr_tup, dr_stp, dr_dct, dr_ins, dr_cls, dr_ty, dr_loc, isN_str, isN_int, isN_bl, isN_non, isN_lst, isN_tup, isN_dct, isN_ins,
      add_ii, add_ss, add_tt, add_ll, sub_ii, mul_ii, mul_si, mul_li, mod_ii, fdiv_ii, lt_ii, lt_sl, le_ii, le_sl, gt_ii, gt_sl, ge_ii, ge_sl, isn_n, notn_n, len_l, len_c, len_t, len_s, len_d, int1_i, slc_l, slc_c, slc_t, slc_s, rev_l, rev_c, isS_s, isL_l, isD_d, items_sl, it_lst, it_scr, it_tup, it_stp, enumO_1, zipO_2, neg_i, tpl_l, tpl_c, tpl_t, seq_l, seq_c, seq_t, bl_b, int_i, ix_l, ix_c, ix_t, ix_s, eqW_int, neW_int, ins_sl, nis_sl, isi_2, isiS, wk_s, wk_i, Option.some.injEq, Sum.inr.injEq, Sum.inl.injEq, reduceCtorEq, List.foldl_cons, List.foldl_nil, key_i, key_s, get_f, get_t, put_f, put_t, keys1, keys2, keys3,
      sl_len, sl_app, sl_cut, cut_last, cut_init, cut_1, cut_t1, cut_t2, zipW_map, lt_one, List.take_succ_cons, List.take_zero, List.take_nil, List.drop_succ_cons, List.drop_zero, strLt_sl, fit_iff, wipe_n, wipe_c, unO_n, unO_s, own_f, own_n,
      List.map_cons, List.map_nil, List.length_cons, List.length_nil, List.length_map, List.length_append, List.replicate, List.cons_append, List.nil_append, List.append_nil, List.getElem?_cons_zero, List.getElem?_cons_succ, List.getElem?_nil, List.set_cons_zero, List.set_cons_succ, List.getD_cons_zero, List.getD_cons_succ, List.any_cons, List.any_nil, List.all_cons, List.all_nil, List.zip_cons_cons, List.zip_nil_right, List.zip_nil_left, List.reverse_cons, List.reverse_nil,
      Option.map_some, Option.map_none, Option.bind_some, Option.bind_none, Option.bind_fun_some, Option.getD_some, Option.getD_none, Option.isSome_some, Option.isSome_none, Option.all_some, Option.all_none, id, if_true, if_false, ite_true, ite_false, reduceIte, true_and, and_true, Bool.not_true, Bool.not_false, Bool.or_self, Bool.and_self, Bool.or_false, Bool.false_or, Bool.or_true, Bool.true_or, Bool.and_true, Bool.true_and, Bool.and_false, Bool.false_and, decide_true, decide_false, Bool.false_eq_true, decide_eq_true_eq, Bool.not_eq_true', Nat.reduceAdd, Nat.reduceLeDiff, Nat.reduceLT, Nat.reduceSub, Nat.reduceMul, Nat.reduceEqDiff, Int.reduceLE, Int.reduceLT, Int.reduceNeg, Int.reduceEq, Int.reduceAdd, Int.reduceSub, Int.reduceMul, Int.reduceToNat, Nat.reduceBEq, String.reduceEq, decide_not, Nat.zero_add, Int.natCast_zero, Int.natCast_one, Int.cast_ofNat_Int, eqW_nil, neW_nil, okc_nil, kwOrd, List.filterMap_cons, List.filterMap_nil, List.lookup_cons, List.lookup_nil, sqb, ofString_iff, at0, at1, at2, at3])
structure Let (L : List Nat) : Prop where
  lt : Lt L
  len : L.length ≤ 3
  few : ∀ c ∈ L, c = 97 ∨ c = 98 ∨ c = 109 ∨ c = 120
def someL : List W := [.str "ab", .str "ab", .str "am", .str "abx"]
theorem someL_ok {w : W} (h : w ∈ someL) : ∃ L, w = .str (sl L) ∧ Let L := by
  simp only [someL, List.mem_cons, List.not_mem_nil, or_false] at h
  rcases h with rfl | rfl | rfl | rfl
  · exact ⟨[97, 98], by rw [ofS]; rfl, ⟨by decide, by decide, by decide⟩, by decide, by decide⟩
  · exact ⟨[97, 98], by rw [ofS]; rfl, ⟨by decide, by decide, by decide⟩, by decide, by decide⟩
  · exact ⟨[97, 109], by rw [ofS]; rfl, ⟨by decide, by decide, by decide⟩, by decide, by decide⟩
  · exact ⟨[97, 98, 120], by rw [ofS]; rfl, ⟨by decide, by decide, by decide⟩, by decide, by decide⟩
/-! ### odd values -/
structure Odd (L : List Nat) (w : W) : Prop where
  no : ∀ st, f_is_web [.str (sl L), w] st = .ok (.bl false) st
  nl : MH.nl w = true
  sh : Sh 3000 10 w
theorem toList_len {s : String} : s.toList.length = s.length := by first | rfl | exact String.length_toList
theorem odd_lit {L : List Nat} {s : String} {c : Nat} (hL : Let L) (hc : c ∈ s.toList.map Char.toNat) (h : c ≠ 97 ∧ c ≠ 98 ∧ c ≠ 109 ∧ c ≠ 120) (hl : s.length ≤ 90) : Odd L (.str s) := by
  rw [ofS]
  refine ⟨fun st => ?_, rfl, ?_, ?_, ?_⟩
  · have hw : webOk L (s.toList.map Char.toNat) = false := by
      cases e : webOk L (s.toList.map Char.toNat) with
      | false => rfl
      | true => have := hL.few c (webOk_mem e c hc); omega
    rw [is_web_str (by rw [List.length_map, toList_len]; omega), hw]
  · simp only [rk, strOk_sl]; exact okc_chars _
  · simp only [rl, sl_len, List.length_map, toList_len]; omega
  · simp [rd]
theorem odd_val {L : List Nat} {w : W} (h : ∀ st, isiW IL (deref st w) (.ty "str") = some false) (hn : nl w = true) (hr : Sh 3000 10 w) : Odd L w :=
  ⟨fun st => is_web_no (h st), hn, hr⟩
def oddL : List W := [.non, .int 0, .bl true, .str "A", .str "aq", .tup [.str "a"], .lst [.str "a"], .dct false [], .str "-", .str "a ", .int 1000000000000000000000000000000000000000, .str "a\n"]
theorem oddL_ok {L : List Nat} (hL : Let L) {w : W} (h : w ∈ oddL) : Odd L w := by
  simp only [oddL, List.mem_cons, List.not_mem_nil, or_false] at h
  rcases h with rfl | rfl | rfl | rfl | rfl | rfl | rfl | rfl | rfl | rfl | rfl | rfl
  · exact odd_val (fun _ => rfl) rfl ⟨rfl, by simp [rl], by simp [rd]⟩
  · exact odd_val (fun _ => rfl) rfl ⟨rfl, by simp [rl], by simp [rd]⟩
  · exact odd_val (fun _ => rfl) rfl ⟨rfl, by simp [rl], by simp [rd]⟩
  · exact odd_lit (c := 65) hL (by decide) (by decide) (by decide)
  · exact odd_lit (c := 113) hL (by decide) (by decide) (by decide)
  · exact odd_val (fun _ => rfl) rfl ⟨by simp [rk, rkL, strOk_of], by simp [rl, rlL, str_len]; decide, by simp [rd, rdL]⟩
  · exact odd_val (fun _ => rfl) rfl ⟨by simp [rk, rkL, strOk_of], by simp [rl, rlL, str_len]; decide, by simp [rd, rdL]⟩
  · exact odd_val (fun _ => rfl) rfl ⟨by simp [rk], by simp [rl], by simp [rd]⟩
  · exact odd_lit (c := 45) hL (by decide) (by decide) (by decide)
  · exact odd_lit (c := 32) hL (by decide) (by decide) (by decide)
  · exact odd_val (fun _ => rfl) rfl ⟨by simp only [rk]; decide +kernel, by simp [rl], by simp [rd]⟩
  · exact odd_lit (c := 10) hL (by decide) (by decide) (by decide)
theorem sh_badL {w : W} (h : Sh 3000 10 w) : Sh 10000 12 (badL w) := by
  obtain ⟨a, b, c⟩ := h
  obtain ⟨a', b', c'⟩ := sh_lit (s := "bad") (by decide)
  refine ⟨by simp [badL, rk, rkL, a, strOk_of], ?_, ?_⟩
  · simp only [badL, rl, rlL] at b' ⊢; omega
  · simp only [badL, rd, rdL] at c' ⊢; omega
/-! ### the deck -/
theorem deck_loop {s c : Slt} {st : Sto} {x : CoY} : ∀ (ns : List Int) (M : Int) (z : Slt), wpSQ (forZ (Bd.name 3) b__law_deck_0 (ns.map .int) [s, c, some (false, .int M), z] st) (fun fl e s' => fl = .nx ∧ s' = st ∧ ∃ M z, e = [s, c, some (false, .int M), z]) x
  | [], M, z => ⟨rfl, rfl, M, z, rfl⟩
  | n :: ns, M, z => by
    have m0 : mid64 48271 = true := m64 (by decide) (by decide)
    rw [List.map_cons, wpSQ, w_fcons]
    wp_walk using x_b__law_deck_0, m0
    exact deck_loop ns _ _
theorem deck_sp {ns : List Int} (hl : ns.length ≤ 63) : wpQ (f__law_deck [.scr (ns.map .int)] []) fun w st => w = .loc 1 ∧ Dok [] 0 st := by
  have cut : cutL (ns.map W.int) none (some 63) = ns.map .int := by
    have := cut_to (a := ns.map W.int) (k := 63)
    rw [show ((63 : Nat) : Int) = 63 from rfl] at this
    rw [this, List.take_of_length_le (by simpa using hl)]
  unfold f__law_deck
  wp_walk using cut
  refine wp_stmt (deck_loop ns _ _) ?_
  rintro fl e s ⟨rfl, rfl, M, z, rfl⟩
  wp_walk using dictR, keysW, mergeW, putD
  refine ⟨⟨ns.reverse, M, 0⟩, ?_, Int.le_refl _, Int.le_refl _, by simpa using hl⟩
  simp [Dk.st, dkW, List.map_reverse]
/-! ### the law -/
theorem webs_loop {R : Rd} (hR : R.Ok) {a b c d f : Slt} {x : CoY} : ∀ (is : List Int) (T : Int) (st : Sto) (z : Slt), Dok [] T st → T + 30 * is.length < 2 ^ 37 →
    wpSQ (forZ (Bd.name 6) b_law_0 (is.map .int) [a, some (false, .loc 1), b, some (false, .str (sl R.L)), some (false, .tup R.nw), some (false, R.w), z, c, d, none, f] st) (fun fl e s => fl = .nx ∧ (∃ z, e = [a, some (false, .loc 1), b, some (false, .str (sl R.L)), some (false, .tup R.nw), some (false, R.w), z, c, d, none, f]) ∧ Dok [] (T + 30 * is.length) s) x
  | [], T, st, z, hD, hT => ⟨rfl, ⟨z, rfl⟩, by simpa using hD⟩
  | i :: is, T, st, z, hD, hT => by
    rw [List.length_cons] at hT
    rw [List.map_cons, wpSQ, w_fcons]
    wp_walk using x_b_law_0
    refine wp_call (word_sp hR.lt hR.len hD (by omega) (k := 8) (by omega) (by omega)) ?_
    rintro _ s1 ⟨t, rfl, ot, lt, hD1⟩
    wp_walk
    refine wp_call (web_right_sp hR (by omega) ot hD1 (by omega)) ?_
    rintro _ s2 ⟨rfl, hD2⟩
    wp_walk
    refine wp_stmt (webs_loop hR is _ s2 _ hD2 (by omega)) ?_
    rintro fl e s ⟨rfl, he, hD3⟩
    exact ⟨rfl, he, hD3.mono (by rw [List.length_cons]; omega)⟩
theorem sh_bare {L : List Nat} (hL : Lt L) {b : Option (List Nat)} (h : ∀ s, b = some s → webOk L s = true ∧ s.length ≤ 10) : Sh 502 0 (bareW b) := by
  cases b with
  | none => exact ⟨rfl, by simp [bareW, rl], by simp [bareW, rd]⟩
  | some s =>
    obtain ⟨h1, h2⟩ := h s rfl
    refine ⟨?_, ?_, by simp [bareW, rd]⟩
    · simp only [bareW, rk, strOk_sl]; exact okc_let hL h1
    · simp only [bareW, rl, sl_len]; omega
theorem sh_nd {L : List Nat} (hL : Lt L) (h26 : L.length ≤ 26) {n : Nat} (hn : n ≤ 50) {d : Nd} (h : NdOk L n d) : Sh 20000 1 d.w := by
  cases d with
  | none => exact (Sh.tup (n := 502) (m := 0) (k := 1) (ws := [.str "none"]) (by
      intro w hw
      simp only [List.mem_cons, List.not_mem_nil, or_false] at hw
      subst hw
      exact (sh_lit (by decide)).mono (by decide) (by decide)) (by simp)).mono (by decide) (by decide)
  | stops s => exact (Sh.tup (n := 502) (m := 0) (k := 2) (ws := [.str "stops", strW s]) (by
      intro w hw
      simp only [List.mem_cons, List.not_mem_nil, or_false] at hw
      rcases hw with rfl | rfl
      · exact (sh_lit (by decide)).mono (by decide) (by decide)
      · exact sh_bare (b := some s) hL fun t e => by cases e; exact h) (by simp)).mono (by decide) (by decide)
  | reads b to =>
    obtain ⟨hb, hl, hi⟩ := h
    exact (Sh.tup (n := 502) (m := 0) (k := 28) (ws := .str "reads" :: bareW b :: to.map natW) (by
      intro w hw
      rw [List.mem_cons, List.mem_cons] at hw
      rcases hw with rfl | rfl | hw
      · exact (sh_lit (by decide)).mono (by decide) (by decide)
      · exact sh_bare hL hb
      · obtain ⟨i, hm, rfl⟩ := List.mem_map.mp hw
        exact sh_int (by have := hi i hm; omega)) (by simp; omega)).mono (by decide) (by decide)
theorem sh_nw {R : Rd} (hR : R.Ok) : Sh 2000000 2 (.tup R.nw) := (Sh.tup (n := 20000) (m := 1) (k := 50) (ws := R.nw) (by
  intro w hw
  obtain ⟨d, hd, rfl⟩ := List.mem_map.mp hw
  exact sh_nd hR.lt hR.len hR.few (hR.nd d hd)) (by have := hR.few; simpa [Rd.nw] using this)).mono (by decide) (by decide)
def lEn (s : W) (a2 a3 a4 a5 a6 a7 a8 a10 : Slt) : En := [some (false, s), some (false, .loc 1), a2, a3, a4, a5, a6, a7, a8, none, a10]
theorem law_body {s : W} {T : Int} {st : Sto} (hD : Dok [] T st) (hT : T < 2 ^ 35) {a2 a3 a4 a5 a6 a7 a8 a10 : Slt} {x : CoY} : wpSQ (b_law_1 (lEn s a2 a3 a4 a5 a6 a7 a8 a10) st) (fun fl e s' => fl = .nx ∧ (∃ a2 a3 a4 a5 a6 a7 a8 a10, e = lEn s a2 a3 a4 a5 a6 a7 a8 a10) ∧ Dok [] (T + 1000) s') x := by
  have r8 : rangeOf [.int 8] = some (rangeW 0 1 8) := range_1 (by decide)
  have r8' : rangeW 0 1 8 = ([0, 1, 2, 3, 4, 5, 6, 7] : List Int).map .int := rfl
  have r4 : rangeOf [.int 4] = some (rangeW 0 1 4) := range_1 (by decide)
  have r4' : rangeW 0 1 4 = ([0, 1, 2, 3] : List Int).map .int := rfl
  have pw : powW (.int 10) (.int 39) = some (.int 1000000000000000000000000000000000000000) := by rfl
  unfold lEn
  wp_walk using x_b_law_1
  refine wp_call (pick_lst (ws := someL) hD (by omega) (by decide) (by decide)) ?_
  rintro w s1 ⟨hw, hD1⟩
  obtain ⟨L, rfl, hL⟩ := someL_ok hw
  wp_walk
  refine wp_call (nodes_sp hL.lt (by have := hL.len; omega) hD1 (by omega)) ?_
  rintro _ s2 ⟨R, hR, rfl, rfl, hD2⟩
  have mk := mk_spec hR (st := s2)
  wp_walk using mk, r8
  rw [r8']
  refine wp_stmt (webs_loop hR _ _ s2 _ hD2 (by simp; omega)) ?_
  rintro fl e s3 ⟨rfl, ⟨z, rfl⟩, hD3⟩
  wp_walk using pw
  refine wp_call (pick_lst (ws := oddL) hD3 (by simp; omega) (by decide) (by decide)) ?_
  rintro odd s4 ⟨ho, hD4⟩
  have ho := oddL_ok hL ho
  have hb := sh_badL ho.sh
  have rb := repr_sh hb
  have nb := ne_repr hb.k
  have dk1 := rtx_dk hb.k
  have rn := reprW_of (sh_nw hR).k (Nat.le_trans (sh_nw hR).l (by decide)) (Nat.le_trans (sh_nw hR).d (by decide))
  have nn := ne_repr (sh_nw hR).k
  have lc : ∀ a1 a2 a3 a4 a6 a7 a8 a10, lcZ [9] (Bd.name 9) MH.T.yes e_law_0 [a1, a2, a3, a4, a6, some (false, R.w), a7, some (false, odd), a8, none, a10] [.int 0, .int 1, .int 2, .int 3] [] s4 = .ok [.str (rtx (badL odd)), .str (rtx (badL odd)), .str (rtx (badL odd)), .str (rtx (badL odd))] s4 := fun a1 a2 a3 a4 a6 a7 a8 a10 => by
    have := lc_pure (ns := [9]) (bd := Bd.name 9) (m := e_law_0) (st := s4) (g := W.int) (f := fun i => .str (rtx (badL odd))) (cs := ([0, 1, 2, 3] : List Int)) (en := [a1, a2, a3, a4, a6, some (false, R.w), a7, some (false, odd), a8, none, a10]) (fun c hc => ⟨_, rfl, by
      have hh := heard_bad (R := R) (st := s4) (way := c) ho.no hb (by simpa using hc)
      wp_walk using x_e_law_0, hh⟩) (by simp)
    exact this
  have n1 := neW_same (w := .lst [.str (rtx (badL odd)), .str (rtx (badL odd)), .str (rtx (badL odd)), .str (rtx (badL odd))]) (by simp only [dk, dkL] at dk1 ⊢; simp [dk1]) (by simp [dpt, dptL])
  have m4 : mulS (.lst [.str (rtx (badL odd))]) (.int 4) = some (.lst [.str (rtx (badL odd)), .str (rtx (badL odd)), .str (rtx (badL odd)), .str (rtx (badL odd))]) := rfl
  have rb2 := rb
  unfold badL at rb2
  wp_walk using rb2, r4
  rw [r4']
  unfold badL at lc n1 m4
  wp_walk using lc, m4, n1, rd_no, rn, nn
  exact ⟨⟨_, _, _, _, _, _, _, _, rfl⟩, hD4.mono (by simp; omega)⟩
end Toy

namespace Toy
open PySem L2 MH
local macro_rules
  | `(tactic| wp_walk) => `(tactic| wp_walk using dr_str)
local macro_rules
  | `(tactic| wp_walk using $ts,*) => `(tactic| simp only [$[$ts:term],*, ↓w_methK, sub_aug, ↓w_body, ↓w_bodyT, kept_app, kept_self, take_app, gapp, gapp0, sapp, sapp0, ↓w_star, star_s, star_l, star_t, ↓w_aug, slK_f, goW, augR_s, aug_ii, aug_ss, ↓w_chain, ↓w_lput, lput_last, atm1, popR_l, popL_s, ↓w_keys, keysI, ↓w_lcV, lcVs_l, revS_sl, List.append_assoc, lb, lbL, lbF, lbD, ↓w_bin, ↓w_tup, ↓w_lst, ↓w_eite, ↓w_call, ↓w_fn, ↓w_fnK, ↓w_slice, ↓w_un, ↓w_dix, ↓w_get1, ↓w_get2, ↓w_din, ↓w_dni, ↓w_loc, ↓w_ms, ↓w_pop, ↓w_meth, ↓w_own, ↓w_map, ↓w_dict, ↓w_make, ↓w_makeK, ↓w_lc, ↓w_eand, ↓w_eor, ↓w_enot,
      ↓w_pk, ↓w_acons, ↓w_hcons, ↓w_qcons, ↓w_tval, ↓w_tnot, ↓w_tand, ↓w_tor, ↓w_oat, ↓w_iof, ↓w_irange, ↓w_ienum, ↓w_izip, ↓w_cons, ↓w_ret, ↓w_set, ↓w_zown, ↓w_expr, ↓w_zite, ↓w_app, ↓w_ext, ↓w_dput, ↓w_sattr, ↓w_raise, ↓w_par, ↓w_parO, ↓w_par3, ↓w_asg, ↓w_for, ↓w_fcons, ↓w_fnil, ↓w_lccons, ↓w_lcnil, ↓w_try, ↓w_hnil, ↓w_hncons,
      goE, goX, goN, goS, goY, ↓goP, goB, goL, goI, wE_ok, wE_ex, wE_no, wS_ok, wS_ex, wS_no, iP_t, iP_f, iP_not, nK_nx, nK_rt, nK_bk, nK_ct, fK_nx, fK_rt, lK_nx, lK_ct, lK_bk, lK_rt, bP_some, bP_none, lsK_l, hK_t, hK_f, inK, wE_iteN, wS_iteN, liftIte, liftNone, lift_s, dpR,
      var_f, c_f, pvar_f, anil_f, hnil_f, qnil_f, ono_f, yes_f, xatt, znil_f, zretN_f, zbrk_f, zcont_f, zfrz_f, bname_f, btup_f, bcons_f, bnil_f, wrS_f, wrH_s, wrH_l, one_1, view_f, view_s, dr_str, dr_int, dr_bl, dr_non, dr_lst, dr_scr, dr_tup, dr_stp, dr_dct, dr_ins, dr_cls, dr_ty, dr_loc, isN_str, isN_int, isN_bl, isN_non, isN_lst, isN_tup, isN_dct, isN_ins,
      add_ii, add_ss, add_tt, add_ll, sub_ii, mul_ii, mul_si, mul_li, mod_ii, fdiv_ii, lt_ii, lt_sl, le_ii, le_sl, gt_ii, gt_sl, ge_ii, ge_sl, isn_n, notn_n, len_l, len_c, len_t, len_s, len_d, int1_i, slc_l, slc_c, slc_t, slc_s, rev_l, rev_c, isS_s, isL_l, isD_d, items_sl, it_lst, it_scr, it_tup, it_stp, enumO_1, zipO_2, neg_i, tpl_l, tpl_c, tpl_t, seq_l, seq_c, seq_t, bl_b, int_i, ix_l, ix_c, ix_t, ix_s, eqW_int, neW_int, ins_sl, nis_sl, isi_2, isiS, wk_s, wk_i, Option.some.injEq, Sum.inr.injEq, Sum.inl.injEq, reduceCtorEq, List.foldl_cons, List.foldl_nil, key_i, key_s, get_f, get_t, put_f, put_t, keys1, keys2, keys3,
      sl_len, sl_app, sl_cut, cut_last, cut_init, cut_1, cut_t1, cut_t2, zipW_map, lt_one, List.take_succ_cons, List.take_zero, List.take_nil, List.drop_succ_cons, List.drop_zero, strLt_sl, fit_iff, wipe_n, wipe_c, unO_n, unO_s, own_f, own_n,
      List.map_cons, List.map_nil, List.length_cons, List.length_nil, List.length_map, List.length_append, List.replicate, List.cons_append, List.nil_append, List.append_nil, List.getElem?_cons_zero, List.getElem?_cons_succ, List.getElem?_nil, List.set_cons_zero, List.set_cons_succ, List.getD_cons_zero, List.getD_cons_succ, List.any_cons, List.any_nil, List.all_cons, List.all_nil, List.zip_cons_cons, List.zip_nil_right, List.zip_nil_left, List.reverse_cons, List.reverse_nil,
      Option.map_some, Option.map_none, Option.bind_some, Option.bind_none, Option.bind_fun_some, Option.getD_some, Option.getD_none, Option.isSome_some, Option.isSome_none, Option.all_some, Option.all_none, id, if_true, if_false, ite_true, ite_false, reduceIte, true_and, and_true, Bool.not_true, Bool.not_false, Bool.or_self, Bool.and_self, Bool.or_false, Bool.false_or, Bool.or_true, Bool.true_or, Bool.and_true, Bool.true_and, Bool.and_false, Bool.false_and, decide_true, decide_false, Bool.false_eq_true, decide_eq_true_eq, Bool.not_eq_true', Nat.reduceAdd, Nat.reduceLeDiff, Nat.reduceLT, Nat.reduceSub, Nat.reduceMul, Nat.reduceEqDiff, Int.reduceLE, Int.reduceLT, Int.reduceNeg, Int.reduceEq, Int.reduceAdd, Int.reduceSub, Int.reduceMul, Int.reduceToNat, Nat.reduceBEq, String.reduceEq, decide_not, Nat.zero_add, Int.natCast_zero, Int.natCast_one, Int.cast_ofNat_Int, eqW_nil, neW_nil, okc_nil, kwOrd, List.filterMap_cons, List.filterMap_nil, List.lookup_cons, List.lookup_nil, sqb, ofString_iff, at0, at1, at2, at3])
theorem law_loop {s : W} {x : CoY} : ∀ (is : List Int) {T : Int} {st : Sto} (hD : Dok [] T st) (hT : T + 1000 * is.length < 2 ^ 35) {a2 a3 a4 a5 a6 a7 a8 a10 : Slt}, wpSQ (forZ (Bd.name 2) b_law_1 (is.map .int) (lEn s a2 a3 a4 a5 a6 a7 a8 a10) st) (fun fl e s' => fl = .nx ∧ ∃ a2 a3 a4 a5 a6 a7 a8 a10, e = lEn s a2 a3 a4 a5 a6 a7 a8 a10) x
  | [], T, st, hD, hT, a2, a3, a4, a5, a6, a7, a8, a10 => ⟨rfl, a2, a3, a4, a5, a6, a7, a8, a10, rfl⟩
  | i :: is, T, st, hD, hT, a2, a3, a4, a5, a6, a7, a8, a10 => by
    rw [List.length_cons] at hT
    have hb := law_body (s := s) hD (by omega) (a2 := some (false, .int i)) (a3 := a3) (a4 := a4) (a5 := a5) (a6 := a6) (a7 := a7) (a8 := a8) (a10 := a10) (x := x)
    rw [List.map_cons, wpSQ, w_fcons]
    unfold lEn at hb ⊢
    wp_walk
    refine wp_stmt hb ?_
    rintro fl e s' ⟨rfl, ⟨b2, b3, b4, b5, b6, b7, b8, b10, rfl⟩, hD'⟩
    wp_walk
    exact law_loop is hD' (by omega)
def R0 : Rd := ⟨[97, 98], [.reads (some [98]) [1, 0], .reads (some [97]) [0, 1]]⟩
theorem R0_ok : R0.Ok := ⟨⟨by decide, by decide, by decide⟩, by decide, by unfold R0; simp, by decide, by
  intro d hd
  simp only [R0, List.mem_cons, List.not_mem_nil, or_false] at hd
  rcases hd with rfl | rfl
  · exact ⟨fun s e => by cases e; exact ⟨rfl, by decide⟩, rfl, by decide⟩
  · exact ⟨fun s e => by cases e; exact ⟨rfl, by decide⟩, rfl, by decide⟩⟩
theorem ab_lit : Str.ofString "ab" = sl [97, 98] := by rw [ofS]; rfl
theorem a_lit : Str.ofString "a" = sl [97] := by rw [ofS]; rfl
theorem b_lit : Str.ofString "b" = sl [98] := by rw [ofS]; rfl
theorem mk0 {st : Sto} : E.mkW "Reader" f_Reader_init [.str (sl [97, 98]), .tup [.tup [.str (Str.ofString "reads"), .str (sl [98]), .int 1, .int 0], .tup [.str (Str.ofString "reads"), .str (sl [97]), .int 0, .int 1]]] st = .ok R0.w st := mk_spec R0_ok
def w1 : List Nat := List.replicate 59 97
def w2 : List Nat := (List.replicate 30 [97, 98]).flatten
def w3 : List Nat := List.replicate 60 98
theorem go1 : R0.go 0 w1.reverse = (1, 59) := by decide +kernel
theorem go2 : R0.go 0 w2.reverse = (0, 60) := by decide +kernel
theorem go3 : R0.go 0 w3.reverse = (0, 60) := by decide +kernel
theorem law_true (ns : List Int) (hl : ns.length ≤ 63) : ∃ st, f_law [.scr (ns.map .int)] [] = .ok (.bl true) st := by
  suffices h : wpQ (f_law [.scr (ns.map .int)] []) (fun w _ => w = .bl true) by
    obtain ⟨a, s, e, rfl⟩ := some_of h
    exact ⟨s, e⟩
  have r4 : rangeOf [.int 4] = some (rangeW 0 1 4) := range_1 (by decide)
  have r4' : rangeW 0 1 4 = ([0, 1, 2, 3] : List Int).map .int := rfl
  unfold f_law
  wp_walk
  refine wp_call (deck_sp hl) ?_
  rintro _ st ⟨rfl, hD⟩
  wp_walk using r4
  rw [r4']
  refine wp_stmt (law_loop (s := .scr (ns.map .int)) [0, 1, 2, 3] hD (by simp)) ?_
  rintro fl e s ⟨rfl, b2, b3, b4, b5, b6, b7, b8, b10, rfl⟩
  unfold lEn
  have mA : Txt.mul (sl [97]) 59 = sl w1 := (mul_sl (a := [97]) (k := 59)).trans (congrArg sl (by decide +kernel))
  have mB : Txt.mul (sl [97, 98]) 30 = sl w2 := mul_sl (a := [97, 98]) (k := 30)
  have mC : Txt.mul (sl [98]) 60 = sl w3 := (mul_sl (a := [98]) (k := 60)).trans (congrArg sl (by decide +kernel))
  have e1 := made_spec R0_ok (st := s) (web := w1) (by decide +kernel) (by decide +kernel)
  have e2 := read_of_spec R0_ok (st := s) (web := w2) (by decide +kernel) (by decide +kernel)
  have e3 := made_spec R0_ok (st := s) (web := w3) (by decide +kernel) (by decide +kernel)
  have v1 : madeW R0 w1 = strW [97] := by unfold madeW Rd.end; rw [go1]; rfl
  have v2 : R0.many w2 = 60 := by unfold Rd.many; rw [go2]
  have v3 : madeW R0 w3 = strW [98] := by unfold madeW Rd.end; rw [go3]; rfl
  rw [v1] at e1
  rw [v2] at e2
  rw [v3] at e3
  have q := eqW_same (w := .lst [strW [97], .int 60, strW [98]]) (by decide +kernel) (by decide +kernel)
  wp_walk using mk0, ab_lit, a_lit, b_lit, mA, mB, mC, rd_m, rd_r, e1, e2, e3, q
end Toy

namespace Toy
open PySem L2 MH
structure Ad where
  t_ALPHABET : Tok
  t_NONE : Tok
  t_PAIR : Tok
  t_READS : Tok
  t_STOPS : Tok
  a_is_web : Addr
  d_is_web : FuncData
  a_Reader_way_of : Addr
  d_Reader_way_of : FuncData
  a_Reader_made : Addr
  d_Reader_made : FuncData
  a_Reader_read_of : Addr
  d_Reader_read_of : FuncData
  a_is_integer : Addr
  d_is_integer : FuncData
  a_are_numbers : Addr
  d_are_numbers : FuncData
  a_is_reader_node : Addr
  d_is_reader_node : FuncData
  a_is_letters : Addr
  d_is_letters : FuncData
  a_Reader_init : Addr
  d_Reader_init : FuncData
  a__law_heard : Addr
  d__law_heard : FuncData
  a__law_draw : Addr
  d__law_draw : FuncData
  a__law_pick : Addr
  d__law_pick : FuncData
  a__law_made : Addr
  d__law_made : FuncData
  a__law_word : Addr
  d__law_word : FuncData
  a__law_web_right : Addr
  d__law_web_right : FuncData
  a__law_nodes : Addr
  d__law_nodes : FuncData
  a__law_deck : Addr
  d__law_deck : FuncData
  a_law : Addr
  d_law : FuncData
  C_Reader : Addr
  C_MillError : Addr
  C_BadText : Addr
  C_BadWeb : Addr
  C_BadReader : Addr
abbrev Ad.kc (a : Ad) : CT := kcT [("Reader", a.C_Reader), ("BadReader", a.C_BadReader), ("BadText", a.C_BadText), ("BadWeb", a.C_BadWeb), ("MillError", a.C_MillError)]
structure Top (P : Program) (K : PySem.W.Frag) (mg : Str → Option Value) (a : Ad) : Prop where
  d_is_web : DF K mg "is_web" s_is_web ["letters", "thing"] a.a_is_web a.d_is_web
  d_Reader_way_of : DM K "way_of" "Reader.way_of" s_Reader_way_of ["self", "web"] a.a_Reader_way_of a.d_Reader_way_of
  d_Reader_made : DM K "made" "Reader.made" s_Reader_made ["self", "web"] a.a_Reader_made a.d_Reader_made
  d_Reader_read_of : DM K "read_of" "Reader.read_of" s_Reader_read_of ["self", "web"] a.a_Reader_read_of a.d_Reader_read_of
  d_is_integer : DF K mg "is_integer" s_is_integer ["thing"] a.a_is_integer a.d_is_integer
  d_are_numbers : DF K mg "are_numbers" s_are_numbers ["thing", "many", "below"] a.a_are_numbers a.d_are_numbers
  d_is_reader_node : DF K mg "is_reader_node" s_is_reader_node ["letters", "many", "thing"] a.a_is_reader_node a.d_is_reader_node
  d_is_letters : DF K mg "is_letters" s_is_letters ["thing"] a.a_is_letters a.d_is_letters
  d_Reader_init : DM K "__init__" "Reader.__init__" s_Reader_init ["self", "letters", "nodes"] a.a_Reader_init a.d_Reader_init
  d__law_heard : DF K mg "_law_heard" s__law_heard ["way", "code", "web"] a.a__law_heard a.d__law_heard
  d__law_draw : DF K mg "_law_draw" s__law_draw ["deck", "below"] a.a__law_draw a.d__law_draw
  d__law_pick : DF K mg "_law_pick" s__law_pick ["deck", "some"] a.a__law_pick a.d__law_pick
  d__law_made : DF K mg "_law_made" s__law_made ["signs", "nodes", "web"] a.a__law_made a.d__law_made
  d__law_word : DF K mg "_law_word" s__law_word ["deck", "signs", "most"] a.a__law_word a.d__law_word
  d__law_web_right : DF K mg "_law_web_right" s__law_web_right ["deck", "signs", "nodes", "code", "web"] a.a__law_web_right a.d__law_web_right
  d__law_nodes : DF K mg "_law_nodes" s__law_nodes ["deck", "signs", "top"] a.a__law_nodes a.d__law_nodes
  d__law_deck : DF K mg "_law_deck" s__law_deck ["script"] a.a__law_deck a.d__law_deck
  d_law : DF K mg "law" s_law ["script"] a.a_law a.d_law
  kw0_Reader_made : KwB a.d_Reader_made ["self", "web"] ["web"] 1
  kw1_Reader_read_of : KwB a.d_Reader_read_of ["self", "web"] ["web"] 1
  n_all : mg "all" = none
  n_bool : mg "bool" = none
  n_enumerate : mg "enumerate" = none
  n_int : mg "int" = none
  n_isinstance : mg "isinstance" = none
  n_len : mg "len" = none
  n_list : mg "list" = none
  n_range : mg "range" = none
  n_repr : mg "repr" = none
  n_str : mg "str" = none
  n_tuple : mg "tuple" = none
  n_zip : mg "zip" = none
  c_ALPHABET : mg "ALPHABET" = some (Value.str "abcdefghijklmnopqrstuvwxyz" a.t_ALPHABET)
  c_NONE : mg "NONE" = some (Value.str "none" a.t_NONE)
  c_PAIR : mg "PAIR" = some (Value.int 2 a.t_PAIR)
  c_READS : mg "READS" = some (Value.str "reads" a.t_READS)
  c_STOPS : mg "STOPS" = some (Value.str "stops" a.t_STOPS)
  g_Reader : mg "Reader" = some (.ref a.C_Reader)
  g_BadReader : mg "BadReader" = some (.ref a.C_BadReader)
  g_BadText : mg "BadText" = some (.ref a.C_BadText)
  g_BadWeb : mg "BadWeb" = some (.ref a.C_BadWeb)
  g_MillError : mg "MillError" = some (.ref a.C_MillError)
  cl_Reader : Cls K a.C_Reader
  in_Reader : InsK K a.C_Reader
  mk_Reader : Mk K a.C_Reader a.a_Reader_init
  m_Reader_made : Meth K a.C_Reader "made" a.a_Reader_made
  m_Reader_read_of : Meth K a.C_Reader "read_of" a.a_Reader_read_of
  m_Reader_way_of : Meth K a.C_Reader "way_of" a.a_Reader_way_of
  na_Reader_letters : NoAttr K a.C_Reader "letters"
  na_Reader_nodes : NoAttr K a.C_Reader "nodes"
  isi : IsiK K a.kc IL
  e_BadReader : ErC P K mg a.C_BadReader ["part"]
  e_BadWeb : ErC P K mg a.C_BadWeb ["thing"]
  xc_BadWeb : ExcC K a.C_BadWeb
  xf_BadWeb : XfC K a.C_BadWeb
  xk_BadWeb_MillError : PySem.W.kitOne K (.ref a.C_BadWeb) (.ref a.C_MillError) = some true
  xm_BadReader_BadWeb : PySem.W.exmOne K (.ref a.C_BadReader) (.ref a.C_BadWeb) = some false
  xm_BadWeb_BadWeb : PySem.W.exmOne K (.ref a.C_BadWeb) (.ref a.C_BadWeb) = some true
  xn_BadWeb_thing : PySem.W.findIn K (.ref a.C_BadWeb) "thing" = some none
section
variable {P : Program} {w : World} {K : PySem.W.Frag} {mg : Str → Option Value} {base : Heap} {a : Ad}
theorem Top.k_Reader (_ : Top P K mg a) : a.kc "Reader" = some a.C_Reader := rfl
theorem Top.k_BadReader (_ : Top P K mg a) : a.kc "BadReader" = some a.C_BadReader := rfl
theorem Top.k_BadText (_ : Top P K mg a) : a.kc "BadText" = some a.C_BadText := rfl
theorem Top.k_BadWeb (_ : Top P K mg a) : a.kc "BadWeb" = some a.C_BadWeb := rfl
theorem Top.k_MillError (_ : Top P K mg a) : a.kc "MillError" = some a.C_MillError := rfl
theorem Top.u_Reader (_ : Top P K mg a) : ∀ C', a.kc "Reader" = some C' → C' = a.C_Reader := fun C' e => (Option.some.inj e).symm
theorem hm_BadWeb {c : String} (h : hit_BadWeb c = some true) : c = "BadWeb" := by
  unfold hit_BadWeb at h
  split at h
  · have := of_decide_eq_true (Option.some.inj h)
    simpa using this
  · cases h
theorem Top.hh_BadWeb (T : Top P K mg a) : ∀ n C b, a.kc n = some C → hit_BadWeb n = some b → PySem.W.exmOne K (.ref C) (.ref a.C_BadWeb) = some b := by
  intro n C b hk hh
  unfold hit_BadWeb at hh
  split at hh
  · rename_i hm
    simp only [List.mem_cons, List.not_mem_nil, or_false] at hm
    rcases hm with rfl | rfl
    · cases (Option.some.inj hh).symm.trans (show _ = false by decide)
      cases (Option.some.inj (show some a.C_BadReader = some C from hk))
      exact T.xm_BadReader_BadWeb
    · cases (Option.some.inj hh).symm.trans (show _ = true by decide)
      cases (Option.some.inj (show some a.C_BadWeb = some C from hk))
      exact T.xm_BadWeb_BadWeb
  · cases hh
theorem Top.hxf_BadWeb (T : Top P K mg a) {c : String} {C : Addr} (hk : a.kc c = some C) (hh : hit_BadWeb c = some true) : XfC K C := by
  rcases hm_BadWeb hh with rfl
  · cases (Option.some.inj (show some a.C_BadWeb = some C from hk))
    exact T.xf_BadWeb
theorem Top.hxc_BadWeb (T : Top P K mg a) {c : String} {C : Addr} (hk : a.kc c = some C) (hh : hit_BadWeb c = some true) : ExcC K C := by
  rcases hm_BadWeb hh with rfl
  · cases (Option.some.inj (show some a.C_BadWeb = some C from hk))
    exact T.xc_BadWeb
theorem Top.hxn_BadWeb_thing (T : Top P K mg a) {c : String} {C : Addr} (hk : a.kc c = some C) (hh : hit_BadWeb c = some true) : PySem.W.findIn K (.ref C) "thing" = some none := by
  rcases hm_BadWeb hh with rfl
  · cases (Option.some.inj (show some a.C_BadWeb = some C from hk))
    exact T.xn_BadWeb_thing
theorem Top.hxk_BadWeb_MillError (T : Top P K mg a) {c : String} {C : Addr} (hk : a.kc c = some C) (hh : hit_BadWeb c = some true) : ∀ v io G, Rp K a.kc io G (.cls "MillError") v → ∃ cv, ClsV v cv ∧ PySem.W.kitOne K (.ref C) cv = some true := by
  rcases hm_BadWeb hh with rfl
  · cases (Option.some.inj (show some a.C_BadWeb = some C from hk))
    intro v io G h
    cases h with
    | cls e =>
      cases (Option.some.inj (show some a.C_MillError = some _ from e))
      exact ⟨_, .own _, T.xk_BadWeb_MillError⟩
end
theorem sc_is_web : FnScope ["letters", "thing", "sign"] ["letters", "thing"] (defScope s_is_web) := ⟨rfl, rfl, rfl, by decide +kernel, rfl, by decide +kernel, by decide +kernel⟩
theorem sc_Reader_way_of : FnScope ["self", "web", "node", "place"] ["self", "web"] (defScope s_Reader_way_of) := ⟨rfl, rfl, rfl, by decide +kernel, rfl, by decide +kernel, by decide +kernel⟩
theorem sc_Reader_made : FnScope ["self", "web", "many", "node"] ["self", "web"] (defScope s_Reader_made) := ⟨rfl, rfl, rfl, by decide +kernel, rfl, by decide +kernel, by decide +kernel⟩
theorem sc_Reader_read_of : FnScope ["self", "web"] ["self", "web"] (defScope s_Reader_read_of) := ⟨rfl, rfl, rfl, by decide +kernel, rfl, by decide +kernel, by decide +kernel⟩
theorem sc_is_integer : FnScope ["thing"] ["thing"] (defScope s_is_integer) := ⟨rfl, rfl, rfl, by decide +kernel, rfl, by decide +kernel, by decide +kernel⟩
theorem sc_are_numbers : FnScope ["thing", "many", "below", "number"] ["thing", "many", "below"] (defScope s_are_numbers) := ⟨rfl, rfl, rfl, by decide +kernel, rfl, by decide +kernel, by decide +kernel⟩
theorem sc_is_reader_node : FnScope ["letters", "many", "thing"] ["letters", "many", "thing"] (defScope s_is_reader_node) := ⟨rfl, rfl, rfl, by decide +kernel, rfl, by decide +kernel, by decide +kernel⟩
theorem sc_is_letters : FnScope ["thing", "sign", "one", "other"] ["thing"] (defScope s_is_letters) := ⟨rfl, rfl, rfl, by decide +kernel, rfl, by decide +kernel, by decide +kernel⟩
theorem sc_Reader_init : FnScope ["self", "letters", "nodes", "number", "node"] ["self", "letters", "nodes"] (defScope s_Reader_init) := ⟨rfl, rfl, rfl, by decide +kernel, rfl, by decide +kernel, by decide +kernel⟩
theorem sc__law_heard : FnScope ["way", "code", "web", "found", "e"] ["way", "code", "web"] (defScope s__law_heard) := ⟨rfl, rfl, rfl, by decide +kernel, rfl, by decide +kernel, by decide +kernel⟩
theorem sc__law_draw : FnScope ["deck", "below", "mixed", "cell"] ["deck", "below"] (defScope s__law_draw) := ⟨rfl, rfl, rfl, by decide +kernel, rfl, by decide +kernel, by decide +kernel⟩
theorem sc__law_pick : FnScope ["deck", "some"] ["deck", "some"] (defScope s__law_pick) := ⟨rfl, rfl, rfl, by decide +kernel, rfl, by decide +kernel, by decide +kernel⟩
theorem sc__law_made : FnScope ["signs", "nodes", "web", "k", "many"] ["signs", "nodes", "web"] (defScope s__law_made) := ⟨rfl, rfl, rfl, by decide +kernel, rfl, by decide +kernel, by decide +kernel⟩
theorem sc__law_word : FnScope ["deck", "signs", "most", "k"] ["deck", "signs", "most"] (defScope s__law_word) := ⟨rfl, rfl, rfl, by decide +kernel, rfl, by decide +kernel, by decide +kernel⟩
theorem sc__law_web_right : FnScope ["deck", "signs", "nodes", "code", "web", "made", "many", "way", "base", "cut", "rest"] ["deck", "signs", "nodes", "code", "web"] (defScope s__law_web_right) := ⟨rfl, rfl, rfl, by decide +kernel, rfl, by decide +kernel, by decide +kernel⟩
theorem sc__law_nodes : FnScope ["deck", "signs", "top", "size", "found", "k", "way", "bare", "x"] ["deck", "signs", "top"] (defScope s__law_nodes) := ⟨rfl, rfl, rfl, by decide +kernel, rfl, by decide +kernel, by decide +kernel⟩
theorem sc__law_deck : FnScope ["script", "cells", "mixed", "cell"] ["script"] (defScope s__law_deck) := ⟨rfl, rfl, rfl, by decide +kernel, rfl, by decide +kernel, by decide +kernel⟩
theorem sc_law : FnScope ["script", "deck", "go", "signs", "nodes", "code", "turn", "odd", "due", "way", "far"] ["script"] (defScope s_law) := ⟨rfl, rfl, rfl, by decide +kernel, rfl, by decide +kernel, by decide +kernel⟩
theorem ok_is_web {P : Program} {w : World} {K : PySem.W.Frag} {mg : Str → Option Value} {base : Heap} {a : Ad} (T : Top P K mg a) : FnG P w K mg base (L2.CX P w) 1 a.a_is_web a.d_is_web ["letters", "thing"] (spF K a.kc 2 f_is_web) :=
  fn_ok T.d_is_web.F sc_is_web rfl fun X Wx e1 e2 e3 e4 e5 e6 e7 e8 hr gd hc tk hp hst hfr => by
  obtain ⟨_, _, _, _, _, Ar, _, _, _, ⟨_, _, _, _, _, _, _, _, _⟩, _, _, _, _, _, _, _⟩ := X
  cases e1; cases e2; cases e3; cases e4; cases e5; cases e6; cases e7; cases e8
  have hr : Room 0 Ar := hr
  exact (sx_one (sx_ret (ex_and (ex_isi T.isi T.n_isinstance (hx_cons (px_var 1) (hx_cons (EX.px (ex_ty T.n_str (by kernel_rfl))) hx_nil))) (ex_one (ex_callB (cr_all hc) (callk1 ck_all) T.n_all (by kernel_rfl) (hx_cons (EX.px (FX.ex (fx_lc0 hc sc_is_web.nd (ix_of (ex_var 1)) (own := [("sign", 2)]) (blkOk_by (N := ["letters", "thing", "sign"]) (sc := defScope s_is_web) (by decide +kernel)) (by decide) (fun s H C cl fp => (gx_name 2 sc_is_web.nd)) (fun s H C cl fp => (ex_cmp (op_insW hr) opk_ins (px_var 2) (px_var 0) (by rfl)))))) hx_nil))))))
theorem ok_Reader_way_of {P : Program} {w : World} {K : PySem.W.Frag} {mg : Str → Option Value} {base : Heap} {a : Ad} (T : Top P K mg a) : FnG P w K mg base (L2.CX P w) 2 a.a_Reader_way_of a.d_Reader_way_of ["self", "web"] (spF K a.kc 2 f_Reader_way_of) :=
  fn_ok T.d_Reader_way_of.F sc_Reader_way_of rfl fun X Wx e1 e2 e3 e4 e5 e6 e7 e8 hr gd hc tk hp hst hfr => by
  obtain ⟨_, _, _, _, _, Ar, _, _, _, ⟨_, _, _, _, _, _, _, _, _⟩, _, _, _, _, _, _, _⟩ := X
  cases e1; cases e2; cases e3; cases e4; cases e5; cases e6; cases e7; cases e8
  have hr : Room 1 Ar := hr
  exact (sx_cons (sx_if (tx_not (tx_val (ex_fn (ok_is_web T) (hr.mono (by decide)) gd T.d_is_web.m T.d_is_web.F.kp T.d_is_web.b tk (al_cons (al_cons al_nil)) (ax_cons (ex_attr (px_var 0) (pl_one T.cl_Reader T.na_Reader_letters T.u_Reader)) (ax_cons (ex_var 1) ax_nil))))) (sx_one (sx_raise T.e_BadWeb T.g_BadWeb T.k_BadWeb hr hc tk (ax_cons (ex_var 1) ax_nil))) sx_nil)
  (sx_cons (sx_par 2 3 hc sc_Reader_way_of.nd (ex_ix (EX.px (ex_attr (px_var 0) (pl_one T.cl_Reader T.na_Reader_nodes T.u_Reader))) (EX.px ex_int)) (ex_callB (call_lenW) (callk1 ck_len) T.n_len (by kernel_rfl) (hx_cons (px_var 1) hx_nil)))
  (sx_cons (sx_while hp (tx_bool (wx_and (tx_cmp (op_eqW hr) opk_eq (EX.px (ex_ix (px_var 2) (EX.px ex_int))) (EX.px (ex_glob (v := .str "reads") T.c_READS ⟨_, rfl⟩ fun _ _ => .str _)) (nomark _)) (wx_and1 (tx_cmp op_gtO opk_gt (px_var 3) (EX.px ex_int) (nomark _))))) (sx_cons (sx_aug 3 sc_Reader_way_of.nd ip_sub ipk_sub ex_int)
  (sx_one (sx_set 2 sc_Reader_way_of.nd (ex_ix (EX.px (ex_attr (px_var 0) (pl_one T.cl_Reader T.na_Reader_nodes T.u_Reader))) (EX.px (ex_ix (px_var 2) (EX.px (ex_op op_addW opk_add (EX.px (ex_glob (v := .int 2) T.c_PAIR ⟨_, rfl⟩ fun _ _ => .int _)) (EX.px (ex_sindex (EX.px (ex_attr (px_var 0) (pl_one T.cl_Reader T.na_Reader_letters T.u_Reader))) (hx_cons (EX.px (ex_ix (px_var 1) (px_var 3))) hx_nil))))))))))))
  (sx_one (sx_ret (ex_tup (ax_cons (ex_op op_sub opk_sub (EX.px (ex_callB (call_lenW) (callk1 ck_len) T.n_len (by kernel_rfl) (hx_cons (px_var 1) hx_nil))) (px_var 3)) (ax_cons (ex_var 2) ax_nil))))))))
theorem ok_Reader_made {P : Program} {w : World} {K : PySem.W.Frag} {mg : Str → Option Value} {base : Heap} {a : Ad} (T : Top P K mg a) : FnG P w K mg base (L2.CX P w) 3 a.a_Reader_made a.d_Reader_made ["self", "web"] (spF K a.kc 2 f_Reader_made) :=
  fn_ok T.d_Reader_made.F sc_Reader_made rfl fun X Wx e1 e2 e3 e4 e5 e6 e7 e8 hr gd hc tk hp hst hfr => by
  obtain ⟨_, _, _, _, _, Ar, _, _, _, ⟨_, _, _, _, _, _, _, _, _⟩, _, _, _, _, _, _, _⟩ := X
  cases e1; cases e2; cases e3; cases e4; cases e5; cases e6; cases e7; cases e8
  have hr : Room 2 Ar := hr
  exact (sx_cons (sx_asg (ex_meth T.u_Reader T.cl_Reader T.m_Reader_way_of (ok_Reader_way_of T) (hr.mono (by decide)) gd T.d_Reader_way_of.b tk (px_var 0) (ax_cons (ex_var 1) ax_nil)) (gx_tup hc (gxs_cons (gx_name 2 sc_Reader_made.nd) (gxs_cons (gx_name 3 sc_Reader_made.nd) gxs_nil)) (hk := (bt_cons (bt_cons bt_nil)))))
  (sx_cons (sx_if (tx_cmp (op_eqW hr) opk_eq (EX.px (ex_ix (px_var 3) (EX.px ex_int))) (EX.px (ex_glob (v := .str "none") T.c_NONE ⟨_, rfl⟩ fun _ _ => .str _)) (nomark _)) (sx_one (sx_ret ex_non)) sx_nil)
  (sx_one (sx_ret (ex_ite (tx_cmp (op_eqW hr) opk_eq (EX.px (ex_ix (px_var 3) (EX.px ex_int))) (EX.px (ex_glob (v := .str "reads") T.c_READS ⟨_, rfl⟩ fun _ _ => .str _)) (nomark _)) (ex_ix (px_var 3) (EX.px ex_int)) (ex_op op_addW opk_add (EX.px (ex_slice (px_var 1) ox_no (ox_at (ex_op op_sub opk_sub (EX.px (ex_callB (call_lenW) (callk1 ck_len) T.n_len (by kernel_rfl) (hx_cons (px_var 1) hx_nil))) (px_var 2))))) (EX.px (ex_ix (px_var 3) (EX.px ex_int)))))))))
theorem ok_Reader_read_of {P : Program} {w : World} {K : PySem.W.Frag} {mg : Str → Option Value} {base : Heap} {a : Ad} (T : Top P K mg a) : FnG P w K mg base (L2.CX P w) 3 a.a_Reader_read_of a.d_Reader_read_of ["self", "web"] (spF K a.kc 2 f_Reader_read_of) :=
  fn_ok T.d_Reader_read_of.F sc_Reader_read_of rfl fun X Wx e1 e2 e3 e4 e5 e6 e7 e8 hr gd hc tk hp hst hfr => by
  obtain ⟨_, _, _, _, _, Ar, _, _, _, ⟨_, _, _, _, _, _, _, _, _⟩, _, _, _, _, _, _, _⟩ := X
  cases e1; cases e2; cases e3; cases e4; cases e5; cases e6; cases e7; cases e8
  have hr : Room 2 Ar := hr
  exact (sx_one (sx_ret (ex_ix (EX.px (ex_meth T.u_Reader T.cl_Reader T.m_Reader_way_of (ok_Reader_way_of T) (hr.mono (by decide)) gd T.d_Reader_way_of.b tk (px_var 0) (ax_cons (ex_var 1) ax_nil))) (EX.px ex_int))))
theorem ok_is_integer {P : Program} {w : World} {K : PySem.W.Frag} {mg : Str → Option Value} {base : Heap} {a : Ad} (T : Top P K mg a) : FnG P w K mg base (L2.CX P w) 1 a.a_is_integer a.d_is_integer ["thing"] (spF K a.kc 1 f_is_integer) :=
  fn_ok T.d_is_integer.F sc_is_integer rfl fun X Wx e1 e2 e3 e4 e5 e6 e7 e8 hr gd hc tk hp hst hfr => by
  obtain ⟨_, _, _, _, _, Ar, _, _, _, ⟨_, _, _, _, _, _, _, _, _⟩, _, _, _, _, _, _, _⟩ := X
  cases e1; cases e2; cases e3; cases e4; cases e5; cases e6; cases e7; cases e8
  have hr : Room 0 Ar := hr
  exact (sx_one (sx_ret (ex_and (ex_isi T.isi T.n_isinstance (hx_cons (px_var 0) (hx_cons (EX.px (ex_ty T.n_int (by kernel_rfl))) hx_nil))) (ex_one (ex_not (ex_isi T.isi T.n_isinstance (hx_cons (px_var 0) (hx_cons (EX.px (ex_ty T.n_bool (by kernel_rfl))) hx_nil))))))))
theorem ok_are_numbers {P : Program} {w : World} {K : PySem.W.Frag} {mg : Str → Option Value} {base : Heap} {a : Ad} (T : Top P K mg a) : FnG P w K mg base (L2.CX P w) 2 a.a_are_numbers a.d_are_numbers ["thing", "many", "below"] (spF K a.kc 3 f_are_numbers) :=
  fn_ok T.d_are_numbers.F sc_are_numbers rfl fun X Wx e1 e2 e3 e4 e5 e6 e7 e8 hr gd hc tk hp hst hfr => by
  obtain ⟨_, _, _, _, _, Ar, _, _, _, ⟨_, _, _, _, _, _, _, _, _⟩, _, _, _, _, _, _, _⟩ := X
  cases e1; cases e2; cases e3; cases e4; cases e5; cases e6; cases e7; cases e8
  have hr : Room 1 Ar := hr
  exact (sx_one (sx_ret (ex_and (ex_cmp (op_eqW hr) opk_eq (EX.px (ex_callB (call_lenW) (callk1 ck_len) T.n_len (by kernel_rfl) (hx_cons (px_var 0) hx_nil))) (px_var 1) (nomark _)) (ex_one (ex_callB (cr_all hc) (callk1 ck_all) T.n_all (by kernel_rfl) (hx_cons (EX.px (FX.ex (fx_lc0 hc sc_are_numbers.nd (ix_of (ex_var 0)) (own := [("number", 3)]) (blkOk_by (N := ["thing", "many", "below", "number"]) (sc := defScope s_are_numbers) (by decide +kernel)) (by decide) (fun s H C cl fp => (gx_name 3 sc_are_numbers.nd)) (fun s H C cl fp => (ex_and (ex_fn (ok_is_integer T) (hr.mono (by decide)) gd T.d_is_integer.m T.d_is_integer.F.kp T.d_is_integer.b takes_none5 (al_cons al_nil) (ax_cons (ex_var 3) ax_nil)) (ex_one (ex_chain op_leO opk_le op_ltO opk_lt (EX.px ex_int) (px_var 3) (px_var 2)))))))) hx_nil))))))
theorem ok_is_reader_node {P : Program} {w : World} {K : PySem.W.Frag} {mg : Str → Option Value} {base : Heap} {a : Ad} (T : Top P K mg a) : FnG P w K mg base (L2.CX P w) 3 a.a_is_reader_node a.d_is_reader_node ["letters", "many", "thing"] (spF K a.kc 3 f_is_reader_node) :=
  fn_ok T.d_is_reader_node.F sc_is_reader_node rfl fun X Wx e1 e2 e3 e4 e5 e6 e7 e8 hr gd hc tk hp hst hfr => by
  obtain ⟨_, _, _, _, _, Ar, _, _, _, ⟨_, _, _, _, _, _, _, _, _⟩, _, _, _, _, _, _, _⟩ := X
  cases e1; cases e2; cases e3; cases e4; cases e5; cases e6; cases e7; cases e8
  have hr : Room 2 Ar := hr
  exact (sx_cons (sx_if (tx_bool (wx_or (tx_not (tx_val (ex_isi T.isi T.n_isinstance (hx_cons (px_var 2) (hx_cons (EX.px (ex_ty T.n_tuple (by kernel_rfl))) hx_nil))))) (wx_or (tx_cmp (op_eqW hr) opk_eq (px_var 2) (EX.px (ex_tup ax_nil)) (nomark _)) (wx_or1 (tx_not (tx_val (ex_isi T.isi T.n_isinstance (hx_cons (EX.px (ex_ix (px_var 2) (EX.px ex_int))) (hx_cons (EX.px (ex_ty T.n_str (by kernel_rfl))) hx_nil))))))))) (sx_one (sx_ret ex_bl)) sx_nil)
  (sx_cons (sx_if (tx_cmp (op_eqW hr) opk_eq (EX.px (ex_ix (px_var 2) (EX.px ex_int))) (EX.px (ex_glob (v := .str "stops") T.c_STOPS ⟨_, rfl⟩ fun _ _ => .str _)) (nomark _)) (sx_one (sx_ret (ex_and (ex_cmp (op_eqW hr) opk_eq (EX.px (ex_callB (call_lenW) (callk1 ck_len) T.n_len (by kernel_rfl) (hx_cons (px_var 2) hx_nil))) (EX.px (ex_glob (v := .int 2) T.c_PAIR ⟨_, rfl⟩ fun _ _ => .int _)) (nomark _)) (ex_one (ex_fn (ok_is_web T) (hr.mono (by decide)) gd T.d_is_web.m T.d_is_web.F.kp T.d_is_web.b tk (al_cons (al_cons al_nil)) (ax_cons (ex_var 0) (ax_cons (ex_ix (px_var 2) (EX.px ex_int)) ax_nil))))))) sx_nil)
  (sx_cons (sx_if (tx_cmp (op_neW hr) opk_ne (EX.px (ex_ix (px_var 2) (EX.px ex_int))) (EX.px (ex_glob (v := .str "reads") T.c_READS ⟨_, rfl⟩ fun _ _ => .str _)) (nomark _)) (sx_one (sx_ret (ex_cmp (op_eqW hr) opk_eq (px_var 2) (EX.px (ex_tup (ax_cons (ex_glob (v := .str "none") T.c_NONE ⟨_, rfl⟩ fun _ _ => .str _) ax_nil))) (nomark _)))) sx_nil)
  (sx_cons (sx_if (tx_bool (wx_or (tx_cmp op_ltO opk_lt (EX.px (ex_callB (call_lenW) (callk1 ck_len) T.n_len (by kernel_rfl) (hx_cons (px_var 2) hx_nil))) (EX.px (ex_glob (v := .int 2) T.c_PAIR ⟨_, rfl⟩ fun _ _ => .int _)) (nomark _)) (wx_or1 (tx_not (tx_bool (wx_or (tx_cmp op_isN opk_isn (EX.px (ex_ix (px_var 2) (EX.px ex_int))) (EX.px ex_non) (nomark _)) (wx_or1 (tx_val (ex_fn (ok_is_web T) (hr.mono (by decide)) gd T.d_is_web.m T.d_is_web.F.kp T.d_is_web.b tk (al_cons (al_cons al_nil)) (ax_cons (ex_var 0) (ax_cons (ex_ix (px_var 2) (EX.px ex_int)) ax_nil))))))))))) (sx_one (sx_ret ex_bl)) sx_nil)
  (sx_one (sx_ret (ex_fn (ok_are_numbers T) (hr.mono (by decide)) gd T.d_are_numbers.m T.d_are_numbers.F.kp T.d_are_numbers.b tk (al_cons (al_cons (al_cons al_nil))) (ax_cons (ex_slice (px_var 2) (ox_at (ex_glob (v := .int 2) T.c_PAIR ⟨_, rfl⟩ fun _ _ => .int _)) ox_no) (ax_cons (ex_callB (call_lenW) (callk1 ck_len) T.n_len (by kernel_rfl) (hx_cons (px_var 0) hx_nil)) (ax_cons (ex_var 1) ax_nil))))))))))
theorem ok_is_letters {P : Program} {w : World} {K : PySem.W.Frag} {mg : Str → Option Value} {base : Heap} {a : Ad} (T : Top P K mg a) : FnG P w K mg base (L2.CX P w) 1 a.a_is_letters a.d_is_letters ["thing"] (spF K a.kc 1 f_is_letters) :=
  fn_ok T.d_is_letters.F sc_is_letters rfl fun X Wx e1 e2 e3 e4 e5 e6 e7 e8 hr gd hc tk hp hst hfr => by
  obtain ⟨_, _, _, _, _, Ar, _, _, _, ⟨_, _, _, _, _, _, _, _, _⟩, _, _, _, _, _, _, _⟩ := X
  cases e1; cases e2; cases e3; cases e4; cases e5; cases e6; cases e7; cases e8
  have hr : Room 0 Ar := hr
  exact (sx_cons (sx_if (tx_bool (wx_or (tx_not (tx_val (ex_isi T.isi T.n_isinstance (hx_cons (px_var 0) (hx_cons (EX.px (ex_ty T.n_str (by kernel_rfl))) hx_nil))))) (wx_or1 (tx_cmp (op_eqW hr) opk_eq (px_var 0) (EX.px ex_str) (nomark _))))) (sx_one (sx_ret ex_bl)) sx_nil)
  (sx_one (sx_ret (ex_and (ex_callB (cr_all hc) (callk1 ck_all) T.n_all (by kernel_rfl) (hx_cons (EX.px (FX.ex (fx_lc0 hc sc_is_letters.nd (ix_of (ex_var 0)) (own := [("sign", 1)]) (blkOk_by (N := ["thing", "sign", "one", "other"]) (sc := defScope s_is_letters) (by decide +kernel)) (by decide) (fun s H C cl fp => (gx_name 1 sc_is_letters.nd)) (fun s H C cl fp => (ex_cmp (op_insW hr) opk_ins (px_var 1) (EX.px (ex_glob (v := .str "abcdefghijklmnopqrstuvwxyz") T.c_ALPHABET ⟨_, rfl⟩ fun _ _ => .str _)) (by rfl)))))) hx_nil)) (ex_one (ex_callB (cr_all hc) (callk1 ck_all) T.n_all (by kernel_rfl) (hx_cons (EX.px (FX.ex (fx_lc0 hc sc_is_letters.nd (ix_zip T.n_zip (ax_cons (ex_var 0) (ax_cons (ex_slice (px_var 0) (ox_at ex_int) ox_no) ax_nil))) (own := [("one", 2), ("other", 3)]) (blkOk_by (N := ["thing", "sign", "one", "other"]) (sc := defScope s_is_letters) (by decide +kernel)) (by decide) (fun s H C cl fp => (gx_tup hc (gxs_cons (gx_name 2 sc_is_letters.nd) (gxs_cons (gx_name 3 sc_is_letters.nd) gxs_nil)) (hk := (bt_cons (bt_cons bt_nil))))) (fun s H C cl fp => (ex_cmp op_ltO opk_lt (px_var 2) (px_var 3) (nomark _)))))) hx_nil)))))))
theorem ok_Reader_init {P : Program} {w : World} {K : PySem.W.Frag} {mg : Str → Option Value} {base : Heap} {a : Ad} (T : Top P K mg a) : FnG P w K mg base (L2.CX P w) 4 a.a_Reader_init a.d_Reader_init ["self", "letters", "nodes"] (spF K a.kc 3 f_Reader_init) :=
  fn_ok T.d_Reader_init.F sc_Reader_init rfl fun X Wx e1 e2 e3 e4 e5 e6 e7 e8 hr gd hc tk hp hst hfr => by
  obtain ⟨_, _, _, _, _, Ar, _, _, _, ⟨_, _, _, _, _, _, _, _, _⟩, _, _, _, _, _, _, _⟩ := X
  cases e1; cases e2; cases e3; cases e4; cases e5; cases e6; cases e7; cases e8
  have hr : Room 3 Ar := hr
  exact (sx_cons (sx_if (tx_not (tx_val (ex_fn (ok_is_letters T) (hr.mono (by decide)) gd T.d_is_letters.m T.d_is_letters.F.kp T.d_is_letters.b tk (al_cons al_nil) (ax_cons (ex_var 1) ax_nil)))) (sx_one (sx_raise T.e_BadReader T.g_BadReader T.k_BadReader hr hc tk (ax_cons ex_str ax_nil))) sx_nil)
  (sx_cons (sx_if (tx_bool (wx_or (tx_not (tx_val (ex_isi T.isi T.n_isinstance (hx_cons (px_var 2) (hx_cons (EX.px (ex_ty T.n_tuple (by kernel_rfl))) hx_nil))))) (wx_or1 (tx_cmp (op_eqW hr) opk_eq (px_var 2) (EX.px (ex_tup ax_nil)) (nomark _))))) (sx_one (sx_raise T.e_BadReader T.g_BadReader T.k_BadReader hr hc tk (ax_cons ex_str ax_nil))) sx_nil)
  (sx_cons (sx_for hp hc (ix_enum T.n_enumerate (ax_cons (ex_var 2) ax_nil)) (gx_tup hc (gxs_cons (gx_name 3 sc_Reader_init.nd) (gxs_cons (gx_name 4 sc_Reader_init.nd) gxs_nil)) (hk := (bt_cons (bt_cons bt_nil)))) (sx_one (sx_if (tx_not (tx_val (ex_fn (ok_is_reader_node T) (hr.mono (by decide)) gd T.d_is_reader_node.m T.d_is_reader_node.F.kp T.d_is_reader_node.b tk (al_cons (al_cons (al_cons al_nil))) (ax_cons (ex_var 1) (ax_cons (ex_callB (call_lenW) (callk1 ck_len) T.n_len (by kernel_rfl) (hx_cons (px_var 2) hx_nil)) (ax_cons (ex_var 4) ax_nil)))))) (sx_one (sx_raise T.e_BadReader T.g_BadReader T.k_BadReader hr hc tk (ax_cons (ex_var 3) ax_nil))) sx_nil)))
  (sx_cons (sx_sattr (px_var 0) (ex_var 1) (pl_one T.cl_Reader T.na_Reader_letters T.u_Reader))
  (sx_one (sx_sattr (px_var 0) (ex_var 2) (pl_one T.cl_Reader T.na_Reader_nodes T.u_Reader)))))))
theorem ok__law_heard {P : Program} {w : World} {K : PySem.W.Frag} {mg : Str → Option Value} {base : Heap} {a : Ad} (T : Top P K mg a) : FnG P w K mg base (L2.CX P w) 4 a.a__law_heard a.d__law_heard ["way", "code", "web"] (spF K a.kc 3 f__law_heard) :=
  fn_ok T.d__law_heard.F sc__law_heard rfl fun X Wx e1 e2 e3 e4 e5 e6 e7 e8 hr gd hc tk hp hst hfr => by
  obtain ⟨_, _, _, _, _, Ar, _, _, _, ⟨_, _, _, _, _, _, _, _, _⟩, _, _, _, _, _, _, _⟩ := X
  cases e1; cases e2; cases e3; cases e4; cases e5; cases e6; cases e7; cases e8
  have hr : Room 3 Ar := hr
  exact (sx_cons (sx_set 3 sc__law_heard.nd ex_non)
  (sx_cons (sx_tryL hst hfr sc__law_heard.nd tk (fun W2 pn2 xe2 tk2 hp2 => (sx_one (sx_if (tx_cmp op_ltO opk_lt (px_var 0) (EX.px ex_int) (nomark _)) (sx_one (sx_set 3 sc__law_heard.nd (ex_ite (tx_cmp (op_eqW hr) opk_eq (px_var 0) (EX.px ex_int) (nomark _)) (ex_meth T.u_Reader T.cl_Reader T.m_Reader_made (ok_Reader_made T) (hr.mono (by decide)) gd T.d_Reader_made.b tk2 (px_var 1) (ax_cons (ex_var 2) ax_nil)) (ex_methK T.u_Reader T.cl_Reader T.m_Reader_made (ok_Reader_made T) (hr.mono (by decide)) gd T.kw0_Reader_made tk2 (px_var 1) (kx_cons (ex_var 2) kx_nil))))) (sx_one (sx_set 3 sc__law_heard.nd (ex_ite (tx_cmp (op_eqW hr) opk_eq (px_var 0) (EX.px ex_int) (nomark _)) (ex_meth T.u_Reader T.cl_Reader T.m_Reader_read_of (ok_Reader_read_of T) (hr.mono (by decide)) gd T.d_Reader_read_of.b tk2 (px_var 1) (ax_cons (ex_var 2) ax_nil)) (ex_methK T.u_Reader T.cl_Reader T.m_Reader_read_of (ok_Reader_read_of T) (hr.mono (by decide)) gd T.kw1_Reader_read_of tk2 (px_var 1) (kx_cons (ex_var 2) kx_nil)))))))) (HnOk.as (i := 4) (hit := hit_BadWeb) (h := fun c fs => (Z.set 3 (E.lst (A.cons (E.c (.str "bad")) (A.cons (xatt fs "thing") (A.cons (E.c (.bl true)) A.nil)))))) ⟨rfl, by decide, .inl T.g_BadWeb⟩ rfl rfl T.hh_BadWeb (fun x oe pn hxi hxk hxh hz hf => (sxsh_one (sxh_set 3 sc__law_heard.nd (FXh.ex (fxh_lst (axh_cons (exh_of ex_str) (axh_cons (exh_att (T.hxf_BadWeb hxk hxh) (T.hxn_BadWeb_thing hxk hxh) hz hf (hN := (congrArg (fun j => (["way", "code", "web", "found", "e"] : List Str)[j]?) hxi).trans rfl)) (axh_cons (exh_isi (p2 := ⟨0, 0, 0, 0⟩) (T.hxc_BadWeb hxk hxh) hz hf (ex_clsv T.g_MillError T.k_MillError) (T.hxk_BadWeb_MillError hxk hxh) T.n_isinstance (hN := (congrArg (fun j => (["way", "code", "web", "found", "e"] : List Str)[j]?) hxi).trans rfl)) axh_nil)))))))) HnOk.nil))
  (sx_one (sx_ret (ex_repr gd (hu80 hr) T.n_repr (hx_cons (px_var 3) hx_nil))))))
theorem ok__law_draw {P : Program} {w : World} {K : PySem.W.Frag} {mg : Str → Option Value} {base : Heap} {a : Ad} (T : Top P K mg a) : FnG P w K mg base (L2.CX P w) 1 a.a__law_draw a.d__law_draw ["deck", "below"] (spF K a.kc 2 f__law_draw) :=
  fn_ok T.d__law_draw.F sc__law_draw rfl fun X Wx e1 e2 e3 e4 e5 e6 e7 e8 hr gd hc tk hp hst hfr => by
  obtain ⟨_, _, _, _, _, Ar, _, _, _, ⟨_, _, _, _, _, _, _, _, _⟩, _, _, _, _, _, _, _⟩ := X
  cases e1; cases e2; cases e3; cases e4; cases e5; cases e6; cases e7; cases e8
  have hr : Room 0 Ar := hr
  exact (sx_cons (sx_dput (hu1 hr) (px_var 0) (EX.px ex_str) (ex_op op_addW opk_add (EX.px (ex_dix (hu1 hr) (px_var 0) (EX.px ex_str))) (EX.px ex_int)))
  (sx_cons (sx_set 2 sc__law_draw.nd (ex_op op_addW opk_add (EX.px (ex_dix (hu1 hr) (px_var 0) (EX.px ex_str))) (EX.px (ex_op op_mulSS opk_mulS (EX.px (ex_op op_mulSS opk_mulS (EX.px ex_int) (EX.px (ex_dix (hu1 hr) (px_var 0) (EX.px ex_str))))) (EX.px (ex_dix (hu1 hr) (px_var 0) (EX.px ex_str)))))))
  (sx_cons (sx_if (tx_cmp (op_neW hr) opk_ne (EX.px (ex_dix (hu1 hr) (px_var 0) (EX.px ex_str))) (EX.px (FX.ex (fx_lst ax_nil))) (nomark _)) (sx_cons (sx_set 3 sc__law_draw.nd (ex_pop (ex_dix (hu1 hr) (px_var 0) (EX.px ex_str))))
  (sx_cons (sx_if (tx_cmp op_geO opk_ge (px_var 3) (EX.px (ex_op op_pow opk_pow (EX.px ex_int) (EX.px ex_int))) (nomark _)) (sx_cons (sx_app (EX.px (ex_dix (hu1 hr) (px_var 0) (EX.px ex_str))) (ex_op op_fdiv opk_fdiv (px_var 3) (px_var 1)))
  (sx_one (sx_ret (ex_op op_mod opk_mod (EX.px (ex_callT call_int1 (callk1 ck_int1) T.n_int (by kernel_rfl) (hx_cons (px_var 3) hx_nil))) (px_var 1))))) sx_nil)
  (sx_one (sx_set 2 sc__law_draw.nd (ex_op op_addW opk_add (px_var 2) (EX.px (ex_op op_mod opk_mod (EX.px (ex_callT call_int1 (callk1 ck_int1) T.n_int (by kernel_rfl) (hx_cons (px_var 3) hx_nil))) (EX.px ex_int)))))))) sx_nil)
  (sx_cons (sx_set 2 sc__law_draw.nd (ex_op op_mod opk_mod (EX.px (ex_callT call_int1 (callk1 ck_int1) T.n_int (by kernel_rfl) (hx_cons (EX.px (ex_op op_addW opk_add (EX.px (ex_op op_mulSS opk_mulS (EX.px (ex_op op_mod opk_mod (px_var 2) (EX.px ex_int))) (EX.px ex_int))) (EX.px (ex_dix (hu1 hr) (px_var 0) (EX.px ex_str))))) hx_nil))) (EX.px ex_int)))
  (sx_cons (sx_set 2 sc__law_draw.nd (ex_op op_mod opk_mod (EX.px (ex_callT call_int1 (callk1 ck_int1) T.n_int (by kernel_rfl) (hx_cons (EX.px (ex_op op_addW opk_add (EX.px (ex_op op_addW opk_add (EX.px (ex_op op_mulSS opk_mulS (px_var 2) (px_var 2))) (EX.px (ex_op op_mulSS opk_mulS (EX.px ex_int) (EX.px (ex_dix (hu1 hr) (px_var 0) (EX.px ex_str))))))) (EX.px ex_int))) hx_nil))) (EX.px ex_int)))
  (sx_one (sx_ret (ex_op op_mod opk_mod (EX.px (ex_op op_fdiv opk_fdiv (EX.px (ex_op op_mod opk_mod (EX.px (ex_callT call_int1 (callk1 ck_int1) T.n_int (by kernel_rfl) (hx_cons (EX.px (ex_op op_mulSS opk_mulS (px_var 2) (EX.px ex_int))) hx_nil))) (EX.px ex_int))) (EX.px ex_int))) (px_var 1)))))))))
theorem ok__law_pick {P : Program} {w : World} {K : PySem.W.Frag} {mg : Str → Option Value} {base : Heap} {a : Ad} (T : Top P K mg a) : FnG P w K mg base (L2.CX P w) 2 a.a__law_pick a.d__law_pick ["deck", "some"] (spF K a.kc 2 f__law_pick) :=
  fn_ok T.d__law_pick.F sc__law_pick rfl fun X Wx e1 e2 e3 e4 e5 e6 e7 e8 hr gd hc tk hp hst hfr => by
  obtain ⟨_, _, _, _, _, Ar, _, _, _, ⟨_, _, _, _, _, _, _, _, _⟩, _, _, _, _, _, _, _⟩ := X
  cases e1; cases e2; cases e3; cases e4; cases e5; cases e6; cases e7; cases e8
  have hr : Room 1 Ar := hr
  exact (sx_one (sx_ret (ex_ix (px_var 1) (EX.px (ex_fn (ok__law_draw T) (hr.mono (by decide)) gd T.d__law_draw.m T.d__law_draw.F.kp T.d__law_draw.b tk (al_cons (al_cons al_nil)) (ax_cons (ex_var 0) (ax_cons (ex_callB (call_lenW) (callk1 ck_len) T.n_len (by kernel_rfl) (hx_cons (px_var 1) hx_nil)) ax_nil)))))))
theorem ok__law_made {P : Program} {w : World} {K : PySem.W.Frag} {mg : Str → Option Value} {base : Heap} {a : Ad} (T : Top P K mg a) : FnG P w K mg base (L2.CX P w) 1 a.a__law_made a.d__law_made ["signs", "nodes", "web"] (spF K a.kc 3 f__law_made) :=
  fn_ok T.d__law_made.F sc__law_made rfl fun X Wx e1 e2 e3 e4 e5 e6 e7 e8 hr gd hc tk hp hst hfr => by
  obtain ⟨_, _, _, _, _, Ar, _, _, _, ⟨_, _, _, _, _, _, _, _, _⟩, _, _, _, _, _, _, _⟩ := X
  cases e1; cases e2; cases e3; cases e4; cases e5; cases e6; cases e7; cases e8
  have hr : Room 0 Ar := hr
  exact (sx_cons (sx_asg (ex_tup (ax_cons ex_int (ax_cons ex_int ax_nil))) (gx_tup hc (gxs_cons (gx_name 3 sc__law_made.nd) (gxs_cons (gx_name 4 sc__law_made.nd) gxs_nil)) (hk := (bt_cons (bt_cons bt_nil)))))
  (sx_cons (sx_while hp (tx_bool (wx_and (tx_cmp (op_eqW hr) opk_eq (EX.px (ex_ix (EX.px (ex_ix (px_var 1) (px_var 3))) (EX.px ex_int))) (EX.px ex_str) (nomark _)) (wx_and1 (tx_cmp op_ltO opk_lt (px_var 4) (EX.px (ex_callB (call_lenW) (callk1 ck_len) T.n_len (by kernel_rfl) (hx_cons (px_var 2) hx_nil))) (nomark _))))) (sx_one (sx_par 3 4 hc sc__law_made.nd (ex_ix (EX.px (ex_ix (px_var 1) (px_var 3))) (EX.px (ex_op op_addW opk_add (EX.px ex_int) (EX.px (ex_sindex (px_var 0) (hx_cons (EX.px (ex_ix (px_var 2) (EX.px (ex_op op_sub opk_sub (EX.px (ex_op op_sub opk_sub (EX.px (ex_callB (call_lenW) (callk1 ck_len) T.n_len (by kernel_rfl) (hx_cons (px_var 2) hx_nil))) (EX.px ex_int))) (px_var 4))))) hx_nil)))))) (ex_op op_addW opk_add (px_var 4) (EX.px ex_int)))))
  (sx_cons (sx_if (tx_cmp (op_eqW hr) opk_eq (EX.px (ex_ix (EX.px (ex_ix (px_var 1) (px_var 3))) (EX.px ex_int))) (EX.px ex_str) (nomark _)) (sx_one (sx_ret (ex_tup (ax_cons (ex_ix (EX.px (ex_ix (px_var 1) (px_var 3))) (EX.px ex_int)) (ax_cons (ex_var 4) ax_nil))))) sx_nil)
  (sx_one (sx_ret (ex_tup (ax_cons (ex_ite (tx_cmp (op_eqW hr) opk_eq (EX.px (ex_ix (EX.px (ex_ix (px_var 1) (px_var 3))) (EX.px ex_int))) (EX.px ex_str) (nomark _)) (ex_op op_addW opk_add (EX.px (ex_slice (px_var 2) ox_no (ox_at (ex_op op_sub opk_sub (EX.px (ex_callB (call_lenW) (callk1 ck_len) T.n_len (by kernel_rfl) (hx_cons (px_var 2) hx_nil))) (px_var 4))))) (EX.px (ex_ix (EX.px (ex_ix (px_var 1) (px_var 3))) (EX.px ex_int)))) ex_non) (ax_cons (ex_var 4) ax_nil))))))))
theorem ok__law_word {P : Program} {w : World} {K : PySem.W.Frag} {mg : Str → Option Value} {base : Heap} {a : Ad} (T : Top P K mg a) : FnG P w K mg base (L2.CX P w) 3 a.a__law_word a.d__law_word ["deck", "signs", "most"] (spF K a.kc 3 f__law_word) :=
  fn_ok T.d__law_word.F sc__law_word rfl fun X Wx e1 e2 e3 e4 e5 e6 e7 e8 hr gd hc tk hp hst hfr => by
  obtain ⟨_, _, _, _, _, Ar, _, _, _, ⟨_, _, _, _, _, _, _, _, _⟩, _, _, _, _, _, _, _⟩ := X
  cases e1; cases e2; cases e3; cases e4; cases e5; cases e6; cases e7; cases e8
  have hr : Room 2 Ar := hr
  exact (sx_one (sx_ret (ex_join (EX.px ex_str) (hx_cons (EX.px (FX.ex (fx_lc0 hc sc__law_word.nd (ix_range1 T.n_range (hx_cons (EX.px (ex_fn (ok__law_draw T) (hr.mono (by decide)) gd T.d__law_draw.m T.d__law_draw.F.kp T.d__law_draw.b tk (al_cons (al_cons al_nil)) (ax_cons (ex_var 0) (ax_cons (ex_op op_addW opk_add (px_var 2) (EX.px ex_int)) ax_nil)))) hx_nil)) (own := [("k", 3)]) (blkOk_by (N := ["deck", "signs", "most", "k"]) (sc := defScope s__law_word) (by decide +kernel)) (by decide) (fun s H C cl fp => (gx_name 3 sc__law_word.nd)) (fun s H C cl fp => (ex_fn (ok__law_pick T) (hr.mono (by decide)) gd T.d__law_pick.m T.d__law_pick.F.kp T.d__law_pick.b takes_none5 (al_cons (al_cons al_nil)) (ax_cons (ex_var 0) (ax_cons (ex_var 1) ax_nil))))))) hx_nil))))
theorem ok__law_web_right {P : Program} {w : World} {K : PySem.W.Frag} {mg : Str → Option Value} {base : Heap} {a : Ad} (T : Top P K mg a) : FnG P w K mg base (L2.CX P w) 5 a.a__law_web_right a.d__law_web_right ["deck", "signs", "nodes", "code", "web"] (spF K a.kc 5 f__law_web_right) :=
  fn_ok T.d__law_web_right.F sc__law_web_right rfl fun X Wx e1 e2 e3 e4 e5 e6 e7 e8 hr gd hc tk hp hst hfr => by
  obtain ⟨_, _, _, _, _, Ar, _, _, _, ⟨_, _, _, _, _, _, _, _, _⟩, _, _, _, _, _, _, _⟩ := X
  cases e1; cases e2; cases e3; cases e4; cases e5; cases e6; cases e7; cases e8
  have hr : Room 4 Ar := hr
  exact (sx_cons (sx_asg (ex_fn (ok__law_made T) (hr.mono (by decide)) gd T.d__law_made.m T.d__law_made.F.kp T.d__law_made.b tk (al_cons (al_cons (al_cons al_nil))) (ax_cons (ex_var 1) (ax_cons (ex_var 2) (ax_cons (ex_var 4) ax_nil)))) (gx_tup hc (gxs_cons (gx_name 5 sc__law_web_right.nd) (gxs_cons (gx_name 6 sc__law_web_right.nd) gxs_nil)) (hk := (bt_cons (bt_cons bt_nil)))))
  (sx_cons (sx_if (tx_cmp (op_neW hr) opk_ne (EX.px (FX.ex (fx_lc0 hc sc__law_web_right.nd (ix_range1 T.n_range (hx_cons (EX.px ex_int) hx_nil)) (own := [("way", 7)]) (blkOk_by (N := ["deck", "signs", "nodes", "code", "web", "made", "many", "way", "base", "cut", "rest"]) (sc := defScope s__law_web_right) (by decide +kernel)) (by decide) (fun s H C cl fp => (gx_name 7 sc__law_web_right.nd)) (fun s H C cl fp => (ex_fn (ok__law_heard T) (hr.mono (by decide)) gd T.d__law_heard.m T.d__law_heard.F.kp T.d__law_heard.b takes_none5 (al_cons (al_cons (al_cons al_nil))) (ax_cons (ex_var 7) (ax_cons (ex_var 3) (ax_cons (ex_var 4) ax_nil)))))))) (EX.px (ex_op op_addW opk_add (EX.px (ex_op op_mulSS opk_mulS (EX.px (FX.ex (fx_lst (ax_cons (ex_repr gd (hu80 hr) T.n_repr (hx_cons (px_var 5) hx_nil)) ax_nil)))) (EX.px ex_int))) (EX.px (ex_op op_mulSS opk_mulS (EX.px (FX.ex (fx_lst (ax_cons (ex_repr gd (hu80 hr) T.n_repr (hx_cons (px_var 6) hx_nil)) ax_nil)))) (EX.px ex_int))))) (nomark _)) (sx_one (sx_ret ex_bl)) sx_nil)
  (sx_cons (sx_par3 8 9 10 hc sc__law_web_right.nd (ex_fn (ok__law_word T) (hr.mono (by decide)) gd T.d__law_word.m T.d__law_word.F.kp T.d__law_word.b tk (al_cons (al_cons (al_cons al_nil))) (ax_cons (ex_var 0) (ax_cons (ex_var 1) (ax_cons ex_int ax_nil)))) (ex_slice (px_var 4) (ox_at (ex_op op_sub opk_sub (EX.px (ex_callB (call_lenW) (callk1 ck_len) T.n_len (by kernel_rfl) (hx_cons (px_var 4) hx_nil))) (px_var 6))) ox_no) (ex_slice (px_var 4) ox_no (ox_at (ex_op op_sub opk_sub (EX.px (ex_callB (call_lenW) (callk1 ck_len) T.n_len (by kernel_rfl) (hx_cons (px_var 4) hx_nil))) (px_var 6)))))
  (sx_cons (sx_if (tx_cmp (op_neW hr) opk_ne (EX.px (ex_repr gd (hu80 hr) T.n_repr (hx_cons (EX.px (FX.ex (fx_lst (ax_cons (ex_meth T.u_Reader T.cl_Reader T.m_Reader_made (ok_Reader_made T) (hr.mono (by decide)) gd T.d_Reader_made.b tk (px_var 3) (ax_cons (ex_op op_addW opk_add (px_var 8) (px_var 9)) ax_nil)) (ax_cons (ex_meth T.u_Reader T.cl_Reader T.m_Reader_read_of (ok_Reader_read_of T) (hr.mono (by decide)) gd T.d_Reader_read_of.b tk (px_var 3) (ax_cons (ex_op op_addW opk_add (px_var 8) (px_var 9)) ax_nil)) ax_nil))))) hx_nil))) (EX.px (ex_repr gd (hu80 hr) T.n_repr (hx_cons (EX.px (FX.ex (fx_callT call_list_of (callk1 ck_list) T.n_list (by kernel_rfl) (hx_cons (EX.px (ex_fn (ok__law_made T) (hr.mono (by decide)) gd T.d__law_made.m T.d__law_made.F.kp T.d__law_made.b tk (al_cons (al_cons (al_cons al_nil))) (ax_cons (ex_var 1) (ax_cons (ex_var 2) (ax_cons (ex_op op_addW opk_add (px_var 8) (px_var 9)) ax_nil))))) hx_nil)))) hx_nil))) (nomark _)) (sx_one (sx_ret ex_bl)) sx_nil)
  (sx_one (sx_ret (ex_or (ex_cmp (op_eqW hr) opk_eq (px_var 10) (EX.px ex_str) (nomark _)) (ex_or (ex_cmp op_isN opk_isn (px_var 5) (EX.px ex_non) (nomark _)) (ex_one (ex_cmp (op_eqW hr) opk_eq (EX.px (ex_meth T.u_Reader T.cl_Reader T.m_Reader_made (ok_Reader_made T) (hr.mono (by decide)) gd T.d_Reader_made.b tk (px_var 3) (ax_cons (ex_op op_addW opk_add (px_var 8) (px_var 9)) ax_nil))) (EX.px (ex_op op_addW opk_add (px_var 8) (EX.px (ex_slice (px_var 5) (ox_at (ex_callB (call_lenW) (callk1 ck_len) T.n_len (by kernel_rfl) (hx_cons (px_var 10) hx_nil))) ox_no)))) (nomark _)))))))))))
theorem ok__law_nodes {P : Program} {w : World} {K : PySem.W.Frag} {mg : Str → Option Value} {base : Heap} {a : Ad} (T : Top P K mg a) : FnG P w K mg base (L2.CX P w) 4 a.a__law_nodes a.d__law_nodes ["deck", "signs", "top"] (spF K a.kc 3 f__law_nodes) :=
  FnG.dropT <| fn_ok T.d__law_nodes.F sc__law_nodes rfl fun X Wx e1 e2 e3 e4 e5 e6 e7 e8 hr gd hc tk hp hst hfr => by
  obtain ⟨_, _, _, _, _, Ar, _, _, _, ⟨_, _, _, _, _, _, _, _, _⟩, _, _, _, _, _, _, _⟩ := X
  cases e1; cases e2; cases e3; cases e4; cases e5; cases e6; cases e7; cases e8
  have hr : Room 3 Ar := hr
  exact (sx_cons (sx_asg (ex_tup (ax_cons (ex_op op_addW opk_add (EX.px ex_int) (EX.px (ex_fn (ok__law_draw T) (hr.mono (by decide)) gd T.d__law_draw.m T.d__law_draw.F.kp T.d__law_draw.b tk (al_cons (al_cons al_nil)) (ax_cons (ex_var 0) (ax_cons (ex_var 2) ax_nil))))) (ax_cons (FX.loc (fx_lst ax_nil)) ax_nil))) (gx_tup hc (gxs_cons (gx_name 3 sc__law_nodes.nd) (gxs_cons (gx_name 4 sc__law_nodes.nd) gxs_nil)) (hk := (bt_cons (bt_cons bt_nil)))))
  (sx_cons (sx_for hp hc (ix_range1 T.n_range (hx_cons (px_var 3) hx_nil)) (gx_name 5 sc__law_nodes.nd) (sx_cons (sx_set 6 sc__law_nodes.nd (ex_fn (ok__law_draw T) (hr.mono (by decide)) gd T.d__law_draw.m T.d__law_draw.F.kp T.d__law_draw.b tk (al_cons (al_cons al_nil)) (ax_cons (ex_var 0) (ax_cons ex_int ax_nil))))
  (sx_one (sx_if (tx_bool (wx_or (tx_cmp (op_eqW hr) opk_eq (px_var 6) (EX.px ex_int) (nomark _)) (wx_or1 (tx_bool (wx_and (tx_cmp op_gtO opk_gt (px_var 6) (EX.px ex_int) (nomark _)) (wx_and (tx_cmp op_ltO opk_lt (px_var 6) (EX.px ex_int) (nomark _)) (wx_and1 (tx_cmp op_gtO opk_gt (px_var 5) (EX.px ex_int) (nomark _))))))))) (sx_one (sx_app (px_var 4) (ex_ite (tx_cmp (op_eqW hr) opk_eq (px_var 6) (EX.px ex_int) (nomark _)) (ex_tup (ax_cons ex_str ax_nil)) (ex_tup (ax_cons ex_str (ax_cons (ex_fn (ok__law_word T) (hr.mono (by decide)) gd T.d__law_word.m T.d__law_word.F.kp T.d__law_word.b tk (al_cons (al_cons (al_cons al_nil))) (ax_cons (ex_var 0) (ax_cons (ex_var 1) (ax_cons ex_int ax_nil)))) ax_nil)))))) (sx_cons (sx_set 7 sc__law_nodes.nd (ex_fn (ok__law_pick T) (hr.mono (by decide)) gd T.d__law_pick.m T.d__law_pick.F.kp T.d__law_pick.b tk (al_cons (al_cons al_nil)) (ax_cons (ex_var 0) (ax_cons (FX.ex (fx_lst (ax_cons ex_non (ax_cons ex_str (ax_cons (ex_fn (ok__law_word T) (hr.mono (by decide)) gd T.d__law_word.m T.d__law_word.F.kp T.d__law_word.b tk (al_cons (al_cons (al_cons al_nil))) (ax_cons (ex_var 0) (ax_cons (ex_var 1) (ax_cons ex_int ax_nil)))) ax_nil))))) ax_nil))))
  (sx_one (sx_app (px_var 4) (ex_op op_addW opk_add (EX.px (ex_tup (ax_cons ex_str (ax_cons (ex_var 7) ax_nil)))) (EX.px (ex_callT call_tuple_of (callk1 ck_tuple) T.n_tuple (by kernel_rfl) (hx_cons (EX.px (FX.ex (fx_lc0 hc sc__law_nodes.nd (ix_of (ex_var 1)) (own := [("x", 8)]) (blkOk_by (N := ["deck", "signs", "top", "size", "found", "k", "way", "bare", "x"]) (sc := defScope s__law_nodes) (by decide +kernel)) (by decide) (fun s H C cl fp => (gx_name 8 sc__law_nodes.nd)) (fun s H C cl fp => (ex_fn (ok__law_draw T) (hr.mono (by decide)) gd T.d__law_draw.m T.d__law_draw.F.kp T.d__law_draw.b takes_none5 (al_cons (al_cons al_nil)) (ax_cons (ex_var 0) (ax_cons (ex_var 3) ax_nil))))))) hx_nil)))))))))))
  (sx_one (sx_ret (ex_callT call_tuple_of (callk1 ck_tuple) T.n_tuple (by kernel_rfl) (hx_cons (px_var 4) hx_nil))))))
theorem ok__law_deck {P : Program} {w : World} {K : PySem.W.Frag} {mg : Str → Option Value} {base : Heap} {a : Ad} (T : Top P K mg a) : FnG P w K mg base (L2.CX P w) 1 a.a__law_deck a.d__law_deck ["script"] (spF K a.kc 1 f__law_deck) :=
  fn_ok T.d__law_deck.F sc__law_deck rfl fun X Wx e1 e2 e3 e4 e5 e6 e7 e8 hr gd hc tk hp hst hfr => by
  obtain ⟨_, _, _, _, _, Ar, _, _, _, ⟨_, _, _, _, _, _, _, _, _⟩, _, _, _, _, _, _, _⟩ := X
  cases e1; cases e2; cases e3; cases e4; cases e5; cases e6; cases e7; cases e8
  have hr : Room 0 Ar := hr
  exact (sx_cons (sx_par 1 2 hc sc__law_deck.nd (FX.ex (fx_callT call_list_of (callk1 ck_list) T.n_list (by kernel_rfl) (hx_cons (EX.px (ex_slice (px_var 0) ox_no (ox_at ex_int))) hx_nil))) ex_int)
  (sx_cons (sx_for hp hc (ix_of (ex_var 1)) (gx_name 3 sc__law_deck.nd) (sx_one (sx_set 2 sc__law_deck.nd (ex_op op_mod opk_mod (EX.px (ex_callT call_int1 (callk1 ck_int1) T.n_int (by kernel_rfl) (hx_cons (EX.px (ex_op op_addW opk_add (EX.px (ex_op op_addW opk_add (EX.px (ex_op op_mulSS opk_mulS (px_var 2) (EX.px ex_int))) (EX.px (ex_op op_mod opk_mod (EX.px (ex_callT call_int1 (callk1 ck_int1) T.n_int (by kernel_rfl) (hx_cons (px_var 3) hx_nil))) (EX.px ex_int))))) (EX.px ex_int))) hx_nil))) (EX.px ex_int)))))
  (sx_one (sx_ret (FX.loc (fx_dict (qx_cons ex_str (FX.loc (fx_revL (px_var 1))) (qx_cons ex_str (ex_var 2) (qx_cons ex_str ex_int qx_nil)))))))))
theorem ok_law {P : Program} {w : World} {K : PySem.W.Frag} {mg : Str → Option Value} {base : Heap} {a : Ad} (T : Top P K mg a) : FnG P w K mg base (L2.CX P w) 6 a.a_law a.d_law ["script"] (spF K a.kc 1 f_law) :=
  fn_ok T.d_law.F sc_law rfl fun X Wx e1 e2 e3 e4 e5 e6 e7 e8 hr gd hc tk hp hst hfr => by
  obtain ⟨_, _, _, _, _, Ar, _, _, _, ⟨_, _, _, _, _, _, _, _, _⟩, _, _, _, _, _, _, _⟩ := X
  cases e1; cases e2; cases e3; cases e4; cases e5; cases e6; cases e7; cases e8
  have hr : Room 5 Ar := hr
  exact (sx_cons (sx_set 1 sc_law.nd (ex_fn (ok__law_deck T) (hr.mono (by decide)) gd T.d__law_deck.m T.d__law_deck.F.kp T.d__law_deck.b tk (al_cons al_nil) (ax_cons (ex_var 0) ax_nil)))
  (sx_cons (sx_for hp hc (ix_range1 T.n_range (hx_cons (EX.px ex_int) hx_nil)) (gx_name 2 sc_law.nd) (sx_cons (sx_set 3 sc_law.nd (ex_fn (ok__law_pick T) (hr.mono (by decide)) gd T.d__law_pick.m T.d__law_pick.F.kp T.d__law_pick.b tk (al_cons (al_cons al_nil)) (ax_cons (ex_var 1) (ax_cons (FX.ex (fx_lst (ax_cons ex_str (ax_cons ex_str (ax_cons ex_str (ax_cons ex_str ax_nil)))))) ax_nil))))
  (sx_cons (sx_set 4 sc_law.nd (ex_fn (ok__law_nodes T) (hr.mono (by decide)) gd T.d__law_nodes.m T.d__law_nodes.F.kp T.d__law_nodes.b tk (al_cons (al_cons (al_cons al_nil))) (ax_cons (ex_var 1) (ax_cons (ex_var 3) (ax_cons ex_int ax_nil)))))
  (sx_cons (sx_set 5 sc_law.nd (ex_make T.mk_Reader (ok_Reader_init T) (hr.mono (by decide)) gd T.g_Reader T.k_Reader T.d_Reader_init.b tk (al_mk (al_cons (al_cons al_nil))) (ax_cons (ex_var 3) (ax_cons (ex_var 4) ax_nil))))
  (sx_cons (sx_for hp hc (ix_range1 T.n_range (hx_cons (EX.px ex_int) hx_nil)) (gx_name 6 sc_law.nd) (sx_one (sx_if (tx_not (tx_val (ex_fn (ok__law_web_right T) (hr.mono (by decide)) gd T.d__law_web_right.m T.d__law_web_right.F.kp T.d__law_web_right.b tk (al_cons (al_cons (al_cons (al_cons (al_cons al_nil))))) (ax_cons (ex_var 1) (ax_cons (ex_var 3) (ax_cons (ex_var 4) (ax_cons (ex_var 5) (ax_cons (ex_fn (ok__law_word T) (hr.mono (by decide)) gd T.d__law_word.m T.d__law_word.F.kp T.d__law_word.b tk (al_cons (al_cons (al_cons al_nil))) (ax_cons (ex_var 1) (ax_cons (ex_var 3) (ax_cons ex_int ax_nil)))) ax_nil)))))))) (sx_one (sx_ret ex_bl)) sx_nil)))
  (sx_cons (sx_set 7 sc_law.nd (ex_fn (ok__law_pick T) (hr.mono (by decide)) gd T.d__law_pick.m T.d__law_pick.F.kp T.d__law_pick.b tk (al_cons (al_cons al_nil)) (ax_cons (ex_var 1) (ax_cons (FX.ex (fx_lst (ax_cons ex_non (ax_cons ex_int (ax_cons ex_bl (ax_cons ex_str (ax_cons ex_str (ax_cons (ex_tup (ax_cons ex_str ax_nil)) (ax_cons (FX.ex (fx_lst (ax_cons ex_str ax_nil))) (ax_cons (FX.ex fx_dnewK) (ax_cons ex_str (ax_cons ex_str (ax_cons (ex_op op_pow opk_pow (EX.px ex_int) (EX.px ex_int)) (ax_cons ex_str ax_nil)))))))))))))) ax_nil))))
  (sx_cons (sx_set 8 sc_law.nd (ex_repr gd (hu80 hr) T.n_repr (hx_cons (EX.px (FX.ex (fx_lst (ax_cons ex_str (ax_cons (ex_var 7) (ax_cons ex_bl ax_nil)))))) hx_nil)))
  (sx_one (sx_if (tx_bool (wx_or (tx_cmp (op_neW hr) opk_ne (EX.px (FX.ex (fx_lc0 hc sc_law.nd (ix_range1 T.n_range (hx_cons (EX.px ex_int) hx_nil)) (own := [("way", 9)]) (blkOk_by (N := ["script", "deck", "go", "signs", "nodes", "code", "turn", "odd", "due", "way", "far"]) (sc := defScope s_law) (by decide +kernel)) (by decide) (fun s H C cl fp => (gx_name 9 sc_law.nd)) (fun s H C cl fp => (ex_fn (ok__law_heard T) (hr.mono (by decide)) gd T.d__law_heard.m T.d__law_heard.F.kp T.d__law_heard.b takes_none5 (al_cons (al_cons (al_cons al_nil))) (ax_cons (ex_var 9) (ax_cons (ex_var 5) (ax_cons (ex_var 7) ax_nil)))))))) (EX.px (ex_op op_mulSS opk_mulS (EX.px (FX.ex (fx_lst (ax_cons (ex_var 8) ax_nil)))) (EX.px ex_int))) (nomark _)) (wx_or1 (tx_cmp (op_neW hr) opk_ne (EX.px (ex_repr gd (hu80 hr) T.n_repr (hx_cons (EX.px (ex_attr (px_var 5) (pl_one T.cl_Reader T.na_Reader_nodes T.u_Reader))) hx_nil))) (EX.px (ex_repr gd (hu80 hr) T.n_repr (hx_cons (px_var 4) hx_nil))) (nomark _))))) (sx_one (sx_ret ex_bl)) sx_nil)))))))))
  (sx_cons (sx_set 10 sc_law.nd (ex_make T.mk_Reader (ok_Reader_init T) (hr.mono (by decide)) gd T.g_Reader T.k_Reader T.d_Reader_init.b tk (al_mk (al_cons (al_cons al_nil))) (ax_cons ex_str (ax_cons (ex_tup (ax_cons (ex_tup (ax_cons ex_str (ax_cons ex_str (ax_cons ex_int (ax_cons ex_int ax_nil))))) (ax_cons (ex_tup (ax_cons ex_str (ax_cons ex_str (ax_cons ex_int (ax_cons ex_int ax_nil))))) ax_nil))) ax_nil))))
  (sx_one (sx_ret (ex_cmp (op_eqW hr) opk_eq (EX.px (FX.ex (fx_lst (ax_cons (ex_meth T.u_Reader T.cl_Reader T.m_Reader_made (ok_Reader_made T) (hr.mono (by decide)) gd T.d_Reader_made.b tk (px_var 10) (ax_cons (ex_op op_mulSS opk_mulS (EX.px ex_str) (EX.px ex_int)) ax_nil)) (ax_cons (ex_meth T.u_Reader T.cl_Reader T.m_Reader_read_of (ok_Reader_read_of T) (hr.mono (by decide)) gd T.d_Reader_read_of.b tk (px_var 10) (ax_cons (ex_op op_mulSS opk_mulS (EX.px ex_str) (EX.px ex_int)) ax_nil)) (ax_cons (ex_meth T.u_Reader T.cl_Reader T.m_Reader_made (ok_Reader_made T) (hr.mono (by decide)) gd T.d_Reader_made.b tk (px_var 10) (ax_cons (ex_op op_mulSS opk_mulS (EX.px ex_str) (EX.px ex_int)) ax_nil)) ax_nil)))))) (EX.px (FX.ex (fx_lst (ax_cons ex_str (ax_cons ex_int (ax_cons ex_str ax_nil)))))) (nomark _)))))))
abbrev s_BadReader : Stmt := inClass (top 5) 0
abbrev s_BadWeb : Stmt := inClass (top 4) 0
theorem isi_mk {K : PySem.W.Frag} {C_Reader C_BadReader C_BadText C_BadWeb C_MillError : Addr}
    (ic_Reader : PySem.W.isClsIn K C_Reader = true)
    (tc_Reader : PySem.W.typeIn K (.ref C_Reader) = some (.type "type"))
    (ss_Reader : PySem.W.subIn K (.ref C_Reader) (.ref C_Reader) = some true)
    (pg_Reader : PySem.W.plainGet K C_Reader Str.empty = true)
    (hd_Reader : PySem.W.hasDictIn K C_Reader = true)
    (po_Reader : PySem.W.plainOver K C_Reader = true)
    (sa_Reader : PySem.W.findIn K (.ref C_Reader) "__setattr__" = some (some (.builtin "object.__setattr__")))
    (ha_Reader : PySem.W.findIn K (.ref C_Reader) "__class__" = some (some (.builtin "object.__class__")))
    (hm_Reader : PySem.W.mroIn K C_Reader (.type "object") = some true)
    (it_Reader_int : PySem.W.subIn K (.ref C_Reader) (.type "int") = some false)
    (ti_Reader_int : PySem.W.subIn K (.type "int") (.ref C_Reader) = some false)
    (it_Reader_str : PySem.W.subIn K (.ref C_Reader) (.type "str") = some false)
    (ti_Reader_str : PySem.W.subIn K (.type "str") (.ref C_Reader) = some false)
    (it_Reader_bool : PySem.W.subIn K (.ref C_Reader) (.type "bool") = some false)
    (ti_Reader_bool : PySem.W.subIn K (.type "bool") (.ref C_Reader) = some false)
    (it_Reader_tuple : PySem.W.subIn K (.ref C_Reader) (.type "tuple") = some false)
    (ti_Reader_tuple : PySem.W.subIn K (.type "tuple") (.ref C_Reader) = some false)
    (it_Reader_list : PySem.W.subIn K (.ref C_Reader) (.type "list") = some false)
    (ti_Reader_list : PySem.W.subIn K (.type "list") (.ref C_Reader) = some false)
    (it_Reader_dict : PySem.W.subIn K (.ref C_Reader) (.type "dict") = some false)
    (ti_Reader_dict : PySem.W.subIn K (.type "dict") (.ref C_Reader) = some false)
    (it_Reader_NoneType : PySem.W.subIn K (.ref C_Reader) (.type "NoneType") = some false)
    (ti_Reader_NoneType : PySem.W.subIn K (.type "NoneType") (.ref C_Reader) = some false)
    (o_hn : PySem.W.specialIn K (.builtin "object.__class__") "__get__" = some (some (.builtin "getset_descriptor.__get__")))
    (o_ht : PySem.W.takesIn K (.builtin "object.__class__") = some true) : IsiK K (kcT [("Reader", C_Reader), ("BadReader", C_BadReader), ("BadText", C_BadText), ("BadWeb", C_BadWeb), ("MillError", C_MillError)]) IL := by
    refine ⟨?_, ?_, ?_, ?_⟩
    · intro c C hc hk
      simp only [IL, List.mem_cons, List.not_mem_nil, or_false] at hc
      rcases hc with rfl
      · cases (Option.some.inj (show some C_Reader = some C from hk))
        exact ⟨⟨pg_Reader, hd_Reader, po_Reader, sa_Reader⟩, ha_Reader, o_hn, o_ht, hm_Reader⟩
    · intro c C n hc hk hn
      simp only [IL, List.mem_cons, List.not_mem_nil, or_false] at hc
      simp only [tyNs, List.mem_cons, List.not_mem_nil, or_false] at hn
      rcases hc with rfl
      · cases (Option.some.inj (show some C_Reader = some C from hk))
        rcases hn with rfl | rfl | rfl | rfl | rfl | rfl | rfl
        · exact kit_ty rfl it_Reader_int
        · exact kit_ty rfl it_Reader_str
        · exact kit_ty rfl it_Reader_bool
        · exact kit_ty rfl it_Reader_tuple
        · exact kit_ty rfl it_Reader_list
        · exact kit_ty rfl it_Reader_dict
        · exact kit_ty rfl it_Reader_NoneType
    · intro n c C hn hc hk
      simp only [IL, List.mem_cons, List.not_mem_nil, or_false] at hc
      simp only [tyNs, List.mem_cons, List.not_mem_nil, or_false] at hn
      rcases hc with rfl
      · cases (Option.some.inj (show some C_Reader = some C from hk))
        rcases hn with rfl | rfl | rfl | rfl | rfl | rfl | rfl
        · exact kit_cls ic_Reader tc_Reader ti_Reader_int (.inr ty_ne)
        · exact kit_cls ic_Reader tc_Reader ti_Reader_str (.inr ty_ne)
        · exact kit_cls ic_Reader tc_Reader ti_Reader_bool (.inr ty_ne)
        · exact kit_cls ic_Reader tc_Reader ti_Reader_tuple (.inr ty_ne)
        · exact kit_cls ic_Reader tc_Reader ti_Reader_list (.inr ty_ne)
        · exact kit_cls ic_Reader tc_Reader ti_Reader_dict (.inr ty_ne)
        · exact kit_cls ic_Reader tc_Reader ti_Reader_NoneType (.inr ty_ne)
    · intro c C c' C' hc hc' hk hk'
      simp only [IL, List.mem_cons, List.not_mem_nil, or_false] at hc hc'
      rcases hc with rfl <;> rcases hc' with rfl
      · cases (Option.some.inj (show some C_Reader = some C from hk))
        cases (Option.some.inj (show some C_Reader = some C' from hk'))
        rw [show (("Reader" : String) == "Reader") = true from by decide]
        exact kit_cls ic_Reader tc_Reader ss_Reader (.inl rfl)
theorem er_BadReader {K : PySem.W.Frag} {mg : Str → Option Value} {C_BadReader : Addr}
    {nm_BadReader q_BadReader : Str} {N_BadReader : Addr} {bs_BadReader bm_BadReader sub_BadReader : List Value} {sn_BadReader : List Str} {ab_BadReader : Bool} {col_BadReader : Option Bool} {dd_BadReader : Option Addr} {x0_BadReader x1_BadReader x2_BadReader x3_BadReader x5_BadReader : Option Value} {f_BadReader cda_BadReader cc_BadReader : Addr} {oc_BadReader dc_BadReader pm_BadReader ct_BadReader ccl_BadReader cl_BadReader : Value} {od_BadReader an_BadReader cdd_BadReader cld_BadReader : Option Addr} {sl_BadReader ccs_BadReader csl_BadReader : Array (Option Value)} {vs_BadReader : Array Value} {tf_BadReader : Tok}
    (xL_BadReader : K.lookup C_BadReader = some (excClassObj nm_BadReader q_BadReader C_BadReader N_BadReader bs_BadReader bm_BadReader true sn_BadReader sub_BadReader ab_BadReader col_BadReader dd_BadReader x0_BadReader x1_BadReader x2_BadReader x3_BadReader x5_BadReader "Exception.__new__"))
    (xt_BadReader : PySem.W.excTail PySem.ESX.exTail bm_BadReader = true)
    (xa_BadReader : PySem.W.alongIn K "__init__" bm_BadReader = some (some (.builtin "Exception.__init__")))
    (sa_BadReader : PySem.W.findIn K (.ref C_BadReader) "__setattr__" = some (some (.builtin "object.__setattr__")))
    (iC_BadReader : PySem.W.findIn K (.ref C_BadReader) "__init__" = some (some (.ref f_BadReader)))
    (tI_BadReader : PySem.W.typeIn K (.ref f_BadReader) = some (.type "function"))
    (kC_BadReader : PySem.W.keepIn K (.ref C_BadReader) = true)
    (ex_BadReader : PySem.W.subIn K (.ref C_BadReader) (.type "BaseException") = some true)
    (ty_BadReader : PySem.W.typeIn K (.ref C_BadReader) = some (.type "type"))
    (nf_BadReader_part : PySem.W.takerIn K C_BadReader "part" = some none)
    (l_BadReader : K.lookup f_BadReader = some ⟨oc_BadReader, od_BadReader, .func (PySem.W.ksFn "__init__" "BadReader.__init__" (defArgs s_BadReader) (defBody s_BadReader) (defScope s_BadReader) .none .none dc_BadReader pm_BadReader an_BadReader (.ref cda_BadReader) ct_BadReader cc_BadReader), sl_BadReader⟩)
    (c_BadReader : PySem.W.codeIn K (.ref cda_BadReader) "BadReader.__init__" = true)
    (cc_BadReader_ : K.lookup cc_BadReader = some ⟨cl_BadReader, cld_BadReader, .cell (some (.ref C_BadReader)), csl_BadReader⟩)
    (cd_BadReader_ : K.lookup cda_BadReader = some ⟨ccl_BadReader, cdd_BadReader, .fields vs_BadReader, ccs_BadReader⟩)
    (vf_BadReader : vs_BadReader[2]? = some (.str "/claim/cut.py" tf_BadReader))
    (o_opq : PySem.W.nsIn K cStatics "thirdparty.any" = some none) (n_super : mg "super" = none) : ErC PySem.Challenge.pw_millhands_k08_what_readers_make K mg C_BadReader ["part"] := by
  have k_e_BadReader : ErK PySem.Challenge.pw_millhands_k08_what_readers_make K mg C_BadReader f_BadReader "BadReader.__init__" (defArgs s_BadReader) (defBody s_BadReader) (defScope s_BadReader) ["part"] :=
    { cls := ⟨nm_BadReader, q_BadReader, N_BadReader, bs_BadReader, bm_BadReader, sn_BadReader, sub_BadReader, ab_BadReader, col_BadReader, dd_BadReader, x0_BadReader, x1_BadReader, x2_BadReader, x3_BadReader, x5_BadReader, xL_BadReader, xt_BadReader, xa_BadReader⟩, sa := sa_BadReader, iC := iC_BadReader, tI := tI_BadReader, kC := kC_BadReader, exC := ex_BadReader, tyC := ty_BadReader,
      noF := fun f hf => (by simp only [List.mem_cons, List.not_mem_nil, or_false] at hf; rcases hf with rfl <;> assumption), opq := o_opq, sup := n_super,
      fn := ⟨oc_BadReader, od_BadReader, dc_BadReader, pm_BadReader, an_BadReader, cda_BadReader, cc_BadReader, ct_BadReader, sl_BadReader, ccl_BadReader, cl_BadReader, cdd_BadReader, cld_BadReader, ccs_BadReader, csl_BadReader, vs_BadReader, "/claim/cut.py", tf_BadReader, l_BadReader, c_BadReader, cc_BadReader_, cd_BadReader_, vf_BadReader, by decide +kernel⟩,
      top := by decide +kernel, kS := by decide +kernel, kL := by decide +kernel, kO := by decide +kernel, kF := by decide +kernel, kN := by decide +kernel, kd := rfl, kg := ⟨rfl, rfl⟩, hp := ⟨_, rfl, rfl⟩,
      hb := fun s doc pm an cda cc x ct vs hl => match vs, hl with | [_], _ => .of_eq rfl }
  exact ⟨f_BadReader, "BadReader.__init__", _, _, [("part", _)], [("part", _, _, _, _)], _, _, _, _, _, k_e_BadReader, rfl, rfl, by decide +kernel, by decide, fun env => ⟨_, rfl⟩⟩
theorem er_BadWeb {K : PySem.W.Frag} {mg : Str → Option Value} {C_BadWeb : Addr}
    {nm_BadWeb q_BadWeb : Str} {N_BadWeb : Addr} {bs_BadWeb bm_BadWeb sub_BadWeb : List Value} {sn_BadWeb : List Str} {ab_BadWeb : Bool} {col_BadWeb : Option Bool} {dd_BadWeb : Option Addr} {x0_BadWeb x1_BadWeb x2_BadWeb x3_BadWeb x5_BadWeb : Option Value} {f_BadWeb cda_BadWeb cc_BadWeb : Addr} {oc_BadWeb dc_BadWeb pm_BadWeb ct_BadWeb ccl_BadWeb cl_BadWeb : Value} {od_BadWeb an_BadWeb cdd_BadWeb cld_BadWeb : Option Addr} {sl_BadWeb ccs_BadWeb csl_BadWeb : Array (Option Value)} {vs_BadWeb : Array Value} {tf_BadWeb : Tok}
    (xL_BadWeb : K.lookup C_BadWeb = some (excClassObj nm_BadWeb q_BadWeb C_BadWeb N_BadWeb bs_BadWeb bm_BadWeb true sn_BadWeb sub_BadWeb ab_BadWeb col_BadWeb dd_BadWeb x0_BadWeb x1_BadWeb x2_BadWeb x3_BadWeb x5_BadWeb "Exception.__new__"))
    (xt_BadWeb : PySem.W.excTail PySem.ESX.exTail bm_BadWeb = true)
    (xa_BadWeb : PySem.W.alongIn K "__init__" bm_BadWeb = some (some (.builtin "Exception.__init__")))
    (sa_BadWeb : PySem.W.findIn K (.ref C_BadWeb) "__setattr__" = some (some (.builtin "object.__setattr__")))
    (iC_BadWeb : PySem.W.findIn K (.ref C_BadWeb) "__init__" = some (some (.ref f_BadWeb)))
    (tI_BadWeb : PySem.W.typeIn K (.ref f_BadWeb) = some (.type "function"))
    (kC_BadWeb : PySem.W.keepIn K (.ref C_BadWeb) = true)
    (ex_BadWeb : PySem.W.subIn K (.ref C_BadWeb) (.type "BaseException") = some true)
    (ty_BadWeb : PySem.W.typeIn K (.ref C_BadWeb) = some (.type "type"))
    (nf_BadWeb_thing : PySem.W.takerIn K C_BadWeb "thing" = some none)
    (l_BadWeb : K.lookup f_BadWeb = some ⟨oc_BadWeb, od_BadWeb, .func (PySem.W.ksFn "__init__" "BadWeb.__init__" (defArgs s_BadWeb) (defBody s_BadWeb) (defScope s_BadWeb) .none .none dc_BadWeb pm_BadWeb an_BadWeb (.ref cda_BadWeb) ct_BadWeb cc_BadWeb), sl_BadWeb⟩)
    (c_BadWeb : PySem.W.codeIn K (.ref cda_BadWeb) "BadWeb.__init__" = true)
    (cc_BadWeb_ : K.lookup cc_BadWeb = some ⟨cl_BadWeb, cld_BadWeb, .cell (some (.ref C_BadWeb)), csl_BadWeb⟩)
    (cd_BadWeb_ : K.lookup cda_BadWeb = some ⟨ccl_BadWeb, cdd_BadWeb, .fields vs_BadWeb, ccs_BadWeb⟩)
    (vf_BadWeb : vs_BadWeb[2]? = some (.str "/claim/cut.py" tf_BadWeb))
    (o_opq : PySem.W.nsIn K cStatics "thirdparty.any" = some none) (n_super : mg "super" = none) : ErC PySem.Challenge.pw_millhands_k08_what_readers_make K mg C_BadWeb ["thing"] := by
  have k_e_BadWeb : ErK PySem.Challenge.pw_millhands_k08_what_readers_make K mg C_BadWeb f_BadWeb "BadWeb.__init__" (defArgs s_BadWeb) (defBody s_BadWeb) (defScope s_BadWeb) ["thing"] :=
    { cls := ⟨nm_BadWeb, q_BadWeb, N_BadWeb, bs_BadWeb, bm_BadWeb, sn_BadWeb, sub_BadWeb, ab_BadWeb, col_BadWeb, dd_BadWeb, x0_BadWeb, x1_BadWeb, x2_BadWeb, x3_BadWeb, x5_BadWeb, xL_BadWeb, xt_BadWeb, xa_BadWeb⟩, sa := sa_BadWeb, iC := iC_BadWeb, tI := tI_BadWeb, kC := kC_BadWeb, exC := ex_BadWeb, tyC := ty_BadWeb,
      noF := fun f hf => (by simp only [List.mem_cons, List.not_mem_nil, or_false] at hf; rcases hf with rfl <;> assumption), opq := o_opq, sup := n_super,
      fn := ⟨oc_BadWeb, od_BadWeb, dc_BadWeb, pm_BadWeb, an_BadWeb, cda_BadWeb, cc_BadWeb, ct_BadWeb, sl_BadWeb, ccl_BadWeb, cl_BadWeb, cdd_BadWeb, cld_BadWeb, ccs_BadWeb, csl_BadWeb, vs_BadWeb, "/claim/cut.py", tf_BadWeb, l_BadWeb, c_BadWeb, cc_BadWeb_, cd_BadWeb_, vf_BadWeb, by decide +kernel⟩,
      top := by decide +kernel, kS := by decide +kernel, kL := by decide +kernel, kO := by decide +kernel, kF := by decide +kernel, kN := by decide +kernel, kd := rfl, kg := ⟨rfl, rfl⟩, hp := ⟨_, rfl, rfl⟩,
      hb := fun s doc pm an cda cc x ct vs hl => match vs, hl with | [_], _ => .of_eq rfl }
  exact ⟨f_BadWeb, "BadWeb.__init__", _, _, [("thing", _)], [("thing", _, _, _, _)], _, _, _, _, _, k_e_BadWeb, rfl, rfl, by decide +kernel, by decide, fun env => ⟨_, rfl⟩⟩
theorem all_mk {w : World} {K : PySem.W.Frag} {h : Heap} {mg : Str → Option Value} {fa : Addr} (X : K.In h) (G : h.Ns mainGlobals mg) (hfa : mg "law" = some (.ref fa))
    {a_is_web : Addr}
    {oc_is_web kV_is_web dc_is_web pm_is_web cd_is_web ct_is_web : Value}
    {od_is_web an_is_web : Option Addr}
    {sl_is_web : Array (Option Value)}
    {a_Reader_way_of : Addr}
    {oc_Reader_way_of kV_Reader_way_of dc_Reader_way_of pm_Reader_way_of cd_Reader_way_of ct_Reader_way_of : Value}
    {od_Reader_way_of an_Reader_way_of : Option Addr}
    {sl_Reader_way_of : Array (Option Value)}
    {a_Reader_made : Addr}
    {oc_Reader_made kV_Reader_made dc_Reader_made pm_Reader_made cd_Reader_made ct_Reader_made : Value}
    {od_Reader_made an_Reader_made : Option Addr}
    {sl_Reader_made : Array (Option Value)}
    {a_Reader_read_of : Addr}
    {oc_Reader_read_of kV_Reader_read_of dc_Reader_read_of pm_Reader_read_of cd_Reader_read_of ct_Reader_read_of : Value}
    {od_Reader_read_of an_Reader_read_of : Option Addr}
    {sl_Reader_read_of : Array (Option Value)}
    {a_is_integer : Addr}
    {oc_is_integer kV_is_integer dc_is_integer pm_is_integer cd_is_integer ct_is_integer : Value}
    {od_is_integer an_is_integer : Option Addr}
    {sl_is_integer : Array (Option Value)}
    {a_are_numbers : Addr}
    {oc_are_numbers kV_are_numbers dc_are_numbers pm_are_numbers cd_are_numbers ct_are_numbers : Value}
    {od_are_numbers an_are_numbers : Option Addr}
    {sl_are_numbers : Array (Option Value)}
    {a_is_reader_node : Addr}
    {oc_is_reader_node kV_is_reader_node dc_is_reader_node pm_is_reader_node cd_is_reader_node ct_is_reader_node : Value}
    {od_is_reader_node an_is_reader_node : Option Addr}
    {sl_is_reader_node : Array (Option Value)}
    {a_is_letters : Addr}
    {oc_is_letters kV_is_letters dc_is_letters pm_is_letters cd_is_letters ct_is_letters : Value}
    {od_is_letters an_is_letters : Option Addr}
    {sl_is_letters : Array (Option Value)}
    {a_Reader_init : Addr}
    {oc_Reader_init kV_Reader_init dc_Reader_init pm_Reader_init cd_Reader_init ct_Reader_init : Value}
    {od_Reader_init an_Reader_init : Option Addr}
    {sl_Reader_init : Array (Option Value)}
    {a__law_heard : Addr}
    {oc__law_heard kV__law_heard dc__law_heard pm__law_heard cd__law_heard ct__law_heard : Value}
    {od__law_heard an__law_heard : Option Addr}
    {sl__law_heard : Array (Option Value)}
    {a__law_draw : Addr}
    {oc__law_draw kV__law_draw dc__law_draw pm__law_draw cd__law_draw ct__law_draw : Value}
    {od__law_draw an__law_draw : Option Addr}
    {sl__law_draw : Array (Option Value)}
    {a__law_pick : Addr}
    {oc__law_pick kV__law_pick dc__law_pick pm__law_pick cd__law_pick ct__law_pick : Value}
    {od__law_pick an__law_pick : Option Addr}
    {sl__law_pick : Array (Option Value)}
    {a__law_made : Addr}
    {oc__law_made kV__law_made dc__law_made pm__law_made cd__law_made ct__law_made : Value}
    {od__law_made an__law_made : Option Addr}
    {sl__law_made : Array (Option Value)}
    {a__law_word : Addr}
    {oc__law_word kV__law_word dc__law_word pm__law_word cd__law_word ct__law_word : Value}
    {od__law_word an__law_word : Option Addr}
    {sl__law_word : Array (Option Value)}
    {a__law_web_right : Addr}
    {oc__law_web_right kV__law_web_right dc__law_web_right pm__law_web_right cd__law_web_right ct__law_web_right : Value}
    {od__law_web_right an__law_web_right : Option Addr}
    {sl__law_web_right : Array (Option Value)}
    {a__law_nodes : Addr}
    {oc__law_nodes kV__law_nodes dc__law_nodes pm__law_nodes cd__law_nodes ct__law_nodes : Value}
    {od__law_nodes an__law_nodes : Option Addr}
    {sl__law_nodes : Array (Option Value)}
    {a__law_deck : Addr}
    {oc__law_deck kV__law_deck dc__law_deck pm__law_deck cd__law_deck ct__law_deck : Value}
    {od__law_deck an__law_deck : Option Addr}
    {sl__law_deck : Array (Option Value)}
    {a_law : Addr}
    {oc_law kV_law dc_law pm_law cd_law ct_law : Value}
    {od_law an_law : Option Addr}
    {sl_law : Array (Option Value)}
    {t_ALPHABET : Tok}
    {t_NONE : Tok}
    {t_PAIR : Tok}
    {t_READS : Tok}
    {t_STOPS : Tok}
    {C_Reader : Addr}
    {C_BadReader : Addr}
    {C_BadText : Addr}
    {C_BadWeb : Addr}
    {C_MillError : Addr}
    {nm_BadReader q_BadReader : Str}
    {N_BadReader : Addr}
    {bs_BadReader bm_BadReader sub_BadReader : List Value}
    {sn_BadReader : List Str}
    {ab_BadReader : Bool}
    {col_BadReader : Option Bool}
    {dd_BadReader : Option Addr}
    {x0_BadReader x1_BadReader x2_BadReader x3_BadReader x5_BadReader : Option Value}
    {f_BadReader cda_BadReader cc_BadReader : Addr}
    {oc_BadReader dc_BadReader pm_BadReader ct_BadReader ccl_BadReader cl_BadReader : Value}
    {od_BadReader an_BadReader cdd_BadReader cld_BadReader : Option Addr}
    {sl_BadReader ccs_BadReader csl_BadReader : Array (Option Value)}
    {vs_BadReader : Array Value}
    {tf_BadReader : Tok}
    {nm_BadWeb q_BadWeb : Str}
    {N_BadWeb : Addr}
    {bs_BadWeb bm_BadWeb sub_BadWeb : List Value}
    {sn_BadWeb : List Str}
    {ab_BadWeb : Bool}
    {col_BadWeb : Option Bool}
    {dd_BadWeb : Option Addr}
    {x0_BadWeb x1_BadWeb x2_BadWeb x3_BadWeb x5_BadWeb : Option Value}
    {f_BadWeb cda_BadWeb cc_BadWeb : Addr}
    {oc_BadWeb dc_BadWeb pm_BadWeb ct_BadWeb ccl_BadWeb cl_BadWeb : Value}
    {od_BadWeb an_BadWeb cdd_BadWeb cld_BadWeb : Option Addr}
    {sl_BadWeb ccs_BadWeb csl_BadWeb : Array (Option Value)}
    {vs_BadWeb : Array Value}
    {tf_BadWeb : Tok}
    (g_Reader : PySem.W.nsIn K mainGlobals "Reader" = some (some (.ref C_Reader)))
    (g_BadReader : PySem.W.nsIn K mainGlobals "BadReader" = some (some (.ref C_BadReader)))
    (g_BadText : PySem.W.nsIn K mainGlobals "BadText" = some (some (.ref C_BadText)))
    (g_BadWeb : PySem.W.nsIn K mainGlobals "BadWeb" = some (some (.ref C_BadWeb)))
    (g_MillError : PySem.W.nsIn K mainGlobals "MillError" = some (some (.ref C_MillError)))
    (ic_Reader : PySem.W.isClsIn K C_Reader = true)
    (tc_Reader : PySem.W.typeIn K (.ref C_Reader) = some (.type "type"))
    (ic_BadReader : PySem.W.isClsIn K C_BadReader = true)
    (tc_BadReader : PySem.W.typeIn K (.ref C_BadReader) = some (.type "type"))
    (ic_BadText : PySem.W.isClsIn K C_BadText = true)
    (tc_BadText : PySem.W.typeIn K (.ref C_BadText) = some (.type "type"))
    (ic_BadWeb : PySem.W.isClsIn K C_BadWeb = true)
    (tc_BadWeb : PySem.W.typeIn K (.ref C_BadWeb) = some (.type "type"))
    (ic_MillError : PySem.W.isClsIn K C_MillError = true)
    (tc_MillError : PySem.W.typeIn K (.ref C_MillError) = some (.type "type"))
    (ss_Reader : PySem.W.subIn K (.ref C_Reader) (.ref C_Reader) = some true)
    (m_is_web : PySem.W.nsIn K mainGlobals "is_web" = some (some (.ref a_is_web)))
    (l_is_web : K.lookup a_is_web = some ⟨oc_is_web, od_is_web, .func (PySem.W.fnOf "is_web" "is_web" (defArgs s_is_web) (defBody s_is_web) (defScope s_is_web) .none kV_is_web dc_is_web pm_is_web an_is_web cd_is_web ct_is_web), sl_is_web⟩)
    (c_is_web : PySem.W.codeIn K cd_is_web "is_web" = true)
    (k_is_web : PySem.W.keepIn K (.ref a_is_web) = true)
    (m_Reader_way_of : PySem.W.findIn K (.ref C_Reader) "way_of" = some (some (.ref a_Reader_way_of)))
    (i_Reader_way_of : PySem.W.isFn K (.ref a_Reader_way_of) = true)
    (l_Reader_way_of : K.lookup a_Reader_way_of = some ⟨oc_Reader_way_of, od_Reader_way_of, .func (PySem.W.fnOf "way_of" "Reader.way_of" (defArgs s_Reader_way_of) (defBody s_Reader_way_of) (defScope s_Reader_way_of) .none kV_Reader_way_of dc_Reader_way_of pm_Reader_way_of an_Reader_way_of cd_Reader_way_of ct_Reader_way_of), sl_Reader_way_of⟩)
    (c_Reader_way_of : PySem.W.codeIn K cd_Reader_way_of "Reader.way_of" = true)
    (k_Reader_way_of : PySem.W.keepIn K (.ref a_Reader_way_of) = true)
    (m_Reader_made : PySem.W.findIn K (.ref C_Reader) "made" = some (some (.ref a_Reader_made)))
    (i_Reader_made : PySem.W.isFn K (.ref a_Reader_made) = true)
    (l_Reader_made : K.lookup a_Reader_made = some ⟨oc_Reader_made, od_Reader_made, .func (PySem.W.fnOf "made" "Reader.made" (defArgs s_Reader_made) (defBody s_Reader_made) (defScope s_Reader_made) .none kV_Reader_made dc_Reader_made pm_Reader_made an_Reader_made cd_Reader_made ct_Reader_made), sl_Reader_made⟩)
    (c_Reader_made : PySem.W.codeIn K cd_Reader_made "Reader.made" = true)
    (k_Reader_made : PySem.W.keepIn K (.ref a_Reader_made) = true)
    (m_Reader_read_of : PySem.W.findIn K (.ref C_Reader) "read_of" = some (some (.ref a_Reader_read_of)))
    (i_Reader_read_of : PySem.W.isFn K (.ref a_Reader_read_of) = true)
    (l_Reader_read_of : K.lookup a_Reader_read_of = some ⟨oc_Reader_read_of, od_Reader_read_of, .func (PySem.W.fnOf "read_of" "Reader.read_of" (defArgs s_Reader_read_of) (defBody s_Reader_read_of) (defScope s_Reader_read_of) .none kV_Reader_read_of dc_Reader_read_of pm_Reader_read_of an_Reader_read_of cd_Reader_read_of ct_Reader_read_of), sl_Reader_read_of⟩)
    (c_Reader_read_of : PySem.W.codeIn K cd_Reader_read_of "Reader.read_of" = true)
    (k_Reader_read_of : PySem.W.keepIn K (.ref a_Reader_read_of) = true)
    (m_is_integer : PySem.W.nsIn K mainGlobals "is_integer" = some (some (.ref a_is_integer)))
    (l_is_integer : K.lookup a_is_integer = some ⟨oc_is_integer, od_is_integer, .func (PySem.W.fnOf "is_integer" "is_integer" (defArgs s_is_integer) (defBody s_is_integer) (defScope s_is_integer) .none kV_is_integer dc_is_integer pm_is_integer an_is_integer cd_is_integer ct_is_integer), sl_is_integer⟩)
    (c_is_integer : PySem.W.codeIn K cd_is_integer "is_integer" = true)
    (k_is_integer : PySem.W.keepIn K (.ref a_is_integer) = true)
    (m_are_numbers : PySem.W.nsIn K mainGlobals "are_numbers" = some (some (.ref a_are_numbers)))
    (l_are_numbers : K.lookup a_are_numbers = some ⟨oc_are_numbers, od_are_numbers, .func (PySem.W.fnOf "are_numbers" "are_numbers" (defArgs s_are_numbers) (defBody s_are_numbers) (defScope s_are_numbers) .none kV_are_numbers dc_are_numbers pm_are_numbers an_are_numbers cd_are_numbers ct_are_numbers), sl_are_numbers⟩)
    (c_are_numbers : PySem.W.codeIn K cd_are_numbers "are_numbers" = true)
    (k_are_numbers : PySem.W.keepIn K (.ref a_are_numbers) = true)
    (m_is_reader_node : PySem.W.nsIn K mainGlobals "is_reader_node" = some (some (.ref a_is_reader_node)))
    (l_is_reader_node : K.lookup a_is_reader_node = some ⟨oc_is_reader_node, od_is_reader_node, .func (PySem.W.fnOf "is_reader_node" "is_reader_node" (defArgs s_is_reader_node) (defBody s_is_reader_node) (defScope s_is_reader_node) .none kV_is_reader_node dc_is_reader_node pm_is_reader_node an_is_reader_node cd_is_reader_node ct_is_reader_node), sl_is_reader_node⟩)
    (c_is_reader_node : PySem.W.codeIn K cd_is_reader_node "is_reader_node" = true)
    (k_is_reader_node : PySem.W.keepIn K (.ref a_is_reader_node) = true)
    (m_is_letters : PySem.W.nsIn K mainGlobals "is_letters" = some (some (.ref a_is_letters)))
    (l_is_letters : K.lookup a_is_letters = some ⟨oc_is_letters, od_is_letters, .func (PySem.W.fnOf "is_letters" "is_letters" (defArgs s_is_letters) (defBody s_is_letters) (defScope s_is_letters) .none kV_is_letters dc_is_letters pm_is_letters an_is_letters cd_is_letters ct_is_letters), sl_is_letters⟩)
    (c_is_letters : PySem.W.codeIn K cd_is_letters "is_letters" = true)
    (k_is_letters : PySem.W.keepIn K (.ref a_is_letters) = true)
    (m_Reader_init : PySem.W.findIn K (.ref C_Reader) "__init__" = some (some (.ref a_Reader_init)))
    (i_Reader_init : PySem.W.isFn K (.ref a_Reader_init) = true)
    (l_Reader_init : K.lookup a_Reader_init = some ⟨oc_Reader_init, od_Reader_init, .func (PySem.W.fnOf "__init__" "Reader.__init__" (defArgs s_Reader_init) (defBody s_Reader_init) (defScope s_Reader_init) .none kV_Reader_init dc_Reader_init pm_Reader_init an_Reader_init cd_Reader_init ct_Reader_init), sl_Reader_init⟩)
    (c_Reader_init : PySem.W.codeIn K cd_Reader_init "Reader.__init__" = true)
    (k_Reader_init : PySem.W.keepIn K (.ref a_Reader_init) = true)
    (m__law_heard : PySem.W.nsIn K mainGlobals "_law_heard" = some (some (.ref a__law_heard)))
    (l__law_heard : K.lookup a__law_heard = some ⟨oc__law_heard, od__law_heard, .func (PySem.W.fnOf "_law_heard" "_law_heard" (defArgs s__law_heard) (defBody s__law_heard) (defScope s__law_heard) .none kV__law_heard dc__law_heard pm__law_heard an__law_heard cd__law_heard ct__law_heard), sl__law_heard⟩)
    (c__law_heard : PySem.W.codeIn K cd__law_heard "_law_heard" = true)
    (k__law_heard : PySem.W.keepIn K (.ref a__law_heard) = true)
    (m__law_draw : PySem.W.nsIn K mainGlobals "_law_draw" = some (some (.ref a__law_draw)))
    (l__law_draw : K.lookup a__law_draw = some ⟨oc__law_draw, od__law_draw, .func (PySem.W.fnOf "_law_draw" "_law_draw" (defArgs s__law_draw) (defBody s__law_draw) (defScope s__law_draw) .none kV__law_draw dc__law_draw pm__law_draw an__law_draw cd__law_draw ct__law_draw), sl__law_draw⟩)
    (c__law_draw : PySem.W.codeIn K cd__law_draw "_law_draw" = true)
    (k__law_draw : PySem.W.keepIn K (.ref a__law_draw) = true)
    (m__law_pick : PySem.W.nsIn K mainGlobals "_law_pick" = some (some (.ref a__law_pick)))
    (l__law_pick : K.lookup a__law_pick = some ⟨oc__law_pick, od__law_pick, .func (PySem.W.fnOf "_law_pick" "_law_pick" (defArgs s__law_pick) (defBody s__law_pick) (defScope s__law_pick) .none kV__law_pick dc__law_pick pm__law_pick an__law_pick cd__law_pick ct__law_pick), sl__law_pick⟩)
    (c__law_pick : PySem.W.codeIn K cd__law_pick "_law_pick" = true)
    (k__law_pick : PySem.W.keepIn K (.ref a__law_pick) = true)
    (m__law_made : PySem.W.nsIn K mainGlobals "_law_made" = some (some (.ref a__law_made)))
    (l__law_made : K.lookup a__law_made = some ⟨oc__law_made, od__law_made, .func (PySem.W.fnOf "_law_made" "_law_made" (defArgs s__law_made) (defBody s__law_made) (defScope s__law_made) .none kV__law_made dc__law_made pm__law_made an__law_made cd__law_made ct__law_made), sl__law_made⟩)
    (c__law_made : PySem.W.codeIn K cd__law_made "_law_made" = true)
    (k__law_made : PySem.W.keepIn K (.ref a__law_made) = true)
    (m__law_word : PySem.W.nsIn K mainGlobals "_law_word" = some (some (.ref a__law_word)))
    (l__law_word : K.lookup a__law_word = some ⟨oc__law_word, od__law_word, .func (PySem.W.fnOf "_law_word" "_law_word" (defArgs s__law_word) (defBody s__law_word) (defScope s__law_word) .none kV__law_word dc__law_word pm__law_word an__law_word cd__law_word ct__law_word), sl__law_word⟩)
    (c__law_word : PySem.W.codeIn K cd__law_word "_law_word" = true)
    (k__law_word : PySem.W.keepIn K (.ref a__law_word) = true)
    (m__law_web_right : PySem.W.nsIn K mainGlobals "_law_web_right" = some (some (.ref a__law_web_right)))
    (l__law_web_right : K.lookup a__law_web_right = some ⟨oc__law_web_right, od__law_web_right, .func (PySem.W.fnOf "_law_web_right" "_law_web_right" (defArgs s__law_web_right) (defBody s__law_web_right) (defScope s__law_web_right) .none kV__law_web_right dc__law_web_right pm__law_web_right an__law_web_right cd__law_web_right ct__law_web_right), sl__law_web_right⟩)
    (c__law_web_right : PySem.W.codeIn K cd__law_web_right "_law_web_right" = true)
    (k__law_web_right : PySem.W.keepIn K (.ref a__law_web_right) = true)
    (m__law_nodes : PySem.W.nsIn K mainGlobals "_law_nodes" = some (some (.ref a__law_nodes)))
    (l__law_nodes : K.lookup a__law_nodes = some ⟨oc__law_nodes, od__law_nodes, .func (PySem.W.fnOf "_law_nodes" "_law_nodes" (defArgs s__law_nodes) (defBody s__law_nodes) (defScope s__law_nodes) .none kV__law_nodes dc__law_nodes pm__law_nodes an__law_nodes cd__law_nodes ct__law_nodes), sl__law_nodes⟩)
    (c__law_nodes : PySem.W.codeIn K cd__law_nodes "_law_nodes" = true)
    (k__law_nodes : PySem.W.keepIn K (.ref a__law_nodes) = true)
    (m__law_deck : PySem.W.nsIn K mainGlobals "_law_deck" = some (some (.ref a__law_deck)))
    (l__law_deck : K.lookup a__law_deck = some ⟨oc__law_deck, od__law_deck, .func (PySem.W.fnOf "_law_deck" "_law_deck" (defArgs s__law_deck) (defBody s__law_deck) (defScope s__law_deck) .none kV__law_deck dc__law_deck pm__law_deck an__law_deck cd__law_deck ct__law_deck), sl__law_deck⟩)
    (c__law_deck : PySem.W.codeIn K cd__law_deck "_law_deck" = true)
    (k__law_deck : PySem.W.keepIn K (.ref a__law_deck) = true)
    (m_law : PySem.W.nsIn K mainGlobals "law" = some (some (.ref a_law)))
    (l_law : K.lookup a_law = some ⟨oc_law, od_law, .func (PySem.W.fnOf "law" "law" (defArgs s_law) (defBody s_law) (defScope s_law) .none kV_law dc_law pm_law an_law cd_law ct_law), sl_law⟩)
    (c_law : PySem.W.codeIn K cd_law "law" = true)
    (k_law : PySem.W.keepIn K (.ref a_law) = true)
    (n_all : PySem.W.nsIn K mainGlobals "all" = some none)
    (n_bool : PySem.W.nsIn K mainGlobals "bool" = some none)
    (n_enumerate : PySem.W.nsIn K mainGlobals "enumerate" = some none)
    (n_int : PySem.W.nsIn K mainGlobals "int" = some none)
    (n_isinstance : PySem.W.nsIn K mainGlobals "isinstance" = some none)
    (n_len : PySem.W.nsIn K mainGlobals "len" = some none)
    (n_list : PySem.W.nsIn K mainGlobals "list" = some none)
    (n_range : PySem.W.nsIn K mainGlobals "range" = some none)
    (n_repr : PySem.W.nsIn K mainGlobals "repr" = some none)
    (n_str : PySem.W.nsIn K mainGlobals "str" = some none)
    (n_tuple : PySem.W.nsIn K mainGlobals "tuple" = some none)
    (n_zip : PySem.W.nsIn K mainGlobals "zip" = some none)
    (c_ALPHABET : PySem.W.nsIn K mainGlobals "ALPHABET" = some (some (Value.str "abcdefghijklmnopqrstuvwxyz" t_ALPHABET)))
    (c_NONE : PySem.W.nsIn K mainGlobals "NONE" = some (some (Value.str "none" t_NONE)))
    (c_PAIR : PySem.W.nsIn K mainGlobals "PAIR" = some (some (Value.int 2 t_PAIR)))
    (c_READS : PySem.W.nsIn K mainGlobals "READS" = some (some (Value.str "reads" t_READS)))
    (c_STOPS : PySem.W.nsIn K mainGlobals "STOPS" = some (some (Value.str "stops" t_STOPS)))
    (pg_Reader : PySem.W.plainGet K C_Reader Str.empty = true)
    (hd_Reader : PySem.W.hasDictIn K C_Reader = true)
    (po_Reader : PySem.W.plainOver K C_Reader = true)
    (sa_Reader : PySem.W.findIn K (.ref C_Reader) "__setattr__" = some (some (.builtin "object.__setattr__")))
    (ha_Reader : PySem.W.findIn K (.ref C_Reader) "__class__" = some (some (.builtin "object.__class__")))
    (hm_Reader : PySem.W.mroIn K C_Reader (.type "object") = some true)
    (mk_Reader : PySem.W.makesIn K C_Reader = true)
    (kc_Reader : PySem.W.keepIn K (.ref C_Reader) = true)
    (it_Reader_int : PySem.W.subIn K (.ref C_Reader) (.type "int") = some false)
    (ti_Reader_int : PySem.W.subIn K (.type "int") (.ref C_Reader) = some false)
    (it_Reader_str : PySem.W.subIn K (.ref C_Reader) (.type "str") = some false)
    (ti_Reader_str : PySem.W.subIn K (.type "str") (.ref C_Reader) = some false)
    (it_Reader_bool : PySem.W.subIn K (.ref C_Reader) (.type "bool") = some false)
    (ti_Reader_bool : PySem.W.subIn K (.type "bool") (.ref C_Reader) = some false)
    (it_Reader_tuple : PySem.W.subIn K (.ref C_Reader) (.type "tuple") = some false)
    (ti_Reader_tuple : PySem.W.subIn K (.type "tuple") (.ref C_Reader) = some false)
    (it_Reader_list : PySem.W.subIn K (.ref C_Reader) (.type "list") = some false)
    (ti_Reader_list : PySem.W.subIn K (.type "list") (.ref C_Reader) = some false)
    (it_Reader_dict : PySem.W.subIn K (.ref C_Reader) (.type "dict") = some false)
    (ti_Reader_dict : PySem.W.subIn K (.type "dict") (.ref C_Reader) = some false)
    (it_Reader_NoneType : PySem.W.subIn K (.ref C_Reader) (.type "NoneType") = some false)
    (ti_Reader_NoneType : PySem.W.subIn K (.type "NoneType") (.ref C_Reader) = some false)
    (o_hn : PySem.W.specialIn K (.builtin "object.__class__") "__get__" = some (some (.builtin "getset_descriptor.__get__")))
    (o_ht : PySem.W.takesIn K (.builtin "object.__class__") = some true)
    (na_Reader_letters : PySem.W.findIn K (.ref C_Reader) "letters" = some none)
    (na_Reader_nodes : PySem.W.findIn K (.ref C_Reader) "nodes" = some none)
    (xL_BadReader : K.lookup C_BadReader = some (excClassObj nm_BadReader q_BadReader C_BadReader N_BadReader bs_BadReader bm_BadReader true sn_BadReader sub_BadReader ab_BadReader col_BadReader dd_BadReader x0_BadReader x1_BadReader x2_BadReader x3_BadReader x5_BadReader "Exception.__new__"))
    (xt_BadReader : PySem.W.excTail PySem.ESX.exTail bm_BadReader = true)
    (xa_BadReader : PySem.W.alongIn K "__init__" bm_BadReader = some (some (.builtin "Exception.__init__")))
    (sa_BadReader : PySem.W.findIn K (.ref C_BadReader) "__setattr__" = some (some (.builtin "object.__setattr__")))
    (iC_BadReader : PySem.W.findIn K (.ref C_BadReader) "__init__" = some (some (.ref f_BadReader)))
    (tI_BadReader : PySem.W.typeIn K (.ref f_BadReader) = some (.type "function"))
    (kC_BadReader : PySem.W.keepIn K (.ref C_BadReader) = true)
    (ex_BadReader : PySem.W.subIn K (.ref C_BadReader) (.type "BaseException") = some true)
    (ty_BadReader : PySem.W.typeIn K (.ref C_BadReader) = some (.type "type"))
    (nf_BadReader_part : PySem.W.takerIn K C_BadReader "part" = some none)
    (l_BadReader : K.lookup f_BadReader = some ⟨oc_BadReader, od_BadReader, .func (PySem.W.ksFn "__init__" "BadReader.__init__" (defArgs s_BadReader) (defBody s_BadReader) (defScope s_BadReader) .none .none dc_BadReader pm_BadReader an_BadReader (.ref cda_BadReader) ct_BadReader cc_BadReader), sl_BadReader⟩)
    (c_BadReader : PySem.W.codeIn K (.ref cda_BadReader) "BadReader.__init__" = true)
    (cc_BadReader_ : K.lookup cc_BadReader = some ⟨cl_BadReader, cld_BadReader, .cell (some (.ref C_BadReader)), csl_BadReader⟩)
    (cd_BadReader_ : K.lookup cda_BadReader = some ⟨ccl_BadReader, cdd_BadReader, .fields vs_BadReader, ccs_BadReader⟩)
    (vf_BadReader : vs_BadReader[2]? = some (.str "/claim/cut.py" tf_BadReader))
    (xL_BadWeb : K.lookup C_BadWeb = some (excClassObj nm_BadWeb q_BadWeb C_BadWeb N_BadWeb bs_BadWeb bm_BadWeb true sn_BadWeb sub_BadWeb ab_BadWeb col_BadWeb dd_BadWeb x0_BadWeb x1_BadWeb x2_BadWeb x3_BadWeb x5_BadWeb "Exception.__new__"))
    (xt_BadWeb : PySem.W.excTail PySem.ESX.exTail bm_BadWeb = true)
    (xa_BadWeb : PySem.W.alongIn K "__init__" bm_BadWeb = some (some (.builtin "Exception.__init__")))
    (sa_BadWeb : PySem.W.findIn K (.ref C_BadWeb) "__setattr__" = some (some (.builtin "object.__setattr__")))
    (iC_BadWeb : PySem.W.findIn K (.ref C_BadWeb) "__init__" = some (some (.ref f_BadWeb)))
    (tI_BadWeb : PySem.W.typeIn K (.ref f_BadWeb) = some (.type "function"))
    (kC_BadWeb : PySem.W.keepIn K (.ref C_BadWeb) = true)
    (ex_BadWeb : PySem.W.subIn K (.ref C_BadWeb) (.type "BaseException") = some true)
    (ty_BadWeb : PySem.W.typeIn K (.ref C_BadWeb) = some (.type "type"))
    (nf_BadWeb_thing : PySem.W.takerIn K C_BadWeb "thing" = some none)
    (l_BadWeb : K.lookup f_BadWeb = some ⟨oc_BadWeb, od_BadWeb, .func (PySem.W.ksFn "__init__" "BadWeb.__init__" (defArgs s_BadWeb) (defBody s_BadWeb) (defScope s_BadWeb) .none .none dc_BadWeb pm_BadWeb an_BadWeb (.ref cda_BadWeb) ct_BadWeb cc_BadWeb), sl_BadWeb⟩)
    (c_BadWeb : PySem.W.codeIn K (.ref cda_BadWeb) "BadWeb.__init__" = true)
    (cc_BadWeb_ : K.lookup cc_BadWeb = some ⟨cl_BadWeb, cld_BadWeb, .cell (some (.ref C_BadWeb)), csl_BadWeb⟩)
    (cd_BadWeb_ : K.lookup cda_BadWeb = some ⟨ccl_BadWeb, cdd_BadWeb, .fields vs_BadWeb, ccs_BadWeb⟩)
    (vf_BadWeb : vs_BadWeb[2]? = some (.str "/claim/cut.py" tf_BadWeb))
    (o_opq : PySem.W.nsIn K cStatics "thirdparty.any" = some none)
    (n_super : PySem.W.nsIn K mainGlobals "super" = some none)
    (xm_BadReader_BadWeb : PySem.W.subIn K (.ref C_BadReader) (.ref C_BadWeb) = some false)
    (xm_BadWeb_BadWeb : PySem.W.subIn K (.ref C_BadWeb) (.ref C_BadWeb) = some true)
    (xg_BadWeb : PySem.W.findIn K (.ref C_BadWeb) "__getattribute__" = some (some (.builtin "BaseException.__getattribute__")))
    (xh_BadWeb : PySem.W.findIn K (.ref C_BadWeb) "__getattr__" = some none)
    (xd_BadWeb : PySem.W.hasDictIn K C_BadWeb = true)
    (xs_BadWeb : PySem.W.findIn K (.ref C_BadWeb) "__class__" = some (some (.builtin "object.__class__")))
    (xo_BadWeb : PySem.W.mroIn K C_BadWeb (.type "object") = some true)
    (xn_BadWeb_thing : PySem.W.findIn K (.ref C_BadWeb) "thing" = some none)
    (xk_BadWeb_MillError : PySem.W.subIn K (.ref C_BadWeb) (.ref C_MillError) = some true) :
    ∃ fd : FuncData, (∀ (s : Shared) (u : Value), BindsTo s fd ⟨[u], []⟩ [("script", u)]) ∧ ∀ base : Heap, K.In base → base.Ns mainGlobals mg → FnG PySem.Challenge.pw_millhands_k08_what_readers_make w K mg base (L2.CX PySem.Challenge.pw_millhands_k08_what_readers_make w) 6 fa fd ["script"] (spL K f_law) := by
  have hfa2 : a_law = fa := by
    have z := hfa.symm.trans (PySem.W.mg_of X G m_law)
    cases z
    rfl
  subst hfa2

  have T : Top PySem.Challenge.pw_millhands_k08_what_readers_make K mg (⟨t_ALPHABET, t_NONE, t_PAIR, t_READS, t_STOPS, a_is_web, (PySem.W.fnOf "is_web" "is_web" (defArgs s_is_web) (defBody s_is_web) (defScope s_is_web) .none kV_is_web dc_is_web pm_is_web an_is_web cd_is_web ct_is_web), a_Reader_way_of, (PySem.W.fnOf "way_of" "Reader.way_of" (defArgs s_Reader_way_of) (defBody s_Reader_way_of) (defScope s_Reader_way_of) .none kV_Reader_way_of dc_Reader_way_of pm_Reader_way_of an_Reader_way_of cd_Reader_way_of ct_Reader_way_of), a_Reader_made, (PySem.W.fnOf "made" "Reader.made" (defArgs s_Reader_made) (defBody s_Reader_made) (defScope s_Reader_made) .none kV_Reader_made dc_Reader_made pm_Reader_made an_Reader_made cd_Reader_made ct_Reader_made), a_Reader_read_of, (PySem.W.fnOf "read_of" "Reader.read_of" (defArgs s_Reader_read_of) (defBody s_Reader_read_of) (defScope s_Reader_read_of) .none kV_Reader_read_of dc_Reader_read_of pm_Reader_read_of an_Reader_read_of cd_Reader_read_of ct_Reader_read_of), a_is_integer, (PySem.W.fnOf "is_integer" "is_integer" (defArgs s_is_integer) (defBody s_is_integer) (defScope s_is_integer) .none kV_is_integer dc_is_integer pm_is_integer an_is_integer cd_is_integer ct_is_integer), a_are_numbers, (PySem.W.fnOf "are_numbers" "are_numbers" (defArgs s_are_numbers) (defBody s_are_numbers) (defScope s_are_numbers) .none kV_are_numbers dc_are_numbers pm_are_numbers an_are_numbers cd_are_numbers ct_are_numbers), a_is_reader_node, (PySem.W.fnOf "is_reader_node" "is_reader_node" (defArgs s_is_reader_node) (defBody s_is_reader_node) (defScope s_is_reader_node) .none kV_is_reader_node dc_is_reader_node pm_is_reader_node an_is_reader_node cd_is_reader_node ct_is_reader_node), a_is_letters, (PySem.W.fnOf "is_letters" "is_letters" (defArgs s_is_letters) (defBody s_is_letters) (defScope s_is_letters) .none kV_is_letters dc_is_letters pm_is_letters an_is_letters cd_is_letters ct_is_letters), a_Reader_init, (PySem.W.fnOf "__init__" "Reader.__init__" (defArgs s_Reader_init) (defBody s_Reader_init) (defScope s_Reader_init) .none kV_Reader_init dc_Reader_init pm_Reader_init an_Reader_init cd_Reader_init ct_Reader_init), a__law_heard, (PySem.W.fnOf "_law_heard" "_law_heard" (defArgs s__law_heard) (defBody s__law_heard) (defScope s__law_heard) .none kV__law_heard dc__law_heard pm__law_heard an__law_heard cd__law_heard ct__law_heard), a__law_draw, (PySem.W.fnOf "_law_draw" "_law_draw" (defArgs s__law_draw) (defBody s__law_draw) (defScope s__law_draw) .none kV__law_draw dc__law_draw pm__law_draw an__law_draw cd__law_draw ct__law_draw), a__law_pick, (PySem.W.fnOf "_law_pick" "_law_pick" (defArgs s__law_pick) (defBody s__law_pick) (defScope s__law_pick) .none kV__law_pick dc__law_pick pm__law_pick an__law_pick cd__law_pick ct__law_pick), a__law_made, (PySem.W.fnOf "_law_made" "_law_made" (defArgs s__law_made) (defBody s__law_made) (defScope s__law_made) .none kV__law_made dc__law_made pm__law_made an__law_made cd__law_made ct__law_made), a__law_word, (PySem.W.fnOf "_law_word" "_law_word" (defArgs s__law_word) (defBody s__law_word) (defScope s__law_word) .none kV__law_word dc__law_word pm__law_word an__law_word cd__law_word ct__law_word), a__law_web_right, (PySem.W.fnOf "_law_web_right" "_law_web_right" (defArgs s__law_web_right) (defBody s__law_web_right) (defScope s__law_web_right) .none kV__law_web_right dc__law_web_right pm__law_web_right an__law_web_right cd__law_web_right ct__law_web_right), a__law_nodes, (PySem.W.fnOf "_law_nodes" "_law_nodes" (defArgs s__law_nodes) (defBody s__law_nodes) (defScope s__law_nodes) .none kV__law_nodes dc__law_nodes pm__law_nodes an__law_nodes cd__law_nodes ct__law_nodes), a__law_deck, (PySem.W.fnOf "_law_deck" "_law_deck" (defArgs s__law_deck) (defBody s__law_deck) (defScope s__law_deck) .none kV__law_deck dc__law_deck pm__law_deck an__law_deck cd__law_deck ct__law_deck), a_law, (PySem.W.fnOf "law" "law" (defArgs s_law) (defBody s_law) (defScope s_law) .none kV_law dc_law pm_law an_law cd_law ct_law), C_Reader, C_MillError, C_BadText, C_BadWeb, C_BadReader⟩ : Ad) :=
    { d_is_web := ⟨fun_mk (st := s_is_web) l_is_web c_is_web k_is_web, PySem.W.mg_of X G m_is_web, fun s us hl => match us, hl with | [_, _], _ => .of_eq rfl⟩,
      d_Reader_way_of := ⟨fun_mk (st := s_Reader_way_of) l_Reader_way_of c_Reader_way_of k_Reader_way_of, fun s us hl => match us, hl with | [_, _], _ => .of_eq rfl⟩,
      d_Reader_made := ⟨fun_mk (st := s_Reader_made) l_Reader_made c_Reader_made k_Reader_made, fun s us hl => match us, hl with | [_, _], _ => .of_eq rfl⟩,
      d_Reader_read_of := ⟨fun_mk (st := s_Reader_read_of) l_Reader_read_of c_Reader_read_of k_Reader_read_of, fun s us hl => match us, hl with | [_, _], _ => .of_eq rfl⟩,
      d_is_integer := ⟨fun_mk (st := s_is_integer) l_is_integer c_is_integer k_is_integer, PySem.W.mg_of X G m_is_integer, fun s us hl => match us, hl with | [_], _ => .of_eq rfl⟩,
      d_are_numbers := ⟨fun_mk (st := s_are_numbers) l_are_numbers c_are_numbers k_are_numbers, PySem.W.mg_of X G m_are_numbers, fun s us hl => match us, hl with | [_, _, _], _ => .of_eq rfl⟩,
      d_is_reader_node := ⟨fun_mk (st := s_is_reader_node) l_is_reader_node c_is_reader_node k_is_reader_node, PySem.W.mg_of X G m_is_reader_node, fun s us hl => match us, hl with | [_, _, _], _ => .of_eq rfl⟩,
      d_is_letters := ⟨fun_mk (st := s_is_letters) l_is_letters c_is_letters k_is_letters, PySem.W.mg_of X G m_is_letters, fun s us hl => match us, hl with | [_], _ => .of_eq rfl⟩,
      d_Reader_init := ⟨fun_mk (st := s_Reader_init) l_Reader_init c_Reader_init k_Reader_init, fun s us hl => match us, hl with | [_, _, _], _ => .of_eq rfl⟩,
      d__law_heard := ⟨fun_mk (st := s__law_heard) l__law_heard c__law_heard k__law_heard, PySem.W.mg_of X G m__law_heard, fun s us hl => match us, hl with | [_, _, _], _ => .of_eq rfl⟩,
      d__law_draw := ⟨fun_mk (st := s__law_draw) l__law_draw c__law_draw k__law_draw, PySem.W.mg_of X G m__law_draw, fun s us hl => match us, hl with | [_, _], _ => .of_eq rfl⟩,
      d__law_pick := ⟨fun_mk (st := s__law_pick) l__law_pick c__law_pick k__law_pick, PySem.W.mg_of X G m__law_pick, fun s us hl => match us, hl with | [_, _], _ => .of_eq rfl⟩,
      d__law_made := ⟨fun_mk (st := s__law_made) l__law_made c__law_made k__law_made, PySem.W.mg_of X G m__law_made, fun s us hl => match us, hl with | [_, _, _], _ => .of_eq rfl⟩,
      d__law_word := ⟨fun_mk (st := s__law_word) l__law_word c__law_word k__law_word, PySem.W.mg_of X G m__law_word, fun s us hl => match us, hl with | [_, _, _], _ => .of_eq rfl⟩,
      d__law_web_right := ⟨fun_mk (st := s__law_web_right) l__law_web_right c__law_web_right k__law_web_right, PySem.W.mg_of X G m__law_web_right, fun s us hl => match us, hl with | [_, _, _, _, _], _ => .of_eq rfl⟩,
      d__law_nodes := ⟨fun_mk (st := s__law_nodes) l__law_nodes c__law_nodes k__law_nodes, PySem.W.mg_of X G m__law_nodes, fun s us hl => match us, hl with | [_, _, _], _ => .of_eq rfl⟩,
      d__law_deck := ⟨fun_mk (st := s__law_deck) l__law_deck c__law_deck k__law_deck, PySem.W.mg_of X G m__law_deck, fun s us hl => match us, hl with | [_], _ => .of_eq rfl⟩,
      d_law := ⟨fun_mk (st := s_law) l_law c_law k_law, PySem.W.mg_of X G m_law, fun s us hl => match us, hl with | [_], _ => .of_eq rfl⟩,
      kw0_Reader_made := fun s us ws h1 h2 => match us, ws, h1, h2 with | [_], [_], _, _ => .of_eq rfl,
      kw1_Reader_read_of := fun s us ws h1 h2 => match us, ws, h1, h2 with | [_], [_], _, _ => .of_eq rfl,
      n_all := PySem.W.mg_none_of X G n_all,
      n_bool := PySem.W.mg_none_of X G n_bool,
      n_enumerate := PySem.W.mg_none_of X G n_enumerate,
      n_int := PySem.W.mg_none_of X G n_int,
      n_isinstance := PySem.W.mg_none_of X G n_isinstance,
      n_len := PySem.W.mg_none_of X G n_len,
      n_list := PySem.W.mg_none_of X G n_list,
      n_range := PySem.W.mg_none_of X G n_range,
      n_repr := PySem.W.mg_none_of X G n_repr,
      n_str := PySem.W.mg_none_of X G n_str,
      n_tuple := PySem.W.mg_none_of X G n_tuple,
      n_zip := PySem.W.mg_none_of X G n_zip,
      c_ALPHABET := PySem.W.mg_of X G c_ALPHABET,
      c_NONE := PySem.W.mg_of X G c_NONE,
      c_PAIR := PySem.W.mg_of X G c_PAIR,
      c_READS := PySem.W.mg_of X G c_READS,
      c_STOPS := PySem.W.mg_of X G c_STOPS,
      g_Reader := PySem.W.mg_of X G g_Reader,
      g_BadReader := PySem.W.mg_of X G g_BadReader,
      g_BadText := PySem.W.mg_of X G g_BadText,
      g_BadWeb := PySem.W.mg_of X G g_BadWeb,
      g_MillError := PySem.W.mg_of X G g_MillError,
      cl_Reader := ⟨pg_Reader, hd_Reader, po_Reader, sa_Reader⟩,
      in_Reader := ⟨⟨pg_Reader, hd_Reader, po_Reader, sa_Reader⟩, ha_Reader, o_hn, o_ht, hm_Reader⟩,
      mk_Reader := ⟨mk_Reader, m_Reader_init, i_Reader_init, kc_Reader⟩,
      m_Reader_made := ⟨m_Reader_made, i_Reader_made, k_Reader_made⟩,
      m_Reader_read_of := ⟨m_Reader_read_of, i_Reader_read_of, k_Reader_read_of⟩,
      m_Reader_way_of := ⟨m_Reader_way_of, i_Reader_way_of, k_Reader_way_of⟩,
      na_Reader_letters := na_Reader_letters,
      na_Reader_nodes := na_Reader_nodes,
      isi := isi_mk ic_Reader tc_Reader ss_Reader pg_Reader hd_Reader po_Reader sa_Reader ha_Reader hm_Reader it_Reader_int ti_Reader_int it_Reader_str ti_Reader_str it_Reader_bool ti_Reader_bool it_Reader_tuple ti_Reader_tuple it_Reader_list ti_Reader_list it_Reader_dict ti_Reader_dict it_Reader_NoneType ti_Reader_NoneType o_hn o_ht,
      e_BadReader := er_BadReader xL_BadReader xt_BadReader xa_BadReader sa_BadReader iC_BadReader tI_BadReader kC_BadReader ex_BadReader ty_BadReader nf_BadReader_part l_BadReader c_BadReader cc_BadReader_ cd_BadReader_ vf_BadReader o_opq (PySem.W.mg_none_of X G n_super),
      e_BadWeb := er_BadWeb xL_BadWeb xt_BadWeb xa_BadWeb sa_BadWeb iC_BadWeb tI_BadWeb kC_BadWeb ex_BadWeb ty_BadWeb nf_BadWeb_thing l_BadWeb c_BadWeb cc_BadWeb_ cd_BadWeb_ vf_BadWeb o_opq (PySem.W.mg_none_of X G n_super),
      xm_BadReader_BadWeb := exm_cls ex_BadWeb ic_BadWeb tc_BadWeb xm_BadReader_BadWeb,
      xm_BadWeb_BadWeb := exm_cls ex_BadWeb ic_BadWeb tc_BadWeb xm_BadWeb_BadWeb,
      xf_BadWeb := ⟨xg_BadWeb, xh_BadWeb, ex_BadWeb, xd_BadWeb⟩,
      xc_BadWeb := ⟨xg_BadWeb, xh_BadWeb, ex_BadWeb, xd_BadWeb, xs_BadWeb, o_hn, o_ht, xo_BadWeb⟩,
      xn_BadWeb_thing := xn_BadWeb_thing,
      xk_BadWeb_MillError := kit_cls ic_MillError tc_MillError xk_BadWeb_MillError (.inl rfl) }
  exact ⟨(PySem.W.fnOf "law" "law" (defArgs s_law) (defBody s_law) (defScope s_law) .none kV_law dc_law pm_law an_law cd_law ct_law), fun s u => .of_eq rfl, fun base _ _ => (ok_law (w := w) (base := base) T).weak fun vs H Q E z => z _⟩
end Toy
open PySem PySem.W PyProof.Rows
set_option maxRecDepth 100000 in
set_option maxHeartbeats 0 in
theorem PySem.Challenge.cw_millhands_k08_what_readers_make_holds : PySem.Challenge.rw_millhands_k08_what_readers_make.Holds := by
  w_on; o_law; k_head; (case hw => w_witness2)
  k_fill
  refine MH.walkL (l := PySem.Challenge.rw_millhands_k08_what_readers_make) (n := 63) (k := 6) (x := "script") (f := Toy.f_law) rfl (by decide) rfl MH.room_caller (fun w h Y => PySem.W.kIn_of Y) ?F Toy.law_true
  case F =>
    intro w mg fa h KX G hmg
    refine' Toy.all_mk KX G hmg ?g_Reader ?g_BadReader ?g_BadText ?g_BadWeb ?g_MillError ?ic_Reader ?tc_Reader ?ic_BadReader ?tc_BadReader ?ic_BadText ?tc_BadText ?ic_BadWeb ?tc_BadWeb ?ic_MillError ?tc_MillError ?ss_Reader ?m_is_web ?l_is_web ?c_is_web ?k_is_web ?m_Reader_way_of ?i_Reader_way_of ?l_Reader_way_of ?c_Reader_way_of ?k_Reader_way_of ?m_Reader_made ?i_Reader_made ?l_Reader_made ?c_Reader_made ?k_Reader_made ?m_Reader_read_of ?i_Reader_read_of ?l_Reader_read_of ?c_Reader_read_of ?k_Reader_read_of ?m_is_integer ?l_is_integer ?c_is_integer ?k_is_integer ?m_are_numbers ?l_are_numbers ?c_are_numbers ?k_are_numbers ?m_is_reader_node ?l_is_reader_node ?c_is_reader_node ?k_is_reader_node ?m_is_letters ?l_is_letters ?c_is_letters ?k_is_letters ?m_Reader_init ?i_Reader_init ?l_Reader_init ?c_Reader_init ?k_Reader_init ?m__law_heard ?l__law_heard ?c__law_heard ?k__law_heard ?m__law_draw ?l__law_draw ?c__law_draw ?k__law_draw ?m__law_pick ?l__law_pick ?c__law_pick ?k__law_pick ?m__law_made ?l__law_made ?c__law_made ?k__law_made ?m__law_word ?l__law_word ?c__law_word ?k__law_word ?m__law_web_right ?l__law_web_right ?c__law_web_right ?k__law_web_right ?m__law_nodes ?l__law_nodes ?c__law_nodes ?k__law_nodes ?m__law_deck ?l__law_deck ?c__law_deck ?k__law_deck ?m_law ?l_law ?c_law ?k_law ?n_all ?n_bool ?n_enumerate ?n_int ?n_isinstance ?n_len ?n_list ?n_range ?n_repr ?n_str ?n_tuple ?n_zip ?c_ALPHABET ?c_NONE ?c_PAIR ?c_READS ?c_STOPS ?pg_Reader ?hd_Reader ?po_Reader ?sa_Reader ?ha_Reader ?hm_Reader ?mk_Reader ?kc_Reader ?it_Reader_int ?ti_Reader_int ?it_Reader_str ?ti_Reader_str ?it_Reader_bool ?ti_Reader_bool ?it_Reader_tuple ?ti_Reader_tuple ?it_Reader_list ?ti_Reader_list ?it_Reader_dict ?ti_Reader_dict ?it_Reader_NoneType ?ti_Reader_NoneType ?o_hn ?o_ht ?na_Reader_letters ?na_Reader_nodes ?xL_BadReader ?xt_BadReader ?xa_BadReader ?sa_BadReader ?iC_BadReader ?tI_BadReader ?kC_BadReader ?ex_BadReader ?ty_BadReader ?nf_BadReader_part ?l_BadReader ?c_BadReader ?cc_BadReader_ ?cd_BadReader_ ?vf_BadReader ?xL_BadWeb ?xt_BadWeb ?xa_BadWeb ?sa_BadWeb ?iC_BadWeb ?tI_BadWeb ?kC_BadWeb ?ex_BadWeb ?ty_BadWeb ?nf_BadWeb_thing ?l_BadWeb ?c_BadWeb ?cc_BadWeb_ ?cd_BadWeb_ ?vf_BadWeb ?o_opq ?n_super ?xm_BadReader_BadWeb ?xm_BadWeb_BadWeb ?xg_BadWeb ?xh_BadWeb ?xd_BadWeb ?xs_BadWeb ?xo_BadWeb ?xn_BadWeb_thing ?xk_BadWeb_MillError
    (case g_Reader => k_is)
    (case g_BadReader => k_is)
    (case g_BadText => k_is)
    (case g_BadWeb => k_is)
    (case g_MillError => k_is)
    (case ic_Reader => k_is)
    (case tc_Reader => k_is)
    (case ic_BadReader => k_is)
    (case tc_BadReader => k_is)
    (case ic_BadText => k_is)
    (case tc_BadText => k_is)
    (case ic_BadWeb => k_is)
    (case tc_BadWeb => k_is)
    (case ic_MillError => k_is)
    (case tc_MillError => k_is)
    (case ss_Reader => k_is)
    (case m_is_web => k_is)
    (case l_is_web => k_is)
    (case c_is_web => k_is)
    (case k_is_web => k_is)
    (case m_Reader_way_of => k_is)
    (case i_Reader_way_of => k_is)
    (case l_Reader_way_of => k_is)
    (case c_Reader_way_of => k_is)
    (case k_Reader_way_of => k_is)
    (case m_Reader_made => k_is)
    (case i_Reader_made => k_is)
    (case l_Reader_made => k_is)
    (case c_Reader_made => k_is)
    (case k_Reader_made => k_is)
    (case m_Reader_read_of => k_is)
    (case i_Reader_read_of => k_is)
    (case l_Reader_read_of => k_is)
    (case c_Reader_read_of => k_is)
    (case k_Reader_read_of => k_is)
    (case m_is_integer => k_is)
    (case l_is_integer => k_is)
    (case c_is_integer => k_is)
    (case k_is_integer => k_is)
    (case m_are_numbers => k_is)
    (case l_are_numbers => k_is)
    (case c_are_numbers => k_is)
    (case k_are_numbers => k_is)
    (case m_is_reader_node => k_is)
    (case l_is_reader_node => k_is)
    (case c_is_reader_node => k_is)
    (case k_is_reader_node => k_is)
    (case m_is_letters => k_is)
    (case l_is_letters => k_is)
    (case c_is_letters => k_is)
    (case k_is_letters => k_is)
    (case m_Reader_init => k_is)
    (case i_Reader_init => k_is)
    (case l_Reader_init => k_is)
    (case c_Reader_init => k_is)
    (case k_Reader_init => k_is)
    (case m__law_heard => k_is)
    (case l__law_heard => k_is)
    (case c__law_heard => k_is)
    (case k__law_heard => k_is)
    (case m__law_draw => k_is)
    (case l__law_draw => k_is)
    (case c__law_draw => k_is)
    (case k__law_draw => k_is)
    (case m__law_pick => k_is)
    (case l__law_pick => k_is)
    (case c__law_pick => k_is)
    (case k__law_pick => k_is)
    (case m__law_made => k_is)
    (case l__law_made => k_is)
    (case c__law_made => k_is)
    (case k__law_made => k_is)
    (case m__law_word => k_is)
    (case l__law_word => k_is)
    (case c__law_word => k_is)
    (case k__law_word => k_is)
    (case m__law_web_right => k_is)
    (case l__law_web_right => k_is)
    (case c__law_web_right => k_is)
    (case k__law_web_right => k_is)
    (case m__law_nodes => k_is)
    (case l__law_nodes => k_is)
    (case c__law_nodes => k_is)
    (case k__law_nodes => k_is)
    (case m__law_deck => k_is)
    (case l__law_deck => k_is)
    (case c__law_deck => k_is)
    (case k__law_deck => k_is)
    (case m_law => k_is)
    (case l_law => k_is)
    (case c_law => k_is)
    (case k_law => k_is)
    (case n_all => k_is)
    (case n_bool => k_is)
    (case n_enumerate => k_is)
    (case n_int => k_is)
    (case n_isinstance => k_is)
    (case n_len => k_is)
    (case n_list => k_is)
    (case n_range => k_is)
    (case n_repr => k_is)
    (case n_str => k_is)
    (case n_tuple => k_is)
    (case n_zip => k_is)
    (case c_ALPHABET => k_is)
    (case c_NONE => k_is)
    (case c_PAIR => k_is)
    (case c_READS => k_is)
    (case c_STOPS => k_is)
    (case pg_Reader => k_is)
    (case hd_Reader => k_is)
    (case po_Reader => k_is)
    (case sa_Reader => k_is)
    (case ha_Reader => k_is)
    (case hm_Reader => k_is)
    (case mk_Reader => k_is)
    (case kc_Reader => k_is)
    (case it_Reader_int => k_is)
    (case ti_Reader_int => k_is)
    (case it_Reader_str => k_is)
    (case ti_Reader_str => k_is)
    (case it_Reader_bool => k_is)
    (case ti_Reader_bool => k_is)
    (case it_Reader_tuple => k_is)
    (case ti_Reader_tuple => k_is)
    (case it_Reader_list => k_is)
    (case ti_Reader_list => k_is)
    (case it_Reader_dict => k_is)
    (case ti_Reader_dict => k_is)
    (case it_Reader_NoneType => k_is)
    (case ti_Reader_NoneType => k_is)
    (case o_hn => k_is)
    (case o_ht => k_is)
    (case na_Reader_letters => k_is)
    (case na_Reader_nodes => k_is)
    (case xL_BadReader => k_is)
    (case xt_BadReader => first | rfl | decide +kernel | k_is)
    (case xa_BadReader => first | exact rfl | decide +kernel | k_is)
    (case sa_BadReader => k_is)
    (case iC_BadReader => k_is)
    (case tI_BadReader => k_is)
    (case kC_BadReader => k_is)
    (case ex_BadReader => k_is)
    (case ty_BadReader => k_is)
    (case nf_BadReader_part => k_is)
    (case l_BadReader => k_is)
    (case c_BadReader => k_is)
    (case cc_BadReader_ => k_is)
    (case cd_BadReader_ => k_is)
    (case vf_BadReader => exact rfl)
    (case xL_BadWeb => k_is)
    (case xt_BadWeb => first | rfl | decide +kernel | k_is)
    (case xa_BadWeb => first | exact rfl | decide +kernel | k_is)
    (case sa_BadWeb => k_is)
    (case iC_BadWeb => k_is)
    (case tI_BadWeb => k_is)
    (case kC_BadWeb => k_is)
    (case ex_BadWeb => k_is)
    (case ty_BadWeb => k_is)
    (case nf_BadWeb_thing => k_is)
    (case l_BadWeb => k_is)
    (case c_BadWeb => k_is)
    (case cc_BadWeb_ => k_is)
    (case cd_BadWeb_ => k_is)
    (case vf_BadWeb => exact rfl)
    (case o_opq => k_is)
    (case n_super => k_is)
    (case xm_BadReader_BadWeb => k_is)
    (case xm_BadWeb_BadWeb => k_is)
    (case xg_BadWeb => k_is)
    (case xh_BadWeb => k_is)
    (case xd_BadWeb => k_is)
    (case xs_BadWeb => k_is)
    (case xo_BadWeb => k_is)
    (case xn_BadWeb_thing => k_is)
    (case xk_BadWeb_MillError => k_is)
